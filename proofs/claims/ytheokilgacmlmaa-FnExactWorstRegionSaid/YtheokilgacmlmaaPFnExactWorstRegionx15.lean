-- written by wip/xprint.py, a program of this session, for this claim; not trusted: Lean checks it.
import Derived.Shelf.SortM.Plain
import Derived.Shelf.SortM.SortNone
import Derived.Shelf.SlicesG.CompactI
import Derived.Sort.OwnSortedInts
import Derived.Test.YtheokilgacmlmaaPFnExactWorstRegionx0
namespace Go.Proofs.Ytheokilgacmlmaa.PFnExactWorstRegion
open Go.RowKit Go.Proofs.YtheokilgacmlmaaW.PrintWords Go.Proofs.YtheokilgacmlmaaW.PrintLast Go.Proofs.YtheokilgacmlmaaW.PrintMore
attribute [local go_sem] leq_less_ max2_int min2_int max_two min_two max_three min_three max_four min_four   -- for this text's walks alone
set_option linter.unusedVariables false
set_option linter.unusedSimpArgs false

/-! ### slices_Index_int64_int64: function 103 -/
def slices_Index_int64_int64.l0 : Nat → List Int → Int → Int → Int → Option (Int)
 | 0, _, _, _, _ => none
 | k + 1, x0, x1, x7, x8 => if x8 < x7 then (if 0 ≤ x8 then (if x8 < (x0.length : Int) then (if x1 = (rd x0 x8) then (some x8) else (slices_Index_int64_int64.l0 k x0 x1 x7 (wrap64 (x8 + 1)))) else (none)) else (none)) else (some (-1))
def slices_Index_int64_int64.f (k : Nat) (l0 : List Int) (a1 : Int) : Option (Int) := slices_Index_int64_int64.l0 k l0 a1 (l0.length : Int) 0
theorem slices_Index_int64_int64.mono_l : ∀ k, (∀ y0 y1 y2 y3, LeO (slices_Index_int64_int64.l0 k y0 y1 y2 y3) (slices_Index_int64_int64.l0 (k + 1) y0 y1 y2 y3))
 | 0 => fun _ _ _ _ r h => by simp [slices_Index_int64_int64.l0] at h
 | k + 1 => by
  have ih0 := slices_Index_int64_int64.mono_l k
  ·intro y0 y1 y2 y3
   unfold slices_Index_int64_int64.l0
   repeat' first
   | (with_reducible exact ih0 _ _ _ _)
   | (with_reducible exact LeO.refl _)
   | (with_reducible exact LeO.none _)
   | (with_reducible refine LeO.ite ?_ ?_)
   | (with_reducible refine LeO.bind ?_ (fun _ => ?_))
theorem slices_Index_int64_int64.mono : ∀ a0 a1 k, LeO (slices_Index_int64_int64.f k a0 a1) (slices_Index_int64_int64.f (k + 1) a0 a1) := by
 intro a0 a1 k; have ih0 := slices_Index_int64_int64.mono_l k; unfold slices_Index_int64_int64.f
 repeat' first
   | (with_reducible exact ih0 _ _ _ _)
   | (with_reducible exact LeO.refl _)
   | (with_reducible exact LeO.none _)
   | (with_reducible refine LeO.ite ?_ ?_)
   | (with_reducible refine LeO.bind ?_ (fun _ => ?_))
set_option maxHeartbeats 8000000 in
set_option maxRecDepth 100000 in
theorem slices_Index_int64_int64.calls (k : Nat) (A0 : Option Addr) (c0 : Nat) (l0 : List Int) (a1 : Int) (r : Int) (w : World) (hr0 : Kd.C (Kd.int .i64) w A0 l0.length l0) (hc0 : l0.length ≤ c0) (h : slices_Index_int64_int64.f k l0 a1 = some r) :
  Calls Try.prog 103 #[.slice A0 l0.length c0, .int .i64 a1] w fun e w' => e = .returned (.int .i64 r) ∧ Drawn0 w w' := by
 have HR0 := a_ hr0; have HC0 := a_ hc0; clear hr0 hc0; have H : (slices_Index_int64_int64.l0 k l0 a1 (l0.length : Int) 0) = some r := h; clear h; have H' := a_ H; clear H; go_enter Try.func103, Try.ntmps103; go_wp2; go_loopg [8] k (fun kq v8 w' => ∃ (x8_1 : Int), v8 = .int .i64 x8_1 ∧ Aside0 (slices_Index_int64_int64.l0 kq l0 a1 (l0.length : Int) x8_1 = some r) ∧ Aside0 (kq ≤ k) ∧ Drawn0 w w')
 case atStart => exact ⟨(0), t4_, H', ⟨Nat.le_refl _⟩, t14_⟩
 case round =>
  clear H'; (try clear c1); (try clear p2); obtain ⟨x8_1, rfl, HA, HK1, ⟨m1, rfl⟩⟩ := hrel; cases gk with
  | zero => exact absurd HA.out (by simp [slices_Index_int64_int64.l0])
  | succ k1 =>
   have H := HA.out; clear HA; simp only [slices_Index_int64_int64.l0] at H; by_cases c3 : x8_1 < (l0.length : Int)
   ·rw [if_pos c3] at H; have c3b0 : decide (x8_1 < (l0.length : Int)) = true := d1_ c3; clear c3; by_cases c4 : 0 ≤ x8_1
    ·rw [if_pos c4] at H; have c4b0 : decide (0 ≤ x8_1) = true := d1_ c4; clear c4; by_cases c5 : x8_1 < (l0.length : Int)
     ·rw [if_pos c5] at H; have c5b0 : decide (x8_1 < (l0.length : Int)) = true := d1_ c5; clear c5; by_cases c6 : a1 = (rd l0 x8_1)
      ·rw [if_pos c6] at H; have c6b0 : (a1 == (rd l0 x8_1)) = true := b1_ c6; have c6b1 : (a1 != (rd l0 x8_1)) = false := b4_ c6; clear c6; obtain rfl := Option.some.inj H; have p318 : 0 ≤ (x8_1 : Int) := od_; have q318 : x8_1 < (l0.length : Int) := od_; obtain ⟨ad318, e318, hx318_0⟩ := Kd.at_int HR0.out x8_1 p318 q318; cases e318; replace p318 := eq_true p318; replace q318 := eq_true q318; go_wp2; go_ret
       exact ⟨t4_, t14_⟩
      ·rw [if_neg c6] at H; have c6b0 : (a1 == (rd l0 x8_1)) = false := b2_ c6; have c6b1 : (a1 != (rd l0 x8_1)) = true := b3_ c6; have H' := a_ H; clear H; have p318 : 0 ≤ (x8_1 : Int) := od_; have q318 : x8_1 < (l0.length : Int) := od_; obtain ⟨ad318, e318, hx318_0⟩ := Kd.at_int HR0.out x8_1 p318 q318; cases e318; replace p318 := eq_true p318; replace q318 := eq_true q318; go_wp2; go_roundg k1
       case measure => have := HK1.out; omega
       case rel => exact ⟨(wrap64 (x8_1 + 1)), t4_, H', ⟨t52_⟩, t14_⟩
     ·rw [if_neg c5] at H; exact absurd H t57_
    ·rw [if_neg c4] at H; exact absurd H t57_
   ·rw [if_neg c3] at H; have c3b0 : decide (x8_1 < (l0.length : Int)) = false := d2_ c3; clear c3; obtain rfl := Option.some.inj H; go_wp2; go_ret
    exact ⟨t4_, t14_⟩

/-! ### slices_Contains_int64_int64: function 71 -/
def slices_Contains_int64_int64.f (k : Nat) (l0 : List Int) (a1 : Int) : Option (Bool) := (slices_Index_int64_int64.f k l0 a1).bind fun t319 => (some (decide (t319 ≥ 0)))
theorem slices_Contains_int64_int64.mono : ∀ a0 a1 k, LeO (slices_Contains_int64_int64.f k a0 a1) (slices_Contains_int64_int64.f (k + 1) a0 a1) := by
 intro a0 a1 k; unfold slices_Contains_int64_int64.f
 repeat' first
   | (with_reducible exact slices_Index_int64_int64.mono _ _ _)
   | (with_reducible exact LeO.refl _)
   | (with_reducible exact LeO.none _)
   | (with_reducible refine LeO.ite ?_ ?_)
   | (with_reducible refine LeO.bind ?_ (fun _ => ?_))
set_option maxHeartbeats 8000000 in
set_option maxRecDepth 100000 in
theorem slices_Contains_int64_int64.calls (k : Nat) (A0 : Option Addr) (c0 : Nat) (l0 : List Int) (a1 : Int) (r : Bool) (w : World) (hr0 : Kd.C (Kd.int .i64) w A0 l0.length l0) (hc0 : l0.length ≤ c0) (h : slices_Contains_int64_int64.f k l0 a1 = some r) :
  Calls Try.prog 71 #[.slice A0 l0.length c0, .int .i64 a1] w fun e w' => e = .returned (.bool r) ∧ Drawn0 w w' := by
 have HR0 := a_ hr0; have HC0 := a_ hc0; clear hr0 hc0; have H : ((slices_Index_int64_int64.f k l0 a1).bind fun t319 => (some (decide (t319 ≥ 0)))) = some r := h; clear h; replace H := be_ H; obtain ⟨t319, A30, H⟩ := H; have A3 := a_ A30; clear A30; obtain rfl := Option.some.inj H; go_enter Try.func71, Try.ntmps71; go_wp2_with (first | ((with_reducible refine gate_callee (f := 103) rfl ?_); refine goesL_ (some 7) rfl rfl Try.func103 t13_ rfl #[.slice A0 l0.length c0, .int .i64 a1] rfl t2_ ?_; (with_reducible refine (slices_Index_int64_int64.calls k _ _ l0 a1 t319 _ ?side1 ?side2 A3.out).mono ?_); (case side1 => exact qc_ HR0.out); (case side2 => exact HC0.out); rintro e w' ⟨rfl, ⟨nd, rfl⟩⟩; refine ⟨_, rfl, ?_⟩)); go_ret
 exact ⟨t4_, t14_⟩

/-! ### impl_stands_1: function 108 -/
def impl_stands_1.f (a0_0 : ByteArray) (a0_1 : ByteArray) (a0_2 : Bool) (l1 : List ByteArray) (l2 : List Bool) : Option (Bool) := if 0 < (l1.length : Int) then (if a0_1.toList = (rdOf ByteArray.empty l1 0).toList then (if 0 < (l2.length : Int) then (some (a0_2 == (rdOf false l2 0))) else (none)) else (some false)) else (none)
set_option maxHeartbeats 8000000 in
set_option maxRecDepth 100000 in
theorem impl_stands_1.calls (a0_0 : ByteArray) (a0_1 : ByteArray) (a0_2 : Bool) (A1 : Option Addr) (c1 : Nat) (l1 : List ByteArray) (A2 : Option Addr) (c2 : Nat) (l2 : List Bool) (r : Bool) (w : World) (hr1 : Kd.C Kd.string w A1 l1.length l1) (hc1 : l1.length ≤ c1) (hr2 : Kd.C Kd.bool w A2 l2.length l2) (hc2 : l2.length ≤ c2) (h : impl_stands_1.f a0_0 a0_1 a0_2 l1 l2 = some r) :
  Calls Try.prog 108 #[.agg #[.string a0_0, .string a0_1, .bool a0_2], .pointer A1, .pointer A2] w fun e w' => e = .returned (.bool r) ∧ Below w.heap.size w w' := by
 have hu51 := Try.underlying51; have HR1 := a_ hr1; have HC1 := a_ hc1; clear hr1 hc1; have HR2 := a_ hr2; have HC2 := a_ hc2; clear hr2 hc2; have HB := a_ (Below.refl w.heap.size w); have H : (if 0 < (l1.length : Int) then (if a0_1.toList = (rdOf ByteArray.empty l1 0).toList then (if 0 < (l2.length : Int) then (some (a0_2 == (rdOf false l2 0))) else (none)) else (some false)) else (none)) = some r := h; clear h; by_cases c4 : 0 < (l1.length : Int)
 ·rw [if_pos c4] at H; have c4b0 : decide (0 < (l1.length : Int)) = true := d1_ c4; have c4b1 : decide (0 < l1.length) = true := decide_eq_true t24_; clear c4; by_cases c5 : a0_1.toList = (rdOf ByteArray.empty l1 0).toList
  ·rw [if_pos c5] at H; have c5b0 : (a0_1.toList == (rdOf ByteArray.empty l1 0).toList) = true := b1_ c5; have c5b1 : (a0_1.toList != (rdOf ByteArray.empty l1 0).toList) = false := b4_ c5; clear c5; by_cases c6 : 0 < (l2.length : Int)
   ·rw [if_pos c6] at H; have c6b0 : decide (0 < (l2.length : Int)) = true := d1_ c6; have c6b1 : decide (0 < l2.length) = true := decide_eq_true t24_; clear c6; obtain rfl := Option.some.inj H; go_enter Try.func108, Try.ntmps108; go_wp2_with (first | ((with_reducible refine gate_dst (N := 3) rfl ?_); refine box_event ?hg (N := 3) ?hd (cs := #[.string a0_0, .string a0_1, .bool a0_2]) (t := 51) ?hr ?_; (case hd => rfl); (case hg => rfl); (case hr => first | (go_simp; done) | (go_simp; rfl)); intro gb320 hg w7 hbox hb; have n0_ := a_ (below_step t1_ hb); have n1_ := a_ (hbox); have n2_ := a_ ((by rw [hg]; exact (below_size t1_) : w.heap.size ≤ gb320)); have n3_ := a_ ((by rw [hg]; exact (below_size t1_) : w.heap.size ≤ gb320)); clear HB; have HB := n0_; have BK320 := n1_; have GW320 := n2_; have GE320 := n3_; clear n0_ n1_ n2_ n3_; clear hb hbox hg; have ⟨hcz8_0, hcz8_1, hcz8_2, hfz8_0, hfz8_1, hfz8_2⟩ := bc3_ BK320.out; have p321 : 0 ≤ (0 : Int) := t24_; have q321 : 0 < (l1.length : Int) := od_; obtain ⟨ad321, e321, hx321_0⟩ := Kd.at_string HR1.out 0 p321 q321; cases e321; have qi321 : (0 < l1.length) = True := eq_true t24_; (try rw [show ((0 : Int)).toNat = 0 from rfl] at hx321_0); (try rw [Addr.add_zero'] at hx321_0); replace hx321_0 := (HB.out.cell (World.block_lt_of_cell? w _ hx321_0)).trans hx321_0; replace p321 := eq_true p321; replace q321 := eq_true q321; have p322 : 0 ≤ (0 : Int) := t24_; have q322 : 0 < (l2.length : Int) := od_; obtain ⟨ad322, e322, hx322_0⟩ := Kd.at_bool HR2.out 0 p322 q322; cases e322; have qi322 : (0 < l2.length) = True := eq_true t24_; (try rw [show ((0 : Int)).toNat = 0 from rfl] at hx322_0); (try rw [Addr.add_zero'] at hx322_0); replace hx322_0 := (HB.out.cell (World.block_lt_of_cell? w _ hx322_0)).trans hx322_0; replace p322 := eq_true p322; replace q322 := eq_true q322)); go_ret
    exact ⟨t3_, (by repeat (first | (with_reducible first | exact HB.out | apply below_alloc | apply pw_below_drewN | apply below_drew1 | refine below_set ?_ GE320.out) | exact HB.out))⟩
   ·rw [if_neg c6] at H; exact absurd H t57_
  ·rw [if_neg c5] at H; have c5b0 : (a0_1.toList == (rdOf ByteArray.empty l1 0).toList) = false := b2_ c5; have c5b1 : (a0_1.toList != (rdOf ByteArray.empty l1 0).toList) = true := b3_ c5; obtain rfl := Option.some.inj H; go_enter Try.func108, Try.ntmps108; go_wp2_with (first | ((with_reducible refine gate_dst (N := 3) rfl ?_); refine box_event ?hg (N := 3) ?hd (cs := #[.string a0_0, .string a0_1, .bool a0_2]) (t := 51) ?hr ?_; (case hd => rfl); (case hg => rfl); (case hr => first | (go_simp; done) | (go_simp; rfl)); intro gb320 hg w9 hbox hb; have n0_ := a_ (below_step t1_ hb); have n1_ := a_ (hbox); have n2_ := a_ ((by rw [hg]; exact (below_size t1_) : w.heap.size ≤ gb320)); have n3_ := a_ ((by rw [hg]; exact (below_size t1_) : w.heap.size ≤ gb320)); clear HB; have HB := n0_; have BK320 := n1_; have GW320 := n2_; have GE320 := n3_; clear n0_ n1_ n2_ n3_; clear hb hbox hg; have ⟨hcz10_0, hcz10_1, hcz10_2, hfz10_0, hfz10_1, hfz10_2⟩ := bc3_ BK320.out; have p321 : 0 ≤ (0 : Int) := t24_; have q321 : 0 < (l1.length : Int) := od_; obtain ⟨ad321, e321, hx321_0⟩ := Kd.at_string HR1.out 0 p321 q321; cases e321; have qi321 : (0 < l1.length) = True := eq_true t24_; (try rw [show ((0 : Int)).toNat = 0 from rfl] at hx321_0); (try rw [Addr.add_zero'] at hx321_0); replace hx321_0 := (HB.out.cell (World.block_lt_of_cell? w _ hx321_0)).trans hx321_0; replace p321 := eq_true p321; replace q321 := eq_true q321)); go_ret
   exact ⟨t3_, (by repeat (first | (with_reducible first | exact HB.out | apply below_alloc | apply pw_below_drewN | apply below_drew1 | refine below_set ?_ GE320.out) | exact HB.out))⟩
 ·rw [if_neg c4] at H; exact absurd H t57_

/-! ### impl_Valve_107_c108: function 107 -/
def impl_Valve_107_c108.l0 : Nat → List (S51) → Int → Int → List ByteArray → List Bool → Option (Int)
 | 0, _, _, _, _, _ => none
 | k + 1, x0, x7, x8, x910, x911 => if x8 < x7 then (if 0 ≤ x8 then (if x8 < (x0.length : Int) then ((impl_stands_1.f ((rd_T51 x0 x8).f0) ((rd_T51 x0 x8).f1) ((rd_T51 x0 x8).f2) x910 x911).bind fun t326 => (if t326 = true then (some x8) else (impl_Valve_107_c108.l0 k x0 x7 (wrap64 (x8 + 1)) x910 x911))) else (none)) else (none)) else (some (-1))
def impl_Valve_107_c108.f (k : Nat) (l0 : List (S51)) (l1_0 : List ByteArray) (l1_1 : List Bool) : Option (Int) := impl_Valve_107_c108.l0 k l0 (l0.length : Int) 0 l1_0 l1_1
theorem impl_Valve_107_c108.mono_l : ∀ k, (∀ y0 y1 y2 y3 y4, LeO (impl_Valve_107_c108.l0 k y0 y1 y2 y3 y4) (impl_Valve_107_c108.l0 (k + 1) y0 y1 y2 y3 y4))
 | 0 => fun _ _ _ _ _ r h => by simp [impl_Valve_107_c108.l0] at h
 | k + 1 => by
  have ih0 := impl_Valve_107_c108.mono_l k
  ·intro y0 y1 y2 y3 y4
   unfold impl_Valve_107_c108.l0
   repeat' first
   | (with_reducible exact ih0 _ _ _ _ _)
   | (with_reducible exact LeO.refl _)
   | (with_reducible exact LeO.none _)
   | (with_reducible refine LeO.ite ?_ ?_)
   | (with_reducible refine LeO.bind ?_ (fun _ => ?_))
theorem impl_Valve_107_c108.mono : ∀ a0 a1 a2 k, LeO (impl_Valve_107_c108.f k a0 a1 a2) (impl_Valve_107_c108.f (k + 1) a0 a1 a2) := by
 intro a0 a1 a2 k; have ih0 := impl_Valve_107_c108.mono_l k; unfold impl_Valve_107_c108.f
 repeat' first
   | (with_reducible exact ih0 _ _ _ _ _)
   | (with_reducible exact LeO.refl _)
   | (with_reducible exact LeO.none _)
   | (with_reducible refine LeO.ite ?_ ?_)
   | (with_reducible refine LeO.bind ?_ (fun _ => ?_))
set_option maxHeartbeats 8000000 in
set_option maxRecDepth 100000 in
theorem impl_Valve_107_c108.calls (k : Nat) (A0 : Option Addr) (c0 : Nat) (l0 : List (S51)) (A1_0 : Option Addr) (c1_0 : Nat) (l1_0 : List ByteArray) (A1_1 : Option Addr) (c1_1 : Nat) (l1_1 : List Bool) (r : Int) (w : World) (hr0 : Kd.C k51 w A0 l0.length l0) (hc0 : l0.length ≤ c0) (hr1_0 : Kd.C Kd.string w A1_0 l1_0.length l1_0) (hc1_0 : l1_0.length ≤ c1_0) (hr1_1 : Kd.C Kd.bool w A1_1 l1_1.length l1_1) (hc1_1 : l1_1.length ≤ c1_1) (h : impl_Valve_107_c108.f k l0 l1_0 l1_1 = some r) :
  Calls Try.prog 107 #[.slice A0 l0.length c0, .func (.func 108) #[] #[.pointer A1_0, .pointer A1_1]] w fun e w' => e = .returned (.int .i64 r) ∧ Below w.heap.size w w' := by
 have hu51 := Try.underlying51; have HR0 := a_ hr0; have HC0 := a_ hc0; clear hr0 hc0; have HR1_0 := a_ hr1_0; have HC1_0 := a_ hc1_0; clear hr1_0 hc1_0; have HR1_1 := a_ hr1_1; have HC1_1 := a_ hc1_1; clear hr1_1 hc1_1; have HB := a_ (Below.refl w.heap.size w); have H : (impl_Valve_107_c108.l0 k l0 (l0.length : Int) 0 l1_0 l1_1) = some r := h; clear h; have H' := a_ H; clear H; go_enter Try.func107, Try.ntmps107; go_wp2; go_loopg [8] k (fun kq v8 w' => ∃ (x8_1 : Int), v8 = .int .i64 x8_1 ∧ Aside0 (impl_Valve_107_c108.l0 kq l0 (l0.length : Int) x8_1 l1_0 l1_1 = some r) ∧ Aside0 (kq ≤ k) ∧ Aside0 (Below w.heap.size w w'))
 case atStart => exact ⟨(0), t4_, H', ⟨Nat.le_refl _⟩, ⟨t1_⟩⟩
 case round =>
  clear H'; (try clear c1); (try clear p2); obtain ⟨x8_1, rfl, HA, HK1, HB⟩ := hrel; cases gk with
  | zero => exact absurd HA.out (by simp [impl_Valve_107_c108.l0])
  | succ k1 =>
   have H := HA.out; clear HA; simp only [impl_Valve_107_c108.l0] at H; by_cases c3 : x8_1 < (l0.length : Int)
   ·rw [if_pos c3] at H; have c3b0 : decide (x8_1 < (l0.length : Int)) = true := d1_ c3; clear c3; by_cases c4 : 0 ≤ x8_1
    ·rw [if_pos c4] at H; have c4b0 : decide (0 ≤ x8_1) = true := d1_ c4; clear c4; by_cases c5 : x8_1 < (l0.length : Int)
     ·rw [if_pos c5] at H; have c5b0 : decide (x8_1 < (l0.length : Int)) = true := d1_ c5; clear c5; replace H := be_ H; obtain ⟨t326, A60, H⟩ := H; have A6 := a_ A60; clear A60; by_cases c7 : t326 = true
      ·subst c7; replace H := (if_pos rfl).symm.trans H; obtain rfl := Option.some.inj H; have p325 : 0 ≤ (x8_1 : Int) := od_; have q325 : x8_1 < (l0.length : Int) := od_; obtain ⟨ad325, e325, hx325_0, hx325_1, hx325_2⟩ := at_T51 HR0.out x8_1 p325 q325; cases e325; replace hx325_0 := hb_ HB hx325_0; replace hx325_1 := hb_ HB hx325_1; replace hx325_2 := hb_ HB hx325_2; replace p325 := eq_true p325; replace q325 := eq_true q325; go_wp2_with (first | (go_at_call 108; (with_reducible refine (impl_stands_1.calls ((rd_T51 l0 x8_1).f0) ((rd_T51 l0 x8_1).f1) ((rd_T51 l0 x8_1).f2) _ c1_0 l1_0 _ c1_1 l1_1 true _ ?side1 ?side2 ?side3 ?side4 A6.out).mono ?_); (case side1 => exact qc_ (Kd.C_below HR1_0.out HB.out)); (case side2 => exact HC1_0.out); (case side3 => exact qc_ (Kd.C_below HR1_1.out HB.out)); (case side4 => exact HC1_1.out); rintro e w8 ⟨rfl, hb⟩; have n0_ := a_ (below_step t1_ hb); clear HB; have HB := n0_; clear n0_; (try clear hb); (try clear hb2); (try clear hk); (try clear hi))); go_ret
       exact ⟨t3_, t1_⟩
      ·replace c7 := Bool.eq_false_iff.mpr c7; subst c7; replace H := (if_neg (show ¬ (false = true) by decide)).symm.trans H; have H' := a_ H; clear H; have p325 : 0 ≤ (x8_1 : Int) := od_; have q325 : x8_1 < (l0.length : Int) := od_; obtain ⟨ad325, e325, hx325_0, hx325_1, hx325_2⟩ := at_T51 HR0.out x8_1 p325 q325; cases e325; replace hx325_0 := hb_ HB hx325_0; replace hx325_1 := hb_ HB hx325_1; replace hx325_2 := hb_ HB hx325_2; replace p325 := eq_true p325; replace q325 := eq_true q325; go_wp2_with (first | (go_at_call 108; (with_reducible refine (impl_stands_1.calls ((rd_T51 l0 x8_1).f0) ((rd_T51 l0 x8_1).f1) ((rd_T51 l0 x8_1).f2) _ c1_0 l1_0 _ c1_1 l1_1 false _ ?side1 ?side2 ?side3 ?side4 A6.out).mono ?_); (case side1 => exact qc_ (Kd.C_below HR1_0.out HB.out)); (case side2 => exact HC1_0.out); (case side3 => exact qc_ (Kd.C_below HR1_1.out HB.out)); (case side4 => exact HC1_1.out); rintro e w9 ⟨rfl, hb⟩; have n0_ := a_ (below_step t1_ hb); clear HB; have HB := n0_; clear n0_; (try clear hb); (try clear hb2); (try clear hk); (try clear hi))); go_roundg k1
       case measure => have := HK1.out; omega
       case rel => exact ⟨(wrap64 (x8_1 + 1)), t4_, H', ⟨t52_⟩, ⟨t1_⟩⟩
     ·rw [if_neg c5] at H; exact absurd H t57_
    ·rw [if_neg c4] at H; exact absurd H t57_
   ·rw [if_neg c3] at H; have c3b0 : decide (x8_1 < (l0.length : Int)) = false := d2_ c3; clear c3; obtain rfl := Option.some.inj H; go_wp2; go_ret
    exact ⟨t3_, t1_⟩

/-! ### impl_Valve_77_c108: function 77 -/
def impl_Valve_77_c108.f (k : Nat) (l0 : List (S51)) (l1_0 : List ByteArray) (l1_1 : List Bool) : Option (Bool) := (impl_Valve_107_c108.f k l0 l1_0 l1_1).bind fun t327 => (some (decide (t327 ≥ 0)))
theorem impl_Valve_77_c108.mono : ∀ a0 a1 a2 k, LeO (impl_Valve_77_c108.f k a0 a1 a2) (impl_Valve_77_c108.f (k + 1) a0 a1 a2) := by
 intro a0 a1 a2 k; unfold impl_Valve_77_c108.f
 repeat' first
   | (with_reducible exact impl_Valve_107_c108.mono _ _ _ _)
   | (with_reducible exact LeO.refl _)
   | (with_reducible exact LeO.none _)
   | (with_reducible refine LeO.ite ?_ ?_)
   | (with_reducible refine LeO.bind ?_ (fun _ => ?_))
set_option maxHeartbeats 8000000 in
set_option maxRecDepth 100000 in
theorem impl_Valve_77_c108.calls (k : Nat) (A0 : Option Addr) (c0 : Nat) (l0 : List (S51)) (A1_0 : Option Addr) (c1_0 : Nat) (l1_0 : List ByteArray) (A1_1 : Option Addr) (c1_1 : Nat) (l1_1 : List Bool) (r : Bool) (w : World) (hr0 : Kd.C k51 w A0 l0.length l0) (hc0 : l0.length ≤ c0) (hr1_0 : Kd.C Kd.string w A1_0 l1_0.length l1_0) (hc1_0 : l1_0.length ≤ c1_0) (hr1_1 : Kd.C Kd.bool w A1_1 l1_1.length l1_1) (hc1_1 : l1_1.length ≤ c1_1) (h : impl_Valve_77_c108.f k l0 l1_0 l1_1 = some r) :
  Calls Try.prog 77 #[.slice A0 l0.length c0, .func (.func 108) #[] #[.pointer A1_0, .pointer A1_1]] w fun e w' => e = .returned (.bool r) ∧ Below w.heap.size w w' := by
 have HR0 := a_ hr0; have HC0 := a_ hc0; clear hr0 hc0; have HR1_0 := a_ hr1_0; have HC1_0 := a_ hc1_0; clear hr1_0 hc1_0; have HR1_1 := a_ hr1_1; have HC1_1 := a_ hc1_1; clear hr1_1 hc1_1; have HB := a_ (Below.refl w.heap.size w); have H : ((impl_Valve_107_c108.f k l0 l1_0 l1_1).bind fun t327 => (some (decide (t327 ≥ 0)))) = some r := h; clear h; replace H := be_ H; obtain ⟨t327, A30, H⟩ := H; have A3 := a_ A30; clear A30; obtain rfl := Option.some.inj H; go_enter Try.func77, Try.ntmps77; go_wp2_with (first | ((with_reducible refine gate_callee (f := 107) rfl ?_); refine goesL_ (some 7) rfl rfl Try.func107 t13_ rfl #[.slice A0 l0.length c0, .func (.func 108) #[] #[.pointer A1_0, .pointer A1_1]] rfl t2_ ?_; (with_reducible refine (impl_Valve_107_c108.calls k _ _ l0 _ c1_0 l1_0 _ c1_1 l1_1 t327 _ ?side1 ?side2 ?side3 ?side4 ?side5 ?side6 A3.out).mono ?_); (case side1 => exact qc_ HR0.out); (case side2 => exact HC0.out); (case side3 => exact qc_ HR1_0.out); (case side4 => exact HC1_0.out); (case side5 => exact qc_ HR1_1.out); (case side6 => exact HC1_1.out); rintro e w4 ⟨rfl, hb⟩; refine ⟨_, rfl, ?_⟩; have n0_ := a_ (below_step t1_ hb); clear HB; have HB := n0_; clear n0_; (try clear hb); (try clear hb2); (try clear hk); (try clear hi))); go_ret
 exact ⟨t3_, t1_⟩

/-! ### impl_stands: function 79 -/
def impl_stands.f (k : Nat) (l0 : List (S51)) (a1 : ByteArray) (a2 : Bool) : Option (Bool) := (impl_Valve_77_c108.f k l0 [a1] [a2]).bind fun t330 => (some t330)
theorem impl_stands.mono : ∀ a0 a1 a2 k, LeO (impl_stands.f k a0 a1 a2) (impl_stands.f (k + 1) a0 a1 a2) := by
 intro a0 a1 a2 k; unfold impl_stands.f
 repeat' first
   | (with_reducible exact impl_Valve_77_c108.mono _ _ _ _)
   | (with_reducible exact LeO.refl _)
   | (with_reducible exact LeO.none _)
   | (with_reducible refine LeO.ite ?_ ?_)
   | (with_reducible refine LeO.bind ?_ (fun _ => ?_))
set_option maxHeartbeats 8000000 in
set_option maxRecDepth 100000 in
theorem impl_stands.calls (k : Nat) (A0 : Option Addr) (c0 : Nat) (l0 : List (S51)) (a1 : ByteArray) (a2 : Bool) (r : Bool) (w : World) (hr0 : Kd.C k51 w A0 l0.length l0) (hc0 : l0.length ≤ c0) (h : impl_stands.f k l0 a1 a2 = some r) :
  Calls Try.prog 79 #[.slice A0 l0.length c0, .string a1, .bool a2] w fun e w' => e = .returned (.bool r) ∧ Below w.heap.size w w' := by
 have HR0 := a_ hr0; have HC0 := a_ hc0; clear hr0 hc0; have HB := a_ (Below.refl w.heap.size w); have H : ((impl_Valve_77_c108.f k l0 [a1] [a2]).bind fun t330 => (some t330)) = some r := h; clear h; replace H := be_ H; obtain ⟨t330, A40, H⟩ := H; have A4 := a_ A40; clear A40; obtain rfl := Option.some.inj H; go_enter Try.func79, Try.ntmps79; go_wp2_with (first | ((with_reducible refine gate_dst (N := 4) rfl ?_); refine box_event ?hg (N := 4) ?hd (cs := #[.string a1]) (t := 9) ?hr ?_; (case hd => rfl); (case hg => rfl); (case hr => first | (go_simp; done) | (go_simp; rfl)); intro gb328 hg w5 hbox hb; have n0_ := a_ (below_step t1_ hb); have n1_ := a_ (hbox); have n2_ := a_ ((by rw [hg]; exact (below_size t1_) : w.heap.size ≤ gb328)); have n3_ := a_ ((by rw [hg]; exact (below_size t1_) : w.heap.size ≤ gb328)); clear HB; have HB := n0_; have BK328 := n1_; have GW328 := n2_; have GE328 := n3_; clear n0_ n1_ n2_ n3_; clear hb hbox hg) | ((with_reducible refine gate_dst (N := 5) rfl ?_); refine box_event ?hg (N := 5) ?hd (cs := #[.bool a2]) (t := 4) ?hr ?_; (case hd => rfl); (case hg => rfl); (case hr => first | (go_simp; done) | (go_simp; rfl)); intro gb329 hg w6 hbox hb; have n0_ := a_ (blk_below (g := gb328) (o := .cells #[.string a1] 9 (0, 0)) (q1_ BK328.out) hb); have n1_ := a_ (below_step t69_ hb); have n2_ := a_ (hbox); have n3_ := a_ ((by rw [hg]; exact (below_size t69_) : w.heap.size ≤ gb329)); have n4_ := a_ ((by rw [hg]; exact (below_size t69_) : w.heap.size ≤ gb329)); have n5_ := a_ ((by rw [hg]; exact Nat.ne_of_lt (blk_lt (g := gb328) (o := .cells #[.string a1] 9 (0, 0)) (q1_ BK328.out)) : gb328 ≠ gb329)); have n6_ := a_ ((by rw [hg]; exact Nat.ne_of_gt (blk_lt (g := gb328) (o := .cells #[.string a1] 9 (0, 0)) (q1_ BK328.out)) : gb329 ≠ gb328)); clear BK328; clear HB; have BK328 := n0_; have HB := n1_; have BK329 := n2_; have GW329 := n3_; have GE329 := n4_; have NB328_329 := n5_; have NB329_328 := n6_; clear n0_ n1_ n2_ n3_ n4_ n5_ n6_; clear hb hbox hg) | ((with_reducible refine gate_callee (f := 77) rfl ?_); refine goesL_ (some 9) rfl rfl Try.func77 t13_ rfl #[.slice A0 l0.length c0, .func (.func 108) #[] #[.pointer (some ⟨gb328, 0, none⟩), .pointer (some ⟨gb329, 0, none⟩)]] rfl t2_ ?_; (with_reducible refine (impl_Valve_77_c108.calls k _ _ l0 _ 1 [a1] _ 1 [a2] t330 _ ?side1 ?side2 ?side3 ?side4 ?side5 ?side6 A4.out).mono ?_); (case side1 => exact qc_ (Kd.C_below HR0.out HB.out)); (case side2 => exact HC0.out); (case side3 => exact Kd.C_one (d := Kd.string) (rfl) (cells_blk (cs := #[.string a1]) (t := 9) (q1_ BK328.out))); (case side4 => exact Nat.le_refl _); (case side5 => exact Kd.C_one (d := Kd.bool) (rfl) (cells_blk (cs := #[.bool a2]) (t := 4) (q1_ BK329.out))); (case side6 => exact Nat.le_refl _); rintro e w7 ⟨rfl, hb⟩; refine ⟨_, rfl, ?_⟩; have n0_ := a_ (blk_below (g := gb328) (o := .cells #[.string a1] 9 (0, 0)) (q1_ BK328.out) hb); have n1_ := a_ (blk_below (g := gb329) (o := .cells #[.bool a2] 4 (0, 0)) (q1_ BK329.out) hb); have n2_ := a_ (below_step (by repeat (first | (with_reducible first | exact HB.out | apply below_alloc | apply pw_below_drewN | apply below_drew1 | refine below_set ?_ GE328.out | refine below_set ?_ GE329.out) | exact HB.out)) hb); clear BK328; clear BK329; clear HB; have BK328 := n0_; have BK329 := n1_; have HB := n2_; clear n0_ n1_ n2_; (try clear hb); (try clear hb2); (try clear hk); (try clear hi))); go_ret
 exact ⟨t3_, (by repeat (first | (with_reducible first | exact HB.out | apply below_alloc | apply pw_below_drewN | apply below_drew1 | refine below_set ?_ GE328.out | refine below_set ?_ GE329.out) | exact HB.out))⟩

-- function 151 is told with the one that calls it

-- function 141 is told with the one that calls it

-- function 135 is told with the one that calls it

-- function 146 is told with the one that calls it

-- function 136 is told with the one that calls it

-- function 144 is told with the one that calls it

-- function 145 is told with the one that calls it

-- function 129 is told with the one that calls it

-- function 147 is told with the one that calls it

-- function 148 is told with the one that calls it

-- function 137 is told with the one that calls it

-- function 152 is told with the one that calls it

-- function 150 is told with the one that calls it

-- function 149 is told with the one that calls it

-- function 138 is told with the one that calls it

-- function 139 is told with the one that calls it

-- function 140 is told with the one that calls it

-- function 142 is told with the one that calls it

-- function 143 is told with the one that calls it

-- function 128 is told with the one that calls it

/-! ### slices_Sort_int64_int64: function 102 -/
def lsort__ren : Go.Shelf.Ren := ⟨fun | 5 => 102 | 8 => 129 | 7 => 128 | 19 => 144 | 20 => 145 | 10 => 135 | 11 => 136 | 12 => 137 | 13 => 138 | 14 => 139 | 15 => 140 | 16 => 141 | 17 => 142 | 18 => 143 | 30 => 146 | 31 => 147 | 32 => 148 | 33 => 149 | 34 => 150 | 35 => 151 | 40 => 152 | n => n, fun | 23 => 22 | 25 => 2 | 3 => 3 | 32 => 156 | 22 => 22 | 0 => 0 | 44 => 170 | 46 => 140 | 4 => 4 | 36 => 162 | 35 => 161 | 41 => 167 | 5 => 5 | 9 => 9 | 53 => 172 | 57 => 176 | 63 => 178 | 64 => 179 | n => n, fun | n => n⟩
theorem lsort_ : Go.Proofs.SlLaysM.n5 Try.prog lsort__ren := {
  mixed := by kernel_rfl
  f5 := ⟨Try.f102.name, t39_, Try.func102.trans (congrArg some t13_)⟩
  f7 := ⟨Try.f128.name, t39_, Try.func128.trans (congrArg some t13_)⟩
  f8 := Try.func129.trans (congrArg some t13_)
  f10 := ⟨Try.f135.name, t39_, Try.func135.trans (congrArg some t13_)⟩
  f11 := ⟨Try.f136.name, t39_, Try.func136.trans (congrArg some t13_)⟩
  f12 := ⟨Try.f137.name, t39_, Try.func137.trans (congrArg some t13_)⟩
  f13 := ⟨Try.f138.name, t39_, Try.func138.trans (congrArg some t13_)⟩
  f14 := ⟨Try.f139.name, t39_, Try.func139.trans (congrArg some t13_)⟩
  f15 := ⟨Try.f140.name, t39_, Try.func140.trans (congrArg some t13_)⟩
  f16 := ⟨Try.f141.name, t39_, Try.func141.trans (congrArg some t13_)⟩
  f17 := ⟨Try.f142.name, t39_, Try.func142.trans (congrArg some t13_)⟩
  f18 := ⟨Try.f143.name, t39_, Try.func143.trans (congrArg some t13_)⟩
  f19 := Try.func144.trans (congrArg some t13_)
  f20 := Try.func145.trans (congrArg some t13_)
  f30 := ⟨Try.f146.name, t39_, Try.func146.trans (congrArg some t13_)⟩
  f31 := Try.func147.trans (congrArg some t13_)
  f32 := Try.func148.trans (congrArg some t13_)
  f33 := ⟨Try.f149.name, t39_, Try.func149.trans (congrArg some t13_)⟩
  f34 := ⟨Try.f150.name, t39_, Try.func150.trans (congrArg some t13_)⟩
  f35 := ⟨Try.f151.name, t39_, Try.func151.trans (congrArg some t13_)⟩
  f40 := ⟨Try.f152.name, t39_, Try.func152.trans (congrArg some t13_)⟩
  t0 := Try.underlying0
  a0 := Try.isAgg0
  z0 := Try.sizeOf0
  v0 := Try.zeroValue0
  t3 := Try.underlying3
  a3 := Try.isAgg3
  z3 := Try.sizeOf3
  v3 := Try.zeroValue3
  t4 := Try.underlying4
  a4 := Try.isAgg4
  z4 := Try.sizeOf4
  v4 := Try.zeroValue4
  t5 := Try.underlying5
  a5 := Try.isAgg5
  z5 := Try.sizeOf5
  v5 := Try.zeroValue5
  t9 := Try.underlying9
  a9 := Try.isAgg9
  z9 := Try.sizeOf9
  v9 := Try.zeroValue9
  t22 := Try.underlying22
  a22 := Try.isAgg22
  z22 := Try.sizeOf22
  v22 := Try.zeroValue22
  t23 := Try.underlying22
  a23 := Try.isAgg22
  z23 := Try.sizeOf22
  v23 := Try.zeroValue22
  t25 := Try.underlying2
  a25 := Try.isAgg2
  z25 := Try.sizeOf2
  v25 := Try.zeroValue2
  t32 := Try.underlying156
  a32 := Try.isAgg156
  z32 := Try.sizeOf156
  v32 := Try.zeroValue156
  t35 := Try.underlying161
  a35 := Try.isAgg161
  z35 := Try.sizeOf161
  v35 := Try.zeroValue161
  t36 := Try.underlying162
  a36 := Try.isAgg162
  z36 := Try.sizeOf162
  v36 := Try.zeroValue162
  t41 := Try.underlying167
  a41 := Try.isAgg167
  z41 := Try.sizeOf167
  v41 := Try.zeroValue167
  t44 := Try.underlying170
  a44 := Try.isAgg170
  z44 := Try.sizeOf170
  v44 := Try.zeroValue170
  t46 := Try.underlying140
  a46 := Try.isAgg140
  z46 := Try.sizeOf140
  v46 := Try.zeroValue140
  t53 := Try.underlying172
  a53 := Try.isAgg172
  z53 := Try.sizeOf172
  v53 := Try.zeroValue172
  t57 := Try.underlying176
  a57 := Try.isAgg176
  z57 := Try.sizeOf176
  v57 := Try.zeroValue176
  t63 := Try.underlying178
  a63 := Try.isAgg178
  z63 := Try.sizeOf178
  v63 := Try.zeroValue178
  t64 := Try.underlying179
  a64 := Try.isAgg179
  z64 := Try.sizeOf179
  v64 := Try.zeroValue179 }

/-- slices.Sort: the row in order. -/
def slices_Sort_int64_int64.f (l0 : List Int) : Option (List Int) := if l0.length < 4611686018427387904 then some (l0.mergeSort fun x y => decide (x ≤ y)) else none
theorem slices_Sort_int64_int64.calls (P0_ : Nat → Prop) (u9000_ : Value) (l0 : List Int) (r : List Int) (w0 w : World) (hB : Below w0.heap.size w0 w) (ho0 : Kd.R (Kd.int .i64) 2 w w0.heap.size P0_ u9000_ l0) (h : slices_Sort_int64_int64.f l0 = some r) :
    Calls Try.prog 102 #[u9000_] w fun e w' => e = .returned (.tuple #[]) ∧ Kd.R (Kd.int .i64) 2 w' w0.heap.size (fun k_ => (P0_ k_ ∨ w.heap.size ≤ k_)) u9000_ r ∧ Below w0.heap.size w0 w' ∧ Kept w w' (fun k_ => P0_ k_) := by
  unfold slices_Sort_int64_int64.f at h
  by_cases hs : l0.length < 4611686018427387904
  · rw [if_pos hs] at h
    obtain rfl := Option.some.inj h; have hl : (l0.mergeSort fun x y => decide (x ≤ y)).length = l0.length := List.length_mergeSort l0; have hok := ho0.1; have ho : w.ownsRow w0.heap.size 2 1 u9000_ l0.length (encs (Value.int .i64) l0) := Kd.own_of_R ho0; obtain ⟨hlen, hrow⟩ := ho; rcases hrow with ⟨rfl, h0⟩ | ⟨g, cap, cur, rfl, hg, hblk, hn, hcap, hcur, htake⟩
    · have hl0 : l0 = [] := List.length_eq_zero_iff.1 h0
      subst hl0; refine (AnyM.slices_Sort_int_none lsort_ none 0 w).mono ?_; rintro e w' ⟨rfl, rfl⟩; exact ⟨rfl, (by rw [List.mergeSort_nil]; exact Kd.R_nil _ _ _ _ _), hB, Kept.refl _ _⟩
    · have hgs : g < w.heap.size := (Array.getElem?_eq_some_iff.1 hblk).1
      have ht : cur.toList.take l0.length = l0.map (Value.int .i64) := (by rw [Nat.mul_one] at htake; exact htake); refine (AnyM.slices_Sort_int lsort_ g 0 cap l0 w (holds_of_blockI hblk ht) hgs hs).mono ?_; rintro e w' ⟨rfl, n, os, rfl⟩; have hgr : w.grownBy (Sort.grow (Sort.putRow (Value.int .i64) (Sort.ahead w n) g 0 (l0.mergeSort fun x y => decide (x ≤ y)).toArray) os) (some g) := grownBy_sortedI _; have hw := ownsRow_sortedI (n := n) (os := os) hl hg hblk hn hcap hcur; refine ⟨rfl, ?_, hB.grown hgr hB.size (fun k e => by cases e; exact hg), ⟨hgr.size, fun i hi hni => hgr.block i hi (fun e => hni (hok i e.symm))⟩⟩; refine Kd.R_of_own ?_ (fun k hk => Or.inl (hok k hk)); rw [hl]; exact hw
  · rw [if_neg hs] at h; cases h

end Go.Proofs.Ytheokilgacmlmaa.PFnExactWorstRegion
