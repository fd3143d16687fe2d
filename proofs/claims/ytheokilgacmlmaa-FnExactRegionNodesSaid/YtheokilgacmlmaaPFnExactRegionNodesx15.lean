-- written by wip/xprint.py, a program of this session, for this claim; not trusted: Lean checks it.
import Derived.Shelf.SortM.Plain
import Derived.Shelf.SortM.SortNone
import Derived.Shelf.SlicesG.CompactI
import Derived.Sort.OwnSortedInts
import Derived.Test.YtheokilgacmlmaaPFnExactRegionNodesx0
import Derived.Test.YtheokilgacmlmaaPFnExactRegionNodesx11
import Derived.Test.YtheokilgacmlmaaPFnExactRegionNodesx14
namespace Go.Proofs.Ytheokilgacmlmaa.PFnExactRegionNodes
open Go.RowKit Go.Proofs.YtheokilgacmlmaaW.PrintWords Go.Proofs.YtheokilgacmlmaaW.PrintLast Go.Proofs.YtheokilgacmlmaaW.PrintMore
attribute [local go_sem] leq_less_ max2_int min2_int max_two min_two max_three min_three max_four min_four   -- for this text's walks alone
set_option linter.unusedVariables false
set_option linter.unusedSimpArgs false

/-! ### impl_valvesCode: function 60 -/
def impl_valvesCode.f (k : Nat) (l0_0 : List Int) (l0_1 : List (S100)) (l1 : List (S51)) (a2 : Int) : Option (Int) := (impl_ValidValves.f k l0_0 l0_1 l1).bind fun t335 => (if t335 = true then ((impl_within.f a2 0 (wrap64 ((l0_1.length : Int) - 1))).bind fun t336 => (if t336 = true then (some 0) else (some 2))) else (some 1))
theorem impl_valvesCode.mono : ∀ a0 a1 a2 a3 k, LeO (impl_valvesCode.f k a0 a1 a2 a3) (impl_valvesCode.f (k + 1) a0 a1 a2 a3) := by
 intro a0 a1 a2 a3 k; unfold impl_valvesCode.f
 repeat' first
   | (with_reducible exact impl_ValidValves.mono _ _ _ _)
   | (with_reducible exact LeO.refl _)
   | (with_reducible exact LeO.none _)
   | (with_reducible refine LeO.ite ?_ ?_)
   | (with_reducible refine LeO.bind ?_ (fun _ => ?_))
set_option maxHeartbeats 8000000 in
set_option maxRecDepth 100000 in
theorem impl_valvesCode.calls (k : Nat) (A0_0 : Option Addr) (c0_0 : Nat) (l0_0 : List Int) (A0_1 : Option Addr) (c0_1 : Nat) (l0_1 : List (S100)) (A1 : Option Addr) (c1 : Nat) (l1 : List (S51)) (a2 : Int) (r : Int) (w : World) (hr0_0 : Kd.C (Kd.int .i64) w A0_0 l0_0.length l0_0) (hc0_0 : l0_0.length ≤ c0_0) (hr0_1 : Kd.C k100 w A0_1 l0_1.length l0_1) (hc0_1 : l0_1.length ≤ c0_1) (hr1 : Kd.C k51 w A1 l1.length l1) (hc1 : l1.length ≤ c1) (h : impl_valvesCode.f k l0_0 l0_1 l1 a2 = some r) :
  Calls Try.prog 60 #[.agg #[.slice A0_0 l0_0.length c0_0, .slice A0_1 l0_1.length c0_1], .slice A1 l1.length c1, .int .i64 a2] w fun e w' => e = .returned (.int .i64 r) ∧ Below w.heap.size w w' := by
 have hu33 := Try.underlying33; have HR0_0 := a_ hr0_0; have HC0_0 := a_ hc0_0; clear hr0_0 hc0_0; have HR0_1 := a_ hr0_1; have HC0_1 := a_ hc0_1; clear hr0_1 hc0_1; have HR1 := a_ hr1; have HC1 := a_ hc1; clear hr1 hc1; have HB := a_ (Below.refl w.heap.size w); have H : ((impl_ValidValves.f k l0_0 l0_1 l1).bind fun t335 => (if t335 = true then ((impl_within.f a2 0 (wrap64 ((l0_1.length : Int) - 1))).bind fun t336 => (if t336 = true then (some 0) else (some 2))) else (some 1))) = some r := h; clear h; replace H := be_ H; obtain ⟨t335, A40, H⟩ := H; have A4 := a_ A40; clear A40; by_cases c5 : t335 = true
 ·subst c5; replace H := (if_pos rfl).symm.trans H; replace H := be_ H; obtain ⟨t336, A60, H⟩ := H; have A6 := a_ A60; clear A60; by_cases c7 : t336 = true
  ·subst c7; replace H := (if_pos rfl).symm.trans H; obtain rfl := Option.some.inj H; go_enter Try.func60, Try.ntmps60; go_wp2_with (first | ((with_reducible refine gate_dst (N := 3) rfl ?_); refine box_event ?hg (N := 3) ?hd (cs := #[.slice A0_0 l0_0.length c0_0, .slice A0_1 l0_1.length c0_1]) (t := 33) ?hr ?_; (case hd => rfl); (case hg => rfl); (case hr => first | (go_simp; done) | (go_simp; rfl)); intro gb334 hg w8 hbox hb; have n0_ := a_ (below_step t1_ hb); have n1_ := a_ (hbox); have n2_ := a_ ((by rw [hg]; exact (below_size t1_) : w.heap.size ≤ gb334)); have n3_ := a_ ((by rw [hg]; exact (below_size t1_) : w.heap.size ≤ gb334)); clear HB; have HB := n0_; have BK334 := n1_; have GW334 := n2_; have GE334 := n3_; clear n0_ n1_ n2_ n3_; clear hb hbox hg; have ⟨hcz9_0, hcz9_1, hfz9_0, hfz9_1⟩ := bc2_ BK334.out) | ((with_reducible refine gate_callee (f := 54) rfl ?_); refine goesL_ (some 10) rfl rfl Try.func54 t9_ rfl #[.agg #[.slice A0_0 l0_0.length c0_0, .slice A0_1 l0_1.length c0_1], .slice A1 l1.length c1] rfl t2_ ?_; (with_reducible refine (impl_ValidValves.calls k _ _ l0_0 _ _ l0_1 _ _ l1 true _ ?side1 ?side2 ?side3 ?side4 ?side5 ?side6 A4.out).mono ?_); (case side1 => exact qc_ (Kd.C_below HR0_0.out HB.out)); (case side2 => exact HC0_0.out); (case side3 => exact qc_ (Kd.C_below HR0_1.out HB.out)); (case side4 => exact HC0_1.out); (case side5 => exact qc_ (Kd.C_below HR1.out HB.out)); (case side6 => exact HC1.out); rintro e w10 ⟨rfl, hb⟩; refine ⟨_, rfl, ?_⟩; have n0_ := a_ (blk_below (g := gb334) (o := .cells #[.slice A0_0 l0_0.length c0_0, .slice A0_1 l0_1.length c0_1] 33 (0, 0)) (q1_ BK334.out) hb); have n1_ := a_ (below_step t39_ hb); clear BK334; clear HB; have BK334 := n0_; have HB := n1_; clear n0_ n1_; (try clear hb); (try clear hb2); (try clear hk); (try clear hi); have ⟨hcz11_0, hcz11_1, hfz11_0, hfz11_1⟩ := bc2_ BK334.out) | ((with_reducible refine gate_callee (f := 99) rfl ?_); refine goesL_ (some 18) rfl rfl Try.func99 t9_ rfl #[.int .i64 a2, .int .i64 0, .int .i64 (wrap64 ((l0_1.length : Int) - 1))] rfl t2_ ?_; (with_reducible refine (impl_within.calls a2 0 (wrap64 ((l0_1.length : Int) - 1)) true _ A6.out).mono ?_); rintro e w' ⟨rfl, ⟨nd, rfl⟩⟩; refine ⟨_, rfl, ?_⟩)); go_ret
   exact ⟨t3_, t39_⟩
  ·replace c7 := Bool.eq_false_iff.mpr c7; subst c7; replace H := (if_neg (show ¬ (false = true) by decide)).symm.trans H; obtain rfl := Option.some.inj H; go_enter Try.func60, Try.ntmps60; go_wp2_with (first | ((with_reducible refine gate_dst (N := 3) rfl ?_); refine box_event ?hg (N := 3) ?hd (cs := #[.slice A0_0 l0_0.length c0_0, .slice A0_1 l0_1.length c0_1]) (t := 33) ?hr ?_; (case hd => rfl); (case hg => rfl); (case hr => first | (go_simp; done) | (go_simp; rfl)); intro gb334 hg w12 hbox hb; have n0_ := a_ (below_step t1_ hb); have n1_ := a_ (hbox); have n2_ := a_ ((by rw [hg]; exact (below_size t1_) : w.heap.size ≤ gb334)); have n3_ := a_ ((by rw [hg]; exact (below_size t1_) : w.heap.size ≤ gb334)); clear HB; have HB := n0_; have BK334 := n1_; have GW334 := n2_; have GE334 := n3_; clear n0_ n1_ n2_ n3_; clear hb hbox hg; have ⟨hcz13_0, hcz13_1, hfz13_0, hfz13_1⟩ := bc2_ BK334.out) | ((with_reducible refine gate_callee (f := 54) rfl ?_); refine goesL_ (some 10) rfl rfl Try.func54 t9_ rfl #[.agg #[.slice A0_0 l0_0.length c0_0, .slice A0_1 l0_1.length c0_1], .slice A1 l1.length c1] rfl t2_ ?_; (with_reducible refine (impl_ValidValves.calls k _ _ l0_0 _ _ l0_1 _ _ l1 true _ ?side1 ?side2 ?side3 ?side4 ?side5 ?side6 A4.out).mono ?_); (case side1 => exact qc_ (Kd.C_below HR0_0.out HB.out)); (case side2 => exact HC0_0.out); (case side3 => exact qc_ (Kd.C_below HR0_1.out HB.out)); (case side4 => exact HC0_1.out); (case side5 => exact qc_ (Kd.C_below HR1.out HB.out)); (case side6 => exact HC1.out); rintro e w14 ⟨rfl, hb⟩; refine ⟨_, rfl, ?_⟩; have n0_ := a_ (blk_below (g := gb334) (o := .cells #[.slice A0_0 l0_0.length c0_0, .slice A0_1 l0_1.length c0_1] 33 (0, 0)) (q1_ BK334.out) hb); have n1_ := a_ (below_step t39_ hb); clear BK334; clear HB; have BK334 := n0_; have HB := n1_; clear n0_ n1_; (try clear hb); (try clear hb2); (try clear hk); (try clear hi); have ⟨hcz15_0, hcz15_1, hfz15_0, hfz15_1⟩ := bc2_ BK334.out) | ((with_reducible refine gate_callee (f := 99) rfl ?_); refine goesL_ (some 18) rfl rfl Try.func99 t9_ rfl #[.int .i64 a2, .int .i64 0, .int .i64 (wrap64 ((l0_1.length : Int) - 1))] rfl t2_ ?_; (with_reducible refine (impl_within.calls a2 0 (wrap64 ((l0_1.length : Int) - 1)) false _ A6.out).mono ?_); rintro e w' ⟨rfl, ⟨nd, rfl⟩⟩; refine ⟨_, rfl, ?_⟩)); go_ret
   exact ⟨t3_, t39_⟩
 ·replace c5 := Bool.eq_false_iff.mpr c5; subst c5; replace H := (if_neg (show ¬ (false = true) by decide)).symm.trans H; obtain rfl := Option.some.inj H; go_enter Try.func60, Try.ntmps60; go_wp2_with (first | ((with_reducible refine gate_dst (N := 3) rfl ?_); refine box_event ?hg (N := 3) ?hd (cs := #[.slice A0_0 l0_0.length c0_0, .slice A0_1 l0_1.length c0_1]) (t := 33) ?hr ?_; (case hd => rfl); (case hg => rfl); (case hr => first | (go_simp; done) | (go_simp; rfl)); intro gb334 hg w16 hbox hb; have n0_ := a_ (below_step t1_ hb); have n1_ := a_ (hbox); have n2_ := a_ ((by rw [hg]; exact (below_size t1_) : w.heap.size ≤ gb334)); have n3_ := a_ ((by rw [hg]; exact (below_size t1_) : w.heap.size ≤ gb334)); clear HB; have HB := n0_; have BK334 := n1_; have GW334 := n2_; have GE334 := n3_; clear n0_ n1_ n2_ n3_; clear hb hbox hg; have ⟨hcz17_0, hcz17_1, hfz17_0, hfz17_1⟩ := bc2_ BK334.out) | ((with_reducible refine gate_callee (f := 54) rfl ?_); refine goesL_ (some 10) rfl rfl Try.func54 t9_ rfl #[.agg #[.slice A0_0 l0_0.length c0_0, .slice A0_1 l0_1.length c0_1], .slice A1 l1.length c1] rfl t2_ ?_; (with_reducible refine (impl_ValidValves.calls k _ _ l0_0 _ _ l0_1 _ _ l1 false _ ?side1 ?side2 ?side3 ?side4 ?side5 ?side6 A4.out).mono ?_); (case side1 => exact qc_ (Kd.C_below HR0_0.out HB.out)); (case side2 => exact HC0_0.out); (case side3 => exact qc_ (Kd.C_below HR0_1.out HB.out)); (case side4 => exact HC0_1.out); (case side5 => exact qc_ (Kd.C_below HR1.out HB.out)); (case side6 => exact HC1.out); rintro e w18 ⟨rfl, hb⟩; refine ⟨_, rfl, ?_⟩; have n0_ := a_ (blk_below (g := gb334) (o := .cells #[.slice A0_0 l0_0.length c0_0, .slice A0_1 l0_1.length c0_1] 33 (0, 0)) (q1_ BK334.out) hb); have n1_ := a_ (below_step t39_ hb); clear BK334; clear HB; have BK334 := n0_; have HB := n1_; clear n0_ n1_; (try clear hb); (try clear hb2); (try clear hk); (try clear hi))); go_ret
  exact ⟨t3_, t39_⟩

/-! ### slices_Index_int64_int64: function 103 -/
def slices_Index_int64_int64.l0 : Nat → List Int → Int → Int → Int → Option (Int)
 | 0, _, _, _, _ => none
 | k + 1, x0, x1, x7, x8 => if x8 < x7 then (if 0 ≤ x8 then (if x8 < (x0.length : Int) then (if x1 = (rd x0 x8) then (some x8) else (slices_Index_int64_int64.l0 k x0 x1 x7 (wrap64 (x8 + 1)))) else (none)) else (none)) else (some (-1))
def slices_Index_int64_int64.f (k : Nat) (l0 : List Int) (a1 : Int) : Option (Int) := slices_Index_int64_int64.l0 k l0 a1 (l0.length : Int) 0
theorem slices_Index_int64_int64.mono_l : ∀ k, (∀ y0 y1 y2 y3, LeO (slices_Index_int64_int64.l0 k y0 y1 y2 y3) (slices_Index_int64_int64.l0 (k + 1) y0 y1 y2 y3))
 | 0 => fun _ _ _ _ r h => by simp [slices_Index_int64_int64.l0] at h
 | k + 1 => by
  have ih0 := slices_Index_int64_int64.mono_l k
  ·intro y0 y1 y2 y3
   unfold slices_Index_int64_int64.l0
   repeat' first
   | (with_reducible exact ih0 _ _ _ _)
   | (with_reducible exact LeO.refl _)
   | (with_reducible exact LeO.none _)
   | (with_reducible refine LeO.ite ?_ ?_)
   | (with_reducible refine LeO.bind ?_ (fun _ => ?_))
theorem slices_Index_int64_int64.mono : ∀ a0 a1 k, LeO (slices_Index_int64_int64.f k a0 a1) (slices_Index_int64_int64.f (k + 1) a0 a1) := by
 intro a0 a1 k; have ih0 := slices_Index_int64_int64.mono_l k; unfold slices_Index_int64_int64.f
 repeat' first
   | (with_reducible exact ih0 _ _ _ _)
   | (with_reducible exact LeO.refl _)
   | (with_reducible exact LeO.none _)
   | (with_reducible refine LeO.ite ?_ ?_)
   | (with_reducible refine LeO.bind ?_ (fun _ => ?_))
set_option maxHeartbeats 8000000 in
set_option maxRecDepth 100000 in
theorem slices_Index_int64_int64.calls (k : Nat) (A0 : Option Addr) (c0 : Nat) (l0 : List Int) (a1 : Int) (r : Int) (w : World) (hr0 : Kd.C (Kd.int .i64) w A0 l0.length l0) (hc0 : l0.length ≤ c0) (h : slices_Index_int64_int64.f k l0 a1 = some r) :
  Calls Try.prog 103 #[.slice A0 l0.length c0, .int .i64 a1] w fun e w' => e = .returned (.int .i64 r) ∧ Drawn0 w w' := by
 have HR0 := a_ hr0; have HC0 := a_ hc0; clear hr0 hc0; have H : (slices_Index_int64_int64.l0 k l0 a1 (l0.length : Int) 0) = some r := h; clear h; have H' := a_ H; clear H; go_enter Try.func103, Try.ntmps103; go_wp2; go_loopg [8] k (fun kq v8 w' => ∃ (x8_1 : Int), v8 = .int .i64 x8_1 ∧ Aside0 (slices_Index_int64_int64.l0 kq l0 a1 (l0.length : Int) x8_1 = some r) ∧ Aside0 (kq ≤ k) ∧ Drawn0 w w')
 case atStart => exact ⟨(0), t6_, H', ⟨Nat.le_refl _⟩, t14_⟩
 case round =>
  clear H'; (try clear c1); (try clear p2); obtain ⟨x8_1, rfl, HA, HK1, ⟨m1, rfl⟩⟩ := hrel; cases gk with
  | zero => exact absurd HA.out (by simp [slices_Index_int64_int64.l0])
  | succ k1 =>
   have H := HA.out; clear HA; simp only [slices_Index_int64_int64.l0] at H; by_cases c3 : x8_1 < (l0.length : Int)
   ·rw [if_pos c3] at H; have c3b0 : decide (x8_1 < (l0.length : Int)) = true := d1_ c3; clear c3; by_cases c4 : 0 ≤ x8_1
    ·rw [if_pos c4] at H; have c4b0 : decide (0 ≤ x8_1) = true := d1_ c4; clear c4; by_cases c5 : x8_1 < (l0.length : Int)
     ·rw [if_pos c5] at H; have c5b0 : decide (x8_1 < (l0.length : Int)) = true := d1_ c5; clear c5; by_cases c6 : a1 = (rd l0 x8_1)
      ·rw [if_pos c6] at H; have c6b0 : (a1 == (rd l0 x8_1)) = true := b1_ c6; have c6b1 : (a1 != (rd l0 x8_1)) = false := b4_ c6; clear c6; obtain rfl := Option.some.inj H; have p337 : 0 ≤ (x8_1 : Int) := od_; have q337 : x8_1 < (l0.length : Int) := od_; obtain ⟨ad337, e337, hx337_0⟩ := Kd.at_int HR0.out x8_1 p337 q337; cases e337; replace p337 := eq_true p337; replace q337 := eq_true q337; go_wp2; go_ret
       exact ⟨t6_, t14_⟩
      ·rw [if_neg c6] at H; have c6b0 : (a1 == (rd l0 x8_1)) = false := b2_ c6; have c6b1 : (a1 != (rd l0 x8_1)) = true := b3_ c6; have H' := a_ H; clear H; have p337 : 0 ≤ (x8_1 : Int) := od_; have q337 : x8_1 < (l0.length : Int) := od_; obtain ⟨ad337, e337, hx337_0⟩ := Kd.at_int HR0.out x8_1 p337 q337; cases e337; replace p337 := eq_true p337; replace q337 := eq_true q337; go_wp2; go_roundg k1
       case measure => have := HK1.out; omega
       case rel => exact ⟨(wrap64 (x8_1 + 1)), t6_, H', ⟨t50_⟩, t14_⟩
     ·rw [if_neg c5] at H; exact absurd H t53_
    ·rw [if_neg c4] at H; exact absurd H t53_
   ·rw [if_neg c3] at H; have c3b0 : decide (x8_1 < (l0.length : Int)) = false := d2_ c3; clear c3; obtain rfl := Option.some.inj H; go_wp2; go_ret
    exact ⟨t6_, t14_⟩

/-! ### slices_Contains_int64_int64: function 71 -/
def slices_Contains_int64_int64.f (k : Nat) (l0 : List Int) (a1 : Int) : Option (Bool) := (slices_Index_int64_int64.f k l0 a1).bind fun t338 => (some (decide (t338 ≥ 0)))
theorem slices_Contains_int64_int64.mono : ∀ a0 a1 k, LeO (slices_Contains_int64_int64.f k a0 a1) (slices_Contains_int64_int64.f (k + 1) a0 a1) := by
 intro a0 a1 k; unfold slices_Contains_int64_int64.f
 repeat' first
   | (with_reducible exact slices_Index_int64_int64.mono _ _ _)
   | (with_reducible exact LeO.refl _)
   | (with_reducible exact LeO.none _)
   | (with_reducible refine LeO.ite ?_ ?_)
   | (with_reducible refine LeO.bind ?_ (fun _ => ?_))
set_option maxHeartbeats 8000000 in
set_option maxRecDepth 100000 in
theorem slices_Contains_int64_int64.calls (k : Nat) (A0 : Option Addr) (c0 : Nat) (l0 : List Int) (a1 : Int) (r : Bool) (w : World) (hr0 : Kd.C (Kd.int .i64) w A0 l0.length l0) (hc0 : l0.length ≤ c0) (h : slices_Contains_int64_int64.f k l0 a1 = some r) :
  Calls Try.prog 71 #[.slice A0 l0.length c0, .int .i64 a1] w fun e w' => e = .returned (.bool r) ∧ Drawn0 w w' := by
 have HR0 := a_ hr0; have HC0 := a_ hc0; clear hr0 hc0; have H : ((slices_Index_int64_int64.f k l0 a1).bind fun t338 => (some (decide (t338 ≥ 0)))) = some r := h; clear h; replace H := be_ H; obtain ⟨t338, A30, H⟩ := H; have A3 := a_ A30; clear A30; obtain rfl := Option.some.inj H; go_enter Try.func71, Try.ntmps71; go_wp2_with (first | ((with_reducible refine gate_callee (f := 103) rfl ?_); refine goesL_ (some 7) rfl rfl Try.func103 t9_ rfl #[.slice A0 l0.length c0, .int .i64 a1] rfl t2_ ?_; (with_reducible refine (slices_Index_int64_int64.calls k _ _ l0 a1 t338 _ ?side1 ?side2 A3.out).mono ?_); (case side1 => exact qc_ HR0.out); (case side2 => exact HC0.out); rintro e w' ⟨rfl, ⟨nd, rfl⟩⟩; refine ⟨_, rfl, ?_⟩)); go_ret
 exact ⟨t6_, t14_⟩

/-! ### impl_stands_1: function 108 -/
def impl_stands_1.f (a0_0 : ByteArray) (a0_1 : ByteArray) (a0_2 : Bool) (l1 : List ByteArray) (l2 : List Bool) : Option (Bool) := if 0 < (l1.length : Int) then (if a0_1.toList = (rdOf ByteArray.empty l1 0).toList then (if 0 < (l2.length : Int) then (some (a0_2 == (rdOf false l2 0))) else (none)) else (some false)) else (none)
set_option maxHeartbeats 8000000 in
set_option maxRecDepth 100000 in
theorem impl_stands_1.calls (a0_0 : ByteArray) (a0_1 : ByteArray) (a0_2 : Bool) (A1 : Option Addr) (c1 : Nat) (l1 : List ByteArray) (A2 : Option Addr) (c2 : Nat) (l2 : List Bool) (r : Bool) (w : World) (hr1 : Kd.C Kd.string w A1 l1.length l1) (hc1 : l1.length ≤ c1) (hr2 : Kd.C Kd.bool w A2 l2.length l2) (hc2 : l2.length ≤ c2) (h : impl_stands_1.f a0_0 a0_1 a0_2 l1 l2 = some r) :
  Calls Try.prog 108 #[.agg #[.string a0_0, .string a0_1, .bool a0_2], .pointer A1, .pointer A2] w fun e w' => e = .returned (.bool r) ∧ Below w.heap.size w w' := by
 have hu51 := Try.underlying51; have HR1 := a_ hr1; have HC1 := a_ hc1; clear hr1 hc1; have HR2 := a_ hr2; have HC2 := a_ hc2; clear hr2 hc2; have HB := a_ (Below.refl w.heap.size w); have H : (if 0 < (l1.length : Int) then (if a0_1.toList = (rdOf ByteArray.empty l1 0).toList then (if 0 < (l2.length : Int) then (some (a0_2 == (rdOf false l2 0))) else (none)) else (some false)) else (none)) = some r := h; clear h; by_cases c4 : 0 < (l1.length : Int)
 ·rw [if_pos c4] at H; have c4b0 : decide (0 < (l1.length : Int)) = true := d1_ c4; have c4b1 : decide (0 < l1.length) = true := decide_eq_true t23_; clear c4; by_cases c5 : a0_1.toList = (rdOf ByteArray.empty l1 0).toList
  ·rw [if_pos c5] at H; have c5b0 : (a0_1.toList == (rdOf ByteArray.empty l1 0).toList) = true := b1_ c5; have c5b1 : (a0_1.toList != (rdOf ByteArray.empty l1 0).toList) = false := b4_ c5; clear c5; by_cases c6 : 0 < (l2.length : Int)
   ·rw [if_pos c6] at H; have c6b0 : decide (0 < (l2.length : Int)) = true := d1_ c6; have c6b1 : decide (0 < l2.length) = true := decide_eq_true t23_; clear c6; obtain rfl := Option.some.inj H; go_enter Try.func108, Try.ntmps108; go_wp2_with (first | ((with_reducible refine gate_dst (N := 3) rfl ?_); refine box_event ?hg (N := 3) ?hd (cs := #[.string a0_0, .string a0_1, .bool a0_2]) (t := 51) ?hr ?_; (case hd => rfl); (case hg => rfl); (case hr => first | (go_simp; done) | (go_simp; rfl)); intro gb339 hg w7 hbox hb; have n0_ := a_ (below_step t1_ hb); have n1_ := a_ (hbox); have n2_ := a_ ((by rw [hg]; exact (below_size t1_) : w.heap.size ≤ gb339)); have n3_ := a_ ((by rw [hg]; exact (below_size t1_) : w.heap.size ≤ gb339)); clear HB; have HB := n0_; have BK339 := n1_; have GW339 := n2_; have GE339 := n3_; clear n0_ n1_ n2_ n3_; clear hb hbox hg; have ⟨hcz8_0, hcz8_1, hcz8_2, hfz8_0, hfz8_1, hfz8_2⟩ := bc3_ BK339.out; have p340 : 0 ≤ (0 : Int) := t23_; have q340 : 0 < (l1.length : Int) := od_; obtain ⟨ad340, e340, hx340_0⟩ := Kd.at_string HR1.out 0 p340 q340; cases e340; have qi340 : (0 < l1.length) = True := eq_true t23_; (try rw [show ((0 : Int)).toNat = 0 from rfl] at hx340_0); (try rw [Addr.add_zero'] at hx340_0); replace hx340_0 := (HB.out.cell (World.block_lt_of_cell? w _ hx340_0)).trans hx340_0; replace p340 := eq_true p340; replace q340 := eq_true q340; have p341 : 0 ≤ (0 : Int) := t23_; have q341 : 0 < (l2.length : Int) := od_; obtain ⟨ad341, e341, hx341_0⟩ := Kd.at_bool HR2.out 0 p341 q341; cases e341; have qi341 : (0 < l2.length) = True := eq_true t23_; (try rw [show ((0 : Int)).toNat = 0 from rfl] at hx341_0); (try rw [Addr.add_zero'] at hx341_0); replace hx341_0 := (HB.out.cell (World.block_lt_of_cell? w _ hx341_0)).trans hx341_0; replace p341 := eq_true p341; replace q341 := eq_true q341)); go_ret
    exact ⟨t3_, (by repeat (first | (with_reducible first | exact HB.out | apply below_alloc | apply pw_below_drewN | apply below_drew1 | refine below_set ?_ GE339.out) | exact HB.out))⟩
   ·rw [if_neg c6] at H; exact absurd H t53_
  ·rw [if_neg c5] at H; have c5b0 : (a0_1.toList == (rdOf ByteArray.empty l1 0).toList) = false := b2_ c5; have c5b1 : (a0_1.toList != (rdOf ByteArray.empty l1 0).toList) = true := b3_ c5; obtain rfl := Option.some.inj H; go_enter Try.func108, Try.ntmps108; go_wp2_with (first | ((with_reducible refine gate_dst (N := 3) rfl ?_); refine box_event ?hg (N := 3) ?hd (cs := #[.string a0_0, .string a0_1, .bool a0_2]) (t := 51) ?hr ?_; (case hd => rfl); (case hg => rfl); (case hr => first | (go_simp; done) | (go_simp; rfl)); intro gb339 hg w9 hbox hb; have n0_ := a_ (below_step t1_ hb); have n1_ := a_ (hbox); have n2_ := a_ ((by rw [hg]; exact (below_size t1_) : w.heap.size ≤ gb339)); have n3_ := a_ ((by rw [hg]; exact (below_size t1_) : w.heap.size ≤ gb339)); clear HB; have HB := n0_; have BK339 := n1_; have GW339 := n2_; have GE339 := n3_; clear n0_ n1_ n2_ n3_; clear hb hbox hg; have ⟨hcz10_0, hcz10_1, hcz10_2, hfz10_0, hfz10_1, hfz10_2⟩ := bc3_ BK339.out; have p340 : 0 ≤ (0 : Int) := t23_; have q340 : 0 < (l1.length : Int) := od_; obtain ⟨ad340, e340, hx340_0⟩ := Kd.at_string HR1.out 0 p340 q340; cases e340; have qi340 : (0 < l1.length) = True := eq_true t23_; (try rw [show ((0 : Int)).toNat = 0 from rfl] at hx340_0); (try rw [Addr.add_zero'] at hx340_0); replace hx340_0 := (HB.out.cell (World.block_lt_of_cell? w _ hx340_0)).trans hx340_0; replace p340 := eq_true p340; replace q340 := eq_true q340)); go_ret
   exact ⟨t3_, (by repeat (first | (with_reducible first | exact HB.out | apply below_alloc | apply pw_below_drewN | apply below_drew1 | refine below_set ?_ GE339.out) | exact HB.out))⟩
 ·rw [if_neg c4] at H; exact absurd H t53_

/-! ### impl_Valve_107_c108: function 107 -/
def impl_Valve_107_c108.l0 : Nat → List (S51) → Int → Int → List ByteArray → List Bool → Option (Int)
 | 0, _, _, _, _, _ => none
 | k + 1, x0, x7, x8, x910, x911 => if x8 < x7 then (if 0 ≤ x8 then (if x8 < (x0.length : Int) then ((impl_stands_1.f ((rd_T51 x0 x8).f0) ((rd_T51 x0 x8).f1) ((rd_T51 x0 x8).f2) x910 x911).bind fun t345 => (if t345 = true then (some x8) else (impl_Valve_107_c108.l0 k x0 x7 (wrap64 (x8 + 1)) x910 x911))) else (none)) else (none)) else (some (-1))
def impl_Valve_107_c108.f (k : Nat) (l0 : List (S51)) (l1_0 : List ByteArray) (l1_1 : List Bool) : Option (Int) := impl_Valve_107_c108.l0 k l0 (l0.length : Int) 0 l1_0 l1_1
theorem impl_Valve_107_c108.mono_l : ∀ k, (∀ y0 y1 y2 y3 y4, LeO (impl_Valve_107_c108.l0 k y0 y1 y2 y3 y4) (impl_Valve_107_c108.l0 (k + 1) y0 y1 y2 y3 y4))
 | 0 => fun _ _ _ _ _ r h => by simp [impl_Valve_107_c108.l0] at h
 | k + 1 => by
  have ih0 := impl_Valve_107_c108.mono_l k
  ·intro y0 y1 y2 y3 y4
   unfold impl_Valve_107_c108.l0
   repeat' first
   | (with_reducible exact ih0 _ _ _ _ _)
   | (with_reducible exact LeO.refl _)
   | (with_reducible exact LeO.none _)
   | (with_reducible refine LeO.ite ?_ ?_)
   | (with_reducible refine LeO.bind ?_ (fun _ => ?_))
theorem impl_Valve_107_c108.mono : ∀ a0 a1 a2 k, LeO (impl_Valve_107_c108.f k a0 a1 a2) (impl_Valve_107_c108.f (k + 1) a0 a1 a2) := by
 intro a0 a1 a2 k; have ih0 := impl_Valve_107_c108.mono_l k; unfold impl_Valve_107_c108.f
 repeat' first
   | (with_reducible exact ih0 _ _ _ _ _)
   | (with_reducible exact LeO.refl _)
   | (with_reducible exact LeO.none _)
   | (with_reducible refine LeO.ite ?_ ?_)
   | (with_reducible refine LeO.bind ?_ (fun _ => ?_))
set_option maxHeartbeats 8000000 in
set_option maxRecDepth 100000 in
theorem impl_Valve_107_c108.calls (k : Nat) (A0 : Option Addr) (c0 : Nat) (l0 : List (S51)) (A1_0 : Option Addr) (c1_0 : Nat) (l1_0 : List ByteArray) (A1_1 : Option Addr) (c1_1 : Nat) (l1_1 : List Bool) (r : Int) (w : World) (hr0 : Kd.C k51 w A0 l0.length l0) (hc0 : l0.length ≤ c0) (hr1_0 : Kd.C Kd.string w A1_0 l1_0.length l1_0) (hc1_0 : l1_0.length ≤ c1_0) (hr1_1 : Kd.C Kd.bool w A1_1 l1_1.length l1_1) (hc1_1 : l1_1.length ≤ c1_1) (h : impl_Valve_107_c108.f k l0 l1_0 l1_1 = some r) :
  Calls Try.prog 107 #[.slice A0 l0.length c0, .func (.func 108) #[] #[.pointer A1_0, .pointer A1_1]] w fun e w' => e = .returned (.int .i64 r) ∧ Below w.heap.size w w' := by
 have hu51 := Try.underlying51; have HR0 := a_ hr0; have HC0 := a_ hc0; clear hr0 hc0; have HR1_0 := a_ hr1_0; have HC1_0 := a_ hc1_0; clear hr1_0 hc1_0; have HR1_1 := a_ hr1_1; have HC1_1 := a_ hc1_1; clear hr1_1 hc1_1; have HB := a_ (Below.refl w.heap.size w); have H : (impl_Valve_107_c108.l0 k l0 (l0.length : Int) 0 l1_0 l1_1) = some r := h; clear h; have H' := a_ H; clear H; go_enter Try.func107, Try.ntmps107; go_wp2; go_loopg [8] k (fun kq v8 w' => ∃ (x8_1 : Int), v8 = .int .i64 x8_1 ∧ Aside0 (impl_Valve_107_c108.l0 kq l0 (l0.length : Int) x8_1 l1_0 l1_1 = some r) ∧ Aside0 (kq ≤ k) ∧ Aside0 (Below w.heap.size w w'))
 case atStart => exact ⟨(0), t6_, H', ⟨Nat.le_refl _⟩, ⟨t1_⟩⟩
 case round =>
  clear H'; (try clear c1); (try clear p2); obtain ⟨x8_1, rfl, HA, HK1, HB⟩ := hrel; cases gk with
  | zero => exact absurd HA.out (by simp [impl_Valve_107_c108.l0])
  | succ k1 =>
   have H := HA.out; clear HA; simp only [impl_Valve_107_c108.l0] at H; by_cases c3 : x8_1 < (l0.length : Int)
   ·rw [if_pos c3] at H; have c3b0 : decide (x8_1 < (l0.length : Int)) = true := d1_ c3; clear c3; by_cases c4 : 0 ≤ x8_1
    ·rw [if_pos c4] at H; have c4b0 : decide (0 ≤ x8_1) = true := d1_ c4; clear c4; by_cases c5 : x8_1 < (l0.length : Int)
     ·rw [if_pos c5] at H; have c5b0 : decide (x8_1 < (l0.length : Int)) = true := d1_ c5; clear c5; replace H := be_ H; obtain ⟨t345, A60, H⟩ := H; have A6 := a_ A60; clear A60; by_cases c7 : t345 = true
      ·subst c7; replace H := (if_pos rfl).symm.trans H; obtain rfl := Option.some.inj H; have p344 : 0 ≤ (x8_1 : Int) := od_; have q344 : x8_1 < (l0.length : Int) := od_; obtain ⟨ad344, e344, hx344_0, hx344_1, hx344_2⟩ := at_T51 HR0.out x8_1 p344 q344; cases e344; replace hx344_0 := hb_ HB hx344_0; replace hx344_1 := hb_ HB hx344_1; replace hx344_2 := hb_ HB hx344_2; replace p344 := eq_true p344; replace q344 := eq_true q344; go_wp2_with (first | (go_at_call 108; (with_reducible refine (impl_stands_1.calls ((rd_T51 l0 x8_1).f0) ((rd_T51 l0 x8_1).f1) ((rd_T51 l0 x8_1).f2) _ c1_0 l1_0 _ c1_1 l1_1 true _ ?side1 ?side2 ?side3 ?side4 A6.out).mono ?_); (case side1 => exact qc_ (Kd.C_below HR1_0.out HB.out)); (case side2 => exact HC1_0.out); (case side3 => exact qc_ (Kd.C_below HR1_1.out HB.out)); (case side4 => exact HC1_1.out); rintro e w8 ⟨rfl, hb⟩; have n0_ := a_ (below_step t1_ hb); clear HB; have HB := n0_; clear n0_; (try clear hb); (try clear hb2); (try clear hk); (try clear hi))); go_ret
       exact ⟨t3_, t1_⟩
      ·replace c7 := Bool.eq_false_iff.mpr c7; subst c7; replace H := (if_neg (show ¬ (false = true) by decide)).symm.trans H; have H' := a_ H; clear H; have p344 : 0 ≤ (x8_1 : Int) := od_; have q344 : x8_1 < (l0.length : Int) := od_; obtain ⟨ad344, e344, hx344_0, hx344_1, hx344_2⟩ := at_T51 HR0.out x8_1 p344 q344; cases e344; replace hx344_0 := hb_ HB hx344_0; replace hx344_1 := hb_ HB hx344_1; replace hx344_2 := hb_ HB hx344_2; replace p344 := eq_true p344; replace q344 := eq_true q344; go_wp2_with (first | (go_at_call 108; (with_reducible refine (impl_stands_1.calls ((rd_T51 l0 x8_1).f0) ((rd_T51 l0 x8_1).f1) ((rd_T51 l0 x8_1).f2) _ c1_0 l1_0 _ c1_1 l1_1 false _ ?side1 ?side2 ?side3 ?side4 A6.out).mono ?_); (case side1 => exact qc_ (Kd.C_below HR1_0.out HB.out)); (case side2 => exact HC1_0.out); (case side3 => exact qc_ (Kd.C_below HR1_1.out HB.out)); (case side4 => exact HC1_1.out); rintro e w9 ⟨rfl, hb⟩; have n0_ := a_ (below_step t1_ hb); clear HB; have HB := n0_; clear n0_; (try clear hb); (try clear hb2); (try clear hk); (try clear hi))); go_roundg k1
       case measure => have := HK1.out; omega
       case rel => exact ⟨(wrap64 (x8_1 + 1)), t6_, H', ⟨t50_⟩, ⟨t1_⟩⟩
     ·rw [if_neg c5] at H; exact absurd H t53_
    ·rw [if_neg c4] at H; exact absurd H t53_
   ·rw [if_neg c3] at H; have c3b0 : decide (x8_1 < (l0.length : Int)) = false := d2_ c3; clear c3; obtain rfl := Option.some.inj H; go_wp2; go_ret
    exact ⟨t3_, t1_⟩

/-! ### impl_Valve_77_c108: function 77 -/
def impl_Valve_77_c108.f (k : Nat) (l0 : List (S51)) (l1_0 : List ByteArray) (l1_1 : List Bool) : Option (Bool) := (impl_Valve_107_c108.f k l0 l1_0 l1_1).bind fun t346 => (some (decide (t346 ≥ 0)))
theorem impl_Valve_77_c108.mono : ∀ a0 a1 a2 k, LeO (impl_Valve_77_c108.f k a0 a1 a2) (impl_Valve_77_c108.f (k + 1) a0 a1 a2) := by
 intro a0 a1 a2 k; unfold impl_Valve_77_c108.f
 repeat' first
   | (with_reducible exact impl_Valve_107_c108.mono _ _ _ _)
   | (with_reducible exact LeO.refl _)
   | (with_reducible exact LeO.none _)
   | (with_reducible refine LeO.ite ?_ ?_)
   | (with_reducible refine LeO.bind ?_ (fun _ => ?_))
set_option maxHeartbeats 8000000 in
set_option maxRecDepth 100000 in
theorem impl_Valve_77_c108.calls (k : Nat) (A0 : Option Addr) (c0 : Nat) (l0 : List (S51)) (A1_0 : Option Addr) (c1_0 : Nat) (l1_0 : List ByteArray) (A1_1 : Option Addr) (c1_1 : Nat) (l1_1 : List Bool) (r : Bool) (w : World) (hr0 : Kd.C k51 w A0 l0.length l0) (hc0 : l0.length ≤ c0) (hr1_0 : Kd.C Kd.string w A1_0 l1_0.length l1_0) (hc1_0 : l1_0.length ≤ c1_0) (hr1_1 : Kd.C Kd.bool w A1_1 l1_1.length l1_1) (hc1_1 : l1_1.length ≤ c1_1) (h : impl_Valve_77_c108.f k l0 l1_0 l1_1 = some r) :
  Calls Try.prog 77 #[.slice A0 l0.length c0, .func (.func 108) #[] #[.pointer A1_0, .pointer A1_1]] w fun e w' => e = .returned (.bool r) ∧ Below w.heap.size w w' := by
 have HR0 := a_ hr0; have HC0 := a_ hc0; clear hr0 hc0; have HR1_0 := a_ hr1_0; have HC1_0 := a_ hc1_0; clear hr1_0 hc1_0; have HR1_1 := a_ hr1_1; have HC1_1 := a_ hc1_1; clear hr1_1 hc1_1; have HB := a_ (Below.refl w.heap.size w); have H : ((impl_Valve_107_c108.f k l0 l1_0 l1_1).bind fun t346 => (some (decide (t346 ≥ 0)))) = some r := h; clear h; replace H := be_ H; obtain ⟨t346, A30, H⟩ := H; have A3 := a_ A30; clear A30; obtain rfl := Option.some.inj H; go_enter Try.func77, Try.ntmps77; go_wp2_with (first | ((with_reducible refine gate_callee (f := 107) rfl ?_); refine goesL_ (some 7) rfl rfl Try.func107 t9_ rfl #[.slice A0 l0.length c0, .func (.func 108) #[] #[.pointer A1_0, .pointer A1_1]] rfl t2_ ?_; (with_reducible refine (impl_Valve_107_c108.calls k _ _ l0 _ c1_0 l1_0 _ c1_1 l1_1 t346 _ ?side1 ?side2 ?side3 ?side4 ?side5 ?side6 A3.out).mono ?_); (case side1 => exact qc_ HR0.out); (case side2 => exact HC0.out); (case side3 => exact qc_ HR1_0.out); (case side4 => exact HC1_0.out); (case side5 => exact qc_ HR1_1.out); (case side6 => exact HC1_1.out); rintro e w4 ⟨rfl, hb⟩; refine ⟨_, rfl, ?_⟩; have n0_ := a_ (below_step t1_ hb); clear HB; have HB := n0_; clear n0_; (try clear hb); (try clear hb2); (try clear hk); (try clear hi))); go_ret
 exact ⟨t3_, t1_⟩

/-! ### impl_stands: function 79 -/
def impl_stands.f (k : Nat) (l0 : List (S51)) (a1 : ByteArray) (a2 : Bool) : Option (Bool) := (impl_Valve_77_c108.f k l0 [a1] [a2]).bind fun t349 => (some t349)
theorem impl_stands.mono : ∀ a0 a1 a2 k, LeO (impl_stands.f k a0 a1 a2) (impl_stands.f (k + 1) a0 a1 a2) := by
 intro a0 a1 a2 k; unfold impl_stands.f
 repeat' first
   | (with_reducible exact impl_Valve_77_c108.mono _ _ _ _)
   | (with_reducible exact LeO.refl _)
   | (with_reducible exact LeO.none _)
   | (with_reducible refine LeO.ite ?_ ?_)
   | (with_reducible refine LeO.bind ?_ (fun _ => ?_))
set_option maxHeartbeats 8000000 in
set_option maxRecDepth 100000 in
theorem impl_stands.calls (k : Nat) (A0 : Option Addr) (c0 : Nat) (l0 : List (S51)) (a1 : ByteArray) (a2 : Bool) (r : Bool) (w : World) (hr0 : Kd.C k51 w A0 l0.length l0) (hc0 : l0.length ≤ c0) (h : impl_stands.f k l0 a1 a2 = some r) :
  Calls Try.prog 79 #[.slice A0 l0.length c0, .string a1, .bool a2] w fun e w' => e = .returned (.bool r) ∧ Below w.heap.size w w' := by
 have HR0 := a_ hr0; have HC0 := a_ hc0; clear hr0 hc0; have HB := a_ (Below.refl w.heap.size w); have H : ((impl_Valve_77_c108.f k l0 [a1] [a2]).bind fun t349 => (some t349)) = some r := h; clear h; replace H := be_ H; obtain ⟨t349, A40, H⟩ := H; have A4 := a_ A40; clear A40; obtain rfl := Option.some.inj H; go_enter Try.func79, Try.ntmps79; go_wp2_with (first | ((with_reducible refine gate_dst (N := 4) rfl ?_); refine box_event ?hg (N := 4) ?hd (cs := #[.string a1]) (t := 9) ?hr ?_; (case hd => rfl); (case hg => rfl); (case hr => first | (go_simp; done) | (go_simp; rfl)); intro gb347 hg w5 hbox hb; have n0_ := a_ (below_step t1_ hb); have n1_ := a_ (hbox); have n2_ := a_ ((by rw [hg]; exact (below_size t1_) : w.heap.size ≤ gb347)); have n3_ := a_ ((by rw [hg]; exact (below_size t1_) : w.heap.size ≤ gb347)); clear HB; have HB := n0_; have BK347 := n1_; have GW347 := n2_; have GE347 := n3_; clear n0_ n1_ n2_ n3_; clear hb hbox hg) | ((with_reducible refine gate_dst (N := 5) rfl ?_); refine box_event ?hg (N := 5) ?hd (cs := #[.bool a2]) (t := 4) ?hr ?_; (case hd => rfl); (case hg => rfl); (case hr => first | (go_simp; done) | (go_simp; rfl)); intro gb348 hg w6 hbox hb; have n0_ := a_ (blk_below (g := gb347) (o := .cells #[.string a1] 9 (0, 0)) (q1_ BK347.out) hb); have n1_ := a_ (below_step t74_ hb); have n2_ := a_ (hbox); have n3_ := a_ ((by rw [hg]; exact (below_size t74_) : w.heap.size ≤ gb348)); have n4_ := a_ ((by rw [hg]; exact (below_size t74_) : w.heap.size ≤ gb348)); have n5_ := a_ ((by rw [hg]; exact Nat.ne_of_lt (blk_lt (g := gb347) (o := .cells #[.string a1] 9 (0, 0)) (q1_ BK347.out)) : gb347 ≠ gb348)); have n6_ := a_ ((by rw [hg]; exact Nat.ne_of_gt (blk_lt (g := gb347) (o := .cells #[.string a1] 9 (0, 0)) (q1_ BK347.out)) : gb348 ≠ gb347)); clear BK347; clear HB; have BK347 := n0_; have HB := n1_; have BK348 := n2_; have GW348 := n3_; have GE348 := n4_; have NB347_348 := n5_; have NB348_347 := n6_; clear n0_ n1_ n2_ n3_ n4_ n5_ n6_; clear hb hbox hg) | ((with_reducible refine gate_callee (f := 77) rfl ?_); refine goesL_ (some 9) rfl rfl Try.func77 t9_ rfl #[.slice A0 l0.length c0, .func (.func 108) #[] #[.pointer (some ⟨gb347, 0, none⟩), .pointer (some ⟨gb348, 0, none⟩)]] rfl t2_ ?_; (with_reducible refine (impl_Valve_77_c108.calls k _ _ l0 _ 1 [a1] _ 1 [a2] t349 _ ?side1 ?side2 ?side3 ?side4 ?side5 ?side6 A4.out).mono ?_); (case side1 => exact qc_ (Kd.C_below HR0.out HB.out)); (case side2 => exact HC0.out); (case side3 => exact Kd.C_one (d := Kd.string) (rfl) (cells_blk (cs := #[.string a1]) (t := 9) (q1_ BK347.out))); (case side4 => exact Nat.le_refl _); (case side5 => exact Kd.C_one (d := Kd.bool) (rfl) (cells_blk (cs := #[.bool a2]) (t := 4) (q1_ BK348.out))); (case side6 => exact Nat.le_refl _); rintro e w7 ⟨rfl, hb⟩; refine ⟨_, rfl, ?_⟩; have n0_ := a_ (blk_below (g := gb347) (o := .cells #[.string a1] 9 (0, 0)) (q1_ BK347.out) hb); have n1_ := a_ (blk_below (g := gb348) (o := .cells #[.bool a2] 4 (0, 0)) (q1_ BK348.out) hb); have n2_ := a_ (below_step (by repeat (first | (with_reducible first | exact HB.out | apply below_alloc | apply pw_below_drewN | apply below_drew1 | refine below_set ?_ GE347.out | refine below_set ?_ GE348.out) | exact HB.out)) hb); clear BK347; clear BK348; clear HB; have BK347 := n0_; have BK348 := n1_; have HB := n2_; clear n0_ n1_ n2_; (try clear hb); (try clear hb2); (try clear hk); (try clear hi))); go_ret
 exact ⟨t3_, (by repeat (first | (with_reducible first | exact HB.out | apply below_alloc | apply pw_below_drewN | apply below_drew1 | refine below_set ?_ GE347.out | refine below_set ?_ GE348.out) | exact HB.out))⟩

-- function 151 is told with the one that calls it

-- function 141 is told with the one that calls it

-- function 135 is told with the one that calls it

-- function 146 is told with the one that calls it

-- function 136 is told with the one that calls it

-- function 144 is told with the one that calls it

-- function 145 is told with the one that calls it

-- function 129 is told with the one that calls it

-- function 147 is told with the one that calls it

-- function 148 is told with the one that calls it

-- function 137 is told with the one that calls it

-- function 152 is told with the one that calls it

-- function 150 is told with the one that calls it

-- function 149 is told with the one that calls it

-- function 138 is told with the one that calls it

-- function 139 is told with the one that calls it

-- function 140 is told with the one that calls it

-- function 142 is told with the one that calls it

-- function 143 is told with the one that calls it

-- function 128 is told with the one that calls it

/-! ### slices_Sort_int64_int64: function 102 -/
def lsort__ren : Go.Shelf.Ren := ⟨fun | 5 => 102 | 8 => 129 | 7 => 128 | 19 => 144 | 20 => 145 | 10 => 135 | 11 => 136 | 12 => 137 | 13 => 138 | 14 => 139 | 15 => 140 | 16 => 141 | 17 => 142 | 18 => 143 | 30 => 146 | 31 => 147 | 32 => 148 | 33 => 149 | 34 => 150 | 35 => 151 | 40 => 152 | n => n, fun | 23 => 22 | 25 => 2 | 3 => 3 | 32 => 156 | 22 => 22 | 0 => 0 | 44 => 170 | 46 => 140 | 4 => 4 | 36 => 162 | 35 => 161 | 41 => 167 | 5 => 5 | 9 => 9 | 53 => 172 | 57 => 176 | 63 => 178 | 64 => 179 | n => n, fun | n => n⟩
theorem lsort_ : Go.Proofs.SlLaysM.n5 Try.prog lsort__ren := {
  mixed := by kernel_rfl
  f5 := ⟨Try.f102.name, t31_, Try.func102.trans (congrArg some t9_)⟩
  f7 := ⟨Try.f128.name, t31_, Try.func128.trans (congrArg some t9_)⟩
  f8 := Try.func129.trans (congrArg some t9_)
  f10 := ⟨Try.f135.name, t31_, Try.func135.trans (congrArg some t9_)⟩
  f11 := ⟨Try.f136.name, t31_, Try.func136.trans (congrArg some t9_)⟩
  f12 := ⟨Try.f137.name, t31_, Try.func137.trans (congrArg some t9_)⟩
  f13 := ⟨Try.f138.name, t31_, Try.func138.trans (congrArg some t9_)⟩
  f14 := ⟨Try.f139.name, t31_, Try.func139.trans (congrArg some t9_)⟩
  f15 := ⟨Try.f140.name, t31_, Try.func140.trans (congrArg some t9_)⟩
  f16 := ⟨Try.f141.name, t31_, Try.func141.trans (congrArg some t9_)⟩
  f17 := ⟨Try.f142.name, t31_, Try.func142.trans (congrArg some t9_)⟩
  f18 := ⟨Try.f143.name, t31_, Try.func143.trans (congrArg some t9_)⟩
  f19 := Try.func144.trans (congrArg some t9_)
  f20 := Try.func145.trans (congrArg some t9_)
  f30 := ⟨Try.f146.name, t31_, Try.func146.trans (congrArg some t9_)⟩
  f31 := Try.func147.trans (congrArg some t9_)
  f32 := Try.func148.trans (congrArg some t9_)
  f33 := ⟨Try.f149.name, t31_, Try.func149.trans (congrArg some t9_)⟩
  f34 := ⟨Try.f150.name, t31_, Try.func150.trans (congrArg some t9_)⟩
  f35 := ⟨Try.f151.name, t31_, Try.func151.trans (congrArg some t9_)⟩
  f40 := ⟨Try.f152.name, t31_, Try.func152.trans (congrArg some t9_)⟩
  t0 := Try.underlying0
  a0 := Try.isAgg0
  z0 := Try.sizeOf0
  v0 := Try.zeroValue0
  t3 := Try.underlying3
  a3 := Try.isAgg3
  z3 := Try.sizeOf3
  v3 := Try.zeroValue3
  t4 := Try.underlying4
  a4 := Try.isAgg4
  z4 := Try.sizeOf4
  v4 := Try.zeroValue4
  t5 := Try.underlying5
  a5 := Try.isAgg5
  z5 := Try.sizeOf5
  v5 := Try.zeroValue5
  t9 := Try.underlying9
  a9 := Try.isAgg9
  z9 := Try.sizeOf9
  v9 := Try.zeroValue9
  t22 := Try.underlying22
  a22 := Try.isAgg22
  z22 := Try.sizeOf22
  v22 := Try.zeroValue22
  t23 := Try.underlying22
  a23 := Try.isAgg22
  z23 := Try.sizeOf22
  v23 := Try.zeroValue22
  t25 := Try.underlying2
  a25 := Try.isAgg2
  z25 := Try.sizeOf2
  v25 := Try.zeroValue2
  t32 := Try.underlying156
  a32 := Try.isAgg156
  z32 := Try.sizeOf156
  v32 := Try.zeroValue156
  t35 := Try.underlying161
  a35 := Try.isAgg161
  z35 := Try.sizeOf161
  v35 := Try.zeroValue161
  t36 := Try.underlying162
  a36 := Try.isAgg162
  z36 := Try.sizeOf162
  v36 := Try.zeroValue162
  t41 := Try.underlying167
  a41 := Try.isAgg167
  z41 := Try.sizeOf167
  v41 := Try.zeroValue167
  t44 := Try.underlying170
  a44 := Try.isAgg170
  z44 := Try.sizeOf170
  v44 := Try.zeroValue170
  t46 := Try.underlying140
  a46 := Try.isAgg140
  z46 := Try.sizeOf140
  v46 := Try.zeroValue140
  t53 := Try.underlying172
  a53 := Try.isAgg172
  z53 := Try.sizeOf172
  v53 := Try.zeroValue172
  t57 := Try.underlying176
  a57 := Try.isAgg176
  z57 := Try.sizeOf176
  v57 := Try.zeroValue176
  t63 := Try.underlying178
  a63 := Try.isAgg178
  z63 := Try.sizeOf178
  v63 := Try.zeroValue178
  t64 := Try.underlying179
  a64 := Try.isAgg179
  z64 := Try.sizeOf179
  v64 := Try.zeroValue179 }

/-- slices.Sort: the row in order. -/
def slices_Sort_int64_int64.f (l0 : List Int) : Option (List Int) := if l0.length < 4611686018427387904 then some (l0.mergeSort fun x y => decide (x ≤ y)) else none
theorem slices_Sort_int64_int64.calls (P0_ : Nat → Prop) (u9000_ : Value) (l0 : List Int) (r : List Int) (w0 w : World) (hB : Below w0.heap.size w0 w) (ho0 : Kd.R (Kd.int .i64) 2 w w0.heap.size P0_ u9000_ l0) (h : slices_Sort_int64_int64.f l0 = some r) :
    Calls Try.prog 102 #[u9000_] w fun e w' => e = .returned (.tuple #[]) ∧ Kd.R (Kd.int .i64) 2 w' w0.heap.size (fun k_ => (P0_ k_ ∨ w.heap.size ≤ k_)) u9000_ r ∧ Below w0.heap.size w0 w' ∧ Kept w w' (fun k_ => P0_ k_) := by
  unfold slices_Sort_int64_int64.f at h
  by_cases hs : l0.length < 4611686018427387904
  · rw [if_pos hs] at h
    obtain rfl := Option.some.inj h; have hl : (l0.mergeSort fun x y => decide (x ≤ y)).length = l0.length := List.length_mergeSort l0; have hok := ho0.1; have ho : w.ownsRow w0.heap.size 2 1 u9000_ l0.length (encs (Value.int .i64) l0) := Kd.own_of_R ho0; obtain ⟨hlen, hrow⟩ := ho; rcases hrow with ⟨rfl, h0⟩ | ⟨g, cap, cur, rfl, hg, hblk, hn, hcap, hcur, htake⟩
    · have hl0 : l0 = [] := List.length_eq_zero_iff.1 h0
      subst hl0; refine (AnyM.slices_Sort_int_none lsort_ none 0 w).mono ?_; rintro e w' ⟨rfl, rfl⟩; exact ⟨rfl, (by rw [List.mergeSort_nil]; exact Kd.R_nil _ _ _ _ _), hB, Kept.refl _ _⟩
    · have hgs : g < w.heap.size := (Array.getElem?_eq_some_iff.1 hblk).1
      have ht : cur.toList.take l0.length = l0.map (Value.int .i64) := (by rw [Nat.mul_one] at htake; exact htake); refine (AnyM.slices_Sort_int lsort_ g 0 cap l0 w (holds_of_blockI hblk ht) hgs hs).mono ?_; rintro e w' ⟨rfl, n, os, rfl⟩; have hgr : w.grownBy (Sort.grow (Sort.putRow (Value.int .i64) (Sort.ahead w n) g 0 (l0.mergeSort fun x y => decide (x ≤ y)).toArray) os) (some g) := grownBy_sortedI _; have hw := ownsRow_sortedI (n := n) (os := os) hl hg hblk hn hcap hcur; refine ⟨rfl, ?_, hB.grown hgr hB.size (fun k e => by cases e; exact hg), ⟨hgr.size, fun i hi hni => hgr.block i hi (fun e => hni (hok i e.symm))⟩⟩; refine Kd.R_of_own ?_ (fun k hk => Or.inl (hok k hk)); rw [hl]; exact hw
  · rw [if_neg hs] at h; cases h

end Go.Proofs.Ytheokilgacmlmaa.PFnExactRegionNodes
