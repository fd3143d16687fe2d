-- written by wip/xprint.py, a program of this session, for this claim; not trusted: Lean checks it.
import Derived.Shelf.SortM.Plain
import Derived.Shelf.SortM.SortNone
import Derived.Shelf.SlicesG.CompactI
import Derived.Sort.OwnSortedInts
import Derived.Test.YtjelfhmgbhidnaaPFnExactCriticalPipesx0
import Derived.Test.YtjelfhmgbhidnaaPFnExactCriticalPipesx12
namespace Go.Proofs.Ytjelfhmgbhidnaa.PFnExactCriticalPipes
open Go.RowKit Go.Proofs.YtjelfhmgbhidnaaW.PrintWords Go.Proofs.YtjelfhmgbhidnaaW.PrintLast Go.Proofs.YtjelfhmgbhidnaaW.PrintMore
attribute [local go_sem] leq_less_ max2_int min2_int max_two min_two max_three min_three max_four min_four   -- for this text's walks alone
set_option linter.unusedVariables false
set_option linter.unusedSimpArgs false

/-! ### slices_Sort_int64_int64: function 97 -/
def lsort__ren : Go.Shelf.Ren := ⟨fun | 5 => 97 | 8 => 108 | 7 => 107 | 19 => 118 | 20 => 119 | 10 => 109 | 11 => 110 | 12 => 111 | 13 => 112 | 14 => 113 | 15 => 114 | 16 => 115 | 17 => 116 | 18 => 117 | 30 => 120 | 31 => 121 | 32 => 122 | 33 => 123 | 34 => 124 | 35 => 125 | 40 => 126 | n => n, fun | 23 => 22 | 25 => 2 | 3 => 3 | 32 => 121 | 22 => 22 | 0 => 0 | 44 => 132 | 46 => 134 | 4 => 4 | 36 => 124 | 35 => 123 | 41 => 129 | 5 => 5 | 9 => 9 | 53 => 135 | 57 => 139 | 63 => 141 | 64 => 142 | n => n, fun | n => n⟩
theorem lsort_ : Go.Proofs.SlLaysM.n5 Try.prog lsort__ren := {
  mixed := by kernel_rfl
  f5 := ⟨Try.f97.name, t31_, Try.func97.trans (congrArg some t14_)⟩
  f7 := ⟨Try.f107.name, t31_, Try.func107.trans (congrArg some t14_)⟩
  f8 := Try.func108.trans (congrArg some t14_)
  f10 := ⟨Try.f109.name, t31_, Try.func109.trans (congrArg some t14_)⟩
  f11 := ⟨Try.f110.name, t31_, Try.func110.trans (congrArg some t14_)⟩
  f12 := ⟨Try.f111.name, t31_, Try.func111.trans (congrArg some t14_)⟩
  f13 := ⟨Try.f112.name, t31_, Try.func112.trans (congrArg some t14_)⟩
  f14 := ⟨Try.f113.name, t31_, Try.func113.trans (congrArg some t14_)⟩
  f15 := ⟨Try.f114.name, t31_, Try.func114.trans (congrArg some t14_)⟩
  f16 := ⟨Try.f115.name, t31_, Try.func115.trans (congrArg some t14_)⟩
  f17 := ⟨Try.f116.name, t31_, Try.func116.trans (congrArg some t14_)⟩
  f18 := ⟨Try.f117.name, t31_, Try.func117.trans (congrArg some t14_)⟩
  f19 := Try.func118.trans (congrArg some t14_)
  f20 := Try.func119.trans (congrArg some t14_)
  f30 := ⟨Try.f120.name, t31_, Try.func120.trans (congrArg some t14_)⟩
  f31 := Try.func121.trans (congrArg some t14_)
  f32 := Try.func122.trans (congrArg some t14_)
  f33 := ⟨Try.f123.name, t31_, Try.func123.trans (congrArg some t14_)⟩
  f34 := ⟨Try.f124.name, t31_, Try.func124.trans (congrArg some t14_)⟩
  f35 := ⟨Try.f125.name, t31_, Try.func125.trans (congrArg some t14_)⟩
  f40 := ⟨Try.f126.name, t31_, Try.func126.trans (congrArg some t14_)⟩
  t0 := Try.underlying0
  a0 := Try.isAgg0
  z0 := Try.sizeOf0
  v0 := Try.zeroValue0
  t3 := Try.underlying3
  a3 := Try.isAgg3
  z3 := Try.sizeOf3
  v3 := Try.zeroValue3
  t4 := Try.underlying4
  a4 := Try.isAgg4
  z4 := Try.sizeOf4
  v4 := Try.zeroValue4
  t5 := Try.underlying5
  a5 := Try.isAgg5
  z5 := Try.sizeOf5
  v5 := Try.zeroValue5
  t9 := Try.underlying9
  a9 := Try.isAgg9
  z9 := Try.sizeOf9
  v9 := Try.zeroValue9
  t22 := Try.underlying22
  a22 := Try.isAgg22
  z22 := Try.sizeOf22
  v22 := Try.zeroValue22
  t23 := Try.underlying22
  a23 := Try.isAgg22
  z23 := Try.sizeOf22
  v23 := Try.zeroValue22
  t25 := Try.underlying2
  a25 := Try.isAgg2
  z25 := Try.sizeOf2
  v25 := Try.zeroValue2
  t32 := Try.underlying121
  a32 := Try.isAgg121
  z32 := Try.sizeOf121
  v32 := Try.zeroValue121
  t35 := Try.underlying123
  a35 := Try.isAgg123
  z35 := Try.sizeOf123
  v35 := Try.zeroValue123
  t36 := Try.underlying124
  a36 := Try.isAgg124
  z36 := Try.sizeOf124
  v36 := Try.zeroValue124
  t41 := Try.underlying129
  a41 := Try.isAgg129
  z41 := Try.sizeOf129
  v41 := Try.zeroValue129
  t44 := Try.underlying132
  a44 := Try.isAgg132
  z44 := Try.sizeOf132
  v44 := Try.zeroValue132
  t46 := Try.underlying134
  a46 := Try.isAgg134
  z46 := Try.sizeOf134
  v46 := Try.zeroValue134
  t53 := Try.underlying135
  a53 := Try.isAgg135
  z53 := Try.sizeOf135
  v53 := Try.zeroValue135
  t57 := Try.underlying139
  a57 := Try.isAgg139
  z57 := Try.sizeOf139
  v57 := Try.zeroValue139
  t63 := Try.underlying141
  a63 := Try.isAgg141
  z63 := Try.sizeOf141
  v63 := Try.zeroValue141
  t64 := Try.underlying142
  a64 := Try.isAgg142
  z64 := Try.sizeOf142
  v64 := Try.zeroValue142 }
def lcompact__ren : Go.Shelf.Ren := ⟨fun | 43 => 98 | n => n, fun | 22 => 22 | 23 => 2 | 3 => 3 | 4 => 4 | 0 => 0 | n => n, fun | n => n⟩
theorem lcompact_ : Go.Proofs.SlLaysN.n43 Try.prog lcompact__ren := {
  mixed := by kernel_rfl
  f43 := ⟨Try.f98.name, t31_, Try.func98.trans (congrArg some t14_)⟩
  t0 := Try.underlying0
  a0 := Try.isAgg0
  z0 := Try.sizeOf0
  v0 := Try.zeroValue0
  t3 := Try.underlying3
  a3 := Try.isAgg3
  z3 := Try.sizeOf3
  v3 := Try.zeroValue3
  t4 := Try.underlying4
  a4 := Try.isAgg4
  z4 := Try.sizeOf4
  v4 := Try.zeroValue4
  t22 := Try.underlying22
  a22 := Try.isAgg22
  z22 := Try.sizeOf22
  v22 := Try.zeroValue22
  t23 := Try.underlying2
  a23 := Try.isAgg2
  z23 := Try.sizeOf2
  v23 := Try.zeroValue2
  i23 := by kernel_rfl }

/-- slices.Sort: the row in order. -/
def slices_Sort_int64_int64.f (l0 : List Int) : Option (List Int) := if l0.length < 4611686018427387904 then some (l0.mergeSort fun x y => decide (x ≤ y)) else none
theorem slices_Sort_int64_int64.calls (P0_ : Nat → Prop) (u9000_ : Value) (l0 : List Int) (r : List Int) (w0 w : World) (hB : Below w0.heap.size w0 w) (ho0 : Kd.R (Kd.int .i64) 2 w w0.heap.size P0_ u9000_ l0) (h : slices_Sort_int64_int64.f l0 = some r) :
    Calls Try.prog 97 #[u9000_] w fun e w' => e = .returned (.tuple #[]) ∧ Kd.R (Kd.int .i64) 2 w' w0.heap.size (fun k_ => (P0_ k_ ∨ w.heap.size ≤ k_)) u9000_ r ∧ Below w0.heap.size w0 w' ∧ Kept w w' (fun k_ => P0_ k_) := by
  unfold slices_Sort_int64_int64.f at h
  by_cases hs : l0.length < 4611686018427387904
  · rw [if_pos hs] at h
    obtain rfl := Option.some.inj h
    have hl : (l0.mergeSort fun x y => decide (x ≤ y)).length = l0.length := List.length_mergeSort l0
    have hok := ho0.1
    have ho : w.ownsRow w0.heap.size 2 1 u9000_ l0.length (encs (Value.int .i64) l0) := Kd.own_of_R ho0
    obtain ⟨hlen, hrow⟩ := ho
    rcases hrow with ⟨rfl, h0⟩ | ⟨g, cap, cur, rfl, hg, hblk, hn, hcap, hcur, htake⟩
    · have hl0 : l0 = [] := List.length_eq_zero_iff.1 h0
      subst hl0
      refine (AnyM.slices_Sort_int_none lsort_ none 0 w).mono ?_
      rintro e w' ⟨rfl, rfl⟩
      exact ⟨rfl, (by rw [List.mergeSort_nil]; exact Kd.R_nil _ _ _ _ _), hB, Kept.refl _ _⟩
    · have hgs : g < w.heap.size := (Array.getElem?_eq_some_iff.1 hblk).1
      have ht : cur.toList.take l0.length = l0.map (Value.int .i64) := by rw [Nat.mul_one] at htake; exact htake
      refine (AnyM.slices_Sort_int lsort_ g 0 cap l0 w (holds_of_blockI hblk ht) hgs hs).mono ?_
      rintro e w' ⟨rfl, n, os, rfl⟩
      have hgr : w.grownBy (Sort.grow (Sort.putRow (Value.int .i64) (Sort.ahead w n) g 0 (l0.mergeSort fun x y => decide (x ≤ y)).toArray) os) (some g) := grownBy_sortedI _
      have hw := ownsRow_sortedI (n := n) (os := os) hl hg hblk hn hcap hcur
      refine ⟨rfl, ?_, hB.grown hgr hB.size (fun k e => by cases e; exact hg), ⟨hgr.size, fun i hi hni => hgr.block i hi (fun e => hni (hok i e.symm))⟩⟩
      refine Kd.R_of_own ?_ (fun k hk => Or.inl (hok k hk))
      rw [hl]
      exact hw
  · rw [if_neg hs] at h; cases h

/-! ### impl_Network_reached: function 96 -/
mutual
def impl_Network_reached.l0 : Nat → List Int → List Int → Int → List Int → List (S80) → Option (List Int)
 | 0, _, _, _, _, _ => none
 | k + 1, x2, x7, x8, x321000, x321001 => if x8 < (x7.length : Int) then (impl_Network_reached.l1 k x2 x7 x8 x321001 (x321001.length : Int) 0 x321000 x321001) else ((slices_Sort_int64_int64.f x7).bind fun t324 => (some t324))
def impl_Network_reached.l1 : Nat → List Int → List Int → Int → List (S80) → Int → Int → List Int → List (S80) → Option (List Int)
 | 0, _, _, _, _, _, _, _, _ => none
 | k + 1, x2, x7, x8, x22, x23, x24, x321000, x321001 => if x24 < x23 then (if 0 ≤ x24 then (if x24 < (x22.length : Int) then (if 0 ≤ x8 then (if x8 < (x7.length : Int) then ((impl_Pipe_other.f ((rd_T80 x22 x24).f0) ((rd_T80 x22 x24).f1) ((rd_T80 x22 x24).f2) ((rd_T80 x22 x24).f3) ((rd_T80 x22 x24).f4) ((rd_T80 x22 x24).f5) (rd x7 x8)).bind fun bt328 => (if bt328.2 = true then ((slices_Contains_int64_int64.f k x2 x24).bind fun t330 => (if t330 = true then (impl_Network_reached.l1 k x2 x7 x8 x22 x23 (wrap64 (x24 + 1)) x321000 x321001) else ((slices_Contains_int64_int64.f k x7 bt328.1).bind fun t331 => (if t331 = true then (impl_Network_reached.l1 k x2 x7 x8 x22 x23 (wrap64 (x24 + 1)) x321000 x321001) else (if x7.length < 17592186044416 then (impl_Network_reached.l1 k x2 (x7 ++ [bt328.1]) x8 x22 x23 (wrap64 (x24 + 1)) x321000 x321001) else (none)))))) else (impl_Network_reached.l1 k x2 x7 x8 x22 x23 (wrap64 (x24 + 1)) x321000 x321001))) else (none)) else (none)) else (none)) else (none)) else (impl_Network_reached.l0 k x2 x7 (wrap64 (x8 + 1)) x321000 x321001)
end
def impl_Network_reached.f (k : Nat) (l0_0 : List Int) (l0_1 : List (S80)) (a1 : Int) (l2 : List Int) : Option (List Int) := impl_Network_reached.l0 k l2 (([a1] : List Int)) 0 l0_0 l0_1
theorem impl_Network_reached.mono_l : ∀ k, (∀ y0 y1 y2 y3 y4, LeO (impl_Network_reached.l0 k y0 y1 y2 y3 y4) (impl_Network_reached.l0 (k + 1) y0 y1 y2 y3 y4)) ∧ (∀ y0 y1 y2 y3 y4 y5 y6 y7, LeO (impl_Network_reached.l1 k y0 y1 y2 y3 y4 y5 y6 y7) (impl_Network_reached.l1 (k + 1) y0 y1 y2 y3 y4 y5 y6 y7))
 | 0 => ⟨fun _ _ _ _ _ r h => by simp [impl_Network_reached.l0] at h, fun _ _ _ _ _ _ _ _ r h => by simp [impl_Network_reached.l1] at h⟩
 | k + 1 => by
  obtain ⟨ih0, ih1⟩ := impl_Network_reached.mono_l k
  refine ⟨?_, ?_⟩ <;> intros <;> first | unfold impl_Network_reached.l0 | unfold impl_Network_reached.l1
  all_goals
   repeat' first
   | (with_reducible exact ih0 _ _ _ _ _)
   | (with_reducible exact ih1 _ _ _ _ _ _ _ _)
   | (with_reducible exact slices_Contains_int64_int64.mono _ _ _)
   | (with_reducible exact LeO.refl _)
   | (with_reducible exact LeO.none _)
   | (with_reducible refine LeO.ite ?_ ?_)
   | (with_reducible refine LeO.bind ?_ (fun _ => ?_))
   | exact ih0 _ _ _ _ _
   | exact ih1 _ _ _ _ _ _ _ _
   | exact slices_Contains_int64_int64.mono _ _ _
   | exact LeO.none _
   | refine LeO.ite ?_ ?_
   | refine LeO.bind ?_ (fun _ => ?_)
theorem impl_Network_reached.mono : ∀ a0 a1 a2 a3 k, LeO (impl_Network_reached.f k a0 a1 a2 a3) (impl_Network_reached.f (k + 1) a0 a1 a2 a3) := by
 intro a0 a1 a2 a3 k
 obtain ⟨ih0, ih1⟩ := impl_Network_reached.mono_l k
 unfold impl_Network_reached.f
 repeat' first
   | (with_reducible exact ih0 _ _ _ _ _)
   | (with_reducible exact ih1 _ _ _ _ _ _ _ _)
   | (with_reducible exact slices_Contains_int64_int64.mono _ _ _)
   | (with_reducible exact LeO.refl _)
   | (with_reducible exact LeO.none _)
   | (with_reducible refine LeO.ite ?_ ?_)
   | (with_reducible refine LeO.bind ?_ (fun _ => ?_))
   | exact ih0 _ _ _ _ _
   | exact ih1 _ _ _ _ _ _ _ _
   | exact slices_Contains_int64_int64.mono _ _ _
   | exact LeO.none _
   | refine LeO.ite ?_ ?_
   | refine LeO.bind ?_ (fun _ => ?_)
def impl_Network_reached.T8 : Bool × List (List Nat × List Nat) := (true, [([], []), ([], []), ([], []), ([1, 2], [1, 2]), ([3], [3]), ([0, 4], [0, 4]), ([5], [5]), ([6], [6]), ([6], [6]), ([7, 5, 0, 1, 2, 3, 4, 5, 6, 7], [7]), ([8, 9, 0, 1, 2, 3, 4, 5, 6, 7, 8, 9], [8])])
def impl_Network_reached.B8 : List Nat := [0, 0, 0, 6, 14, 31, 63, 127, 127, 255, 1023]
theorem impl_Network_reached.tab8 : rtab .any (opsOf Try.f96 8) = impl_Network_reached.T8 := by kernel_rfl
theorem impl_Network_reached.bits8 : waitsOk impl_Network_reached.T8.2 impl_Network_reached.B8 = true := by kernel_rfl
set_option maxHeartbeats 8000000 in
set_option maxRecDepth 100000 in
theorem impl_Network_reached.calls (k : Nat) (A0_0 : Option Addr) (c0_0 : Nat) (l0_0 : List Int) (A0_1 : Option Addr) (c0_1 : Nat) (l0_1 : List (S80)) (a1 : Int) (A2 : Option Addr) (c2 : Nat) (l2 : List Int) (r : List Int) (w : World) (hr0_0 : Kd.C (Kd.int .i64) w A0_0 l0_0.length l0_0) (hc0_0 : l0_0.length ≤ c0_0) (hr0_1 : Kd.C k80 w A0_1 l0_1.length l0_1) (hc0_1 : l0_1.length ≤ c0_1) (hr2 : Kd.C (Kd.int .i64) w A2 l2.length l2) (hc2 : l2.length ≤ c2) (h : impl_Network_reached.f k l0_0 l0_1 a1 l2 = some r) :
  Calls Try.prog 96 #[.agg #[.slice A0_0 l0_0.length c0_0, .slice A0_1 l0_1.length c0_1], .int .i64 a1, .slice A2 l2.length c2] w fun e w' => ∃ v0_ : Value, e = .returned (v0_) ∧ Kd.R (Kd.int .i64) 2 w' w.heap.size (fun _ => True) v0_ r ∧ Below w.heap.size w w' := by
 have hu32 := Try.underlying32
 have hu80 := Try.underlying80
 have HR0_0 := Aside0.mk hr0_0
 have HC0_0 := Aside0.mk hc0_0
 clear hr0_0 hc0_0
 have HR0_1 := Aside0.mk hr0_1
 have HC0_1 := Aside0.mk hc0_1
 clear hr0_1 hc0_1
 have HR2 := Aside0.mk hr2
 have HC2 := Aside0.mk hc2
 clear hr2 hc2
 have HB := Aside0.mk (Below.refl w.heap.size w)
 have H : (impl_Network_reached.l0 k l2 (([a1] : List Int)) 0 l0_0 l0_1) = some r := h
 clear h
 obtain ⟨y321, hy321⟩ : ∃ y_ : List Int, y_ = (([a1] : List Int)) := ⟨_, rfl⟩
 replace H : (impl_Network_reached.l0 k l2 y321 0 l0_0 l0_1) = some r := by first | (rw [hy321]; with_reducible exact H) | (have H2_ := (Option.bind_some _ _).symm.trans H; rw [hy321]; with_reducible exact H2_) | (have H2_ := (Option.bind_some _ _).symm.trans H; with_reducible exact H2_) | with_reducible exact H | (rw [hy321]; exact H) | exact H
 have Ny321 := Aside0.mk hy321
 clear hy321
 have H' := Aside0.mk H
 clear H
 go_enter Try.func96, Try.ntmps96
 go_wp2_with (first | ((with_reducible refine gate_dst (N := 3) rfl ?_); refine box_event ?hg (N := 3) ?hd (cs := #[.slice A0_0 l0_0.length c0_0, .slice A0_1 l0_1.length c0_1]) (t := 32) ?hr ?_; (case hd => rfl); (case hg => rfl); (case hr => first | (go_simp; done) | (go_simp; rfl)); intro gb320 hg w4 hbox hb; have n0_ := Aside0.mk (below_step t1_ hb); have n1_ := Aside0.mk (hbox); have n2_ := Aside0.mk ((by rw [hg]; exact (below_size t1_) : w.heap.size ≤ gb320)); have n3_ := Aside0.mk ((by rw [hg]; exact (below_size t1_) : w.heap.size ≤ gb320)); clear HB; have HB := n0_; have BK320 := n1_; have GW320 := n2_; have GE320 := n3_; clear n0_ n1_ n2_ n3_; clear hb hbox hg) | ((with_reducible refine gate_dst (N := 14) rfl ?_); refine Kd.R_lit (Kd.int .i64) _ 2 ?hg (N := 14) ?hd (xs := ([a1] : List Int)) (inner := [.int .i64 a1]) (ok := fun _ => True) (okp := fun _ => True) ?hr ?hp (fun _ hk => hk) trivial (Below.refl _ _) (Nat.le_refl _) t44_ ?_; (case hd => rfl); (case hg => rfl); (case hr => first | (go_simp; done) | (go_simp; rfl)); (case hp => exact (Reps.one (show Kd.M (Kd.int .i64) _ _ _ a1 [.int .i64 a1] from rfl) (Reps.none _ _))); intro v322 w5 ho6 hb hg_ hnew_; clear hg_ hnew_; (first | rw [← Ny321.out] at ho6 | (simp only [Int.reduceToNat] at ho6; rw [← Ny321.out] at ho6)); have n0_ := Aside0.mk (Kd.R_lower ho6 (below_size t19_)); have n1_ := Aside0.mk (blk_below (g := gb320) (o := .cells #[.slice A0_0 l0_0.length c0_0, .slice A0_1 l0_1.length c0_1] 32 (0, 0)) (q1_ BK320.out) hb); have n2_ := Aside0.mk (below_step t19_ hb); clear BK320; clear HB; have HO323 := n0_; have BK320 := n1_; have HB := n2_; clear n0_ n1_ n2_; clear hb ho6))
 go_loopg [7, 8] k (fun kq v7 v8 w' => ∃ (x7_1 : List Int) (x8_1 : Int), v8 = .int .i64 x8_1 ∧ Aside0 (impl_Network_reached.l0 kq l2 x7_1 x8_1 l0_0 l0_1 = some r) ∧ Aside0 (kq ≤ k) ∧ Aside0 (Kd.R (Kd.int .i64) 2 w' w.heap.size (fun _ => True) v7 x7_1) ∧ Aside0 (w'.heap[gb320]? = some (.cells #[(.slice A0_0 l0_0.length c0_0), (.slice A0_1 l0_1.length c0_1)] 32 (0, 0))) ∧ Aside0 (Below w.heap.size w w'))
 case atStart => exact ⟨(y321), (0), t6_, H', ⟨Nat.le_refl _⟩, ⟨(by (with_reducible repeat (first | apply Kd.R_alloc | apply Kd.R_drewN | apply Kd.R_drew)); exact HO323.out)⟩, ⟨t37_⟩, ⟨t19_⟩⟩
 case round =>
  clear H'
  try clear c2
  try clear p2
  obtain ⟨x7_1, x8_1, rfl, HA, HK1, HO_7, BK320, HB⟩ := hrel
  cases gk with
  | zero => exact absurd HA.out (by simp [impl_Network_reached.l0])
  | succ k1 =>
   have H := HA.out
   clear HA
   simp only [impl_Network_reached.l0] at H
   by_cases c7 : x8_1 < (x7_1.length : Int)
   ·rw [if_pos c7] at H
    have c7b0 : decide (x8_1 < (x7_1.length : Int)) = true := decide_eq_true c7
    clear c7
    have H' := Aside0.mk H
    clear H
    obtain ⟨Ao8, co8, eo8⟩ := Kd.R_slice HO_7.out
    subst eo8
    have hcz9_0 : wr.cell? ⟨gb320, 0, none⟩ = some (.slice A0_0 l0_0.length c0_0) := (blk_cell BK320.out 0).trans rfl
    have hcz9_1 : wr.cell? ⟨gb320, 1, none⟩ = some (.slice A0_1 l0_1.length c0_1) := (blk_cell BK320.out 1).trans rfl
    have hfz9_0 := blk_frozen BK320.out 0
    have hfz9_1 := blk_frozen BK320.out 1
    go_wp2
    go_loopg [7, 24] k1 (fun kq v7 v24 w' => ∃ (x7_2 : List Int) (x24_2 : Int), v24 = .int .i64 x24_2 ∧ Aside0 (impl_Network_reached.l1 kq l2 x7_2 x8_1 l0_1 (l0_1.length : Int) x24_2 l0_0 l0_1 = some r) ∧ Aside0 (kq ≤ k1) ∧ Aside0 (Kd.R (Kd.int .i64) 2 w' w.heap.size (fun _ => True) v7 x7_2) ∧ Aside0 (w'.heap[gb320]? = some (.cells #[(.slice A0_0 l0_0.length c0_0), (.slice A0_1 l0_1.length c0_1)] 32 (0, 0))) ∧ Aside0 (Below w.heap.size w w'))
    case atStart => exact ⟨(x7_1), (0), t6_, H', ⟨Nat.le_refl _⟩, ⟨t25_⟩, ⟨t37_⟩, ⟨t19_⟩⟩
    case round =>
     clear H'
     try clear c2
     try clear p2
     try clear c7
     try clear c7b0
     try clear c9
     try clear hcz9_0
     try clear hcz9_1
     try clear hfz9_0
     try clear hfz9_1
     try clear p2
     obtain ⟨x7_2, x24_2, rfl, HA, HK2, HO_7, BK320, HB⟩ := hrel
     cases gk with
     | zero => exact absurd HA.out (by simp [impl_Network_reached.l1])
     | succ k2 =>
      have H := HA.out
      clear HA
      simp only [impl_Network_reached.l1] at H
      by_cases c10 : x24_2 < (l0_1.length : Int)
      ·rw [if_pos c10] at H
       have c10b0 : decide (x24_2 < (l0_1.length : Int)) = true := decide_eq_true c10
       clear c10
       by_cases c11 : 0 ≤ x24_2
       ·rw [if_pos c11] at H
        have c11b0 : decide (0 ≤ x24_2) = true := decide_eq_true c11
        clear c11
        by_cases c12 : x24_2 < (l0_1.length : Int)
        ·rw [if_pos c12] at H
         have c12b0 : decide (x24_2 < (l0_1.length : Int)) = true := decide_eq_true c12
         clear c12
         by_cases c13 : 0 ≤ x8_1
         ·rw [if_pos c13] at H
          have c13b0 : decide (0 ≤ x8_1) = true := decide_eq_true c13
          clear c13
          by_cases c14 : x8_1 < (x7_2.length : Int)
          ·rw [if_pos c14] at H
           have c14b0 : decide (x8_1 < (x7_2.length : Int)) = true := decide_eq_true c14
           clear c14
           replace H := Option.bind_eq_some_iff.mp H
           obtain ⟨⟨t328, t329⟩, A150, H⟩ := H
           replace H : (if t329 = true then ((slices_Contains_int64_int64.f k2 l2 x24_2).bind fun t330 => (if t330 = true then (impl_Network_reached.l1 k2 l2 x7_2 x8_1 l0_1 (l0_1.length : Int) (wrap64 (x24_2 + 1)) l0_0 l0_1) else ((slices_Contains_int64_int64.f k2 x7_2 t328).bind fun t331 => (if t331 = true then (impl_Network_reached.l1 k2 l2 x7_2 x8_1 l0_1 (l0_1.length : Int) (wrap64 (x24_2 + 1)) l0_0 l0_1) else (if x7_2.length < 17592186044416 then (impl_Network_reached.l1 k2 l2 (x7_2 ++ [t328]) x8_1 l0_1 (l0_1.length : Int) (wrap64 (x24_2 + 1)) l0_0 l0_1) else (none)))))) else (impl_Network_reached.l1 k2 l2 x7_2 x8_1 l0_1 (l0_1.length : Int) (wrap64 (x24_2 + 1)) l0_0 l0_1)) = some r := H
           have A15 := Aside0.mk A150
           clear A150
           by_cases c16 : t329 = true
           ·subst c16
            have H1 : ((slices_Contains_int64_int64.f k2 l2 x24_2).bind fun t330 => (if t330 = true then (impl_Network_reached.l1 k2 l2 x7_2 x8_1 l0_1 (l0_1.length : Int) (wrap64 (x24_2 + 1)) l0_0 l0_1) else ((slices_Contains_int64_int64.f k2 x7_2 t328).bind fun t331 => (if t331 = true then (impl_Network_reached.l1 k2 l2 x7_2 x8_1 l0_1 (l0_1.length : Int) (wrap64 (x24_2 + 1)) l0_0 l0_1) else (if x7_2.length < 17592186044416 then (impl_Network_reached.l1 k2 l2 (x7_2 ++ [t328]) x8_1 l0_1 (l0_1.length : Int) (wrap64 (x24_2 + 1)) l0_0 l0_1) else (none)))))) = some r := by rw [if_pos rfl] at H; exact H
            clear H
            have H := H1
            clear H1
            replace H := Option.bind_eq_some_iff.mp H
            obtain ⟨t330, A170, H⟩ := H
            replace H : (if t330 = true then (impl_Network_reached.l1 k2 l2 x7_2 x8_1 l0_1 (l0_1.length : Int) (wrap64 (x24_2 + 1)) l0_0 l0_1) else ((slices_Contains_int64_int64.f k2 x7_2 t328).bind fun t331 => (if t331 = true then (impl_Network_reached.l1 k2 l2 x7_2 x8_1 l0_1 (l0_1.length : Int) (wrap64 (x24_2 + 1)) l0_0 l0_1) else (if x7_2.length < 17592186044416 then (impl_Network_reached.l1 k2 l2 (x7_2 ++ [t328]) x8_1 l0_1 (l0_1.length : Int) (wrap64 (x24_2 + 1)) l0_0 l0_1) else (none))))) = some r := H
            have A17 := Aside0.mk A170
            clear A170
            by_cases c18 : t330 = true
            ·subst c18
             have H1 : (impl_Network_reached.l1 k2 l2 x7_2 x8_1 l0_1 (l0_1.length : Int) (wrap64 (x24_2 + 1)) l0_0 l0_1) = some r := by rw [if_pos rfl] at H; exact H
             clear H
             have H := H1
             clear H1
             have H' := Aside0.mk H
             clear H
             have p325 : 0 ≤ (x24_2 : Int) := of_decide_eq_true t3_
             have q325 : x24_2 < (l0_1.length : Int) := of_decide_eq_true t3_
             obtain ⟨ad325, e325, hx325_0, hx325_1, hx325_2, hx325_3, hx325_4, hx325_5⟩ := at_T80 HR0_1.out x24_2 p325 q325
             cases e325
             replace hx325_0 := hb_ HB hx325_0
             replace hx325_1 := hb_ HB hx325_1
             replace hx325_2 := hb_ HB hx325_2
             replace hx325_3 := hb_ HB hx325_3
             replace hx325_4 := hb_ HB hx325_4
             replace hx325_5 := hb_ HB hx325_5
             replace p325 := eq_true p325
             replace q325 := eq_true q325
             try go_wp2_with (first | ((with_reducible refine gate_dst (N := 10) rfl ?_); refine box_event ?hg (N := 10) ?hd (cs := #[.string (⟨#[]⟩ : ByteArray), .int .i64 0, .int .i64 0, .int .i64 0, .int .i64 0, .int .i64 0]) (t := 80) ?hr ?_; (case hd => rfl); (case hg => rfl); (case hr => first | (go_simp; done) | (go_simp; rfl)); intro gb326 hg w19 hbox hb; have n0_ := Aside0.mk (Kd.R_below (q2_ HO_7.out) hb); have n1_ := Aside0.mk (blk_below (g := gb320) (o := .cells #[.slice A0_0 l0_0.length c0_0, .slice (some ad325) l0_1.length c0_1] 32 (0, 0)) (q1_ BK320.out) hb); have n2_ := Aside0.mk (below_step t19_ hb); have n3_ := Aside0.mk (hbox); have n4_ := Aside0.mk ((by rw [hg]; exact (below_size t19_) : w.heap.size ≤ gb326)); have n5_ := Aside0.mk ((by rw [hg]; exact (below_size t19_) : w.heap.size ≤ gb326)); have n6_ := Aside0.mk ((by rw [hg]; exact Nat.ne_of_lt (blk_lt (g := gb320) (o := .cells #[.slice A0_0 l0_0.length c0_0, .slice (some ad325) l0_1.length c0_1] 32 (0, 0)) (q1_ BK320.out)) : gb320 ≠ gb326)); have n7_ := Aside0.mk ((by rw [hg]; exact Nat.ne_of_gt (blk_lt (g := gb320) (o := .cells #[.slice A0_0 l0_0.length c0_0, .slice (some ad325) l0_1.length c0_1] 32 (0, 0)) (q1_ BK320.out)) : gb326 ≠ gb320)); clear HO_7; clear BK320; clear HB; have HO_7 := n0_; have BK320 := n1_; have HB := n2_; have BK326 := n3_; have GW326 := n4_; have GE326 := n5_; have NB320_326 := n6_; have NB326_320 := n7_; clear n0_ n1_ n2_ n3_ n4_ n5_ n6_ n7_; clear hb hbox hg; have hnb20 := NB326_320.out; have hnc20 := NB320_326.out; have hcz21_0 : w19.cell? ⟨gb326, 0, none⟩ = some (.string (⟨#[]⟩ : ByteArray)) := (blk_cell BK326.out 0).trans rfl; have hcz21_1 : w19.cell? ⟨gb326, 1, none⟩ = some (.int .i64 0) := (blk_cell BK326.out 1).trans rfl; have hcz21_2 : w19.cell? ⟨gb326, 2, none⟩ = some (.int .i64 0) := (blk_cell BK326.out 2).trans rfl; have hcz21_3 : w19.cell? ⟨gb326, 3, none⟩ = some (.int .i64 0) := (blk_cell BK326.out 3).trans rfl; have hcz21_4 : w19.cell? ⟨gb326, 4, none⟩ = some (.int .i64 0) := (blk_cell BK326.out 4).trans rfl; have hcz21_5 : w19.cell? ⟨gb326, 5, none⟩ = some (.int .i64 0) := (blk_cell BK326.out 5).trans rfl; have hfz21_0 := blk_frozen BK326.out 0; have hfz21_1 := blk_frozen BK326.out 1; have hfz21_2 := blk_frozen BK326.out 2; have hfz21_3 := blk_frozen BK326.out 3; have hfz21_4 := blk_frozen BK326.out 4; have hfz21_5 := blk_frozen BK326.out 5))
             have n0_ : Aside0 (Kd.R (Kd.int .i64) 2 ((((((w19.setCell ⟨gb326, 0, none⟩ (.string ((rd_T80 l0_1 x24_2).f0))).setCell ⟨gb326, 1, none⟩ (.int .i64 ((rd_T80 l0_1 x24_2).f1))).setCell ⟨gb326, 2, none⟩ (.int .i64 ((rd_T80 l0_1 x24_2).f2))).setCell ⟨gb326, 3, none⟩ (.int .i64 ((rd_T80 l0_1 x24_2).f3))).setCell ⟨gb326, 4, none⟩ (.int .i64 ((rd_T80 l0_1 x24_2).f4))).setCell ⟨gb326, 5, none⟩ (.int .i64 ((rd_T80 l0_1 x24_2).f5))) w.heap.size (fun _ => True) u7 x7_2) := ⟨t22_⟩
             have n1_ : Aside0 (((((((w19.setCell ⟨gb326, 0, none⟩ (.string ((rd_T80 l0_1 x24_2).f0))).setCell ⟨gb326, 1, none⟩ (.int .i64 ((rd_T80 l0_1 x24_2).f1))).setCell ⟨gb326, 2, none⟩ (.int .i64 ((rd_T80 l0_1 x24_2).f2))).setCell ⟨gb326, 3, none⟩ (.int .i64 ((rd_T80 l0_1 x24_2).f3))).setCell ⟨gb326, 4, none⟩ (.int .i64 ((rd_T80 l0_1 x24_2).f4))).setCell ⟨gb326, 5, none⟩ (.int .i64 ((rd_T80 l0_1 x24_2).f5))).heap[gb320]? = some (.cells #[.slice A0_0 l0_0.length c0_0, .slice (some ad325) l0_1.length c0_1] 32 (0, 0))) := ⟨t18_⟩
             have n2_ : Aside0 (((((((w19.setCell ⟨gb326, 0, none⟩ (.string ((rd_T80 l0_1 x24_2).f0))).setCell ⟨gb326, 1, none⟩ (.int .i64 ((rd_T80 l0_1 x24_2).f1))).setCell ⟨gb326, 2, none⟩ (.int .i64 ((rd_T80 l0_1 x24_2).f2))).setCell ⟨gb326, 3, none⟩ (.int .i64 ((rd_T80 l0_1 x24_2).f3))).setCell ⟨gb326, 4, none⟩ (.int .i64 ((rd_T80 l0_1 x24_2).f4))).setCell ⟨gb326, 5, none⟩ (.int .i64 ((rd_T80 l0_1 x24_2).f5))).heap[gb326]? = some (.cells #[.string ((rd_T80 l0_1 x24_2).f0), .int .i64 ((rd_T80 l0_1 x24_2).f1), .int .i64 ((rd_T80 l0_1 x24_2).f2), .int .i64 ((rd_T80 l0_1 x24_2).f3), .int .i64 ((rd_T80 l0_1 x24_2).f4), .int .i64 ((rd_T80 l0_1 x24_2).f5)] 80 (0, 0))) := ⟨t9_⟩
             have n3_ : Aside0 (Below w.heap.size w ((((((w19.setCell ⟨gb326, 0, none⟩ (.string ((rd_T80 l0_1 x24_2).f0))).setCell ⟨gb326, 1, none⟩ (.int .i64 ((rd_T80 l0_1 x24_2).f1))).setCell ⟨gb326, 2, none⟩ (.int .i64 ((rd_T80 l0_1 x24_2).f2))).setCell ⟨gb326, 3, none⟩ (.int .i64 ((rd_T80 l0_1 x24_2).f3))).setCell ⟨gb326, 4, none⟩ (.int .i64 ((rd_T80 l0_1 x24_2).f4))).setCell ⟨gb326, 5, none⟩ (.int .i64 ((rd_T80 l0_1 x24_2).f5)))) := ⟨t21_⟩
             (try clear HO_7)
             (try clear BK320)
             (try clear BK326)
             (try clear HB)
             generalize ((((((w19.setCell ⟨gb326, 0, none⟩ (.string ((rd_T80 l0_1 x24_2).f0))).setCell ⟨gb326, 1, none⟩ (.int .i64 ((rd_T80 l0_1 x24_2).f1))).setCell ⟨gb326, 2, none⟩ (.int .i64 ((rd_T80 l0_1 x24_2).f2))).setCell ⟨gb326, 3, none⟩ (.int .i64 ((rd_T80 l0_1 x24_2).f3))).setCell ⟨gb326, 4, none⟩ (.int .i64 ((rd_T80 l0_1 x24_2).f4))).setCell ⟨gb326, 5, none⟩ (.int .i64 ((rd_T80 l0_1 x24_2).f5))) = w22 at n0_ n1_ n2_ n3_ ⊢
             have HO_7 := n0_
             have BK320 := n1_
             have BK326 := n2_
             have HB := n3_
             clear n0_ n1_ n2_ n3_
             have n0_ := Aside0.mk (Kd.R_drew HO_7.out)
             have n1_ := Aside0.mk (blk_drew BK320.out)
             have n2_ := Aside0.mk (blk_drew BK326.out)
             have n3_ := Aside0.mk (below_drew1 HB.out)
             clear HO_7
             clear BK320
             clear BK326
             clear HB
             have HO_7 := n0_
             have BK320 := n1_
             have BK326 := n2_
             have HB := n3_
             clear n0_ n1_ n2_ n3_
             obtain ⟨Ao24, co24, eo24⟩ := Kd.R_slice HO_7.out
             (first | subst eo24 | (injection eo24 with f1_ f2_ f3_; have f4_ := f1_.symm; have f5_ := f3_.symm; clear f1_ f2_ f3_; subst f4_; subst f5_))
             have p327 : 0 ≤ (x8_1 : Int) := of_decide_eq_true t3_
             have q327 : x8_1 < (x7_2.length : Int) := of_decide_eq_true t3_
             obtain ⟨ad327, e327, hx327_0⟩ := Kd.at_int (Kd.R_reads' HO_7.out).2.2 x8_1 p327 q327
             cases e327
             replace p327 := eq_true p327
             replace q327 := eq_true q327
             refine start_ (n := 11) (S := fun w' => w'.cell? ⟨gb326, 0, none⟩ = some (.string ((rd_T80 l0_1 x24_2).f0)) ∧ w'.cell? ⟨gb326, 1, none⟩ = some (.int .i64 ((rd_T80 l0_1 x24_2).f1)) ∧ w'.cell? ⟨gb326, 2, none⟩ = some (.int .i64 ((rd_T80 l0_1 x24_2).f2)) ∧ w'.cell? ⟨gb326, 3, none⟩ = some (.int .i64 ((rd_T80 l0_1 x24_2).f3)) ∧ w'.cell? ⟨gb326, 4, none⟩ = some (.int .i64 ((rd_T80 l0_1 x24_2).f4)) ∧ w'.cell? ⟨gb326, 5, none⟩ = some (.int .i64 ((rd_T80 l0_1 x24_2).f5)) ∧ w'.cell? (ad327.add (x8_1).toNat) = some (.int .i64 (rd x7_2 x8_1))) (ds := []) (tf 0 11) t14_ rfl rfl ⟨(blk_cell BK326.out 0).trans rfl, (blk_cell BK326.out 1).trans rfl, (blk_cell BK326.out 2).trans rfl, (blk_cell BK326.out 3).trans rfl, (blk_cell BK326.out 4).trans rfl, (blk_cell BK326.out 5).trans rfl, hx327_0⟩ (fun hHeld => ?_); refine with_tabW impl_Network_reached.tab8 impl_Network_reached.bits8 (fun HT_ HW_ => ?_)
             generalize w22.drew = w23 at HO_7 BK320 BK326 HB hx327_0 hHeld ⊢
             refine px 1 (some 31) (tb 11 2) HT_ ?_
             refine px 2 (some 32) (tb 11 6) HT_ ?_
             refine px 3 (some 33) (tb 11 14) HT_ ?_
             refine tx (v := ?_) 0 (some 30) (tf 4 11) HT_ HW_ hHeld ?_ ?_
             rotate_left; (· rintro w' ⟨s0, s1, s2, s3, s4, s5, s6⟩; go_simp; with_reducible rfl)
             refine tx (v := ?_) 4 (some 34) (tf 5 11) HT_ HW_ hHeld ?_ ?_
             rotate_left; (· rintro w' ⟨s0, s1, s2, s3, s4, s5, s6⟩; go_simp; with_reducible rfl)
             refine one_ (i := 5) (N := some 35) (tf 6 11) rfl rfl (one_of HT_.out t14_) t31_ (fun K hK => ?_)
             refine goes_ Try.func62 t14_ rfl #[.agg #[.string ((rd_T80 l0_1 x24_2).f0), .int .i64 ((rd_T80 l0_1 x24_2).f1), .int .i64 ((rd_T80 l0_1 x24_2).f2), .int .i64 ((rd_T80 l0_1 x24_2).f3), .int .i64 ((rd_T80 l0_1 x24_2).f4), .int .i64 ((rd_T80 l0_1 x24_2).f5)], .int .i64 (rd x7_2 x8_1)] t71_ rfl rfl t2_ ?_
             with_reducible refine (impl_Pipe_other.calls ((rd_T80 l0_1 x24_2).f0) ((rd_T80 l0_1 x24_2).f1) ((rd_T80 l0_1 x24_2).f2) ((rd_T80 l0_1 x24_2).f3) ((rd_T80 l0_1 x24_2).f4) ((rd_T80 l0_1 x24_2).f5) (rd x7_2 x8_1) t328 true _ A15.out).mono ?_
             rintro e w25 ⟨rfl, hb⟩
             have HS6_ := (hb.cell (World.block_lt_of_cell? _ _ (hHeld.2.2.2.2.2.2))).trans (hHeld.2.2.2.2.2.2)
             refine ⟨_, rfl, ?_⟩
             have n0_ := Aside0.mk (Kd.R_below (q2_ HO_7.out) hb)
             have n1_ := Aside0.mk (blk_below (g := gb320) (o := .cells #[.slice A0_0 l0_0.length c0_0, .slice (some ad325) l0_1.length c0_1] 32 (0, 0)) (q1_ BK320.out) hb)
             have n2_ := Aside0.mk (blk_below (g := gb326) (o := .cells #[.string ((rd_T80 l0_1 x24_2).f0), .int .i64 ((rd_T80 l0_1 x24_2).f1), .int .i64 ((rd_T80 l0_1 x24_2).f2), .int .i64 ((rd_T80 l0_1 x24_2).f3), .int .i64 ((rd_T80 l0_1 x24_2).f4), .int .i64 ((rd_T80 l0_1 x24_2).f5)] 80 (0, 0)) (q1_ BK326.out) hb)
             have n3_ := Aside0.mk (below_step t21_ hb)
             clear HO_7
             clear BK320
             clear BK326
             clear HB
             have HO_7 := n0_
             have BK320 := n1_
             have BK326 := n2_
             have HB := n3_
             clear n0_ n1_ n2_ n3_
             (try clear hb)
             (try clear hb2)
             (try clear hk)
             (try clear hi)
             refine hK.out _ _ ⟨(blk_cell BK326.out 0).trans rfl, (blk_cell BK326.out 1).trans rfl, (blk_cell BK326.out 2).trans rfl, (blk_cell BK326.out 3).trans rfl, (blk_cell BK326.out 4).trans rfl, (blk_cell BK326.out 5).trans rfl, HS6_⟩ (fun hHeld => ?_)
             clear hK K
             refine norm_ (a' := ?_) ?_ ?_
             rotate_left
             ·show Act.put _ (some 35) _ = _
              simp only [Act.put, List.setIfInBounds_toArray, List.set_cons_zero, List.set_cons_succ, i64_w, i32_w]
              rfl
             refine px 6 (some 29) (tf 7 11) HT_ ?_
             refine px 7 (some 36) (tf 8 11) HT_ ?_
             refine px 8 (some 37) (tf 9 11) HT_ ?_
             refine px 9 (some 11) (tf 10 11) HT_ ?_
             refine px 10 (some 12) (tf 11 11) HT_ ?_
             refine done_ (done_of HT_.out t14_) ?_
             try go_wp2_with (first | (go_at_call 60; (with_reducible refine (slices_Contains_int64_int64.calls k2 _ _ l2 x24_2 true _ ?side1 ?side2 A17.out).mono ?_); (case side1 => repeat (first | exact (Kd.C_below HR2.out HB.out) | (with_reducible refine Kd.C_alloc ?_ _) | (with_reducible refine Kd.C_drewN ?_ _) | (with_reducible refine Kd.C_drew ?_))); (case side2 => exact HC2.out); rintro e w' ⟨rfl, ⟨nd, rfl⟩⟩))
             go_roundg k2
             case measure => have := HK1.out; have := HK2.out; omega
             case rel => exact ⟨(x7_2), (wrap64 (x24_2 + 1)), t6_, H', ⟨(by have := HK1.out; have := HK2.out; omega)⟩, ⟨t25_⟩, ⟨t37_⟩, ⟨t21_⟩⟩
            ·replace c18 := Bool.eq_false_iff.mpr c18
             subst c18
             have H1 : ((slices_Contains_int64_int64.f k2 x7_2 t328).bind fun t331 => (if t331 = true then (impl_Network_reached.l1 k2 l2 x7_2 x8_1 l0_1 (l0_1.length : Int) (wrap64 (x24_2 + 1)) l0_0 l0_1) else (if x7_2.length < 17592186044416 then (impl_Network_reached.l1 k2 l2 (x7_2 ++ [t328]) x8_1 l0_1 (l0_1.length : Int) (wrap64 (x24_2 + 1)) l0_0 l0_1) else (none)))) = some r := by rw [if_neg (show ¬ (false = true) by decide)] at H; exact H
             clear H
             have H := H1
             clear H1
             replace H := Option.bind_eq_some_iff.mp H
             obtain ⟨t331, A260, H⟩ := H
             replace H : (if t331 = true then (impl_Network_reached.l1 k2 l2 x7_2 x8_1 l0_1 (l0_1.length : Int) (wrap64 (x24_2 + 1)) l0_0 l0_1) else (if x7_2.length < 17592186044416 then (impl_Network_reached.l1 k2 l2 (x7_2 ++ [t328]) x8_1 l0_1 (l0_1.length : Int) (wrap64 (x24_2 + 1)) l0_0 l0_1) else (none))) = some r := H
             have A26 := Aside0.mk A260
             clear A260
             by_cases c27 : t331 = true
             ·subst c27
              have H1 : (impl_Network_reached.l1 k2 l2 x7_2 x8_1 l0_1 (l0_1.length : Int) (wrap64 (x24_2 + 1)) l0_0 l0_1) = some r := by rw [if_pos rfl] at H; exact H
              clear H
              have H := H1
              clear H1
              have H' := Aside0.mk H
              clear H
              have p325 : 0 ≤ (x24_2 : Int) := of_decide_eq_true t3_
              have q325 : x24_2 < (l0_1.length : Int) := of_decide_eq_true t3_
              obtain ⟨ad325, e325, hx325_0, hx325_1, hx325_2, hx325_3, hx325_4, hx325_5⟩ := at_T80 HR0_1.out x24_2 p325 q325
              cases e325
              replace hx325_0 := hb_ HB hx325_0
              replace hx325_1 := hb_ HB hx325_1
              replace hx325_2 := hb_ HB hx325_2
              replace hx325_3 := hb_ HB hx325_3
              replace hx325_4 := hb_ HB hx325_4
              replace hx325_5 := hb_ HB hx325_5
              replace p325 := eq_true p325
              replace q325 := eq_true q325
              try go_wp2_with (first | ((with_reducible refine gate_dst (N := 10) rfl ?_); refine box_event ?hg (N := 10) ?hd (cs := #[.string (⟨#[]⟩ : ByteArray), .int .i64 0, .int .i64 0, .int .i64 0, .int .i64 0, .int .i64 0]) (t := 80) ?hr ?_; (case hd => rfl); (case hg => rfl); (case hr => first | (go_simp; done) | (go_simp; rfl)); intro gb326 hg w28 hbox hb; have n0_ := Aside0.mk (Kd.R_below (q2_ HO_7.out) hb); have n1_ := Aside0.mk (blk_below (g := gb320) (o := .cells #[.slice A0_0 l0_0.length c0_0, .slice (some ad325) l0_1.length c0_1] 32 (0, 0)) (q1_ BK320.out) hb); have n2_ := Aside0.mk (below_step t19_ hb); have n3_ := Aside0.mk (hbox); have n4_ := Aside0.mk ((by rw [hg]; exact (below_size t19_) : w.heap.size ≤ gb326)); have n5_ := Aside0.mk ((by rw [hg]; exact (below_size t19_) : w.heap.size ≤ gb326)); have n6_ := Aside0.mk ((by rw [hg]; exact Nat.ne_of_lt (blk_lt (g := gb320) (o := .cells #[.slice A0_0 l0_0.length c0_0, .slice (some ad325) l0_1.length c0_1] 32 (0, 0)) (q1_ BK320.out)) : gb320 ≠ gb326)); have n7_ := Aside0.mk ((by rw [hg]; exact Nat.ne_of_gt (blk_lt (g := gb320) (o := .cells #[.slice A0_0 l0_0.length c0_0, .slice (some ad325) l0_1.length c0_1] 32 (0, 0)) (q1_ BK320.out)) : gb326 ≠ gb320)); clear HO_7; clear BK320; clear HB; have HO_7 := n0_; have BK320 := n1_; have HB := n2_; have BK326 := n3_; have GW326 := n4_; have GE326 := n5_; have NB320_326 := n6_; have NB326_320 := n7_; clear n0_ n1_ n2_ n3_ n4_ n5_ n6_ n7_; clear hb hbox hg; have hnb29 := NB326_320.out; have hnc29 := NB320_326.out; have hcz30_0 : w28.cell? ⟨gb326, 0, none⟩ = some (.string (⟨#[]⟩ : ByteArray)) := (blk_cell BK326.out 0).trans rfl; have hcz30_1 : w28.cell? ⟨gb326, 1, none⟩ = some (.int .i64 0) := (blk_cell BK326.out 1).trans rfl; have hcz30_2 : w28.cell? ⟨gb326, 2, none⟩ = some (.int .i64 0) := (blk_cell BK326.out 2).trans rfl; have hcz30_3 : w28.cell? ⟨gb326, 3, none⟩ = some (.int .i64 0) := (blk_cell BK326.out 3).trans rfl; have hcz30_4 : w28.cell? ⟨gb326, 4, none⟩ = some (.int .i64 0) := (blk_cell BK326.out 4).trans rfl; have hcz30_5 : w28.cell? ⟨gb326, 5, none⟩ = some (.int .i64 0) := (blk_cell BK326.out 5).trans rfl; have hfz30_0 := blk_frozen BK326.out 0; have hfz30_1 := blk_frozen BK326.out 1; have hfz30_2 := blk_frozen BK326.out 2; have hfz30_3 := blk_frozen BK326.out 3; have hfz30_4 := blk_frozen BK326.out 4; have hfz30_5 := blk_frozen BK326.out 5))
              have n0_ : Aside0 (Kd.R (Kd.int .i64) 2 ((((((w28.setCell ⟨gb326, 0, none⟩ (.string ((rd_T80 l0_1 x24_2).f0))).setCell ⟨gb326, 1, none⟩ (.int .i64 ((rd_T80 l0_1 x24_2).f1))).setCell ⟨gb326, 2, none⟩ (.int .i64 ((rd_T80 l0_1 x24_2).f2))).setCell ⟨gb326, 3, none⟩ (.int .i64 ((rd_T80 l0_1 x24_2).f3))).setCell ⟨gb326, 4, none⟩ (.int .i64 ((rd_T80 l0_1 x24_2).f4))).setCell ⟨gb326, 5, none⟩ (.int .i64 ((rd_T80 l0_1 x24_2).f5))) w.heap.size (fun _ => True) u7 x7_2) := ⟨t22_⟩
              have n1_ : Aside0 (((((((w28.setCell ⟨gb326, 0, none⟩ (.string ((rd_T80 l0_1 x24_2).f0))).setCell ⟨gb326, 1, none⟩ (.int .i64 ((rd_T80 l0_1 x24_2).f1))).setCell ⟨gb326, 2, none⟩ (.int .i64 ((rd_T80 l0_1 x24_2).f2))).setCell ⟨gb326, 3, none⟩ (.int .i64 ((rd_T80 l0_1 x24_2).f3))).setCell ⟨gb326, 4, none⟩ (.int .i64 ((rd_T80 l0_1 x24_2).f4))).setCell ⟨gb326, 5, none⟩ (.int .i64 ((rd_T80 l0_1 x24_2).f5))).heap[gb320]? = some (.cells #[.slice A0_0 l0_0.length c0_0, .slice (some ad325) l0_1.length c0_1] 32 (0, 0))) := ⟨t18_⟩
              have n2_ : Aside0 (((((((w28.setCell ⟨gb326, 0, none⟩ (.string ((rd_T80 l0_1 x24_2).f0))).setCell ⟨gb326, 1, none⟩ (.int .i64 ((rd_T80 l0_1 x24_2).f1))).setCell ⟨gb326, 2, none⟩ (.int .i64 ((rd_T80 l0_1 x24_2).f2))).setCell ⟨gb326, 3, none⟩ (.int .i64 ((rd_T80 l0_1 x24_2).f3))).setCell ⟨gb326, 4, none⟩ (.int .i64 ((rd_T80 l0_1 x24_2).f4))).setCell ⟨gb326, 5, none⟩ (.int .i64 ((rd_T80 l0_1 x24_2).f5))).heap[gb326]? = some (.cells #[.string ((rd_T80 l0_1 x24_2).f0), .int .i64 ((rd_T80 l0_1 x24_2).f1), .int .i64 ((rd_T80 l0_1 x24_2).f2), .int .i64 ((rd_T80 l0_1 x24_2).f3), .int .i64 ((rd_T80 l0_1 x24_2).f4), .int .i64 ((rd_T80 l0_1 x24_2).f5)] 80 (0, 0))) := ⟨t9_⟩
              have n3_ : Aside0 (Below w.heap.size w ((((((w28.setCell ⟨gb326, 0, none⟩ (.string ((rd_T80 l0_1 x24_2).f0))).setCell ⟨gb326, 1, none⟩ (.int .i64 ((rd_T80 l0_1 x24_2).f1))).setCell ⟨gb326, 2, none⟩ (.int .i64 ((rd_T80 l0_1 x24_2).f2))).setCell ⟨gb326, 3, none⟩ (.int .i64 ((rd_T80 l0_1 x24_2).f3))).setCell ⟨gb326, 4, none⟩ (.int .i64 ((rd_T80 l0_1 x24_2).f4))).setCell ⟨gb326, 5, none⟩ (.int .i64 ((rd_T80 l0_1 x24_2).f5)))) := ⟨t21_⟩
              (try clear HO_7)
              (try clear BK320)
              (try clear BK326)
              (try clear HB)
              generalize ((((((w28.setCell ⟨gb326, 0, none⟩ (.string ((rd_T80 l0_1 x24_2).f0))).setCell ⟨gb326, 1, none⟩ (.int .i64 ((rd_T80 l0_1 x24_2).f1))).setCell ⟨gb326, 2, none⟩ (.int .i64 ((rd_T80 l0_1 x24_2).f2))).setCell ⟨gb326, 3, none⟩ (.int .i64 ((rd_T80 l0_1 x24_2).f3))).setCell ⟨gb326, 4, none⟩ (.int .i64 ((rd_T80 l0_1 x24_2).f4))).setCell ⟨gb326, 5, none⟩ (.int .i64 ((rd_T80 l0_1 x24_2).f5))) = w31 at n0_ n1_ n2_ n3_ ⊢
              have HO_7 := n0_
              have BK320 := n1_
              have BK326 := n2_
              have HB := n3_
              clear n0_ n1_ n2_ n3_
              have n0_ := Aside0.mk (Kd.R_drew HO_7.out)
              have n1_ := Aside0.mk (blk_drew BK320.out)
              have n2_ := Aside0.mk (blk_drew BK326.out)
              have n3_ := Aside0.mk (below_drew1 HB.out)
              clear HO_7
              clear BK320
              clear BK326
              clear HB
              have HO_7 := n0_
              have BK320 := n1_
              have BK326 := n2_
              have HB := n3_
              clear n0_ n1_ n2_ n3_
              obtain ⟨Ao33, co33, eo33⟩ := Kd.R_slice HO_7.out
              (first | subst eo33 | (injection eo33 with f1_ f2_ f3_; have f4_ := f1_.symm; have f5_ := f3_.symm; clear f1_ f2_ f3_; subst f4_; subst f5_))
              have p327 : 0 ≤ (x8_1 : Int) := of_decide_eq_true t3_
              have q327 : x8_1 < (x7_2.length : Int) := of_decide_eq_true t3_
              obtain ⟨ad327, e327, hx327_0⟩ := Kd.at_int (Kd.R_reads' HO_7.out).2.2 x8_1 p327 q327
              cases e327
              replace p327 := eq_true p327
              replace q327 := eq_true q327
              refine start_ (n := 11) (S := fun w' => w'.cell? ⟨gb326, 0, none⟩ = some (.string ((rd_T80 l0_1 x24_2).f0)) ∧ w'.cell? ⟨gb326, 1, none⟩ = some (.int .i64 ((rd_T80 l0_1 x24_2).f1)) ∧ w'.cell? ⟨gb326, 2, none⟩ = some (.int .i64 ((rd_T80 l0_1 x24_2).f2)) ∧ w'.cell? ⟨gb326, 3, none⟩ = some (.int .i64 ((rd_T80 l0_1 x24_2).f3)) ∧ w'.cell? ⟨gb326, 4, none⟩ = some (.int .i64 ((rd_T80 l0_1 x24_2).f4)) ∧ w'.cell? ⟨gb326, 5, none⟩ = some (.int .i64 ((rd_T80 l0_1 x24_2).f5)) ∧ w'.cell? (ad327.add (x8_1).toNat) = some (.int .i64 (rd x7_2 x8_1))) (ds := []) (tf 0 11) t14_ rfl rfl ⟨(blk_cell BK326.out 0).trans rfl, (blk_cell BK326.out 1).trans rfl, (blk_cell BK326.out 2).trans rfl, (blk_cell BK326.out 3).trans rfl, (blk_cell BK326.out 4).trans rfl, (blk_cell BK326.out 5).trans rfl, hx327_0⟩ (fun hHeld => ?_); refine with_tabW impl_Network_reached.tab8 impl_Network_reached.bits8 (fun HT_ HW_ => ?_)
              generalize w31.drew = w32 at HO_7 BK320 BK326 HB hx327_0 hHeld ⊢
              refine px 1 (some 31) (tb 11 2) HT_ ?_
              refine px 2 (some 32) (tb 11 6) HT_ ?_
              refine px 3 (some 33) (tb 11 14) HT_ ?_
              refine tx (v := ?_) 0 (some 30) (tf 4 11) HT_ HW_ hHeld ?_ ?_
              rotate_left; (· rintro w' ⟨s0, s1, s2, s3, s4, s5, s6⟩; go_simp; with_reducible rfl)
              refine tx (v := ?_) 4 (some 34) (tf 5 11) HT_ HW_ hHeld ?_ ?_
              rotate_left; (· rintro w' ⟨s0, s1, s2, s3, s4, s5, s6⟩; go_simp; with_reducible rfl)
              refine one_ (i := 5) (N := some 35) (tf 6 11) rfl rfl (one_of HT_.out t14_) t31_ (fun K hK => ?_)
              refine goes_ Try.func62 t14_ rfl #[.agg #[.string ((rd_T80 l0_1 x24_2).f0), .int .i64 ((rd_T80 l0_1 x24_2).f1), .int .i64 ((rd_T80 l0_1 x24_2).f2), .int .i64 ((rd_T80 l0_1 x24_2).f3), .int .i64 ((rd_T80 l0_1 x24_2).f4), .int .i64 ((rd_T80 l0_1 x24_2).f5)], .int .i64 (rd x7_2 x8_1)] t71_ rfl rfl t2_ ?_
              with_reducible refine (impl_Pipe_other.calls ((rd_T80 l0_1 x24_2).f0) ((rd_T80 l0_1 x24_2).f1) ((rd_T80 l0_1 x24_2).f2) ((rd_T80 l0_1 x24_2).f3) ((rd_T80 l0_1 x24_2).f4) ((rd_T80 l0_1 x24_2).f5) (rd x7_2 x8_1) t328 true _ A15.out).mono ?_
              rintro e w34 ⟨rfl, hb⟩
              have HS6_ := (hb.cell (World.block_lt_of_cell? _ _ (hHeld.2.2.2.2.2.2))).trans (hHeld.2.2.2.2.2.2)
              refine ⟨_, rfl, ?_⟩
              have n0_ := Aside0.mk (Kd.R_below (q2_ HO_7.out) hb)
              have n1_ := Aside0.mk (blk_below (g := gb320) (o := .cells #[.slice A0_0 l0_0.length c0_0, .slice (some ad325) l0_1.length c0_1] 32 (0, 0)) (q1_ BK320.out) hb)
              have n2_ := Aside0.mk (blk_below (g := gb326) (o := .cells #[.string ((rd_T80 l0_1 x24_2).f0), .int .i64 ((rd_T80 l0_1 x24_2).f1), .int .i64 ((rd_T80 l0_1 x24_2).f2), .int .i64 ((rd_T80 l0_1 x24_2).f3), .int .i64 ((rd_T80 l0_1 x24_2).f4), .int .i64 ((rd_T80 l0_1 x24_2).f5)] 80 (0, 0)) (q1_ BK326.out) hb)
              have n3_ := Aside0.mk (below_step t21_ hb)
              clear HO_7
              clear BK320
              clear BK326
              clear HB
              have HO_7 := n0_
              have BK320 := n1_
              have BK326 := n2_
              have HB := n3_
              clear n0_ n1_ n2_ n3_
              (try clear hb)
              (try clear hb2)
              (try clear hk)
              (try clear hi)
              refine hK.out _ _ ⟨(blk_cell BK326.out 0).trans rfl, (blk_cell BK326.out 1).trans rfl, (blk_cell BK326.out 2).trans rfl, (blk_cell BK326.out 3).trans rfl, (blk_cell BK326.out 4).trans rfl, (blk_cell BK326.out 5).trans rfl, HS6_⟩ (fun hHeld => ?_)
              clear hK K
              refine norm_ (a' := ?_) ?_ ?_
              rotate_left
              ·show Act.put _ (some 35) _ = _
               simp only [Act.put, List.setIfInBounds_toArray, List.set_cons_zero, List.set_cons_succ, i64_w, i32_w]
               rfl
              refine px 6 (some 29) (tf 7 11) HT_ ?_
              refine px 7 (some 36) (tf 8 11) HT_ ?_
              refine px 8 (some 37) (tf 9 11) HT_ ?_
              refine px 9 (some 11) (tf 10 11) HT_ ?_
              refine px 10 (some 12) (tf 11 11) HT_ ?_
              refine done_ (done_of HT_.out t14_) ?_
              try go_wp2_with (first | (go_at_call 60; (with_reducible refine (slices_Contains_int64_int64.calls k2 _ _ l2 x24_2 false _ ?side1 ?side2 A17.out).mono ?_); (case side1 => repeat (first | exact (Kd.C_below HR2.out HB.out) | (with_reducible refine Kd.C_alloc ?_ _) | (with_reducible refine Kd.C_drewN ?_ _) | (with_reducible refine Kd.C_drew ?_))); (case side2 => exact HC2.out); rintro e w' ⟨rfl, ⟨nd, rfl⟩⟩) | (go_at_call 60; (with_reducible refine (slices_Contains_int64_int64.calls k2 _ _ x7_2 t328 true _ ?side1 ?side2 A26.out).mono ?_); (case side1 => repeat (first | exact (Kd.R_reads' HO_7.out).2.2 | (with_reducible refine Kd.C_alloc ?_ _) | (with_reducible refine Kd.C_drewN ?_ _) | (with_reducible refine Kd.C_drew ?_))); (case side2 => exact (Kd.R_reads' HO_7.out).2.1); rintro e w' ⟨rfl, ⟨nd, rfl⟩⟩))
              go_roundg k2
              case measure => have := HK1.out; have := HK2.out; omega
              case rel => exact ⟨(x7_2), (wrap64 (x24_2 + 1)), t6_, H', ⟨(by have := HK1.out; have := HK2.out; omega)⟩, ⟨t25_⟩, ⟨t37_⟩, ⟨t21_⟩⟩
             ·replace c27 := Bool.eq_false_iff.mpr c27
              subst c27
              have H1 : (if x7_2.length < 17592186044416 then (impl_Network_reached.l1 k2 l2 (x7_2 ++ [t328]) x8_1 l0_1 (l0_1.length : Int) (wrap64 (x24_2 + 1)) l0_0 l0_1) else (none)) = some r := by rw [if_neg (show ¬ (false = true) by decide)] at H; exact H
              clear H
              have H := H1
              clear H1
              by_cases c35 : x7_2.length < 17592186044416
              ·rw [if_pos c35] at H
               have LMc35 := Aside0.mk c35
               clear c35
               obtain ⟨y332, hy332⟩ : ∃ y_ : List Int, y_ = (x7_2 ++ [t328]) := ⟨_, rfl⟩
               replace H : (impl_Network_reached.l1 k2 l2 y332 x8_1 l0_1 (l0_1.length : Int) (wrap64 (x24_2 + 1)) l0_0 l0_1) = some r := by first | (rw [hy332]; with_reducible exact H) | (have H2_ := (Option.bind_some _ _).symm.trans H; rw [hy332]; with_reducible exact H2_) | (have H2_ := (Option.bind_some _ _).symm.trans H; with_reducible exact H2_) | with_reducible exact H | (rw [hy332]; exact H) | exact H
               have Ny332 := Aside0.mk hy332
               clear hy332
               have H' := Aside0.mk H
               clear H
               have p325 : 0 ≤ (x24_2 : Int) := of_decide_eq_true t3_
               have q325 : x24_2 < (l0_1.length : Int) := of_decide_eq_true t3_
               obtain ⟨ad325, e325, hx325_0, hx325_1, hx325_2, hx325_3, hx325_4, hx325_5⟩ := at_T80 HR0_1.out x24_2 p325 q325
               cases e325
               replace hx325_0 := hb_ HB hx325_0
               replace hx325_1 := hb_ HB hx325_1
               replace hx325_2 := hb_ HB hx325_2
               replace hx325_3 := hb_ HB hx325_3
               replace hx325_4 := hb_ HB hx325_4
               replace hx325_5 := hb_ HB hx325_5
               replace p325 := eq_true p325
               replace q325 := eq_true q325
               try go_wp2_with (first | ((with_reducible refine gate_dst (N := 10) rfl ?_); refine box_event ?hg (N := 10) ?hd (cs := #[.string (⟨#[]⟩ : ByteArray), .int .i64 0, .int .i64 0, .int .i64 0, .int .i64 0, .int .i64 0]) (t := 80) ?hr ?_; (case hd => rfl); (case hg => rfl); (case hr => first | (go_simp; done) | (go_simp; rfl)); intro gb326 hg w36 hbox hb; have n0_ := Aside0.mk (Kd.R_below (q2_ HO_7.out) hb); have n1_ := Aside0.mk (blk_below (g := gb320) (o := .cells #[.slice A0_0 l0_0.length c0_0, .slice (some ad325) l0_1.length c0_1] 32 (0, 0)) (q1_ BK320.out) hb); have n2_ := Aside0.mk (below_step t19_ hb); have n3_ := Aside0.mk (hbox); have n4_ := Aside0.mk ((by rw [hg]; exact (below_size t19_) : w.heap.size ≤ gb326)); have n5_ := Aside0.mk ((by rw [hg]; exact (below_size t19_) : w.heap.size ≤ gb326)); have n6_ := Aside0.mk ((by rw [hg]; exact Nat.ne_of_lt (blk_lt (g := gb320) (o := .cells #[.slice A0_0 l0_0.length c0_0, .slice (some ad325) l0_1.length c0_1] 32 (0, 0)) (q1_ BK320.out)) : gb320 ≠ gb326)); have n7_ := Aside0.mk ((by rw [hg]; exact Nat.ne_of_gt (blk_lt (g := gb320) (o := .cells #[.slice A0_0 l0_0.length c0_0, .slice (some ad325) l0_1.length c0_1] 32 (0, 0)) (q1_ BK320.out)) : gb326 ≠ gb320)); clear HO_7; clear BK320; clear HB; have HO_7 := n0_; have BK320 := n1_; have HB := n2_; have BK326 := n3_; have GW326 := n4_; have GE326 := n5_; have NB320_326 := n6_; have NB326_320 := n7_; clear n0_ n1_ n2_ n3_ n4_ n5_ n6_ n7_; clear hb hbox hg; have hnb37 := NB326_320.out; have hnc37 := NB320_326.out; have hcz38_0 : w36.cell? ⟨gb326, 0, none⟩ = some (.string (⟨#[]⟩ : ByteArray)) := (blk_cell BK326.out 0).trans rfl; have hcz38_1 : w36.cell? ⟨gb326, 1, none⟩ = some (.int .i64 0) := (blk_cell BK326.out 1).trans rfl; have hcz38_2 : w36.cell? ⟨gb326, 2, none⟩ = some (.int .i64 0) := (blk_cell BK326.out 2).trans rfl; have hcz38_3 : w36.cell? ⟨gb326, 3, none⟩ = some (.int .i64 0) := (blk_cell BK326.out 3).trans rfl; have hcz38_4 : w36.cell? ⟨gb326, 4, none⟩ = some (.int .i64 0) := (blk_cell BK326.out 4).trans rfl; have hcz38_5 : w36.cell? ⟨gb326, 5, none⟩ = some (.int .i64 0) := (blk_cell BK326.out 5).trans rfl; have hfz38_0 := blk_frozen BK326.out 0; have hfz38_1 := blk_frozen BK326.out 1; have hfz38_2 := blk_frozen BK326.out 2; have hfz38_3 := blk_frozen BK326.out 3; have hfz38_4 := blk_frozen BK326.out 4; have hfz38_5 := blk_frozen BK326.out 5))
               have n0_ : Aside0 (Kd.R (Kd.int .i64) 2 ((((((w36.setCell ⟨gb326, 0, none⟩ (.string ((rd_T80 l0_1 x24_2).f0))).setCell ⟨gb326, 1, none⟩ (.int .i64 ((rd_T80 l0_1 x24_2).f1))).setCell ⟨gb326, 2, none⟩ (.int .i64 ((rd_T80 l0_1 x24_2).f2))).setCell ⟨gb326, 3, none⟩ (.int .i64 ((rd_T80 l0_1 x24_2).f3))).setCell ⟨gb326, 4, none⟩ (.int .i64 ((rd_T80 l0_1 x24_2).f4))).setCell ⟨gb326, 5, none⟩ (.int .i64 ((rd_T80 l0_1 x24_2).f5))) w.heap.size (fun _ => True) u7 x7_2) := ⟨t22_⟩
               have n1_ : Aside0 (((((((w36.setCell ⟨gb326, 0, none⟩ (.string ((rd_T80 l0_1 x24_2).f0))).setCell ⟨gb326, 1, none⟩ (.int .i64 ((rd_T80 l0_1 x24_2).f1))).setCell ⟨gb326, 2, none⟩ (.int .i64 ((rd_T80 l0_1 x24_2).f2))).setCell ⟨gb326, 3, none⟩ (.int .i64 ((rd_T80 l0_1 x24_2).f3))).setCell ⟨gb326, 4, none⟩ (.int .i64 ((rd_T80 l0_1 x24_2).f4))).setCell ⟨gb326, 5, none⟩ (.int .i64 ((rd_T80 l0_1 x24_2).f5))).heap[gb320]? = some (.cells #[.slice A0_0 l0_0.length c0_0, .slice (some ad325) l0_1.length c0_1] 32 (0, 0))) := ⟨t18_⟩
               have n2_ : Aside0 (((((((w36.setCell ⟨gb326, 0, none⟩ (.string ((rd_T80 l0_1 x24_2).f0))).setCell ⟨gb326, 1, none⟩ (.int .i64 ((rd_T80 l0_1 x24_2).f1))).setCell ⟨gb326, 2, none⟩ (.int .i64 ((rd_T80 l0_1 x24_2).f2))).setCell ⟨gb326, 3, none⟩ (.int .i64 ((rd_T80 l0_1 x24_2).f3))).setCell ⟨gb326, 4, none⟩ (.int .i64 ((rd_T80 l0_1 x24_2).f4))).setCell ⟨gb326, 5, none⟩ (.int .i64 ((rd_T80 l0_1 x24_2).f5))).heap[gb326]? = some (.cells #[.string ((rd_T80 l0_1 x24_2).f0), .int .i64 ((rd_T80 l0_1 x24_2).f1), .int .i64 ((rd_T80 l0_1 x24_2).f2), .int .i64 ((rd_T80 l0_1 x24_2).f3), .int .i64 ((rd_T80 l0_1 x24_2).f4), .int .i64 ((rd_T80 l0_1 x24_2).f5)] 80 (0, 0))) := ⟨t9_⟩
               have n3_ : Aside0 (Below w.heap.size w ((((((w36.setCell ⟨gb326, 0, none⟩ (.string ((rd_T80 l0_1 x24_2).f0))).setCell ⟨gb326, 1, none⟩ (.int .i64 ((rd_T80 l0_1 x24_2).f1))).setCell ⟨gb326, 2, none⟩ (.int .i64 ((rd_T80 l0_1 x24_2).f2))).setCell ⟨gb326, 3, none⟩ (.int .i64 ((rd_T80 l0_1 x24_2).f3))).setCell ⟨gb326, 4, none⟩ (.int .i64 ((rd_T80 l0_1 x24_2).f4))).setCell ⟨gb326, 5, none⟩ (.int .i64 ((rd_T80 l0_1 x24_2).f5)))) := ⟨t21_⟩
               (try clear HO_7)
               (try clear BK320)
               (try clear BK326)
               (try clear HB)
               generalize ((((((w36.setCell ⟨gb326, 0, none⟩ (.string ((rd_T80 l0_1 x24_2).f0))).setCell ⟨gb326, 1, none⟩ (.int .i64 ((rd_T80 l0_1 x24_2).f1))).setCell ⟨gb326, 2, none⟩ (.int .i64 ((rd_T80 l0_1 x24_2).f2))).setCell ⟨gb326, 3, none⟩ (.int .i64 ((rd_T80 l0_1 x24_2).f3))).setCell ⟨gb326, 4, none⟩ (.int .i64 ((rd_T80 l0_1 x24_2).f4))).setCell ⟨gb326, 5, none⟩ (.int .i64 ((rd_T80 l0_1 x24_2).f5))) = w39 at n0_ n1_ n2_ n3_ ⊢
               have HO_7 := n0_
               have BK320 := n1_
               have BK326 := n2_
               have HB := n3_
               clear n0_ n1_ n2_ n3_
               have n0_ := Aside0.mk (Kd.R_drew HO_7.out)
               have n1_ := Aside0.mk (blk_drew BK320.out)
               have n2_ := Aside0.mk (blk_drew BK326.out)
               have n3_ := Aside0.mk (below_drew1 HB.out)
               clear HO_7
               clear BK320
               clear BK326
               clear HB
               have HO_7 := n0_
               have BK320 := n1_
               have BK326 := n2_
               have HB := n3_
               clear n0_ n1_ n2_ n3_
               obtain ⟨Ao41, co41, eo41⟩ := Kd.R_slice HO_7.out
               (first | subst eo41 | (injection eo41 with f1_ f2_ f3_; have f4_ := f1_.symm; have f5_ := f3_.symm; clear f1_ f2_ f3_; subst f4_; subst f5_))
               have p327 : 0 ≤ (x8_1 : Int) := of_decide_eq_true t3_
               have q327 : x8_1 < (x7_2.length : Int) := of_decide_eq_true t3_
               obtain ⟨ad327, e327, hx327_0⟩ := Kd.at_int (Kd.R_reads' HO_7.out).2.2 x8_1 p327 q327
               cases e327
               replace p327 := eq_true p327
               replace q327 := eq_true q327
               refine start_ (n := 11) (S := fun w' => w'.cell? ⟨gb326, 0, none⟩ = some (.string ((rd_T80 l0_1 x24_2).f0)) ∧ w'.cell? ⟨gb326, 1, none⟩ = some (.int .i64 ((rd_T80 l0_1 x24_2).f1)) ∧ w'.cell? ⟨gb326, 2, none⟩ = some (.int .i64 ((rd_T80 l0_1 x24_2).f2)) ∧ w'.cell? ⟨gb326, 3, none⟩ = some (.int .i64 ((rd_T80 l0_1 x24_2).f3)) ∧ w'.cell? ⟨gb326, 4, none⟩ = some (.int .i64 ((rd_T80 l0_1 x24_2).f4)) ∧ w'.cell? ⟨gb326, 5, none⟩ = some (.int .i64 ((rd_T80 l0_1 x24_2).f5)) ∧ w'.cell? (ad327.add (x8_1).toNat) = some (.int .i64 (rd x7_2 x8_1))) (ds := []) (tf 0 11) t14_ rfl rfl ⟨(blk_cell BK326.out 0).trans rfl, (blk_cell BK326.out 1).trans rfl, (blk_cell BK326.out 2).trans rfl, (blk_cell BK326.out 3).trans rfl, (blk_cell BK326.out 4).trans rfl, (blk_cell BK326.out 5).trans rfl, hx327_0⟩ (fun hHeld => ?_); refine with_tabW impl_Network_reached.tab8 impl_Network_reached.bits8 (fun HT_ HW_ => ?_)
               generalize w39.drew = w40 at HO_7 BK320 BK326 HB hx327_0 hHeld ⊢
               refine px 1 (some 31) (tb 11 2) HT_ ?_
               refine px 2 (some 32) (tb 11 6) HT_ ?_
               refine px 3 (some 33) (tb 11 14) HT_ ?_
               refine tx (v := ?_) 0 (some 30) (tf 4 11) HT_ HW_ hHeld ?_ ?_
               rotate_left; (· rintro w' ⟨s0, s1, s2, s3, s4, s5, s6⟩; go_simp; with_reducible rfl)
               refine tx (v := ?_) 4 (some 34) (tf 5 11) HT_ HW_ hHeld ?_ ?_
               rotate_left; (· rintro w' ⟨s0, s1, s2, s3, s4, s5, s6⟩; go_simp; with_reducible rfl)
               refine one_ (i := 5) (N := some 35) (tf 6 11) rfl rfl (one_of HT_.out t14_) t31_ (fun K hK => ?_)
               refine goes_ Try.func62 t14_ rfl #[.agg #[.string ((rd_T80 l0_1 x24_2).f0), .int .i64 ((rd_T80 l0_1 x24_2).f1), .int .i64 ((rd_T80 l0_1 x24_2).f2), .int .i64 ((rd_T80 l0_1 x24_2).f3), .int .i64 ((rd_T80 l0_1 x24_2).f4), .int .i64 ((rd_T80 l0_1 x24_2).f5)], .int .i64 (rd x7_2 x8_1)] t71_ rfl rfl t2_ ?_
               with_reducible refine (impl_Pipe_other.calls ((rd_T80 l0_1 x24_2).f0) ((rd_T80 l0_1 x24_2).f1) ((rd_T80 l0_1 x24_2).f2) ((rd_T80 l0_1 x24_2).f3) ((rd_T80 l0_1 x24_2).f4) ((rd_T80 l0_1 x24_2).f5) (rd x7_2 x8_1) t328 true _ A15.out).mono ?_
               rintro e w42 ⟨rfl, hb⟩
               have HS6_ := (hb.cell (World.block_lt_of_cell? _ _ (hHeld.2.2.2.2.2.2))).trans (hHeld.2.2.2.2.2.2)
               refine ⟨_, rfl, ?_⟩
               have n0_ := Aside0.mk (Kd.R_below (q2_ HO_7.out) hb)
               have n1_ := Aside0.mk (blk_below (g := gb320) (o := .cells #[.slice A0_0 l0_0.length c0_0, .slice (some ad325) l0_1.length c0_1] 32 (0, 0)) (q1_ BK320.out) hb)
               have n2_ := Aside0.mk (blk_below (g := gb326) (o := .cells #[.string ((rd_T80 l0_1 x24_2).f0), .int .i64 ((rd_T80 l0_1 x24_2).f1), .int .i64 ((rd_T80 l0_1 x24_2).f2), .int .i64 ((rd_T80 l0_1 x24_2).f3), .int .i64 ((rd_T80 l0_1 x24_2).f4), .int .i64 ((rd_T80 l0_1 x24_2).f5)] 80 (0, 0)) (q1_ BK326.out) hb)
               have n3_ := Aside0.mk (below_step t21_ hb)
               clear HO_7
               clear BK320
               clear BK326
               clear HB
               have HO_7 := n0_
               have BK320 := n1_
               have BK326 := n2_
               have HB := n3_
               clear n0_ n1_ n2_ n3_
               (try clear hb)
               (try clear hb2)
               (try clear hk)
               (try clear hi)
               refine hK.out _ _ ⟨(blk_cell BK326.out 0).trans rfl, (blk_cell BK326.out 1).trans rfl, (blk_cell BK326.out 2).trans rfl, (blk_cell BK326.out 3).trans rfl, (blk_cell BK326.out 4).trans rfl, (blk_cell BK326.out 5).trans rfl, HS6_⟩ (fun hHeld => ?_)
               clear hK K
               refine norm_ (a' := ?_) ?_ ?_
               rotate_left
               ·show Act.put _ (some 35) _ = _
                simp only [Act.put, List.setIfInBounds_toArray, List.set_cons_zero, List.set_cons_succ, i64_w, i32_w]
                rfl
               refine px 6 (some 29) (tf 7 11) HT_ ?_
               refine px 7 (some 36) (tf 8 11) HT_ ?_
               refine px 8 (some 37) (tf 9 11) HT_ ?_
               refine px 9 (some 11) (tf 10 11) HT_ ?_
               refine px 10 (some 12) (tf 11 11) HT_ ?_
               refine done_ (done_of HT_.out t14_) ?_
               try go_wp2_with (first | (go_at_call 60; (with_reducible refine (slices_Contains_int64_int64.calls k2 _ _ l2 x24_2 false _ ?side1 ?side2 A17.out).mono ?_); (case side1 => repeat (first | exact (Kd.C_below HR2.out HB.out) | (with_reducible refine Kd.C_alloc ?_ _) | (with_reducible refine Kd.C_drewN ?_ _) | (with_reducible refine Kd.C_drew ?_))); (case side2 => exact HC2.out); rintro e w' ⟨rfl, ⟨nd, rfl⟩⟩) | (go_at_call 60; (with_reducible refine (slices_Contains_int64_int64.calls k2 _ _ x7_2 t328 false _ ?side1 ?side2 A26.out).mono ?_); (case side1 => repeat (first | exact (Kd.R_reads' HO_7.out).2.2 | (with_reducible refine Kd.C_alloc ?_ _) | (with_reducible refine Kd.C_drewN ?_ _) | (with_reducible refine Kd.C_drew ?_))); (case side2 => exact (Kd.R_reads' HO_7.out).2.1); rintro e w' ⟨rfl, ⟨nd, rfl⟩⟩) | ((with_reducible refine gate_builtin (b := .append) (xs := #[.tmp 51, .tmp 53]) rfl ?_); at_builtin; refine Kd.R_append (Kd.int .i64) (w0 := w) w.heap.size rfl (.tmp 51) (.tmp 53) 22 2 (.int .i64 0) 8 rfl Try.underlying22 info2 rfl t31_ t28_ (.slice (some ad327) x7_2.length co41) x7_2 t328 [.int .i64 t328] (fun _ => True) (fun _ => False) rfl rfl ?aP (fun _ hk => hk.elim) ?aF ?aO ?aB ?aS ?aL ?_; (case aP => exact rfl); (case aB => exact t21_); (case aF => exact (fun _ _ => trivial)); (case aO => exact (q2_ HO_7.out)); (case aS => exact (below_size t21_)); (case aL => have := LMc35.out; omega); intro v333 w43 ho hb hg hat; rw [← Ny332.out] at ho; have n0_ := Aside0.mk (blk_grown (g := gb320) (o := .cells #[.slice A0_0 l0_0.length c0_0, .slice (some ad325) l0_1.length c0_1] 32 (0, 0)) (q1_ BK320.out) hg (Kd.R_ne HO_7.out BK320.out t31_)); have n1_ := Aside0.mk (blk_grown (g := gb326) (o := .cells #[.string ((rd_T80 l0_1 x24_2).f0), .int .i64 ((rd_T80 l0_1 x24_2).f1), .int .i64 ((rd_T80 l0_1 x24_2).f2), .int .i64 ((rd_T80 l0_1 x24_2).f3), .int .i64 ((rd_T80 l0_1 x24_2).f4), .int .i64 ((rd_T80 l0_1 x24_2).f5)] 80 (0, 0)) (q1_ BK326.out) hg (Kd.R_ne HO_7.out BK326.out t31_)); have n2_ := Aside0.mk (hb); have n3_ := Aside0.mk (ho); clear BK320; clear BK326; clear HB; clear HO_7; have BK320 := n0_; have BK326 := n1_; have HB := n2_; have HO334 := n3_; clear n0_ n1_ n2_ n3_; clear ho hb hg hat))
               go_roundg k2
               case measure => have := HK1.out; have := HK2.out; omega
               case rel => exact ⟨(y332), (wrap64 (x24_2 + 1)), t6_, H', ⟨(by have := HK1.out; have := HK2.out; omega)⟩, ⟨(by (with_reducible repeat (first | apply Kd.R_alloc | apply Kd.R_drewN | apply Kd.R_drew)); exact HO334.out)⟩, ⟨t37_⟩, ⟨t21_⟩⟩
              ·rw [if_neg c35] at H
               exact absurd H t44_
           ·replace c16 := Bool.eq_false_iff.mpr c16
            subst c16
            have H1 : (impl_Network_reached.l1 k2 l2 x7_2 x8_1 l0_1 (l0_1.length : Int) (wrap64 (x24_2 + 1)) l0_0 l0_1) = some r := by rw [if_neg (show ¬ (false = true) by decide)] at H; exact H
            clear H
            have H := H1
            clear H1
            have H' := Aside0.mk H
            clear H
            have p325 : 0 ≤ (x24_2 : Int) := of_decide_eq_true t3_
            have q325 : x24_2 < (l0_1.length : Int) := of_decide_eq_true t3_
            obtain ⟨ad325, e325, hx325_0, hx325_1, hx325_2, hx325_3, hx325_4, hx325_5⟩ := at_T80 HR0_1.out x24_2 p325 q325
            cases e325
            replace hx325_0 := hb_ HB hx325_0
            replace hx325_1 := hb_ HB hx325_1
            replace hx325_2 := hb_ HB hx325_2
            replace hx325_3 := hb_ HB hx325_3
            replace hx325_4 := hb_ HB hx325_4
            replace hx325_5 := hb_ HB hx325_5
            replace p325 := eq_true p325
            replace q325 := eq_true q325
            try go_wp2_with (first | ((with_reducible refine gate_dst (N := 10) rfl ?_); refine box_event ?hg (N := 10) ?hd (cs := #[.string (⟨#[]⟩ : ByteArray), .int .i64 0, .int .i64 0, .int .i64 0, .int .i64 0, .int .i64 0]) (t := 80) ?hr ?_; (case hd => rfl); (case hg => rfl); (case hr => first | (go_simp; done) | (go_simp; rfl)); intro gb326 hg w44 hbox hb; have n0_ := Aside0.mk (Kd.R_below (q2_ HO_7.out) hb); have n1_ := Aside0.mk (blk_below (g := gb320) (o := .cells #[.slice A0_0 l0_0.length c0_0, .slice (some ad325) l0_1.length c0_1] 32 (0, 0)) (q1_ BK320.out) hb); have n2_ := Aside0.mk (below_step t19_ hb); have n3_ := Aside0.mk (hbox); have n4_ := Aside0.mk ((by rw [hg]; exact (below_size t19_) : w.heap.size ≤ gb326)); have n5_ := Aside0.mk ((by rw [hg]; exact (below_size t19_) : w.heap.size ≤ gb326)); have n6_ := Aside0.mk ((by rw [hg]; exact Nat.ne_of_lt (blk_lt (g := gb320) (o := .cells #[.slice A0_0 l0_0.length c0_0, .slice (some ad325) l0_1.length c0_1] 32 (0, 0)) (q1_ BK320.out)) : gb320 ≠ gb326)); have n7_ := Aside0.mk ((by rw [hg]; exact Nat.ne_of_gt (blk_lt (g := gb320) (o := .cells #[.slice A0_0 l0_0.length c0_0, .slice (some ad325) l0_1.length c0_1] 32 (0, 0)) (q1_ BK320.out)) : gb326 ≠ gb320)); clear HO_7; clear BK320; clear HB; have HO_7 := n0_; have BK320 := n1_; have HB := n2_; have BK326 := n3_; have GW326 := n4_; have GE326 := n5_; have NB320_326 := n6_; have NB326_320 := n7_; clear n0_ n1_ n2_ n3_ n4_ n5_ n6_ n7_; clear hb hbox hg; have hnb45 := NB326_320.out; have hnc45 := NB320_326.out; have hcz46_0 : w44.cell? ⟨gb326, 0, none⟩ = some (.string (⟨#[]⟩ : ByteArray)) := (blk_cell BK326.out 0).trans rfl; have hcz46_1 : w44.cell? ⟨gb326, 1, none⟩ = some (.int .i64 0) := (blk_cell BK326.out 1).trans rfl; have hcz46_2 : w44.cell? ⟨gb326, 2, none⟩ = some (.int .i64 0) := (blk_cell BK326.out 2).trans rfl; have hcz46_3 : w44.cell? ⟨gb326, 3, none⟩ = some (.int .i64 0) := (blk_cell BK326.out 3).trans rfl; have hcz46_4 : w44.cell? ⟨gb326, 4, none⟩ = some (.int .i64 0) := (blk_cell BK326.out 4).trans rfl; have hcz46_5 : w44.cell? ⟨gb326, 5, none⟩ = some (.int .i64 0) := (blk_cell BK326.out 5).trans rfl; have hfz46_0 := blk_frozen BK326.out 0; have hfz46_1 := blk_frozen BK326.out 1; have hfz46_2 := blk_frozen BK326.out 2; have hfz46_3 := blk_frozen BK326.out 3; have hfz46_4 := blk_frozen BK326.out 4; have hfz46_5 := blk_frozen BK326.out 5))
            have n0_ : Aside0 (Kd.R (Kd.int .i64) 2 ((((((w44.setCell ⟨gb326, 0, none⟩ (.string ((rd_T80 l0_1 x24_2).f0))).setCell ⟨gb326, 1, none⟩ (.int .i64 ((rd_T80 l0_1 x24_2).f1))).setCell ⟨gb326, 2, none⟩ (.int .i64 ((rd_T80 l0_1 x24_2).f2))).setCell ⟨gb326, 3, none⟩ (.int .i64 ((rd_T80 l0_1 x24_2).f3))).setCell ⟨gb326, 4, none⟩ (.int .i64 ((rd_T80 l0_1 x24_2).f4))).setCell ⟨gb326, 5, none⟩ (.int .i64 ((rd_T80 l0_1 x24_2).f5))) w.heap.size (fun _ => True) u7 x7_2) := ⟨t22_⟩
            have n1_ : Aside0 (((((((w44.setCell ⟨gb326, 0, none⟩ (.string ((rd_T80 l0_1 x24_2).f0))).setCell ⟨gb326, 1, none⟩ (.int .i64 ((rd_T80 l0_1 x24_2).f1))).setCell ⟨gb326, 2, none⟩ (.int .i64 ((rd_T80 l0_1 x24_2).f2))).setCell ⟨gb326, 3, none⟩ (.int .i64 ((rd_T80 l0_1 x24_2).f3))).setCell ⟨gb326, 4, none⟩ (.int .i64 ((rd_T80 l0_1 x24_2).f4))).setCell ⟨gb326, 5, none⟩ (.int .i64 ((rd_T80 l0_1 x24_2).f5))).heap[gb320]? = some (.cells #[.slice A0_0 l0_0.length c0_0, .slice (some ad325) l0_1.length c0_1] 32 (0, 0))) := ⟨t18_⟩
            have n2_ : Aside0 (((((((w44.setCell ⟨gb326, 0, none⟩ (.string ((rd_T80 l0_1 x24_2).f0))).setCell ⟨gb326, 1, none⟩ (.int .i64 ((rd_T80 l0_1 x24_2).f1))).setCell ⟨gb326, 2, none⟩ (.int .i64 ((rd_T80 l0_1 x24_2).f2))).setCell ⟨gb326, 3, none⟩ (.int .i64 ((rd_T80 l0_1 x24_2).f3))).setCell ⟨gb326, 4, none⟩ (.int .i64 ((rd_T80 l0_1 x24_2).f4))).setCell ⟨gb326, 5, none⟩ (.int .i64 ((rd_T80 l0_1 x24_2).f5))).heap[gb326]? = some (.cells #[.string ((rd_T80 l0_1 x24_2).f0), .int .i64 ((rd_T80 l0_1 x24_2).f1), .int .i64 ((rd_T80 l0_1 x24_2).f2), .int .i64 ((rd_T80 l0_1 x24_2).f3), .int .i64 ((rd_T80 l0_1 x24_2).f4), .int .i64 ((rd_T80 l0_1 x24_2).f5)] 80 (0, 0))) := ⟨t9_⟩
            have n3_ : Aside0 (Below w.heap.size w ((((((w44.setCell ⟨gb326, 0, none⟩ (.string ((rd_T80 l0_1 x24_2).f0))).setCell ⟨gb326, 1, none⟩ (.int .i64 ((rd_T80 l0_1 x24_2).f1))).setCell ⟨gb326, 2, none⟩ (.int .i64 ((rd_T80 l0_1 x24_2).f2))).setCell ⟨gb326, 3, none⟩ (.int .i64 ((rd_T80 l0_1 x24_2).f3))).setCell ⟨gb326, 4, none⟩ (.int .i64 ((rd_T80 l0_1 x24_2).f4))).setCell ⟨gb326, 5, none⟩ (.int .i64 ((rd_T80 l0_1 x24_2).f5)))) := ⟨t21_⟩
            (try clear HO_7)
            (try clear BK320)
            (try clear BK326)
            (try clear HB)
            generalize ((((((w44.setCell ⟨gb326, 0, none⟩ (.string ((rd_T80 l0_1 x24_2).f0))).setCell ⟨gb326, 1, none⟩ (.int .i64 ((rd_T80 l0_1 x24_2).f1))).setCell ⟨gb326, 2, none⟩ (.int .i64 ((rd_T80 l0_1 x24_2).f2))).setCell ⟨gb326, 3, none⟩ (.int .i64 ((rd_T80 l0_1 x24_2).f3))).setCell ⟨gb326, 4, none⟩ (.int .i64 ((rd_T80 l0_1 x24_2).f4))).setCell ⟨gb326, 5, none⟩ (.int .i64 ((rd_T80 l0_1 x24_2).f5))) = w47 at n0_ n1_ n2_ n3_ ⊢
            have HO_7 := n0_
            have BK320 := n1_
            have BK326 := n2_
            have HB := n3_
            clear n0_ n1_ n2_ n3_
            have n0_ := Aside0.mk (Kd.R_drew HO_7.out)
            have n1_ := Aside0.mk (blk_drew BK320.out)
            have n2_ := Aside0.mk (blk_drew BK326.out)
            have n3_ := Aside0.mk (below_drew1 HB.out)
            clear HO_7
            clear BK320
            clear BK326
            clear HB
            have HO_7 := n0_
            have BK320 := n1_
            have BK326 := n2_
            have HB := n3_
            clear n0_ n1_ n2_ n3_
            obtain ⟨Ao49, co49, eo49⟩ := Kd.R_slice HO_7.out
            (first | subst eo49 | (injection eo49 with f1_ f2_ f3_; have f4_ := f1_.symm; have f5_ := f3_.symm; clear f1_ f2_ f3_; subst f4_; subst f5_))
            have p327 : 0 ≤ (x8_1 : Int) := of_decide_eq_true t3_
            have q327 : x8_1 < (x7_2.length : Int) := of_decide_eq_true t3_
            obtain ⟨ad327, e327, hx327_0⟩ := Kd.at_int (Kd.R_reads' HO_7.out).2.2 x8_1 p327 q327
            cases e327
            replace p327 := eq_true p327
            replace q327 := eq_true q327
            refine start_ (n := 11) (S := fun w' => w'.cell? ⟨gb326, 0, none⟩ = some (.string ((rd_T80 l0_1 x24_2).f0)) ∧ w'.cell? ⟨gb326, 1, none⟩ = some (.int .i64 ((rd_T80 l0_1 x24_2).f1)) ∧ w'.cell? ⟨gb326, 2, none⟩ = some (.int .i64 ((rd_T80 l0_1 x24_2).f2)) ∧ w'.cell? ⟨gb326, 3, none⟩ = some (.int .i64 ((rd_T80 l0_1 x24_2).f3)) ∧ w'.cell? ⟨gb326, 4, none⟩ = some (.int .i64 ((rd_T80 l0_1 x24_2).f4)) ∧ w'.cell? ⟨gb326, 5, none⟩ = some (.int .i64 ((rd_T80 l0_1 x24_2).f5)) ∧ w'.cell? (ad327.add (x8_1).toNat) = some (.int .i64 (rd x7_2 x8_1))) (ds := []) (tf 0 11) t14_ rfl rfl ⟨(blk_cell BK326.out 0).trans rfl, (blk_cell BK326.out 1).trans rfl, (blk_cell BK326.out 2).trans rfl, (blk_cell BK326.out 3).trans rfl, (blk_cell BK326.out 4).trans rfl, (blk_cell BK326.out 5).trans rfl, hx327_0⟩ (fun hHeld => ?_); refine with_tabW impl_Network_reached.tab8 impl_Network_reached.bits8 (fun HT_ HW_ => ?_)
            generalize w47.drew = w48 at HO_7 BK320 BK326 HB hx327_0 hHeld ⊢
            refine px 1 (some 31) (tb 11 2) HT_ ?_
            refine px 2 (some 32) (tb 11 6) HT_ ?_
            refine px 3 (some 33) (tb 11 14) HT_ ?_
            refine tx (v := ?_) 0 (some 30) (tf 4 11) HT_ HW_ hHeld ?_ ?_
            rotate_left; (· rintro w' ⟨s0, s1, s2, s3, s4, s5, s6⟩; go_simp; with_reducible rfl)
            refine tx (v := ?_) 4 (some 34) (tf 5 11) HT_ HW_ hHeld ?_ ?_
            rotate_left; (· rintro w' ⟨s0, s1, s2, s3, s4, s5, s6⟩; go_simp; with_reducible rfl)
            refine one_ (i := 5) (N := some 35) (tf 6 11) rfl rfl (one_of HT_.out t14_) t31_ (fun K hK => ?_)
            refine goes_ Try.func62 t14_ rfl #[.agg #[.string ((rd_T80 l0_1 x24_2).f0), .int .i64 ((rd_T80 l0_1 x24_2).f1), .int .i64 ((rd_T80 l0_1 x24_2).f2), .int .i64 ((rd_T80 l0_1 x24_2).f3), .int .i64 ((rd_T80 l0_1 x24_2).f4), .int .i64 ((rd_T80 l0_1 x24_2).f5)], .int .i64 (rd x7_2 x8_1)] t71_ rfl rfl t2_ ?_
            with_reducible refine (impl_Pipe_other.calls ((rd_T80 l0_1 x24_2).f0) ((rd_T80 l0_1 x24_2).f1) ((rd_T80 l0_1 x24_2).f2) ((rd_T80 l0_1 x24_2).f3) ((rd_T80 l0_1 x24_2).f4) ((rd_T80 l0_1 x24_2).f5) (rd x7_2 x8_1) t328 false _ A15.out).mono ?_
            rintro e w50 ⟨rfl, hb⟩
            have HS6_ := (hb.cell (World.block_lt_of_cell? _ _ (hHeld.2.2.2.2.2.2))).trans (hHeld.2.2.2.2.2.2)
            refine ⟨_, rfl, ?_⟩
            have n0_ := Aside0.mk (Kd.R_below (q2_ HO_7.out) hb)
            have n1_ := Aside0.mk (blk_below (g := gb320) (o := .cells #[.slice A0_0 l0_0.length c0_0, .slice (some ad325) l0_1.length c0_1] 32 (0, 0)) (q1_ BK320.out) hb)
            have n2_ := Aside0.mk (blk_below (g := gb326) (o := .cells #[.string ((rd_T80 l0_1 x24_2).f0), .int .i64 ((rd_T80 l0_1 x24_2).f1), .int .i64 ((rd_T80 l0_1 x24_2).f2), .int .i64 ((rd_T80 l0_1 x24_2).f3), .int .i64 ((rd_T80 l0_1 x24_2).f4), .int .i64 ((rd_T80 l0_1 x24_2).f5)] 80 (0, 0)) (q1_ BK326.out) hb)
            have n3_ := Aside0.mk (below_step t21_ hb)
            clear HO_7
            clear BK320
            clear BK326
            clear HB
            have HO_7 := n0_
            have BK320 := n1_
            have BK326 := n2_
            have HB := n3_
            clear n0_ n1_ n2_ n3_
            (try clear hb)
            (try clear hb2)
            (try clear hk)
            (try clear hi)
            refine hK.out _ _ ⟨(blk_cell BK326.out 0).trans rfl, (blk_cell BK326.out 1).trans rfl, (blk_cell BK326.out 2).trans rfl, (blk_cell BK326.out 3).trans rfl, (blk_cell BK326.out 4).trans rfl, (blk_cell BK326.out 5).trans rfl, HS6_⟩ (fun hHeld => ?_)
            clear hK K
            refine norm_ (a' := ?_) ?_ ?_
            rotate_left
            ·show Act.put _ (some 35) _ = _
             simp only [Act.put, List.setIfInBounds_toArray, List.set_cons_zero, List.set_cons_succ, i64_w, i32_w]
             rfl
            refine px 6 (some 29) (tf 7 11) HT_ ?_
            refine px 7 (some 36) (tf 8 11) HT_ ?_
            refine px 8 (some 37) (tf 9 11) HT_ ?_
            refine px 9 (some 11) (tf 10 11) HT_ ?_
            refine px 10 (some 12) (tf 11 11) HT_ ?_
            refine done_ (done_of HT_.out t14_) ?_
            try go_wp2
            go_roundg k2
            case measure => have := HK1.out; have := HK2.out; omega
            case rel => exact ⟨(x7_2), (wrap64 (x24_2 + 1)), t6_, H', ⟨(by have := HK1.out; have := HK2.out; omega)⟩, ⟨t25_⟩, ⟨t37_⟩, ⟨t21_⟩⟩
          ·rw [if_neg c14] at H
           exact absurd H t44_
         ·rw [if_neg c13] at H
          exact absurd H t44_
        ·rw [if_neg c12] at H
         exact absurd H t44_
       ·rw [if_neg c11] at H
        exact absurd H t44_
      ·rw [if_neg c10] at H
       have c10b0 : decide (x24_2 < (l0_1.length : Int)) = false := decide_eq_false c10
       clear c10
       have H' := Aside0.mk H
       clear H
       go_wp2
       go_roundg k2
       case measure => have := HK1.out; have := HK2.out; omega
       case rel => exact ⟨(x7_2), (wrap64 (x8_1 + 1)), t6_, H', ⟨(by have := HK1.out; have := HK2.out; omega)⟩, ⟨t25_⟩, ⟨t37_⟩, ⟨t19_⟩⟩
   ·rw [if_neg c7] at H
    have c7b0 : decide (x8_1 < (x7_1.length : Int)) = false := decide_eq_false c7
    clear c7
    replace H := Option.bind_eq_some_iff.mp H
    obtain ⟨t324, A510, H⟩ := H
    replace H : (some t324) = some r := H
    have A51 := Aside0.mk A510
    clear A510
    obtain rfl := Option.some.inj H
    obtain ⟨Ao52, co52, eo52⟩ := Kd.R_slice HO_7.out
    subst eo52
    go_wp2_with (first | ((with_reducible refine gate_callee (f := 97) rfl ?_); refine goesL_ (some 57) rfl rfl Try.func97 t14_ rfl #[.slice Ao52 x7_1.length co52] rfl t2_ ?_; (with_reducible refine (slices_Sort_int64_int64.calls (fun k_ => some k_ = (.slice Ao52 x7_1.length co52 : Value).ownBlock) (.slice Ao52 x7_1.length co52) x7_1 t324 w _ ?side1 ?side2 A51.out).mono ?_); (case side1 => repeat (first | (with_reducible first | exact HB.out | apply below_alloc | apply pw_below_drewN | apply below_drew1 | refine below_set ?_ GE320.out) | exact HB.out)); (case side2 => exact Kd.R_tight rfl HO_7.out); rintro e w53 ⟨rfl, hy0, hb, hkp⟩; refine ⟨_, rfl, ?_⟩; have n0_ := Aside0.mk (Kd.R_reok rfl hy0 (fun k_ e_ => HO_7.out.1 k_ e_)); have n1_ := Aside0.mk (blk_kept (q1_ BK320.out) hkp (fun hs_ => (fun e_ => (Kd.R_ne HO_7.out BK320.out t31_) e_) hs_)); have n2_ := Aside0.mk (hb); clear HO_7; clear BK320; clear HB; have HO_7 := n0_; have BK320 := n1_; have HB := n2_; clear n0_ n1_ n2_; (try clear hb); (try clear hkp); (try clear hy0)))
    go_ret
    exact ⟨_, t26_, t25_, t19_⟩

/-! ### slices_Compact_int64_int64: function 98 -/
/-- slices.Compact: runs of equal elements become one. -/
def slices_Compact_int64_int64.f (l0 : List Int) : Option (List Int) := some (Lib.compact l0)
theorem slices_Compact_int64_int64.len (l : List Int) : (Lib.compact l).length ≤ l.length := by
  unfold Lib.compact Lib.compactUpTo
  rw [List.length_map]
  refine Nat.le_trans (List.length_filter_le _ _) ?_
  simp
theorem slices_Compact_int64_int64.calls (P0_ : Nat → Prop) (u9000_ : Value) (l0 : List Int) (r : List Int) (w0 w : World) (hB : Below w0.heap.size w0 w) (ho0 : Kd.R (Kd.int .i64) 2 w w0.heap.size P0_ u9000_ l0) (h : slices_Compact_int64_int64.f l0 = some r) :
    Calls Try.prog 98 #[u9000_] w fun e w' => ∃ v0_ : Value, e = .returned (v0_) ∧ Kd.R (Kd.int .i64) 2 w' w0.heap.size (fun k_ => (P0_ k_ ∨ w.heap.size ≤ k_)) v0_ r ∧ Below w0.heap.size w0 w' ∧ Kept w w' (fun k_ => P0_ k_) := by
  obtain rfl := Option.some.inj h
  have hok := ho0.1
  have ho : w.ownsRow w0.heap.size 2 1 u9000_ l0.length (encs (Value.int .i64) l0) := Kd.own_of_R ho0
  obtain ⟨hlen, hrow⟩ := ho
  rcases hrow with ⟨rfl, h0⟩ | ⟨g, cap, cur, rfl, hg, hblk, hn, hcap, hcur, htake⟩
  · have hl0 : l0 = [] := List.length_eq_zero_iff.1 h0
    subst hl0
    refine (AnyG.slices_Compact_int_empty lcompact_ none 0 w).mono ?_
    rintro e w' ⟨rfl, rfl⟩
    exact ⟨_, rfl, Kd.R_nil _ _ _ _ _, hB, Kept.refl _ _⟩
  · have hgs : g < w.heap.size := (Array.getElem?_eq_some_iff.1 hblk).1
    have ht : cur.toList.take l0.length = l0.map (Value.int .i64) := by rw [Nat.mul_one] at htake; exact htake
    have hcl := slices_Compact_int64_int64.len l0
    refine (AnyG.slices_Compact_int lcompact_ g 0 cap l0 w (holds_of_blockI hblk ht) (by simp only [maxLen] at hcap; omega) hn).mono ?_
    rintro e w' ⟨rfl, n, rfl⟩
    have hl : (Lib.compact l0 ++ List.replicate (l0.length - (Lib.compact l0).length) 0).length = l0.length := by simp; omega
    have hgr : w.grownBy (Sort.grow (Sort.putRow (Value.int .i64) (Sort.ahead w n) g 0 (Lib.compact l0 ++ List.replicate (l0.length - (Lib.compact l0).length) 0).toArray) #[]) (some g) := grownBy_sortedI _
    have hw := ownsRow_sortedI (n := n) (os := #[]) hl hg hblk hn hcap hcur
    rw [Sort.grow_empty] at hgr hw
    refine ⟨_, rfl, ?_, hB.grown hgr hB.size (fun k e => by cases e; exact hg), ⟨hgr.size, fun i hi hni => hgr.block i hi (fun e => hni (hok i e.symm))⟩⟩
    refine Kd.R_of_own ?_ (fun k hk => Or.inl (hok k hk))
    rcases hw.2 with ⟨hv, _⟩ | ⟨g', cap', cur', hv, h1, h2, h3, h4, h5, h6⟩
    · cases hv
    · cases hv
      refine ⟨(by simp [encs]), Or.inr ⟨g, cap, cur', rfl, h1, h2, t28_, h4, h5, ?_⟩⟩
      rw [Nat.mul_one] at h6 ⊢
      have h7 := congrArg (List.take (Lib.compact l0).length) h6
      rw [List.take_take, Nat.min_eq_left hcl, List.map_append, List.take_append_of_le_length t44_] at h7
      rw [h7, List.take_of_length_le t44_]
      rfl

end Go.Proofs.Ytjelfhmgbhidnaa.PFnExactCriticalPipes
