-- written by wip/xprint.py, a program of this session, for this claim; not trusted: Lean checks it.
import Derived.Test.YtjelfhmgbhidnaaPFnExactValveNamedx0
import Derived.Test.YtjelfhmgbhidnaaPFnExactValveNamedx9
import Derived.Test.YtjelfhmgbhidnaaPFnExactValveNamedx10
import Derived.Test.YtjelfhmgbhidnaaPFnExactValveNamedx11
namespace Go.Proofs.Ytjelfhmgbhidnaa.PFnExactValveNamed
open Go.RowKit Go.Proofs.YtjelfhmgbhidnaaW.PrintWords Go.Proofs.YtjelfhmgbhidnaaW.PrintLast Go.Proofs.YtjelfhmgbhidnaaW.PrintMore
attribute [local go_sem] leq_less_ max2_int min2_int max_two min_two max_three min_three max_four min_four   -- for this text's walks alone
set_option linter.unusedVariables false
set_option linter.unusedSimpArgs false

/-! ### impl_ValidValves: function 16 -/
mutual
def impl_ValidValves.j0 : Nat → List (S64) → Bool → List Int → List (S80) → Option (Bool)
 | 0, _, _, _, _ => none
 | k + 1, x1, x14, x269000, x269001 => if x14 = true then (some false) else (impl_ValidValves.l0 k x1 x1 (x1.length : Int) 0 x269000 x269001)
def impl_ValidValves.l0 : Nat → List (S64) → List (S64) → Int → Int → List Int → List (S80) → Option (Bool)
 | 0, _, _, _, _, _, _ => none
 | k + 1, x1, x15, x16, x17, x269000, x269001 => if x17 < x16 then (if 0 ≤ x17 then (if x17 < (x15.length : Int) then ((impl_IsName.f k ((rd_T64 x15 x17).f0)).bind fun t272 => (if t272 = true then ((impl_Network_pipeNamed.f k x269000 x269001 ((rd_T64 x15 x17).f1)).bind fun t273 => (if t273 < 0 then (impl_ValidValves.j2 k x1 x17 x15 x16 x17 true x269000 x269001 ((rd_T64 x15 x17).f0) ((rd_T64 x15 x17).f1) ((rd_T64 x15 x17).f2)) else (if x17 > 0 then (if 0 ≤ (wrap64 (x17 - 1)) then (if (wrap64 (x17 - 1)) < (x1.length : Int) then (impl_ValidValves.j2 k x1 x17 x15 x16 x17 (!(Op.bytesLess (((rd_T64 x1 (wrap64 (x17 - 1))).f0).toList) (((rd_T64 x15 x17).f0).toList))) x269000 x269001 ((rd_T64 x15 x17).f0) ((rd_T64 x15 x17).f1) ((rd_T64 x15 x17).f2)) else (none)) else (none)) else (impl_ValidValves.j2 k x1 x17 x15 x16 x17 false x269000 x269001 ((rd_T64 x15 x17).f0) ((rd_T64 x15 x17).f1) ((rd_T64 x15 x17).f2))))) else (impl_ValidValves.j2 k x1 x17 x15 x16 x17 true x269000 x269001 ((rd_T64 x15 x17).f0) ((rd_T64 x15 x17).f1) ((rd_T64 x15 x17).f2)))) else (none)) else (none)) else (some true)
def impl_ValidValves.j2 : Nat → List (S64) → Int → List (S64) → Int → Int → Bool → List Int → List (S80) → ByteArray → ByteArray → Bool → Option (Bool)
 | 0, _, _, _, _, _, _, _, _, _, _, _ => none
 | k + 1, x1, x5, x15, x16, x17, x47, x269000, x269001, x272000, x272001, x272002 => if x47 = true then (some false) else (if 0 ≤ x5 then (if x5 ≤ (x1.length : Int) then ((impl_Valve_47_c48.f k (x1.take (x5 : Int).toNat) [(⟨x272000, x272001, x272002⟩ : S64)]).bind fun t279 => (if t279 = true then (some false) else (impl_ValidValves.l0 k x1 x15 x16 (wrap64 (x17 + 1)) x269000 x269001))) else (none)) else (none))
end
def impl_ValidValves.f (k : Nat) (l0_0 : List Int) (l0_1 : List (S80)) (l1 : List (S64)) : Option (Bool) := (impl_ValidNetwork.f k l0_0 l0_1).bind fun t269 => (if t269 = true then (impl_ValidValves.j0 k l1 (decide ((l1.length : Int) > 8)) l0_0 l0_1) else (impl_ValidValves.j0 k l1 true l0_0 l0_1))
theorem impl_ValidValves.mono_l : ∀ k, (∀ y0 y1 y2 y3, LeO (impl_ValidValves.j0 k y0 y1 y2 y3) (impl_ValidValves.j0 (k + 1) y0 y1 y2 y3)) ∧ (∀ y0 y1 y2 y3 y4 y5, LeO (impl_ValidValves.l0 k y0 y1 y2 y3 y4 y5) (impl_ValidValves.l0 (k + 1) y0 y1 y2 y3 y4 y5)) ∧ (∀ y0 y1 y2 y3 y4 y5 y6 y7 y8 y9 y10, LeO (impl_ValidValves.j2 k y0 y1 y2 y3 y4 y5 y6 y7 y8 y9 y10) (impl_ValidValves.j2 (k + 1) y0 y1 y2 y3 y4 y5 y6 y7 y8 y9 y10))
 | 0 => ⟨fun _ _ _ _ r h => by simp [impl_ValidValves.j0] at h, fun _ _ _ _ _ _ r h => by simp [impl_ValidValves.l0] at h, fun _ _ _ _ _ _ _ _ _ _ _ r h => by simp [impl_ValidValves.j2] at h⟩
 | k + 1 => by
  obtain ⟨ih0, ih1, ih2⟩ := impl_ValidValves.mono_l k
  refine ⟨?_, ?_, ?_⟩ <;> intros <;> first | unfold impl_ValidValves.j0 | unfold impl_ValidValves.l0 | unfold impl_ValidValves.j2
  all_goals
   repeat' first
   | (with_reducible exact ih0 _ _ _ _)
   | (with_reducible exact ih1 _ _ _ _ _ _)
   | (with_reducible exact ih2 _ _ _ _ _ _ _ _ _ _ _)
   | (with_reducible exact impl_IsName.mono _ _)
   | (with_reducible exact impl_Network_pipeNamed.mono _ _ _ _)
   | (with_reducible exact impl_ValidNetwork.mono _ _ _)
   | (with_reducible exact impl_Valve_47_c48.mono _ _ _)
   | (with_reducible exact LeO.refl _)
   | (with_reducible exact LeO.none _)
   | (with_reducible refine LeO.ite ?_ ?_)
   | (with_reducible refine LeO.bind ?_ (fun _ => ?_))
   | exact ih0 _ _ _ _
   | exact ih1 _ _ _ _ _ _
   | exact ih2 _ _ _ _ _ _ _ _ _ _ _
   | exact impl_IsName.mono _ _
   | exact impl_Network_pipeNamed.mono _ _ _ _
   | exact impl_ValidNetwork.mono _ _ _
   | exact impl_Valve_47_c48.mono _ _ _
   | exact LeO.none _
   | refine LeO.ite ?_ ?_
   | refine LeO.bind ?_ (fun _ => ?_)
theorem impl_ValidValves.mono : ∀ a0 a1 a2 k, LeO (impl_ValidValves.f k a0 a1 a2) (impl_ValidValves.f (k + 1) a0 a1 a2) := by
 intro a0 a1 a2 k
 obtain ⟨ih0, ih1, ih2⟩ := impl_ValidValves.mono_l k
 unfold impl_ValidValves.f
 repeat' first
   | (with_reducible exact ih0 _ _ _ _)
   | (with_reducible exact ih1 _ _ _ _ _ _)
   | (with_reducible exact ih2 _ _ _ _ _ _ _ _ _ _ _)
   | (with_reducible exact impl_IsName.mono _ _)
   | (with_reducible exact impl_Network_pipeNamed.mono _ _ _ _)
   | (with_reducible exact impl_ValidNetwork.mono _ _ _)
   | (with_reducible exact impl_Valve_47_c48.mono _ _ _)
   | (with_reducible exact LeO.refl _)
   | (with_reducible exact LeO.none _)
   | (with_reducible refine LeO.ite ?_ ?_)
   | (with_reducible refine LeO.bind ?_ (fun _ => ?_))
   | exact ih0 _ _ _ _
   | exact ih1 _ _ _ _ _ _
   | exact ih2 _ _ _ _ _ _ _ _ _ _ _
   | exact impl_IsName.mono _ _
   | exact impl_Network_pipeNamed.mono _ _ _ _
   | exact impl_ValidNetwork.mono _ _ _
   | exact impl_Valve_47_c48.mono _ _ _
   | exact LeO.none _
   | refine LeO.ite ?_ ?_
   | refine LeO.bind ?_ (fun _ => ?_)
def impl_ValidValves.T6 : Bool × List (List Nat × List Nat) := (true, [([], []), ([0], [0]), ([1], [1]), ([2], [2]), ([3, 2], [3]), ([4], [4]), ([4], [4]), ([6, 4], [4, 6]), ([5, 7, 4, 4], [4, 5, 7]), ([8, 4], [4, 8]), ([4, 9], [4, 9]), ([10, 8], [10]), ([11], [11]), ([12, 11], [11, 12]), ([13, 11, 11], [11, 13]), ([14], [14]), ([15, 14], [14, 15]), ([14], [14]), ([14], [14]), ([18, 14], [14, 18]), ([17, 19, 14], [14, 17, 19]), ([20, 14], [14, 20]), ([21, 14], [14, 21]), ([16, 22, 14], [14, 16, 22]), ([14, 23, 11], [11, 14, 23]), ([11, 24], [11, 24])])
def impl_ValidValves.B6 : List Nat := [0, 1, 3, 7, 15, 31, 31, 95, 255, 511, 1023, 2047, 4095, 8191, 16383, 32767, 65535, 32767, 32767, 294911, 950271, 1998847, 4095999, 8388607, 16777215, 33554431]
theorem impl_ValidValves.tab6 : rtab .any (opsOf Try.f16 6) = impl_ValidValves.T6 := by kernel_rfl
theorem impl_ValidValves.bits6 : waitsOk impl_ValidValves.T6.2 impl_ValidValves.B6 = true := by kernel_rfl
set_option maxHeartbeats 8000000 in
set_option maxRecDepth 100000 in
theorem impl_ValidValves.calls (k : Nat) (A0_0 : Option Addr) (c0_0 : Nat) (l0_0 : List Int) (A0_1 : Option Addr) (c0_1 : Nat) (l0_1 : List (S80)) (A1 : Option Addr) (c1 : Nat) (l1 : List (S64)) (r : Bool) (w : World) (hr0_0 : Kd.C (Kd.int .i64) w A0_0 l0_0.length l0_0) (hc0_0 : l0_0.length ≤ c0_0) (hr0_1 : Kd.C k80 w A0_1 l0_1.length l0_1) (hc0_1 : l0_1.length ≤ c0_1) (hr1 : Kd.C k64 w A1 l1.length l1) (hc1 : l1.length ≤ c1) (h : impl_ValidValves.f k l0_0 l0_1 l1 = some r) :
  Calls Try.prog 16 #[.agg #[.slice A0_0 l0_0.length c0_0, .slice A0_1 l0_1.length c0_1], .slice A1 l1.length c1] w fun e w' => e = .returned (.bool r) ∧ Below w.heap.size w w' := by
 have hu32 := Try.underlying32
 have hu64 := Try.underlying64
 have HR0_0 := Aside0.mk hr0_0
 have HC0_0 := Aside0.mk hc0_0
 clear hr0_0 hc0_0
 have HR0_1 := Aside0.mk hr0_1
 have HC0_1 := Aside0.mk hc0_1
 clear hr0_1 hc0_1
 have HR1 := Aside0.mk hr1
 have HC1 := Aside0.mk hc1
 clear hr1 hc1
 have HB := Aside0.mk (Below.refl w.heap.size w)
 have H : ((impl_ValidNetwork.f k l0_0 l0_1).bind fun t269 => (if t269 = true then (impl_ValidValves.j0 k l1 (decide ((l1.length : Int) > 8)) l0_0 l0_1) else (impl_ValidValves.j0 k l1 true l0_0 l0_1))) = some r := h
 clear h
 have HC3 := Aside0.mk H
 clear H
 go_enter Try.func16, Try.ntmps16
 go_upto_region 1 with (first | ((with_reducible refine gate_dst (N := 2) rfl ?_); (try (refine gate_guard t35_ ?_; dsimp only)); refine box_event ?hg (N := 2) ?hd (cs := #[.slice A0_0 l0_0.length c0_0, .slice A0_1 l0_1.length c0_1]) (t := 32) ?hr ?_; (case hd => rfl); (case hg => rfl); (case hr => first | (go_simp; done) | (go_simp; rfl)); intro gb268 hg w4 hbox hb; have n0_ := Aside0.mk (below_step t1_ hb); have n1_ := Aside0.mk (hbox); have n2_ := Aside0.mk ((by rw [hg]; exact (below_size t1_) : w.heap.size ≤ gb268)); have n3_ := Aside0.mk ((by rw [hg]; exact (below_size t1_) : w.heap.size ≤ gb268)); clear HB; have HB := n0_; have BK268 := n1_; have GW268 := n2_; have GE268 := n3_; clear n0_ n1_ n2_ n3_; clear hb hbox hg))
 (try simp only [Act.put, List.setIfInBounds_toArray, List.set_cons_zero, List.set_cons_succ])
 go_cut [14] (fun v14 wc => ∃ (kq : Nat) (x14_2 : Bool), v14 = .bool x14_2 ∧ Aside0 (impl_ValidValves.j0 kq l1 x14_2 l0_0 l0_1 = some r) ∧ Aside0 (kq ≤ k) ∧ Aside0 (wc.heap[gb268]? = some (.cells #[(.slice A0_0 l0_0.length c0_0), (.slice A0_1 l0_1.length c0_1)] 32 (0, 0))) ∧ Aside0 (Below w.heap.size w wc))
 case first =>
  have H := HC3.out
  clear HC3
  replace H := Option.bind_eq_some_iff.mp H
  obtain ⟨t269, A50, H⟩ := H
  replace H : (if t269 = true then (impl_ValidValves.j0 k l1 (decide ((l1.length : Int) > 8)) l0_0 l0_1) else (impl_ValidValves.j0 k l1 true l0_0 l0_1)) = some r := H
  have A5 := Aside0.mk A50
  clear A50
  by_cases c6 : t269 = true
  ·subst c6
   have H1 : (impl_ValidValves.j0 k l1 (decide ((l1.length : Int) > 8)) l0_0 l0_1) = some r := by rw [if_pos rfl] at H; exact H
   clear H
   have H := H1
   clear H1
   have H' := Aside0.mk H
   clear H
   have hcz7_0 : w4.cell? ⟨gb268, 0, none⟩ = some (.slice A0_0 l0_0.length c0_0) := (blk_cell BK268.out 0).trans rfl
   have hcz7_1 : w4.cell? ⟨gb268, 1, none⟩ = some (.slice A0_1 l0_1.length c0_1) := (blk_cell BK268.out 1).trans rfl
   have hfz7_0 := blk_frozen BK268.out 0
   have hfz7_1 := blk_frozen BK268.out 1
   go_wp2_with (first | ((with_reducible refine gate_callee (f := 44) rfl ?_); refine goesL_ (some 8) rfl rfl Try.func44 t7_ rfl #[.agg #[.slice A0_0 l0_0.length c0_0, .slice A0_1 l0_1.length c0_1]] rfl t2_ ?_; (with_reducible refine (impl_ValidNetwork.calls k _ _ l0_0 _ _ l0_1 true _ ?side1 ?side2 ?side3 ?side4 A5.out).mono ?_); (case side1 => repeat (first | exact (Kd.C_below HR0_0.out HB.out) | (with_reducible refine Kd.C_alloc ?_ _) | (with_reducible refine Kd.C_drewN ?_ _) | (with_reducible refine Kd.C_drew ?_))); (case side2 => exact HC0_0.out); (case side3 => repeat (first | exact (Kd.C_below HR0_1.out HB.out) | (with_reducible refine Kd.C_alloc ?_ _) | (with_reducible refine Kd.C_drewN ?_ _) | (with_reducible refine Kd.C_drew ?_))); (case side4 => exact HC0_1.out); rintro e w8 ⟨rfl, hb⟩; refine ⟨_, rfl, ?_⟩; have n0_ := Aside0.mk (blk_below (g := gb268) (o := .cells #[.slice A0_0 l0_0.length c0_0, .slice A0_1 l0_1.length c0_1] 32 (0, 0)) (q1_ BK268.out) hb); have n1_ := Aside0.mk (below_step t19_ hb); clear BK268; clear HB; have BK268 := n0_; have HB := n1_; clear n0_ n1_; (try clear hb); (try clear hb2); (try clear hk); (try clear hi)))
   go_meet
   case rel => exact ⟨_, (decide ((l1.length : Int) > 8)), t5_, H', ⟨by first | omega | exact Nat.le_refl _⟩, ⟨by (with_reducible repeat (first | refine blk_drewN ?_ _ | refine blk_drew ?_ | refine blk_alloc ?_ _)); exact BK268.out⟩, ⟨by repeat (first | (with_reducible first | exact HB.out | apply below_alloc | apply pw_below_drewN | apply below_drew1 | refine below_set ?_ GE268.out) | exact HB.out)⟩⟩
  ·replace c6 := Bool.eq_false_iff.mpr c6
   subst c6
   have H1 : (impl_ValidValves.j0 k l1 true l0_0 l0_1) = some r := by rw [if_neg (show ¬ (false = true) by decide)] at H; exact H
   clear H
   have H := H1
   clear H1
   have H' := Aside0.mk H
   clear H
   have hcz9_0 : w4.cell? ⟨gb268, 0, none⟩ = some (.slice A0_0 l0_0.length c0_0) := (blk_cell BK268.out 0).trans rfl
   have hcz9_1 : w4.cell? ⟨gb268, 1, none⟩ = some (.slice A0_1 l0_1.length c0_1) := (blk_cell BK268.out 1).trans rfl
   have hfz9_0 := blk_frozen BK268.out 0
   have hfz9_1 := blk_frozen BK268.out 1
   go_wp2_with (first | ((with_reducible refine gate_callee (f := 44) rfl ?_); refine goesL_ (some 8) rfl rfl Try.func44 t7_ rfl #[.agg #[.slice A0_0 l0_0.length c0_0, .slice A0_1 l0_1.length c0_1]] rfl t2_ ?_; (with_reducible refine (impl_ValidNetwork.calls k _ _ l0_0 _ _ l0_1 false _ ?side1 ?side2 ?side3 ?side4 A5.out).mono ?_); (case side1 => repeat (first | exact (Kd.C_below HR0_0.out HB.out) | (with_reducible refine Kd.C_alloc ?_ _) | (with_reducible refine Kd.C_drewN ?_ _) | (with_reducible refine Kd.C_drew ?_))); (case side2 => exact HC0_0.out); (case side3 => repeat (first | exact (Kd.C_below HR0_1.out HB.out) | (with_reducible refine Kd.C_alloc ?_ _) | (with_reducible refine Kd.C_drewN ?_ _) | (with_reducible refine Kd.C_drew ?_))); (case side4 => exact HC0_1.out); rintro e w10 ⟨rfl, hb⟩; refine ⟨_, rfl, ?_⟩; have n0_ := Aside0.mk (blk_below (g := gb268) (o := .cells #[.slice A0_0 l0_0.length c0_0, .slice A0_1 l0_1.length c0_1] 32 (0, 0)) (q1_ BK268.out) hb); have n1_ := Aside0.mk (below_step t19_ hb); clear BK268; clear HB; have BK268 := n0_; have HB := n1_; clear n0_ n1_; (try clear hb); (try clear hb2); (try clear hk); (try clear hi)))
   go_meet
   case rel => exact ⟨_, (true), t5_, H', ⟨by first | omega | exact Nat.le_refl _⟩, ⟨by (with_reducible repeat (first | refine blk_drewN ?_ _ | refine blk_drew ?_ | refine blk_alloc ?_ _)); exact BK268.out⟩, ⟨by repeat (first | (with_reducible first | exact HB.out | apply below_alloc | apply pw_below_drewN | apply below_drew1 | refine below_set ?_ GE268.out) | exact HB.out)⟩⟩
 case rest =>
  clear HC3
  try clear c1
  try clear p2
  try clear c4
  try clear c6
  try clear hcz7_0
  try clear hcz7_1
  try clear hcz9_0
  try clear hcz9_1
  try clear hfz7_0
  try clear hfz7_1
  try clear hfz9_0
  try clear hfz9_1
  obtain ⟨kq, x14_2, rfl, HA, HJ2, BK268, HB⟩ := hcut
  cases kq with
  | zero => exact absurd HA.out (by simp [impl_ValidValves.j0])
  | succ kj2 =>
   have H := HA.out
   clear HA
   simp only [impl_ValidValves.j0] at H
   by_cases c11 : x14_2 = true
   ·subst c11
    have H1 : (some false) = some r := by rw [if_pos rfl] at H; exact H
    clear H
    have H := H1
    clear H1
    obtain rfl := Option.some.inj H
    go_wp2
    go_ret
    exact ⟨by first | rfl | (rw [Int.tdiv_eq_ediv_of_nonneg t12_]; rfl) | (simp [errW_none, errW_some] <;> rfl) | (simp [*, errW_none, errW_some] <;> rfl), by repeat (first | (with_reducible first | exact HB.out | apply below_alloc | apply pw_below_drewN | apply below_drew1 | refine below_set ?_ GE268.out) | exact HB.out)⟩
   ·replace c11 := Bool.eq_false_iff.mpr c11
    subst c11
    have H1 : (impl_ValidValves.l0 kj2 l1 l1 (l1.length : Int) 0 l0_0 l0_1) = some r := by rw [if_neg (show ¬ (false = true) by decide)] at H; exact H
    clear H
    have H := H1
    clear H1
    have H' := Aside0.mk H
    clear H
    go_wp2
    go_loopg [17] kj2 (fun kq v17 w' => ∃ (x17_2 : Int), v17 = .int .i64 x17_2 ∧ Aside0 (impl_ValidValves.l0 kq l1 l1 (l1.length : Int) x17_2 l0_0 l0_1 = some r) ∧ Aside0 (kq ≤ kj2) ∧ Aside0 (w'.heap[gb268]? = some (.cells #[(.slice A0_0 l0_0.length c0_0), (.slice A0_1 l0_1.length c0_1)] 32 (0, 0))) ∧ Aside0 (Below w.heap.size w w'))
    case atStart => exact ⟨(0), t5_, H', ⟨Nat.le_refl _⟩, ⟨by (with_reducible repeat (first | refine blk_drewN ?_ _ | refine blk_drew ?_ | refine blk_alloc ?_ _)); exact BK268.out⟩, ⟨by repeat (first | (with_reducible first | exact HB.out | apply below_alloc | apply pw_below_drewN | apply below_drew1 | refine below_set ?_ GE268.out) | exact HB.out)⟩⟩
    case round =>
     clear H'
     try clear c1
     try clear p2
     try clear c4
     try clear c6
     try clear c11
     try clear hcz7_0
     try clear hcz7_1
     try clear hcz9_0
     try clear hcz9_1
     try clear hfz7_0
     try clear hfz7_1
     try clear hfz9_0
     try clear hfz9_1
     try clear p2
     obtain ⟨x17_2, rfl, HA, HK2, BK268, HB⟩ := hrel
     cases gk with
     | zero => exact absurd HA.out (by simp [impl_ValidValves.l0])
     | succ k2 =>
      have H := HA.out
      clear HA
      simp only [impl_ValidValves.l0] at H
      by_cases c12 : x17_2 < (l1.length : Int)
      ·rw [if_pos c12] at H
       have c12b0 : decide (x17_2 < (l1.length : Int)) = true := decide_eq_true c12
       clear c12
       by_cases c13 : 0 ≤ x17_2
       ·rw [if_pos c13] at H
        have c13b0 : decide (0 ≤ x17_2) = true := decide_eq_true c13
        clear c13
        by_cases c14 : x17_2 < (l1.length : Int)
        ·rw [if_pos c14] at H
         have c14b0 : decide (x17_2 < (l1.length : Int)) = true := decide_eq_true c14
         clear c14
         have HC15 := Aside0.mk H
         clear H
         have p270 : 0 ≤ (x17_2 : Int) := of_decide_eq_true t3_
         have q270 : x17_2 < (l1.length : Int) := of_decide_eq_true t3_
         obtain ⟨ad270, e270, hx270_0, hx270_1, hx270_2⟩ := at_T64 HR1.out x17_2 p270 q270
         cases e270
         replace hx270_0 := (HB.out.cell (World.block_lt_of_cell? w _ hx270_0)).trans hx270_0
         replace hx270_1 := (HB.out.cell (World.block_lt_of_cell? w _ hx270_1)).trans hx270_1
         replace hx270_2 := (HB.out.cell (World.block_lt_of_cell? w _ hx270_2)).trans hx270_2
         replace p270 := eq_true p270
         replace q270 := eq_true q270
         go_upto_region 6 with (first | ((with_reducible refine gate_dst (N := 6) rfl ?_); (try (refine gate_guard t35_ ?_; dsimp only)); refine box_event ?hg (N := 6) ?hd (cs := #[.string (⟨#[]⟩ : ByteArray), .string (⟨#[]⟩ : ByteArray), .bool false]) (t := 64) ?hr ?_; (case hd => rfl); (case hg => rfl); (case hr => first | (go_simp; done) | (go_simp; rfl)); intro gb271 hg w16 hbox hb; have n0_ := Aside0.mk (blk_below (g := gb268) (o := .cells #[.slice A0_0 l0_0.length c0_0, .slice A0_1 l0_1.length c0_1] 32 (0, 0)) (q1_ BK268.out) hb); have n1_ := Aside0.mk (below_step t19_ hb); have n2_ := Aside0.mk (hbox); have n3_ := Aside0.mk ((by rw [hg]; exact (below_size t19_) : w.heap.size ≤ gb271)); have n4_ := Aside0.mk ((by rw [hg]; exact (below_size t19_) : w.heap.size ≤ gb271)); have n5_ := Aside0.mk ((by rw [hg]; exact Nat.ne_of_lt (blk_lt (g := gb268) (o := .cells #[.slice A0_0 l0_0.length c0_0, .slice A0_1 l0_1.length c0_1] 32 (0, 0)) (q1_ BK268.out)) : gb268 ≠ gb271)); have n6_ := Aside0.mk ((by rw [hg]; exact Nat.ne_of_gt (blk_lt (g := gb268) (o := .cells #[.slice A0_0 l0_0.length c0_0, .slice A0_1 l0_1.length c0_1] 32 (0, 0)) (q1_ BK268.out)) : gb271 ≠ gb268)); clear BK268; clear HB; have BK268 := n0_; have HB := n1_; have BK271 := n2_; have GW271 := n3_; have GE271 := n4_; have NB268_271 := n5_; have NB271_268 := n6_; clear n0_ n1_ n2_ n3_ n4_ n5_ n6_; clear hb hbox hg; have hnb17 := NB271_268.out; have hnc17 := NB268_271.out; have hcz18_0 : w16.cell? ⟨gb271, 0, none⟩ = some (.string (⟨#[]⟩ : ByteArray)) := (blk_cell BK271.out 0).trans rfl; have hcz18_1 : w16.cell? ⟨gb271, 1, none⟩ = some (.string (⟨#[]⟩ : ByteArray)) := (blk_cell BK271.out 1).trans rfl; have hcz18_2 : w16.cell? ⟨gb271, 2, none⟩ = some (.bool false) := (blk_cell BK271.out 2).trans rfl; have hfz18_0 := blk_frozen BK271.out 0; have hfz18_1 := blk_frozen BK271.out 1; have hfz18_2 := blk_frozen BK271.out 2))
         (try simp only [Act.put, List.setIfInBounds_toArray, List.set_cons_zero, List.set_cons_succ])
         go_cut [47] (fun v47 wc => ∃ (kq : Nat) (x47_14 : Bool), v47 = .bool x47_14 ∧ Aside0 (impl_ValidValves.j2 kq l1 x17_2 l1 (l1.length : Int) x17_2 x47_14 l0_0 l0_1 ((rd_T64 l1 x17_2).f0) ((rd_T64 l1 x17_2).f1) ((rd_T64 l1 x17_2).f2) = some r) ∧ Aside0 (kq ≤ k2) ∧ Aside0 (wc.heap[gb268]? = some (.cells #[(.slice A0_0 l0_0.length c0_0), (.slice A0_1 l0_1.length c0_1)] 32 (0, 0))) ∧ Aside0 (wc.heap[gb271]? = some (.cells #[.string ((rd_T64 l1 x17_2).f0), .string ((rd_T64 l1 x17_2).f1), .bool ((rd_T64 l1 x17_2).f2)] 64 (0, 0))) ∧ Aside0 (Below w.heap.size w wc))
         case first =>
          have H := HC15.out
          clear HC15
          replace H := Option.bind_eq_some_iff.mp H
          obtain ⟨t272, A190, H⟩ := H
          replace H : (if t272 = true then ((impl_Network_pipeNamed.f k2 l0_0 l0_1 ((rd_T64 l1 x17_2).f1)).bind fun t273 => (if t273 < 0 then (impl_ValidValves.j2 k2 l1 x17_2 l1 (l1.length : Int) x17_2 true l0_0 l0_1 ((rd_T64 l1 x17_2).f0) ((rd_T64 l1 x17_2).f1) ((rd_T64 l1 x17_2).f2)) else (if x17_2 > 0 then (if 0 ≤ (wrap64 (x17_2 - 1)) then (if (wrap64 (x17_2 - 1)) < (l1.length : Int) then (impl_ValidValves.j2 k2 l1 x17_2 l1 (l1.length : Int) x17_2 (!(Op.bytesLess (((rd_T64 l1 (wrap64 (x17_2 - 1))).f0).toList) (((rd_T64 l1 x17_2).f0).toList))) l0_0 l0_1 ((rd_T64 l1 x17_2).f0) ((rd_T64 l1 x17_2).f1) ((rd_T64 l1 x17_2).f2)) else (none)) else (none)) else (impl_ValidValves.j2 k2 l1 x17_2 l1 (l1.length : Int) x17_2 false l0_0 l0_1 ((rd_T64 l1 x17_2).f0) ((rd_T64 l1 x17_2).f1) ((rd_T64 l1 x17_2).f2))))) else (impl_ValidValves.j2 k2 l1 x17_2 l1 (l1.length : Int) x17_2 true l0_0 l0_1 ((rd_T64 l1 x17_2).f0) ((rd_T64 l1 x17_2).f1) ((rd_T64 l1 x17_2).f2))) = some r := H
          have A19 := Aside0.mk A190
          clear A190
          by_cases c20 : t272 = true
          ·subst c20
           have H1 : ((impl_Network_pipeNamed.f k2 l0_0 l0_1 ((rd_T64 l1 x17_2).f1)).bind fun t273 => (if t273 < 0 then (impl_ValidValves.j2 k2 l1 x17_2 l1 (l1.length : Int) x17_2 true l0_0 l0_1 ((rd_T64 l1 x17_2).f0) ((rd_T64 l1 x17_2).f1) ((rd_T64 l1 x17_2).f2)) else (if x17_2 > 0 then (if 0 ≤ (wrap64 (x17_2 - 1)) then (if (wrap64 (x17_2 - 1)) < (l1.length : Int) then (impl_ValidValves.j2 k2 l1 x17_2 l1 (l1.length : Int) x17_2 (!(Op.bytesLess (((rd_T64 l1 (wrap64 (x17_2 - 1))).f0).toList) (((rd_T64 l1 x17_2).f0).toList))) l0_0 l0_1 ((rd_T64 l1 x17_2).f0) ((rd_T64 l1 x17_2).f1) ((rd_T64 l1 x17_2).f2)) else (none)) else (none)) else (impl_ValidValves.j2 k2 l1 x17_2 l1 (l1.length : Int) x17_2 false l0_0 l0_1 ((rd_T64 l1 x17_2).f0) ((rd_T64 l1 x17_2).f1) ((rd_T64 l1 x17_2).f2))))) = some r := by rw [if_pos rfl] at H; exact H
           clear H
           have H := H1
           clear H1
           replace H := Option.bind_eq_some_iff.mp H
           obtain ⟨t273, A210, H⟩ := H
           replace H : (if t273 < 0 then (impl_ValidValves.j2 k2 l1 x17_2 l1 (l1.length : Int) x17_2 true l0_0 l0_1 ((rd_T64 l1 x17_2).f0) ((rd_T64 l1 x17_2).f1) ((rd_T64 l1 x17_2).f2)) else (if x17_2 > 0 then (if 0 ≤ (wrap64 (x17_2 - 1)) then (if (wrap64 (x17_2 - 1)) < (l1.length : Int) then (impl_ValidValves.j2 k2 l1 x17_2 l1 (l1.length : Int) x17_2 (!(Op.bytesLess (((rd_T64 l1 (wrap64 (x17_2 - 1))).f0).toList) (((rd_T64 l1 x17_2).f0).toList))) l0_0 l0_1 ((rd_T64 l1 x17_2).f0) ((rd_T64 l1 x17_2).f1) ((rd_T64 l1 x17_2).f2)) else (none)) else (none)) else (impl_ValidValves.j2 k2 l1 x17_2 l1 (l1.length : Int) x17_2 false l0_0 l0_1 ((rd_T64 l1 x17_2).f0) ((rd_T64 l1 x17_2).f1) ((rd_T64 l1 x17_2).f2)))) = some r := H
           have A21 := Aside0.mk A210
           clear A210
           by_cases c22 : t273 < 0
           ·rw [if_pos c22] at H
            have c22b0 : decide (t273 < 0) = true := decide_eq_true c22
            clear c22
            (first | rw [c22b0] | (simp only [i64_w, i32_w]; rw [c22b0]) | skip)
            have H' := Aside0.mk H
            clear H
            try go_wp2
            have n0_ : Aside0 ((((w16.setCell ⟨gb271, 0, none⟩ (.string ((rd_T64 l1 x17_2).f0))).setCell ⟨gb271, 1, none⟩ (.string ((rd_T64 l1 x17_2).f1))).setCell ⟨gb271, 2, none⟩ (.bool ((rd_T64 l1 x17_2).f2))).heap[gb268]? = some (.cells #[.slice A0_0 l0_0.length c0_0, .slice A0_1 l0_1.length c0_1] 32 (0, 0))) := ⟨by (with_reducible repeat (first | refine blk_drewN ?_ _ | refine blk_drew ?_ | refine blk_alloc ?_ _)); refine blk_far ?_ NB268_271.out _; (with_reducible repeat (first | refine blk_drewN ?_ _ | refine blk_drew ?_ | refine blk_alloc ?_ _)); refine blk_far ?_ NB268_271.out _; (with_reducible repeat (first | refine blk_drewN ?_ _ | refine blk_drew ?_ | refine blk_alloc ?_ _)); refine blk_far ?_ NB268_271.out _; (with_reducible repeat (first | refine blk_drewN ?_ _ | refine blk_drew ?_ | refine blk_alloc ?_ _)); exact BK268.out⟩
            have n1_ : Aside0 ((((w16.setCell ⟨gb271, 0, none⟩ (.string ((rd_T64 l1 x17_2).f0))).setCell ⟨gb271, 1, none⟩ (.string ((rd_T64 l1 x17_2).f1))).setCell ⟨gb271, 2, none⟩ (.bool ((rd_T64 l1 x17_2).f2))).heap[gb271]? = some (.cells #[.string ((rd_T64 l1 x17_2).f0), .string ((rd_T64 l1 x17_2).f1), .bool ((rd_T64 l1 x17_2).f2)] 64 (0, 0))) := ⟨by (with_reducible repeat (first | refine blk_drewN ?_ _ | refine blk_drew ?_ | refine blk_alloc ?_ _)); refine blk_put (cs := #[.string ((rd_T64 l1 x17_2).f0), .string ((rd_T64 l1 x17_2).f1), .bool false]) ?_ 2 _ rfl; (with_reducible repeat (first | refine blk_drewN ?_ _ | refine blk_drew ?_ | refine blk_alloc ?_ _)); refine blk_put (cs := #[.string ((rd_T64 l1 x17_2).f0), .string (⟨#[]⟩ : ByteArray), .bool false]) ?_ 1 _ rfl; (with_reducible repeat (first | refine blk_drewN ?_ _ | refine blk_drew ?_ | refine blk_alloc ?_ _)); refine blk_put (cs := #[.string (⟨#[]⟩ : ByteArray), .string (⟨#[]⟩ : ByteArray), .bool false]) ?_ 0 _ rfl; (with_reducible repeat (first | refine blk_drewN ?_ _ | refine blk_drew ?_ | refine blk_alloc ?_ _)); exact BK271.out⟩
            have n2_ : Aside0 (Below w.heap.size w (((w16.setCell ⟨gb271, 0, none⟩ (.string ((rd_T64 l1 x17_2).f0))).setCell ⟨gb271, 1, none⟩ (.string ((rd_T64 l1 x17_2).f1))).setCell ⟨gb271, 2, none⟩ (.bool ((rd_T64 l1 x17_2).f2)))) := ⟨by repeat (first | (with_reducible first | exact HB.out | apply below_alloc | apply pw_below_drewN | apply below_drew1 | refine below_set ?_ GE268.out | refine below_set ?_ GE271.out) | exact HB.out)⟩
            (try clear BK268)
            (try clear BK271)
            (try clear HB)
            generalize (((w16.setCell ⟨gb271, 0, none⟩ (.string ((rd_T64 l1 x17_2).f0))).setCell ⟨gb271, 1, none⟩ (.string ((rd_T64 l1 x17_2).f1))).setCell ⟨gb271, 2, none⟩ (.bool ((rd_T64 l1 x17_2).f2))) = w23 at n0_ n1_ n2_ ⊢
            have BK268 := n0_
            have BK271 := n1_
            have HB := n2_
            clear n0_ n1_ n2_
            have n0_ := Aside0.mk (blk_drew BK268.out)
            have n1_ := Aside0.mk (blk_drew BK271.out)
            have n2_ := Aside0.mk (below_drew1 HB.out)
            clear BK268
            clear BK271
            clear HB
            have BK268 := n0_
            have BK271 := n1_
            have HB := n2_
            clear n0_ n1_ n2_
            refine start_ (n := 26) (S := fun w' => w'.cell? ⟨gb271, 0, none⟩ = some (.string ((rd_T64 l1 x17_2).f0)) ∧ w'.cell? ⟨gb271, 1, none⟩ = some (.string ((rd_T64 l1 x17_2).f1)) ∧ w'.cell? ⟨gb271, 2, none⟩ = some (.bool ((rd_T64 l1 x17_2).f2)) ∧ w'.cell? ⟨gb268, 0, none⟩ = some (.slice A0_0 l0_0.length c0_0) ∧ w'.cell? ⟨gb268, 1, none⟩ = some (.slice A0_1 l0_1.length c0_1)) (ds := []) (tf 0 26) t7_ rfl rfl ⟨(blk_cell BK271.out 0).trans rfl, (blk_cell BK271.out 1).trans rfl, (blk_cell BK271.out 2).trans rfl, (blk_cell BK268.out 0).trans rfl, (blk_cell BK268.out 1).trans rfl⟩ (fun hHeld => ?_); refine with_tabW impl_ValidValves.tab6 impl_ValidValves.bits6 (fun HT_ HW_ => ?_)
            generalize w23.drew = w24 at BK268 BK271 HB hHeld ⊢
            refine px 0 (some 22) (tf 1 26) HT_ ?_
            refine tx (v := ?_) 1 (some 23) (tf 2 26) HT_ HW_ hHeld ?_ ?_
            rotate_left; (· rintro w' ⟨s0, s1, s2, s3, s4⟩; go_simp; with_reducible rfl)
            refine one_ (i := 2) (N := some 24) (tf 3 26) rfl rfl (one_of HT_.out t7_) t22_ (fun K hK => ?_)
            refine goes_ Try.func45 t7_ rfl #[.string ((rd_T64 l1 x17_2).f0)] t35_ rfl rfl t2_ ?_
            with_reducible refine (impl_IsName.calls k2 ((rd_T64 l1 x17_2).f0) true _ A19.out).mono ?_
            rintro e w' ⟨rfl, ⟨nd, rfl⟩⟩
            refine ⟨_, rfl, ?_⟩
            refine hK.out _ _ ⟨(blk_cell BK271.out 0).trans rfl, (blk_cell BK271.out 1).trans rfl, (blk_cell BK271.out 2).trans rfl, (blk_cell BK268.out 0).trans rfl, (blk_cell BK268.out 1).trans rfl⟩ (fun hHeld => ?_)
            clear hK K
            refine norm_ (a' := ?_) ?_ ?_
            rotate_left
            ·show Act.put _ (some 24) _ = _
             simp only [Act.put, List.setIfInBounds_toArray, List.set_cons_zero, List.set_cons_succ, i64_w, i32_w]
             rfl
            refine px 3 (some 25) (tf 4 26) HT_ ?_
            refine px 4 (some 26) (tf 5 26) HT_ ?_
            refine px 6 (some 28) (tb 26 95) HT_ ?_
            refine tx (v := ?_) 5 (some 27) (tf 7 26) HT_ HW_ hHeld ?_ ?_
            rotate_left; (· rintro w' ⟨s0, s1, s2, s3, s4⟩; go_simp; with_reducible rfl)
            refine tx (v := ?_) 7 (some 29) (tf 8 26) HT_ HW_ hHeld ?_ ?_
            rotate_left; (· rintro w' ⟨s0, s1, s2, s3, s4⟩; go_simp; with_reducible rfl)
            refine one_ (i := 8) (N := some 30) (tf 9 26) rfl rfl (one_of HT_.out t7_) t22_ (fun K hK => ?_)
            refine goes_ Try.func46 t7_ rfl #[.agg #[.slice A0_0 l0_0.length c0_0, .slice A0_1 l0_1.length c0_1], .string ((rd_T64 l1 x17_2).f1)] t35_ rfl rfl t2_ ?_
            with_reducible refine (impl_Network_pipeNamed.calls k2 _ _ l0_0 _ _ l0_1 ((rd_T64 l1 x17_2).f1) t273 _ ?side1 ?side2 ?side3 ?side4 A21.out).mono ?_
            (case side1 => repeat (first | exact (Kd.C_below HR0_0.out t10_) | (with_reducible refine Kd.C_alloc ?_ _) | (with_reducible refine Kd.C_drewN ?_ _) | (with_reducible refine Kd.C_drew ?_)))
            (case side2 => exact HC0_0.out)
            (case side3 => repeat (first | exact (Kd.C_below HR0_1.out t10_) | (with_reducible refine Kd.C_alloc ?_ _) | (with_reducible refine Kd.C_drewN ?_ _) | (with_reducible refine Kd.C_drew ?_)))
            (case side4 => exact HC0_1.out)
            rintro e w25 ⟨rfl, hb⟩
            refine ⟨_, rfl, ?_⟩
            have n0_ := Aside0.mk (blk_below (g := gb268) (o := .cells #[.slice A0_0 l0_0.length c0_0, .slice A0_1 l0_1.length c0_1] 32 (0, 0)) (q1_ BK268.out) hb)
            have n1_ := Aside0.mk (blk_below (g := gb271) (o := .cells #[.string ((rd_T64 l1 x17_2).f0), .string ((rd_T64 l1 x17_2).f1), .bool ((rd_T64 l1 x17_2).f2)] 64 (0, 0)) (q1_ BK271.out) hb)
            have n2_ := Aside0.mk (below_step t10_ hb)
            clear BK268
            clear BK271
            clear HB
            have BK268 := n0_
            have BK271 := n1_
            have HB := n2_
            clear n0_ n1_ n2_
            (try clear hb)
            (try clear hb2)
            (try clear hk)
            (try clear hi)
            refine hK.out _ _ ⟨(blk_cell BK271.out 0).trans rfl, (blk_cell BK271.out 1).trans rfl, (blk_cell BK271.out 2).trans rfl, (blk_cell BK268.out 0).trans rfl, (blk_cell BK268.out 1).trans rfl⟩ (fun hHeld => ?_)
            clear hK K
            refine norm_ (a' := ?_) ?_ ?_
            rotate_left
            ·show Act.put _ (some 30) _ = _
             simp only [Act.put, List.setIfInBounds_toArray, List.set_cons_zero, List.set_cons_succ, i64_w, i32_w]
             rfl
            refine px 9 (some 31) (tf 10 26) HT_ ?_
            refine px 10 (some 32) (tf 11 26) HT_ ?_
            refine px 11 (some 33) (tf 12 26) HT_ ?_
            refine sx 12 (some 34) (tf 13 26) HT_ ?_
            refine sx 13 (some 35) (tf 14 26) HT_ ?_
            refine sx 14 (some 36) (tf 15 26) HT_ ?_
            refine sx 15 (some 37) (tf 16 26) HT_ ?_
            refine sx 16 (some 38) (tf 17 26) HT_ ?_
            refine sx 17 (some 39) (tf 18 26) HT_ ?_
            refine sx 18 (some 40) (tf 19 26) HT_ ?_
            refine sx 19 (some 41) (tf 20 26) HT_ ?_
            refine sx 20 (some 42) (tf 21 26) HT_ ?_
            refine sx 21 (some 43) (tf 22 26) HT_ ?_
            refine sx 22 (some 44) (tf 23 26) HT_ ?_
            refine sx 23 (some 45) (tf 24 26) HT_ ?_
            refine sx 24 (some 46) (tf 25 26) HT_ ?_
            refine px 25 (some 47) (tf 26 26) HT_ ?_
            refine done_ (done_of HT_.out t7_) ?_
            try go_wp2
            go_meet
            case rel => exact ⟨_, (true), t5_, H', ⟨by have := HJ2.out; have := HK2.out; first | omega | exact Nat.le_refl _⟩, ⟨by (with_reducible repeat (first | refine blk_drewN ?_ _ | refine blk_drew ?_ | refine blk_alloc ?_ _)); exact BK268.out⟩, ⟨by (with_reducible repeat (first | refine blk_drewN ?_ _ | refine blk_drew ?_ | refine blk_alloc ?_ _)); exact BK271.out⟩, ⟨by repeat (first | (with_reducible first | exact HB.out | apply below_alloc | apply pw_below_drewN | apply below_drew1 | refine below_set ?_ GE268.out | refine below_set ?_ GE271.out) | exact HB.out)⟩⟩
           ·rw [if_neg c22] at H
            have c22b0 : decide (t273 < 0) = false := decide_eq_false c22
            clear c22
            (first | rw [c22b0] | (simp only [i64_w, i32_w]; rw [c22b0]) | skip)
            by_cases c26 : x17_2 > 0
            ·rw [if_pos c26] at H
             have c26b0 : decide (0 < x17_2) = true := decide_eq_true c26
             clear c26
             obtain ⟨ji27, hji27⟩ : ∃ j_ : Int, (wrap64 (x17_2 - 1)) = j_ := ⟨_, rfl⟩
             replace H : (if 0 ≤ (ji27) then (if (ji27) < (l1.length : Int) then (impl_ValidValves.j2 k2 l1 x17_2 l1 (l1.length : Int) x17_2 (!(Op.bytesLess (((rd_T64 l1 (ji27)).f0).toList) (((rd_T64 l1 x17_2).f0).toList))) l0_0 l0_1 ((rd_T64 l1 x17_2).f0) ((rd_T64 l1 x17_2).f1) ((rd_T64 l1 x17_2).f2)) else (none)) else (none)) = some r := by first | (rw [hji27] at H; exact H) | (simp only [hji27] at H ⊢; exact H)
             (try rw [hji27] at A19)
             (try rw [hji27] at A21)
             have hji27w : (IntKind.i64.wrap (x17_2 - 1)) = ji27 := (i64_w _).trans hji27
             by_cases c28 : 0 ≤ (ji27)
             ·rw [if_pos c28] at H
              have c28b0 : decide (0 ≤ (ji27)) = true := decide_eq_true c28
              clear c28
              by_cases c29 : (ji27) < (l1.length : Int)
              ·rw [if_pos c29] at H
               have c29b0 : decide ((ji27) < (l1.length : Int)) = true := decide_eq_true c29
               clear c29
               have H' := Aside0.mk H
               clear H
               try go_wp2
               have n0_ : Aside0 ((((w16.setCell ⟨gb271, 0, none⟩ (.string ((rd_T64 l1 x17_2).f0))).setCell ⟨gb271, 1, none⟩ (.string ((rd_T64 l1 x17_2).f1))).setCell ⟨gb271, 2, none⟩ (.bool ((rd_T64 l1 x17_2).f2))).heap[gb268]? = some (.cells #[.slice A0_0 l0_0.length c0_0, .slice A0_1 l0_1.length c0_1] 32 (0, 0))) := ⟨by (with_reducible repeat (first | refine blk_drewN ?_ _ | refine blk_drew ?_ | refine blk_alloc ?_ _)); refine blk_far ?_ NB268_271.out _; (with_reducible repeat (first | refine blk_drewN ?_ _ | refine blk_drew ?_ | refine blk_alloc ?_ _)); refine blk_far ?_ NB268_271.out _; (with_reducible repeat (first | refine blk_drewN ?_ _ | refine blk_drew ?_ | refine blk_alloc ?_ _)); refine blk_far ?_ NB268_271.out _; (with_reducible repeat (first | refine blk_drewN ?_ _ | refine blk_drew ?_ | refine blk_alloc ?_ _)); exact BK268.out⟩
               have n1_ : Aside0 ((((w16.setCell ⟨gb271, 0, none⟩ (.string ((rd_T64 l1 x17_2).f0))).setCell ⟨gb271, 1, none⟩ (.string ((rd_T64 l1 x17_2).f1))).setCell ⟨gb271, 2, none⟩ (.bool ((rd_T64 l1 x17_2).f2))).heap[gb271]? = some (.cells #[.string ((rd_T64 l1 x17_2).f0), .string ((rd_T64 l1 x17_2).f1), .bool ((rd_T64 l1 x17_2).f2)] 64 (0, 0))) := ⟨by (with_reducible repeat (first | refine blk_drewN ?_ _ | refine blk_drew ?_ | refine blk_alloc ?_ _)); refine blk_put (cs := #[.string ((rd_T64 l1 x17_2).f0), .string ((rd_T64 l1 x17_2).f1), .bool false]) ?_ 2 _ rfl; (with_reducible repeat (first | refine blk_drewN ?_ _ | refine blk_drew ?_ | refine blk_alloc ?_ _)); refine blk_put (cs := #[.string ((rd_T64 l1 x17_2).f0), .string (⟨#[]⟩ : ByteArray), .bool false]) ?_ 1 _ rfl; (with_reducible repeat (first | refine blk_drewN ?_ _ | refine blk_drew ?_ | refine blk_alloc ?_ _)); refine blk_put (cs := #[.string (⟨#[]⟩ : ByteArray), .string (⟨#[]⟩ : ByteArray), .bool false]) ?_ 0 _ rfl; (with_reducible repeat (first | refine blk_drewN ?_ _ | refine blk_drew ?_ | refine blk_alloc ?_ _)); exact BK271.out⟩
               have n2_ : Aside0 (Below w.heap.size w (((w16.setCell ⟨gb271, 0, none⟩ (.string ((rd_T64 l1 x17_2).f0))).setCell ⟨gb271, 1, none⟩ (.string ((rd_T64 l1 x17_2).f1))).setCell ⟨gb271, 2, none⟩ (.bool ((rd_T64 l1 x17_2).f2)))) := ⟨by repeat (first | (with_reducible first | exact HB.out | apply below_alloc | apply pw_below_drewN | apply below_drew1 | refine below_set ?_ GE268.out | refine below_set ?_ GE271.out) | exact HB.out)⟩
               (try clear BK268)
               (try clear BK271)
               (try clear HB)
               generalize (((w16.setCell ⟨gb271, 0, none⟩ (.string ((rd_T64 l1 x17_2).f0))).setCell ⟨gb271, 1, none⟩ (.string ((rd_T64 l1 x17_2).f1))).setCell ⟨gb271, 2, none⟩ (.bool ((rd_T64 l1 x17_2).f2))) = w30 at n0_ n1_ n2_ ⊢
               have BK268 := n0_
               have BK271 := n1_
               have HB := n2_
               clear n0_ n1_ n2_
               have n0_ := Aside0.mk (blk_drew BK268.out)
               have n1_ := Aside0.mk (blk_drew BK271.out)
               have n2_ := Aside0.mk (below_drew1 HB.out)
               clear BK268
               clear BK271
               clear HB
               have BK268 := n0_
               have BK271 := n1_
               have HB := n2_
               clear n0_ n1_ n2_
               have p274 : 0 ≤ ((ji27) : Int) := of_decide_eq_true t3_
               have q274 : (ji27) < (l1.length : Int) := of_decide_eq_true t3_
               obtain ⟨ad274, e274, hx274_0, hx274_1, hx274_2⟩ := at_T64 HR1.out (ji27) p274 q274
               have hw274_2 := hx274_2
               have hw274_1 := hx274_1
               have hw274_0 := hx274_0
               obtain rfl : ad270 = ad274 := (by injection e274)
               replace hx274_0 := (HB.out.cell (World.block_lt_of_cell? w _ hx274_0)).trans hx274_0
               replace hx274_1 := (HB.out.cell (World.block_lt_of_cell? w _ hx274_1)).trans hx274_1
               replace hx274_2 := (HB.out.cell (World.block_lt_of_cell? w _ hx274_2)).trans hx274_2
               replace p274 := eq_true p274
               replace q274 := eq_true q274
               refine start_ (n := 26) (S := fun w' => w'.cell? ⟨gb271, 0, none⟩ = some (.string ((rd_T64 l1 x17_2).f0)) ∧ w'.cell? ⟨gb271, 1, none⟩ = some (.string ((rd_T64 l1 x17_2).f1)) ∧ w'.cell? ⟨gb271, 2, none⟩ = some (.bool ((rd_T64 l1 x17_2).f2)) ∧ w'.cell? ⟨gb268, 0, none⟩ = some (.slice A0_0 l0_0.length c0_0) ∧ w'.cell? ⟨gb268, 1, none⟩ = some (.slice A0_1 l0_1.length c0_1) ∧ w'.cell? (ad270.add (((ji27)).toNat * 3)) = some (.string ((rd_T64 l1 (ji27)).f0)) ∧ w'.cell? ⟨(ad270.add (((ji27)).toNat * 3)).block, (ad270.add (((ji27)).toNat * 3)).off + 1, none⟩ = some (.string ((rd_T64 l1 (ji27)).f1)) ∧ w'.cell? ⟨(ad270.add (((ji27)).toNat * 3)).block, (ad270.add (((ji27)).toNat * 3)).off + 2, none⟩ = some (.bool ((rd_T64 l1 (ji27)).f2))) (ds := []) (tf 0 26) t7_ rfl rfl ⟨(blk_cell BK271.out 0).trans rfl, (blk_cell BK271.out 1).trans rfl, (blk_cell BK271.out 2).trans rfl, (blk_cell BK268.out 0).trans rfl, (blk_cell BK268.out 1).trans rfl, ((HB.out.cell (World.block_lt_of_cell? w _ hw274_0)).trans hw274_0), ((HB.out.cell (World.block_lt_of_cell? w _ hw274_1)).trans hw274_1), ((HB.out.cell (World.block_lt_of_cell? w _ hw274_2)).trans hw274_2)⟩ (fun hHeld => ?_); refine with_tabW impl_ValidValves.tab6 impl_ValidValves.bits6 (fun HT_ HW_ => ?_)
               generalize w30.drew = w31 at BK268 BK271 HB hx274_0 hx274_1 hx274_2 hHeld ⊢
               refine px 0 (some 22) (tf 1 26) HT_ ?_
               refine tx (v := ?_) 1 (some 23) (tf 2 26) HT_ HW_ hHeld ?_ ?_
               rotate_left; (· rintro w' ⟨s0, s1, s2, s3, s4, s5, s6, s7⟩; go_simp; with_reducible rfl)
               refine one_ (i := 2) (N := some 24) (tf 3 26) rfl rfl (one_of HT_.out t7_) t22_ (fun K hK => ?_)
               refine goes_ Try.func45 t7_ rfl #[.string ((rd_T64 l1 x17_2).f0)] t35_ rfl rfl t2_ ?_
               with_reducible refine (impl_IsName.calls k2 ((rd_T64 l1 x17_2).f0) true _ A19.out).mono ?_
               rintro e w' ⟨rfl, ⟨nd, rfl⟩⟩
               refine ⟨_, rfl, ?_⟩
               refine hK.out _ _ ⟨(blk_cell BK271.out 0).trans rfl, (blk_cell BK271.out 1).trans rfl, (blk_cell BK271.out 2).trans rfl, (blk_cell BK268.out 0).trans rfl, (blk_cell BK268.out 1).trans rfl, ((HB.out.cell (World.block_lt_of_cell? w _ hw274_0)).trans hw274_0), ((HB.out.cell (World.block_lt_of_cell? w _ hw274_1)).trans hw274_1), ((HB.out.cell (World.block_lt_of_cell? w _ hw274_2)).trans hw274_2)⟩ (fun hHeld => ?_)
               clear hK K
               refine norm_ (a' := ?_) ?_ ?_
               rotate_left
               ·show Act.put _ (some 24) _ = _
                simp only [Act.put, List.setIfInBounds_toArray, List.set_cons_zero, List.set_cons_succ, i64_w, i32_w]
                rfl
               refine px 3 (some 25) (tf 4 26) HT_ ?_
               refine px 4 (some 26) (tf 5 26) HT_ ?_
               refine px 6 (some 28) (tb 26 95) HT_ ?_
               refine tx (v := ?_) 5 (some 27) (tf 7 26) HT_ HW_ hHeld ?_ ?_
               rotate_left; (· rintro w' ⟨s0, s1, s2, s3, s4, s5, s6, s7⟩; go_simp; with_reducible rfl)
               refine tx (v := ?_) 7 (some 29) (tf 8 26) HT_ HW_ hHeld ?_ ?_
               rotate_left; (· rintro w' ⟨s0, s1, s2, s3, s4, s5, s6, s7⟩; go_simp; with_reducible rfl)
               refine one_ (i := 8) (N := some 30) (tf 9 26) rfl rfl (one_of HT_.out t7_) t22_ (fun K hK => ?_)
               refine goes_ Try.func46 t7_ rfl #[.agg #[.slice A0_0 l0_0.length c0_0, .slice A0_1 l0_1.length c0_1], .string ((rd_T64 l1 x17_2).f1)] t35_ rfl rfl t2_ ?_
               with_reducible refine (impl_Network_pipeNamed.calls k2 _ _ l0_0 _ _ l0_1 ((rd_T64 l1 x17_2).f1) t273 _ ?side1 ?side2 ?side3 ?side4 A21.out).mono ?_
               (case side1 => repeat (first | exact (Kd.C_below HR0_0.out t10_) | (with_reducible refine Kd.C_alloc ?_ _) | (with_reducible refine Kd.C_drewN ?_ _) | (with_reducible refine Kd.C_drew ?_)))
               (case side2 => exact HC0_0.out)
               (case side3 => repeat (first | exact (Kd.C_below HR0_1.out t10_) | (with_reducible refine Kd.C_alloc ?_ _) | (with_reducible refine Kd.C_drewN ?_ _) | (with_reducible refine Kd.C_drew ?_)))
               (case side4 => exact HC0_1.out)
               rintro e w32 ⟨rfl, hb⟩
               refine ⟨_, rfl, ?_⟩
               have n0_ := Aside0.mk (blk_below (g := gb268) (o := .cells #[.slice A0_0 l0_0.length c0_0, .slice A0_1 l0_1.length c0_1] 32 (0, 0)) (q1_ BK268.out) hb)
               have n1_ := Aside0.mk (blk_below (g := gb271) (o := .cells #[.string ((rd_T64 l1 x17_2).f0), .string ((rd_T64 l1 x17_2).f1), .bool ((rd_T64 l1 x17_2).f2)] 64 (0, 0)) (q1_ BK271.out) hb)
               have n2_ := Aside0.mk (below_step t10_ hb)
               clear BK268
               clear BK271
               clear HB
               have BK268 := n0_
               have BK271 := n1_
               have HB := n2_
               clear n0_ n1_ n2_
               (try clear hb)
               (try clear hb2)
               (try clear hk)
               (try clear hi)
               refine hK.out _ _ ⟨(blk_cell BK271.out 0).trans rfl, (blk_cell BK271.out 1).trans rfl, (blk_cell BK271.out 2).trans rfl, (blk_cell BK268.out 0).trans rfl, (blk_cell BK268.out 1).trans rfl, ((HB.out.cell (World.block_lt_of_cell? w _ hw274_0)).trans hw274_0), ((HB.out.cell (World.block_lt_of_cell? w _ hw274_1)).trans hw274_1), ((HB.out.cell (World.block_lt_of_cell? w _ hw274_2)).trans hw274_2)⟩ (fun hHeld => ?_)
               clear hK K
               refine norm_ (a' := ?_) ?_ ?_
               rotate_left
               ·show Act.put _ (some 30) _ = _
                simp only [Act.put, List.setIfInBounds_toArray, List.set_cons_zero, List.set_cons_succ, i64_w, i32_w]
                rfl
               refine px 9 (some 31) (tf 10 26) HT_ ?_
               refine px 10 (some 32) (tf 11 26) HT_ ?_
               refine px 11 (some 33) (tf 12 26) HT_ ?_
               refine px 12 (some 34) (tf 13 26) HT_ ?_
               refine px 13 (some 35) (tf 14 26) HT_ ?_
               refine px 14 (some 36) (tf 15 26) HT_ ?_
               refine px 15 (some 37) (tf 16 26) HT_ ?_
               refine px 17 (some 39) (tb 26 196607) HT_ ?_
               refine px 18 (some 40) (tb 26 458751) HT_ ?_
               refine px 19 (some 41) (tb 26 983039) HT_ ?_
               refine px 20 (some 42) (tb 26 2031615) HT_ ?_
               refine px 21 (some 43) (tb 26 4128767) HT_ ?_
               refine tx (v := ?_) 16 (some 38) (tf 22 26) HT_ HW_ hHeld ?_ ?_
               rotate_left; (· rintro w' ⟨s0, s1, s2, s3, s4, s5, s6, s7⟩; go_simp; with_reducible rfl)
               refine tx (v := ?_) 22 (some 44) (tf 23 26) HT_ HW_ hHeld ?_ ?_
               rotate_left; (· rintro w' ⟨s0, s1, s2, s3, s4, s5, s6, s7⟩; go_simp; with_reducible rfl)
               refine px 23 (some 45) (tf 24 26) HT_ ?_
               refine px 24 (some 46) (tf 25 26) HT_ ?_
               refine px 25 (some 47) (tf 26 26) HT_ ?_
               refine done_ (done_of HT_.out t7_) ?_
               try go_wp2
               go_meet
               case rel => exact ⟨_, (!(Op.bytesLess (((rd_T64 l1 (ji27)).f0).toList) (((rd_T64 l1 x17_2).f0).toList))), (by first | rfl | (simp; done) | (simp only [← hji27] <;> (first | rfl | simp)) | (simp [*]; done)), H', ⟨by have := HJ2.out; have := HK2.out; first | omega | exact Nat.le_refl _⟩, ⟨by (with_reducible repeat (first | refine blk_drewN ?_ _ | refine blk_drew ?_ | refine blk_alloc ?_ _)); exact BK268.out⟩, ⟨by (with_reducible repeat (first | refine blk_drewN ?_ _ | refine blk_drew ?_ | refine blk_alloc ?_ _)); exact BK271.out⟩, ⟨by repeat (first | (with_reducible first | exact HB.out | apply below_alloc | apply pw_below_drewN | apply below_drew1 | refine below_set ?_ GE268.out | refine below_set ?_ GE271.out) | exact HB.out)⟩⟩
              ·rw [if_neg c29] at H
               exact absurd H t30_
             ·rw [if_neg c28] at H
              exact absurd H t30_
            ·rw [if_neg c26] at H
             have c26b0 : decide (0 < x17_2) = false := decide_eq_false c26
             clear c26
             have H' := Aside0.mk H
             clear H
             try go_wp2
             have n0_ : Aside0 ((((w16.setCell ⟨gb271, 0, none⟩ (.string ((rd_T64 l1 x17_2).f0))).setCell ⟨gb271, 1, none⟩ (.string ((rd_T64 l1 x17_2).f1))).setCell ⟨gb271, 2, none⟩ (.bool ((rd_T64 l1 x17_2).f2))).heap[gb268]? = some (.cells #[.slice A0_0 l0_0.length c0_0, .slice A0_1 l0_1.length c0_1] 32 (0, 0))) := ⟨by (with_reducible repeat (first | refine blk_drewN ?_ _ | refine blk_drew ?_ | refine blk_alloc ?_ _)); refine blk_far ?_ NB268_271.out _; (with_reducible repeat (first | refine blk_drewN ?_ _ | refine blk_drew ?_ | refine blk_alloc ?_ _)); refine blk_far ?_ NB268_271.out _; (with_reducible repeat (first | refine blk_drewN ?_ _ | refine blk_drew ?_ | refine blk_alloc ?_ _)); refine blk_far ?_ NB268_271.out _; (with_reducible repeat (first | refine blk_drewN ?_ _ | refine blk_drew ?_ | refine blk_alloc ?_ _)); exact BK268.out⟩
             have n1_ : Aside0 ((((w16.setCell ⟨gb271, 0, none⟩ (.string ((rd_T64 l1 x17_2).f0))).setCell ⟨gb271, 1, none⟩ (.string ((rd_T64 l1 x17_2).f1))).setCell ⟨gb271, 2, none⟩ (.bool ((rd_T64 l1 x17_2).f2))).heap[gb271]? = some (.cells #[.string ((rd_T64 l1 x17_2).f0), .string ((rd_T64 l1 x17_2).f1), .bool ((rd_T64 l1 x17_2).f2)] 64 (0, 0))) := ⟨by (with_reducible repeat (first | refine blk_drewN ?_ _ | refine blk_drew ?_ | refine blk_alloc ?_ _)); refine blk_put (cs := #[.string ((rd_T64 l1 x17_2).f0), .string ((rd_T64 l1 x17_2).f1), .bool false]) ?_ 2 _ rfl; (with_reducible repeat (first | refine blk_drewN ?_ _ | refine blk_drew ?_ | refine blk_alloc ?_ _)); refine blk_put (cs := #[.string ((rd_T64 l1 x17_2).f0), .string (⟨#[]⟩ : ByteArray), .bool false]) ?_ 1 _ rfl; (with_reducible repeat (first | refine blk_drewN ?_ _ | refine blk_drew ?_ | refine blk_alloc ?_ _)); refine blk_put (cs := #[.string (⟨#[]⟩ : ByteArray), .string (⟨#[]⟩ : ByteArray), .bool false]) ?_ 0 _ rfl; (with_reducible repeat (first | refine blk_drewN ?_ _ | refine blk_drew ?_ | refine blk_alloc ?_ _)); exact BK271.out⟩
             have n2_ : Aside0 (Below w.heap.size w (((w16.setCell ⟨gb271, 0, none⟩ (.string ((rd_T64 l1 x17_2).f0))).setCell ⟨gb271, 1, none⟩ (.string ((rd_T64 l1 x17_2).f1))).setCell ⟨gb271, 2, none⟩ (.bool ((rd_T64 l1 x17_2).f2)))) := ⟨by repeat (first | (with_reducible first | exact HB.out | apply below_alloc | apply pw_below_drewN | apply below_drew1 | refine below_set ?_ GE268.out | refine below_set ?_ GE271.out) | exact HB.out)⟩
             (try clear BK268)
             (try clear BK271)
             (try clear HB)
             generalize (((w16.setCell ⟨gb271, 0, none⟩ (.string ((rd_T64 l1 x17_2).f0))).setCell ⟨gb271, 1, none⟩ (.string ((rd_T64 l1 x17_2).f1))).setCell ⟨gb271, 2, none⟩ (.bool ((rd_T64 l1 x17_2).f2))) = w33 at n0_ n1_ n2_ ⊢
             have BK268 := n0_
             have BK271 := n1_
             have HB := n2_
             clear n0_ n1_ n2_
             have n0_ := Aside0.mk (blk_drew BK268.out)
             have n1_ := Aside0.mk (blk_drew BK271.out)
             have n2_ := Aside0.mk (below_drew1 HB.out)
             clear BK268
             clear BK271
             clear HB
             have BK268 := n0_
             have BK271 := n1_
             have HB := n2_
             clear n0_ n1_ n2_
             refine start_ (n := 26) (S := fun w' => w'.cell? ⟨gb271, 0, none⟩ = some (.string ((rd_T64 l1 x17_2).f0)) ∧ w'.cell? ⟨gb271, 1, none⟩ = some (.string ((rd_T64 l1 x17_2).f1)) ∧ w'.cell? ⟨gb271, 2, none⟩ = some (.bool ((rd_T64 l1 x17_2).f2)) ∧ w'.cell? ⟨gb268, 0, none⟩ = some (.slice A0_0 l0_0.length c0_0) ∧ w'.cell? ⟨gb268, 1, none⟩ = some (.slice A0_1 l0_1.length c0_1)) (ds := []) (tf 0 26) t7_ rfl rfl ⟨(blk_cell BK271.out 0).trans rfl, (blk_cell BK271.out 1).trans rfl, (blk_cell BK271.out 2).trans rfl, (blk_cell BK268.out 0).trans rfl, (blk_cell BK268.out 1).trans rfl⟩ (fun hHeld => ?_); refine with_tabW impl_ValidValves.tab6 impl_ValidValves.bits6 (fun HT_ HW_ => ?_)
             generalize w33.drew = w34 at BK268 BK271 HB hHeld ⊢
             refine px 0 (some 22) (tf 1 26) HT_ ?_
             refine tx (v := ?_) 1 (some 23) (tf 2 26) HT_ HW_ hHeld ?_ ?_
             rotate_left; (· rintro w' ⟨s0, s1, s2, s3, s4⟩; go_simp; with_reducible rfl)
             refine one_ (i := 2) (N := some 24) (tf 3 26) rfl rfl (one_of HT_.out t7_) t22_ (fun K hK => ?_)
             refine goes_ Try.func45 t7_ rfl #[.string ((rd_T64 l1 x17_2).f0)] t35_ rfl rfl t2_ ?_
             with_reducible refine (impl_IsName.calls k2 ((rd_T64 l1 x17_2).f0) true _ A19.out).mono ?_
             rintro e w' ⟨rfl, ⟨nd, rfl⟩⟩
             refine ⟨_, rfl, ?_⟩
             refine hK.out _ _ ⟨(blk_cell BK271.out 0).trans rfl, (blk_cell BK271.out 1).trans rfl, (blk_cell BK271.out 2).trans rfl, (blk_cell BK268.out 0).trans rfl, (blk_cell BK268.out 1).trans rfl⟩ (fun hHeld => ?_)
             clear hK K
             refine norm_ (a' := ?_) ?_ ?_
             rotate_left
             ·show Act.put _ (some 24) _ = _
              simp only [Act.put, List.setIfInBounds_toArray, List.set_cons_zero, List.set_cons_succ, i64_w, i32_w]
              rfl
             refine px 3 (some 25) (tf 4 26) HT_ ?_
             refine px 4 (some 26) (tf 5 26) HT_ ?_
             refine px 6 (some 28) (tb 26 95) HT_ ?_
             refine tx (v := ?_) 5 (some 27) (tf 7 26) HT_ HW_ hHeld ?_ ?_
             rotate_left; (· rintro w' ⟨s0, s1, s2, s3, s4⟩; go_simp; with_reducible rfl)
             refine tx (v := ?_) 7 (some 29) (tf 8 26) HT_ HW_ hHeld ?_ ?_
             rotate_left; (· rintro w' ⟨s0, s1, s2, s3, s4⟩; go_simp; with_reducible rfl)
             refine one_ (i := 8) (N := some 30) (tf 9 26) rfl rfl (one_of HT_.out t7_) t22_ (fun K hK => ?_)
             refine goes_ Try.func46 t7_ rfl #[.agg #[.slice A0_0 l0_0.length c0_0, .slice A0_1 l0_1.length c0_1], .string ((rd_T64 l1 x17_2).f1)] t35_ rfl rfl t2_ ?_
             with_reducible refine (impl_Network_pipeNamed.calls k2 _ _ l0_0 _ _ l0_1 ((rd_T64 l1 x17_2).f1) t273 _ ?side1 ?side2 ?side3 ?side4 A21.out).mono ?_
             (case side1 => repeat (first | exact (Kd.C_below HR0_0.out t10_) | (with_reducible refine Kd.C_alloc ?_ _) | (with_reducible refine Kd.C_drewN ?_ _) | (with_reducible refine Kd.C_drew ?_)))
             (case side2 => exact HC0_0.out)
             (case side3 => repeat (first | exact (Kd.C_below HR0_1.out t10_) | (with_reducible refine Kd.C_alloc ?_ _) | (with_reducible refine Kd.C_drewN ?_ _) | (with_reducible refine Kd.C_drew ?_)))
             (case side4 => exact HC0_1.out)
             rintro e w35 ⟨rfl, hb⟩
             refine ⟨_, rfl, ?_⟩
             have n0_ := Aside0.mk (blk_below (g := gb268) (o := .cells #[.slice A0_0 l0_0.length c0_0, .slice A0_1 l0_1.length c0_1] 32 (0, 0)) (q1_ BK268.out) hb)
             have n1_ := Aside0.mk (blk_below (g := gb271) (o := .cells #[.string ((rd_T64 l1 x17_2).f0), .string ((rd_T64 l1 x17_2).f1), .bool ((rd_T64 l1 x17_2).f2)] 64 (0, 0)) (q1_ BK271.out) hb)
             have n2_ := Aside0.mk (below_step t10_ hb)
             clear BK268
             clear BK271
             clear HB
             have BK268 := n0_
             have BK271 := n1_
             have HB := n2_
             clear n0_ n1_ n2_
             (try clear hb)
             (try clear hb2)
             (try clear hk)
             (try clear hi)
             refine hK.out _ _ ⟨(blk_cell BK271.out 0).trans rfl, (blk_cell BK271.out 1).trans rfl, (blk_cell BK271.out 2).trans rfl, (blk_cell BK268.out 0).trans rfl, (blk_cell BK268.out 1).trans rfl⟩ (fun hHeld => ?_)
             clear hK K
             refine norm_ (a' := ?_) ?_ ?_
             rotate_left
             ·show Act.put _ (some 30) _ = _
              simp only [Act.put, List.setIfInBounds_toArray, List.set_cons_zero, List.set_cons_succ, i64_w, i32_w]
              rfl
             refine px 9 (some 31) (tf 10 26) HT_ ?_
             refine px 10 (some 32) (tf 11 26) HT_ ?_
             refine px 11 (some 33) (tf 12 26) HT_ ?_
             refine px 12 (some 34) (tf 13 26) HT_ ?_
             refine px 13 (some 35) (tf 14 26) HT_ ?_
             refine px 14 (some 36) (tf 15 26) HT_ ?_
             refine sx 15 (some 37) (tf 16 26) HT_ ?_
             refine sx 16 (some 38) (tf 17 26) HT_ ?_
             refine sx 17 (some 39) (tf 18 26) HT_ ?_
             refine sx 18 (some 40) (tf 19 26) HT_ ?_
             refine sx 19 (some 41) (tf 20 26) HT_ ?_
             refine sx 20 (some 42) (tf 21 26) HT_ ?_
             refine sx 21 (some 43) (tf 22 26) HT_ ?_
             refine sx 22 (some 44) (tf 23 26) HT_ ?_
             refine sx 23 (some 45) (tf 24 26) HT_ ?_
             refine px 24 (some 46) (tf 25 26) HT_ ?_
             refine px 25 (some 47) (tf 26 26) HT_ ?_
             refine done_ (done_of HT_.out t7_) ?_
             try go_wp2
             go_meet
             case rel => exact ⟨_, (false), t5_, H', ⟨by have := HJ2.out; have := HK2.out; first | omega | exact Nat.le_refl _⟩, ⟨by (with_reducible repeat (first | refine blk_drewN ?_ _ | refine blk_drew ?_ | refine blk_alloc ?_ _)); exact BK268.out⟩, ⟨by (with_reducible repeat (first | refine blk_drewN ?_ _ | refine blk_drew ?_ | refine blk_alloc ?_ _)); exact BK271.out⟩, ⟨by repeat (first | (with_reducible first | exact HB.out | apply below_alloc | apply pw_below_drewN | apply below_drew1 | refine below_set ?_ GE268.out | refine below_set ?_ GE271.out) | exact HB.out)⟩⟩
          ·replace c20 := Bool.eq_false_iff.mpr c20
           subst c20
           have H1 : (impl_ValidValves.j2 k2 l1 x17_2 l1 (l1.length : Int) x17_2 true l0_0 l0_1 ((rd_T64 l1 x17_2).f0) ((rd_T64 l1 x17_2).f1) ((rd_T64 l1 x17_2).f2)) = some r := by rw [if_neg (show ¬ (false = true) by decide)] at H; exact H
           clear H
           have H := H1
           clear H1
           have H' := Aside0.mk H
           clear H
           try go_wp2
           have n0_ : Aside0 ((((w16.setCell ⟨gb271, 0, none⟩ (.string ((rd_T64 l1 x17_2).f0))).setCell ⟨gb271, 1, none⟩ (.string ((rd_T64 l1 x17_2).f1))).setCell ⟨gb271, 2, none⟩ (.bool ((rd_T64 l1 x17_2).f2))).heap[gb268]? = some (.cells #[.slice A0_0 l0_0.length c0_0, .slice A0_1 l0_1.length c0_1] 32 (0, 0))) := ⟨by (with_reducible repeat (first | refine blk_drewN ?_ _ | refine blk_drew ?_ | refine blk_alloc ?_ _)); refine blk_far ?_ NB268_271.out _; (with_reducible repeat (first | refine blk_drewN ?_ _ | refine blk_drew ?_ | refine blk_alloc ?_ _)); refine blk_far ?_ NB268_271.out _; (with_reducible repeat (first | refine blk_drewN ?_ _ | refine blk_drew ?_ | refine blk_alloc ?_ _)); refine blk_far ?_ NB268_271.out _; (with_reducible repeat (first | refine blk_drewN ?_ _ | refine blk_drew ?_ | refine blk_alloc ?_ _)); exact BK268.out⟩
           have n1_ : Aside0 ((((w16.setCell ⟨gb271, 0, none⟩ (.string ((rd_T64 l1 x17_2).f0))).setCell ⟨gb271, 1, none⟩ (.string ((rd_T64 l1 x17_2).f1))).setCell ⟨gb271, 2, none⟩ (.bool ((rd_T64 l1 x17_2).f2))).heap[gb271]? = some (.cells #[.string ((rd_T64 l1 x17_2).f0), .string ((rd_T64 l1 x17_2).f1), .bool ((rd_T64 l1 x17_2).f2)] 64 (0, 0))) := ⟨by (with_reducible repeat (first | refine blk_drewN ?_ _ | refine blk_drew ?_ | refine blk_alloc ?_ _)); refine blk_put (cs := #[.string ((rd_T64 l1 x17_2).f0), .string ((rd_T64 l1 x17_2).f1), .bool false]) ?_ 2 _ rfl; (with_reducible repeat (first | refine blk_drewN ?_ _ | refine blk_drew ?_ | refine blk_alloc ?_ _)); refine blk_put (cs := #[.string ((rd_T64 l1 x17_2).f0), .string (⟨#[]⟩ : ByteArray), .bool false]) ?_ 1 _ rfl; (with_reducible repeat (first | refine blk_drewN ?_ _ | refine blk_drew ?_ | refine blk_alloc ?_ _)); refine blk_put (cs := #[.string (⟨#[]⟩ : ByteArray), .string (⟨#[]⟩ : ByteArray), .bool false]) ?_ 0 _ rfl; (with_reducible repeat (first | refine blk_drewN ?_ _ | refine blk_drew ?_ | refine blk_alloc ?_ _)); exact BK271.out⟩
           have n2_ : Aside0 (Below w.heap.size w (((w16.setCell ⟨gb271, 0, none⟩ (.string ((rd_T64 l1 x17_2).f0))).setCell ⟨gb271, 1, none⟩ (.string ((rd_T64 l1 x17_2).f1))).setCell ⟨gb271, 2, none⟩ (.bool ((rd_T64 l1 x17_2).f2)))) := ⟨by repeat (first | (with_reducible first | exact HB.out | apply below_alloc | apply pw_below_drewN | apply below_drew1 | refine below_set ?_ GE268.out | refine below_set ?_ GE271.out) | exact HB.out)⟩
           (try clear BK268)
           (try clear BK271)
           (try clear HB)
           generalize (((w16.setCell ⟨gb271, 0, none⟩ (.string ((rd_T64 l1 x17_2).f0))).setCell ⟨gb271, 1, none⟩ (.string ((rd_T64 l1 x17_2).f1))).setCell ⟨gb271, 2, none⟩ (.bool ((rd_T64 l1 x17_2).f2))) = w36 at n0_ n1_ n2_ ⊢
           have BK268 := n0_
           have BK271 := n1_
           have HB := n2_
           clear n0_ n1_ n2_
           have n0_ := Aside0.mk (blk_drew BK268.out)
           have n1_ := Aside0.mk (blk_drew BK271.out)
           have n2_ := Aside0.mk (below_drew1 HB.out)
           clear BK268
           clear BK271
           clear HB
           have BK268 := n0_
           have BK271 := n1_
           have HB := n2_
           clear n0_ n1_ n2_
           refine start_ (n := 26) (S := fun w' => w'.cell? ⟨gb271, 0, none⟩ = some (.string ((rd_T64 l1 x17_2).f0)) ∧ w'.cell? ⟨gb271, 1, none⟩ = some (.string ((rd_T64 l1 x17_2).f1)) ∧ w'.cell? ⟨gb271, 2, none⟩ = some (.bool ((rd_T64 l1 x17_2).f2))) (ds := []) (tf 0 26) t7_ rfl rfl ⟨(blk_cell BK271.out 0).trans rfl, (blk_cell BK271.out 1).trans rfl, (blk_cell BK271.out 2).trans rfl⟩ (fun hHeld => ?_); refine with_tabW impl_ValidValves.tab6 impl_ValidValves.bits6 (fun HT_ HW_ => ?_)
           generalize w36.drew = w37 at BK268 BK271 HB hHeld ⊢
           refine px 0 (some 22) (tf 1 26) HT_ ?_
           refine tx (v := ?_) 1 (some 23) (tf 2 26) HT_ HW_ hHeld ?_ ?_
           rotate_left; (· rintro w' ⟨s0, s1, s2⟩; go_simp; with_reducible rfl)
           refine one_ (i := 2) (N := some 24) (tf 3 26) rfl rfl (one_of HT_.out t7_) t22_ (fun K hK => ?_)
           refine goes_ Try.func45 t7_ rfl #[.string ((rd_T64 l1 x17_2).f0)] t35_ rfl rfl t2_ ?_
           with_reducible refine (impl_IsName.calls k2 ((rd_T64 l1 x17_2).f0) false _ A19.out).mono ?_
           rintro e w' ⟨rfl, ⟨nd, rfl⟩⟩
           refine ⟨_, rfl, ?_⟩
           refine hK.out _ _ ⟨(blk_cell BK271.out 0).trans rfl, (blk_cell BK271.out 1).trans rfl, (blk_cell BK271.out 2).trans rfl⟩ (fun hHeld => ?_)
           clear hK K
           refine norm_ (a' := ?_) ?_ ?_
           rotate_left
           ·show Act.put _ (some 24) _ = _
            simp only [Act.put, List.setIfInBounds_toArray, List.set_cons_zero, List.set_cons_succ, i64_w, i32_w]
            rfl
           refine px 3 (some 25) (tf 4 26) HT_ ?_
           refine px 4 (some 26) (tf 5 26) HT_ ?_
           refine sx 5 (some 27) (tf 6 26) HT_ ?_
           refine sx 6 (some 28) (tf 7 26) HT_ ?_
           refine sx 7 (some 29) (tf 8 26) HT_ ?_
           refine sx 8 (some 30) (tf 9 26) HT_ ?_
           refine sx 9 (some 31) (tf 10 26) HT_ ?_
           refine px 10 (some 32) (tf 11 26) HT_ ?_
           refine px 11 (some 33) (tf 12 26) HT_ ?_
           refine sx 12 (some 34) (tf 13 26) HT_ ?_
           refine sx 13 (some 35) (tf 14 26) HT_ ?_
           refine sx 14 (some 36) (tf 15 26) HT_ ?_
           refine sx 15 (some 37) (tf 16 26) HT_ ?_
           refine sx 16 (some 38) (tf 17 26) HT_ ?_
           refine sx 17 (some 39) (tf 18 26) HT_ ?_
           refine sx 18 (some 40) (tf 19 26) HT_ ?_
           refine sx 19 (some 41) (tf 20 26) HT_ ?_
           refine sx 20 (some 42) (tf 21 26) HT_ ?_
           refine sx 21 (some 43) (tf 22 26) HT_ ?_
           refine sx 22 (some 44) (tf 23 26) HT_ ?_
           refine sx 23 (some 45) (tf 24 26) HT_ ?_
           refine sx 24 (some 46) (tf 25 26) HT_ ?_
           refine px 25 (some 47) (tf 26 26) HT_ ?_
           refine done_ (done_of HT_.out t7_) ?_
           try go_wp2
           go_meet
           case rel => exact ⟨_, (true), t5_, H', ⟨by have := HJ2.out; have := HK2.out; first | omega | exact Nat.le_refl _⟩, ⟨by (with_reducible repeat (first | refine blk_drewN ?_ _ | refine blk_drew ?_ | refine blk_alloc ?_ _)); exact BK268.out⟩, ⟨by (with_reducible repeat (first | refine blk_drewN ?_ _ | refine blk_drew ?_ | refine blk_alloc ?_ _)); exact BK271.out⟩, ⟨by repeat (first | (with_reducible first | exact HB.out | apply below_alloc | apply pw_below_drewN | apply below_drew1 | refine below_set ?_ GE268.out | refine below_set ?_ GE271.out) | exact HB.out)⟩⟩
         case rest =>
          clear HC15
          try clear c2
          try clear p2
          try clear c4
          try clear c20
          try clear c26
          try clear c26b0
          try clear c28
          try clear c29
          obtain ⟨kq, x47_14, rfl, HA, HJ14, BK268, BK271, HB⟩ := hcut
          cases kq with
          | zero => exact absurd HA.out (by simp [impl_ValidValves.j2])
          | succ kj14 =>
           have H := HA.out
           clear HA
           simp only [impl_ValidValves.j2] at H
           by_cases c38 : x47_14 = true
           ·subst c38
            have H1 : (some false) = some r := by rw [if_pos rfl] at H; exact H
            clear H
            have H := H1
            clear H1
            obtain rfl := Option.some.inj H
            go_wp2
            go_ret
            exact ⟨by first | rfl | (rw [Int.tdiv_eq_ediv_of_nonneg t12_]; rfl) | (simp [errW_none, errW_some] <;> rfl) | (simp [*, errW_none, errW_some] <;> rfl), by repeat (first | (with_reducible first | exact HB.out | apply below_alloc | apply pw_below_drewN | apply below_drew1 | refine below_set ?_ GE268.out | refine below_set ?_ GE271.out) | exact HB.out)⟩
           ·replace c38 := Bool.eq_false_iff.mpr c38
            subst c38
            have H1 : (if 0 ≤ x17_2 then (if x17_2 ≤ (l1.length : Int) then ((impl_Valve_47_c48.f kj14 (l1.take (x17_2 : Int).toNat) [(⟨((rd_T64 l1 x17_2).f0), ((rd_T64 l1 x17_2).f1), ((rd_T64 l1 x17_2).f2)⟩ : S64)]).bind fun t279 => (if t279 = true then (some false) else (impl_ValidValves.l0 kj14 l1 l1 (l1.length : Int) (wrap64 (x17_2 + 1)) l0_0 l0_1))) else (none)) else (none)) = some r := by rw [if_neg (show ¬ (false = true) by decide)] at H; exact H
            clear H
            have H := H1
            clear H1
            by_cases c39 : 0 ≤ x17_2
            ·rw [if_pos c39] at H
             have c39b0 := eq_true c39
             have c39b1 : decide (0 ≤ x17_2) = true := decide_eq_true c39
             clear c39
             by_cases c40 : x17_2 ≤ (l1.length : Int)
             ·rw [if_pos c40] at H
              have c40b0 := eq_true c40
              have c40b1 : decide (x17_2 ≤ (l1.length : Int)) = true := decide_eq_true c40
              clear c40
              obtain ⟨y275, hy275⟩ : ∃ y_ : List (S64), y_ = (l1.take (x17_2 : Int).toNat) := ⟨_, rfl⟩
              replace H : ((impl_Valve_47_c48.f kj14 y275 [(⟨((rd_T64 l1 x17_2).f0), ((rd_T64 l1 x17_2).f1), ((rd_T64 l1 x17_2).f2)⟩ : S64)]).bind fun t279 => (if t279 = true then (some false) else (impl_ValidValves.l0 kj14 l1 l1 (l1.length : Int) (wrap64 (x17_2 + 1)) l0_0 l0_1))) = some r := by first | (rw [hy275]; with_reducible exact H) | (have H2_ := (Option.bind_some _ _).symm.trans H; rw [hy275]; with_reducible exact H2_) | (have H2_ := (Option.bind_some _ _).symm.trans H; with_reducible exact H2_) | with_reducible exact H | (rw [hy275]; exact H) | exact H
              have Ny275 := Aside0.mk hy275
              clear hy275
              replace H := Option.bind_eq_some_iff.mp H
              obtain ⟨t279, A410, H⟩ := H
              replace H : (if t279 = true then (some false) else (impl_ValidValves.l0 kj14 l1 l1 (l1.length : Int) (wrap64 (x17_2 + 1)) l0_0 l0_1)) = some r := H
              have A41 := Aside0.mk A410
              clear A410
              by_cases c42 : t279 = true
              ·subst c42
               have H1 : (some false) = some r := by rw [if_pos rfl] at H; exact H
               clear H
               have H := H1
               clear H1
               obtain rfl := Option.some.inj H
               have q43 : (x17_2 : Int) ≤ ((l1.length : Int) : Int) := of_decide_eq_true t3_
               obtain ⟨i043, hi043, _, hsz43, _⟩ := info_parts info64
               have hroom43 : l1.length ≤ c1 := HC1.out
               have hC43 : Kd.C k64 _ (some ad270) l1.length l1 := HR1.out
               have hcut43 := cut_to (P := Try.prog) 34 64 .i64 Try.underlying34 hi043 (some ad270) l1.length c1 x17_2 (of_decide_eq_true t3_) q43 hroom43
               have hr43 := Kd.C_take (m := (x17_2 : Int).toNat) hC43 t12_
               have hy43 : y275.length = (x17_2 : Int).toNat := (by rw [Ny275.out, List.length_take]; omega)
               rw [← Ny275.out] at hr43
               rw [← hy43] at hcut43
               have HR278 := Aside0.mk hr43
               have HC278 := Aside0.mk (show y275.length ≤ c1 from by omega)
               clear hr43 hC43 hroom43 hi043 hsz43
               have KY43 := Aside0.mk hy43
               clear hy43
               replace q43 := eq_true q43
               go_wp2_with (first | ((with_reducible refine gate_callee (f := 47) rfl ?_); refine goesL_ (some 52) rfl rfl Try.func47 t7_ rfl #[.slice (some ad270) y275.length c1, .func (.func 48) #[] #[.pointer (some ⟨gb271, 0, none⟩)]] rfl t2_ ?_; (with_reducible refine (impl_Valve_47_c48.calls kj14 _ _ y275 _ 1 [(⟨((rd_T64 l1 x17_2).f0), ((rd_T64 l1 x17_2).f1), ((rd_T64 l1 x17_2).f2)⟩ : S64)] true _ ?side1 ?side2 ?side3 ?side4 A41.out).mono ?_); (case side1 => repeat (first | exact (Kd.C_below HR278.out HB.out) | (with_reducible refine Kd.C_alloc ?_ _) | (with_reducible refine Kd.C_drewN ?_ _) | (with_reducible refine Kd.C_drew ?_))); (case side2 => exact HC278.out); (case side3 => exact Kd.C_one (k64_mk _ (⟨((rd_T64 l1 x17_2).f0), ((rd_T64 l1 x17_2).f1), ((rd_T64 l1 x17_2).f2)⟩ : S64) ) (cells_blk (cs := #[.string ((rd_T64 l1 x17_2).f0), .string ((rd_T64 l1 x17_2).f1), .bool ((rd_T64 l1 x17_2).f2)]) (t := 64) (q1_ BK271.out))); (case side4 => exact Nat.le_refl _); rintro e w44 ⟨rfl, hb⟩; refine ⟨_, rfl, ?_⟩; have n0_ := Aside0.mk (blk_below (g := gb268) (o := .cells #[.slice A0_0 l0_0.length c0_0, .slice A0_1 l0_1.length c0_1] 32 (0, 0)) (q1_ BK268.out) hb); have n1_ := Aside0.mk (blk_below (g := gb271) (o := .cells #[.string ((rd_T64 l1 x17_2).f0), .string ((rd_T64 l1 x17_2).f1), .bool ((rd_T64 l1 x17_2).f2)] 64 (0, 0)) (q1_ BK271.out) hb); have n2_ := Aside0.mk (below_step t10_ hb); clear BK268; clear BK271; clear HB; have BK268 := n0_; have BK271 := n1_; have HB := n2_; clear n0_ n1_ n2_; (try clear hb); (try clear hb2); (try clear hk); (try clear hi)))
               go_ret
               exact ⟨by first | rfl | (rw [Int.tdiv_eq_ediv_of_nonneg t12_]; rfl) | (simp [errW_none, errW_some] <;> rfl) | (simp [*, errW_none, errW_some] <;> rfl), by repeat (first | (with_reducible first | exact HB.out | apply below_alloc | apply pw_below_drewN | apply below_drew1 | refine below_set ?_ GE268.out | refine below_set ?_ GE271.out) | exact HB.out)⟩
              ·replace c42 := Bool.eq_false_iff.mpr c42
               subst c42
               have H1 : (impl_ValidValves.l0 kj14 l1 l1 (l1.length : Int) (wrap64 (x17_2 + 1)) l0_0 l0_1) = some r := by rw [if_neg (show ¬ (false = true) by decide)] at H; exact H
               clear H
               have H := H1
               clear H1
               have H' := Aside0.mk H
               clear H
               have q45 : (x17_2 : Int) ≤ ((l1.length : Int) : Int) := of_decide_eq_true t3_
               obtain ⟨i045, hi045, _, hsz45, _⟩ := info_parts info64
               have hroom45 : l1.length ≤ c1 := HC1.out
               have hC45 : Kd.C k64 _ (some ad270) l1.length l1 := HR1.out
               have hcut45 := cut_to (P := Try.prog) 34 64 .i64 Try.underlying34 hi045 (some ad270) l1.length c1 x17_2 (of_decide_eq_true t3_) q45 hroom45
               have hr45 := Kd.C_take (m := (x17_2 : Int).toNat) hC45 t12_
               have hy45 : y275.length = (x17_2 : Int).toNat := (by rw [Ny275.out, List.length_take]; omega)
               rw [← Ny275.out] at hr45
               rw [← hy45] at hcut45
               have HR278 := Aside0.mk hr45
               have HC278 := Aside0.mk (show y275.length ≤ c1 from by omega)
               clear hr45 hC45 hroom45 hi045 hsz45
               have KY45 := Aside0.mk hy45
               clear hy45
               replace q45 := eq_true q45
               go_wp2_with (first | ((with_reducible refine gate_callee (f := 47) rfl ?_); refine goesL_ (some 52) rfl rfl Try.func47 t7_ rfl #[.slice (some ad270) y275.length c1, .func (.func 48) #[] #[.pointer (some ⟨gb271, 0, none⟩)]] rfl t2_ ?_; (with_reducible refine (impl_Valve_47_c48.calls kj14 _ _ y275 _ 1 [(⟨((rd_T64 l1 x17_2).f0), ((rd_T64 l1 x17_2).f1), ((rd_T64 l1 x17_2).f2)⟩ : S64)] false _ ?side1 ?side2 ?side3 ?side4 A41.out).mono ?_); (case side1 => repeat (first | exact (Kd.C_below HR278.out HB.out) | (with_reducible refine Kd.C_alloc ?_ _) | (with_reducible refine Kd.C_drewN ?_ _) | (with_reducible refine Kd.C_drew ?_))); (case side2 => exact HC278.out); (case side3 => exact Kd.C_one (k64_mk _ (⟨((rd_T64 l1 x17_2).f0), ((rd_T64 l1 x17_2).f1), ((rd_T64 l1 x17_2).f2)⟩ : S64) ) (cells_blk (cs := #[.string ((rd_T64 l1 x17_2).f0), .string ((rd_T64 l1 x17_2).f1), .bool ((rd_T64 l1 x17_2).f2)]) (t := 64) (q1_ BK271.out))); (case side4 => exact Nat.le_refl _); rintro e w46 ⟨rfl, hb⟩; refine ⟨_, rfl, ?_⟩; have n0_ := Aside0.mk (blk_below (g := gb268) (o := .cells #[.slice A0_0 l0_0.length c0_0, .slice A0_1 l0_1.length c0_1] 32 (0, 0)) (q1_ BK268.out) hb); have n1_ := Aside0.mk (blk_below (g := gb271) (o := .cells #[.string ((rd_T64 l1 x17_2).f0), .string ((rd_T64 l1 x17_2).f1), .bool ((rd_T64 l1 x17_2).f2)] 64 (0, 0)) (q1_ BK271.out) hb); have n2_ := Aside0.mk (below_step t10_ hb); clear BK268; clear BK271; clear HB; have BK268 := n0_; have BK271 := n1_; have HB := n2_; clear n0_ n1_ n2_; (try clear hb); (try clear hb2); (try clear hk); (try clear hi)))
               go_roundg kj14
               case measure => have := HJ2.out; have := HK2.out; have := HJ14.out; omega
               case rel => exact ⟨(wrap64 (x17_2 + 1)), t5_, H', ⟨by have := HJ2.out; have := HK2.out; have := HJ14.out; omega⟩, ⟨by (with_reducible repeat (first | refine blk_drewN ?_ _ | refine blk_drew ?_ | refine blk_alloc ?_ _)); exact BK268.out⟩, ⟨by repeat (first | (with_reducible first | exact HB.out | apply below_alloc | apply pw_below_drewN | apply below_drew1 | refine below_set ?_ GE268.out | refine below_set ?_ GE271.out) | exact HB.out)⟩⟩
             ·rw [if_neg c40] at H
              exact absurd H t30_
            ·rw [if_neg c39] at H
             exact absurd H t30_
        ·rw [if_neg c14] at H
         exact absurd H t30_
       ·rw [if_neg c13] at H
        exact absurd H t30_
      ·rw [if_neg c12] at H
       have c12b0 : decide (x17_2 < (l1.length : Int)) = false := decide_eq_false c12
       clear c12
       obtain rfl := Option.some.inj H
       go_wp2
       go_ret
       exact ⟨by first | rfl | (rw [Int.tdiv_eq_ediv_of_nonneg t12_]; rfl) | (simp [errW_none, errW_some] <;> rfl) | (simp [*, errW_none, errW_some] <;> rfl), by repeat (first | (with_reducible first | exact HB.out | apply below_alloc | apply pw_below_drewN | apply below_drew1 | refine below_set ?_ GE268.out) | exact HB.out)⟩

/-! ### impl_ValveNamed_1: function 52 -/
def impl_ValveNamed_1.f (a0_0 : ByteArray) (a0_1 : ByteArray) (a0_2 : Bool) (l1 : List ByteArray) : Option (Bool) := if 0 < (l1.length : Int) then (some (a0_0.toList == (rdOf ByteArray.empty l1 0).toList)) else (none)
set_option maxHeartbeats 8000000 in
set_option maxRecDepth 100000 in
theorem impl_ValveNamed_1.calls (a0_0 : ByteArray) (a0_1 : ByteArray) (a0_2 : Bool) (A1 : Option Addr) (c1 : Nat) (l1 : List ByteArray) (r : Bool) (w : World) (hr1 : Kd.C Kd.string w A1 l1.length l1) (hc1 : l1.length ≤ c1) (h : impl_ValveNamed_1.f a0_0 a0_1 a0_2 l1 = some r) :
  Calls Try.prog 52 #[.agg #[.string a0_0, .string a0_1, .bool a0_2], .pointer A1] w fun e w' => e = .returned (.bool r) ∧ Below w.heap.size w w' := by
 have hu64 := Try.underlying64
 have HR1 := Aside0.mk hr1
 have HC1 := Aside0.mk hc1
 clear hr1 hc1
 have HB := Aside0.mk (Below.refl w.heap.size w)
 have H : (if 0 < (l1.length : Int) then (some (a0_0.toList == (rdOf ByteArray.empty l1 0).toList)) else (none)) = some r := h
 clear h
 by_cases c3 : 0 < (l1.length : Int)
 ·rw [if_pos c3] at H
  have c3b0 : decide (0 < (l1.length : Int)) = true := decide_eq_true c3
  have c3b1 : decide (0 < l1.length) = true := decide_eq_true t12_
  clear c3
  obtain rfl := Option.some.inj H
  go_enter Try.func52, Try.ntmps52
  go_wp2_with (first | ((with_reducible refine gate_dst (N := 2) rfl ?_); refine box_event ?hg (N := 2) ?hd (cs := #[.string a0_0, .string a0_1, .bool a0_2]) (t := 64) ?hr ?_; (case hd => rfl); (case hg => rfl); (case hr => first | (go_simp; done) | (go_simp; rfl)); intro gb280 hg w4 hbox hb; have n0_ := Aside0.mk (below_step t1_ hb); have n1_ := Aside0.mk (hbox); have n2_ := Aside0.mk ((by rw [hg]; exact (below_size t1_) : w.heap.size ≤ gb280)); have n3_ := Aside0.mk ((by rw [hg]; exact (below_size t1_) : w.heap.size ≤ gb280)); clear HB; have HB := n0_; have BK280 := n1_; have GW280 := n2_; have GE280 := n3_; clear n0_ n1_ n2_ n3_; clear hb hbox hg; have hcz5_0 : w4.cell? ⟨gb280, 0, none⟩ = some (.string a0_0) := (blk_cell BK280.out 0).trans rfl; have hcz5_1 : w4.cell? ⟨gb280, 1, none⟩ = some (.string a0_1) := (blk_cell BK280.out 1).trans rfl; have hcz5_2 : w4.cell? ⟨gb280, 2, none⟩ = some (.bool a0_2) := (blk_cell BK280.out 2).trans rfl; have hfz5_0 := blk_frozen BK280.out 0; have hfz5_1 := blk_frozen BK280.out 1; have hfz5_2 := blk_frozen BK280.out 2; have p281 : 0 ≤ (0 : Int) := t12_; have q281 : 0 < (l1.length : Int) := of_decide_eq_true t3_; obtain ⟨ad281, e281, hx281_0⟩ := Kd.at_string HR1.out 0 p281 q281; cases e281; have qi281 : (0 < l1.length) = True := eq_true t12_; (try rw [show ((0 : Int)).toNat = 0 from rfl] at hx281_0); (try rw [Addr.add_zero'] at hx281_0); replace hx281_0 := (HB.out.cell (World.block_lt_of_cell? w _ hx281_0)).trans hx281_0; replace p281 := eq_true p281; replace q281 := eq_true q281))
  go_ret
  exact ⟨by first | rfl | (rw [Int.tdiv_eq_ediv_of_nonneg t12_]; rfl) | (simp [errW_none, errW_some] <;> rfl) | (simp [*, errW_none, errW_some] <;> rfl), by repeat (first | (with_reducible first | exact HB.out | apply below_alloc | apply pw_below_drewN | apply below_drew1 | refine below_set ?_ GE280.out) | exact HB.out)⟩
 ·rw [if_neg c3] at H
  exact absurd H t30_

/-! ### impl_orNotFound: function 53 -/
def impl_orNotFound.f (a0 : Int) (a1 : Bool) : Option (Int × Int) := if a1 = true then (some (a0, 0)) else (some (0, 3))
set_option maxHeartbeats 8000000 in
set_option maxRecDepth 100000 in
theorem impl_orNotFound.calls (a0 : Int) (a1 : Bool) (r1 : Int) (r2 : Int) (w : World) (h : impl_orNotFound.f a0 a1 = some (r1, r2)) :
  Calls Try.prog 53 #[.int .i64 a0, .bool a1] w fun e w' => e = .returned (.tuple #[.int .i64 r1, .int .i64 r2]) ∧ Drawn0 w w' := by
 have H : (if a1 = true then (some (a0, 0)) else (some (0, 3))) = some (r1, r2) := h
 clear h
 by_cases c3 : a1 = true
 ·subst c3
  have H1 : (some (a0, 0)) = some (r1, r2) := by rw [if_pos rfl] at H; exact H
  clear H
  have H := H1
  clear H1
  simp only [Option.some.injEq, Prod.mk.injEq] at H
  obtain ⟨rfl, rfl⟩ := H
  go_enter Try.func53, Try.ntmps53
  go_wp2
  go_ret2
  exact ⟨by first | rfl | (simp; done) | (simp [*]; done), by repeat (first | exact Drawn0.refl _ | apply Drawn0.step)⟩
 ·replace c3 := Bool.eq_false_iff.mpr c3
  subst c3
  have H1 : (some (0, 3)) = some (r1, r2) := by rw [if_neg (show ¬ (false = true) by decide)] at H; exact H
  clear H
  have H := H1
  clear H1
  simp only [Option.some.injEq, Prod.mk.injEq] at H
  obtain ⟨rfl, rfl⟩ := H
  go_enter Try.func53, Try.ntmps53
  go_wp2
  go_ret2
  exact ⟨by first | rfl | (simp; done) | (simp [*]; done), by repeat (first | exact Drawn0.refl _ | apply Drawn0.step)⟩

end Go.Proofs.Ytjelfhmgbhidnaa.PFnExactValveNamed
