-- written by wip/xprint.py, a program of this session, for this claim; not trusted: Lean checks it.
import Derived.Test.YtaomflfofihknaaPFnExactLeastSpeedx0
import Derived.Test.YtaomflfofihknaaPFnExactLeastSpeedx5
namespace Go.Proofs.Ytaomflfofihknaa.PFnExactLeastSpeed
open Go.RowKit Go.Proofs.YtaomflfofihknaaW.PrintWords Go.Proofs.YtaomflfofihknaaW.PrintLast Go.Proofs.YtaomflfofihknaaW.PrintMore
attribute [local go_sem] max2_int min2_int max_two min_two max_three min_three max_four min_four   -- for this text's walks alone
set_option linter.unusedVariables false
set_option linter.unusedSimpArgs false

/-! ### impl_ValidPump: function 88 -/
mutual
def impl_ValidPump.j0 : Nat → Bool → ByteArray → List (List Int) → Option (Bool)
 | 0, _, _, _ => none
 | k + 1, x20, x204000, x204001 => if x20 = true then (some false) else (impl_ValidPump.l0 k x204001 (x204001.length : Int) 0 x204000 x204001)
def impl_ValidPump.l0 : Nat → List (List Int) → Int → Int → ByteArray → List (List Int) → Option (Bool)
 | 0, _, _, _, _, _ => none
 | k + 1, x22, x23, x24, x204000, x204001 => if x24 < x23 then (if 0 ≤ x24 then (if x24 < (x22.length : Int) then (if ((rd_L1 x22 x24).length : Int) = 2 then (if 0 < ((rd_L1 x22 x24).length : Int) then ((impl_within.f (rd (rd_L1 x22 x24) 0) 0 100000).bind fun t207 => (if t207 = true then (if 1 < ((rd_L1 x22 x24).length : Int) then ((impl_headOk.f (rd (rd_L1 x22 x24) 1)).bind fun t209 => (if t209 = true then (if x24 = 0 then (if (rd (rd_L1 x22 x24) 0) = 0 then (if x24 > 0 then (if 0 ≤ (wrap64 (x24 - 1)) then (if (wrap64 (x24 - 1)) < (x204001.length : Int) then (if 0 < ((rd_L1 x204001 (wrap64 (x24 - 1))).length : Int) then (if (rd (rd_L1 x22 x24) 0) ≤ (rd (rd_L1 x204001 (wrap64 (x24 - 1))) 0) then (impl_ValidPump.j2 k x22 x23 x24 true x204000 x204001) else (if 1 < ((rd_L1 x204001 (wrap64 (x24 - 1))).length : Int) then (impl_ValidPump.j2 k x22 x23 x24 (decide ((rd (rd_L1 x22 x24) 1) > (rd (rd_L1 x204001 (wrap64 (x24 - 1))) 1))) x204000 x204001) else (none))) else (none)) else (none)) else (none)) else (impl_ValidPump.j2 k x22 x23 x24 false x204000 x204001)) else (impl_ValidPump.j2 k x22 x23 x24 true x204000 x204001)) else (if x24 > 0 then (if 0 ≤ (wrap64 (x24 - 1)) then (if (wrap64 (x24 - 1)) < (x204001.length : Int) then (if 0 < ((rd_L1 x204001 (wrap64 (x24 - 1))).length : Int) then (if (rd (rd_L1 x22 x24) 0) ≤ (rd (rd_L1 x204001 (wrap64 (x24 - 1))) 0) then (impl_ValidPump.j2 k x22 x23 x24 true x204000 x204001) else (if 1 < ((rd_L1 x204001 (wrap64 (x24 - 1))).length : Int) then (impl_ValidPump.j2 k x22 x23 x24 (decide ((rd (rd_L1 x22 x24) 1) > (rd (rd_L1 x204001 (wrap64 (x24 - 1))) 1))) x204000 x204001) else (none))) else (none)) else (none)) else (none)) else (impl_ValidPump.j2 k x22 x23 x24 false x204000 x204001))) else (impl_ValidPump.j2 k x22 x23 x24 true x204000 x204001))) else (none)) else (impl_ValidPump.j2 k x22 x23 x24 true x204000 x204001))) else (none)) else (impl_ValidPump.j2 k x22 x23 x24 true x204000 x204001)) else (none)) else (none)) else (some true)
def impl_ValidPump.j2 : Nat → List (List Int) → Int → Int → Bool → ByteArray → List (List Int) → Option (Bool)
 | 0, _, _, _, _, _, _ => none
 | k + 1, x22, x23, x24, x87, x204000, x204001 => if x87 = true then (some false) else (impl_ValidPump.l0 k x22 x23 (wrap64 (x24 + 1)) x204000 x204001)
end
def impl_ValidPump.f (k : Nat) (a0_0 : ByteArray) (l0_1 : List (List Int)) : Option (Bool) := (impl_IsName.f k a0_0).bind fun t204 => (if t204 = true then (if (l0_1.length : Int) < 2 then (impl_ValidPump.j0 k true a0_0 l0_1) else (impl_ValidPump.j0 k (decide ((l0_1.length : Int) > 8)) a0_0 l0_1)) else (impl_ValidPump.j0 k true a0_0 l0_1))
theorem impl_ValidPump.mono_l : ∀ k, (∀ y0 y1 y2, LeO (impl_ValidPump.j0 k y0 y1 y2) (impl_ValidPump.j0 (k + 1) y0 y1 y2)) ∧ (∀ y0 y1 y2 y3 y4, LeO (impl_ValidPump.l0 k y0 y1 y2 y3 y4) (impl_ValidPump.l0 (k + 1) y0 y1 y2 y3 y4)) ∧ (∀ y0 y1 y2 y3 y4 y5, LeO (impl_ValidPump.j2 k y0 y1 y2 y3 y4 y5) (impl_ValidPump.j2 (k + 1) y0 y1 y2 y3 y4 y5))
 | 0 => ⟨fun _ _ _ r h => by simp [impl_ValidPump.j0] at h, fun _ _ _ _ _ r h => by simp [impl_ValidPump.l0] at h, fun _ _ _ _ _ _ r h => by simp [impl_ValidPump.j2] at h⟩
 | k + 1 => by
  obtain ⟨ih0, ih1, ih2⟩ := impl_ValidPump.mono_l k
  refine ⟨?_, ?_, ?_⟩
  ·intro y0 y1 y2
   unfold impl_ValidPump.j0
   repeat' first
   | (with_reducible exact ih0 _ _ _)
   | (with_reducible exact ih1 _ _ _ _ _)
   | (with_reducible exact ih2 _ _ _ _ _ _)
   | (with_reducible exact impl_IsName.mono _ _)
   | (with_reducible exact LeO.refl _)
   | (with_reducible exact LeO.none _)
   | (with_reducible refine LeO.ite ?_ ?_)
   | (with_reducible refine LeO.bind ?_ (fun _ => ?_))
   | exact ih0 _ _ _
   | exact ih1 _ _ _ _ _
   | exact ih2 _ _ _ _ _ _
   | exact impl_IsName.mono _ _
   | exact LeO.none _
   | refine LeO.ite ?_ ?_
   | refine LeO.bind ?_ (fun _ => ?_)
  ·intro y0 y1 y2 y3 y4
   unfold impl_ValidPump.l0
   repeat' first
   | (with_reducible exact ih0 _ _ _)
   | (with_reducible exact ih1 _ _ _ _ _)
   | (with_reducible exact ih2 _ _ _ _ _ _)
   | (with_reducible exact impl_IsName.mono _ _)
   | (with_reducible exact LeO.refl _)
   | (with_reducible exact LeO.none _)
   | (with_reducible refine LeO.ite ?_ ?_)
   | (with_reducible refine LeO.bind ?_ (fun _ => ?_))
   | exact ih0 _ _ _
   | exact ih1 _ _ _ _ _
   | exact ih2 _ _ _ _ _ _
   | exact impl_IsName.mono _ _
   | exact LeO.none _
   | refine LeO.ite ?_ ?_
   | refine LeO.bind ?_ (fun _ => ?_)
  ·intro y0 y1 y2 y3 y4 y5
   unfold impl_ValidPump.j2
   repeat' first
   | (with_reducible exact ih0 _ _ _)
   | (with_reducible exact ih1 _ _ _ _ _)
   | (with_reducible exact ih2 _ _ _ _ _ _)
   | (with_reducible exact impl_IsName.mono _ _)
   | (with_reducible exact LeO.refl _)
   | (with_reducible exact LeO.none _)
   | (with_reducible refine LeO.ite ?_ ?_)
   | (with_reducible refine LeO.bind ?_ (fun _ => ?_))
   | exact ih0 _ _ _
   | exact ih1 _ _ _ _ _
   | exact ih2 _ _ _ _ _ _
   | exact impl_IsName.mono _ _
   | exact LeO.none _
   | refine LeO.ite ?_ ?_
   | refine LeO.bind ?_ (fun _ => ?_)
theorem impl_ValidPump.mono : ∀ a0 a1 k, LeO (impl_ValidPump.f k a0 a1) (impl_ValidPump.f (k + 1) a0 a1) := by
 intro a0 a1 k
 obtain ⟨ih0, ih1, ih2⟩ := impl_ValidPump.mono_l k
 unfold impl_ValidPump.f
 repeat' first
   | (with_reducible exact ih0 _ _ _)
   | (with_reducible exact ih1 _ _ _ _ _)
   | (with_reducible exact ih2 _ _ _ _ _ _)
   | (with_reducible exact impl_IsName.mono _ _)
   | (with_reducible exact LeO.refl _)
   | (with_reducible exact LeO.none _)
   | (with_reducible refine LeO.ite ?_ ?_)
   | (with_reducible refine LeO.bind ?_ (fun _ => ?_))
   | exact ih0 _ _ _
   | exact ih1 _ _ _ _ _
   | exact ih2 _ _ _ _ _ _
   | exact impl_IsName.mono _ _
   | exact LeO.none _
   | refine LeO.ite ?_ ?_
   | refine LeO.bind ?_ (fun _ => ?_)
def impl_ValidPump.T6 : Bool × List (List Nat × List Nat) := (true, [([], []), ([0], [0]), ([1], [1]), ([2], [2]), ([3], [3]), ([4, 3], [3, 4]), ([5, 3], [3, 5]), ([6, 3, 3], [3, 6]), ([7, 3], [3, 7]), ([3, 8], [3, 8]), ([9, 7], [9]), ([10], [10]), ([11, 10], [10, 11]), ([12, 10], [10, 12]), ([13, 10, 10], [10, 13]), ([14, 10], [10, 14]), ([10, 15], [10, 15]), ([16, 14], [16]), ([17], [17]), ([18, 17], [17, 18]), ([19, 17, 17], [17, 19]), ([20], [20]), ([21, 20], [20, 21]), ([22, 20], [20, 22]), ([23, 20], [20, 23]), ([20, 24, 17], [17, 20, 24]), ([17, 25], [17, 25]), ([26, 20], [26]), ([27], [27]), ([28, 27], [27, 28]), ([29, 27, 27], [27, 29]), ([30], [30]), ([31, 30], [30, 31]), ([32, 30], [30, 32]), ([30], [30]), ([34, 30], [30, 34]), ([30], [30]), ([36, 30], [30, 36]), ([35, 37, 30], [30, 35, 37]), ([38, 30], [30, 38]), ([39, 30], [30, 39]), ([40, 30], [30, 40]), ([33, 41, 30], [30, 33, 41]), ([42, 30, 30], [30, 42]), ([43], [43]), ([44, 43], [43, 44]), ([45, 43], [43, 45]), ([43], [43]), ([47, 43], [43, 47]), ([43], [43]), ([49, 43], [43, 49]), ([48, 50, 43], [43, 48, 50]), ([51, 43], [43, 51]), ([52, 43], [43, 52]), ([53, 43], [43, 53]), ([46, 54, 43], [43, 46, 54]), ([43, 55, 30], [30, 43, 55]), ([30, 56, 27], [27, 30, 56]), ([27, 57], [27, 57])])
def impl_ValidPump.B6 : List Nat := [0, 1, 3, 7, 15, 31, 63, 127, 255, 511, 1023, 2047, 4095, 8191, 16383, 32767, 65535, 131071, 262143, 524287, 1048575, 2097151, 4194303, 8388607, 16777215, 33554431, 67108863, 134217727, 268435455, 536870911, 1073741823, 2147483647, 4294967295, 8589934591, 2147483647, 19327352831, 2147483647, 70866960383, 259845521407, 534723428351, 1084479242239, 2183990870015, 4398046511103, 8796093022207, 17592186044415, 35184372088831, 70368744177663, 17592186044415, 158329674399743, 17592186044415, 580542139465727, 2128654511374335, 4380454325059583, 8884053952430079, 17891253207171071, 36028797018963967, 72057594037927935, 144115188075855871, 288230376151711743]
theorem impl_ValidPump.tab6 : rtab .any (opsOf Try.f88 6) = impl_ValidPump.T6 := by kernel_rfl
theorem impl_ValidPump.bits6 : waitsOk impl_ValidPump.T6.2 impl_ValidPump.B6 = true := by kernel_rfl
set_option maxHeartbeats 8000000 in
set_option maxRecDepth 100000 in
theorem impl_ValidPump.calls (k : Nat) (a0_0 : ByteArray) (A0_1 : Option Addr) (c0_1 : Nat) (l0_1 : List (List Int)) (r : Bool) (w : World) (hr0_1 : Kd.C (Kd.slice 2 (Kd.int .i64)) w A0_1 l0_1.length l0_1) (hc0_1 : l0_1.length ≤ c0_1) (h : impl_ValidPump.f k a0_0 l0_1 = some r) :
  Calls Try.prog 88 #[.agg #[.string a0_0, .slice A0_1 l0_1.length c0_1]] w fun e w' => e = .returned (.bool r) ∧ Below w.heap.size w w' := by
 have hu54 := Try.underlying54
 have HR0_1 := Aside0.mk hr0_1
 have HC0_1 := Aside0.mk hc0_1
 clear hr0_1 hc0_1
 have HB := Aside0.mk (Below.refl w.heap.size w)
 have H : ((impl_IsName.f k a0_0).bind fun t204 => (if t204 = true then (if (l0_1.length : Int) < 2 then (impl_ValidPump.j0 k true a0_0 l0_1) else (impl_ValidPump.j0 k (decide ((l0_1.length : Int) > 8)) a0_0 l0_1)) else (impl_ValidPump.j0 k true a0_0 l0_1))) = some r := h
 clear h
 have HC2 := Aside0.mk H
 clear H
 go_enter Try.func88, Try.ntmps88
 go_upto_region 1 with (first | ((with_reducible refine gate_dst (N := 1) rfl ?_); (try (refine gate_guard (by rfl) ?_; dsimp only)); refine box_event ?hg (N := 1) ?hd (cs := #[.string a0_0, .slice A0_1 l0_1.length c0_1]) (t := 54) ?hr ?_; (case hd => rfl); (case hg => rfl); (case hr => first | (go_simp; done) | (go_simp; rfl)); intro gb203 hg w3 hbox hb; have n0_ := Aside0.mk (below_step (by repeat (first | (with_reducible first | exact HB.out | apply below_alloc | apply pw_below_drewN | apply below_drew1) | exact HB.out)) hb); have n1_ := Aside0.mk (hbox); have n2_ := Aside0.mk ((by rw [hg]; exact (below_size (by repeat (first | (with_reducible first | exact HB.out | apply below_alloc | apply pw_below_drewN | apply below_drew1) | exact HB.out))) : w.heap.size ≤ gb203)); have n3_ := Aside0.mk ((by rw [hg]; exact (below_size (by repeat (first | (with_reducible first | exact HB.out | apply below_alloc | apply pw_below_drewN | apply below_drew1) | exact HB.out))) : w.heap.size ≤ gb203)); clear HB; have HB := n0_; have BK203 := n1_; have GW203 := n2_; have GE203 := n3_; clear n0_ n1_ n2_ n3_; clear hb hbox hg))
 (try simp only [Act.put, List.setIfInBounds_toArray, List.set_cons_zero, List.set_cons_succ])
 go_cut [20] (fun v20 wc => ∃ (kq : Nat) (x20_1 : Bool), v20 = .bool x20_1 ∧ Aside0 (impl_ValidPump.j0 kq x20_1 a0_0 l0_1 = some r) ∧ Aside0 (kq ≤ k) ∧ Aside0 (wc.heap[gb203]? = some (.cells #[.string a0_0, (.slice A0_1 l0_1.length c0_1)] 54 (0, 0))) ∧ Aside0 (Below w.heap.size w wc))
 case first =>
  have H := HC2.out
  clear HC2
  replace H := Option.bind_eq_some_iff.mp H
  obtain ⟨t204, A40, H⟩ := H
  replace H : (if t204 = true then (if (l0_1.length : Int) < 2 then (impl_ValidPump.j0 k true a0_0 l0_1) else (impl_ValidPump.j0 k (decide ((l0_1.length : Int) > 8)) a0_0 l0_1)) else (impl_ValidPump.j0 k true a0_0 l0_1)) = some r := H
  have A4 := Aside0.mk A40
  clear A40
  by_cases c5 : t204 = true
  ·subst c5
   have H1 : (if (l0_1.length : Int) < 2 then (impl_ValidPump.j0 k true a0_0 l0_1) else (impl_ValidPump.j0 k (decide ((l0_1.length : Int) > 8)) a0_0 l0_1)) = some r := by rw [if_pos rfl] at H; exact H
   clear H
   have H := H1
   clear H1
   by_cases c6 : (l0_1.length : Int) < 2
   ·rw [if_pos c6] at H
    have c6b0 : decide ((l0_1.length : Int) < 2) = true := decide_eq_true c6
    have c6b1 : decide (l0_1.length < 2) = true := decide_eq_true (by omega)
    clear c6
    (first | rw [c6b0] | (simp only [i64_w, i32_w]; rw [c6b0]) | skip)
    have H' := Aside0.mk H
    clear H
    have hcz7_0 : w3.cell? ⟨gb203, 0, none⟩ = some (.string a0_0) := (blk_cell BK203.out 0).trans rfl
    have hcz7_1 : w3.cell? ⟨gb203, 1, none⟩ = some (.slice A0_1 l0_1.length c0_1) := (blk_cell BK203.out 1).trans rfl
    have hfz7_0 := blk_frozen BK203.out 0
    have hfz7_1 := blk_frozen BK203.out 1
    go_wp2_with (first | ((with_reducible refine gate_callee (f := 76) rfl ?_); refine goesL_ (some 7) rfl rfl Try.func76 (by kernel_rfl) rfl #[.string a0_0] rfl (by (try simp only [List.map_toArray, List.map_cons, List.map_nil]); first | done | rfl | (simp only [List.length_drop, List.length_take]; rfl)) ?_; (with_reducible refine (impl_IsName.calls k a0_0 true _ A4.out).mono ?_); rintro e w' ⟨rfl, ⟨nd, rfl⟩⟩; refine ⟨_, rfl, ?_⟩))
    go_meet
    case rel => exact ⟨_, (true), (by first | rfl | (simp; done) | (simp [*]; done)), H', ⟨by first | omega | exact Nat.le_refl _⟩, ⟨by (with_reducible repeat (first | refine blk_drewN ?_ _ | refine blk_drew ?_ | refine blk_alloc ?_ _)); exact BK203.out⟩, ⟨by repeat (first | (with_reducible first | exact HB.out | apply below_alloc | apply pw_below_drewN | apply below_drew1 | refine below_set ?_ GE203.out) | exact HB.out)⟩⟩
   ·rw [if_neg c6] at H
    have c6b0 : decide ((l0_1.length : Int) < 2) = false := decide_eq_false c6
    have c6b1 : decide (l0_1.length < 2) = false := decide_eq_false (by omega)
    clear c6
    (first | rw [c6b0] | (simp only [i64_w, i32_w]; rw [c6b0]) | skip)
    have H' := Aside0.mk H
    clear H
    have hcz8_0 : w3.cell? ⟨gb203, 0, none⟩ = some (.string a0_0) := (blk_cell BK203.out 0).trans rfl
    have hcz8_1 : w3.cell? ⟨gb203, 1, none⟩ = some (.slice A0_1 l0_1.length c0_1) := (blk_cell BK203.out 1).trans rfl
    have hfz8_0 := blk_frozen BK203.out 0
    have hfz8_1 := blk_frozen BK203.out 1
    go_wp2_with (first | ((with_reducible refine gate_callee (f := 76) rfl ?_); refine goesL_ (some 7) rfl rfl Try.func76 (by kernel_rfl) rfl #[.string a0_0] rfl (by (try simp only [List.map_toArray, List.map_cons, List.map_nil]); first | done | rfl | (simp only [List.length_drop, List.length_take]; rfl)) ?_; (with_reducible refine (impl_IsName.calls k a0_0 true _ A4.out).mono ?_); rintro e w' ⟨rfl, ⟨nd, rfl⟩⟩; refine ⟨_, rfl, ?_⟩))
    go_meet
    case rel => exact ⟨_, (decide ((l0_1.length : Int) > 8)), (by first | rfl | (simp; done) | (simp [*]; done)), H', ⟨by first | omega | exact Nat.le_refl _⟩, ⟨by (with_reducible repeat (first | refine blk_drewN ?_ _ | refine blk_drew ?_ | refine blk_alloc ?_ _)); exact BK203.out⟩, ⟨by repeat (first | (with_reducible first | exact HB.out | apply below_alloc | apply pw_below_drewN | apply below_drew1 | refine below_set ?_ GE203.out) | exact HB.out)⟩⟩
  ·replace c5 := Bool.eq_false_iff.mpr c5
   subst c5
   have H1 : (impl_ValidPump.j0 k true a0_0 l0_1) = some r := by rw [if_neg (show ¬ (false = true) by decide)] at H; exact H
   clear H
   have H := H1
   clear H1
   have H' := Aside0.mk H
   clear H
   have hcz9_0 : w3.cell? ⟨gb203, 0, none⟩ = some (.string a0_0) := (blk_cell BK203.out 0).trans rfl
   have hcz9_1 : w3.cell? ⟨gb203, 1, none⟩ = some (.slice A0_1 l0_1.length c0_1) := (blk_cell BK203.out 1).trans rfl
   have hfz9_0 := blk_frozen BK203.out 0
   have hfz9_1 := blk_frozen BK203.out 1
   go_wp2_with (first | ((with_reducible refine gate_callee (f := 76) rfl ?_); refine goesL_ (some 7) rfl rfl Try.func76 (by kernel_rfl) rfl #[.string a0_0] rfl (by (try simp only [List.map_toArray, List.map_cons, List.map_nil]); first | done | rfl | (simp only [List.length_drop, List.length_take]; rfl)) ?_; (with_reducible refine (impl_IsName.calls k a0_0 false _ A4.out).mono ?_); rintro e w' ⟨rfl, ⟨nd, rfl⟩⟩; refine ⟨_, rfl, ?_⟩))
   go_meet
   case rel => exact ⟨_, (true), (by first | rfl | (simp; done) | (simp [*]; done)), H', ⟨by first | omega | exact Nat.le_refl _⟩, ⟨by (with_reducible repeat (first | refine blk_drewN ?_ _ | refine blk_drew ?_ | refine blk_alloc ?_ _)); exact BK203.out⟩, ⟨by repeat (first | (with_reducible first | exact HB.out | apply below_alloc | apply pw_below_drewN | apply below_drew1 | refine below_set ?_ GE203.out) | exact HB.out)⟩⟩
 case rest =>
  clear HC2
  try clear p2
  try clear c5
  try clear c6
  try clear c6b0
  try clear c6b1
  try clear c7
  try clear c8
  try clear hcz7_0
  try clear hcz7_1
  try clear hcz8_0
  try clear hcz8_1
  try clear hcz9_0
  try clear hcz9_1
  try clear hfz7_0
  try clear hfz7_1
  try clear hfz8_0
  try clear hfz8_1
  try clear hfz9_0
  try clear hfz9_1
  obtain ⟨kq, x20_1, rfl, HA, HJ1, BK203, HB⟩ := hcut
  cases kq with
  | zero => exact absurd HA.out (by simp [impl_ValidPump.j0])
  | succ kj1 =>
   have H := HA.out
   clear HA
   simp only [impl_ValidPump.j0] at H
   by_cases c10 : x20_1 = true
   ·subst c10
    have H1 : (some false) = some r := by rw [if_pos rfl] at H; exact H
    clear H
    have H := H1
    clear H1
    obtain rfl := Option.some.inj H
    go_wp2
    go_ret
    exact ⟨by first | rfl | (rw [Int.tdiv_eq_ediv_of_nonneg (by omega)]; rfl) | (simp [errW_none, errW_some] <;> rfl) | (simp [*, errW_none, errW_some] <;> rfl), by repeat (first | (with_reducible first | exact HB.out | apply below_alloc | apply pw_below_drewN | apply below_drew1 | refine below_set ?_ GE203.out) | exact HB.out)⟩
   ·replace c10 := Bool.eq_false_iff.mpr c10
    subst c10
    have H1 : (impl_ValidPump.l0 kj1 l0_1 (l0_1.length : Int) 0 a0_0 l0_1) = some r := by rw [if_neg (show ¬ (false = true) by decide)] at H; exact H
    clear H
    have H := H1
    clear H1
    have H' := Aside0.mk H
    clear H
    have hcz11_0 : wc.cell? ⟨gb203, 0, none⟩ = some (.string a0_0) := (blk_cell BK203.out 0).trans rfl
    have hcz11_1 : wc.cell? ⟨gb203, 1, none⟩ = some (.slice A0_1 l0_1.length c0_1) := (blk_cell BK203.out 1).trans rfl
    have hfz11_0 := blk_frozen BK203.out 0
    have hfz11_1 := blk_frozen BK203.out 1
    go_wp2
    go_loopg [24] kj1 (fun kq v24 w' => ∃ (x24_2 : Int), v24 = .int .i64 x24_2 ∧ Aside0 (impl_ValidPump.l0 kq l0_1 (l0_1.length : Int) x24_2 a0_0 l0_1 = some r) ∧ Aside0 (kq ≤ kj1) ∧ Aside0 (w'.heap[gb203]? = some (.cells #[.string a0_0, (.slice A0_1 l0_1.length c0_1)] 54 (0, 0))) ∧ Aside0 (Below w.heap.size w w'))
    case atStart => exact ⟨(0), (by first | rfl | (simp; done) | (simp [*]; done)), H', ⟨Nat.le_refl _⟩, ⟨by (with_reducible repeat (first | refine blk_drewN ?_ _ | refine blk_drew ?_ | refine blk_alloc ?_ _)); exact BK203.out⟩, ⟨by repeat (first | (with_reducible first | exact HB.out | apply below_alloc | apply pw_below_drewN | apply below_drew1 | refine below_set ?_ GE203.out) | exact HB.out)⟩⟩
    case round =>
     clear H'
     try clear c1
     try clear p2
     try clear c5
     try clear c6
     try clear c6b0
     try clear c6b1
     try clear c7
     try clear c8
     try clear c10
     try clear hcz11_0
     try clear hcz11_1
     try clear hcz7_0
     try clear hcz7_1
     try clear hcz8_0
     try clear hcz8_1
     try clear hcz9_0
     try clear hcz9_1
     try clear hfz11_0
     try clear hfz11_1
     try clear hfz7_0
     try clear hfz7_1
     try clear hfz8_0
     try clear hfz8_1
     try clear hfz9_0
     try clear hfz9_1
     try clear p2
     obtain ⟨x24_2, rfl, HA, HK2, BK203, HB⟩ := hrel
     cases gk with
     | zero => exact absurd HA.out (by simp [impl_ValidPump.l0])
     | succ k2 =>
      have H := HA.out
      clear HA
      simp only [impl_ValidPump.l0] at H
      by_cases c12 : x24_2 < (l0_1.length : Int)
      ·rw [if_pos c12] at H
       have c12b0 : decide (x24_2 < (l0_1.length : Int)) = true := decide_eq_true c12
       clear c12
       by_cases c13 : 0 ≤ x24_2
       ·rw [if_pos c13] at H
        have c13b0 : decide (0 ≤ x24_2) = true := decide_eq_true c13
        clear c13
        by_cases c14 : x24_2 < (l0_1.length : Int)
        ·rw [if_pos c14] at H
         have c14b0 : decide (x24_2 < (l0_1.length : Int)) = true := decide_eq_true c14
         clear c14
         have HC15 := Aside0.mk H
         clear H
         have p205 : 0 ≤ (x24_2 : Int) := of_decide_eq_true (by first | (with_reducible assumption) | assumption)
         have q205 : x24_2 < (l0_1.length : Int) := of_decide_eq_true (by first | (with_reducible assumption) | assumption)
         obtain ⟨ad205, A205_0, c205_0, e205, hx205_0, hl205_0, hi205_0⟩ := at_L1 HR0_1.out x24_2 p205 q205
         cases e205
         replace hx205_0 := (HB.out.cell (World.block_lt_of_cell? w _ hx205_0)).trans hx205_0
         have HR205_0 := Aside0.mk hi205_0
         have HC205_0 := Aside0.mk hl205_0
         clear hi205_0 hl205_0
         replace p205 := eq_true p205
         replace q205 := eq_true q205
         go_upto_region 6 with (fail)
         go_cut [87] (fun v87 wc => ∃ (kq : Nat) (x87_14 : Bool), v87 = .bool x87_14 ∧ Aside0 (impl_ValidPump.j2 kq l0_1 (l0_1.length : Int) x24_2 x87_14 a0_0 l0_1 = some r) ∧ Aside0 (kq ≤ k2) ∧ Aside0 (wc.heap[gb203]? = some (.cells #[.string a0_0, (.slice (some ad205) l0_1.length c0_1)] 54 (0, 0))) ∧ Aside0 (Below w.heap.size w wc))
         case first =>
          have H := HC15.out
          clear HC15
          by_cases c16 : ((rd_L1 l0_1 x24_2).length : Int) = 2
          ·rw [if_pos c16] at H
           have c16b0 : (((rd_L1 l0_1 x24_2).length : Int) == 2) = true := beq_iff_eq.mpr c16
           have c16b1 : (((rd_L1 l0_1 x24_2).length : Int) != 2) = false := bne_eq_false_iff_eq.mpr c16
           clear c16
           (first | rw [c16b0] | (simp only [i64_w, i32_w]; rw [c16b0]) | skip)
           by_cases c17 : 0 < ((rd_L1 l0_1 x24_2).length : Int)
           ·rw [if_pos c17] at H
            have c17b0 : decide (0 < ((rd_L1 l0_1 x24_2).length : Int)) = true := decide_eq_true c17
            have c17b1 : decide (0 < (rd_L1 l0_1 x24_2).length) = true := decide_eq_true (by omega)
            clear c17
            replace H := Option.bind_eq_some_iff.mp H
            obtain ⟨t207, A180, H⟩ := H
            replace H : (if t207 = true then (if 1 < ((rd_L1 l0_1 x24_2).length : Int) then ((impl_headOk.f (rd (rd_L1 l0_1 x24_2) 1)).bind fun t209 => (if t209 = true then (if x24_2 = 0 then (if (rd (rd_L1 l0_1 x24_2) 0) = 0 then (if x24_2 > 0 then (if 0 ≤ (wrap64 (x24_2 - 1)) then (if (wrap64 (x24_2 - 1)) < (l0_1.length : Int) then (if 0 < ((rd_L1 l0_1 (wrap64 (x24_2 - 1))).length : Int) then (if (rd (rd_L1 l0_1 x24_2) 0) ≤ (rd (rd_L1 l0_1 (wrap64 (x24_2 - 1))) 0) then (impl_ValidPump.j2 k2 l0_1 (l0_1.length : Int) x24_2 true a0_0 l0_1) else (if 1 < ((rd_L1 l0_1 (wrap64 (x24_2 - 1))).length : Int) then (impl_ValidPump.j2 k2 l0_1 (l0_1.length : Int) x24_2 (decide ((rd (rd_L1 l0_1 x24_2) 1) > (rd (rd_L1 l0_1 (wrap64 (x24_2 - 1))) 1))) a0_0 l0_1) else (none))) else (none)) else (none)) else (none)) else (impl_ValidPump.j2 k2 l0_1 (l0_1.length : Int) x24_2 false a0_0 l0_1)) else (impl_ValidPump.j2 k2 l0_1 (l0_1.length : Int) x24_2 true a0_0 l0_1)) else (if x24_2 > 0 then (if 0 ≤ (wrap64 (x24_2 - 1)) then (if (wrap64 (x24_2 - 1)) < (l0_1.length : Int) then (if 0 < ((rd_L1 l0_1 (wrap64 (x24_2 - 1))).length : Int) then (if (rd (rd_L1 l0_1 x24_2) 0) ≤ (rd (rd_L1 l0_1 (wrap64 (x24_2 - 1))) 0) then (impl_ValidPump.j2 k2 l0_1 (l0_1.length : Int) x24_2 true a0_0 l0_1) else (if 1 < ((rd_L1 l0_1 (wrap64 (x24_2 - 1))).length : Int) then (impl_ValidPump.j2 k2 l0_1 (l0_1.length : Int) x24_2 (decide ((rd (rd_L1 l0_1 x24_2) 1) > (rd (rd_L1 l0_1 (wrap64 (x24_2 - 1))) 1))) a0_0 l0_1) else (none))) else (none)) else (none)) else (none)) else (impl_ValidPump.j2 k2 l0_1 (l0_1.length : Int) x24_2 false a0_0 l0_1))) else (impl_ValidPump.j2 k2 l0_1 (l0_1.length : Int) x24_2 true a0_0 l0_1))) else (none)) else (impl_ValidPump.j2 k2 l0_1 (l0_1.length : Int) x24_2 true a0_0 l0_1)) = some r := H
            have A18 := Aside0.mk A180
            clear A180
            by_cases c19 : t207 = true
            ·subst c19
             have H1 : (if 1 < ((rd_L1 l0_1 x24_2).length : Int) then ((impl_headOk.f (rd (rd_L1 l0_1 x24_2) 1)).bind fun t209 => (if t209 = true then (if x24_2 = 0 then (if (rd (rd_L1 l0_1 x24_2) 0) = 0 then (if x24_2 > 0 then (if 0 ≤ (wrap64 (x24_2 - 1)) then (if (wrap64 (x24_2 - 1)) < (l0_1.length : Int) then (if 0 < ((rd_L1 l0_1 (wrap64 (x24_2 - 1))).length : Int) then (if (rd (rd_L1 l0_1 x24_2) 0) ≤ (rd (rd_L1 l0_1 (wrap64 (x24_2 - 1))) 0) then (impl_ValidPump.j2 k2 l0_1 (l0_1.length : Int) x24_2 true a0_0 l0_1) else (if 1 < ((rd_L1 l0_1 (wrap64 (x24_2 - 1))).length : Int) then (impl_ValidPump.j2 k2 l0_1 (l0_1.length : Int) x24_2 (decide ((rd (rd_L1 l0_1 x24_2) 1) > (rd (rd_L1 l0_1 (wrap64 (x24_2 - 1))) 1))) a0_0 l0_1) else (none))) else (none)) else (none)) else (none)) else (impl_ValidPump.j2 k2 l0_1 (l0_1.length : Int) x24_2 false a0_0 l0_1)) else (impl_ValidPump.j2 k2 l0_1 (l0_1.length : Int) x24_2 true a0_0 l0_1)) else (if x24_2 > 0 then (if 0 ≤ (wrap64 (x24_2 - 1)) then (if (wrap64 (x24_2 - 1)) < (l0_1.length : Int) then (if 0 < ((rd_L1 l0_1 (wrap64 (x24_2 - 1))).length : Int) then (if (rd (rd_L1 l0_1 x24_2) 0) ≤ (rd (rd_L1 l0_1 (wrap64 (x24_2 - 1))) 0) then (impl_ValidPump.j2 k2 l0_1 (l0_1.length : Int) x24_2 true a0_0 l0_1) else (if 1 < ((rd_L1 l0_1 (wrap64 (x24_2 - 1))).length : Int) then (impl_ValidPump.j2 k2 l0_1 (l0_1.length : Int) x24_2 (decide ((rd (rd_L1 l0_1 x24_2) 1) > (rd (rd_L1 l0_1 (wrap64 (x24_2 - 1))) 1))) a0_0 l0_1) else (none))) else (none)) else (none)) else (none)) else (impl_ValidPump.j2 k2 l0_1 (l0_1.length : Int) x24_2 false a0_0 l0_1))) else (impl_ValidPump.j2 k2 l0_1 (l0_1.length : Int) x24_2 true a0_0 l0_1))) else (none)) = some r := by rw [if_pos rfl] at H; exact H
             clear H
             have H := H1
             clear H1
             by_cases c20 : 1 < ((rd_L1 l0_1 x24_2).length : Int)
             ·rw [if_pos c20] at H
              have c20b0 : decide (1 < ((rd_L1 l0_1 x24_2).length : Int)) = true := decide_eq_true c20
              have c20b1 : decide (1 < (rd_L1 l0_1 x24_2).length) = true := decide_eq_true (by omega)
              clear c20
              replace H := Option.bind_eq_some_iff.mp H
              obtain ⟨t209, A210, H⟩ := H
              replace H : (if t209 = true then (if x24_2 = 0 then (if (rd (rd_L1 l0_1 x24_2) 0) = 0 then (if x24_2 > 0 then (if 0 ≤ (wrap64 (x24_2 - 1)) then (if (wrap64 (x24_2 - 1)) < (l0_1.length : Int) then (if 0 < ((rd_L1 l0_1 (wrap64 (x24_2 - 1))).length : Int) then (if (rd (rd_L1 l0_1 x24_2) 0) ≤ (rd (rd_L1 l0_1 (wrap64 (x24_2 - 1))) 0) then (impl_ValidPump.j2 k2 l0_1 (l0_1.length : Int) x24_2 true a0_0 l0_1) else (if 1 < ((rd_L1 l0_1 (wrap64 (x24_2 - 1))).length : Int) then (impl_ValidPump.j2 k2 l0_1 (l0_1.length : Int) x24_2 (decide ((rd (rd_L1 l0_1 x24_2) 1) > (rd (rd_L1 l0_1 (wrap64 (x24_2 - 1))) 1))) a0_0 l0_1) else (none))) else (none)) else (none)) else (none)) else (impl_ValidPump.j2 k2 l0_1 (l0_1.length : Int) x24_2 false a0_0 l0_1)) else (impl_ValidPump.j2 k2 l0_1 (l0_1.length : Int) x24_2 true a0_0 l0_1)) else (if x24_2 > 0 then (if 0 ≤ (wrap64 (x24_2 - 1)) then (if (wrap64 (x24_2 - 1)) < (l0_1.length : Int) then (if 0 < ((rd_L1 l0_1 (wrap64 (x24_2 - 1))).length : Int) then (if (rd (rd_L1 l0_1 x24_2) 0) ≤ (rd (rd_L1 l0_1 (wrap64 (x24_2 - 1))) 0) then (impl_ValidPump.j2 k2 l0_1 (l0_1.length : Int) x24_2 true a0_0 l0_1) else (if 1 < ((rd_L1 l0_1 (wrap64 (x24_2 - 1))).length : Int) then (impl_ValidPump.j2 k2 l0_1 (l0_1.length : Int) x24_2 (decide ((rd (rd_L1 l0_1 x24_2) 1) > (rd (rd_L1 l0_1 (wrap64 (x24_2 - 1))) 1))) a0_0 l0_1) else (none))) else (none)) else (none)) else (none)) else (impl_ValidPump.j2 k2 l0_1 (l0_1.length : Int) x24_2 false a0_0 l0_1))) else (impl_ValidPump.j2 k2 l0_1 (l0_1.length : Int) x24_2 true a0_0 l0_1)) = some r := H
              have A21 := Aside0.mk A210
              clear A210
              by_cases c22 : t209 = true
              ·subst c22
               have H1 : (if x24_2 = 0 then (if (rd (rd_L1 l0_1 x24_2) 0) = 0 then (if x24_2 > 0 then (if 0 ≤ (wrap64 (x24_2 - 1)) then (if (wrap64 (x24_2 - 1)) < (l0_1.length : Int) then (if 0 < ((rd_L1 l0_1 (wrap64 (x24_2 - 1))).length : Int) then (if (rd (rd_L1 l0_1 x24_2) 0) ≤ (rd (rd_L1 l0_1 (wrap64 (x24_2 - 1))) 0) then (impl_ValidPump.j2 k2 l0_1 (l0_1.length : Int) x24_2 true a0_0 l0_1) else (if 1 < ((rd_L1 l0_1 (wrap64 (x24_2 - 1))).length : Int) then (impl_ValidPump.j2 k2 l0_1 (l0_1.length : Int) x24_2 (decide ((rd (rd_L1 l0_1 x24_2) 1) > (rd (rd_L1 l0_1 (wrap64 (x24_2 - 1))) 1))) a0_0 l0_1) else (none))) else (none)) else (none)) else (none)) else (impl_ValidPump.j2 k2 l0_1 (l0_1.length : Int) x24_2 false a0_0 l0_1)) else (impl_ValidPump.j2 k2 l0_1 (l0_1.length : Int) x24_2 true a0_0 l0_1)) else (if x24_2 > 0 then (if 0 ≤ (wrap64 (x24_2 - 1)) then (if (wrap64 (x24_2 - 1)) < (l0_1.length : Int) then (if 0 < ((rd_L1 l0_1 (wrap64 (x24_2 - 1))).length : Int) then (if (rd (rd_L1 l0_1 x24_2) 0) ≤ (rd (rd_L1 l0_1 (wrap64 (x24_2 - 1))) 0) then (impl_ValidPump.j2 k2 l0_1 (l0_1.length : Int) x24_2 true a0_0 l0_1) else (if 1 < ((rd_L1 l0_1 (wrap64 (x24_2 - 1))).length : Int) then (impl_ValidPump.j2 k2 l0_1 (l0_1.length : Int) x24_2 (decide ((rd (rd_L1 l0_1 x24_2) 1) > (rd (rd_L1 l0_1 (wrap64 (x24_2 - 1))) 1))) a0_0 l0_1) else (none))) else (none)) else (none)) else (none)) else (impl_ValidPump.j2 k2 l0_1 (l0_1.length : Int) x24_2 false a0_0 l0_1))) = some r := by rw [if_pos rfl] at H; exact H
               clear H
               have H := H1
               clear H1
               by_cases c23 : x24_2 = 0
               ·rw [if_pos c23] at H
                have c23b0 : (x24_2 == 0) = true := beq_iff_eq.mpr c23
                have c23b1 : (x24_2 != 0) = false := bne_eq_false_iff_eq.mpr c23
                clear c23
                by_cases c24 : (rd (rd_L1 l0_1 x24_2) 0) = 0
                ·rw [if_pos c24] at H
                 have c24b0 : ((rd (rd_L1 l0_1 x24_2) 0) == 0) = true := beq_iff_eq.mpr c24
                 have c24b1 : ((rd (rd_L1 l0_1 x24_2) 0) != 0) = false := bne_eq_false_iff_eq.mpr c24
                 clear c24
                 by_cases c25 : x24_2 > 0
                 ·rw [if_pos c25] at H
                  have c25b0 : decide (0 < x24_2) = true := decide_eq_true c25
                  clear c25
                  obtain ⟨ji26, hji26⟩ : ∃ j_ : Int, (wrap64 (x24_2 - 1)) = j_ := ⟨_, rfl⟩
                  replace H : (if 0 ≤ (ji26) then (if (ji26) < (l0_1.length : Int) then (if 0 < ((rd_L1 l0_1 (ji26)).length : Int) then (if (rd (rd_L1 l0_1 x24_2) 0) ≤ (rd (rd_L1 l0_1 (ji26)) 0) then (impl_ValidPump.j2 k2 l0_1 (l0_1.length : Int) x24_2 true a0_0 l0_1) else (if 1 < ((rd_L1 l0_1 (ji26)).length : Int) then (impl_ValidPump.j2 k2 l0_1 (l0_1.length : Int) x24_2 (decide ((rd (rd_L1 l0_1 x24_2) 1) > (rd (rd_L1 l0_1 (ji26)) 1))) a0_0 l0_1) else (none))) else (none)) else (none)) else (none)) = some r := by first | (rw [hji26] at H; exact H) | (simp only [hji26] at H ⊢; exact H)
                  (try rw [hji26] at A18)
                  (try rw [hji26] at A21)
                  have hji26w : (IntKind.i64.wrap (x24_2 - 1)) = ji26 := (i64_w _).trans hji26
                  by_cases c27 : 0 ≤ (ji26)
                  ·rw [if_pos c27] at H
                   have c27b0 : decide (0 ≤ (ji26)) = true := decide_eq_true c27
                   clear c27
                   by_cases c28 : (ji26) < (l0_1.length : Int)
                   ·rw [if_pos c28] at H
                    have c28b0 : decide ((ji26) < (l0_1.length : Int)) = true := decide_eq_true c28
                    clear c28
                    by_cases c29 : 0 < ((rd_L1 l0_1 (ji26)).length : Int)
                    ·rw [if_pos c29] at H
                     have c29b0 : decide (0 < ((rd_L1 l0_1 (ji26)).length : Int)) = true := decide_eq_true c29
                     have c29b1 : decide (0 < (rd_L1 l0_1 (ji26)).length) = true := decide_eq_true (by omega)
                     clear c29
                     by_cases c30 : (rd (rd_L1 l0_1 x24_2) 0) ≤ (rd (rd_L1 l0_1 (ji26)) 0)
                     ·rw [if_pos c30] at H
                      have c30b0 : decide ((rd (rd_L1 l0_1 x24_2) 0) ≤ (rd (rd_L1 l0_1 (ji26)) 0)) = true := decide_eq_true c30
                      clear c30
                      have H' := Aside0.mk H
                      clear H
                      try go_wp2
                      have n0_ := Aside0.mk (blk_drew BK203.out)
                      have n1_ := Aside0.mk (below_drew1 HB.out)
                      clear BK203
                      clear HB
                      have BK203 := n0_
                      have HB := n1_
                      clear n0_ n1_
                      have p206 : 0 ≤ (0 : Int) := (by omega)
                      have q206 : 0 < ((rd_L1 l0_1 x24_2).length : Int) := of_decide_eq_true (by first | (with_reducible assumption) | assumption)
                      obtain ⟨ad206, e206, hx206_0⟩ := Kd.at_int HR205_0.out 0 p206 q206
                      have hw206_0 := hx206_0
                      (try rw [show ((0 : Int)).toNat = 0 from rfl] at hw206_0)
                      (try rw [show 0 * 1 = 0 from rfl] at hw206_0)
                      (try rw [Addr.add_zero'] at hw206_0)
                      cases e206
                      have qi206 : (0 < (rd_L1 l0_1 x24_2).length) = True := eq_true (by omega)
                      (try rw [show ((0 : Int)).toNat = 0 from rfl] at hx206_0)
                      (try rw [Addr.add_zero'] at hx206_0)
                      replace hx206_0 := (HB.out.cell (World.block_lt_of_cell? w _ hx206_0)).trans hx206_0
                      replace p206 := eq_true p206
                      replace q206 := eq_true q206
                      have p208 : 0 ≤ (1 : Int) := (by omega)
                      have q208 : 1 < ((rd_L1 l0_1 x24_2).length : Int) := of_decide_eq_true (by first | (with_reducible assumption) | assumption)
                      obtain ⟨ad208, e208, hx208_0⟩ := Kd.at_int HR205_0.out 1 p208 q208
                      have hw208_0 := hx208_0
                      (try rw [show ((1 : Int)).toNat = 1 from rfl] at hw208_0)
                      (try rw [show 1 * 1 = 1 from rfl] at hw208_0)
                      (try simp only [Nat.reduceMul, Nat.reduceEqDiff, Go.Addr.add, ↓reduceIte] at hw208_0)
                      obtain rfl : ad206 = ad208 := (by injection e208)
                      (try simp only [show (1 : Int).toNat = 1 from rfl, Nat.reduceMul, Nat.reduceEqDiff, Go.Addr.add, ↓reduceIte] at hx208_0)
                      have qi208 : (1 < (rd_L1 l0_1 x24_2).length) = True := eq_true (by omega)
                      (try rw [show ((1 : Int)).toNat = 1 from rfl] at hx208_0)
                      replace hx208_0 := (HB.out.cell (World.block_lt_of_cell? w _ hx208_0)).trans hx208_0
                      replace p208 := eq_true p208
                      replace q208 := eq_true q208
                      have p210 : 0 ≤ (0 : Int) := (by omega)
                      have q210 : 0 < ((rd_L1 l0_1 x24_2).length : Int) := of_decide_eq_true (by first | (with_reducible assumption) | assumption)
                      obtain ⟨ad210, e210, hx210_0⟩ := Kd.at_int HR205_0.out 0 p210 q210
                      have hw210_0 := hx210_0
                      (try rw [show ((0 : Int)).toNat = 0 from rfl] at hw210_0)
                      (try rw [show 0 * 1 = 0 from rfl] at hw210_0)
                      (try rw [Addr.add_zero'] at hw210_0)
                      obtain rfl : ad206 = ad210 := (by injection e210)
                      have qi210 : (0 < (rd_L1 l0_1 x24_2).length) = True := eq_true (by omega)
                      (try rw [show ((0 : Int)).toNat = 0 from rfl] at hx210_0)
                      (try rw [Addr.add_zero'] at hx210_0)
                      replace hx210_0 := (HB.out.cell (World.block_lt_of_cell? w _ hx210_0)).trans hx210_0
                      replace p210 := eq_true p210
                      replace q210 := eq_true q210
                      have p211 : 0 ≤ (0 : Int) := (by omega)
                      have q211 : 0 < ((rd_L1 l0_1 x24_2).length : Int) := of_decide_eq_true (by first | (with_reducible assumption) | assumption)
                      obtain ⟨ad211, e211, hx211_0⟩ := Kd.at_int HR205_0.out 0 p211 q211
                      have hw211_0 := hx211_0
                      (try rw [show ((0 : Int)).toNat = 0 from rfl] at hw211_0)
                      (try rw [show 0 * 1 = 0 from rfl] at hw211_0)
                      (try rw [Addr.add_zero'] at hw211_0)
                      obtain rfl : ad206 = ad211 := (by injection e211)
                      have qi211 : (0 < (rd_L1 l0_1 x24_2).length) = True := eq_true (by omega)
                      (try rw [show ((0 : Int)).toNat = 0 from rfl] at hx211_0)
                      (try rw [Addr.add_zero'] at hx211_0)
                      replace hx211_0 := (HB.out.cell (World.block_lt_of_cell? w _ hx211_0)).trans hx211_0
                      replace p211 := eq_true p211
                      replace q211 := eq_true q211
                      have p212 : 0 ≤ ((ji26) : Int) := of_decide_eq_true (by first | (with_reducible assumption) | assumption)
                      have q212 : (ji26) < (l0_1.length : Int) := of_decide_eq_true (by first | (with_reducible assumption) | assumption)
                      obtain ⟨ad212, A212_0, c212_0, e212, hx212_0, hl212_0, hi212_0⟩ := at_L1 HR0_1.out (ji26) p212 q212
                      have hw212_0 := hx212_0
                      obtain rfl : ad205 = ad212 := (by injection e212)
                      replace hx212_0 := (HB.out.cell (World.block_lt_of_cell? w _ hx212_0)).trans hx212_0
                      have HR212_0 := Aside0.mk hi212_0
                      have HC212_0 := Aside0.mk hl212_0
                      clear hi212_0 hl212_0
                      replace p212 := eq_true p212
                      replace q212 := eq_true q212
                      have p213 : 0 ≤ (0 : Int) := (by omega)
                      have q213 : 0 < ((rd_L1 l0_1 (ji26)).length : Int) := of_decide_eq_true (by first | (with_reducible assumption) | assumption)
                      obtain ⟨ad213, e213, hx213_0⟩ := Kd.at_int HR212_0.out 0 p213 q213
                      have hw213_0 := hx213_0
                      (try rw [show ((0 : Int)).toNat = 0 from rfl] at hw213_0)
                      (try rw [show 0 * 1 = 0 from rfl] at hw213_0)
                      (try rw [Addr.add_zero'] at hw213_0)
                      cases e213
                      have qi213 : (0 < (rd_L1 l0_1 (ji26)).length) = True := eq_true (by omega)
                      (try rw [show ((0 : Int)).toNat = 0 from rfl] at hx213_0)
                      (try rw [Addr.add_zero'] at hx213_0)
                      replace hx213_0 := (HB.out.cell (World.block_lt_of_cell? w _ hx213_0)).trans hx213_0
                      replace p213 := eq_true p213
                      replace q213 := eq_true q213
                      refine start_ (n := 59) (S := fun w' => w'.cell? ⟨gb203, 0, none⟩ = some (.string a0_0) ∧ w'.cell? ⟨gb203, 1, none⟩ = some (.slice (some ad205) l0_1.length c0_1) ∧ w'.cell? ad206 = some (.int .i64 (rd (rd_L1 l0_1 x24_2) 0)) ∧ w'.cell? ⟨ad206.block, ad206.off + 1, none⟩ = some (.int .i64 (rd (rd_L1 l0_1 x24_2) 1)) ∧ w'.cell? ad206 = some (.int .i64 (rd (rd_L1 l0_1 x24_2) 0)) ∧ w'.cell? ad206 = some (.int .i64 (rd (rd_L1 l0_1 x24_2) 0)) ∧ w'.cell? (ad205.add ((ji26)).toNat) = some (.slice (some ad213) (rd_L1 l0_1 (ji26)).length c212_0) ∧ w'.cell? ad213 = some (.int .i64 (rd (rd_L1 l0_1 (ji26)) 0))) (ds := []) (tf 0 59) (by kernel_rfl) rfl rfl ⟨(blk_cell BK203.out 0).trans rfl, (blk_cell BK203.out 1).trans rfl, ((HB.out.cell (World.block_lt_of_cell? w _ hw206_0)).trans hw206_0), ((HB.out.cell (World.block_lt_of_cell? w _ hw208_0)).trans hw208_0), ((HB.out.cell (World.block_lt_of_cell? w _ hw210_0)).trans hw210_0), ((HB.out.cell (World.block_lt_of_cell? w _ hw211_0)).trans hw211_0), ((HB.out.cell (World.block_lt_of_cell? w _ hw212_0)).trans hw212_0), ((HB.out.cell (World.block_lt_of_cell? w _ hw213_0)).trans hw213_0)⟩ (fun hHeld => ?_); refine with_tabW impl_ValidPump.tab6 impl_ValidPump.bits6 (fun HT_ HW_ => ?_)
                      generalize wr.drew = w31 at BK203 HB HR212_0 hx206_0 hx208_0 hx210_0 hx211_0 hx212_0 hx213_0 hHeld ⊢
                      refine px 0 (some 29) (tf 1 59) HT_ ?_
                      refine px 1 (some 30) (tf 2 59) HT_ ?_
                      refine px 2 (some 31) (tf 3 59) HT_ ?_
                      refine px 3 (some 32) (tf 4 59) HT_ ?_
                      refine px 4 (some 33) (tf 5 59) HT_ ?_
                      refine px 5 (some 34) (tf 6 59) HT_ ?_
                      refine tx (v := ?_) 6 (some 35) (tf 7 59) HT_ HW_ hHeld ?_ ?_
                      rotate_left; (· rintro w' ⟨s0, s1, s2, s3, s4, s5, s6, s7⟩; go_simp; with_reducible rfl)
                      refine one_ (i := 7) (N := some 36) (tf 8 59) rfl rfl (one_of HT_.out (by kernel_rfl)) (by decide) (fun K hK => ?_)
                      refine goes_ Try.func65 (by kernel_rfl) rfl #[.int .i64 (rd (rd_L1 l0_1 x24_2) 0), .int .i64 0, .int .i64 100000] (by rfl) rfl rfl (by (try simp only [List.map_toArray, List.map_cons, List.map_nil]); first | done | rfl | (simp only [List.length_drop, List.length_take]; rfl)) ?_
                      with_reducible refine (impl_within.calls (rd (rd_L1 l0_1 x24_2) 0) 0 100000 true _ A18.out).mono ?_
                      rintro e w' ⟨rfl, ⟨nd, rfl⟩⟩
                      refine ⟨_, rfl, ?_⟩
                      refine hK.out _ _ ⟨(blk_cell BK203.out 0).trans rfl, (blk_cell BK203.out 1).trans rfl, ((HB.out.cell (World.block_lt_of_cell? w _ hw206_0)).trans hw206_0), ((HB.out.cell (World.block_lt_of_cell? w _ hw208_0)).trans hw208_0), ((HB.out.cell (World.block_lt_of_cell? w _ hw210_0)).trans hw210_0), ((HB.out.cell (World.block_lt_of_cell? w _ hw211_0)).trans hw211_0), ((HB.out.cell (World.block_lt_of_cell? w _ hw212_0)).trans hw212_0), ((HB.out.cell (World.block_lt_of_cell? w _ hw213_0)).trans hw213_0)⟩ (fun hHeld => ?_)
                      clear hK K
                      refine norm_ (a' := ?_) ?_ ?_
                      rotate_left
                      ·show Act.put _ (some 36) _ = _
                       simp only [Act.put, List.setIfInBounds_toArray, List.set_cons_zero, List.set_cons_succ, i64_w, i32_w]
                       rfl
                      refine px 8 (some 37) (tf 9 59) HT_ ?_
                      refine px 9 (some 38) (tf 10 59) HT_ ?_
                      refine px 10 (some 39) (tf 11 59) HT_ ?_
                      refine px 11 (some 40) (tf 12 59) HT_ ?_
                      refine px 12 (some 41) (tf 13 59) HT_ ?_
                      refine tx (v := ?_) 13 (some 42) (tf 14 59) HT_ HW_ hHeld ?_ ?_
                      rotate_left; (· rintro w' ⟨s0, s1, s2, s3, s4, s5, s6, s7⟩; go_simp; with_reducible rfl)
                      refine one_ (i := 14) (N := some 43) (tf 15 59) rfl rfl (one_of HT_.out (by kernel_rfl)) (by decide) (fun K hK => ?_)
                      refine goes_ Try.func146 (by kernel_rfl) rfl #[.int .i64 (rd (rd_L1 l0_1 x24_2) 1)] (by rfl) rfl rfl (by (try simp only [List.map_toArray, List.map_cons, List.map_nil]); first | done | rfl | (simp only [List.length_drop, List.length_take]; rfl)) ?_
                      with_reducible refine (impl_headOk.calls (rd (rd_L1 l0_1 x24_2) 1) true _ A21.out).mono ?_
                      rintro e w' ⟨rfl, ⟨nd, rfl⟩⟩
                      refine ⟨_, rfl, ?_⟩
                      refine hK.out _ _ ⟨(blk_cell BK203.out 0).trans rfl, (blk_cell BK203.out 1).trans rfl, ((HB.out.cell (World.block_lt_of_cell? w _ hw206_0)).trans hw206_0), ((HB.out.cell (World.block_lt_of_cell? w _ hw208_0)).trans hw208_0), ((HB.out.cell (World.block_lt_of_cell? w _ hw210_0)).trans hw210_0), ((HB.out.cell (World.block_lt_of_cell? w _ hw211_0)).trans hw211_0), ((HB.out.cell (World.block_lt_of_cell? w _ hw212_0)).trans hw212_0), ((HB.out.cell (World.block_lt_of_cell? w _ hw213_0)).trans hw213_0)⟩ (fun hHeld => ?_)
                      clear hK K
                      refine norm_ (a' := ?_) ?_ ?_
                      rotate_left
                      ·show Act.put _ (some 43) _ = _
                       simp only [Act.put, List.setIfInBounds_toArray, List.set_cons_zero, List.set_cons_succ, i64_w, i32_w]
                       rfl
                      refine px 15 (some 44) (tf 16 59) HT_ ?_
                      refine px 16 (some 45) (tf 17 59) HT_ ?_
                      refine px 17 (some 46) (tf 18 59) HT_ ?_
                      refine px 18 (some 47) (tf 19 59) HT_ ?_
                      refine px 19 (some 48) (tf 20 59) HT_ ?_
                      refine px 20 (some 49) (tf 21 59) HT_ ?_
                      refine px 21 (some 50) (tf 22 59) HT_ ?_
                      refine px 22 (some 51) (tf 23 59) HT_ ?_
                      refine tx (v := ?_) 23 (some 52) (tf 24 59) HT_ HW_ hHeld ?_ ?_
                      rotate_left; (· rintro w' ⟨s0, s1, s2, s3, s4, s5, s6, s7⟩; go_simp; with_reducible rfl)
                      refine px 24 (some 53) (tf 25 59) HT_ ?_
                      refine px 25 (some 54) (tf 26 59) HT_ ?_
                      refine px 26 (some 55) (tf 27 59) HT_ ?_
                      refine px 27 (some 56) (tf 28 59) HT_ ?_
                      refine px 28 (some 57) (tf 29 59) HT_ ?_
                      refine px 29 (some 58) (tf 30 59) HT_ ?_
                      refine px 30 (some 59) (tf 31 59) HT_ ?_
                      refine px 31 (some 60) (tf 32 59) HT_ ?_
                      refine px 32 (some 61) (tf 33 59) HT_ ?_
                      refine px 34 (some 63) (tb 59 25769803775) HT_ ?_
                      refine px 36 (some 65) (tb 59 94489280511) HT_ ?_
                      refine px 37 (some 66) (tb 59 231928233983) HT_ ?_
                      refine tx (v := ?_) 33 (some 62) (tb 59 240518168575) HT_ HW_ hHeld ?_ ?_
                      rotate_left; (· rintro w' ⟨s0, s1, s2, s3, s4, s5, s6, s7⟩; go_simp; with_reducible rfl)
                      refine tx (v := ?_) 35 (some 64) (tf 38 59) HT_ HW_ hHeld ?_ ?_
                      rotate_left; (· rintro w' ⟨s0, s1, s2, s3, s4, s5, s6, s7⟩; go_simp; with_reducible rfl)
                      refine px 38 (some 67) (tf 39 59) HT_ ?_
                      refine tx (v := ?_) 39 (some 68) (tf 40 59) HT_ HW_ hHeld ?_ ?_
                      rotate_left; (· rintro w' ⟨s0, s1, s2, s3, s4, s5, s6, s7⟩; go_simp; with_reducible rfl)
                      refine px 40 (some 69) (tf 41 59) HT_ ?_
                      refine tx (v := ?_) 41 (some 70) (tf 42 59) HT_ HW_ hHeld ?_ ?_
                      rotate_left; (· rintro w' ⟨s0, s1, s2, s3, s4, s5, s6, s7⟩; go_simp; with_reducible rfl)
                      refine px 42 (some 71) (tf 43 59) HT_ ?_
                      refine px 43 (some 72) (tf 44 59) HT_ ?_
                      refine sx 44 (some 73) (tf 45 59) HT_ ?_
                      refine sx 45 (some 74) (tf 46 59) HT_ ?_
                      refine sx 46 (some 75) (tf 47 59) HT_ ?_
                      refine sx 47 (some 76) (tf 48 59) HT_ ?_
                      refine sx 48 (some 77) (tf 49 59) HT_ ?_
                      refine sx 49 (some 78) (tf 50 59) HT_ ?_
                      refine sx 50 (some 79) (tf 51 59) HT_ ?_
                      refine sx 51 (some 80) (tf 52 59) HT_ ?_
                      refine sx 52 (some 81) (tf 53 59) HT_ ?_
                      refine sx 53 (some 82) (tf 54 59) HT_ ?_
                      refine sx 54 (some 83) (tf 55 59) HT_ ?_
                      refine sx 55 (some 84) (tf 56 59) HT_ ?_
                      refine px 56 (some 85) (tf 57 59) HT_ ?_
                      refine px 57 (some 86) (tf 58 59) HT_ ?_
                      refine px 58 (some 87) (tf 59 59) HT_ ?_
                      refine done_ (done_of HT_.out (by kernel_rfl)) ?_
                      try go_wp2
                      go_meet
                      case rel => exact ⟨_, (true), (by first | rfl | (simp; done) | (simp [*]; done)), H', ⟨by have := HJ1.out; have := HK2.out; first | omega | exact Nat.le_refl _⟩, ⟨by (with_reducible repeat (first | refine blk_drewN ?_ _ | refine blk_drew ?_ | refine blk_alloc ?_ _)); exact BK203.out⟩, ⟨by repeat (first | (with_reducible first | exact HB.out | apply below_alloc | apply pw_below_drewN | apply below_drew1 | refine below_set ?_ GE203.out) | exact HB.out)⟩⟩
                     ·rw [if_neg c30] at H
                      have c30b0 : decide ((rd (rd_L1 l0_1 x24_2) 0) ≤ (rd (rd_L1 l0_1 (ji26)) 0)) = false := decide_eq_false c30
                      clear c30
                      by_cases c32 : 1 < ((rd_L1 l0_1 (ji26)).length : Int)
                      ·rw [if_pos c32] at H
                       have c32b0 : decide (1 < ((rd_L1 l0_1 (ji26)).length : Int)) = true := decide_eq_true c32
                       have c32b1 : decide (1 < (rd_L1 l0_1 (ji26)).length) = true := decide_eq_true (by omega)
                       clear c32
                       have H' := Aside0.mk H
                       clear H
                       try go_wp2
                       have n0_ := Aside0.mk (blk_drew BK203.out)
                       have n1_ := Aside0.mk (below_drew1 HB.out)
                       clear BK203
                       clear HB
                       have BK203 := n0_
                       have HB := n1_
                       clear n0_ n1_
                       have p206 : 0 ≤ (0 : Int) := (by omega)
                       have q206 : 0 < ((rd_L1 l0_1 x24_2).length : Int) := of_decide_eq_true (by first | (with_reducible assumption) | assumption)
                       obtain ⟨ad206, e206, hx206_0⟩ := Kd.at_int HR205_0.out 0 p206 q206
                       have hw206_0 := hx206_0
                       (try rw [show ((0 : Int)).toNat = 0 from rfl] at hw206_0)
                       (try rw [show 0 * 1 = 0 from rfl] at hw206_0)
                       (try rw [Addr.add_zero'] at hw206_0)
                       cases e206
                       have qi206 : (0 < (rd_L1 l0_1 x24_2).length) = True := eq_true (by omega)
                       (try rw [show ((0 : Int)).toNat = 0 from rfl] at hx206_0)
                       (try rw [Addr.add_zero'] at hx206_0)
                       replace hx206_0 := (HB.out.cell (World.block_lt_of_cell? w _ hx206_0)).trans hx206_0
                       replace p206 := eq_true p206
                       replace q206 := eq_true q206
                       have p208 : 0 ≤ (1 : Int) := (by omega)
                       have q208 : 1 < ((rd_L1 l0_1 x24_2).length : Int) := of_decide_eq_true (by first | (with_reducible assumption) | assumption)
                       obtain ⟨ad208, e208, hx208_0⟩ := Kd.at_int HR205_0.out 1 p208 q208
                       have hw208_0 := hx208_0
                       (try rw [show ((1 : Int)).toNat = 1 from rfl] at hw208_0)
                       (try rw [show 1 * 1 = 1 from rfl] at hw208_0)
                       (try simp only [Nat.reduceMul, Nat.reduceEqDiff, Go.Addr.add, ↓reduceIte] at hw208_0)
                       obtain rfl : ad206 = ad208 := (by injection e208)
                       (try simp only [show (1 : Int).toNat = 1 from rfl, Nat.reduceMul, Nat.reduceEqDiff, Go.Addr.add, ↓reduceIte] at hx208_0)
                       have qi208 : (1 < (rd_L1 l0_1 x24_2).length) = True := eq_true (by omega)
                       (try rw [show ((1 : Int)).toNat = 1 from rfl] at hx208_0)
                       replace hx208_0 := (HB.out.cell (World.block_lt_of_cell? w _ hx208_0)).trans hx208_0
                       replace p208 := eq_true p208
                       replace q208 := eq_true q208
                       have p210 : 0 ≤ (0 : Int) := (by omega)
                       have q210 : 0 < ((rd_L1 l0_1 x24_2).length : Int) := of_decide_eq_true (by first | (with_reducible assumption) | assumption)
                       obtain ⟨ad210, e210, hx210_0⟩ := Kd.at_int HR205_0.out 0 p210 q210
                       have hw210_0 := hx210_0
                       (try rw [show ((0 : Int)).toNat = 0 from rfl] at hw210_0)
                       (try rw [show 0 * 1 = 0 from rfl] at hw210_0)
                       (try rw [Addr.add_zero'] at hw210_0)
                       obtain rfl : ad206 = ad210 := (by injection e210)
                       have qi210 : (0 < (rd_L1 l0_1 x24_2).length) = True := eq_true (by omega)
                       (try rw [show ((0 : Int)).toNat = 0 from rfl] at hx210_0)
                       (try rw [Addr.add_zero'] at hx210_0)
                       replace hx210_0 := (HB.out.cell (World.block_lt_of_cell? w _ hx210_0)).trans hx210_0
                       replace p210 := eq_true p210
                       replace q210 := eq_true q210
                       have p211 : 0 ≤ (0 : Int) := (by omega)
                       have q211 : 0 < ((rd_L1 l0_1 x24_2).length : Int) := of_decide_eq_true (by first | (with_reducible assumption) | assumption)
                       obtain ⟨ad211, e211, hx211_0⟩ := Kd.at_int HR205_0.out 0 p211 q211
                       have hw211_0 := hx211_0
                       (try rw [show ((0 : Int)).toNat = 0 from rfl] at hw211_0)
                       (try rw [show 0 * 1 = 0 from rfl] at hw211_0)
                       (try rw [Addr.add_zero'] at hw211_0)
                       obtain rfl : ad206 = ad211 := (by injection e211)
                       have qi211 : (0 < (rd_L1 l0_1 x24_2).length) = True := eq_true (by omega)
                       (try rw [show ((0 : Int)).toNat = 0 from rfl] at hx211_0)
                       (try rw [Addr.add_zero'] at hx211_0)
                       replace hx211_0 := (HB.out.cell (World.block_lt_of_cell? w _ hx211_0)).trans hx211_0
                       replace p211 := eq_true p211
                       replace q211 := eq_true q211
                       have p212 : 0 ≤ ((ji26) : Int) := of_decide_eq_true (by first | (with_reducible assumption) | assumption)
                       have q212 : (ji26) < (l0_1.length : Int) := of_decide_eq_true (by first | (with_reducible assumption) | assumption)
                       obtain ⟨ad212, A212_0, c212_0, e212, hx212_0, hl212_0, hi212_0⟩ := at_L1 HR0_1.out (ji26) p212 q212
                       have hw212_0 := hx212_0
                       obtain rfl : ad205 = ad212 := (by injection e212)
                       replace hx212_0 := (HB.out.cell (World.block_lt_of_cell? w _ hx212_0)).trans hx212_0
                       have HR212_0 := Aside0.mk hi212_0
                       have HC212_0 := Aside0.mk hl212_0
                       clear hi212_0 hl212_0
                       replace p212 := eq_true p212
                       replace q212 := eq_true q212
                       have p213 : 0 ≤ (0 : Int) := (by omega)
                       have q213 : 0 < ((rd_L1 l0_1 (ji26)).length : Int) := of_decide_eq_true (by first | (with_reducible assumption) | assumption)
                       obtain ⟨ad213, e213, hx213_0⟩ := Kd.at_int HR212_0.out 0 p213 q213
                       have hw213_0 := hx213_0
                       (try rw [show ((0 : Int)).toNat = 0 from rfl] at hw213_0)
                       (try rw [show 0 * 1 = 0 from rfl] at hw213_0)
                       (try rw [Addr.add_zero'] at hw213_0)
                       cases e213
                       have qi213 : (0 < (rd_L1 l0_1 (ji26)).length) = True := eq_true (by omega)
                       (try rw [show ((0 : Int)).toNat = 0 from rfl] at hx213_0)
                       (try rw [Addr.add_zero'] at hx213_0)
                       replace hx213_0 := (HB.out.cell (World.block_lt_of_cell? w _ hx213_0)).trans hx213_0
                       replace p213 := eq_true p213
                       replace q213 := eq_true q213
                       have p214 : 0 ≤ (1 : Int) := (by omega)
                       have q214 : 1 < ((rd_L1 l0_1 x24_2).length : Int) := of_decide_eq_true (by first | (with_reducible assumption) | assumption)
                       obtain ⟨ad214, e214, hx214_0⟩ := Kd.at_int HR205_0.out 1 p214 q214
                       have hw214_0 := hx214_0
                       (try rw [show ((1 : Int)).toNat = 1 from rfl] at hw214_0)
                       (try rw [show 1 * 1 = 1 from rfl] at hw214_0)
                       (try simp only [Nat.reduceMul, Nat.reduceEqDiff, Go.Addr.add, ↓reduceIte] at hw214_0)
                       obtain rfl : ad206 = ad214 := (by injection e214)
                       (try simp only [show (1 : Int).toNat = 1 from rfl, Nat.reduceMul, Nat.reduceEqDiff, Go.Addr.add, ↓reduceIte] at hx214_0)
                       have qi214 : (1 < (rd_L1 l0_1 x24_2).length) = True := eq_true (by omega)
                       (try rw [show ((1 : Int)).toNat = 1 from rfl] at hx214_0)
                       replace hx214_0 := (HB.out.cell (World.block_lt_of_cell? w _ hx214_0)).trans hx214_0
                       replace p214 := eq_true p214
                       replace q214 := eq_true q214
                       have p215 : 0 ≤ ((ji26) : Int) := of_decide_eq_true (by first | (with_reducible assumption) | assumption)
                       have q215 : (ji26) < (l0_1.length : Int) := of_decide_eq_true (by first | (with_reducible assumption) | assumption)
                       obtain ⟨ad215, A215_0, c215_0, e215, hx215_0, hl215_0, hi215_0⟩ := at_L1 HR0_1.out (ji26) p215 q215
                       have hw215_0 := hx215_0
                       obtain rfl : ad205 = ad215 := (by injection e215)
                       replace hx215_0 := (HB.out.cell (World.block_lt_of_cell? w _ hx215_0)).trans hx215_0
                       have HR215_0 := Aside0.mk hi215_0
                       have HC215_0 := Aside0.mk hl215_0
                       clear hi215_0 hl215_0
                       replace p215 := eq_true p215
                       replace q215 := eq_true q215
                       have ea_ := Option.some.inj (hx212_0.symm.trans hx215_0)
                       injection ea_ with ea_ en_ ec_
                       subst ea_
                       subst ec_
                       clear en_
                       have p216 : 0 ≤ (1 : Int) := (by omega)
                       have q216 : 1 < ((rd_L1 l0_1 (ji26)).length : Int) := of_decide_eq_true (by first | (with_reducible assumption) | assumption)
                       obtain ⟨ad216, e216, hx216_0⟩ := Kd.at_int HR215_0.out 1 p216 q216
                       have hw216_0 := hx216_0
                       (try rw [show ((1 : Int)).toNat = 1 from rfl] at hw216_0)
                       (try rw [show 1 * 1 = 1 from rfl] at hw216_0)
                       (try simp only [Nat.reduceMul, Nat.reduceEqDiff, Go.Addr.add, ↓reduceIte] at hw216_0)
                       cases e216
                       (try simp only [show (1 : Int).toNat = 1 from rfl, Nat.reduceMul, Nat.reduceEqDiff, Go.Addr.add, ↓reduceIte] at hx216_0)
                       have qi216 : (1 < (rd_L1 l0_1 (ji26)).length) = True := eq_true (by omega)
                       (try rw [show ((1 : Int)).toNat = 1 from rfl] at hx216_0)
                       replace hx216_0 := (HB.out.cell (World.block_lt_of_cell? w _ hx216_0)).trans hx216_0
                       replace p216 := eq_true p216
                       replace q216 := eq_true q216
                       refine start_ (n := 59) (S := fun w' => w'.cell? ⟨gb203, 0, none⟩ = some (.string a0_0) ∧ w'.cell? ⟨gb203, 1, none⟩ = some (.slice (some ad205) l0_1.length c0_1) ∧ w'.cell? ad206 = some (.int .i64 (rd (rd_L1 l0_1 x24_2) 0)) ∧ w'.cell? ⟨ad206.block, ad206.off + 1, none⟩ = some (.int .i64 (rd (rd_L1 l0_1 x24_2) 1)) ∧ w'.cell? ad206 = some (.int .i64 (rd (rd_L1 l0_1 x24_2) 0)) ∧ w'.cell? ad206 = some (.int .i64 (rd (rd_L1 l0_1 x24_2) 0)) ∧ w'.cell? (ad205.add ((ji26)).toNat) = some (.slice (some ad213) (rd_L1 l0_1 (ji26)).length c212_0) ∧ w'.cell? ad213 = some (.int .i64 (rd (rd_L1 l0_1 (ji26)) 0)) ∧ w'.cell? ⟨ad206.block, ad206.off + 1, none⟩ = some (.int .i64 (rd (rd_L1 l0_1 x24_2) 1)) ∧ w'.cell? (ad205.add ((ji26)).toNat) = some (.slice (some ad213) (rd_L1 l0_1 (ji26)).length c212_0) ∧ w'.cell? ⟨ad213.block, ad213.off + 1, none⟩ = some (.int .i64 (rd (rd_L1 l0_1 (ji26)) 1))) (ds := []) (tf 0 59) (by kernel_rfl) rfl rfl ⟨(blk_cell BK203.out 0).trans rfl, (blk_cell BK203.out 1).trans rfl, ((HB.out.cell (World.block_lt_of_cell? w _ hw206_0)).trans hw206_0), ((HB.out.cell (World.block_lt_of_cell? w _ hw208_0)).trans hw208_0), ((HB.out.cell (World.block_lt_of_cell? w _ hw210_0)).trans hw210_0), ((HB.out.cell (World.block_lt_of_cell? w _ hw211_0)).trans hw211_0), ((HB.out.cell (World.block_lt_of_cell? w _ hw212_0)).trans hw212_0), ((HB.out.cell (World.block_lt_of_cell? w _ hw213_0)).trans hw213_0), ((HB.out.cell (World.block_lt_of_cell? w _ hw214_0)).trans hw214_0), ((HB.out.cell (World.block_lt_of_cell? w _ hw215_0)).trans hw215_0), ((HB.out.cell (World.block_lt_of_cell? w _ hw216_0)).trans hw216_0)⟩ (fun hHeld => ?_); refine with_tabW impl_ValidPump.tab6 impl_ValidPump.bits6 (fun HT_ HW_ => ?_)
                       generalize wr.drew = w33 at BK203 HB HR212_0 HR215_0 hx206_0 hx208_0 hx210_0 hx211_0 hx212_0 hx213_0 hx214_0 hx215_0 hx216_0 hHeld ⊢
                       refine px 0 (some 29) (tf 1 59) HT_ ?_
                       refine px 1 (some 30) (tf 2 59) HT_ ?_
                       refine px 2 (some 31) (tf 3 59) HT_ ?_
                       refine px 3 (some 32) (tf 4 59) HT_ ?_
                       refine px 4 (some 33) (tf 5 59) HT_ ?_
                       refine px 5 (some 34) (tf 6 59) HT_ ?_
                       refine tx (v := ?_) 6 (some 35) (tf 7 59) HT_ HW_ hHeld ?_ ?_
                       rotate_left; (· rintro w' ⟨s0, s1, s2, s3, s4, s5, s6, s7, s8, s9, s10⟩; go_simp; with_reducible rfl)
                       refine one_ (i := 7) (N := some 36) (tf 8 59) rfl rfl (one_of HT_.out (by kernel_rfl)) (by decide) (fun K hK => ?_)
                       refine goes_ Try.func65 (by kernel_rfl) rfl #[.int .i64 (rd (rd_L1 l0_1 x24_2) 0), .int .i64 0, .int .i64 100000] (by rfl) rfl rfl (by (try simp only [List.map_toArray, List.map_cons, List.map_nil]); first | done | rfl | (simp only [List.length_drop, List.length_take]; rfl)) ?_
                       with_reducible refine (impl_within.calls (rd (rd_L1 l0_1 x24_2) 0) 0 100000 true _ A18.out).mono ?_
                       rintro e w' ⟨rfl, ⟨nd, rfl⟩⟩
                       refine ⟨_, rfl, ?_⟩
                       refine hK.out _ _ ⟨(blk_cell BK203.out 0).trans rfl, (blk_cell BK203.out 1).trans rfl, ((HB.out.cell (World.block_lt_of_cell? w _ hw206_0)).trans hw206_0), ((HB.out.cell (World.block_lt_of_cell? w _ hw208_0)).trans hw208_0), ((HB.out.cell (World.block_lt_of_cell? w _ hw210_0)).trans hw210_0), ((HB.out.cell (World.block_lt_of_cell? w _ hw211_0)).trans hw211_0), ((HB.out.cell (World.block_lt_of_cell? w _ hw212_0)).trans hw212_0), ((HB.out.cell (World.block_lt_of_cell? w _ hw213_0)).trans hw213_0), ((HB.out.cell (World.block_lt_of_cell? w _ hw214_0)).trans hw214_0), ((HB.out.cell (World.block_lt_of_cell? w _ hw215_0)).trans hw215_0), ((HB.out.cell (World.block_lt_of_cell? w _ hw216_0)).trans hw216_0)⟩ (fun hHeld => ?_)
                       clear hK K
                       refine norm_ (a' := ?_) ?_ ?_
                       rotate_left
                       ·show Act.put _ (some 36) _ = _
                        simp only [Act.put, List.setIfInBounds_toArray, List.set_cons_zero, List.set_cons_succ, i64_w, i32_w]
                        rfl
                       refine px 8 (some 37) (tf 9 59) HT_ ?_
                       refine px 9 (some 38) (tf 10 59) HT_ ?_
                       refine px 10 (some 39) (tf 11 59) HT_ ?_
                       refine px 11 (some 40) (tf 12 59) HT_ ?_
                       refine px 12 (some 41) (tf 13 59) HT_ ?_
                       refine tx (v := ?_) 13 (some 42) (tf 14 59) HT_ HW_ hHeld ?_ ?_
                       rotate_left; (· rintro w' ⟨s0, s1, s2, s3, s4, s5, s6, s7, s8, s9, s10⟩; go_simp; with_reducible rfl)
                       refine one_ (i := 14) (N := some 43) (tf 15 59) rfl rfl (one_of HT_.out (by kernel_rfl)) (by decide) (fun K hK => ?_)
                       refine goes_ Try.func146 (by kernel_rfl) rfl #[.int .i64 (rd (rd_L1 l0_1 x24_2) 1)] (by rfl) rfl rfl (by (try simp only [List.map_toArray, List.map_cons, List.map_nil]); first | done | rfl | (simp only [List.length_drop, List.length_take]; rfl)) ?_
                       with_reducible refine (impl_headOk.calls (rd (rd_L1 l0_1 x24_2) 1) true _ A21.out).mono ?_
                       rintro e w' ⟨rfl, ⟨nd, rfl⟩⟩
                       refine ⟨_, rfl, ?_⟩
                       refine hK.out _ _ ⟨(blk_cell BK203.out 0).trans rfl, (blk_cell BK203.out 1).trans rfl, ((HB.out.cell (World.block_lt_of_cell? w _ hw206_0)).trans hw206_0), ((HB.out.cell (World.block_lt_of_cell? w _ hw208_0)).trans hw208_0), ((HB.out.cell (World.block_lt_of_cell? w _ hw210_0)).trans hw210_0), ((HB.out.cell (World.block_lt_of_cell? w _ hw211_0)).trans hw211_0), ((HB.out.cell (World.block_lt_of_cell? w _ hw212_0)).trans hw212_0), ((HB.out.cell (World.block_lt_of_cell? w _ hw213_0)).trans hw213_0), ((HB.out.cell (World.block_lt_of_cell? w _ hw214_0)).trans hw214_0), ((HB.out.cell (World.block_lt_of_cell? w _ hw215_0)).trans hw215_0), ((HB.out.cell (World.block_lt_of_cell? w _ hw216_0)).trans hw216_0)⟩ (fun hHeld => ?_)
                       clear hK K
                       refine norm_ (a' := ?_) ?_ ?_
                       rotate_left
                       ·show Act.put _ (some 43) _ = _
                        simp only [Act.put, List.setIfInBounds_toArray, List.set_cons_zero, List.set_cons_succ, i64_w, i32_w]
                        rfl
                       refine px 15 (some 44) (tf 16 59) HT_ ?_
                       refine px 16 (some 45) (tf 17 59) HT_ ?_
                       refine px 17 (some 46) (tf 18 59) HT_ ?_
                       refine px 18 (some 47) (tf 19 59) HT_ ?_
                       refine px 19 (some 48) (tf 20 59) HT_ ?_
                       refine px 20 (some 49) (tf 21 59) HT_ ?_
                       refine px 21 (some 50) (tf 22 59) HT_ ?_
                       refine px 22 (some 51) (tf 23 59) HT_ ?_
                       refine tx (v := ?_) 23 (some 52) (tf 24 59) HT_ HW_ hHeld ?_ ?_
                       rotate_left; (· rintro w' ⟨s0, s1, s2, s3, s4, s5, s6, s7, s8, s9, s10⟩; go_simp; with_reducible rfl)
                       refine px 24 (some 53) (tf 25 59) HT_ ?_
                       refine px 25 (some 54) (tf 26 59) HT_ ?_
                       refine px 26 (some 55) (tf 27 59) HT_ ?_
                       refine px 27 (some 56) (tf 28 59) HT_ ?_
                       refine px 28 (some 57) (tf 29 59) HT_ ?_
                       refine px 29 (some 58) (tf 30 59) HT_ ?_
                       refine px 30 (some 59) (tf 31 59) HT_ ?_
                       refine px 31 (some 60) (tf 32 59) HT_ ?_
                       refine px 32 (some 61) (tf 33 59) HT_ ?_
                       refine px 34 (some 63) (tb 59 25769803775) HT_ ?_
                       refine px 36 (some 65) (tb 59 94489280511) HT_ ?_
                       refine px 37 (some 66) (tb 59 231928233983) HT_ ?_
                       refine tx (v := ?_) 33 (some 62) (tb 59 240518168575) HT_ HW_ hHeld ?_ ?_
                       rotate_left; (· rintro w' ⟨s0, s1, s2, s3, s4, s5, s6, s7, s8, s9, s10⟩; go_simp; with_reducible rfl)
                       refine tx (v := ?_) 35 (some 64) (tf 38 59) HT_ HW_ hHeld ?_ ?_
                       rotate_left; (· rintro w' ⟨s0, s1, s2, s3, s4, s5, s6, s7, s8, s9, s10⟩; go_simp; with_reducible rfl)
                       refine px 38 (some 67) (tf 39 59) HT_ ?_
                       refine tx (v := ?_) 39 (some 68) (tf 40 59) HT_ HW_ hHeld ?_ ?_
                       rotate_left; (· rintro w' ⟨s0, s1, s2, s3, s4, s5, s6, s7, s8, s9, s10⟩; go_simp; with_reducible rfl)
                       refine px 40 (some 69) (tf 41 59) HT_ ?_
                       refine tx (v := ?_) 41 (some 70) (tf 42 59) HT_ HW_ hHeld ?_ ?_
                       rotate_left; (· rintro w' ⟨s0, s1, s2, s3, s4, s5, s6, s7, s8, s9, s10⟩; go_simp; with_reducible rfl)
                       refine px 42 (some 71) (tf 43 59) HT_ ?_
                       refine px 43 (some 72) (tf 44 59) HT_ ?_
                       refine px 44 (some 73) (tf 45 59) HT_ ?_
                       refine px 45 (some 74) (tf 46 59) HT_ ?_
                       refine px 47 (some 76) (tb 59 211106232532991) HT_ ?_
                       refine px 49 (some 78) (tb 59 774056185954303) HT_ ?_
                       refine px 50 (some 79) (tb 59 1899956092796927) HT_ ?_
                       refine tx (v := ?_) 46 (some 75) (tb 59 1970324836974591) HT_ HW_ hHeld ?_ ?_
                       rotate_left; (· rintro w' ⟨s0, s1, s2, s3, s4, s5, s6, s7, s8, s9, s10⟩; go_simp; with_reducible rfl)
                       refine tx (v := ?_) 48 (some 77) (tf 51 59) HT_ HW_ hHeld ?_ ?_
                       rotate_left; (· rintro w' ⟨s0, s1, s2, s3, s4, s5, s6, s7, s8, s9, s10⟩; go_simp; with_reducible rfl)
                       refine px 51 (some 80) (tf 52 59) HT_ ?_
                       refine tx (v := ?_) 52 (some 81) (tf 53 59) HT_ HW_ hHeld ?_ ?_
                       rotate_left; (· rintro w' ⟨s0, s1, s2, s3, s4, s5, s6, s7, s8, s9, s10⟩; go_simp; with_reducible rfl)
                       refine px 53 (some 82) (tf 54 59) HT_ ?_
                       refine tx (v := ?_) 54 (some 83) (tf 55 59) HT_ HW_ hHeld ?_ ?_
                       rotate_left; (· rintro w' ⟨s0, s1, s2, s3, s4, s5, s6, s7, s8, s9, s10⟩; go_simp; with_reducible rfl)
                       refine px 55 (some 84) (tf 56 59) HT_ ?_
                       refine px 56 (some 85) (tf 57 59) HT_ ?_
                       refine px 57 (some 86) (tf 58 59) HT_ ?_
                       refine px 58 (some 87) (tf 59 59) HT_ ?_
                       refine done_ (done_of HT_.out (by kernel_rfl)) ?_
                       try go_wp2
                       go_meet
                       case rel => exact ⟨_, (decide ((rd (rd_L1 l0_1 x24_2) 1) > (rd (rd_L1 l0_1 (ji26)) 1))), (by first | rfl | (simp; done) | (simp only [← hji26] <;> (first | rfl | simp)) | (simp [*]; done)), H', ⟨by have := HJ1.out; have := HK2.out; first | omega | exact Nat.le_refl _⟩, ⟨by (with_reducible repeat (first | refine blk_drewN ?_ _ | refine blk_drew ?_ | refine blk_alloc ?_ _)); exact BK203.out⟩, ⟨by repeat (first | (with_reducible first | exact HB.out | apply below_alloc | apply pw_below_drewN | apply below_drew1 | refine below_set ?_ GE203.out) | exact HB.out)⟩⟩
                      ·rw [if_neg c32] at H
                       exact absurd H (by simp)
                    ·rw [if_neg c29] at H
                     exact absurd H (by simp)
                   ·rw [if_neg c28] at H
                    exact absurd H (by simp)
                  ·rw [if_neg c27] at H
                   exact absurd H (by simp)
                 ·rw [if_neg c25] at H
                  have c25b0 : decide (0 < x24_2) = false := decide_eq_false c25
                  clear c25
                  have H' := Aside0.mk H
                  clear H
                  try go_wp2
                  have n0_ := Aside0.mk (blk_drew BK203.out)
                  have n1_ := Aside0.mk (below_drew1 HB.out)
                  clear BK203
                  clear HB
                  have BK203 := n0_
                  have HB := n1_
                  clear n0_ n1_
                  have p206 : 0 ≤ (0 : Int) := (by omega)
                  have q206 : 0 < ((rd_L1 l0_1 x24_2).length : Int) := of_decide_eq_true (by first | (with_reducible assumption) | assumption)
                  obtain ⟨ad206, e206, hx206_0⟩ := Kd.at_int HR205_0.out 0 p206 q206
                  have hw206_0 := hx206_0
                  (try rw [show ((0 : Int)).toNat = 0 from rfl] at hw206_0)
                  (try rw [show 0 * 1 = 0 from rfl] at hw206_0)
                  (try rw [Addr.add_zero'] at hw206_0)
                  cases e206
                  have qi206 : (0 < (rd_L1 l0_1 x24_2).length) = True := eq_true (by omega)
                  (try rw [show ((0 : Int)).toNat = 0 from rfl] at hx206_0)
                  (try rw [Addr.add_zero'] at hx206_0)
                  replace hx206_0 := (HB.out.cell (World.block_lt_of_cell? w _ hx206_0)).trans hx206_0
                  replace p206 := eq_true p206
                  replace q206 := eq_true q206
                  have p208 : 0 ≤ (1 : Int) := (by omega)
                  have q208 : 1 < ((rd_L1 l0_1 x24_2).length : Int) := of_decide_eq_true (by first | (with_reducible assumption) | assumption)
                  obtain ⟨ad208, e208, hx208_0⟩ := Kd.at_int HR205_0.out 1 p208 q208
                  have hw208_0 := hx208_0
                  (try rw [show ((1 : Int)).toNat = 1 from rfl] at hw208_0)
                  (try rw [show 1 * 1 = 1 from rfl] at hw208_0)
                  (try simp only [Nat.reduceMul, Nat.reduceEqDiff, Go.Addr.add, ↓reduceIte] at hw208_0)
                  obtain rfl : ad206 = ad208 := (by injection e208)
                  (try simp only [show (1 : Int).toNat = 1 from rfl, Nat.reduceMul, Nat.reduceEqDiff, Go.Addr.add, ↓reduceIte] at hx208_0)
                  have qi208 : (1 < (rd_L1 l0_1 x24_2).length) = True := eq_true (by omega)
                  (try rw [show ((1 : Int)).toNat = 1 from rfl] at hx208_0)
                  replace hx208_0 := (HB.out.cell (World.block_lt_of_cell? w _ hx208_0)).trans hx208_0
                  replace p208 := eq_true p208
                  replace q208 := eq_true q208
                  have p210 : 0 ≤ (0 : Int) := (by omega)
                  have q210 : 0 < ((rd_L1 l0_1 x24_2).length : Int) := of_decide_eq_true (by first | (with_reducible assumption) | assumption)
                  obtain ⟨ad210, e210, hx210_0⟩ := Kd.at_int HR205_0.out 0 p210 q210
                  have hw210_0 := hx210_0
                  (try rw [show ((0 : Int)).toNat = 0 from rfl] at hw210_0)
                  (try rw [show 0 * 1 = 0 from rfl] at hw210_0)
                  (try rw [Addr.add_zero'] at hw210_0)
                  obtain rfl : ad206 = ad210 := (by injection e210)
                  have qi210 : (0 < (rd_L1 l0_1 x24_2).length) = True := eq_true (by omega)
                  (try rw [show ((0 : Int)).toNat = 0 from rfl] at hx210_0)
                  (try rw [Addr.add_zero'] at hx210_0)
                  replace hx210_0 := (HB.out.cell (World.block_lt_of_cell? w _ hx210_0)).trans hx210_0
                  replace p210 := eq_true p210
                  replace q210 := eq_true q210
                  refine start_ (n := 59) (S := fun w' => w'.cell? ad206 = some (.int .i64 (rd (rd_L1 l0_1 x24_2) 0)) ∧ w'.cell? ⟨ad206.block, ad206.off + 1, none⟩ = some (.int .i64 (rd (rd_L1 l0_1 x24_2) 1)) ∧ w'.cell? ad206 = some (.int .i64 (rd (rd_L1 l0_1 x24_2) 0))) (ds := []) (tf 0 59) (by kernel_rfl) rfl rfl ⟨((HB.out.cell (World.block_lt_of_cell? w _ hw206_0)).trans hw206_0), ((HB.out.cell (World.block_lt_of_cell? w _ hw208_0)).trans hw208_0), ((HB.out.cell (World.block_lt_of_cell? w _ hw210_0)).trans hw210_0)⟩ (fun hHeld => ?_); refine with_tabW impl_ValidPump.tab6 impl_ValidPump.bits6 (fun HT_ HW_ => ?_)
                  generalize wr.drew = w34 at BK203 HB hx206_0 hx208_0 hx210_0 hHeld ⊢
                  refine px 0 (some 29) (tf 1 59) HT_ ?_
                  refine px 1 (some 30) (tf 2 59) HT_ ?_
                  refine px 2 (some 31) (tf 3 59) HT_ ?_
                  refine px 3 (some 32) (tf 4 59) HT_ ?_
                  refine px 4 (some 33) (tf 5 59) HT_ ?_
                  refine px 5 (some 34) (tf 6 59) HT_ ?_
                  refine tx (v := ?_) 6 (some 35) (tf 7 59) HT_ HW_ hHeld ?_ ?_
                  rotate_left; (· rintro w' ⟨s0, s1, s2⟩; go_simp; with_reducible rfl)
                  refine one_ (i := 7) (N := some 36) (tf 8 59) rfl rfl (one_of HT_.out (by kernel_rfl)) (by decide) (fun K hK => ?_)
                  refine goes_ Try.func65 (by kernel_rfl) rfl #[.int .i64 (rd (rd_L1 l0_1 x24_2) 0), .int .i64 0, .int .i64 100000] (by rfl) rfl rfl (by (try simp only [List.map_toArray, List.map_cons, List.map_nil]); first | done | rfl | (simp only [List.length_drop, List.length_take]; rfl)) ?_
                  with_reducible refine (impl_within.calls (rd (rd_L1 l0_1 x24_2) 0) 0 100000 true _ A18.out).mono ?_
                  rintro e w' ⟨rfl, ⟨nd, rfl⟩⟩
                  refine ⟨_, rfl, ?_⟩
                  refine hK.out _ _ ⟨((HB.out.cell (World.block_lt_of_cell? w _ hw206_0)).trans hw206_0), ((HB.out.cell (World.block_lt_of_cell? w _ hw208_0)).trans hw208_0), ((HB.out.cell (World.block_lt_of_cell? w _ hw210_0)).trans hw210_0)⟩ (fun hHeld => ?_)
                  clear hK K
                  refine norm_ (a' := ?_) ?_ ?_
                  rotate_left
                  ·show Act.put _ (some 36) _ = _
                   simp only [Act.put, List.setIfInBounds_toArray, List.set_cons_zero, List.set_cons_succ, i64_w, i32_w]
                   rfl
                  refine px 8 (some 37) (tf 9 59) HT_ ?_
                  refine px 9 (some 38) (tf 10 59) HT_ ?_
                  refine px 10 (some 39) (tf 11 59) HT_ ?_
                  refine px 11 (some 40) (tf 12 59) HT_ ?_
                  refine px 12 (some 41) (tf 13 59) HT_ ?_
                  refine tx (v := ?_) 13 (some 42) (tf 14 59) HT_ HW_ hHeld ?_ ?_
                  rotate_left; (· rintro w' ⟨s0, s1, s2⟩; go_simp; with_reducible rfl)
                  refine one_ (i := 14) (N := some 43) (tf 15 59) rfl rfl (one_of HT_.out (by kernel_rfl)) (by decide) (fun K hK => ?_)
                  refine goes_ Try.func146 (by kernel_rfl) rfl #[.int .i64 (rd (rd_L1 l0_1 x24_2) 1)] (by rfl) rfl rfl (by (try simp only [List.map_toArray, List.map_cons, List.map_nil]); first | done | rfl | (simp only [List.length_drop, List.length_take]; rfl)) ?_
                  with_reducible refine (impl_headOk.calls (rd (rd_L1 l0_1 x24_2) 1) true _ A21.out).mono ?_
                  rintro e w' ⟨rfl, ⟨nd, rfl⟩⟩
                  refine ⟨_, rfl, ?_⟩
                  refine hK.out _ _ ⟨((HB.out.cell (World.block_lt_of_cell? w _ hw206_0)).trans hw206_0), ((HB.out.cell (World.block_lt_of_cell? w _ hw208_0)).trans hw208_0), ((HB.out.cell (World.block_lt_of_cell? w _ hw210_0)).trans hw210_0)⟩ (fun hHeld => ?_)
                  clear hK K
                  refine norm_ (a' := ?_) ?_ ?_
                  rotate_left
                  ·show Act.put _ (some 43) _ = _
                   simp only [Act.put, List.setIfInBounds_toArray, List.set_cons_zero, List.set_cons_succ, i64_w, i32_w]
                   rfl
                  refine px 15 (some 44) (tf 16 59) HT_ ?_
                  refine px 16 (some 45) (tf 17 59) HT_ ?_
                  refine px 17 (some 46) (tf 18 59) HT_ ?_
                  refine px 18 (some 47) (tf 19 59) HT_ ?_
                  refine px 19 (some 48) (tf 20 59) HT_ ?_
                  refine px 20 (some 49) (tf 21 59) HT_ ?_
                  refine px 21 (some 50) (tf 22 59) HT_ ?_
                  refine px 22 (some 51) (tf 23 59) HT_ ?_
                  refine tx (v := ?_) 23 (some 52) (tf 24 59) HT_ HW_ hHeld ?_ ?_
                  rotate_left; (· rintro w' ⟨s0, s1, s2⟩; go_simp; with_reducible rfl)
                  refine px 24 (some 53) (tf 25 59) HT_ ?_
                  refine px 25 (some 54) (tf 26 59) HT_ ?_
                  refine px 26 (some 55) (tf 27 59) HT_ ?_
                  refine px 27 (some 56) (tf 28 59) HT_ ?_
                  refine px 28 (some 57) (tf 29 59) HT_ ?_
                  refine px 29 (some 58) (tf 30 59) HT_ ?_
                  refine px 30 (some 59) (tf 31 59) HT_ ?_
                  refine sx 31 (some 60) (tf 32 59) HT_ ?_
                  refine sx 32 (some 61) (tf 33 59) HT_ ?_
                  refine sx 33 (some 62) (tf 34 59) HT_ ?_
                  refine sx 34 (some 63) (tf 35 59) HT_ ?_
                  refine sx 35 (some 64) (tf 36 59) HT_ ?_
                  refine sx 36 (some 65) (tf 37 59) HT_ ?_
                  refine sx 37 (some 66) (tf 38 59) HT_ ?_
                  refine sx 38 (some 67) (tf 39 59) HT_ ?_
                  refine sx 39 (some 68) (tf 40 59) HT_ ?_
                  refine sx 40 (some 69) (tf 41 59) HT_ ?_
                  refine sx 41 (some 70) (tf 42 59) HT_ ?_
                  refine sx 42 (some 71) (tf 43 59) HT_ ?_
                  refine sx 43 (some 72) (tf 44 59) HT_ ?_
                  refine sx 44 (some 73) (tf 45 59) HT_ ?_
                  refine sx 45 (some 74) (tf 46 59) HT_ ?_
                  refine sx 46 (some 75) (tf 47 59) HT_ ?_
                  refine sx 47 (some 76) (tf 48 59) HT_ ?_
                  refine sx 48 (some 77) (tf 49 59) HT_ ?_
                  refine sx 49 (some 78) (tf 50 59) HT_ ?_
                  refine sx 50 (some 79) (tf 51 59) HT_ ?_
                  refine sx 51 (some 80) (tf 52 59) HT_ ?_
                  refine sx 52 (some 81) (tf 53 59) HT_ ?_
                  refine sx 53 (some 82) (tf 54 59) HT_ ?_
                  refine sx 54 (some 83) (tf 55 59) HT_ ?_
                  refine sx 55 (some 84) (tf 56 59) HT_ ?_
                  refine sx 56 (some 85) (tf 57 59) HT_ ?_
                  refine px 57 (some 86) (tf 58 59) HT_ ?_
                  refine px 58 (some 87) (tf 59 59) HT_ ?_
                  refine done_ (done_of HT_.out (by kernel_rfl)) ?_
                  try go_wp2
                  go_meet
                  case rel => exact ⟨_, (false), (by first | rfl | (simp; done) | (simp [*]; done)), H', ⟨by have := HJ1.out; have := HK2.out; first | omega | exact Nat.le_refl _⟩, ⟨by (with_reducible repeat (first | refine blk_drewN ?_ _ | refine blk_drew ?_ | refine blk_alloc ?_ _)); exact BK203.out⟩, ⟨by repeat (first | (with_reducible first | exact HB.out | apply below_alloc | apply pw_below_drewN | apply below_drew1 | refine below_set ?_ GE203.out) | exact HB.out)⟩⟩
                ·rw [if_neg c24] at H
                 have c24b0 : ((rd (rd_L1 l0_1 x24_2) 0) == 0) = false := beq_eq_false_iff_ne.mpr c24
                 have c24b1 : ((rd (rd_L1 l0_1 x24_2) 0) != 0) = true := bne_iff_ne.mpr c24
                 have H' := Aside0.mk H
                 clear H
                 try go_wp2
                 have n0_ := Aside0.mk (blk_drew BK203.out)
                 have n1_ := Aside0.mk (below_drew1 HB.out)
                 clear BK203
                 clear HB
                 have BK203 := n0_
                 have HB := n1_
                 clear n0_ n1_
                 have p206 : 0 ≤ (0 : Int) := (by omega)
                 have q206 : 0 < ((rd_L1 l0_1 x24_2).length : Int) := of_decide_eq_true (by first | (with_reducible assumption) | assumption)
                 obtain ⟨ad206, e206, hx206_0⟩ := Kd.at_int HR205_0.out 0 p206 q206
                 have hw206_0 := hx206_0
                 (try rw [show ((0 : Int)).toNat = 0 from rfl] at hw206_0)
                 (try rw [show 0 * 1 = 0 from rfl] at hw206_0)
                 (try rw [Addr.add_zero'] at hw206_0)
                 cases e206
                 have qi206 : (0 < (rd_L1 l0_1 x24_2).length) = True := eq_true (by omega)
                 (try rw [show ((0 : Int)).toNat = 0 from rfl] at hx206_0)
                 (try rw [Addr.add_zero'] at hx206_0)
                 replace hx206_0 := (HB.out.cell (World.block_lt_of_cell? w _ hx206_0)).trans hx206_0
                 replace p206 := eq_true p206
                 replace q206 := eq_true q206
                 have p208 : 0 ≤ (1 : Int) := (by omega)
                 have q208 : 1 < ((rd_L1 l0_1 x24_2).length : Int) := of_decide_eq_true (by first | (with_reducible assumption) | assumption)
                 obtain ⟨ad208, e208, hx208_0⟩ := Kd.at_int HR205_0.out 1 p208 q208
                 have hw208_0 := hx208_0
                 (try rw [show ((1 : Int)).toNat = 1 from rfl] at hw208_0)
                 (try rw [show 1 * 1 = 1 from rfl] at hw208_0)
                 (try simp only [Nat.reduceMul, Nat.reduceEqDiff, Go.Addr.add, ↓reduceIte] at hw208_0)
                 obtain rfl : ad206 = ad208 := (by injection e208)
                 (try simp only [show (1 : Int).toNat = 1 from rfl, Nat.reduceMul, Nat.reduceEqDiff, Go.Addr.add, ↓reduceIte] at hx208_0)
                 have qi208 : (1 < (rd_L1 l0_1 x24_2).length) = True := eq_true (by omega)
                 (try rw [show ((1 : Int)).toNat = 1 from rfl] at hx208_0)
                 replace hx208_0 := (HB.out.cell (World.block_lt_of_cell? w _ hx208_0)).trans hx208_0
                 replace p208 := eq_true p208
                 replace q208 := eq_true q208
                 have p210 : 0 ≤ (0 : Int) := (by omega)
                 have q210 : 0 < ((rd_L1 l0_1 x24_2).length : Int) := of_decide_eq_true (by first | (with_reducible assumption) | assumption)
                 obtain ⟨ad210, e210, hx210_0⟩ := Kd.at_int HR205_0.out 0 p210 q210
                 have hw210_0 := hx210_0
                 (try rw [show ((0 : Int)).toNat = 0 from rfl] at hw210_0)
                 (try rw [show 0 * 1 = 0 from rfl] at hw210_0)
                 (try rw [Addr.add_zero'] at hw210_0)
                 obtain rfl : ad206 = ad210 := (by injection e210)
                 have qi210 : (0 < (rd_L1 l0_1 x24_2).length) = True := eq_true (by omega)
                 (try rw [show ((0 : Int)).toNat = 0 from rfl] at hx210_0)
                 (try rw [Addr.add_zero'] at hx210_0)
                 replace hx210_0 := (HB.out.cell (World.block_lt_of_cell? w _ hx210_0)).trans hx210_0
                 replace p210 := eq_true p210
                 replace q210 := eq_true q210
                 refine start_ (n := 59) (S := fun w' => w'.cell? ad206 = some (.int .i64 (rd (rd_L1 l0_1 x24_2) 0)) ∧ w'.cell? ⟨ad206.block, ad206.off + 1, none⟩ = some (.int .i64 (rd (rd_L1 l0_1 x24_2) 1)) ∧ w'.cell? ad206 = some (.int .i64 (rd (rd_L1 l0_1 x24_2) 0))) (ds := []) (tf 0 59) (by kernel_rfl) rfl rfl ⟨((HB.out.cell (World.block_lt_of_cell? w _ hw206_0)).trans hw206_0), ((HB.out.cell (World.block_lt_of_cell? w _ hw208_0)).trans hw208_0), ((HB.out.cell (World.block_lt_of_cell? w _ hw210_0)).trans hw210_0)⟩ (fun hHeld => ?_); refine with_tabW impl_ValidPump.tab6 impl_ValidPump.bits6 (fun HT_ HW_ => ?_)
                 generalize wr.drew = w35 at BK203 HB hx206_0 hx208_0 hx210_0 hHeld ⊢
                 refine px 0 (some 29) (tf 1 59) HT_ ?_
                 refine px 1 (some 30) (tf 2 59) HT_ ?_
                 refine px 2 (some 31) (tf 3 59) HT_ ?_
                 refine px 3 (some 32) (tf 4 59) HT_ ?_
                 refine px 4 (some 33) (tf 5 59) HT_ ?_
                 refine px 5 (some 34) (tf 6 59) HT_ ?_
                 refine tx (v := ?_) 6 (some 35) (tf 7 59) HT_ HW_ hHeld ?_ ?_
                 rotate_left; (· rintro w' ⟨s0, s1, s2⟩; go_simp; with_reducible rfl)
                 refine one_ (i := 7) (N := some 36) (tf 8 59) rfl rfl (one_of HT_.out (by kernel_rfl)) (by decide) (fun K hK => ?_)
                 refine goes_ Try.func65 (by kernel_rfl) rfl #[.int .i64 (rd (rd_L1 l0_1 x24_2) 0), .int .i64 0, .int .i64 100000] (by rfl) rfl rfl (by (try simp only [List.map_toArray, List.map_cons, List.map_nil]); first | done | rfl | (simp only [List.length_drop, List.length_take]; rfl)) ?_
                 with_reducible refine (impl_within.calls (rd (rd_L1 l0_1 x24_2) 0) 0 100000 true _ A18.out).mono ?_
                 rintro e w' ⟨rfl, ⟨nd, rfl⟩⟩
                 refine ⟨_, rfl, ?_⟩
                 refine hK.out _ _ ⟨((HB.out.cell (World.block_lt_of_cell? w _ hw206_0)).trans hw206_0), ((HB.out.cell (World.block_lt_of_cell? w _ hw208_0)).trans hw208_0), ((HB.out.cell (World.block_lt_of_cell? w _ hw210_0)).trans hw210_0)⟩ (fun hHeld => ?_)
                 clear hK K
                 refine norm_ (a' := ?_) ?_ ?_
                 rotate_left
                 ·show Act.put _ (some 36) _ = _
                  simp only [Act.put, List.setIfInBounds_toArray, List.set_cons_zero, List.set_cons_succ, i64_w, i32_w]
                  rfl
                 refine px 8 (some 37) (tf 9 59) HT_ ?_
                 refine px 9 (some 38) (tf 10 59) HT_ ?_
                 refine px 10 (some 39) (tf 11 59) HT_ ?_
                 refine px 11 (some 40) (tf 12 59) HT_ ?_
                 refine px 12 (some 41) (tf 13 59) HT_ ?_
                 refine tx (v := ?_) 13 (some 42) (tf 14 59) HT_ HW_ hHeld ?_ ?_
                 rotate_left; (· rintro w' ⟨s0, s1, s2⟩; go_simp; with_reducible rfl)
                 refine one_ (i := 14) (N := some 43) (tf 15 59) rfl rfl (one_of HT_.out (by kernel_rfl)) (by decide) (fun K hK => ?_)
                 refine goes_ Try.func146 (by kernel_rfl) rfl #[.int .i64 (rd (rd_L1 l0_1 x24_2) 1)] (by rfl) rfl rfl (by (try simp only [List.map_toArray, List.map_cons, List.map_nil]); first | done | rfl | (simp only [List.length_drop, List.length_take]; rfl)) ?_
                 with_reducible refine (impl_headOk.calls (rd (rd_L1 l0_1 x24_2) 1) true _ A21.out).mono ?_
                 rintro e w' ⟨rfl, ⟨nd, rfl⟩⟩
                 refine ⟨_, rfl, ?_⟩
                 refine hK.out _ _ ⟨((HB.out.cell (World.block_lt_of_cell? w _ hw206_0)).trans hw206_0), ((HB.out.cell (World.block_lt_of_cell? w _ hw208_0)).trans hw208_0), ((HB.out.cell (World.block_lt_of_cell? w _ hw210_0)).trans hw210_0)⟩ (fun hHeld => ?_)
                 clear hK K
                 refine norm_ (a' := ?_) ?_ ?_
                 rotate_left
                 ·show Act.put _ (some 43) _ = _
                  simp only [Act.put, List.setIfInBounds_toArray, List.set_cons_zero, List.set_cons_succ, i64_w, i32_w]
                  rfl
                 refine px 15 (some 44) (tf 16 59) HT_ ?_
                 refine px 16 (some 45) (tf 17 59) HT_ ?_
                 refine px 17 (some 46) (tf 18 59) HT_ ?_
                 refine px 18 (some 47) (tf 19 59) HT_ ?_
                 refine px 19 (some 48) (tf 20 59) HT_ ?_
                 refine px 20 (some 49) (tf 21 59) HT_ ?_
                 refine px 21 (some 50) (tf 22 59) HT_ ?_
                 refine px 22 (some 51) (tf 23 59) HT_ ?_
                 refine tx (v := ?_) 23 (some 52) (tf 24 59) HT_ HW_ hHeld ?_ ?_
                 rotate_left; (· rintro w' ⟨s0, s1, s2⟩; go_simp; with_reducible rfl)
                 refine px 24 (some 53) (tf 25 59) HT_ ?_
                 refine px 25 (some 54) (tf 26 59) HT_ ?_
                 refine px 26 (some 55) (tf 27 59) HT_ ?_
                 refine px 27 (some 56) (tf 28 59) HT_ ?_
                 refine sx 28 (some 57) (tf 29 59) HT_ ?_
                 refine sx 29 (some 58) (tf 30 59) HT_ ?_
                 refine sx 30 (some 59) (tf 31 59) HT_ ?_
                 refine sx 31 (some 60) (tf 32 59) HT_ ?_
                 refine sx 32 (some 61) (tf 33 59) HT_ ?_
                 refine sx 33 (some 62) (tf 34 59) HT_ ?_
                 refine sx 34 (some 63) (tf 35 59) HT_ ?_
                 refine sx 35 (some 64) (tf 36 59) HT_ ?_
                 refine sx 36 (some 65) (tf 37 59) HT_ ?_
                 refine sx 37 (some 66) (tf 38 59) HT_ ?_
                 refine sx 38 (some 67) (tf 39 59) HT_ ?_
                 refine sx 39 (some 68) (tf 40 59) HT_ ?_
                 refine sx 40 (some 69) (tf 41 59) HT_ ?_
                 refine sx 41 (some 70) (tf 42 59) HT_ ?_
                 refine sx 42 (some 71) (tf 43 59) HT_ ?_
                 refine sx 43 (some 72) (tf 44 59) HT_ ?_
                 refine sx 44 (some 73) (tf 45 59) HT_ ?_
                 refine sx 45 (some 74) (tf 46 59) HT_ ?_
                 refine sx 46 (some 75) (tf 47 59) HT_ ?_
                 refine sx 47 (some 76) (tf 48 59) HT_ ?_
                 refine sx 48 (some 77) (tf 49 59) HT_ ?_
                 refine sx 49 (some 78) (tf 50 59) HT_ ?_
                 refine sx 50 (some 79) (tf 51 59) HT_ ?_
                 refine sx 51 (some 80) (tf 52 59) HT_ ?_
                 refine sx 52 (some 81) (tf 53 59) HT_ ?_
                 refine sx 53 (some 82) (tf 54 59) HT_ ?_
                 refine sx 54 (some 83) (tf 55 59) HT_ ?_
                 refine sx 55 (some 84) (tf 56 59) HT_ ?_
                 refine sx 56 (some 85) (tf 57 59) HT_ ?_
                 refine sx 57 (some 86) (tf 58 59) HT_ ?_
                 refine px 58 (some 87) (tf 59 59) HT_ ?_
                 refine done_ (done_of HT_.out (by kernel_rfl)) ?_
                 try go_wp2
                 go_meet
                 case rel => exact ⟨_, (true), (by first | rfl | (simp; done) | (simp [*]; done)), H', ⟨by have := HJ1.out; have := HK2.out; first | omega | exact Nat.le_refl _⟩, ⟨by (with_reducible repeat (first | refine blk_drewN ?_ _ | refine blk_drew ?_ | refine blk_alloc ?_ _)); exact BK203.out⟩, ⟨by repeat (first | (with_reducible first | exact HB.out | apply below_alloc | apply pw_below_drewN | apply below_drew1 | refine below_set ?_ GE203.out) | exact HB.out)⟩⟩
               ·rw [if_neg c23] at H
                have c23b0 : (x24_2 == 0) = false := beq_eq_false_iff_ne.mpr c23
                have c23b1 : (x24_2 != 0) = true := bne_iff_ne.mpr c23
                by_cases c36 : x24_2 > 0
                ·rw [if_pos c36] at H
                 have c36b0 : decide (0 < x24_2) = true := decide_eq_true c36
                 clear c36
                 obtain ⟨ji37, hji37⟩ : ∃ j_ : Int, (wrap64 (x24_2 - 1)) = j_ := ⟨_, rfl⟩
                 replace H : (if 0 ≤ (ji37) then (if (ji37) < (l0_1.length : Int) then (if 0 < ((rd_L1 l0_1 (ji37)).length : Int) then (if (rd (rd_L1 l0_1 x24_2) 0) ≤ (rd (rd_L1 l0_1 (ji37)) 0) then (impl_ValidPump.j2 k2 l0_1 (l0_1.length : Int) x24_2 true a0_0 l0_1) else (if 1 < ((rd_L1 l0_1 (ji37)).length : Int) then (impl_ValidPump.j2 k2 l0_1 (l0_1.length : Int) x24_2 (decide ((rd (rd_L1 l0_1 x24_2) 1) > (rd (rd_L1 l0_1 (ji37)) 1))) a0_0 l0_1) else (none))) else (none)) else (none)) else (none)) = some r := by first | (rw [hji37] at H; exact H) | (simp only [hji37] at H ⊢; exact H)
                 (try rw [hji37] at A18)
                 (try rw [hji37] at A21)
                 have hji37w : (IntKind.i64.wrap (x24_2 - 1)) = ji37 := (i64_w _).trans hji37
                 (try clear hji26w)
                 by_cases c38 : 0 ≤ (ji37)
                 ·rw [if_pos c38] at H
                  have c38b0 : decide (0 ≤ (ji37)) = true := decide_eq_true c38
                  clear c38
                  by_cases c39 : (ji37) < (l0_1.length : Int)
                  ·rw [if_pos c39] at H
                   have c39b0 : decide ((ji37) < (l0_1.length : Int)) = true := decide_eq_true c39
                   clear c39
                   by_cases c40 : 0 < ((rd_L1 l0_1 (ji37)).length : Int)
                   ·rw [if_pos c40] at H
                    have c40b0 : decide (0 < ((rd_L1 l0_1 (ji37)).length : Int)) = true := decide_eq_true c40
                    have c40b1 : decide (0 < (rd_L1 l0_1 (ji37)).length) = true := decide_eq_true (by omega)
                    clear c40
                    by_cases c41 : (rd (rd_L1 l0_1 x24_2) 0) ≤ (rd (rd_L1 l0_1 (ji37)) 0)
                    ·rw [if_pos c41] at H
                     have c41b0 : decide ((rd (rd_L1 l0_1 x24_2) 0) ≤ (rd (rd_L1 l0_1 (ji37)) 0)) = true := decide_eq_true c41
                     clear c41
                     have H' := Aside0.mk H
                     clear H
                     try go_wp2
                     have n0_ := Aside0.mk (blk_drew BK203.out)
                     have n1_ := Aside0.mk (below_drew1 HB.out)
                     clear BK203
                     clear HB
                     have BK203 := n0_
                     have HB := n1_
                     clear n0_ n1_
                     have p206 : 0 ≤ (0 : Int) := (by omega)
                     have q206 : 0 < ((rd_L1 l0_1 x24_2).length : Int) := of_decide_eq_true (by first | (with_reducible assumption) | assumption)
                     obtain ⟨ad206, e206, hx206_0⟩ := Kd.at_int HR205_0.out 0 p206 q206
                     have hw206_0 := hx206_0
                     (try rw [show ((0 : Int)).toNat = 0 from rfl] at hw206_0)
                     (try rw [show 0 * 1 = 0 from rfl] at hw206_0)
                     (try rw [Addr.add_zero'] at hw206_0)
                     cases e206
                     have qi206 : (0 < (rd_L1 l0_1 x24_2).length) = True := eq_true (by omega)
                     (try rw [show ((0 : Int)).toNat = 0 from rfl] at hx206_0)
                     (try rw [Addr.add_zero'] at hx206_0)
                     replace hx206_0 := (HB.out.cell (World.block_lt_of_cell? w _ hx206_0)).trans hx206_0
                     replace p206 := eq_true p206
                     replace q206 := eq_true q206
                     have p208 : 0 ≤ (1 : Int) := (by omega)
                     have q208 : 1 < ((rd_L1 l0_1 x24_2).length : Int) := of_decide_eq_true (by first | (with_reducible assumption) | assumption)
                     obtain ⟨ad208, e208, hx208_0⟩ := Kd.at_int HR205_0.out 1 p208 q208
                     have hw208_0 := hx208_0
                     (try rw [show ((1 : Int)).toNat = 1 from rfl] at hw208_0)
                     (try rw [show 1 * 1 = 1 from rfl] at hw208_0)
                     (try simp only [Nat.reduceMul, Nat.reduceEqDiff, Go.Addr.add, ↓reduceIte] at hw208_0)
                     obtain rfl : ad206 = ad208 := (by injection e208)
                     (try simp only [show (1 : Int).toNat = 1 from rfl, Nat.reduceMul, Nat.reduceEqDiff, Go.Addr.add, ↓reduceIte] at hx208_0)
                     have qi208 : (1 < (rd_L1 l0_1 x24_2).length) = True := eq_true (by omega)
                     (try rw [show ((1 : Int)).toNat = 1 from rfl] at hx208_0)
                     replace hx208_0 := (HB.out.cell (World.block_lt_of_cell? w _ hx208_0)).trans hx208_0
                     replace p208 := eq_true p208
                     replace q208 := eq_true q208
                     have p217 : 0 ≤ (0 : Int) := (by omega)
                     have q217 : 0 < ((rd_L1 l0_1 x24_2).length : Int) := of_decide_eq_true (by first | (with_reducible assumption) | assumption)
                     obtain ⟨ad217, e217, hx217_0⟩ := Kd.at_int HR205_0.out 0 p217 q217
                     have hw217_0 := hx217_0
                     (try rw [show ((0 : Int)).toNat = 0 from rfl] at hw217_0)
                     (try rw [show 0 * 1 = 0 from rfl] at hw217_0)
                     (try rw [Addr.add_zero'] at hw217_0)
                     obtain rfl : ad206 = ad217 := (by injection e217)
                     have qi217 : (0 < (rd_L1 l0_1 x24_2).length) = True := eq_true (by omega)
                     (try rw [show ((0 : Int)).toNat = 0 from rfl] at hx217_0)
                     (try rw [Addr.add_zero'] at hx217_0)
                     replace hx217_0 := (HB.out.cell (World.block_lt_of_cell? w _ hx217_0)).trans hx217_0
                     replace p217 := eq_true p217
                     replace q217 := eq_true q217
                     have p218 : 0 ≤ ((ji37) : Int) := of_decide_eq_true (by first | (with_reducible assumption) | assumption)
                     have q218 : (ji37) < (l0_1.length : Int) := of_decide_eq_true (by first | (with_reducible assumption) | assumption)
                     obtain ⟨ad218, A218_0, c218_0, e218, hx218_0, hl218_0, hi218_0⟩ := at_L1 HR0_1.out (ji37) p218 q218
                     have hw218_0 := hx218_0
                     obtain rfl : ad205 = ad218 := (by injection e218)
                     replace hx218_0 := (HB.out.cell (World.block_lt_of_cell? w _ hx218_0)).trans hx218_0
                     have HR218_0 := Aside0.mk hi218_0
                     have HC218_0 := Aside0.mk hl218_0
                     clear hi218_0 hl218_0
                     replace p218 := eq_true p218
                     replace q218 := eq_true q218
                     have p219 : 0 ≤ (0 : Int) := (by omega)
                     have q219 : 0 < ((rd_L1 l0_1 (ji37)).length : Int) := of_decide_eq_true (by first | (with_reducible assumption) | assumption)
                     obtain ⟨ad219, e219, hx219_0⟩ := Kd.at_int HR218_0.out 0 p219 q219
                     have hw219_0 := hx219_0
                     (try rw [show ((0 : Int)).toNat = 0 from rfl] at hw219_0)
                     (try rw [show 0 * 1 = 0 from rfl] at hw219_0)
                     (try rw [Addr.add_zero'] at hw219_0)
                     cases e219
                     have qi219 : (0 < (rd_L1 l0_1 (ji37)).length) = True := eq_true (by omega)
                     (try rw [show ((0 : Int)).toNat = 0 from rfl] at hx219_0)
                     (try rw [Addr.add_zero'] at hx219_0)
                     replace hx219_0 := (HB.out.cell (World.block_lt_of_cell? w _ hx219_0)).trans hx219_0
                     replace p219 := eq_true p219
                     replace q219 := eq_true q219
                     refine start_ (n := 59) (S := fun w' => w'.cell? ⟨gb203, 0, none⟩ = some (.string a0_0) ∧ w'.cell? ⟨gb203, 1, none⟩ = some (.slice (some ad205) l0_1.length c0_1) ∧ w'.cell? ad206 = some (.int .i64 (rd (rd_L1 l0_1 x24_2) 0)) ∧ w'.cell? ⟨ad206.block, ad206.off + 1, none⟩ = some (.int .i64 (rd (rd_L1 l0_1 x24_2) 1)) ∧ w'.cell? ad206 = some (.int .i64 (rd (rd_L1 l0_1 x24_2) 0)) ∧ w'.cell? (ad205.add ((ji37)).toNat) = some (.slice (some ad219) (rd_L1 l0_1 (ji37)).length c218_0) ∧ w'.cell? ad219 = some (.int .i64 (rd (rd_L1 l0_1 (ji37)) 0))) (ds := []) (tf 0 59) (by kernel_rfl) rfl rfl ⟨(blk_cell BK203.out 0).trans rfl, (blk_cell BK203.out 1).trans rfl, ((HB.out.cell (World.block_lt_of_cell? w _ hw206_0)).trans hw206_0), ((HB.out.cell (World.block_lt_of_cell? w _ hw208_0)).trans hw208_0), ((HB.out.cell (World.block_lt_of_cell? w _ hw217_0)).trans hw217_0), ((HB.out.cell (World.block_lt_of_cell? w _ hw218_0)).trans hw218_0), ((HB.out.cell (World.block_lt_of_cell? w _ hw219_0)).trans hw219_0)⟩ (fun hHeld => ?_); refine with_tabW impl_ValidPump.tab6 impl_ValidPump.bits6 (fun HT_ HW_ => ?_)
                     generalize wr.drew = w42 at BK203 HB HR218_0 hx206_0 hx208_0 hx217_0 hx218_0 hx219_0 hHeld ⊢
                     refine px 0 (some 29) (tf 1 59) HT_ ?_
                     refine px 1 (some 30) (tf 2 59) HT_ ?_
                     refine px 2 (some 31) (tf 3 59) HT_ ?_
                     refine px 3 (some 32) (tf 4 59) HT_ ?_
                     refine px 4 (some 33) (tf 5 59) HT_ ?_
                     refine px 5 (some 34) (tf 6 59) HT_ ?_
                     refine tx (v := ?_) 6 (some 35) (tf 7 59) HT_ HW_ hHeld ?_ ?_
                     rotate_left; (· rintro w' ⟨s0, s1, s2, s3, s4, s5, s6⟩; go_simp; with_reducible rfl)
                     refine one_ (i := 7) (N := some 36) (tf 8 59) rfl rfl (one_of HT_.out (by kernel_rfl)) (by decide) (fun K hK => ?_)
                     refine goes_ Try.func65 (by kernel_rfl) rfl #[.int .i64 (rd (rd_L1 l0_1 x24_2) 0), .int .i64 0, .int .i64 100000] (by rfl) rfl rfl (by (try simp only [List.map_toArray, List.map_cons, List.map_nil]); first | done | rfl | (simp only [List.length_drop, List.length_take]; rfl)) ?_
                     with_reducible refine (impl_within.calls (rd (rd_L1 l0_1 x24_2) 0) 0 100000 true _ A18.out).mono ?_
                     rintro e w' ⟨rfl, ⟨nd, rfl⟩⟩
                     refine ⟨_, rfl, ?_⟩
                     refine hK.out _ _ ⟨(blk_cell BK203.out 0).trans rfl, (blk_cell BK203.out 1).trans rfl, ((HB.out.cell (World.block_lt_of_cell? w _ hw206_0)).trans hw206_0), ((HB.out.cell (World.block_lt_of_cell? w _ hw208_0)).trans hw208_0), ((HB.out.cell (World.block_lt_of_cell? w _ hw217_0)).trans hw217_0), ((HB.out.cell (World.block_lt_of_cell? w _ hw218_0)).trans hw218_0), ((HB.out.cell (World.block_lt_of_cell? w _ hw219_0)).trans hw219_0)⟩ (fun hHeld => ?_)
                     clear hK K
                     refine norm_ (a' := ?_) ?_ ?_
                     rotate_left
                     ·show Act.put _ (some 36) _ = _
                      simp only [Act.put, List.setIfInBounds_toArray, List.set_cons_zero, List.set_cons_succ, i64_w, i32_w]
                      rfl
                     refine px 8 (some 37) (tf 9 59) HT_ ?_
                     refine px 9 (some 38) (tf 10 59) HT_ ?_
                     refine px 10 (some 39) (tf 11 59) HT_ ?_
                     refine px 11 (some 40) (tf 12 59) HT_ ?_
                     refine px 12 (some 41) (tf 13 59) HT_ ?_
                     refine tx (v := ?_) 13 (some 42) (tf 14 59) HT_ HW_ hHeld ?_ ?_
                     rotate_left; (· rintro w' ⟨s0, s1, s2, s3, s4, s5, s6⟩; go_simp; with_reducible rfl)
                     refine one_ (i := 14) (N := some 43) (tf 15 59) rfl rfl (one_of HT_.out (by kernel_rfl)) (by decide) (fun K hK => ?_)
                     refine goes_ Try.func146 (by kernel_rfl) rfl #[.int .i64 (rd (rd_L1 l0_1 x24_2) 1)] (by rfl) rfl rfl (by (try simp only [List.map_toArray, List.map_cons, List.map_nil]); first | done | rfl | (simp only [List.length_drop, List.length_take]; rfl)) ?_
                     with_reducible refine (impl_headOk.calls (rd (rd_L1 l0_1 x24_2) 1) true _ A21.out).mono ?_
                     rintro e w' ⟨rfl, ⟨nd, rfl⟩⟩
                     refine ⟨_, rfl, ?_⟩
                     refine hK.out _ _ ⟨(blk_cell BK203.out 0).trans rfl, (blk_cell BK203.out 1).trans rfl, ((HB.out.cell (World.block_lt_of_cell? w _ hw206_0)).trans hw206_0), ((HB.out.cell (World.block_lt_of_cell? w _ hw208_0)).trans hw208_0), ((HB.out.cell (World.block_lt_of_cell? w _ hw217_0)).trans hw217_0), ((HB.out.cell (World.block_lt_of_cell? w _ hw218_0)).trans hw218_0), ((HB.out.cell (World.block_lt_of_cell? w _ hw219_0)).trans hw219_0)⟩ (fun hHeld => ?_)
                     clear hK K
                     refine norm_ (a' := ?_) ?_ ?_
                     rotate_left
                     ·show Act.put _ (some 43) _ = _
                      simp only [Act.put, List.setIfInBounds_toArray, List.set_cons_zero, List.set_cons_succ, i64_w, i32_w]
                      rfl
                     refine px 15 (some 44) (tf 16 59) HT_ ?_
                     refine px 16 (some 45) (tf 17 59) HT_ ?_
                     refine px 17 (some 46) (tf 18 59) HT_ ?_
                     refine px 18 (some 47) (tf 19 59) HT_ ?_
                     refine px 19 (some 48) (tf 20 59) HT_ ?_
                     refine px 20 (some 49) (tf 21 59) HT_ ?_
                     refine sx 21 (some 50) (tf 22 59) HT_ ?_
                     refine sx 22 (some 51) (tf 23 59) HT_ ?_
                     refine sx 23 (some 52) (tf 24 59) HT_ ?_
                     refine sx 24 (some 53) (tf 25 59) HT_ ?_
                     refine px 25 (some 54) (tf 26 59) HT_ ?_
                     refine px 26 (some 55) (tf 27 59) HT_ ?_
                     refine px 27 (some 56) (tf 28 59) HT_ ?_
                     refine px 28 (some 57) (tf 29 59) HT_ ?_
                     refine px 29 (some 58) (tf 30 59) HT_ ?_
                     refine px 30 (some 59) (tf 31 59) HT_ ?_
                     refine px 31 (some 60) (tf 32 59) HT_ ?_
                     refine px 32 (some 61) (tf 33 59) HT_ ?_
                     refine px 34 (some 63) (tb 59 25769803775) HT_ ?_
                     refine px 36 (some 65) (tb 59 94489280511) HT_ ?_
                     refine px 37 (some 66) (tb 59 231928233983) HT_ ?_
                     refine tx (v := ?_) 33 (some 62) (tb 59 240518168575) HT_ HW_ hHeld ?_ ?_
                     rotate_left; (· rintro w' ⟨s0, s1, s2, s3, s4, s5, s6⟩; go_simp; with_reducible rfl)
                     refine tx (v := ?_) 35 (some 64) (tf 38 59) HT_ HW_ hHeld ?_ ?_
                     rotate_left; (· rintro w' ⟨s0, s1, s2, s3, s4, s5, s6⟩; go_simp; with_reducible rfl)
                     refine px 38 (some 67) (tf 39 59) HT_ ?_
                     refine tx (v := ?_) 39 (some 68) (tf 40 59) HT_ HW_ hHeld ?_ ?_
                     rotate_left; (· rintro w' ⟨s0, s1, s2, s3, s4, s5, s6⟩; go_simp; with_reducible rfl)
                     refine px 40 (some 69) (tf 41 59) HT_ ?_
                     refine tx (v := ?_) 41 (some 70) (tf 42 59) HT_ HW_ hHeld ?_ ?_
                     rotate_left; (· rintro w' ⟨s0, s1, s2, s3, s4, s5, s6⟩; go_simp; with_reducible rfl)
                     refine px 42 (some 71) (tf 43 59) HT_ ?_
                     refine px 43 (some 72) (tf 44 59) HT_ ?_
                     refine sx 44 (some 73) (tf 45 59) HT_ ?_
                     refine sx 45 (some 74) (tf 46 59) HT_ ?_
                     refine sx 46 (some 75) (tf 47 59) HT_ ?_
                     refine sx 47 (some 76) (tf 48 59) HT_ ?_
                     refine sx 48 (some 77) (tf 49 59) HT_ ?_
                     refine sx 49 (some 78) (tf 50 59) HT_ ?_
                     refine sx 50 (some 79) (tf 51 59) HT_ ?_
                     refine sx 51 (some 80) (tf 52 59) HT_ ?_
                     refine sx 52 (some 81) (tf 53 59) HT_ ?_
                     refine sx 53 (some 82) (tf 54 59) HT_ ?_
                     refine sx 54 (some 83) (tf 55 59) HT_ ?_
                     refine sx 55 (some 84) (tf 56 59) HT_ ?_
                     refine px 56 (some 85) (tf 57 59) HT_ ?_
                     refine px 57 (some 86) (tf 58 59) HT_ ?_
                     refine px 58 (some 87) (tf 59 59) HT_ ?_
                     refine done_ (done_of HT_.out (by kernel_rfl)) ?_
                     try go_wp2
                     go_meet
                     case rel => exact ⟨_, (true), (by first | rfl | (simp; done) | (simp [*]; done)), H', ⟨by have := HJ1.out; have := HK2.out; first | omega | exact Nat.le_refl _⟩, ⟨by (with_reducible repeat (first | refine blk_drewN ?_ _ | refine blk_drew ?_ | refine blk_alloc ?_ _)); exact BK203.out⟩, ⟨by repeat (first | (with_reducible first | exact HB.out | apply below_alloc | apply pw_below_drewN | apply below_drew1 | refine below_set ?_ GE203.out) | exact HB.out)⟩⟩
                    ·rw [if_neg c41] at H
                     have c41b0 : decide ((rd (rd_L1 l0_1 x24_2) 0) ≤ (rd (rd_L1 l0_1 (ji37)) 0)) = false := decide_eq_false c41
                     clear c41
                     by_cases c43 : 1 < ((rd_L1 l0_1 (ji37)).length : Int)
                     ·rw [if_pos c43] at H
                      have c43b0 : decide (1 < ((rd_L1 l0_1 (ji37)).length : Int)) = true := decide_eq_true c43
                      have c43b1 : decide (1 < (rd_L1 l0_1 (ji37)).length) = true := decide_eq_true (by omega)
                      clear c43
                      have H' := Aside0.mk H
                      clear H
                      try go_wp2
                      have n0_ := Aside0.mk (blk_drew BK203.out)
                      have n1_ := Aside0.mk (below_drew1 HB.out)
                      clear BK203
                      clear HB
                      have BK203 := n0_
                      have HB := n1_
                      clear n0_ n1_
                      have p206 : 0 ≤ (0 : Int) := (by omega)
                      have q206 : 0 < ((rd_L1 l0_1 x24_2).length : Int) := of_decide_eq_true (by first | (with_reducible assumption) | assumption)
                      obtain ⟨ad206, e206, hx206_0⟩ := Kd.at_int HR205_0.out 0 p206 q206
                      have hw206_0 := hx206_0
                      (try rw [show ((0 : Int)).toNat = 0 from rfl] at hw206_0)
                      (try rw [show 0 * 1 = 0 from rfl] at hw206_0)
                      (try rw [Addr.add_zero'] at hw206_0)
                      cases e206
                      have qi206 : (0 < (rd_L1 l0_1 x24_2).length) = True := eq_true (by omega)
                      (try rw [show ((0 : Int)).toNat = 0 from rfl] at hx206_0)
                      (try rw [Addr.add_zero'] at hx206_0)
                      replace hx206_0 := (HB.out.cell (World.block_lt_of_cell? w _ hx206_0)).trans hx206_0
                      replace p206 := eq_true p206
                      replace q206 := eq_true q206
                      have p208 : 0 ≤ (1 : Int) := (by omega)
                      have q208 : 1 < ((rd_L1 l0_1 x24_2).length : Int) := of_decide_eq_true (by first | (with_reducible assumption) | assumption)
                      obtain ⟨ad208, e208, hx208_0⟩ := Kd.at_int HR205_0.out 1 p208 q208
                      have hw208_0 := hx208_0
                      (try rw [show ((1 : Int)).toNat = 1 from rfl] at hw208_0)
                      (try rw [show 1 * 1 = 1 from rfl] at hw208_0)
                      (try simp only [Nat.reduceMul, Nat.reduceEqDiff, Go.Addr.add, ↓reduceIte] at hw208_0)
                      obtain rfl : ad206 = ad208 := (by injection e208)
                      (try simp only [show (1 : Int).toNat = 1 from rfl, Nat.reduceMul, Nat.reduceEqDiff, Go.Addr.add, ↓reduceIte] at hx208_0)
                      have qi208 : (1 < (rd_L1 l0_1 x24_2).length) = True := eq_true (by omega)
                      (try rw [show ((1 : Int)).toNat = 1 from rfl] at hx208_0)
                      replace hx208_0 := (HB.out.cell (World.block_lt_of_cell? w _ hx208_0)).trans hx208_0
                      replace p208 := eq_true p208
                      replace q208 := eq_true q208
                      have p217 : 0 ≤ (0 : Int) := (by omega)
                      have q217 : 0 < ((rd_L1 l0_1 x24_2).length : Int) := of_decide_eq_true (by first | (with_reducible assumption) | assumption)
                      obtain ⟨ad217, e217, hx217_0⟩ := Kd.at_int HR205_0.out 0 p217 q217
                      have hw217_0 := hx217_0
                      (try rw [show ((0 : Int)).toNat = 0 from rfl] at hw217_0)
                      (try rw [show 0 * 1 = 0 from rfl] at hw217_0)
                      (try rw [Addr.add_zero'] at hw217_0)
                      obtain rfl : ad206 = ad217 := (by injection e217)
                      have qi217 : (0 < (rd_L1 l0_1 x24_2).length) = True := eq_true (by omega)
                      (try rw [show ((0 : Int)).toNat = 0 from rfl] at hx217_0)
                      (try rw [Addr.add_zero'] at hx217_0)
                      replace hx217_0 := (HB.out.cell (World.block_lt_of_cell? w _ hx217_0)).trans hx217_0
                      replace p217 := eq_true p217
                      replace q217 := eq_true q217
                      have p218 : 0 ≤ ((ji37) : Int) := of_decide_eq_true (by first | (with_reducible assumption) | assumption)
                      have q218 : (ji37) < (l0_1.length : Int) := of_decide_eq_true (by first | (with_reducible assumption) | assumption)
                      obtain ⟨ad218, A218_0, c218_0, e218, hx218_0, hl218_0, hi218_0⟩ := at_L1 HR0_1.out (ji37) p218 q218
                      have hw218_0 := hx218_0
                      obtain rfl : ad205 = ad218 := (by injection e218)
                      replace hx218_0 := (HB.out.cell (World.block_lt_of_cell? w _ hx218_0)).trans hx218_0
                      have HR218_0 := Aside0.mk hi218_0
                      have HC218_0 := Aside0.mk hl218_0
                      clear hi218_0 hl218_0
                      replace p218 := eq_true p218
                      replace q218 := eq_true q218
                      have p219 : 0 ≤ (0 : Int) := (by omega)
                      have q219 : 0 < ((rd_L1 l0_1 (ji37)).length : Int) := of_decide_eq_true (by first | (with_reducible assumption) | assumption)
                      obtain ⟨ad219, e219, hx219_0⟩ := Kd.at_int HR218_0.out 0 p219 q219
                      have hw219_0 := hx219_0
                      (try rw [show ((0 : Int)).toNat = 0 from rfl] at hw219_0)
                      (try rw [show 0 * 1 = 0 from rfl] at hw219_0)
                      (try rw [Addr.add_zero'] at hw219_0)
                      cases e219
                      have qi219 : (0 < (rd_L1 l0_1 (ji37)).length) = True := eq_true (by omega)
                      (try rw [show ((0 : Int)).toNat = 0 from rfl] at hx219_0)
                      (try rw [Addr.add_zero'] at hx219_0)
                      replace hx219_0 := (HB.out.cell (World.block_lt_of_cell? w _ hx219_0)).trans hx219_0
                      replace p219 := eq_true p219
                      replace q219 := eq_true q219
                      have p220 : 0 ≤ (1 : Int) := (by omega)
                      have q220 : 1 < ((rd_L1 l0_1 x24_2).length : Int) := of_decide_eq_true (by first | (with_reducible assumption) | assumption)
                      obtain ⟨ad220, e220, hx220_0⟩ := Kd.at_int HR205_0.out 1 p220 q220
                      have hw220_0 := hx220_0
                      (try rw [show ((1 : Int)).toNat = 1 from rfl] at hw220_0)
                      (try rw [show 1 * 1 = 1 from rfl] at hw220_0)
                      (try simp only [Nat.reduceMul, Nat.reduceEqDiff, Go.Addr.add, ↓reduceIte] at hw220_0)
                      obtain rfl : ad206 = ad220 := (by injection e220)
                      (try simp only [show (1 : Int).toNat = 1 from rfl, Nat.reduceMul, Nat.reduceEqDiff, Go.Addr.add, ↓reduceIte] at hx220_0)
                      have qi220 : (1 < (rd_L1 l0_1 x24_2).length) = True := eq_true (by omega)
                      (try rw [show ((1 : Int)).toNat = 1 from rfl] at hx220_0)
                      replace hx220_0 := (HB.out.cell (World.block_lt_of_cell? w _ hx220_0)).trans hx220_0
                      replace p220 := eq_true p220
                      replace q220 := eq_true q220
                      have p221 : 0 ≤ ((ji37) : Int) := of_decide_eq_true (by first | (with_reducible assumption) | assumption)
                      have q221 : (ji37) < (l0_1.length : Int) := of_decide_eq_true (by first | (with_reducible assumption) | assumption)
                      obtain ⟨ad221, A221_0, c221_0, e221, hx221_0, hl221_0, hi221_0⟩ := at_L1 HR0_1.out (ji37) p221 q221
                      have hw221_0 := hx221_0
                      obtain rfl : ad205 = ad221 := (by injection e221)
                      replace hx221_0 := (HB.out.cell (World.block_lt_of_cell? w _ hx221_0)).trans hx221_0
                      have HR221_0 := Aside0.mk hi221_0
                      have HC221_0 := Aside0.mk hl221_0
                      clear hi221_0 hl221_0
                      replace p221 := eq_true p221
                      replace q221 := eq_true q221
                      have ea_ := Option.some.inj (hx218_0.symm.trans hx221_0)
                      injection ea_ with ea_ en_ ec_
                      subst ea_
                      subst ec_
                      clear en_
                      have p222 : 0 ≤ (1 : Int) := (by omega)
                      have q222 : 1 < ((rd_L1 l0_1 (ji37)).length : Int) := of_decide_eq_true (by first | (with_reducible assumption) | assumption)
                      obtain ⟨ad222, e222, hx222_0⟩ := Kd.at_int HR221_0.out 1 p222 q222
                      have hw222_0 := hx222_0
                      (try rw [show ((1 : Int)).toNat = 1 from rfl] at hw222_0)
                      (try rw [show 1 * 1 = 1 from rfl] at hw222_0)
                      (try simp only [Nat.reduceMul, Nat.reduceEqDiff, Go.Addr.add, ↓reduceIte] at hw222_0)
                      cases e222
                      (try simp only [show (1 : Int).toNat = 1 from rfl, Nat.reduceMul, Nat.reduceEqDiff, Go.Addr.add, ↓reduceIte] at hx222_0)
                      have qi222 : (1 < (rd_L1 l0_1 (ji37)).length) = True := eq_true (by omega)
                      (try rw [show ((1 : Int)).toNat = 1 from rfl] at hx222_0)
                      replace hx222_0 := (HB.out.cell (World.block_lt_of_cell? w _ hx222_0)).trans hx222_0
                      replace p222 := eq_true p222
                      replace q222 := eq_true q222
                      refine start_ (n := 59) (S := fun w' => w'.cell? ⟨gb203, 0, none⟩ = some (.string a0_0) ∧ w'.cell? ⟨gb203, 1, none⟩ = some (.slice (some ad205) l0_1.length c0_1) ∧ w'.cell? ad206 = some (.int .i64 (rd (rd_L1 l0_1 x24_2) 0)) ∧ w'.cell? ⟨ad206.block, ad206.off + 1, none⟩ = some (.int .i64 (rd (rd_L1 l0_1 x24_2) 1)) ∧ w'.cell? ad206 = some (.int .i64 (rd (rd_L1 l0_1 x24_2) 0)) ∧ w'.cell? (ad205.add ((ji37)).toNat) = some (.slice (some ad219) (rd_L1 l0_1 (ji37)).length c218_0) ∧ w'.cell? ad219 = some (.int .i64 (rd (rd_L1 l0_1 (ji37)) 0)) ∧ w'.cell? ⟨ad206.block, ad206.off + 1, none⟩ = some (.int .i64 (rd (rd_L1 l0_1 x24_2) 1)) ∧ w'.cell? (ad205.add ((ji37)).toNat) = some (.slice (some ad219) (rd_L1 l0_1 (ji37)).length c218_0) ∧ w'.cell? ⟨ad219.block, ad219.off + 1, none⟩ = some (.int .i64 (rd (rd_L1 l0_1 (ji37)) 1))) (ds := []) (tf 0 59) (by kernel_rfl) rfl rfl ⟨(blk_cell BK203.out 0).trans rfl, (blk_cell BK203.out 1).trans rfl, ((HB.out.cell (World.block_lt_of_cell? w _ hw206_0)).trans hw206_0), ((HB.out.cell (World.block_lt_of_cell? w _ hw208_0)).trans hw208_0), ((HB.out.cell (World.block_lt_of_cell? w _ hw217_0)).trans hw217_0), ((HB.out.cell (World.block_lt_of_cell? w _ hw218_0)).trans hw218_0), ((HB.out.cell (World.block_lt_of_cell? w _ hw219_0)).trans hw219_0), ((HB.out.cell (World.block_lt_of_cell? w _ hw220_0)).trans hw220_0), ((HB.out.cell (World.block_lt_of_cell? w _ hw221_0)).trans hw221_0), ((HB.out.cell (World.block_lt_of_cell? w _ hw222_0)).trans hw222_0)⟩ (fun hHeld => ?_); refine with_tabW impl_ValidPump.tab6 impl_ValidPump.bits6 (fun HT_ HW_ => ?_)
                      generalize wr.drew = w44 at BK203 HB HR218_0 HR221_0 hx206_0 hx208_0 hx217_0 hx218_0 hx219_0 hx220_0 hx221_0 hx222_0 hHeld ⊢
                      refine px 0 (some 29) (tf 1 59) HT_ ?_
                      refine px 1 (some 30) (tf 2 59) HT_ ?_
                      refine px 2 (some 31) (tf 3 59) HT_ ?_
                      refine px 3 (some 32) (tf 4 59) HT_ ?_
                      refine px 4 (some 33) (tf 5 59) HT_ ?_
                      refine px 5 (some 34) (tf 6 59) HT_ ?_
                      refine tx (v := ?_) 6 (some 35) (tf 7 59) HT_ HW_ hHeld ?_ ?_
                      rotate_left; (· rintro w' ⟨s0, s1, s2, s3, s4, s5, s6, s7, s8, s9⟩; go_simp; with_reducible rfl)
                      refine one_ (i := 7) (N := some 36) (tf 8 59) rfl rfl (one_of HT_.out (by kernel_rfl)) (by decide) (fun K hK => ?_)
                      refine goes_ Try.func65 (by kernel_rfl) rfl #[.int .i64 (rd (rd_L1 l0_1 x24_2) 0), .int .i64 0, .int .i64 100000] (by rfl) rfl rfl (by (try simp only [List.map_toArray, List.map_cons, List.map_nil]); first | done | rfl | (simp only [List.length_drop, List.length_take]; rfl)) ?_
                      with_reducible refine (impl_within.calls (rd (rd_L1 l0_1 x24_2) 0) 0 100000 true _ A18.out).mono ?_
                      rintro e w' ⟨rfl, ⟨nd, rfl⟩⟩
                      refine ⟨_, rfl, ?_⟩
                      refine hK.out _ _ ⟨(blk_cell BK203.out 0).trans rfl, (blk_cell BK203.out 1).trans rfl, ((HB.out.cell (World.block_lt_of_cell? w _ hw206_0)).trans hw206_0), ((HB.out.cell (World.block_lt_of_cell? w _ hw208_0)).trans hw208_0), ((HB.out.cell (World.block_lt_of_cell? w _ hw217_0)).trans hw217_0), ((HB.out.cell (World.block_lt_of_cell? w _ hw218_0)).trans hw218_0), ((HB.out.cell (World.block_lt_of_cell? w _ hw219_0)).trans hw219_0), ((HB.out.cell (World.block_lt_of_cell? w _ hw220_0)).trans hw220_0), ((HB.out.cell (World.block_lt_of_cell? w _ hw221_0)).trans hw221_0), ((HB.out.cell (World.block_lt_of_cell? w _ hw222_0)).trans hw222_0)⟩ (fun hHeld => ?_)
                      clear hK K
                      refine norm_ (a' := ?_) ?_ ?_
                      rotate_left
                      ·show Act.put _ (some 36) _ = _
                       simp only [Act.put, List.setIfInBounds_toArray, List.set_cons_zero, List.set_cons_succ, i64_w, i32_w]
                       rfl
                      refine px 8 (some 37) (tf 9 59) HT_ ?_
                      refine px 9 (some 38) (tf 10 59) HT_ ?_
                      refine px 10 (some 39) (tf 11 59) HT_ ?_
                      refine px 11 (some 40) (tf 12 59) HT_ ?_
                      refine px 12 (some 41) (tf 13 59) HT_ ?_
                      refine tx (v := ?_) 13 (some 42) (tf 14 59) HT_ HW_ hHeld ?_ ?_
                      rotate_left; (· rintro w' ⟨s0, s1, s2, s3, s4, s5, s6, s7, s8, s9⟩; go_simp; with_reducible rfl)
                      refine one_ (i := 14) (N := some 43) (tf 15 59) rfl rfl (one_of HT_.out (by kernel_rfl)) (by decide) (fun K hK => ?_)
                      refine goes_ Try.func146 (by kernel_rfl) rfl #[.int .i64 (rd (rd_L1 l0_1 x24_2) 1)] (by rfl) rfl rfl (by (try simp only [List.map_toArray, List.map_cons, List.map_nil]); first | done | rfl | (simp only [List.length_drop, List.length_take]; rfl)) ?_
                      with_reducible refine (impl_headOk.calls (rd (rd_L1 l0_1 x24_2) 1) true _ A21.out).mono ?_
                      rintro e w' ⟨rfl, ⟨nd, rfl⟩⟩
                      refine ⟨_, rfl, ?_⟩
                      refine hK.out _ _ ⟨(blk_cell BK203.out 0).trans rfl, (blk_cell BK203.out 1).trans rfl, ((HB.out.cell (World.block_lt_of_cell? w _ hw206_0)).trans hw206_0), ((HB.out.cell (World.block_lt_of_cell? w _ hw208_0)).trans hw208_0), ((HB.out.cell (World.block_lt_of_cell? w _ hw217_0)).trans hw217_0), ((HB.out.cell (World.block_lt_of_cell? w _ hw218_0)).trans hw218_0), ((HB.out.cell (World.block_lt_of_cell? w _ hw219_0)).trans hw219_0), ((HB.out.cell (World.block_lt_of_cell? w _ hw220_0)).trans hw220_0), ((HB.out.cell (World.block_lt_of_cell? w _ hw221_0)).trans hw221_0), ((HB.out.cell (World.block_lt_of_cell? w _ hw222_0)).trans hw222_0)⟩ (fun hHeld => ?_)
                      clear hK K
                      refine norm_ (a' := ?_) ?_ ?_
                      rotate_left
                      ·show Act.put _ (some 43) _ = _
                       simp only [Act.put, List.setIfInBounds_toArray, List.set_cons_zero, List.set_cons_succ, i64_w, i32_w]
                       rfl
                      refine px 15 (some 44) (tf 16 59) HT_ ?_
                      refine px 16 (some 45) (tf 17 59) HT_ ?_
                      refine px 17 (some 46) (tf 18 59) HT_ ?_
                      refine px 18 (some 47) (tf 19 59) HT_ ?_
                      refine px 19 (some 48) (tf 20 59) HT_ ?_
                      refine px 20 (some 49) (tf 21 59) HT_ ?_
                      refine sx 21 (some 50) (tf 22 59) HT_ ?_
                      refine sx 22 (some 51) (tf 23 59) HT_ ?_
                      refine sx 23 (some 52) (tf 24 59) HT_ ?_
                      refine sx 24 (some 53) (tf 25 59) HT_ ?_
                      refine px 25 (some 54) (tf 26 59) HT_ ?_
                      refine px 26 (some 55) (tf 27 59) HT_ ?_
                      refine px 27 (some 56) (tf 28 59) HT_ ?_
                      refine px 28 (some 57) (tf 29 59) HT_ ?_
                      refine px 29 (some 58) (tf 30 59) HT_ ?_
                      refine px 30 (some 59) (tf 31 59) HT_ ?_
                      refine px 31 (some 60) (tf 32 59) HT_ ?_
                      refine px 32 (some 61) (tf 33 59) HT_ ?_
                      refine px 34 (some 63) (tb 59 25769803775) HT_ ?_
                      refine px 36 (some 65) (tb 59 94489280511) HT_ ?_
                      refine px 37 (some 66) (tb 59 231928233983) HT_ ?_
                      refine tx (v := ?_) 33 (some 62) (tb 59 240518168575) HT_ HW_ hHeld ?_ ?_
                      rotate_left; (· rintro w' ⟨s0, s1, s2, s3, s4, s5, s6, s7, s8, s9⟩; go_simp; with_reducible rfl)
                      refine tx (v := ?_) 35 (some 64) (tf 38 59) HT_ HW_ hHeld ?_ ?_
                      rotate_left; (· rintro w' ⟨s0, s1, s2, s3, s4, s5, s6, s7, s8, s9⟩; go_simp; with_reducible rfl)
                      refine px 38 (some 67) (tf 39 59) HT_ ?_
                      refine tx (v := ?_) 39 (some 68) (tf 40 59) HT_ HW_ hHeld ?_ ?_
                      rotate_left; (· rintro w' ⟨s0, s1, s2, s3, s4, s5, s6, s7, s8, s9⟩; go_simp; with_reducible rfl)
                      refine px 40 (some 69) (tf 41 59) HT_ ?_
                      refine tx (v := ?_) 41 (some 70) (tf 42 59) HT_ HW_ hHeld ?_ ?_
                      rotate_left; (· rintro w' ⟨s0, s1, s2, s3, s4, s5, s6, s7, s8, s9⟩; go_simp; with_reducible rfl)
                      refine px 42 (some 71) (tf 43 59) HT_ ?_
                      refine px 43 (some 72) (tf 44 59) HT_ ?_
                      refine px 44 (some 73) (tf 45 59) HT_ ?_
                      refine px 45 (some 74) (tf 46 59) HT_ ?_
                      refine px 47 (some 76) (tb 59 211106232532991) HT_ ?_
                      refine px 49 (some 78) (tb 59 774056185954303) HT_ ?_
                      refine px 50 (some 79) (tb 59 1899956092796927) HT_ ?_
                      refine tx (v := ?_) 46 (some 75) (tb 59 1970324836974591) HT_ HW_ hHeld ?_ ?_
                      rotate_left; (· rintro w' ⟨s0, s1, s2, s3, s4, s5, s6, s7, s8, s9⟩; go_simp; with_reducible rfl)
                      refine tx (v := ?_) 48 (some 77) (tf 51 59) HT_ HW_ hHeld ?_ ?_
                      rotate_left; (· rintro w' ⟨s0, s1, s2, s3, s4, s5, s6, s7, s8, s9⟩; go_simp; with_reducible rfl)
                      refine px 51 (some 80) (tf 52 59) HT_ ?_
                      refine tx (v := ?_) 52 (some 81) (tf 53 59) HT_ HW_ hHeld ?_ ?_
                      rotate_left; (· rintro w' ⟨s0, s1, s2, s3, s4, s5, s6, s7, s8, s9⟩; go_simp; with_reducible rfl)
                      refine px 53 (some 82) (tf 54 59) HT_ ?_
                      refine tx (v := ?_) 54 (some 83) (tf 55 59) HT_ HW_ hHeld ?_ ?_
                      rotate_left; (· rintro w' ⟨s0, s1, s2, s3, s4, s5, s6, s7, s8, s9⟩; go_simp; with_reducible rfl)
                      refine px 55 (some 84) (tf 56 59) HT_ ?_
                      refine px 56 (some 85) (tf 57 59) HT_ ?_
                      refine px 57 (some 86) (tf 58 59) HT_ ?_
                      refine px 58 (some 87) (tf 59 59) HT_ ?_
                      refine done_ (done_of HT_.out (by kernel_rfl)) ?_
                      try go_wp2
                      go_meet
                      case rel => exact ⟨_, (decide ((rd (rd_L1 l0_1 x24_2) 1) > (rd (rd_L1 l0_1 (ji37)) 1))), (by first | rfl | (simp; done) | (simp only [← hji37] <;> (first | rfl | simp)) | (simp [*]; done)), H', ⟨by have := HJ1.out; have := HK2.out; first | omega | exact Nat.le_refl _⟩, ⟨by (with_reducible repeat (first | refine blk_drewN ?_ _ | refine blk_drew ?_ | refine blk_alloc ?_ _)); exact BK203.out⟩, ⟨by repeat (first | (with_reducible first | exact HB.out | apply below_alloc | apply pw_below_drewN | apply below_drew1 | refine below_set ?_ GE203.out) | exact HB.out)⟩⟩
                     ·rw [if_neg c43] at H
                      exact absurd H (by simp)
                   ·rw [if_neg c40] at H
                    exact absurd H (by simp)
                  ·rw [if_neg c39] at H
                   exact absurd H (by simp)
                 ·rw [if_neg c38] at H
                  exact absurd H (by simp)
                ·rw [if_neg c36] at H
                 have c36b0 : decide (0 < x24_2) = false := decide_eq_false c36
                 clear c36
                 have H' := Aside0.mk H
                 clear H
                 try go_wp2
                 have n0_ := Aside0.mk (blk_drew BK203.out)
                 have n1_ := Aside0.mk (below_drew1 HB.out)
                 clear BK203
                 clear HB
                 have BK203 := n0_
                 have HB := n1_
                 clear n0_ n1_
                 have p206 : 0 ≤ (0 : Int) := (by omega)
                 have q206 : 0 < ((rd_L1 l0_1 x24_2).length : Int) := of_decide_eq_true (by first | (with_reducible assumption) | assumption)
                 obtain ⟨ad206, e206, hx206_0⟩ := Kd.at_int HR205_0.out 0 p206 q206
                 have hw206_0 := hx206_0
                 (try rw [show ((0 : Int)).toNat = 0 from rfl] at hw206_0)
                 (try rw [show 0 * 1 = 0 from rfl] at hw206_0)
                 (try rw [Addr.add_zero'] at hw206_0)
                 cases e206
                 have qi206 : (0 < (rd_L1 l0_1 x24_2).length) = True := eq_true (by omega)
                 (try rw [show ((0 : Int)).toNat = 0 from rfl] at hx206_0)
                 (try rw [Addr.add_zero'] at hx206_0)
                 replace hx206_0 := (HB.out.cell (World.block_lt_of_cell? w _ hx206_0)).trans hx206_0
                 replace p206 := eq_true p206
                 replace q206 := eq_true q206
                 have p208 : 0 ≤ (1 : Int) := (by omega)
                 have q208 : 1 < ((rd_L1 l0_1 x24_2).length : Int) := of_decide_eq_true (by first | (with_reducible assumption) | assumption)
                 obtain ⟨ad208, e208, hx208_0⟩ := Kd.at_int HR205_0.out 1 p208 q208
                 have hw208_0 := hx208_0
                 (try rw [show ((1 : Int)).toNat = 1 from rfl] at hw208_0)
                 (try rw [show 1 * 1 = 1 from rfl] at hw208_0)
                 (try simp only [Nat.reduceMul, Nat.reduceEqDiff, Go.Addr.add, ↓reduceIte] at hw208_0)
                 obtain rfl : ad206 = ad208 := (by injection e208)
                 (try simp only [show (1 : Int).toNat = 1 from rfl, Nat.reduceMul, Nat.reduceEqDiff, Go.Addr.add, ↓reduceIte] at hx208_0)
                 have qi208 : (1 < (rd_L1 l0_1 x24_2).length) = True := eq_true (by omega)
                 (try rw [show ((1 : Int)).toNat = 1 from rfl] at hx208_0)
                 replace hx208_0 := (HB.out.cell (World.block_lt_of_cell? w _ hx208_0)).trans hx208_0
                 replace p208 := eq_true p208
                 replace q208 := eq_true q208
                 refine start_ (n := 59) (S := fun w' => w'.cell? ad206 = some (.int .i64 (rd (rd_L1 l0_1 x24_2) 0)) ∧ w'.cell? ⟨ad206.block, ad206.off + 1, none⟩ = some (.int .i64 (rd (rd_L1 l0_1 x24_2) 1))) (ds := []) (tf 0 59) (by kernel_rfl) rfl rfl ⟨((HB.out.cell (World.block_lt_of_cell? w _ hw206_0)).trans hw206_0), ((HB.out.cell (World.block_lt_of_cell? w _ hw208_0)).trans hw208_0)⟩ (fun hHeld => ?_); refine with_tabW impl_ValidPump.tab6 impl_ValidPump.bits6 (fun HT_ HW_ => ?_)
                 generalize wr.drew = w45 at BK203 HB hx206_0 hx208_0 hHeld ⊢
                 refine px 0 (some 29) (tf 1 59) HT_ ?_
                 refine px 1 (some 30) (tf 2 59) HT_ ?_
                 refine px 2 (some 31) (tf 3 59) HT_ ?_
                 refine px 3 (some 32) (tf 4 59) HT_ ?_
                 refine px 4 (some 33) (tf 5 59) HT_ ?_
                 refine px 5 (some 34) (tf 6 59) HT_ ?_
                 refine tx (v := ?_) 6 (some 35) (tf 7 59) HT_ HW_ hHeld ?_ ?_
                 rotate_left; (· rintro w' ⟨s0, s1⟩; go_simp; with_reducible rfl)
                 refine one_ (i := 7) (N := some 36) (tf 8 59) rfl rfl (one_of HT_.out (by kernel_rfl)) (by decide) (fun K hK => ?_)
                 refine goes_ Try.func65 (by kernel_rfl) rfl #[.int .i64 (rd (rd_L1 l0_1 x24_2) 0), .int .i64 0, .int .i64 100000] (by rfl) rfl rfl (by (try simp only [List.map_toArray, List.map_cons, List.map_nil]); first | done | rfl | (simp only [List.length_drop, List.length_take]; rfl)) ?_
                 with_reducible refine (impl_within.calls (rd (rd_L1 l0_1 x24_2) 0) 0 100000 true _ A18.out).mono ?_
                 rintro e w' ⟨rfl, ⟨nd, rfl⟩⟩
                 refine ⟨_, rfl, ?_⟩
                 refine hK.out _ _ ⟨((HB.out.cell (World.block_lt_of_cell? w _ hw206_0)).trans hw206_0), ((HB.out.cell (World.block_lt_of_cell? w _ hw208_0)).trans hw208_0)⟩ (fun hHeld => ?_)
                 clear hK K
                 refine norm_ (a' := ?_) ?_ ?_
                 rotate_left
                 ·show Act.put _ (some 36) _ = _
                  simp only [Act.put, List.setIfInBounds_toArray, List.set_cons_zero, List.set_cons_succ, i64_w, i32_w]
                  rfl
                 refine px 8 (some 37) (tf 9 59) HT_ ?_
                 refine px 9 (some 38) (tf 10 59) HT_ ?_
                 refine px 10 (some 39) (tf 11 59) HT_ ?_
                 refine px 11 (some 40) (tf 12 59) HT_ ?_
                 refine px 12 (some 41) (tf 13 59) HT_ ?_
                 refine tx (v := ?_) 13 (some 42) (tf 14 59) HT_ HW_ hHeld ?_ ?_
                 rotate_left; (· rintro w' ⟨s0, s1⟩; go_simp; with_reducible rfl)
                 refine one_ (i := 14) (N := some 43) (tf 15 59) rfl rfl (one_of HT_.out (by kernel_rfl)) (by decide) (fun K hK => ?_)
                 refine goes_ Try.func146 (by kernel_rfl) rfl #[.int .i64 (rd (rd_L1 l0_1 x24_2) 1)] (by rfl) rfl rfl (by (try simp only [List.map_toArray, List.map_cons, List.map_nil]); first | done | rfl | (simp only [List.length_drop, List.length_take]; rfl)) ?_
                 with_reducible refine (impl_headOk.calls (rd (rd_L1 l0_1 x24_2) 1) true _ A21.out).mono ?_
                 rintro e w' ⟨rfl, ⟨nd, rfl⟩⟩
                 refine ⟨_, rfl, ?_⟩
                 refine hK.out _ _ ⟨((HB.out.cell (World.block_lt_of_cell? w _ hw206_0)).trans hw206_0), ((HB.out.cell (World.block_lt_of_cell? w _ hw208_0)).trans hw208_0)⟩ (fun hHeld => ?_)
                 clear hK K
                 refine norm_ (a' := ?_) ?_ ?_
                 rotate_left
                 ·show Act.put _ (some 43) _ = _
                  simp only [Act.put, List.setIfInBounds_toArray, List.set_cons_zero, List.set_cons_succ, i64_w, i32_w]
                  rfl
                 refine px 15 (some 44) (tf 16 59) HT_ ?_
                 refine px 16 (some 45) (tf 17 59) HT_ ?_
                 refine px 17 (some 46) (tf 18 59) HT_ ?_
                 refine px 18 (some 47) (tf 19 59) HT_ ?_
                 refine px 19 (some 48) (tf 20 59) HT_ ?_
                 refine px 20 (some 49) (tf 21 59) HT_ ?_
                 refine sx 21 (some 50) (tf 22 59) HT_ ?_
                 refine sx 22 (some 51) (tf 23 59) HT_ ?_
                 refine sx 23 (some 52) (tf 24 59) HT_ ?_
                 refine sx 24 (some 53) (tf 25 59) HT_ ?_
                 refine px 25 (some 54) (tf 26 59) HT_ ?_
                 refine px 26 (some 55) (tf 27 59) HT_ ?_
                 refine px 27 (some 56) (tf 28 59) HT_ ?_
                 refine px 28 (some 57) (tf 29 59) HT_ ?_
                 refine px 29 (some 58) (tf 30 59) HT_ ?_
                 refine px 30 (some 59) (tf 31 59) HT_ ?_
                 refine sx 31 (some 60) (tf 32 59) HT_ ?_
                 refine sx 32 (some 61) (tf 33 59) HT_ ?_
                 refine sx 33 (some 62) (tf 34 59) HT_ ?_
                 refine sx 34 (some 63) (tf 35 59) HT_ ?_
                 refine sx 35 (some 64) (tf 36 59) HT_ ?_
                 refine sx 36 (some 65) (tf 37 59) HT_ ?_
                 refine sx 37 (some 66) (tf 38 59) HT_ ?_
                 refine sx 38 (some 67) (tf 39 59) HT_ ?_
                 refine sx 39 (some 68) (tf 40 59) HT_ ?_
                 refine sx 40 (some 69) (tf 41 59) HT_ ?_
                 refine sx 41 (some 70) (tf 42 59) HT_ ?_
                 refine sx 42 (some 71) (tf 43 59) HT_ ?_
                 refine sx 43 (some 72) (tf 44 59) HT_ ?_
                 refine sx 44 (some 73) (tf 45 59) HT_ ?_
                 refine sx 45 (some 74) (tf 46 59) HT_ ?_
                 refine sx 46 (some 75) (tf 47 59) HT_ ?_
                 refine sx 47 (some 76) (tf 48 59) HT_ ?_
                 refine sx 48 (some 77) (tf 49 59) HT_ ?_
                 refine sx 49 (some 78) (tf 50 59) HT_ ?_
                 refine sx 50 (some 79) (tf 51 59) HT_ ?_
                 refine sx 51 (some 80) (tf 52 59) HT_ ?_
                 refine sx 52 (some 81) (tf 53 59) HT_ ?_
                 refine sx 53 (some 82) (tf 54 59) HT_ ?_
                 refine sx 54 (some 83) (tf 55 59) HT_ ?_
                 refine sx 55 (some 84) (tf 56 59) HT_ ?_
                 refine sx 56 (some 85) (tf 57 59) HT_ ?_
                 refine px 57 (some 86) (tf 58 59) HT_ ?_
                 refine px 58 (some 87) (tf 59 59) HT_ ?_
                 refine done_ (done_of HT_.out (by kernel_rfl)) ?_
                 try go_wp2
                 go_meet
                 case rel => exact ⟨_, (false), (by first | rfl | (simp; done) | (simp [*]; done)), H', ⟨by have := HJ1.out; have := HK2.out; first | omega | exact Nat.le_refl _⟩, ⟨by (with_reducible repeat (first | refine blk_drewN ?_ _ | refine blk_drew ?_ | refine blk_alloc ?_ _)); exact BK203.out⟩, ⟨by repeat (first | (with_reducible first | exact HB.out | apply below_alloc | apply pw_below_drewN | apply below_drew1 | refine below_set ?_ GE203.out) | exact HB.out)⟩⟩
              ·replace c22 := Bool.eq_false_iff.mpr c22
               subst c22
               have H1 : (impl_ValidPump.j2 k2 l0_1 (l0_1.length : Int) x24_2 true a0_0 l0_1) = some r := by rw [if_neg (show ¬ (false = true) by decide)] at H; exact H
               clear H
               have H := H1
               clear H1
               have H' := Aside0.mk H
               clear H
               try go_wp2
               have n0_ := Aside0.mk (blk_drew BK203.out)
               have n1_ := Aside0.mk (below_drew1 HB.out)
               clear BK203
               clear HB
               have BK203 := n0_
               have HB := n1_
               clear n0_ n1_
               have p206 : 0 ≤ (0 : Int) := (by omega)
               have q206 : 0 < ((rd_L1 l0_1 x24_2).length : Int) := of_decide_eq_true (by first | (with_reducible assumption) | assumption)
               obtain ⟨ad206, e206, hx206_0⟩ := Kd.at_int HR205_0.out 0 p206 q206
               have hw206_0 := hx206_0
               (try rw [show ((0 : Int)).toNat = 0 from rfl] at hw206_0)
               (try rw [show 0 * 1 = 0 from rfl] at hw206_0)
               (try rw [Addr.add_zero'] at hw206_0)
               cases e206
               have qi206 : (0 < (rd_L1 l0_1 x24_2).length) = True := eq_true (by omega)
               (try rw [show ((0 : Int)).toNat = 0 from rfl] at hx206_0)
               (try rw [Addr.add_zero'] at hx206_0)
               replace hx206_0 := (HB.out.cell (World.block_lt_of_cell? w _ hx206_0)).trans hx206_0
               replace p206 := eq_true p206
               replace q206 := eq_true q206
               have p208 : 0 ≤ (1 : Int) := (by omega)
               have q208 : 1 < ((rd_L1 l0_1 x24_2).length : Int) := of_decide_eq_true (by first | (with_reducible assumption) | assumption)
               obtain ⟨ad208, e208, hx208_0⟩ := Kd.at_int HR205_0.out 1 p208 q208
               have hw208_0 := hx208_0
               (try rw [show ((1 : Int)).toNat = 1 from rfl] at hw208_0)
               (try rw [show 1 * 1 = 1 from rfl] at hw208_0)
               (try simp only [Nat.reduceMul, Nat.reduceEqDiff, Go.Addr.add, ↓reduceIte] at hw208_0)
               obtain rfl : ad206 = ad208 := (by injection e208)
               (try simp only [show (1 : Int).toNat = 1 from rfl, Nat.reduceMul, Nat.reduceEqDiff, Go.Addr.add, ↓reduceIte] at hx208_0)
               have qi208 : (1 < (rd_L1 l0_1 x24_2).length) = True := eq_true (by omega)
               (try rw [show ((1 : Int)).toNat = 1 from rfl] at hx208_0)
               replace hx208_0 := (HB.out.cell (World.block_lt_of_cell? w _ hx208_0)).trans hx208_0
               replace p208 := eq_true p208
               replace q208 := eq_true q208
               refine start_ (n := 59) (S := fun w' => w'.cell? ad206 = some (.int .i64 (rd (rd_L1 l0_1 x24_2) 0)) ∧ w'.cell? ⟨ad206.block, ad206.off + 1, none⟩ = some (.int .i64 (rd (rd_L1 l0_1 x24_2) 1))) (ds := []) (tf 0 59) (by kernel_rfl) rfl rfl ⟨((HB.out.cell (World.block_lt_of_cell? w _ hw206_0)).trans hw206_0), ((HB.out.cell (World.block_lt_of_cell? w _ hw208_0)).trans hw208_0)⟩ (fun hHeld => ?_); refine with_tabW impl_ValidPump.tab6 impl_ValidPump.bits6 (fun HT_ HW_ => ?_)
               generalize wr.drew = w46 at BK203 HB hx206_0 hx208_0 hHeld ⊢
               refine px 0 (some 29) (tf 1 59) HT_ ?_
               refine px 1 (some 30) (tf 2 59) HT_ ?_
               refine px 2 (some 31) (tf 3 59) HT_ ?_
               refine px 3 (some 32) (tf 4 59) HT_ ?_
               refine px 4 (some 33) (tf 5 59) HT_ ?_
               refine px 5 (some 34) (tf 6 59) HT_ ?_
               refine tx (v := ?_) 6 (some 35) (tf 7 59) HT_ HW_ hHeld ?_ ?_
               rotate_left; (· rintro w' ⟨s0, s1⟩; go_simp; with_reducible rfl)
               refine one_ (i := 7) (N := some 36) (tf 8 59) rfl rfl (one_of HT_.out (by kernel_rfl)) (by decide) (fun K hK => ?_)
               refine goes_ Try.func65 (by kernel_rfl) rfl #[.int .i64 (rd (rd_L1 l0_1 x24_2) 0), .int .i64 0, .int .i64 100000] (by rfl) rfl rfl (by (try simp only [List.map_toArray, List.map_cons, List.map_nil]); first | done | rfl | (simp only [List.length_drop, List.length_take]; rfl)) ?_
               with_reducible refine (impl_within.calls (rd (rd_L1 l0_1 x24_2) 0) 0 100000 true _ A18.out).mono ?_
               rintro e w' ⟨rfl, ⟨nd, rfl⟩⟩
               refine ⟨_, rfl, ?_⟩
               refine hK.out _ _ ⟨((HB.out.cell (World.block_lt_of_cell? w _ hw206_0)).trans hw206_0), ((HB.out.cell (World.block_lt_of_cell? w _ hw208_0)).trans hw208_0)⟩ (fun hHeld => ?_)
               clear hK K
               refine norm_ (a' := ?_) ?_ ?_
               rotate_left
               ·show Act.put _ (some 36) _ = _
                simp only [Act.put, List.setIfInBounds_toArray, List.set_cons_zero, List.set_cons_succ, i64_w, i32_w]
                rfl
               refine px 8 (some 37) (tf 9 59) HT_ ?_
               refine px 9 (some 38) (tf 10 59) HT_ ?_
               refine px 10 (some 39) (tf 11 59) HT_ ?_
               refine px 11 (some 40) (tf 12 59) HT_ ?_
               refine px 12 (some 41) (tf 13 59) HT_ ?_
               refine tx (v := ?_) 13 (some 42) (tf 14 59) HT_ HW_ hHeld ?_ ?_
               rotate_left; (· rintro w' ⟨s0, s1⟩; go_simp; with_reducible rfl)
               refine one_ (i := 14) (N := some 43) (tf 15 59) rfl rfl (one_of HT_.out (by kernel_rfl)) (by decide) (fun K hK => ?_)
               refine goes_ Try.func146 (by kernel_rfl) rfl #[.int .i64 (rd (rd_L1 l0_1 x24_2) 1)] (by rfl) rfl rfl (by (try simp only [List.map_toArray, List.map_cons, List.map_nil]); first | done | rfl | (simp only [List.length_drop, List.length_take]; rfl)) ?_
               with_reducible refine (impl_headOk.calls (rd (rd_L1 l0_1 x24_2) 1) false _ A21.out).mono ?_
               rintro e w' ⟨rfl, ⟨nd, rfl⟩⟩
               refine ⟨_, rfl, ?_⟩
               refine hK.out _ _ ⟨((HB.out.cell (World.block_lt_of_cell? w _ hw206_0)).trans hw206_0), ((HB.out.cell (World.block_lt_of_cell? w _ hw208_0)).trans hw208_0)⟩ (fun hHeld => ?_)
               clear hK K
               refine norm_ (a' := ?_) ?_ ?_
               rotate_left
               ·show Act.put _ (some 43) _ = _
                simp only [Act.put, List.setIfInBounds_toArray, List.set_cons_zero, List.set_cons_succ, i64_w, i32_w]
                rfl
               refine px 15 (some 44) (tf 16 59) HT_ ?_
               refine px 16 (some 45) (tf 17 59) HT_ ?_
               refine px 17 (some 46) (tf 18 59) HT_ ?_
               refine sx 18 (some 47) (tf 19 59) HT_ ?_
               refine sx 19 (some 48) (tf 20 59) HT_ ?_
               refine sx 20 (some 49) (tf 21 59) HT_ ?_
               refine sx 21 (some 50) (tf 22 59) HT_ ?_
               refine sx 22 (some 51) (tf 23 59) HT_ ?_
               refine sx 23 (some 52) (tf 24 59) HT_ ?_
               refine sx 24 (some 53) (tf 25 59) HT_ ?_
               refine sx 25 (some 54) (tf 26 59) HT_ ?_
               refine px 26 (some 55) (tf 27 59) HT_ ?_
               refine px 27 (some 56) (tf 28 59) HT_ ?_
               refine sx 28 (some 57) (tf 29 59) HT_ ?_
               refine sx 29 (some 58) (tf 30 59) HT_ ?_
               refine sx 30 (some 59) (tf 31 59) HT_ ?_
               refine sx 31 (some 60) (tf 32 59) HT_ ?_
               refine sx 32 (some 61) (tf 33 59) HT_ ?_
               refine sx 33 (some 62) (tf 34 59) HT_ ?_
               refine sx 34 (some 63) (tf 35 59) HT_ ?_
               refine sx 35 (some 64) (tf 36 59) HT_ ?_
               refine sx 36 (some 65) (tf 37 59) HT_ ?_
               refine sx 37 (some 66) (tf 38 59) HT_ ?_
               refine sx 38 (some 67) (tf 39 59) HT_ ?_
               refine sx 39 (some 68) (tf 40 59) HT_ ?_
               refine sx 40 (some 69) (tf 41 59) HT_ ?_
               refine sx 41 (some 70) (tf 42 59) HT_ ?_
               refine sx 42 (some 71) (tf 43 59) HT_ ?_
               refine sx 43 (some 72) (tf 44 59) HT_ ?_
               refine sx 44 (some 73) (tf 45 59) HT_ ?_
               refine sx 45 (some 74) (tf 46 59) HT_ ?_
               refine sx 46 (some 75) (tf 47 59) HT_ ?_
               refine sx 47 (some 76) (tf 48 59) HT_ ?_
               refine sx 48 (some 77) (tf 49 59) HT_ ?_
               refine sx 49 (some 78) (tf 50 59) HT_ ?_
               refine sx 50 (some 79) (tf 51 59) HT_ ?_
               refine sx 51 (some 80) (tf 52 59) HT_ ?_
               refine sx 52 (some 81) (tf 53 59) HT_ ?_
               refine sx 53 (some 82) (tf 54 59) HT_ ?_
               refine sx 54 (some 83) (tf 55 59) HT_ ?_
               refine sx 55 (some 84) (tf 56 59) HT_ ?_
               refine sx 56 (some 85) (tf 57 59) HT_ ?_
               refine sx 57 (some 86) (tf 58 59) HT_ ?_
               refine px 58 (some 87) (tf 59 59) HT_ ?_
               refine done_ (done_of HT_.out (by kernel_rfl)) ?_
               try go_wp2
               go_meet
               case rel => exact ⟨_, (true), (by first | rfl | (simp; done) | (simp [*]; done)), H', ⟨by have := HJ1.out; have := HK2.out; first | omega | exact Nat.le_refl _⟩, ⟨by (with_reducible repeat (first | refine blk_drewN ?_ _ | refine blk_drew ?_ | refine blk_alloc ?_ _)); exact BK203.out⟩, ⟨by repeat (first | (with_reducible first | exact HB.out | apply below_alloc | apply pw_below_drewN | apply below_drew1 | refine below_set ?_ GE203.out) | exact HB.out)⟩⟩
             ·rw [if_neg c20] at H
              exact absurd H (by simp)
            ·replace c19 := Bool.eq_false_iff.mpr c19
             subst c19
             have H1 : (impl_ValidPump.j2 k2 l0_1 (l0_1.length : Int) x24_2 true a0_0 l0_1) = some r := by rw [if_neg (show ¬ (false = true) by decide)] at H; exact H
             clear H
             have H := H1
             clear H1
             have H' := Aside0.mk H
             clear H
             try go_wp2
             have n0_ := Aside0.mk (blk_drew BK203.out)
             have n1_ := Aside0.mk (below_drew1 HB.out)
             clear BK203
             clear HB
             have BK203 := n0_
             have HB := n1_
             clear n0_ n1_
             have p206 : 0 ≤ (0 : Int) := (by omega)
             have q206 : 0 < ((rd_L1 l0_1 x24_2).length : Int) := of_decide_eq_true (by first | (with_reducible assumption) | assumption)
             obtain ⟨ad206, e206, hx206_0⟩ := Kd.at_int HR205_0.out 0 p206 q206
             have hw206_0 := hx206_0
             (try rw [show ((0 : Int)).toNat = 0 from rfl] at hw206_0)
             (try rw [show 0 * 1 = 0 from rfl] at hw206_0)
             (try rw [Addr.add_zero'] at hw206_0)
             cases e206
             have qi206 : (0 < (rd_L1 l0_1 x24_2).length) = True := eq_true (by omega)
             (try rw [show ((0 : Int)).toNat = 0 from rfl] at hx206_0)
             (try rw [Addr.add_zero'] at hx206_0)
             replace hx206_0 := (HB.out.cell (World.block_lt_of_cell? w _ hx206_0)).trans hx206_0
             replace p206 := eq_true p206
             replace q206 := eq_true q206
             refine start_ (n := 59) (S := fun w' => w'.cell? ad206 = some (.int .i64 (rd (rd_L1 l0_1 x24_2) 0))) (ds := []) (tf 0 59) (by kernel_rfl) rfl rfl (((HB.out.cell (World.block_lt_of_cell? w _ hw206_0)).trans hw206_0)) (fun hHeld => ?_); refine with_tabW impl_ValidPump.tab6 impl_ValidPump.bits6 (fun HT_ HW_ => ?_)
             generalize wr.drew = w47 at BK203 HB hx206_0 hHeld ⊢
             refine px 0 (some 29) (tf 1 59) HT_ ?_
             refine px 1 (some 30) (tf 2 59) HT_ ?_
             refine px 2 (some 31) (tf 3 59) HT_ ?_
             refine px 3 (some 32) (tf 4 59) HT_ ?_
             refine px 4 (some 33) (tf 5 59) HT_ ?_
             refine px 5 (some 34) (tf 6 59) HT_ ?_
             refine take_ (i := 6) (N := some 35) (v := ?_) (a' := ?_) (tf 7 59) rfl rfl (take_ofW HT_.out HW_.out (by kernel_rfl)) (fun _ _ _ h => h) (Or.inl ⟨by rfl, ?_⟩) hHeld ?_ ?_
             rotate_left
             ·intro w' s0
              go_simp
              with_reducible rfl
             rotate_left; (· simp only [Act.put, List.setIfInBounds_toArray, List.set_cons_zero, List.set_cons_succ, i64_w, i32_w]; rfl)
             refine one_ (i := 7) (N := some 36) (tf 8 59) rfl rfl (one_of HT_.out (by kernel_rfl)) (by decide) (fun K hK => ?_)
             refine goes_ Try.func65 (by kernel_rfl) rfl #[.int .i64 (rd (rd_L1 l0_1 x24_2) 0), .int .i64 0, .int .i64 100000] (by rfl) rfl rfl (by (try simp only [List.map_toArray, List.map_cons, List.map_nil]); first | done | rfl | (simp only [List.length_drop, List.length_take]; rfl)) ?_
             with_reducible refine (impl_within.calls (rd (rd_L1 l0_1 x24_2) 0) 0 100000 false _ A18.out).mono ?_
             rintro e w' ⟨rfl, ⟨nd, rfl⟩⟩
             refine ⟨_, rfl, ?_⟩
             refine hK.out _ _ (((HB.out.cell (World.block_lt_of_cell? w _ hw206_0)).trans hw206_0)) (fun hHeld => ?_)
             clear hK K
             refine norm_ (a' := ?_) ?_ ?_
             rotate_left
             ·show Act.put _ (some 36) _ = _
              simp only [Act.put, List.setIfInBounds_toArray, List.set_cons_zero, List.set_cons_succ, i64_w, i32_w]
              rfl
             refine px 8 (some 37) (tf 9 59) HT_ ?_
             refine px 9 (some 38) (tf 10 59) HT_ ?_
             refine px 10 (some 39) (tf 11 59) HT_ ?_
             refine sx 11 (some 40) (tf 12 59) HT_ ?_
             refine sx 12 (some 41) (tf 13 59) HT_ ?_
             refine sx 13 (some 42) (tf 14 59) HT_ ?_
             refine sx 14 (some 43) (tf 15 59) HT_ ?_
             refine sx 15 (some 44) (tf 16 59) HT_ ?_
             refine px 16 (some 45) (tf 17 59) HT_ ?_
             refine px 17 (some 46) (tf 18 59) HT_ ?_
             refine sx 18 (some 47) (tf 19 59) HT_ ?_
             refine sx 19 (some 48) (tf 20 59) HT_ ?_
             refine sx 20 (some 49) (tf 21 59) HT_ ?_
             refine sx 21 (some 50) (tf 22 59) HT_ ?_
             refine sx 22 (some 51) (tf 23 59) HT_ ?_
             refine sx 23 (some 52) (tf 24 59) HT_ ?_
             refine sx 24 (some 53) (tf 25 59) HT_ ?_
             refine sx 25 (some 54) (tf 26 59) HT_ ?_
             refine px 26 (some 55) (tf 27 59) HT_ ?_
             refine px 27 (some 56) (tf 28 59) HT_ ?_
             refine sx 28 (some 57) (tf 29 59) HT_ ?_
             refine sx 29 (some 58) (tf 30 59) HT_ ?_
             refine sx 30 (some 59) (tf 31 59) HT_ ?_
             refine sx 31 (some 60) (tf 32 59) HT_ ?_
             refine sx 32 (some 61) (tf 33 59) HT_ ?_
             refine sx 33 (some 62) (tf 34 59) HT_ ?_
             refine sx 34 (some 63) (tf 35 59) HT_ ?_
             refine sx 35 (some 64) (tf 36 59) HT_ ?_
             refine sx 36 (some 65) (tf 37 59) HT_ ?_
             refine sx 37 (some 66) (tf 38 59) HT_ ?_
             refine sx 38 (some 67) (tf 39 59) HT_ ?_
             refine sx 39 (some 68) (tf 40 59) HT_ ?_
             refine sx 40 (some 69) (tf 41 59) HT_ ?_
             refine sx 41 (some 70) (tf 42 59) HT_ ?_
             refine sx 42 (some 71) (tf 43 59) HT_ ?_
             refine sx 43 (some 72) (tf 44 59) HT_ ?_
             refine sx 44 (some 73) (tf 45 59) HT_ ?_
             refine sx 45 (some 74) (tf 46 59) HT_ ?_
             refine sx 46 (some 75) (tf 47 59) HT_ ?_
             refine sx 47 (some 76) (tf 48 59) HT_ ?_
             refine sx 48 (some 77) (tf 49 59) HT_ ?_
             refine sx 49 (some 78) (tf 50 59) HT_ ?_
             refine sx 50 (some 79) (tf 51 59) HT_ ?_
             refine sx 51 (some 80) (tf 52 59) HT_ ?_
             refine sx 52 (some 81) (tf 53 59) HT_ ?_
             refine sx 53 (some 82) (tf 54 59) HT_ ?_
             refine sx 54 (some 83) (tf 55 59) HT_ ?_
             refine sx 55 (some 84) (tf 56 59) HT_ ?_
             refine sx 56 (some 85) (tf 57 59) HT_ ?_
             refine sx 57 (some 86) (tf 58 59) HT_ ?_
             refine px 58 (some 87) (tf 59 59) HT_ ?_
             refine done_ (done_of HT_.out (by kernel_rfl)) ?_
             try go_wp2
             go_meet
             case rel => exact ⟨_, (true), (by first | rfl | (simp; done) | (simp [*]; done)), H', ⟨by have := HJ1.out; have := HK2.out; first | omega | exact Nat.le_refl _⟩, ⟨by (with_reducible repeat (first | refine blk_drewN ?_ _ | refine blk_drew ?_ | refine blk_alloc ?_ _)); exact BK203.out⟩, ⟨by repeat (first | (with_reducible first | exact HB.out | apply below_alloc | apply pw_below_drewN | apply below_drew1 | refine below_set ?_ GE203.out) | exact HB.out)⟩⟩
           ·rw [if_neg c17] at H
            exact absurd H (by simp)
          ·rw [if_neg c16] at H
           have c16b0 : (((rd_L1 l0_1 x24_2).length : Int) == 2) = false := beq_eq_false_iff_ne.mpr c16
           have c16b1 : (((rd_L1 l0_1 x24_2).length : Int) != 2) = true := bne_iff_ne.mpr c16
           (first | rw [c16b0] | (simp only [i64_w, i32_w]; rw [c16b0]) | skip)
           have H' := Aside0.mk H
           clear H
           try go_wp2
           have n0_ := Aside0.mk (blk_drew BK203.out)
           have n1_ := Aside0.mk (below_drew1 HB.out)
           clear BK203
           clear HB
           have BK203 := n0_
           have HB := n1_
           clear n0_ n1_
           refine start_ (n := 59) (S := fun w' => True) (ds := []) (tf 0 59) (by kernel_rfl) rfl rfl trivial (fun hHeld => ?_); refine with_tabW impl_ValidPump.tab6 impl_ValidPump.bits6 (fun HT_ HW_ => ?_)
           generalize wr.drew = w48 at BK203 HB hHeld ⊢
           refine px 0 (some 29) (tf 1 59) HT_ ?_
           refine px 1 (some 30) (tf 2 59) HT_ ?_
           refine px 2 (some 31) (tf 3 59) HT_ ?_
           refine px 3 (some 32) (tf 4 59) HT_ ?_
           refine sx 4 (some 33) (tf 5 59) HT_ ?_
           refine sx 5 (some 34) (tf 6 59) HT_ ?_
           refine sx 6 (some 35) (tf 7 59) HT_ ?_
           refine sx 7 (some 36) (tf 8 59) HT_ ?_
           refine sx 8 (some 37) (tf 9 59) HT_ ?_
           refine px 9 (some 38) (tf 10 59) HT_ ?_
           refine px 10 (some 39) (tf 11 59) HT_ ?_
           refine sx 11 (some 40) (tf 12 59) HT_ ?_
           refine sx 12 (some 41) (tf 13 59) HT_ ?_
           refine sx 13 (some 42) (tf 14 59) HT_ ?_
           refine sx 14 (some 43) (tf 15 59) HT_ ?_
           refine sx 15 (some 44) (tf 16 59) HT_ ?_
           refine px 16 (some 45) (tf 17 59) HT_ ?_
           refine px 17 (some 46) (tf 18 59) HT_ ?_
           refine sx 18 (some 47) (tf 19 59) HT_ ?_
           refine sx 19 (some 48) (tf 20 59) HT_ ?_
           refine sx 20 (some 49) (tf 21 59) HT_ ?_
           refine sx 21 (some 50) (tf 22 59) HT_ ?_
           refine sx 22 (some 51) (tf 23 59) HT_ ?_
           refine sx 23 (some 52) (tf 24 59) HT_ ?_
           refine sx 24 (some 53) (tf 25 59) HT_ ?_
           refine sx 25 (some 54) (tf 26 59) HT_ ?_
           refine px 26 (some 55) (tf 27 59) HT_ ?_
           refine px 27 (some 56) (tf 28 59) HT_ ?_
           refine sx 28 (some 57) (tf 29 59) HT_ ?_
           refine sx 29 (some 58) (tf 30 59) HT_ ?_
           refine sx 30 (some 59) (tf 31 59) HT_ ?_
           refine sx 31 (some 60) (tf 32 59) HT_ ?_
           refine sx 32 (some 61) (tf 33 59) HT_ ?_
           refine sx 33 (some 62) (tf 34 59) HT_ ?_
           refine sx 34 (some 63) (tf 35 59) HT_ ?_
           refine sx 35 (some 64) (tf 36 59) HT_ ?_
           refine sx 36 (some 65) (tf 37 59) HT_ ?_
           refine sx 37 (some 66) (tf 38 59) HT_ ?_
           refine sx 38 (some 67) (tf 39 59) HT_ ?_
           refine sx 39 (some 68) (tf 40 59) HT_ ?_
           refine sx 40 (some 69) (tf 41 59) HT_ ?_
           refine sx 41 (some 70) (tf 42 59) HT_ ?_
           refine sx 42 (some 71) (tf 43 59) HT_ ?_
           refine sx 43 (some 72) (tf 44 59) HT_ ?_
           refine sx 44 (some 73) (tf 45 59) HT_ ?_
           refine sx 45 (some 74) (tf 46 59) HT_ ?_
           refine sx 46 (some 75) (tf 47 59) HT_ ?_
           refine sx 47 (some 76) (tf 48 59) HT_ ?_
           refine sx 48 (some 77) (tf 49 59) HT_ ?_
           refine sx 49 (some 78) (tf 50 59) HT_ ?_
           refine sx 50 (some 79) (tf 51 59) HT_ ?_
           refine sx 51 (some 80) (tf 52 59) HT_ ?_
           refine sx 52 (some 81) (tf 53 59) HT_ ?_
           refine sx 53 (some 82) (tf 54 59) HT_ ?_
           refine sx 54 (some 83) (tf 55 59) HT_ ?_
           refine sx 55 (some 84) (tf 56 59) HT_ ?_
           refine sx 56 (some 85) (tf 57 59) HT_ ?_
           refine sx 57 (some 86) (tf 58 59) HT_ ?_
           refine px 58 (some 87) (tf 59 59) HT_ ?_
           refine done_ (done_of HT_.out (by kernel_rfl)) ?_
           try go_wp2
           go_meet
           case rel => exact ⟨_, (true), (by first | rfl | (simp; done) | (simp [*]; done)), H', ⟨by have := HJ1.out; have := HK2.out; first | omega | exact Nat.le_refl _⟩, ⟨by (with_reducible repeat (first | refine blk_drewN ?_ _ | refine blk_drew ?_ | refine blk_alloc ?_ _)); exact BK203.out⟩, ⟨by repeat (first | (with_reducible first | exact HB.out | apply below_alloc | apply pw_below_drewN | apply below_drew1 | refine below_set ?_ GE203.out) | exact HB.out)⟩⟩
         case rest =>
          clear HC15
          try clear c1
          try clear p2
          try clear c6
          try clear c16
          try clear c16b0
          try clear c16b1
          try clear c17
          obtain ⟨kq, x87_14, rfl, HA, HJ14, BK203, HB⟩ := hcut
          cases kq with
          | zero => exact absurd HA.out (by simp [impl_ValidPump.j2])
          | succ kj14 =>
           have H := HA.out
           clear HA
           simp only [impl_ValidPump.j2] at H
           by_cases c49 : x87_14 = true
           ·subst c49
            have H1 : (some false) = some r := by rw [if_pos rfl] at H; exact H
            clear H
            have H := H1
            clear H1
            obtain rfl := Option.some.inj H
            go_wp2
            go_ret
            exact ⟨by first | rfl | (rw [Int.tdiv_eq_ediv_of_nonneg (by omega)]; rfl) | (simp [errW_none, errW_some] <;> rfl) | (simp [*, errW_none, errW_some] <;> rfl), by repeat (first | (with_reducible first | exact HB.out | apply below_alloc | apply pw_below_drewN | apply below_drew1 | refine below_set ?_ GE203.out) | exact HB.out)⟩
           ·replace c49 := Bool.eq_false_iff.mpr c49
            subst c49
            have H1 : (impl_ValidPump.l0 kj14 l0_1 (l0_1.length : Int) (wrap64 (x24_2 + 1)) a0_0 l0_1) = some r := by rw [if_neg (show ¬ (false = true) by decide)] at H; exact H
            clear H
            have H := H1
            clear H1
            have H' := Aside0.mk H
            clear H
            go_wp2
            go_roundg kj14
            case measure => have := HJ1.out; have := HK2.out; have := HJ14.out; omega
            case rel => exact ⟨(wrap64 (x24_2 + 1)), (by first | rfl | (simp; done) | (simp [*]; done)), H', ⟨by have := HJ1.out; have := HK2.out; have := HJ14.out; omega⟩, ⟨by (with_reducible repeat (first | refine blk_drewN ?_ _ | refine blk_drew ?_ | refine blk_alloc ?_ _)); exact BK203.out⟩, ⟨by repeat (first | (with_reducible first | exact HB.out | apply below_alloc | apply pw_below_drewN | apply below_drew1 | refine below_set ?_ GE203.out) | exact HB.out)⟩⟩
        ·rw [if_neg c14] at H
         exact absurd H (by simp)
       ·rw [if_neg c13] at H
        exact absurd H (by simp)
      ·rw [if_neg c12] at H
       have c12b0 : decide (x24_2 < (l0_1.length : Int)) = false := decide_eq_false c12
       clear c12
       obtain rfl := Option.some.inj H
       go_wp2
       go_ret
       exact ⟨by first | rfl | (rw [Int.tdiv_eq_ediv_of_nonneg (by omega)]; rfl) | (simp [errW_none, errW_some] <;> rfl) | (simp [*, errW_none, errW_some] <;> rfl), by repeat (first | (with_reducible first | exact HB.out | apply below_alloc | apply pw_below_drewN | apply below_drew1 | refine below_set ?_ GE203.out) | exact HB.out)⟩

end Go.Proofs.Ytaomflfofihknaa.PFnExactLeastSpeed
