-- written by wip/xprint.py, a program of this session, for this claim; not trusted: Lean checks it.
import Derived.Test.YtdafonbeinildaaPFnExactHeatWithinx0
import Derived.Test.YtdafonbeinildaaPFnExactHeatWithinx2
namespace Go.Proofs.Ytdafonbeinildaa.PFnExactHeatWithin
open Go.RowKit Go.Proofs.YtdafonbeinildaaW.PrintWords Go.Proofs.YtdafonbeinildaaW.PrintLast Go.Proofs.YtdafonbeinildaaW.PrintMore
attribute [local go_sem] max2_int min2_int max_two min_two max_three min_three max_four min_four   -- for this text's walks alone
set_option linter.unusedVariables false
set_option linter.unusedSimpArgs false

/-! ### spec_l21Ok: function 48 -/
mutual
def spec_l21Ok.j0 : Nat → List (S27) → Bool → Option (Bool)
 | 0, _, _ => none
 | k + 1, x0, x35 => if x35 = true then (some false) else (spec_l21Ok.l0 k x0 0)
def spec_l21Ok.l0 : Nat → List (S27) → Int → Option (Bool)
 | 0, _, _ => none
 | k + 1, x0, x3 => if 0 < (x0.length : Int) then (if x3 < (((rd_T27 x0 0).f3).length : Int) then (if 0 ≤ x3 then (if ((rd_L1 ((rd_T27 x0 0).f3) x3).length : Int) = 2 then (if 0 < ((rd_L1 ((rd_T27 x0 0).f3) x3).length : Int) then ((spec_l00In.f (rd (rd_L1 ((rd_T27 x0 0).f3) x3) 0) 0 1000000).bind fun t147 => (if t147 = true then (if 1 < ((rd_L1 ((rd_T27 x0 0).f3) x3).length : Int) then ((spec_l00In.f (rd (rd_L1 ((rd_T27 x0 0).f3) x3) 1) 0 10000).bind fun t149 => (if t149 = true then (if x3 = 0 then (if (rd (rd_L1 ((rd_T27 x0 0).f3) x3) 0) = 0 then (if x3 > 0 then (if 0 ≤ (wrap64 (x3 - 1)) then (if (wrap64 (x3 - 1)) < (((rd_T27 x0 0).f3).length : Int) then (if 0 < ((rd_L1 ((rd_T27 x0 0).f3) (wrap64 (x3 - 1))).length : Int) then (spec_l21Ok.j2 k x0 x3 (decide ((rd (rd_L1 ((rd_T27 x0 0).f3) (wrap64 (x3 - 1))) 0) ≥ (rd (rd_L1 ((rd_T27 x0 0).f3) x3) 0)))) else (none)) else (none)) else (none)) else (spec_l21Ok.j2 k x0 x3 false)) else (spec_l21Ok.j2 k x0 x3 true)) else (if x3 > 0 then (if 0 ≤ (wrap64 (x3 - 1)) then (if (wrap64 (x3 - 1)) < (((rd_T27 x0 0).f3).length : Int) then (if 0 < ((rd_L1 ((rd_T27 x0 0).f3) (wrap64 (x3 - 1))).length : Int) then (spec_l21Ok.j2 k x0 x3 (decide ((rd (rd_L1 ((rd_T27 x0 0).f3) (wrap64 (x3 - 1))) 0) ≥ (rd (rd_L1 ((rd_T27 x0 0).f3) x3) 0)))) else (none)) else (none)) else (none)) else (spec_l21Ok.j2 k x0 x3 false))) else (spec_l21Ok.j2 k x0 x3 true))) else (none)) else (spec_l21Ok.j2 k x0 x3 true))) else (none)) else (spec_l21Ok.j2 k x0 x3 true)) else (none)) else (some true)) else (none)
def spec_l21Ok.j2 : Nat → List (S27) → Int → Bool → Option (Bool)
 | 0, _, _, _ => none
 | k + 1, x0, x3, x98 => if x98 = true then (some false) else (spec_l21Ok.l0 k x0 (wrap64 (x3 + 1)))
end
def spec_l21Ok.f (k : Nat) (l0 : List (S27)) : Option (Bool) := if 0 < (l0.length : Int) then ((spec_l01Name.f k ((rd_T27 l0 0).f0)).bind fun t136 => (if t136 = true then ((spec_l00In.f ((rd_T27 l0 0).f1) 0 1000000).bind fun t138 => (if t138 = true then ((spec_l00In.f ((rd_T27 l0 0).f2) 0 10000).bind fun t140 => (if t140 = true then ((spec_l00In.f (((rd_T27 l0 0).f3).length : Int) 1 6).bind fun t142 => (spec_l21Ok.j0 k l0 (!t142))) else (spec_l21Ok.j0 k l0 true))) else (spec_l21Ok.j0 k l0 true))) else (spec_l21Ok.j0 k l0 true))) else (none)
theorem spec_l21Ok.mono_l : ∀ k, (∀ y0 y1, LeO (spec_l21Ok.j0 k y0 y1) (spec_l21Ok.j0 (k + 1) y0 y1)) ∧ (∀ y0 y1, LeO (spec_l21Ok.l0 k y0 y1) (spec_l21Ok.l0 (k + 1) y0 y1)) ∧ (∀ y0 y1 y2, LeO (spec_l21Ok.j2 k y0 y1 y2) (spec_l21Ok.j2 (k + 1) y0 y1 y2))
 | 0 => ⟨fun _ _ r h => by simp [spec_l21Ok.j0] at h, fun _ _ r h => by simp [spec_l21Ok.l0] at h, fun _ _ _ r h => by simp [spec_l21Ok.j2] at h⟩
 | k + 1 => by
  obtain ⟨ih0, ih1, ih2⟩ := spec_l21Ok.mono_l k
  refine ⟨?_, ?_, ?_⟩
  ·intro y0 y1
   unfold spec_l21Ok.j0
   repeat' first
   | (with_reducible exact ih0 _ _)
   | (with_reducible exact ih1 _ _)
   | (with_reducible exact ih2 _ _ _)
   | (with_reducible exact spec_l01Name.mono _ _)
   | (with_reducible exact LeO.refl _)
   | (with_reducible exact LeO.none _)
   | (with_reducible refine LeO.ite ?_ ?_)
   | (with_reducible refine LeO.bind ?_ (fun _ => ?_))
   | exact ih0 _ _
   | exact ih1 _ _
   | exact ih2 _ _ _
   | exact spec_l01Name.mono _ _
   | exact LeO.none _
   | refine LeO.ite ?_ ?_
   | refine LeO.bind ?_ (fun _ => ?_)
  ·intro y0 y1
   unfold spec_l21Ok.l0
   repeat' first
   | (with_reducible exact ih0 _ _)
   | (with_reducible exact ih1 _ _)
   | (with_reducible exact ih2 _ _ _)
   | (with_reducible exact spec_l01Name.mono _ _)
   | (with_reducible exact LeO.refl _)
   | (with_reducible exact LeO.none _)
   | (with_reducible refine LeO.ite ?_ ?_)
   | (with_reducible refine LeO.bind ?_ (fun _ => ?_))
   | exact ih0 _ _
   | exact ih1 _ _
   | exact ih2 _ _ _
   | exact spec_l01Name.mono _ _
   | exact LeO.none _
   | refine LeO.ite ?_ ?_
   | refine LeO.bind ?_ (fun _ => ?_)
  ·intro y0 y1 y2
   unfold spec_l21Ok.j2
   repeat' first
   | (with_reducible exact ih0 _ _)
   | (with_reducible exact ih1 _ _)
   | (with_reducible exact ih2 _ _ _)
   | (with_reducible exact spec_l01Name.mono _ _)
   | (with_reducible exact LeO.refl _)
   | (with_reducible exact LeO.none _)
   | (with_reducible refine LeO.ite ?_ ?_)
   | (with_reducible refine LeO.bind ?_ (fun _ => ?_))
   | exact ih0 _ _
   | exact ih1 _ _
   | exact ih2 _ _ _
   | exact spec_l01Name.mono _ _
   | exact LeO.none _
   | refine LeO.ite ?_ ?_
   | refine LeO.bind ?_ (fun _ => ?_)
theorem spec_l21Ok.mono : ∀ a0 k, LeO (spec_l21Ok.f k a0) (spec_l21Ok.f (k + 1) a0) := by
 intro a0 k
 obtain ⟨ih0, ih1, ih2⟩ := spec_l21Ok.mono_l k
 unfold spec_l21Ok.f
 repeat' first
   | (with_reducible exact ih0 _ _)
   | (with_reducible exact ih1 _ _)
   | (with_reducible exact ih2 _ _ _)
   | (with_reducible exact spec_l01Name.mono _ _)
   | (with_reducible exact LeO.refl _)
   | (with_reducible exact LeO.none _)
   | (with_reducible refine LeO.ite ?_ ?_)
   | (with_reducible refine LeO.bind ?_ (fun _ => ?_))
   | exact ih0 _ _
   | exact ih1 _ _
   | exact ih2 _ _ _
   | exact spec_l01Name.mono _ _
   | exact LeO.none _
   | refine LeO.ite ?_ ?_
   | refine LeO.bind ?_ (fun _ => ?_)
def spec_l21Ok.T7 : Bool × List (List Nat × List Nat) := (true, [([], []), ([0], [0]), ([1], [1]), ([2], [2]), ([3], [3]), ([4, 3], [3, 4]), ([5, 3], [3, 5]), ([6, 3, 3], [3, 6]), ([7, 3], [3, 7]), ([3, 8], [3, 8]), ([9, 7], [9]), ([10], [10]), ([11, 10], [10, 11]), ([12, 10], [10, 12]), ([13, 10, 10], [10, 13]), ([14, 10], [10, 14]), ([10, 15], [10, 15]), ([16, 14], [16]), ([17], [17]), ([18, 17], [17, 18]), ([19, 17, 17], [17, 19]), ([20], [20]), ([21, 20], [20, 21]), ([22, 20], [20, 22]), ([23, 20], [20, 23]), ([20, 24, 17], [17, 20, 24]), ([17, 25], [17, 25]), ([26, 20], [26]), ([27], [27]), ([28, 27], [27, 28]), ([29, 27, 27], [27, 29]), ([30], [30]), ([31, 30], [30, 31]), ([32, 30], [30, 32]), ([33, 30], [30, 33]), ([30], [30]), ([35, 30], [30, 35]), ([34, 36, 30], [30, 34, 36]), ([37, 30], [30, 37]), ([38, 30], [30, 38]), ([39, 30], [30, 39]), ([30], [30]), ([41, 30], [30, 41]), ([42, 30], [30, 42]), ([40, 43, 30], [30, 40, 43]), ([30, 44, 27], [27, 30, 44]), ([27, 45], [27, 45])])
def spec_l21Ok.B7 : List Nat := [0, 1, 3, 7, 15, 31, 63, 127, 255, 511, 1023, 2047, 4095, 8191, 16383, 32767, 65535, 131071, 262143, 524287, 1048575, 2097151, 4194303, 8388607, 16777215, 33554431, 67108863, 134217727, 268435455, 536870911, 1073741823, 2147483647, 4294967295, 8589934591, 17179869183, 2147483647, 36507222015, 137438953471, 274877906943, 549755813887, 1099511627775, 2147483647, 2201170739199, 6599217250303, 17592186044415, 35184372088831, 70368744177663]
theorem spec_l21Ok.tab7 : rtab .any (opsOf Try.f48 7) = spec_l21Ok.T7 := by kernel_rfl
theorem spec_l21Ok.bits7 : waitsOk spec_l21Ok.T7.2 spec_l21Ok.B7 = true := by kernel_rfl
set_option maxHeartbeats 8000000 in
set_option maxRecDepth 100000 in
theorem spec_l21Ok.calls (k : Nat) (A0 : Option Addr) (c0 : Nat) (l0 : List (S27)) (r : Bool) (w : World) (hr0 : Kd.C k27 w A0 l0.length l0) (hc0 : l0.length ≤ c0) (h : spec_l21Ok.f k l0 = some r) :
  Calls Try.prog 48 #[.pointer A0] w fun e w' => e = .returned (.bool r) ∧ Below w.heap.size w w' := by
 have HR0 := Aside0.mk hr0
 have HC0 := Aside0.mk hc0
 clear hr0 hc0
 have HB := Aside0.mk (Below.refl w.heap.size w)
 have H : (if 0 < (l0.length : Int) then ((spec_l01Name.f k ((rd_T27 l0 0).f0)).bind fun t136 => (if t136 = true then ((spec_l00In.f ((rd_T27 l0 0).f1) 0 1000000).bind fun t138 => (if t138 = true then ((spec_l00In.f ((rd_T27 l0 0).f2) 0 10000).bind fun t140 => (if t140 = true then ((spec_l00In.f (((rd_T27 l0 0).f3).length : Int) 1 6).bind fun t142 => (spec_l21Ok.j0 k l0 (!t142))) else (spec_l21Ok.j0 k l0 true))) else (spec_l21Ok.j0 k l0 true))) else (spec_l21Ok.j0 k l0 true))) else (none)) = some r := h
 clear h
 have HC2 := Aside0.mk H
 clear H
 go_enter Try.func48, Try.ntmps48
 go_upto_region 1 with (fail)
 go_cut [35] (fun v35 wc => ∃ (kq : Nat) (x35_1 : Bool), v35 = .bool x35_1 ∧ Aside0 (spec_l21Ok.j0 kq l0 x35_1 = some r) ∧ Aside0 (kq ≤ k) ∧ Aside0 (Below w.heap.size w wc))
 case first =>
  have H := HC2.out
  clear HC2
  by_cases c3 : 0 < (l0.length : Int)
  ·rw [if_pos c3] at H
   have c3b0 : decide (0 < (l0.length : Int)) = true := decide_eq_true c3
   have c3b1 : decide (0 < l0.length) = true := decide_eq_true (by omega)
   clear c3
   (first | rw [c3b0] | (simp only [i64_w, i32_w]; rw [c3b0]) | skip)
   replace H := Option.bind_eq_some_iff.mp H
   obtain ⟨t136, A40, H⟩ := H
   replace H : (if t136 = true then ((spec_l00In.f ((rd_T27 l0 0).f1) 0 1000000).bind fun t138 => (if t138 = true then ((spec_l00In.f ((rd_T27 l0 0).f2) 0 10000).bind fun t140 => (if t140 = true then ((spec_l00In.f (((rd_T27 l0 0).f3).length : Int) 1 6).bind fun t142 => (spec_l21Ok.j0 k l0 (!t142))) else (spec_l21Ok.j0 k l0 true))) else (spec_l21Ok.j0 k l0 true))) else (spec_l21Ok.j0 k l0 true)) = some r := H
   have A4 := Aside0.mk A40
   clear A40
   by_cases c5 : t136 = true
   ·subst c5
    have H1 : ((spec_l00In.f ((rd_T27 l0 0).f1) 0 1000000).bind fun t138 => (if t138 = true then ((spec_l00In.f ((rd_T27 l0 0).f2) 0 10000).bind fun t140 => (if t140 = true then ((spec_l00In.f (((rd_T27 l0 0).f3).length : Int) 1 6).bind fun t142 => (spec_l21Ok.j0 k l0 (!t142))) else (spec_l21Ok.j0 k l0 true))) else (spec_l21Ok.j0 k l0 true))) = some r := by rw [if_pos rfl] at H; exact H
    clear H
    have H := H1
    clear H1
    replace H := Option.bind_eq_some_iff.mp H
    obtain ⟨t138, A60, H⟩ := H
    replace H : (if t138 = true then ((spec_l00In.f ((rd_T27 l0 0).f2) 0 10000).bind fun t140 => (if t140 = true then ((spec_l00In.f (((rd_T27 l0 0).f3).length : Int) 1 6).bind fun t142 => (spec_l21Ok.j0 k l0 (!t142))) else (spec_l21Ok.j0 k l0 true))) else (spec_l21Ok.j0 k l0 true)) = some r := H
    have A6 := Aside0.mk A60
    clear A60
    by_cases c7 : t138 = true
    ·subst c7
     have H1 : ((spec_l00In.f ((rd_T27 l0 0).f2) 0 10000).bind fun t140 => (if t140 = true then ((spec_l00In.f (((rd_T27 l0 0).f3).length : Int) 1 6).bind fun t142 => (spec_l21Ok.j0 k l0 (!t142))) else (spec_l21Ok.j0 k l0 true))) = some r := by rw [if_pos rfl] at H; exact H
     clear H
     have H := H1
     clear H1
     replace H := Option.bind_eq_some_iff.mp H
     obtain ⟨t140, A80, H⟩ := H
     replace H : (if t140 = true then ((spec_l00In.f (((rd_T27 l0 0).f3).length : Int) 1 6).bind fun t142 => (spec_l21Ok.j0 k l0 (!t142))) else (spec_l21Ok.j0 k l0 true)) = some r := H
     have A8 := Aside0.mk A80
     clear A80
     by_cases c9 : t140 = true
     ·subst c9
      have H1 : ((spec_l00In.f (((rd_T27 l0 0).f3).length : Int) 1 6).bind fun t142 => (spec_l21Ok.j0 k l0 (!t142))) = some r := by rw [if_pos rfl] at H; exact H
      clear H
      have H := H1
      clear H1
      replace H := Option.bind_eq_some_iff.mp H
      obtain ⟨t142, A100, H⟩ := H
      replace H : (spec_l21Ok.j0 k l0 (!t142)) = some r := H
      have A10 := Aside0.mk A100
      clear A100
      have H' := Aside0.mk H
      clear H
      have p135 : 0 ≤ (0 : Int) := (by omega)
      have q135 : 0 < (l0.length : Int) := of_decide_eq_true (by first | (with_reducible assumption) | assumption)
      obtain ⟨ad135, A135_3, c135_3, e135, hx135_0, hx135_1, hx135_2, hx135_3, hl135_3, hi135_3⟩ := at_T27 HR0.out 0 p135 q135
      cases e135
      have qi135 : (0 < l0.length) = True := eq_true (by omega)
      (try rw [show ((0 : Int)).toNat = 0 from rfl] at hx135_0)
      (try rw [show 0 * 4 = 0 from rfl] at hx135_0)
      (try rw [Addr.add_zero'] at hx135_0)
      (try rw [show ((0 : Int)).toNat = 0 from rfl] at hx135_1)
      (try rw [show 0 * 4 = 0 from rfl] at hx135_1)
      (try rw [Addr.add_zero'] at hx135_1)
      (try rw [show ((0 : Int)).toNat = 0 from rfl] at hx135_2)
      (try rw [show 0 * 4 = 0 from rfl] at hx135_2)
      (try rw [Addr.add_zero'] at hx135_2)
      (try rw [show ((0 : Int)).toNat = 0 from rfl] at hx135_3)
      (try rw [show 0 * 4 = 0 from rfl] at hx135_3)
      (try rw [Addr.add_zero'] at hx135_3)
      replace hx135_0 := (HB.out.cell (World.block_lt_of_cell? w _ hx135_0)).trans hx135_0
      replace hx135_1 := (HB.out.cell (World.block_lt_of_cell? w _ hx135_1)).trans hx135_1
      replace hx135_2 := (HB.out.cell (World.block_lt_of_cell? w _ hx135_2)).trans hx135_2
      replace hx135_3 := (HB.out.cell (World.block_lt_of_cell? w _ hx135_3)).trans hx135_3
      have HR135_3 := Aside0.mk hi135_3
      have HC135_3 := Aside0.mk hl135_3
      clear hi135_3 hl135_3
      replace p135 := eq_true p135
      replace q135 := eq_true q135
      go_wp2_with (first | ((with_reducible refine gate_callee (f := 77) rfl ?_); refine goesL_ (some 9) rfl rfl Try.func77 (by kernel_rfl) rfl #[.string ((rd_T27 l0 0).f0)] rfl (by (try simp only [List.map_toArray, List.map_cons, List.map_nil]); first | done | rfl | (simp only [List.length_drop, List.length_take]; rfl)) ?_; (with_reducible refine (spec_l01Name.calls k ((rd_T27 l0 0).f0) true _ A4.out).mono ?_); rintro e w' ⟨rfl, ⟨nd, rfl⟩⟩; refine ⟨_, rfl, ?_⟩; have p137 : 0 ≤ (0 : Int) := (by omega); have q137 : 0 < (l0.length : Int) := of_decide_eq_true (by first | (with_reducible assumption) | assumption); obtain ⟨ad137, A137_3, c137_3, e137, hx137_0, hx137_1, hx137_2, hx137_3, hl137_3, hi137_3⟩ := at_T27 HR0.out 0 p137 q137; obtain rfl : ad135 = ad137 := (by injection e137); have qi137 : (0 < l0.length) = True := eq_true (by omega); (try rw [show ((0 : Int)).toNat = 0 from rfl] at hx137_0); (try rw [show 0 * 4 = 0 from rfl] at hx137_0); (try rw [Addr.add_zero'] at hx137_0); (try rw [show ((0 : Int)).toNat = 0 from rfl] at hx137_1); (try rw [show 0 * 4 = 0 from rfl] at hx137_1); (try rw [Addr.add_zero'] at hx137_1); (try rw [show ((0 : Int)).toNat = 0 from rfl] at hx137_2); (try rw [show 0 * 4 = 0 from rfl] at hx137_2); (try rw [Addr.add_zero'] at hx137_2); (try rw [show ((0 : Int)).toNat = 0 from rfl] at hx137_3); (try rw [show 0 * 4 = 0 from rfl] at hx137_3); (try rw [Addr.add_zero'] at hx137_3); replace hx137_0 := (HB.out.cell (World.block_lt_of_cell? w _ hx137_0)).trans hx137_0; replace hx137_1 := (HB.out.cell (World.block_lt_of_cell? w _ hx137_1)).trans hx137_1; replace hx137_2 := (HB.out.cell (World.block_lt_of_cell? w _ hx137_2)).trans hx137_2; replace hx137_3 := (HB.out.cell (World.block_lt_of_cell? w _ hx137_3)).trans hx137_3; have HR137_3 := Aside0.mk hi137_3; have HC137_3 := Aside0.mk hl137_3; clear hi137_3 hl137_3; replace p137 := eq_true p137; replace q137 := eq_true q137; have ea_ := Option.some.inj (hx135_3.symm.trans hx137_3); injection ea_ with ea_ en_ ec_; subst ea_; subst ec_; clear en_) | (go_at_call 60; (with_reducible refine (spec_l00In.calls ((rd_T27 l0 0).f1) 0 1000000 true _ A6.out).mono ?_); rintro e w' ⟨rfl, ⟨nd, rfl⟩⟩; have p139 : 0 ≤ (0 : Int) := (by omega); have q139 : 0 < (l0.length : Int) := of_decide_eq_true (by first | (with_reducible assumption) | assumption); obtain ⟨ad139, A139_3, c139_3, e139, hx139_0, hx139_1, hx139_2, hx139_3, hl139_3, hi139_3⟩ := at_T27 HR0.out 0 p139 q139; obtain rfl : ad135 = ad139 := (by injection e139); have qi139 : (0 < l0.length) = True := eq_true (by omega); (try rw [show ((0 : Int)).toNat = 0 from rfl] at hx139_0); (try rw [show 0 * 4 = 0 from rfl] at hx139_0); (try rw [Addr.add_zero'] at hx139_0); (try rw [show ((0 : Int)).toNat = 0 from rfl] at hx139_1); (try rw [show 0 * 4 = 0 from rfl] at hx139_1); (try rw [Addr.add_zero'] at hx139_1); (try rw [show ((0 : Int)).toNat = 0 from rfl] at hx139_2); (try rw [show 0 * 4 = 0 from rfl] at hx139_2); (try rw [Addr.add_zero'] at hx139_2); (try rw [show ((0 : Int)).toNat = 0 from rfl] at hx139_3); (try rw [show 0 * 4 = 0 from rfl] at hx139_3); (try rw [Addr.add_zero'] at hx139_3); replace hx139_0 := (HB.out.cell (World.block_lt_of_cell? w _ hx139_0)).trans hx139_0; replace hx139_1 := (HB.out.cell (World.block_lt_of_cell? w _ hx139_1)).trans hx139_1; replace hx139_2 := (HB.out.cell (World.block_lt_of_cell? w _ hx139_2)).trans hx139_2; replace hx139_3 := (HB.out.cell (World.block_lt_of_cell? w _ hx139_3)).trans hx139_3; have HR139_3 := Aside0.mk hi139_3; have HC139_3 := Aside0.mk hl139_3; clear hi139_3 hl139_3; replace p139 := eq_true p139; replace q139 := eq_true q139; have ea_ := Option.some.inj (hx135_3.symm.trans hx139_3); injection ea_ with ea_ en_ ec_; subst ea_; subst ec_; clear en_) | (go_at_call 60; (with_reducible refine (spec_l00In.calls ((rd_T27 l0 0).f2) 0 10000 true _ A8.out).mono ?_); rintro e w' ⟨rfl, ⟨nd, rfl⟩⟩; have p141 : 0 ≤ (0 : Int) := (by omega); have q141 : 0 < (l0.length : Int) := of_decide_eq_true (by first | (with_reducible assumption) | assumption); obtain ⟨ad141, A141_3, c141_3, e141, hx141_0, hx141_1, hx141_2, hx141_3, hl141_3, hi141_3⟩ := at_T27 HR0.out 0 p141 q141; obtain rfl : ad135 = ad141 := (by injection e141); have qi141 : (0 < l0.length) = True := eq_true (by omega); (try rw [show ((0 : Int)).toNat = 0 from rfl] at hx141_0); (try rw [show 0 * 4 = 0 from rfl] at hx141_0); (try rw [Addr.add_zero'] at hx141_0); (try rw [show ((0 : Int)).toNat = 0 from rfl] at hx141_1); (try rw [show 0 * 4 = 0 from rfl] at hx141_1); (try rw [Addr.add_zero'] at hx141_1); (try rw [show ((0 : Int)).toNat = 0 from rfl] at hx141_2); (try rw [show 0 * 4 = 0 from rfl] at hx141_2); (try rw [Addr.add_zero'] at hx141_2); (try rw [show ((0 : Int)).toNat = 0 from rfl] at hx141_3); (try rw [show 0 * 4 = 0 from rfl] at hx141_3); (try rw [Addr.add_zero'] at hx141_3); replace hx141_0 := (HB.out.cell (World.block_lt_of_cell? w _ hx141_0)).trans hx141_0; replace hx141_1 := (HB.out.cell (World.block_lt_of_cell? w _ hx141_1)).trans hx141_1; replace hx141_2 := (HB.out.cell (World.block_lt_of_cell? w _ hx141_2)).trans hx141_2; replace hx141_3 := (HB.out.cell (World.block_lt_of_cell? w _ hx141_3)).trans hx141_3; have HR141_3 := Aside0.mk hi141_3; have HC141_3 := Aside0.mk hl141_3; clear hi141_3 hl141_3; replace p141 := eq_true p141; replace q141 := eq_true q141; have ea_ := Option.some.inj (hx135_3.symm.trans hx141_3); injection ea_ with ea_ en_ ec_; subst ea_; subst ec_; clear en_) | (go_at_call 60; (with_reducible refine (spec_l00In.calls (((rd_T27 l0 0).f3).length : Int) 1 6 t142 _ A10.out).mono ?_); rintro e w' ⟨rfl, ⟨nd, rfl⟩⟩))
      go_meet
      case rel => exact ⟨_, (!t142), (by first | rfl | (simp; done) | (simp [*]; done)), H', ⟨by first | omega | exact Nat.le_refl _⟩, ⟨by repeat (first | (with_reducible first | exact HB.out | apply below_alloc | apply pw_below_drewN | apply below_drew1) | exact HB.out)⟩⟩
     ·replace c9 := Bool.eq_false_iff.mpr c9
      subst c9
      have H1 : (spec_l21Ok.j0 k l0 true) = some r := by rw [if_neg (show ¬ (false = true) by decide)] at H; exact H
      clear H
      have H := H1
      clear H1
      have H' := Aside0.mk H
      clear H
      have p135 : 0 ≤ (0 : Int) := (by omega)
      have q135 : 0 < (l0.length : Int) := of_decide_eq_true (by first | (with_reducible assumption) | assumption)
      obtain ⟨ad135, A135_3, c135_3, e135, hx135_0, hx135_1, hx135_2, hx135_3, hl135_3, hi135_3⟩ := at_T27 HR0.out 0 p135 q135
      cases e135
      have qi135 : (0 < l0.length) = True := eq_true (by omega)
      (try rw [show ((0 : Int)).toNat = 0 from rfl] at hx135_0)
      (try rw [show 0 * 4 = 0 from rfl] at hx135_0)
      (try rw [Addr.add_zero'] at hx135_0)
      (try rw [show ((0 : Int)).toNat = 0 from rfl] at hx135_1)
      (try rw [show 0 * 4 = 0 from rfl] at hx135_1)
      (try rw [Addr.add_zero'] at hx135_1)
      (try rw [show ((0 : Int)).toNat = 0 from rfl] at hx135_2)
      (try rw [show 0 * 4 = 0 from rfl] at hx135_2)
      (try rw [Addr.add_zero'] at hx135_2)
      (try rw [show ((0 : Int)).toNat = 0 from rfl] at hx135_3)
      (try rw [show 0 * 4 = 0 from rfl] at hx135_3)
      (try rw [Addr.add_zero'] at hx135_3)
      replace hx135_0 := (HB.out.cell (World.block_lt_of_cell? w _ hx135_0)).trans hx135_0
      replace hx135_1 := (HB.out.cell (World.block_lt_of_cell? w _ hx135_1)).trans hx135_1
      replace hx135_2 := (HB.out.cell (World.block_lt_of_cell? w _ hx135_2)).trans hx135_2
      replace hx135_3 := (HB.out.cell (World.block_lt_of_cell? w _ hx135_3)).trans hx135_3
      have HR135_3 := Aside0.mk hi135_3
      have HC135_3 := Aside0.mk hl135_3
      clear hi135_3 hl135_3
      replace p135 := eq_true p135
      replace q135 := eq_true q135
      go_wp2_with (first | ((with_reducible refine gate_callee (f := 77) rfl ?_); refine goesL_ (some 9) rfl rfl Try.func77 (by kernel_rfl) rfl #[.string ((rd_T27 l0 0).f0)] rfl (by (try simp only [List.map_toArray, List.map_cons, List.map_nil]); first | done | rfl | (simp only [List.length_drop, List.length_take]; rfl)) ?_; (with_reducible refine (spec_l01Name.calls k ((rd_T27 l0 0).f0) true _ A4.out).mono ?_); rintro e w' ⟨rfl, ⟨nd, rfl⟩⟩; refine ⟨_, rfl, ?_⟩; have p137 : 0 ≤ (0 : Int) := (by omega); have q137 : 0 < (l0.length : Int) := of_decide_eq_true (by first | (with_reducible assumption) | assumption); obtain ⟨ad137, A137_3, c137_3, e137, hx137_0, hx137_1, hx137_2, hx137_3, hl137_3, hi137_3⟩ := at_T27 HR0.out 0 p137 q137; obtain rfl : ad135 = ad137 := (by injection e137); have qi137 : (0 < l0.length) = True := eq_true (by omega); (try rw [show ((0 : Int)).toNat = 0 from rfl] at hx137_0); (try rw [show 0 * 4 = 0 from rfl] at hx137_0); (try rw [Addr.add_zero'] at hx137_0); (try rw [show ((0 : Int)).toNat = 0 from rfl] at hx137_1); (try rw [show 0 * 4 = 0 from rfl] at hx137_1); (try rw [Addr.add_zero'] at hx137_1); (try rw [show ((0 : Int)).toNat = 0 from rfl] at hx137_2); (try rw [show 0 * 4 = 0 from rfl] at hx137_2); (try rw [Addr.add_zero'] at hx137_2); (try rw [show ((0 : Int)).toNat = 0 from rfl] at hx137_3); (try rw [show 0 * 4 = 0 from rfl] at hx137_3); (try rw [Addr.add_zero'] at hx137_3); replace hx137_0 := (HB.out.cell (World.block_lt_of_cell? w _ hx137_0)).trans hx137_0; replace hx137_1 := (HB.out.cell (World.block_lt_of_cell? w _ hx137_1)).trans hx137_1; replace hx137_2 := (HB.out.cell (World.block_lt_of_cell? w _ hx137_2)).trans hx137_2; replace hx137_3 := (HB.out.cell (World.block_lt_of_cell? w _ hx137_3)).trans hx137_3; have HR137_3 := Aside0.mk hi137_3; have HC137_3 := Aside0.mk hl137_3; clear hi137_3 hl137_3; replace p137 := eq_true p137; replace q137 := eq_true q137; have ea_ := Option.some.inj (hx135_3.symm.trans hx137_3); injection ea_ with ea_ en_ ec_; subst ea_; subst ec_; clear en_) | (go_at_call 60; (with_reducible refine (spec_l00In.calls ((rd_T27 l0 0).f1) 0 1000000 true _ A6.out).mono ?_); rintro e w' ⟨rfl, ⟨nd, rfl⟩⟩; have p139 : 0 ≤ (0 : Int) := (by omega); have q139 : 0 < (l0.length : Int) := of_decide_eq_true (by first | (with_reducible assumption) | assumption); obtain ⟨ad139, A139_3, c139_3, e139, hx139_0, hx139_1, hx139_2, hx139_3, hl139_3, hi139_3⟩ := at_T27 HR0.out 0 p139 q139; obtain rfl : ad135 = ad139 := (by injection e139); have qi139 : (0 < l0.length) = True := eq_true (by omega); (try rw [show ((0 : Int)).toNat = 0 from rfl] at hx139_0); (try rw [show 0 * 4 = 0 from rfl] at hx139_0); (try rw [Addr.add_zero'] at hx139_0); (try rw [show ((0 : Int)).toNat = 0 from rfl] at hx139_1); (try rw [show 0 * 4 = 0 from rfl] at hx139_1); (try rw [Addr.add_zero'] at hx139_1); (try rw [show ((0 : Int)).toNat = 0 from rfl] at hx139_2); (try rw [show 0 * 4 = 0 from rfl] at hx139_2); (try rw [Addr.add_zero'] at hx139_2); (try rw [show ((0 : Int)).toNat = 0 from rfl] at hx139_3); (try rw [show 0 * 4 = 0 from rfl] at hx139_3); (try rw [Addr.add_zero'] at hx139_3); replace hx139_0 := (HB.out.cell (World.block_lt_of_cell? w _ hx139_0)).trans hx139_0; replace hx139_1 := (HB.out.cell (World.block_lt_of_cell? w _ hx139_1)).trans hx139_1; replace hx139_2 := (HB.out.cell (World.block_lt_of_cell? w _ hx139_2)).trans hx139_2; replace hx139_3 := (HB.out.cell (World.block_lt_of_cell? w _ hx139_3)).trans hx139_3; have HR139_3 := Aside0.mk hi139_3; have HC139_3 := Aside0.mk hl139_3; clear hi139_3 hl139_3; replace p139 := eq_true p139; replace q139 := eq_true q139; have ea_ := Option.some.inj (hx135_3.symm.trans hx139_3); injection ea_ with ea_ en_ ec_; subst ea_; subst ec_; clear en_) | (go_at_call 60; (with_reducible refine (spec_l00In.calls ((rd_T27 l0 0).f2) 0 10000 false _ A8.out).mono ?_); rintro e w' ⟨rfl, ⟨nd, rfl⟩⟩))
      go_meet
      case rel => exact ⟨_, (true), (by first | rfl | (simp; done) | (simp [*]; done)), H', ⟨by first | omega | exact Nat.le_refl _⟩, ⟨by repeat (first | (with_reducible first | exact HB.out | apply below_alloc | apply pw_below_drewN | apply below_drew1) | exact HB.out)⟩⟩
    ·replace c7 := Bool.eq_false_iff.mpr c7
     subst c7
     have H1 : (spec_l21Ok.j0 k l0 true) = some r := by rw [if_neg (show ¬ (false = true) by decide)] at H; exact H
     clear H
     have H := H1
     clear H1
     have H' := Aside0.mk H
     clear H
     have p135 : 0 ≤ (0 : Int) := (by omega)
     have q135 : 0 < (l0.length : Int) := of_decide_eq_true (by first | (with_reducible assumption) | assumption)
     obtain ⟨ad135, A135_3, c135_3, e135, hx135_0, hx135_1, hx135_2, hx135_3, hl135_3, hi135_3⟩ := at_T27 HR0.out 0 p135 q135
     cases e135
     have qi135 : (0 < l0.length) = True := eq_true (by omega)
     (try rw [show ((0 : Int)).toNat = 0 from rfl] at hx135_0)
     (try rw [show 0 * 4 = 0 from rfl] at hx135_0)
     (try rw [Addr.add_zero'] at hx135_0)
     (try rw [show ((0 : Int)).toNat = 0 from rfl] at hx135_1)
     (try rw [show 0 * 4 = 0 from rfl] at hx135_1)
     (try rw [Addr.add_zero'] at hx135_1)
     (try rw [show ((0 : Int)).toNat = 0 from rfl] at hx135_2)
     (try rw [show 0 * 4 = 0 from rfl] at hx135_2)
     (try rw [Addr.add_zero'] at hx135_2)
     (try rw [show ((0 : Int)).toNat = 0 from rfl] at hx135_3)
     (try rw [show 0 * 4 = 0 from rfl] at hx135_3)
     (try rw [Addr.add_zero'] at hx135_3)
     replace hx135_0 := (HB.out.cell (World.block_lt_of_cell? w _ hx135_0)).trans hx135_0
     replace hx135_1 := (HB.out.cell (World.block_lt_of_cell? w _ hx135_1)).trans hx135_1
     replace hx135_2 := (HB.out.cell (World.block_lt_of_cell? w _ hx135_2)).trans hx135_2
     replace hx135_3 := (HB.out.cell (World.block_lt_of_cell? w _ hx135_3)).trans hx135_3
     have HR135_3 := Aside0.mk hi135_3
     have HC135_3 := Aside0.mk hl135_3
     clear hi135_3 hl135_3
     replace p135 := eq_true p135
     replace q135 := eq_true q135
     go_wp2_with (first | ((with_reducible refine gate_callee (f := 77) rfl ?_); refine goesL_ (some 9) rfl rfl Try.func77 (by kernel_rfl) rfl #[.string ((rd_T27 l0 0).f0)] rfl (by (try simp only [List.map_toArray, List.map_cons, List.map_nil]); first | done | rfl | (simp only [List.length_drop, List.length_take]; rfl)) ?_; (with_reducible refine (spec_l01Name.calls k ((rd_T27 l0 0).f0) true _ A4.out).mono ?_); rintro e w' ⟨rfl, ⟨nd, rfl⟩⟩; refine ⟨_, rfl, ?_⟩; have p137 : 0 ≤ (0 : Int) := (by omega); have q137 : 0 < (l0.length : Int) := of_decide_eq_true (by first | (with_reducible assumption) | assumption); obtain ⟨ad137, A137_3, c137_3, e137, hx137_0, hx137_1, hx137_2, hx137_3, hl137_3, hi137_3⟩ := at_T27 HR0.out 0 p137 q137; obtain rfl : ad135 = ad137 := (by injection e137); have qi137 : (0 < l0.length) = True := eq_true (by omega); (try rw [show ((0 : Int)).toNat = 0 from rfl] at hx137_0); (try rw [show 0 * 4 = 0 from rfl] at hx137_0); (try rw [Addr.add_zero'] at hx137_0); (try rw [show ((0 : Int)).toNat = 0 from rfl] at hx137_1); (try rw [show 0 * 4 = 0 from rfl] at hx137_1); (try rw [Addr.add_zero'] at hx137_1); (try rw [show ((0 : Int)).toNat = 0 from rfl] at hx137_2); (try rw [show 0 * 4 = 0 from rfl] at hx137_2); (try rw [Addr.add_zero'] at hx137_2); (try rw [show ((0 : Int)).toNat = 0 from rfl] at hx137_3); (try rw [show 0 * 4 = 0 from rfl] at hx137_3); (try rw [Addr.add_zero'] at hx137_3); replace hx137_0 := (HB.out.cell (World.block_lt_of_cell? w _ hx137_0)).trans hx137_0; replace hx137_1 := (HB.out.cell (World.block_lt_of_cell? w _ hx137_1)).trans hx137_1; replace hx137_2 := (HB.out.cell (World.block_lt_of_cell? w _ hx137_2)).trans hx137_2; replace hx137_3 := (HB.out.cell (World.block_lt_of_cell? w _ hx137_3)).trans hx137_3; have HR137_3 := Aside0.mk hi137_3; have HC137_3 := Aside0.mk hl137_3; clear hi137_3 hl137_3; replace p137 := eq_true p137; replace q137 := eq_true q137; have ea_ := Option.some.inj (hx135_3.symm.trans hx137_3); injection ea_ with ea_ en_ ec_; subst ea_; subst ec_; clear en_) | (go_at_call 60; (with_reducible refine (spec_l00In.calls ((rd_T27 l0 0).f1) 0 1000000 false _ A6.out).mono ?_); rintro e w' ⟨rfl, ⟨nd, rfl⟩⟩))
     go_meet
     case rel => exact ⟨_, (true), (by first | rfl | (simp; done) | (simp [*]; done)), H', ⟨by first | omega | exact Nat.le_refl _⟩, ⟨by repeat (first | (with_reducible first | exact HB.out | apply below_alloc | apply pw_below_drewN | apply below_drew1) | exact HB.out)⟩⟩
   ·replace c5 := Bool.eq_false_iff.mpr c5
    subst c5
    have H1 : (spec_l21Ok.j0 k l0 true) = some r := by rw [if_neg (show ¬ (false = true) by decide)] at H; exact H
    clear H
    have H := H1
    clear H1
    have H' := Aside0.mk H
    clear H
    have p135 : 0 ≤ (0 : Int) := (by omega)
    have q135 : 0 < (l0.length : Int) := of_decide_eq_true (by first | (with_reducible assumption) | assumption)
    obtain ⟨ad135, A135_3, c135_3, e135, hx135_0, hx135_1, hx135_2, hx135_3, hl135_3, hi135_3⟩ := at_T27 HR0.out 0 p135 q135
    cases e135
    have qi135 : (0 < l0.length) = True := eq_true (by omega)
    (try rw [show ((0 : Int)).toNat = 0 from rfl] at hx135_0)
    (try rw [show 0 * 4 = 0 from rfl] at hx135_0)
    (try rw [Addr.add_zero'] at hx135_0)
    (try rw [show ((0 : Int)).toNat = 0 from rfl] at hx135_1)
    (try rw [show 0 * 4 = 0 from rfl] at hx135_1)
    (try rw [Addr.add_zero'] at hx135_1)
    (try rw [show ((0 : Int)).toNat = 0 from rfl] at hx135_2)
    (try rw [show 0 * 4 = 0 from rfl] at hx135_2)
    (try rw [Addr.add_zero'] at hx135_2)
    (try rw [show ((0 : Int)).toNat = 0 from rfl] at hx135_3)
    (try rw [show 0 * 4 = 0 from rfl] at hx135_3)
    (try rw [Addr.add_zero'] at hx135_3)
    replace hx135_0 := (HB.out.cell (World.block_lt_of_cell? w _ hx135_0)).trans hx135_0
    replace hx135_1 := (HB.out.cell (World.block_lt_of_cell? w _ hx135_1)).trans hx135_1
    replace hx135_2 := (HB.out.cell (World.block_lt_of_cell? w _ hx135_2)).trans hx135_2
    replace hx135_3 := (HB.out.cell (World.block_lt_of_cell? w _ hx135_3)).trans hx135_3
    have HR135_3 := Aside0.mk hi135_3
    have HC135_3 := Aside0.mk hl135_3
    clear hi135_3 hl135_3
    replace p135 := eq_true p135
    replace q135 := eq_true q135
    go_wp2_with (first | ((with_reducible refine gate_callee (f := 77) rfl ?_); refine goesL_ (some 9) rfl rfl Try.func77 (by kernel_rfl) rfl #[.string ((rd_T27 l0 0).f0)] rfl (by (try simp only [List.map_toArray, List.map_cons, List.map_nil]); first | done | rfl | (simp only [List.length_drop, List.length_take]; rfl)) ?_; (with_reducible refine (spec_l01Name.calls k ((rd_T27 l0 0).f0) false _ A4.out).mono ?_); rintro e w' ⟨rfl, ⟨nd, rfl⟩⟩; refine ⟨_, rfl, ?_⟩))
    go_meet
    case rel => exact ⟨_, (true), (by first | rfl | (simp; done) | (simp [*]; done)), H', ⟨by first | omega | exact Nat.le_refl _⟩, ⟨by repeat (first | (with_reducible first | exact HB.out | apply below_alloc | apply pw_below_drewN | apply below_drew1) | exact HB.out)⟩⟩
  ·rw [if_neg c3] at H
   exact absurd H (by simp)
 case rest =>
  clear HC2
  try clear c1
  try clear p1
  try clear q1
  try clear hx1
  try clear qi1
  try clear p2
  try clear c3
  try clear c3b0
  try clear c3b1
  try clear c4
  try clear c5
  try clear c7
  try clear c9
  try clear hx135_0
  try clear hx135_1
  try clear hx135_2
  try clear hx135_3
  try clear hx137_0
  try clear hx137_1
  try clear hx137_2
  try clear hx137_3
  try clear hx139_0
  try clear hx139_1
  try clear hx139_2
  try clear hx139_3
  try clear hx141_0
  try clear hx141_1
  try clear hx141_2
  try clear hx141_3
  try clear p135
  try clear p137
  try clear p139
  try clear p141
  try clear q135
  try clear q137
  try clear q139
  try clear q141
  obtain ⟨kq, x35_1, rfl, HA, HJ1, HB⟩ := hcut
  cases kq with
  | zero => exact absurd HA.out (by simp [spec_l21Ok.j0])
  | succ kj1 =>
   have H := HA.out
   clear HA
   simp only [spec_l21Ok.j0] at H
   by_cases c11 : x35_1 = true
   ·subst c11
    have H1 : (some false) = some r := by rw [if_pos rfl] at H; exact H
    clear H
    have H := H1
    clear H1
    obtain rfl := Option.some.inj H
    go_wp2
    go_ret
    exact ⟨by first | rfl | (rw [Int.tdiv_eq_ediv_of_nonneg (by omega)]; rfl) | (simp [errW_none, errW_some] <;> rfl) | (simp [*, errW_none, errW_some] <;> rfl), by repeat (first | (with_reducible first | exact HB.out | apply below_alloc | apply pw_below_drewN | apply below_drew1) | exact HB.out)⟩
   ·replace c11 := Bool.eq_false_iff.mpr c11
    subst c11
    have H1 : (spec_l21Ok.l0 kj1 l0 0) = some r := by rw [if_neg (show ¬ (false = true) by decide)] at H; exact H
    clear H
    have H := H1
    clear H1
    have H' := Aside0.mk H
    clear H
    go_wp2
    go_loopg [3] kj1 (fun kq v3 w' => ∃ (x3_2 : Int), v3 = .int .i64 x3_2 ∧ Aside0 (spec_l21Ok.l0 kq l0 x3_2 = some r) ∧ Aside0 (kq ≤ kj1) ∧ Aside0 (Below w.heap.size w w'))
    case atStart => exact ⟨(0), (by first | rfl | (simp; done) | (simp [*]; done)), H', ⟨Nat.le_refl _⟩, ⟨by repeat (first | (with_reducible first | exact HB.out | apply below_alloc | apply pw_below_drewN | apply below_drew1) | exact HB.out)⟩⟩
    case round =>
     clear H'
     try clear c1
     try clear p1
     try clear q1
     try clear hx1
     try clear qi1
     try clear p2
     try clear c3
     try clear c3b0
     try clear c3b1
     try clear c4
     try clear c5
     try clear c7
     try clear c9
     try clear c11
     try clear hx135_0
     try clear hx135_1
     try clear hx135_2
     try clear hx135_3
     try clear hx137_0
     try clear hx137_1
     try clear hx137_2
     try clear hx137_3
     try clear hx139_0
     try clear hx139_1
     try clear hx139_2
     try clear hx139_3
     try clear hx141_0
     try clear hx141_1
     try clear hx141_2
     try clear hx141_3
     try clear p1
     try clear p135
     try clear p137
     try clear p139
     try clear p141
     try clear p2
     try clear q1
     try clear q135
     try clear q137
     try clear q139
     try clear q141
     obtain ⟨x3_2, rfl, HA, HK2, HB⟩ := hrel
     cases gk with
     | zero => exact absurd HA.out (by simp [spec_l21Ok.l0])
     | succ k2 =>
      have H := HA.out
      clear HA
      simp only [spec_l21Ok.l0] at H
      by_cases c12 : 0 < (l0.length : Int)
      ·rw [if_pos c12] at H
       have c12b0 : decide (0 < (l0.length : Int)) = true := decide_eq_true c12
       have c12b1 : decide (0 < l0.length) = true := decide_eq_true (by omega)
       clear c12
       by_cases c13 : x3_2 < (((rd_T27 l0 0).f3).length : Int)
       ·rw [if_pos c13] at H
        have c13b0 : decide (x3_2 < (((rd_T27 l0 0).f3).length : Int)) = true := decide_eq_true c13
        clear c13
        by_cases c14 : 0 ≤ x3_2
        ·rw [if_pos c14] at H
         have c14b0 : decide (0 ≤ x3_2) = true := decide_eq_true c14
         clear c14
         have HC15 := Aside0.mk H
         clear H
         have p143 : 0 ≤ (0 : Int) := (by omega)
         have q143 : 0 < (l0.length : Int) := of_decide_eq_true (by first | (with_reducible assumption) | assumption)
         obtain ⟨ad143, A143_3, c143_3, e143, hx143_0, hx143_1, hx143_2, hx143_3, hl143_3, hi143_3⟩ := at_T27 HR0.out 0 p143 q143
         cases e143
         have qi143 : (0 < l0.length) = True := eq_true (by omega)
         (try rw [show ((0 : Int)).toNat = 0 from rfl] at hx143_0)
         (try rw [show 0 * 4 = 0 from rfl] at hx143_0)
         (try rw [Addr.add_zero'] at hx143_0)
         (try rw [show ((0 : Int)).toNat = 0 from rfl] at hx143_1)
         (try rw [show 0 * 4 = 0 from rfl] at hx143_1)
         (try rw [Addr.add_zero'] at hx143_1)
         (try rw [show ((0 : Int)).toNat = 0 from rfl] at hx143_2)
         (try rw [show 0 * 4 = 0 from rfl] at hx143_2)
         (try rw [Addr.add_zero'] at hx143_2)
         (try rw [show ((0 : Int)).toNat = 0 from rfl] at hx143_3)
         (try rw [show 0 * 4 = 0 from rfl] at hx143_3)
         (try rw [Addr.add_zero'] at hx143_3)
         replace hx143_0 := (HB.out.cell (World.block_lt_of_cell? w _ hx143_0)).trans hx143_0
         replace hx143_1 := (HB.out.cell (World.block_lt_of_cell? w _ hx143_1)).trans hx143_1
         replace hx143_2 := (HB.out.cell (World.block_lt_of_cell? w _ hx143_2)).trans hx143_2
         replace hx143_3 := (HB.out.cell (World.block_lt_of_cell? w _ hx143_3)).trans hx143_3
         have HR143_3 := Aside0.mk hi143_3
         have HC143_3 := Aside0.mk hl143_3
         clear hi143_3 hl143_3
         replace p143 := eq_true p143
         replace q143 := eq_true q143
         have p144 : 0 ≤ (0 : Int) := (by omega)
         have q144 : 0 < (l0.length : Int) := of_decide_eq_true (by first | (with_reducible assumption) | assumption)
         obtain ⟨ad144, A144_3, c144_3, e144, hx144_0, hx144_1, hx144_2, hx144_3, hl144_3, hi144_3⟩ := at_T27 HR0.out 0 p144 q144
         obtain rfl : ad143 = ad144 := (by injection e144)
         have qi144 : (0 < l0.length) = True := eq_true (by omega)
         (try rw [show ((0 : Int)).toNat = 0 from rfl] at hx144_0)
         (try rw [show 0 * 4 = 0 from rfl] at hx144_0)
         (try rw [Addr.add_zero'] at hx144_0)
         (try rw [show ((0 : Int)).toNat = 0 from rfl] at hx144_1)
         (try rw [show 0 * 4 = 0 from rfl] at hx144_1)
         (try rw [Addr.add_zero'] at hx144_1)
         (try rw [show ((0 : Int)).toNat = 0 from rfl] at hx144_2)
         (try rw [show 0 * 4 = 0 from rfl] at hx144_2)
         (try rw [Addr.add_zero'] at hx144_2)
         (try rw [show ((0 : Int)).toNat = 0 from rfl] at hx144_3)
         (try rw [show 0 * 4 = 0 from rfl] at hx144_3)
         (try rw [Addr.add_zero'] at hx144_3)
         replace hx144_0 := (HB.out.cell (World.block_lt_of_cell? w _ hx144_0)).trans hx144_0
         replace hx144_1 := (HB.out.cell (World.block_lt_of_cell? w _ hx144_1)).trans hx144_1
         replace hx144_2 := (HB.out.cell (World.block_lt_of_cell? w _ hx144_2)).trans hx144_2
         replace hx144_3 := (HB.out.cell (World.block_lt_of_cell? w _ hx144_3)).trans hx144_3
         have HR144_3 := Aside0.mk hi144_3
         have HC144_3 := Aside0.mk hl144_3
         clear hi144_3 hl144_3
         replace p144 := eq_true p144
         replace q144 := eq_true q144
         have ea_ := Option.some.inj (hx143_3.symm.trans hx144_3)
         injection ea_ with ea_ en_ ec_
         subst ea_
         subst ec_
         clear en_
         have p145 : 0 ≤ (x3_2 : Int) := of_decide_eq_true (by first | (with_reducible assumption) | assumption)
         have q145 : x3_2 < (((rd_T27 l0 0).f3).length : Int) := of_decide_eq_true (by first | (with_reducible assumption) | assumption)
         obtain ⟨ad145, A145_0, c145_0, e145, hx145_0, hl145_0, hi145_0⟩ := at_L1 HR144_3.out x3_2 p145 q145
         cases e145
         replace hx145_0 := (HB.out.cell (World.block_lt_of_cell? w _ hx145_0)).trans hx145_0
         have HR145_0 := Aside0.mk hi145_0
         have HC145_0 := Aside0.mk hl145_0
         clear hi145_0 hl145_0
         replace p145 := eq_true p145
         replace q145 := eq_true q145
         go_upto_region 7 with (fail)
         go_cut [98] (fun v98 wc => ∃ (kq : Nat) (x98_14 : Bool), v98 = .bool x98_14 ∧ Aside0 (spec_l21Ok.j2 kq l0 x3_2 x98_14 = some r) ∧ Aside0 (kq ≤ k2) ∧ Aside0 (Below w.heap.size w wc))
         case first =>
          have H := HC15.out
          clear HC15
          by_cases c16 : ((rd_L1 ((rd_T27 l0 0).f3) x3_2).length : Int) = 2
          ·rw [if_pos c16] at H
           have c16b0 : (((rd_L1 ((rd_T27 l0 0).f3) x3_2).length : Int) == 2) = true := beq_iff_eq.mpr c16
           have c16b1 : (((rd_L1 ((rd_T27 l0 0).f3) x3_2).length : Int) != 2) = false := bne_eq_false_iff_eq.mpr c16
           clear c16
           (first | rw [c16b0] | (simp only [i64_w, i32_w]; rw [c16b0]) | skip)
           by_cases c17 : 0 < ((rd_L1 ((rd_T27 l0 0).f3) x3_2).length : Int)
           ·rw [if_pos c17] at H
            have c17b0 : decide (0 < ((rd_L1 ((rd_T27 l0 0).f3) x3_2).length : Int)) = true := decide_eq_true c17
            have c17b1 : decide (0 < (rd_L1 ((rd_T27 l0 0).f3) x3_2).length) = true := decide_eq_true (by omega)
            clear c17
            replace H := Option.bind_eq_some_iff.mp H
            obtain ⟨t147, A180, H⟩ := H
            replace H : (if t147 = true then (if 1 < ((rd_L1 ((rd_T27 l0 0).f3) x3_2).length : Int) then ((spec_l00In.f (rd (rd_L1 ((rd_T27 l0 0).f3) x3_2) 1) 0 10000).bind fun t149 => (if t149 = true then (if x3_2 = 0 then (if (rd (rd_L1 ((rd_T27 l0 0).f3) x3_2) 0) = 0 then (if x3_2 > 0 then (if 0 ≤ (wrap64 (x3_2 - 1)) then (if (wrap64 (x3_2 - 1)) < (((rd_T27 l0 0).f3).length : Int) then (if 0 < ((rd_L1 ((rd_T27 l0 0).f3) (wrap64 (x3_2 - 1))).length : Int) then (spec_l21Ok.j2 k2 l0 x3_2 (decide ((rd (rd_L1 ((rd_T27 l0 0).f3) (wrap64 (x3_2 - 1))) 0) ≥ (rd (rd_L1 ((rd_T27 l0 0).f3) x3_2) 0)))) else (none)) else (none)) else (none)) else (spec_l21Ok.j2 k2 l0 x3_2 false)) else (spec_l21Ok.j2 k2 l0 x3_2 true)) else (if x3_2 > 0 then (if 0 ≤ (wrap64 (x3_2 - 1)) then (if (wrap64 (x3_2 - 1)) < (((rd_T27 l0 0).f3).length : Int) then (if 0 < ((rd_L1 ((rd_T27 l0 0).f3) (wrap64 (x3_2 - 1))).length : Int) then (spec_l21Ok.j2 k2 l0 x3_2 (decide ((rd (rd_L1 ((rd_T27 l0 0).f3) (wrap64 (x3_2 - 1))) 0) ≥ (rd (rd_L1 ((rd_T27 l0 0).f3) x3_2) 0)))) else (none)) else (none)) else (none)) else (spec_l21Ok.j2 k2 l0 x3_2 false))) else (spec_l21Ok.j2 k2 l0 x3_2 true))) else (none)) else (spec_l21Ok.j2 k2 l0 x3_2 true)) = some r := H
            have A18 := Aside0.mk A180
            clear A180
            by_cases c19 : t147 = true
            ·subst c19
             have H1 : (if 1 < ((rd_L1 ((rd_T27 l0 0).f3) x3_2).length : Int) then ((spec_l00In.f (rd (rd_L1 ((rd_T27 l0 0).f3) x3_2) 1) 0 10000).bind fun t149 => (if t149 = true then (if x3_2 = 0 then (if (rd (rd_L1 ((rd_T27 l0 0).f3) x3_2) 0) = 0 then (if x3_2 > 0 then (if 0 ≤ (wrap64 (x3_2 - 1)) then (if (wrap64 (x3_2 - 1)) < (((rd_T27 l0 0).f3).length : Int) then (if 0 < ((rd_L1 ((rd_T27 l0 0).f3) (wrap64 (x3_2 - 1))).length : Int) then (spec_l21Ok.j2 k2 l0 x3_2 (decide ((rd (rd_L1 ((rd_T27 l0 0).f3) (wrap64 (x3_2 - 1))) 0) ≥ (rd (rd_L1 ((rd_T27 l0 0).f3) x3_2) 0)))) else (none)) else (none)) else (none)) else (spec_l21Ok.j2 k2 l0 x3_2 false)) else (spec_l21Ok.j2 k2 l0 x3_2 true)) else (if x3_2 > 0 then (if 0 ≤ (wrap64 (x3_2 - 1)) then (if (wrap64 (x3_2 - 1)) < (((rd_T27 l0 0).f3).length : Int) then (if 0 < ((rd_L1 ((rd_T27 l0 0).f3) (wrap64 (x3_2 - 1))).length : Int) then (spec_l21Ok.j2 k2 l0 x3_2 (decide ((rd (rd_L1 ((rd_T27 l0 0).f3) (wrap64 (x3_2 - 1))) 0) ≥ (rd (rd_L1 ((rd_T27 l0 0).f3) x3_2) 0)))) else (none)) else (none)) else (none)) else (spec_l21Ok.j2 k2 l0 x3_2 false))) else (spec_l21Ok.j2 k2 l0 x3_2 true))) else (none)) = some r := by rw [if_pos rfl] at H; exact H
             clear H
             have H := H1
             clear H1
             by_cases c20 : 1 < ((rd_L1 ((rd_T27 l0 0).f3) x3_2).length : Int)
             ·rw [if_pos c20] at H
              have c20b0 : decide (1 < ((rd_L1 ((rd_T27 l0 0).f3) x3_2).length : Int)) = true := decide_eq_true c20
              have c20b1 : decide (1 < (rd_L1 ((rd_T27 l0 0).f3) x3_2).length) = true := decide_eq_true (by omega)
              clear c20
              replace H := Option.bind_eq_some_iff.mp H
              obtain ⟨t149, A210, H⟩ := H
              replace H : (if t149 = true then (if x3_2 = 0 then (if (rd (rd_L1 ((rd_T27 l0 0).f3) x3_2) 0) = 0 then (if x3_2 > 0 then (if 0 ≤ (wrap64 (x3_2 - 1)) then (if (wrap64 (x3_2 - 1)) < (((rd_T27 l0 0).f3).length : Int) then (if 0 < ((rd_L1 ((rd_T27 l0 0).f3) (wrap64 (x3_2 - 1))).length : Int) then (spec_l21Ok.j2 k2 l0 x3_2 (decide ((rd (rd_L1 ((rd_T27 l0 0).f3) (wrap64 (x3_2 - 1))) 0) ≥ (rd (rd_L1 ((rd_T27 l0 0).f3) x3_2) 0)))) else (none)) else (none)) else (none)) else (spec_l21Ok.j2 k2 l0 x3_2 false)) else (spec_l21Ok.j2 k2 l0 x3_2 true)) else (if x3_2 > 0 then (if 0 ≤ (wrap64 (x3_2 - 1)) then (if (wrap64 (x3_2 - 1)) < (((rd_T27 l0 0).f3).length : Int) then (if 0 < ((rd_L1 ((rd_T27 l0 0).f3) (wrap64 (x3_2 - 1))).length : Int) then (spec_l21Ok.j2 k2 l0 x3_2 (decide ((rd (rd_L1 ((rd_T27 l0 0).f3) (wrap64 (x3_2 - 1))) 0) ≥ (rd (rd_L1 ((rd_T27 l0 0).f3) x3_2) 0)))) else (none)) else (none)) else (none)) else (spec_l21Ok.j2 k2 l0 x3_2 false))) else (spec_l21Ok.j2 k2 l0 x3_2 true)) = some r := H
              have A21 := Aside0.mk A210
              clear A210
              by_cases c22 : t149 = true
              ·subst c22
               have H1 : (if x3_2 = 0 then (if (rd (rd_L1 ((rd_T27 l0 0).f3) x3_2) 0) = 0 then (if x3_2 > 0 then (if 0 ≤ (wrap64 (x3_2 - 1)) then (if (wrap64 (x3_2 - 1)) < (((rd_T27 l0 0).f3).length : Int) then (if 0 < ((rd_L1 ((rd_T27 l0 0).f3) (wrap64 (x3_2 - 1))).length : Int) then (spec_l21Ok.j2 k2 l0 x3_2 (decide ((rd (rd_L1 ((rd_T27 l0 0).f3) (wrap64 (x3_2 - 1))) 0) ≥ (rd (rd_L1 ((rd_T27 l0 0).f3) x3_2) 0)))) else (none)) else (none)) else (none)) else (spec_l21Ok.j2 k2 l0 x3_2 false)) else (spec_l21Ok.j2 k2 l0 x3_2 true)) else (if x3_2 > 0 then (if 0 ≤ (wrap64 (x3_2 - 1)) then (if (wrap64 (x3_2 - 1)) < (((rd_T27 l0 0).f3).length : Int) then (if 0 < ((rd_L1 ((rd_T27 l0 0).f3) (wrap64 (x3_2 - 1))).length : Int) then (spec_l21Ok.j2 k2 l0 x3_2 (decide ((rd (rd_L1 ((rd_T27 l0 0).f3) (wrap64 (x3_2 - 1))) 0) ≥ (rd (rd_L1 ((rd_T27 l0 0).f3) x3_2) 0)))) else (none)) else (none)) else (none)) else (spec_l21Ok.j2 k2 l0 x3_2 false))) = some r := by rw [if_pos rfl] at H; exact H
               clear H
               have H := H1
               clear H1
               by_cases c23 : x3_2 = 0
               ·rw [if_pos c23] at H
                have c23b0 : (x3_2 == 0) = true := beq_iff_eq.mpr c23
                have c23b1 : (x3_2 != 0) = false := bne_eq_false_iff_eq.mpr c23
                clear c23
                by_cases c24 : (rd (rd_L1 ((rd_T27 l0 0).f3) x3_2) 0) = 0
                ·rw [if_pos c24] at H
                 have c24b0 : ((rd (rd_L1 ((rd_T27 l0 0).f3) x3_2) 0) == 0) = true := beq_iff_eq.mpr c24
                 have c24b1 : ((rd (rd_L1 ((rd_T27 l0 0).f3) x3_2) 0) != 0) = false := bne_eq_false_iff_eq.mpr c24
                 clear c24
                 by_cases c25 : x3_2 > 0
                 ·rw [if_pos c25] at H
                  have c25b0 : decide (0 < x3_2) = true := decide_eq_true c25
                  clear c25
                  obtain ⟨ji26, hji26⟩ : ∃ j_ : Int, (wrap64 (x3_2 - 1)) = j_ := ⟨_, rfl⟩
                  replace H : (if 0 ≤ (ji26) then (if (ji26) < (((rd_T27 l0 0).f3).length : Int) then (if 0 < ((rd_L1 ((rd_T27 l0 0).f3) (ji26)).length : Int) then (spec_l21Ok.j2 k2 l0 x3_2 (decide ((rd (rd_L1 ((rd_T27 l0 0).f3) (ji26)) 0) ≥ (rd (rd_L1 ((rd_T27 l0 0).f3) x3_2) 0)))) else (none)) else (none)) else (none)) = some r := by first | (rw [hji26] at H; exact H) | (simp only [hji26] at H ⊢; exact H)
                  (try rw [hji26] at A18)
                  (try rw [hji26] at A21)
                  have hji26w : (IntKind.i64.wrap (x3_2 - 1)) = ji26 := (i64_w _).trans hji26
                  by_cases c27 : 0 ≤ (ji26)
                  ·rw [if_pos c27] at H
                   have c27b0 : decide (0 ≤ (ji26)) = true := decide_eq_true c27
                   clear c27
                   by_cases c28 : (ji26) < (((rd_T27 l0 0).f3).length : Int)
                   ·rw [if_pos c28] at H
                    have c28b0 : decide ((ji26) < (((rd_T27 l0 0).f3).length : Int)) = true := decide_eq_true c28
                    clear c28
                    by_cases c29 : 0 < ((rd_L1 ((rd_T27 l0 0).f3) (ji26)).length : Int)
                    ·rw [if_pos c29] at H
                     have c29b0 : decide (0 < ((rd_L1 ((rd_T27 l0 0).f3) (ji26)).length : Int)) = true := decide_eq_true c29
                     have c29b1 : decide (0 < (rd_L1 ((rd_T27 l0 0).f3) (ji26)).length) = true := decide_eq_true (by omega)
                     clear c29
                     have H' := Aside0.mk H
                     clear H
                     try go_wp2
                     have n0_ := Aside0.mk (below_drew1 HB.out)
                     clear HB
                     have HB := n0_
                     clear n0_
                     have p146 : 0 ≤ (0 : Int) := (by omega)
                     have q146 : 0 < ((rd_L1 ((rd_T27 l0 0).f3) x3_2).length : Int) := of_decide_eq_true (by first | (with_reducible assumption) | assumption)
                     obtain ⟨ad146, e146, hx146_0⟩ := Kd.at_int HR145_0.out 0 p146 q146
                     have hw146_0 := hx146_0
                     (try rw [show ((0 : Int)).toNat = 0 from rfl] at hw146_0)
                     (try rw [show 0 * 1 = 0 from rfl] at hw146_0)
                     (try rw [Addr.add_zero'] at hw146_0)
                     cases e146
                     have qi146 : (0 < (rd_L1 ((rd_T27 l0 0).f3) x3_2).length) = True := eq_true (by omega)
                     (try rw [show ((0 : Int)).toNat = 0 from rfl] at hx146_0)
                     (try rw [Addr.add_zero'] at hx146_0)
                     replace hx146_0 := (HB.out.cell (World.block_lt_of_cell? w _ hx146_0)).trans hx146_0
                     replace p146 := eq_true p146
                     replace q146 := eq_true q146
                     have p148 : 0 ≤ (1 : Int) := (by omega)
                     have q148 : 1 < ((rd_L1 ((rd_T27 l0 0).f3) x3_2).length : Int) := of_decide_eq_true (by first | (with_reducible assumption) | assumption)
                     obtain ⟨ad148, e148, hx148_0⟩ := Kd.at_int HR145_0.out 1 p148 q148
                     have hw148_0 := hx148_0
                     (try rw [show ((1 : Int)).toNat = 1 from rfl] at hw148_0)
                     (try rw [show 1 * 1 = 1 from rfl] at hw148_0)
                     (try simp only [Nat.reduceMul, Nat.reduceEqDiff, Go.Addr.add, ↓reduceIte] at hw148_0)
                     obtain rfl : ad146 = ad148 := (by injection e148)
                     (try simp only [show (1 : Int).toNat = 1 from rfl, Nat.reduceMul, Nat.reduceEqDiff, Go.Addr.add, ↓reduceIte] at hx148_0)
                     have qi148 : (1 < (rd_L1 ((rd_T27 l0 0).f3) x3_2).length) = True := eq_true (by omega)
                     (try rw [show ((1 : Int)).toNat = 1 from rfl] at hx148_0)
                     replace hx148_0 := (HB.out.cell (World.block_lt_of_cell? w _ hx148_0)).trans hx148_0
                     replace p148 := eq_true p148
                     replace q148 := eq_true q148
                     have p150 : 0 ≤ (0 : Int) := (by omega)
                     have q150 : 0 < ((rd_L1 ((rd_T27 l0 0).f3) x3_2).length : Int) := of_decide_eq_true (by first | (with_reducible assumption) | assumption)
                     obtain ⟨ad150, e150, hx150_0⟩ := Kd.at_int HR145_0.out 0 p150 q150
                     have hw150_0 := hx150_0
                     (try rw [show ((0 : Int)).toNat = 0 from rfl] at hw150_0)
                     (try rw [show 0 * 1 = 0 from rfl] at hw150_0)
                     (try rw [Addr.add_zero'] at hw150_0)
                     obtain rfl : ad146 = ad150 := (by injection e150)
                     have qi150 : (0 < (rd_L1 ((rd_T27 l0 0).f3) x3_2).length) = True := eq_true (by omega)
                     (try rw [show ((0 : Int)).toNat = 0 from rfl] at hx150_0)
                     (try rw [Addr.add_zero'] at hx150_0)
                     replace hx150_0 := (HB.out.cell (World.block_lt_of_cell? w _ hx150_0)).trans hx150_0
                     replace p150 := eq_true p150
                     replace q150 := eq_true q150
                     have p151 : 0 ≤ (0 : Int) := (by omega)
                     have q151 : 0 < (l0.length : Int) := of_decide_eq_true (by first | (with_reducible assumption) | assumption)
                     obtain ⟨ad151, A151_3, c151_3, e151, hx151_0, hx151_1, hx151_2, hx151_3, hl151_3, hi151_3⟩ := at_T27 HR0.out 0 p151 q151
                     have hw151_3 := hx151_3
                     (try rw [show ((0 : Int)).toNat = 0 from rfl] at hw151_3)
                     (try rw [show 0 * 4 = 0 from rfl] at hw151_3)
                     (try rw [Addr.add_zero'] at hw151_3)
                     have hw151_2 := hx151_2
                     (try rw [show ((0 : Int)).toNat = 0 from rfl] at hw151_2)
                     (try rw [show 0 * 4 = 0 from rfl] at hw151_2)
                     (try rw [Addr.add_zero'] at hw151_2)
                     have hw151_1 := hx151_1
                     (try rw [show ((0 : Int)).toNat = 0 from rfl] at hw151_1)
                     (try rw [show 0 * 4 = 0 from rfl] at hw151_1)
                     (try rw [Addr.add_zero'] at hw151_1)
                     have hw151_0 := hx151_0
                     (try rw [show ((0 : Int)).toNat = 0 from rfl] at hw151_0)
                     (try rw [show 0 * 4 = 0 from rfl] at hw151_0)
                     (try rw [Addr.add_zero'] at hw151_0)
                     obtain rfl : ad143 = ad151 := (by injection e151)
                     have qi151 : (0 < l0.length) = True := eq_true (by omega)
                     (try rw [show ((0 : Int)).toNat = 0 from rfl] at hx151_0)
                     (try rw [show 0 * 4 = 0 from rfl] at hx151_0)
                     (try rw [Addr.add_zero'] at hx151_0)
                     (try rw [show ((0 : Int)).toNat = 0 from rfl] at hx151_1)
                     (try rw [show 0 * 4 = 0 from rfl] at hx151_1)
                     (try rw [Addr.add_zero'] at hx151_1)
                     (try rw [show ((0 : Int)).toNat = 0 from rfl] at hx151_2)
                     (try rw [show 0 * 4 = 0 from rfl] at hx151_2)
                     (try rw [Addr.add_zero'] at hx151_2)
                     (try rw [show ((0 : Int)).toNat = 0 from rfl] at hx151_3)
                     (try rw [show 0 * 4 = 0 from rfl] at hx151_3)
                     (try rw [Addr.add_zero'] at hx151_3)
                     replace hx151_0 := (HB.out.cell (World.block_lt_of_cell? w _ hx151_0)).trans hx151_0
                     replace hx151_1 := (HB.out.cell (World.block_lt_of_cell? w _ hx151_1)).trans hx151_1
                     replace hx151_2 := (HB.out.cell (World.block_lt_of_cell? w _ hx151_2)).trans hx151_2
                     replace hx151_3 := (HB.out.cell (World.block_lt_of_cell? w _ hx151_3)).trans hx151_3
                     have HR151_3 := Aside0.mk hi151_3
                     have HC151_3 := Aside0.mk hl151_3
                     clear hi151_3 hl151_3
                     replace p151 := eq_true p151
                     replace q151 := eq_true q151
                     have p152 : 0 ≤ ((ji26) : Int) := of_decide_eq_true (by first | (with_reducible assumption) | assumption)
                     have q152 : (ji26) < (((rd_T27 l0 0).f3).length : Int) := of_decide_eq_true (by first | (with_reducible assumption) | assumption)
                     obtain ⟨ad152, A152_0, c152_0, e152, hx152_0, hl152_0, hi152_0⟩ := at_L1 HR151_3.out (ji26) p152 q152
                     have hw152_0 := hx152_0
                     cases e152
                     replace hx152_0 := (HB.out.cell (World.block_lt_of_cell? w _ hx152_0)).trans hx152_0
                     have HR152_0 := Aside0.mk hi152_0
                     have HC152_0 := Aside0.mk hl152_0
                     clear hi152_0 hl152_0
                     replace p152 := eq_true p152
                     replace q152 := eq_true q152
                     have p153 : 0 ≤ (0 : Int) := (by omega)
                     have q153 : 0 < ((rd_L1 ((rd_T27 l0 0).f3) (ji26)).length : Int) := of_decide_eq_true (by first | (with_reducible assumption) | assumption)
                     obtain ⟨ad153, e153, hx153_0⟩ := Kd.at_int HR152_0.out 0 p153 q153
                     have hw153_0 := hx153_0
                     (try rw [show ((0 : Int)).toNat = 0 from rfl] at hw153_0)
                     (try rw [show 0 * 1 = 0 from rfl] at hw153_0)
                     (try rw [Addr.add_zero'] at hw153_0)
                     cases e153
                     have qi153 : (0 < (rd_L1 ((rd_T27 l0 0).f3) (ji26)).length) = True := eq_true (by omega)
                     (try rw [show ((0 : Int)).toNat = 0 from rfl] at hx153_0)
                     (try rw [Addr.add_zero'] at hx153_0)
                     replace hx153_0 := (HB.out.cell (World.block_lt_of_cell? w _ hx153_0)).trans hx153_0
                     replace p153 := eq_true p153
                     replace q153 := eq_true q153
                     have p154 : 0 ≤ (0 : Int) := (by omega)
                     have q154 : 0 < ((rd_L1 ((rd_T27 l0 0).f3) x3_2).length : Int) := of_decide_eq_true (by first | (with_reducible assumption) | assumption)
                     obtain ⟨ad154, e154, hx154_0⟩ := Kd.at_int HR145_0.out 0 p154 q154
                     have hw154_0 := hx154_0
                     (try rw [show ((0 : Int)).toNat = 0 from rfl] at hw154_0)
                     (try rw [show 0 * 1 = 0 from rfl] at hw154_0)
                     (try rw [Addr.add_zero'] at hw154_0)
                     obtain rfl : ad146 = ad154 := (by injection e154)
                     have qi154 : (0 < (rd_L1 ((rd_T27 l0 0).f3) x3_2).length) = True := eq_true (by omega)
                     (try rw [show ((0 : Int)).toNat = 0 from rfl] at hx154_0)
                     (try rw [Addr.add_zero'] at hx154_0)
                     replace hx154_0 := (HB.out.cell (World.block_lt_of_cell? w _ hx154_0)).trans hx154_0
                     replace p154 := eq_true p154
                     replace q154 := eq_true q154
                     refine start_ (n := 47) (S := fun w' => w'.cell? ad146 = some (.int .i64 (rd (rd_L1 ((rd_T27 l0 0).f3) x3_2) 0)) ∧ w'.cell? ⟨ad146.block, ad146.off + 1, none⟩ = some (.int .i64 (rd (rd_L1 ((rd_T27 l0 0).f3) x3_2) 1)) ∧ w'.cell? ad146 = some (.int .i64 (rd (rd_L1 ((rd_T27 l0 0).f3) x3_2) 0)) ∧ w'.cell? ad143 = some (.string ((rd_T27 l0 0).f0)) ∧ w'.cell? ⟨ad143.block, ad143.off + 1, none⟩ = some (.int .i64 ((rd_T27 l0 0).f1)) ∧ w'.cell? ⟨ad143.block, ad143.off + 2, none⟩ = some (.int .i64 ((rd_T27 l0 0).f2)) ∧ w'.cell? ⟨ad143.block, ad143.off + 3, none⟩ = some (.slice (some ad152) ((rd_T27 l0 0).f3).length c151_3) ∧ w'.cell? (ad152.add ((ji26)).toNat) = some (.slice (some ad153) (rd_L1 ((rd_T27 l0 0).f3) (ji26)).length c152_0) ∧ w'.cell? ad153 = some (.int .i64 (rd (rd_L1 ((rd_T27 l0 0).f3) (ji26)) 0)) ∧ w'.cell? ad146 = some (.int .i64 (rd (rd_L1 ((rd_T27 l0 0).f3) x3_2) 0))) (ds := []) (tf 0 47) (by kernel_rfl) rfl rfl ⟨((HB.out.cell (World.block_lt_of_cell? w _ hw146_0)).trans hw146_0), ((HB.out.cell (World.block_lt_of_cell? w _ hw148_0)).trans hw148_0), ((HB.out.cell (World.block_lt_of_cell? w _ hw150_0)).trans hw150_0), ((HB.out.cell (World.block_lt_of_cell? w _ hw151_0)).trans hw151_0), ((HB.out.cell (World.block_lt_of_cell? w _ hw151_1)).trans hw151_1), ((HB.out.cell (World.block_lt_of_cell? w _ hw151_2)).trans hw151_2), ((HB.out.cell (World.block_lt_of_cell? w _ hw151_3)).trans hw151_3), ((HB.out.cell (World.block_lt_of_cell? w _ hw152_0)).trans hw152_0), ((HB.out.cell (World.block_lt_of_cell? w _ hw153_0)).trans hw153_0), ((HB.out.cell (World.block_lt_of_cell? w _ hw154_0)).trans hw154_0)⟩ (fun hHeld => ?_); refine with_tabW spec_l21Ok.tab7 spec_l21Ok.bits7 (fun HT_ HW_ => ?_)
                     generalize wr.drew = w30 at HB HR151_3 HR152_0 hx146_0 hx148_0 hx150_0 hx151_0 hx151_1 hx151_2 hx151_3 hx152_0 hx153_0 hx154_0 hHeld ⊢
                     refine px 0 (some 52) (tf 1 47) HT_ ?_
                     refine px 1 (some 53) (tf 2 47) HT_ ?_
                     refine px 2 (some 54) (tf 3 47) HT_ ?_
                     refine px 3 (some 55) (tf 4 47) HT_ ?_
                     refine px 4 (some 56) (tf 5 47) HT_ ?_
                     refine px 5 (some 57) (tf 6 47) HT_ ?_
                     refine tx (v := ?_) 6 (some 58) (tf 7 47) HT_ HW_ hHeld ?_ ?_
                     rotate_left; (· rintro w' ⟨s0, s1, s2, s3, s4, s5, s6, s7, s8, s9⟩; go_simp; with_reducible rfl)
                     refine one_ (i := 7) (N := some 59) (tf 8 47) rfl rfl (one_of HT_.out (by kernel_rfl)) (by decide) (fun K hK => ?_)
                     refine goes_ Try.func60 (by kernel_rfl) rfl #[.int .i64 (rd (rd_L1 ((rd_T27 l0 0).f3) x3_2) 0), .int .i64 0, .int .i64 1000000] (by rfl) rfl rfl (by (try simp only [List.map_toArray, List.map_cons, List.map_nil]); first | done | rfl | (simp only [List.length_drop, List.length_take]; rfl)) ?_
                     with_reducible refine (spec_l00In.calls (rd (rd_L1 ((rd_T27 l0 0).f3) x3_2) 0) 0 1000000 true _ A18.out).mono ?_
                     rintro e w' ⟨rfl, ⟨nd, rfl⟩⟩
                     refine ⟨_, rfl, ?_⟩
                     refine hK.out _ _ ⟨((HB.out.cell (World.block_lt_of_cell? w _ hw146_0)).trans hw146_0), ((HB.out.cell (World.block_lt_of_cell? w _ hw148_0)).trans hw148_0), ((HB.out.cell (World.block_lt_of_cell? w _ hw150_0)).trans hw150_0), ((HB.out.cell (World.block_lt_of_cell? w _ hw151_0)).trans hw151_0), ((HB.out.cell (World.block_lt_of_cell? w _ hw151_1)).trans hw151_1), ((HB.out.cell (World.block_lt_of_cell? w _ hw151_2)).trans hw151_2), ((HB.out.cell (World.block_lt_of_cell? w _ hw151_3)).trans hw151_3), ((HB.out.cell (World.block_lt_of_cell? w _ hw152_0)).trans hw152_0), ((HB.out.cell (World.block_lt_of_cell? w _ hw153_0)).trans hw153_0), ((HB.out.cell (World.block_lt_of_cell? w _ hw154_0)).trans hw154_0)⟩ (fun hHeld => ?_)
                     clear hK K
                     refine norm_ (a' := ?_) ?_ ?_
                     rotate_left
                     ·show Act.put _ (some 59) _ = _
                      simp only [Act.put, List.setIfInBounds_toArray, List.set_cons_zero, List.set_cons_succ, i64_w, i32_w]
                      rfl
                     refine px 8 (some 60) (tf 9 47) HT_ ?_
                     refine px 9 (some 61) (tf 10 47) HT_ ?_
                     refine px 10 (some 62) (tf 11 47) HT_ ?_
                     refine px 11 (some 63) (tf 12 47) HT_ ?_
                     refine px 12 (some 64) (tf 13 47) HT_ ?_
                     refine tx (v := ?_) 13 (some 65) (tf 14 47) HT_ HW_ hHeld ?_ ?_
                     rotate_left; (· rintro w' ⟨s0, s1, s2, s3, s4, s5, s6, s7, s8, s9⟩; go_simp; with_reducible rfl)
                     refine one_ (i := 14) (N := some 66) (tf 15 47) rfl rfl (one_of HT_.out (by kernel_rfl)) (by decide) (fun K hK => ?_)
                     refine goes_ Try.func60 (by kernel_rfl) rfl #[.int .i64 (rd (rd_L1 ((rd_T27 l0 0).f3) x3_2) 1), .int .i64 0, .int .i64 10000] (by rfl) rfl rfl (by (try simp only [List.map_toArray, List.map_cons, List.map_nil]); first | done | rfl | (simp only [List.length_drop, List.length_take]; rfl)) ?_
                     with_reducible refine (spec_l00In.calls (rd (rd_L1 ((rd_T27 l0 0).f3) x3_2) 1) 0 10000 true _ A21.out).mono ?_
                     rintro e w' ⟨rfl, ⟨nd, rfl⟩⟩
                     refine ⟨_, rfl, ?_⟩
                     refine hK.out _ _ ⟨((HB.out.cell (World.block_lt_of_cell? w _ hw146_0)).trans hw146_0), ((HB.out.cell (World.block_lt_of_cell? w _ hw148_0)).trans hw148_0), ((HB.out.cell (World.block_lt_of_cell? w _ hw150_0)).trans hw150_0), ((HB.out.cell (World.block_lt_of_cell? w _ hw151_0)).trans hw151_0), ((HB.out.cell (World.block_lt_of_cell? w _ hw151_1)).trans hw151_1), ((HB.out.cell (World.block_lt_of_cell? w _ hw151_2)).trans hw151_2), ((HB.out.cell (World.block_lt_of_cell? w _ hw151_3)).trans hw151_3), ((HB.out.cell (World.block_lt_of_cell? w _ hw152_0)).trans hw152_0), ((HB.out.cell (World.block_lt_of_cell? w _ hw153_0)).trans hw153_0), ((HB.out.cell (World.block_lt_of_cell? w _ hw154_0)).trans hw154_0)⟩ (fun hHeld => ?_)
                     clear hK K
                     refine norm_ (a' := ?_) ?_ ?_
                     rotate_left
                     ·show Act.put _ (some 66) _ = _
                      simp only [Act.put, List.setIfInBounds_toArray, List.set_cons_zero, List.set_cons_succ, i64_w, i32_w]
                      rfl
                     refine px 15 (some 67) (tf 16 47) HT_ ?_
                     refine px 16 (some 68) (tf 17 47) HT_ ?_
                     refine px 17 (some 69) (tf 18 47) HT_ ?_
                     refine px 18 (some 70) (tf 19 47) HT_ ?_
                     refine px 19 (some 71) (tf 20 47) HT_ ?_
                     refine px 20 (some 72) (tf 21 47) HT_ ?_
                     refine px 21 (some 73) (tf 22 47) HT_ ?_
                     refine px 22 (some 74) (tf 23 47) HT_ ?_
                     refine tx (v := ?_) 23 (some 75) (tf 24 47) HT_ HW_ hHeld ?_ ?_
                     rotate_left; (· rintro w' ⟨s0, s1, s2, s3, s4, s5, s6, s7, s8, s9⟩; go_simp; with_reducible rfl)
                     refine px 24 (some 76) (tf 25 47) HT_ ?_
                     refine px 25 (some 77) (tf 26 47) HT_ ?_
                     refine px 26 (some 78) (tf 27 47) HT_ ?_
                     refine px 27 (some 79) (tf 28 47) HT_ ?_
                     refine px 28 (some 80) (tf 29 47) HT_ ?_
                     refine px 29 (some 81) (tf 30 47) HT_ ?_
                     refine px 30 (some 82) (tf 31 47) HT_ ?_
                     refine px 31 (some 83) (tf 32 47) HT_ ?_
                     refine px 32 (some 84) (tf 33 47) HT_ ?_
                     refine px 33 (some 85) (tf 34 47) HT_ ?_
                     refine px 35 (some 87) (tb 47 51539607551) HT_ ?_
                     refine px 36 (some 88) (tb 47 120259084287) HT_ ?_
                     refine px 41 (some 93) (tb 47 2319282339839) HT_ ?_
                     refine px 42 (some 94) (tb 47 6717328850943) HT_ ?_
                     refine tx (v := ?_) 34 (some 86) (tb 47 6734508720127) HT_ HW_ hHeld ?_ ?_
                     rotate_left; (· rintro w' ⟨s0, s1, s2, s3, s4, s5, s6, s7, s8, s9⟩; go_simp; with_reducible rfl)
                     refine px 37 (some 89) (tb 47 6871947673599) HT_ ?_
                     refine tx (v := ?_) 38 (some 90) (tb 47 7146825580543) HT_ HW_ hHeld ?_ ?_
                     rotate_left; (· rintro w' ⟨s0, s1, s2, s3, s4, s5, s6, s7, s8, s9⟩; go_simp; with_reducible rfl)
                     refine px 39 (some 91) (tb 47 7696581394431) HT_ ?_
                     refine tx (v := ?_) 40 (some 92) (tf 43 47) HT_ HW_ hHeld ?_ ?_
                     rotate_left; (· rintro w' ⟨s0, s1, s2, s3, s4, s5, s6, s7, s8, s9⟩; go_simp; with_reducible rfl)
                     refine tx (v := ?_) 43 (some 95) (tf 44 47) HT_ HW_ hHeld ?_ ?_
                     rotate_left; (· rintro w' ⟨s0, s1, s2, s3, s4, s5, s6, s7, s8, s9⟩; go_simp; with_reducible rfl)
                     refine px 44 (some 96) (tf 45 47) HT_ ?_
                     refine px 45 (some 97) (tf 46 47) HT_ ?_
                     refine px 46 (some 98) (tf 47 47) HT_ ?_
                     refine done_ (done_of HT_.out (by kernel_rfl)) ?_
                     try go_wp2
                     go_meet
                     case rel => exact ⟨_, (decide ((rd (rd_L1 ((rd_T27 l0 0).f3) (ji26)) 0) ≥ (rd (rd_L1 ((rd_T27 l0 0).f3) x3_2) 0))), (by first | rfl | (simp; done) | (simp only [← hji26] <;> (first | rfl | simp)) | (simp [*]; done)), H', ⟨by have := HJ1.out; have := HK2.out; first | omega | exact Nat.le_refl _⟩, ⟨by repeat (first | (with_reducible first | exact HB.out | apply below_alloc | apply pw_below_drewN | apply below_drew1) | exact HB.out)⟩⟩
                    ·rw [if_neg c29] at H
                     exact absurd H (by simp)
                   ·rw [if_neg c28] at H
                    exact absurd H (by simp)
                  ·rw [if_neg c27] at H
                   exact absurd H (by simp)
                 ·rw [if_neg c25] at H
                  have c25b0 : decide (0 < x3_2) = false := decide_eq_false c25
                  clear c25
                  have H' := Aside0.mk H
                  clear H
                  try go_wp2
                  have n0_ := Aside0.mk (below_drew1 HB.out)
                  clear HB
                  have HB := n0_
                  clear n0_
                  have p146 : 0 ≤ (0 : Int) := (by omega)
                  have q146 : 0 < ((rd_L1 ((rd_T27 l0 0).f3) x3_2).length : Int) := of_decide_eq_true (by first | (with_reducible assumption) | assumption)
                  obtain ⟨ad146, e146, hx146_0⟩ := Kd.at_int HR145_0.out 0 p146 q146
                  have hw146_0 := hx146_0
                  (try rw [show ((0 : Int)).toNat = 0 from rfl] at hw146_0)
                  (try rw [show 0 * 1 = 0 from rfl] at hw146_0)
                  (try rw [Addr.add_zero'] at hw146_0)
                  cases e146
                  have qi146 : (0 < (rd_L1 ((rd_T27 l0 0).f3) x3_2).length) = True := eq_true (by omega)
                  (try rw [show ((0 : Int)).toNat = 0 from rfl] at hx146_0)
                  (try rw [Addr.add_zero'] at hx146_0)
                  replace hx146_0 := (HB.out.cell (World.block_lt_of_cell? w _ hx146_0)).trans hx146_0
                  replace p146 := eq_true p146
                  replace q146 := eq_true q146
                  have p148 : 0 ≤ (1 : Int) := (by omega)
                  have q148 : 1 < ((rd_L1 ((rd_T27 l0 0).f3) x3_2).length : Int) := of_decide_eq_true (by first | (with_reducible assumption) | assumption)
                  obtain ⟨ad148, e148, hx148_0⟩ := Kd.at_int HR145_0.out 1 p148 q148
                  have hw148_0 := hx148_0
                  (try rw [show ((1 : Int)).toNat = 1 from rfl] at hw148_0)
                  (try rw [show 1 * 1 = 1 from rfl] at hw148_0)
                  (try simp only [Nat.reduceMul, Nat.reduceEqDiff, Go.Addr.add, ↓reduceIte] at hw148_0)
                  obtain rfl : ad146 = ad148 := (by injection e148)
                  (try simp only [show (1 : Int).toNat = 1 from rfl, Nat.reduceMul, Nat.reduceEqDiff, Go.Addr.add, ↓reduceIte] at hx148_0)
                  have qi148 : (1 < (rd_L1 ((rd_T27 l0 0).f3) x3_2).length) = True := eq_true (by omega)
                  (try rw [show ((1 : Int)).toNat = 1 from rfl] at hx148_0)
                  replace hx148_0 := (HB.out.cell (World.block_lt_of_cell? w _ hx148_0)).trans hx148_0
                  replace p148 := eq_true p148
                  replace q148 := eq_true q148
                  have p150 : 0 ≤ (0 : Int) := (by omega)
                  have q150 : 0 < ((rd_L1 ((rd_T27 l0 0).f3) x3_2).length : Int) := of_decide_eq_true (by first | (with_reducible assumption) | assumption)
                  obtain ⟨ad150, e150, hx150_0⟩ := Kd.at_int HR145_0.out 0 p150 q150
                  have hw150_0 := hx150_0
                  (try rw [show ((0 : Int)).toNat = 0 from rfl] at hw150_0)
                  (try rw [show 0 * 1 = 0 from rfl] at hw150_0)
                  (try rw [Addr.add_zero'] at hw150_0)
                  obtain rfl : ad146 = ad150 := (by injection e150)
                  have qi150 : (0 < (rd_L1 ((rd_T27 l0 0).f3) x3_2).length) = True := eq_true (by omega)
                  (try rw [show ((0 : Int)).toNat = 0 from rfl] at hx150_0)
                  (try rw [Addr.add_zero'] at hx150_0)
                  replace hx150_0 := (HB.out.cell (World.block_lt_of_cell? w _ hx150_0)).trans hx150_0
                  replace p150 := eq_true p150
                  replace q150 := eq_true q150
                  refine start_ (n := 47) (S := fun w' => w'.cell? ad146 = some (.int .i64 (rd (rd_L1 ((rd_T27 l0 0).f3) x3_2) 0)) ∧ w'.cell? ⟨ad146.block, ad146.off + 1, none⟩ = some (.int .i64 (rd (rd_L1 ((rd_T27 l0 0).f3) x3_2) 1)) ∧ w'.cell? ad146 = some (.int .i64 (rd (rd_L1 ((rd_T27 l0 0).f3) x3_2) 0))) (ds := []) (tf 0 47) (by kernel_rfl) rfl rfl ⟨((HB.out.cell (World.block_lt_of_cell? w _ hw146_0)).trans hw146_0), ((HB.out.cell (World.block_lt_of_cell? w _ hw148_0)).trans hw148_0), ((HB.out.cell (World.block_lt_of_cell? w _ hw150_0)).trans hw150_0)⟩ (fun hHeld => ?_); refine with_tabW spec_l21Ok.tab7 spec_l21Ok.bits7 (fun HT_ HW_ => ?_)
                  generalize wr.drew = w31 at HB hx146_0 hx148_0 hx150_0 hHeld ⊢
                  refine px 0 (some 52) (tf 1 47) HT_ ?_
                  refine px 1 (some 53) (tf 2 47) HT_ ?_
                  refine px 2 (some 54) (tf 3 47) HT_ ?_
                  refine px 3 (some 55) (tf 4 47) HT_ ?_
                  refine px 4 (some 56) (tf 5 47) HT_ ?_
                  refine px 5 (some 57) (tf 6 47) HT_ ?_
                  refine tx (v := ?_) 6 (some 58) (tf 7 47) HT_ HW_ hHeld ?_ ?_
                  rotate_left; (· rintro w' ⟨s0, s1, s2⟩; go_simp; with_reducible rfl)
                  refine one_ (i := 7) (N := some 59) (tf 8 47) rfl rfl (one_of HT_.out (by kernel_rfl)) (by decide) (fun K hK => ?_)
                  refine goes_ Try.func60 (by kernel_rfl) rfl #[.int .i64 (rd (rd_L1 ((rd_T27 l0 0).f3) x3_2) 0), .int .i64 0, .int .i64 1000000] (by rfl) rfl rfl (by (try simp only [List.map_toArray, List.map_cons, List.map_nil]); first | done | rfl | (simp only [List.length_drop, List.length_take]; rfl)) ?_
                  with_reducible refine (spec_l00In.calls (rd (rd_L1 ((rd_T27 l0 0).f3) x3_2) 0) 0 1000000 true _ A18.out).mono ?_
                  rintro e w' ⟨rfl, ⟨nd, rfl⟩⟩
                  refine ⟨_, rfl, ?_⟩
                  refine hK.out _ _ ⟨((HB.out.cell (World.block_lt_of_cell? w _ hw146_0)).trans hw146_0), ((HB.out.cell (World.block_lt_of_cell? w _ hw148_0)).trans hw148_0), ((HB.out.cell (World.block_lt_of_cell? w _ hw150_0)).trans hw150_0)⟩ (fun hHeld => ?_)
                  clear hK K
                  refine norm_ (a' := ?_) ?_ ?_
                  rotate_left
                  ·show Act.put _ (some 59) _ = _
                   simp only [Act.put, List.setIfInBounds_toArray, List.set_cons_zero, List.set_cons_succ, i64_w, i32_w]
                   rfl
                  refine px 8 (some 60) (tf 9 47) HT_ ?_
                  refine px 9 (some 61) (tf 10 47) HT_ ?_
                  refine px 10 (some 62) (tf 11 47) HT_ ?_
                  refine px 11 (some 63) (tf 12 47) HT_ ?_
                  refine px 12 (some 64) (tf 13 47) HT_ ?_
                  refine tx (v := ?_) 13 (some 65) (tf 14 47) HT_ HW_ hHeld ?_ ?_
                  rotate_left; (· rintro w' ⟨s0, s1, s2⟩; go_simp; with_reducible rfl)
                  refine one_ (i := 14) (N := some 66) (tf 15 47) rfl rfl (one_of HT_.out (by kernel_rfl)) (by decide) (fun K hK => ?_)
                  refine goes_ Try.func60 (by kernel_rfl) rfl #[.int .i64 (rd (rd_L1 ((rd_T27 l0 0).f3) x3_2) 1), .int .i64 0, .int .i64 10000] (by rfl) rfl rfl (by (try simp only [List.map_toArray, List.map_cons, List.map_nil]); first | done | rfl | (simp only [List.length_drop, List.length_take]; rfl)) ?_
                  with_reducible refine (spec_l00In.calls (rd (rd_L1 ((rd_T27 l0 0).f3) x3_2) 1) 0 10000 true _ A21.out).mono ?_
                  rintro e w' ⟨rfl, ⟨nd, rfl⟩⟩
                  refine ⟨_, rfl, ?_⟩
                  refine hK.out _ _ ⟨((HB.out.cell (World.block_lt_of_cell? w _ hw146_0)).trans hw146_0), ((HB.out.cell (World.block_lt_of_cell? w _ hw148_0)).trans hw148_0), ((HB.out.cell (World.block_lt_of_cell? w _ hw150_0)).trans hw150_0)⟩ (fun hHeld => ?_)
                  clear hK K
                  refine norm_ (a' := ?_) ?_ ?_
                  rotate_left
                  ·show Act.put _ (some 66) _ = _
                   simp only [Act.put, List.setIfInBounds_toArray, List.set_cons_zero, List.set_cons_succ, i64_w, i32_w]
                   rfl
                  refine px 15 (some 67) (tf 16 47) HT_ ?_
                  refine px 16 (some 68) (tf 17 47) HT_ ?_
                  refine px 17 (some 69) (tf 18 47) HT_ ?_
                  refine px 18 (some 70) (tf 19 47) HT_ ?_
                  refine px 19 (some 71) (tf 20 47) HT_ ?_
                  refine px 20 (some 72) (tf 21 47) HT_ ?_
                  refine px 21 (some 73) (tf 22 47) HT_ ?_
                  refine px 22 (some 74) (tf 23 47) HT_ ?_
                  refine tx (v := ?_) 23 (some 75) (tf 24 47) HT_ HW_ hHeld ?_ ?_
                  rotate_left; (· rintro w' ⟨s0, s1, s2⟩; go_simp; with_reducible rfl)
                  refine px 24 (some 76) (tf 25 47) HT_ ?_
                  refine px 25 (some 77) (tf 26 47) HT_ ?_
                  refine px 26 (some 78) (tf 27 47) HT_ ?_
                  refine px 27 (some 79) (tf 28 47) HT_ ?_
                  refine px 28 (some 80) (tf 29 47) HT_ ?_
                  refine px 29 (some 81) (tf 30 47) HT_ ?_
                  refine px 30 (some 82) (tf 31 47) HT_ ?_
                  refine sx 31 (some 83) (tf 32 47) HT_ ?_
                  refine sx 32 (some 84) (tf 33 47) HT_ ?_
                  refine sx 33 (some 85) (tf 34 47) HT_ ?_
                  refine sx 34 (some 86) (tf 35 47) HT_ ?_
                  refine sx 35 (some 87) (tf 36 47) HT_ ?_
                  refine sx 36 (some 88) (tf 37 47) HT_ ?_
                  refine sx 37 (some 89) (tf 38 47) HT_ ?_
                  refine sx 38 (some 90) (tf 39 47) HT_ ?_
                  refine sx 39 (some 91) (tf 40 47) HT_ ?_
                  refine sx 40 (some 92) (tf 41 47) HT_ ?_
                  refine sx 41 (some 93) (tf 42 47) HT_ ?_
                  refine sx 42 (some 94) (tf 43 47) HT_ ?_
                  refine sx 43 (some 95) (tf 44 47) HT_ ?_
                  refine sx 44 (some 96) (tf 45 47) HT_ ?_
                  refine px 45 (some 97) (tf 46 47) HT_ ?_
                  refine px 46 (some 98) (tf 47 47) HT_ ?_
                  refine done_ (done_of HT_.out (by kernel_rfl)) ?_
                  try go_wp2
                  go_meet
                  case rel => exact ⟨_, (false), (by first | rfl | (simp; done) | (simp [*]; done)), H', ⟨by have := HJ1.out; have := HK2.out; first | omega | exact Nat.le_refl _⟩, ⟨by repeat (first | (with_reducible first | exact HB.out | apply below_alloc | apply pw_below_drewN | apply below_drew1) | exact HB.out)⟩⟩
                ·rw [if_neg c24] at H
                 have c24b0 : ((rd (rd_L1 ((rd_T27 l0 0).f3) x3_2) 0) == 0) = false := beq_eq_false_iff_ne.mpr c24
                 have c24b1 : ((rd (rd_L1 ((rd_T27 l0 0).f3) x3_2) 0) != 0) = true := bne_iff_ne.mpr c24
                 have H' := Aside0.mk H
                 clear H
                 try go_wp2
                 have n0_ := Aside0.mk (below_drew1 HB.out)
                 clear HB
                 have HB := n0_
                 clear n0_
                 have p146 : 0 ≤ (0 : Int) := (by omega)
                 have q146 : 0 < ((rd_L1 ((rd_T27 l0 0).f3) x3_2).length : Int) := of_decide_eq_true (by first | (with_reducible assumption) | assumption)
                 obtain ⟨ad146, e146, hx146_0⟩ := Kd.at_int HR145_0.out 0 p146 q146
                 have hw146_0 := hx146_0
                 (try rw [show ((0 : Int)).toNat = 0 from rfl] at hw146_0)
                 (try rw [show 0 * 1 = 0 from rfl] at hw146_0)
                 (try rw [Addr.add_zero'] at hw146_0)
                 cases e146
                 have qi146 : (0 < (rd_L1 ((rd_T27 l0 0).f3) x3_2).length) = True := eq_true (by omega)
                 (try rw [show ((0 : Int)).toNat = 0 from rfl] at hx146_0)
                 (try rw [Addr.add_zero'] at hx146_0)
                 replace hx146_0 := (HB.out.cell (World.block_lt_of_cell? w _ hx146_0)).trans hx146_0
                 replace p146 := eq_true p146
                 replace q146 := eq_true q146
                 have p148 : 0 ≤ (1 : Int) := (by omega)
                 have q148 : 1 < ((rd_L1 ((rd_T27 l0 0).f3) x3_2).length : Int) := of_decide_eq_true (by first | (with_reducible assumption) | assumption)
                 obtain ⟨ad148, e148, hx148_0⟩ := Kd.at_int HR145_0.out 1 p148 q148
                 have hw148_0 := hx148_0
                 (try rw [show ((1 : Int)).toNat = 1 from rfl] at hw148_0)
                 (try rw [show 1 * 1 = 1 from rfl] at hw148_0)
                 (try simp only [Nat.reduceMul, Nat.reduceEqDiff, Go.Addr.add, ↓reduceIte] at hw148_0)
                 obtain rfl : ad146 = ad148 := (by injection e148)
                 (try simp only [show (1 : Int).toNat = 1 from rfl, Nat.reduceMul, Nat.reduceEqDiff, Go.Addr.add, ↓reduceIte] at hx148_0)
                 have qi148 : (1 < (rd_L1 ((rd_T27 l0 0).f3) x3_2).length) = True := eq_true (by omega)
                 (try rw [show ((1 : Int)).toNat = 1 from rfl] at hx148_0)
                 replace hx148_0 := (HB.out.cell (World.block_lt_of_cell? w _ hx148_0)).trans hx148_0
                 replace p148 := eq_true p148
                 replace q148 := eq_true q148
                 have p150 : 0 ≤ (0 : Int) := (by omega)
                 have q150 : 0 < ((rd_L1 ((rd_T27 l0 0).f3) x3_2).length : Int) := of_decide_eq_true (by first | (with_reducible assumption) | assumption)
                 obtain ⟨ad150, e150, hx150_0⟩ := Kd.at_int HR145_0.out 0 p150 q150
                 have hw150_0 := hx150_0
                 (try rw [show ((0 : Int)).toNat = 0 from rfl] at hw150_0)
                 (try rw [show 0 * 1 = 0 from rfl] at hw150_0)
                 (try rw [Addr.add_zero'] at hw150_0)
                 obtain rfl : ad146 = ad150 := (by injection e150)
                 have qi150 : (0 < (rd_L1 ((rd_T27 l0 0).f3) x3_2).length) = True := eq_true (by omega)
                 (try rw [show ((0 : Int)).toNat = 0 from rfl] at hx150_0)
                 (try rw [Addr.add_zero'] at hx150_0)
                 replace hx150_0 := (HB.out.cell (World.block_lt_of_cell? w _ hx150_0)).trans hx150_0
                 replace p150 := eq_true p150
                 replace q150 := eq_true q150
                 refine start_ (n := 47) (S := fun w' => w'.cell? ad146 = some (.int .i64 (rd (rd_L1 ((rd_T27 l0 0).f3) x3_2) 0)) ∧ w'.cell? ⟨ad146.block, ad146.off + 1, none⟩ = some (.int .i64 (rd (rd_L1 ((rd_T27 l0 0).f3) x3_2) 1)) ∧ w'.cell? ad146 = some (.int .i64 (rd (rd_L1 ((rd_T27 l0 0).f3) x3_2) 0))) (ds := []) (tf 0 47) (by kernel_rfl) rfl rfl ⟨((HB.out.cell (World.block_lt_of_cell? w _ hw146_0)).trans hw146_0), ((HB.out.cell (World.block_lt_of_cell? w _ hw148_0)).trans hw148_0), ((HB.out.cell (World.block_lt_of_cell? w _ hw150_0)).trans hw150_0)⟩ (fun hHeld => ?_); refine with_tabW spec_l21Ok.tab7 spec_l21Ok.bits7 (fun HT_ HW_ => ?_)
                 generalize wr.drew = w32 at HB hx146_0 hx148_0 hx150_0 hHeld ⊢
                 refine px 0 (some 52) (tf 1 47) HT_ ?_
                 refine px 1 (some 53) (tf 2 47) HT_ ?_
                 refine px 2 (some 54) (tf 3 47) HT_ ?_
                 refine px 3 (some 55) (tf 4 47) HT_ ?_
                 refine px 4 (some 56) (tf 5 47) HT_ ?_
                 refine px 5 (some 57) (tf 6 47) HT_ ?_
                 refine tx (v := ?_) 6 (some 58) (tf 7 47) HT_ HW_ hHeld ?_ ?_
                 rotate_left; (· rintro w' ⟨s0, s1, s2⟩; go_simp; with_reducible rfl)
                 refine one_ (i := 7) (N := some 59) (tf 8 47) rfl rfl (one_of HT_.out (by kernel_rfl)) (by decide) (fun K hK => ?_)
                 refine goes_ Try.func60 (by kernel_rfl) rfl #[.int .i64 (rd (rd_L1 ((rd_T27 l0 0).f3) x3_2) 0), .int .i64 0, .int .i64 1000000] (by rfl) rfl rfl (by (try simp only [List.map_toArray, List.map_cons, List.map_nil]); first | done | rfl | (simp only [List.length_drop, List.length_take]; rfl)) ?_
                 with_reducible refine (spec_l00In.calls (rd (rd_L1 ((rd_T27 l0 0).f3) x3_2) 0) 0 1000000 true _ A18.out).mono ?_
                 rintro e w' ⟨rfl, ⟨nd, rfl⟩⟩
                 refine ⟨_, rfl, ?_⟩
                 refine hK.out _ _ ⟨((HB.out.cell (World.block_lt_of_cell? w _ hw146_0)).trans hw146_0), ((HB.out.cell (World.block_lt_of_cell? w _ hw148_0)).trans hw148_0), ((HB.out.cell (World.block_lt_of_cell? w _ hw150_0)).trans hw150_0)⟩ (fun hHeld => ?_)
                 clear hK K
                 refine norm_ (a' := ?_) ?_ ?_
                 rotate_left
                 ·show Act.put _ (some 59) _ = _
                  simp only [Act.put, List.setIfInBounds_toArray, List.set_cons_zero, List.set_cons_succ, i64_w, i32_w]
                  rfl
                 refine px 8 (some 60) (tf 9 47) HT_ ?_
                 refine px 9 (some 61) (tf 10 47) HT_ ?_
                 refine px 10 (some 62) (tf 11 47) HT_ ?_
                 refine px 11 (some 63) (tf 12 47) HT_ ?_
                 refine px 12 (some 64) (tf 13 47) HT_ ?_
                 refine tx (v := ?_) 13 (some 65) (tf 14 47) HT_ HW_ hHeld ?_ ?_
                 rotate_left; (· rintro w' ⟨s0, s1, s2⟩; go_simp; with_reducible rfl)
                 refine one_ (i := 14) (N := some 66) (tf 15 47) rfl rfl (one_of HT_.out (by kernel_rfl)) (by decide) (fun K hK => ?_)
                 refine goes_ Try.func60 (by kernel_rfl) rfl #[.int .i64 (rd (rd_L1 ((rd_T27 l0 0).f3) x3_2) 1), .int .i64 0, .int .i64 10000] (by rfl) rfl rfl (by (try simp only [List.map_toArray, List.map_cons, List.map_nil]); first | done | rfl | (simp only [List.length_drop, List.length_take]; rfl)) ?_
                 with_reducible refine (spec_l00In.calls (rd (rd_L1 ((rd_T27 l0 0).f3) x3_2) 1) 0 10000 true _ A21.out).mono ?_
                 rintro e w' ⟨rfl, ⟨nd, rfl⟩⟩
                 refine ⟨_, rfl, ?_⟩
                 refine hK.out _ _ ⟨((HB.out.cell (World.block_lt_of_cell? w _ hw146_0)).trans hw146_0), ((HB.out.cell (World.block_lt_of_cell? w _ hw148_0)).trans hw148_0), ((HB.out.cell (World.block_lt_of_cell? w _ hw150_0)).trans hw150_0)⟩ (fun hHeld => ?_)
                 clear hK K
                 refine norm_ (a' := ?_) ?_ ?_
                 rotate_left
                 ·show Act.put _ (some 66) _ = _
                  simp only [Act.put, List.setIfInBounds_toArray, List.set_cons_zero, List.set_cons_succ, i64_w, i32_w]
                  rfl
                 refine px 15 (some 67) (tf 16 47) HT_ ?_
                 refine px 16 (some 68) (tf 17 47) HT_ ?_
                 refine px 17 (some 69) (tf 18 47) HT_ ?_
                 refine px 18 (some 70) (tf 19 47) HT_ ?_
                 refine px 19 (some 71) (tf 20 47) HT_ ?_
                 refine px 20 (some 72) (tf 21 47) HT_ ?_
                 refine px 21 (some 73) (tf 22 47) HT_ ?_
                 refine px 22 (some 74) (tf 23 47) HT_ ?_
                 refine tx (v := ?_) 23 (some 75) (tf 24 47) HT_ HW_ hHeld ?_ ?_
                 rotate_left; (· rintro w' ⟨s0, s1, s2⟩; go_simp; with_reducible rfl)
                 refine px 24 (some 76) (tf 25 47) HT_ ?_
                 refine px 25 (some 77) (tf 26 47) HT_ ?_
                 refine px 26 (some 78) (tf 27 47) HT_ ?_
                 refine px 27 (some 79) (tf 28 47) HT_ ?_
                 refine sx 28 (some 80) (tf 29 47) HT_ ?_
                 refine sx 29 (some 81) (tf 30 47) HT_ ?_
                 refine sx 30 (some 82) (tf 31 47) HT_ ?_
                 refine sx 31 (some 83) (tf 32 47) HT_ ?_
                 refine sx 32 (some 84) (tf 33 47) HT_ ?_
                 refine sx 33 (some 85) (tf 34 47) HT_ ?_
                 refine sx 34 (some 86) (tf 35 47) HT_ ?_
                 refine sx 35 (some 87) (tf 36 47) HT_ ?_
                 refine sx 36 (some 88) (tf 37 47) HT_ ?_
                 refine sx 37 (some 89) (tf 38 47) HT_ ?_
                 refine sx 38 (some 90) (tf 39 47) HT_ ?_
                 refine sx 39 (some 91) (tf 40 47) HT_ ?_
                 refine sx 40 (some 92) (tf 41 47) HT_ ?_
                 refine sx 41 (some 93) (tf 42 47) HT_ ?_
                 refine sx 42 (some 94) (tf 43 47) HT_ ?_
                 refine sx 43 (some 95) (tf 44 47) HT_ ?_
                 refine sx 44 (some 96) (tf 45 47) HT_ ?_
                 refine sx 45 (some 97) (tf 46 47) HT_ ?_
                 refine px 46 (some 98) (tf 47 47) HT_ ?_
                 refine done_ (done_of HT_.out (by kernel_rfl)) ?_
                 try go_wp2
                 go_meet
                 case rel => exact ⟨_, (true), (by first | rfl | (simp; done) | (simp [*]; done)), H', ⟨by have := HJ1.out; have := HK2.out; first | omega | exact Nat.le_refl _⟩, ⟨by repeat (first | (with_reducible first | exact HB.out | apply below_alloc | apply pw_below_drewN | apply below_drew1) | exact HB.out)⟩⟩
               ·rw [if_neg c23] at H
                have c23b0 : (x3_2 == 0) = false := beq_eq_false_iff_ne.mpr c23
                have c23b1 : (x3_2 != 0) = true := bne_iff_ne.mpr c23
                by_cases c33 : x3_2 > 0
                ·rw [if_pos c33] at H
                 have c33b0 : decide (0 < x3_2) = true := decide_eq_true c33
                 clear c33
                 obtain ⟨ji34, hji34⟩ : ∃ j_ : Int, (wrap64 (x3_2 - 1)) = j_ := ⟨_, rfl⟩
                 replace H : (if 0 ≤ (ji34) then (if (ji34) < (((rd_T27 l0 0).f3).length : Int) then (if 0 < ((rd_L1 ((rd_T27 l0 0).f3) (ji34)).length : Int) then (spec_l21Ok.j2 k2 l0 x3_2 (decide ((rd (rd_L1 ((rd_T27 l0 0).f3) (ji34)) 0) ≥ (rd (rd_L1 ((rd_T27 l0 0).f3) x3_2) 0)))) else (none)) else (none)) else (none)) = some r := by first | (rw [hji34] at H; exact H) | (simp only [hji34] at H ⊢; exact H)
                 (try rw [hji34] at A18)
                 (try rw [hji34] at A21)
                 have hji34w : (IntKind.i64.wrap (x3_2 - 1)) = ji34 := (i64_w _).trans hji34
                 (try clear hji26w)
                 by_cases c35 : 0 ≤ (ji34)
                 ·rw [if_pos c35] at H
                  have c35b0 : decide (0 ≤ (ji34)) = true := decide_eq_true c35
                  clear c35
                  by_cases c36 : (ji34) < (((rd_T27 l0 0).f3).length : Int)
                  ·rw [if_pos c36] at H
                   have c36b0 : decide ((ji34) < (((rd_T27 l0 0).f3).length : Int)) = true := decide_eq_true c36
                   clear c36
                   by_cases c37 : 0 < ((rd_L1 ((rd_T27 l0 0).f3) (ji34)).length : Int)
                   ·rw [if_pos c37] at H
                    have c37b0 : decide (0 < ((rd_L1 ((rd_T27 l0 0).f3) (ji34)).length : Int)) = true := decide_eq_true c37
                    have c37b1 : decide (0 < (rd_L1 ((rd_T27 l0 0).f3) (ji34)).length) = true := decide_eq_true (by omega)
                    clear c37
                    have H' := Aside0.mk H
                    clear H
                    try go_wp2
                    have n0_ := Aside0.mk (below_drew1 HB.out)
                    clear HB
                    have HB := n0_
                    clear n0_
                    have p146 : 0 ≤ (0 : Int) := (by omega)
                    have q146 : 0 < ((rd_L1 ((rd_T27 l0 0).f3) x3_2).length : Int) := of_decide_eq_true (by first | (with_reducible assumption) | assumption)
                    obtain ⟨ad146, e146, hx146_0⟩ := Kd.at_int HR145_0.out 0 p146 q146
                    have hw146_0 := hx146_0
                    (try rw [show ((0 : Int)).toNat = 0 from rfl] at hw146_0)
                    (try rw [show 0 * 1 = 0 from rfl] at hw146_0)
                    (try rw [Addr.add_zero'] at hw146_0)
                    cases e146
                    have qi146 : (0 < (rd_L1 ((rd_T27 l0 0).f3) x3_2).length) = True := eq_true (by omega)
                    (try rw [show ((0 : Int)).toNat = 0 from rfl] at hx146_0)
                    (try rw [Addr.add_zero'] at hx146_0)
                    replace hx146_0 := (HB.out.cell (World.block_lt_of_cell? w _ hx146_0)).trans hx146_0
                    replace p146 := eq_true p146
                    replace q146 := eq_true q146
                    have p148 : 0 ≤ (1 : Int) := (by omega)
                    have q148 : 1 < ((rd_L1 ((rd_T27 l0 0).f3) x3_2).length : Int) := of_decide_eq_true (by first | (with_reducible assumption) | assumption)
                    obtain ⟨ad148, e148, hx148_0⟩ := Kd.at_int HR145_0.out 1 p148 q148
                    have hw148_0 := hx148_0
                    (try rw [show ((1 : Int)).toNat = 1 from rfl] at hw148_0)
                    (try rw [show 1 * 1 = 1 from rfl] at hw148_0)
                    (try simp only [Nat.reduceMul, Nat.reduceEqDiff, Go.Addr.add, ↓reduceIte] at hw148_0)
                    obtain rfl : ad146 = ad148 := (by injection e148)
                    (try simp only [show (1 : Int).toNat = 1 from rfl, Nat.reduceMul, Nat.reduceEqDiff, Go.Addr.add, ↓reduceIte] at hx148_0)
                    have qi148 : (1 < (rd_L1 ((rd_T27 l0 0).f3) x3_2).length) = True := eq_true (by omega)
                    (try rw [show ((1 : Int)).toNat = 1 from rfl] at hx148_0)
                    replace hx148_0 := (HB.out.cell (World.block_lt_of_cell? w _ hx148_0)).trans hx148_0
                    replace p148 := eq_true p148
                    replace q148 := eq_true q148
                    have p155 : 0 ≤ (0 : Int) := (by omega)
                    have q155 : 0 < (l0.length : Int) := of_decide_eq_true (by first | (with_reducible assumption) | assumption)
                    obtain ⟨ad155, A155_3, c155_3, e155, hx155_0, hx155_1, hx155_2, hx155_3, hl155_3, hi155_3⟩ := at_T27 HR0.out 0 p155 q155
                    have hw155_3 := hx155_3
                    (try rw [show ((0 : Int)).toNat = 0 from rfl] at hw155_3)
                    (try rw [show 0 * 4 = 0 from rfl] at hw155_3)
                    (try rw [Addr.add_zero'] at hw155_3)
                    have hw155_2 := hx155_2
                    (try rw [show ((0 : Int)).toNat = 0 from rfl] at hw155_2)
                    (try rw [show 0 * 4 = 0 from rfl] at hw155_2)
                    (try rw [Addr.add_zero'] at hw155_2)
                    have hw155_1 := hx155_1
                    (try rw [show ((0 : Int)).toNat = 0 from rfl] at hw155_1)
                    (try rw [show 0 * 4 = 0 from rfl] at hw155_1)
                    (try rw [Addr.add_zero'] at hw155_1)
                    have hw155_0 := hx155_0
                    (try rw [show ((0 : Int)).toNat = 0 from rfl] at hw155_0)
                    (try rw [show 0 * 4 = 0 from rfl] at hw155_0)
                    (try rw [Addr.add_zero'] at hw155_0)
                    obtain rfl : ad143 = ad155 := (by injection e155)
                    have qi155 : (0 < l0.length) = True := eq_true (by omega)
                    (try rw [show ((0 : Int)).toNat = 0 from rfl] at hx155_0)
                    (try rw [show 0 * 4 = 0 from rfl] at hx155_0)
                    (try rw [Addr.add_zero'] at hx155_0)
                    (try rw [show ((0 : Int)).toNat = 0 from rfl] at hx155_1)
                    (try rw [show 0 * 4 = 0 from rfl] at hx155_1)
                    (try rw [Addr.add_zero'] at hx155_1)
                    (try rw [show ((0 : Int)).toNat = 0 from rfl] at hx155_2)
                    (try rw [show 0 * 4 = 0 from rfl] at hx155_2)
                    (try rw [Addr.add_zero'] at hx155_2)
                    (try rw [show ((0 : Int)).toNat = 0 from rfl] at hx155_3)
                    (try rw [show 0 * 4 = 0 from rfl] at hx155_3)
                    (try rw [Addr.add_zero'] at hx155_3)
                    replace hx155_0 := (HB.out.cell (World.block_lt_of_cell? w _ hx155_0)).trans hx155_0
                    replace hx155_1 := (HB.out.cell (World.block_lt_of_cell? w _ hx155_1)).trans hx155_1
                    replace hx155_2 := (HB.out.cell (World.block_lt_of_cell? w _ hx155_2)).trans hx155_2
                    replace hx155_3 := (HB.out.cell (World.block_lt_of_cell? w _ hx155_3)).trans hx155_3
                    have HR155_3 := Aside0.mk hi155_3
                    have HC155_3 := Aside0.mk hl155_3
                    clear hi155_3 hl155_3
                    replace p155 := eq_true p155
                    replace q155 := eq_true q155
                    have p156 : 0 ≤ ((ji34) : Int) := of_decide_eq_true (by first | (with_reducible assumption) | assumption)
                    have q156 : (ji34) < (((rd_T27 l0 0).f3).length : Int) := of_decide_eq_true (by first | (with_reducible assumption) | assumption)
                    obtain ⟨ad156, A156_0, c156_0, e156, hx156_0, hl156_0, hi156_0⟩ := at_L1 HR155_3.out (ji34) p156 q156
                    have hw156_0 := hx156_0
                    cases e156
                    replace hx156_0 := (HB.out.cell (World.block_lt_of_cell? w _ hx156_0)).trans hx156_0
                    have HR156_0 := Aside0.mk hi156_0
                    have HC156_0 := Aside0.mk hl156_0
                    clear hi156_0 hl156_0
                    replace p156 := eq_true p156
                    replace q156 := eq_true q156
                    have p157 : 0 ≤ (0 : Int) := (by omega)
                    have q157 : 0 < ((rd_L1 ((rd_T27 l0 0).f3) (ji34)).length : Int) := of_decide_eq_true (by first | (with_reducible assumption) | assumption)
                    obtain ⟨ad157, e157, hx157_0⟩ := Kd.at_int HR156_0.out 0 p157 q157
                    have hw157_0 := hx157_0
                    (try rw [show ((0 : Int)).toNat = 0 from rfl] at hw157_0)
                    (try rw [show 0 * 1 = 0 from rfl] at hw157_0)
                    (try rw [Addr.add_zero'] at hw157_0)
                    cases e157
                    have qi157 : (0 < (rd_L1 ((rd_T27 l0 0).f3) (ji34)).length) = True := eq_true (by omega)
                    (try rw [show ((0 : Int)).toNat = 0 from rfl] at hx157_0)
                    (try rw [Addr.add_zero'] at hx157_0)
                    replace hx157_0 := (HB.out.cell (World.block_lt_of_cell? w _ hx157_0)).trans hx157_0
                    replace p157 := eq_true p157
                    replace q157 := eq_true q157
                    have p158 : 0 ≤ (0 : Int) := (by omega)
                    have q158 : 0 < ((rd_L1 ((rd_T27 l0 0).f3) x3_2).length : Int) := of_decide_eq_true (by first | (with_reducible assumption) | assumption)
                    obtain ⟨ad158, e158, hx158_0⟩ := Kd.at_int HR145_0.out 0 p158 q158
                    have hw158_0 := hx158_0
                    (try rw [show ((0 : Int)).toNat = 0 from rfl] at hw158_0)
                    (try rw [show 0 * 1 = 0 from rfl] at hw158_0)
                    (try rw [Addr.add_zero'] at hw158_0)
                    obtain rfl : ad146 = ad158 := (by injection e158)
                    have qi158 : (0 < (rd_L1 ((rd_T27 l0 0).f3) x3_2).length) = True := eq_true (by omega)
                    (try rw [show ((0 : Int)).toNat = 0 from rfl] at hx158_0)
                    (try rw [Addr.add_zero'] at hx158_0)
                    replace hx158_0 := (HB.out.cell (World.block_lt_of_cell? w _ hx158_0)).trans hx158_0
                    replace p158 := eq_true p158
                    replace q158 := eq_true q158
                    refine start_ (n := 47) (S := fun w' => w'.cell? ad146 = some (.int .i64 (rd (rd_L1 ((rd_T27 l0 0).f3) x3_2) 0)) ∧ w'.cell? ⟨ad146.block, ad146.off + 1, none⟩ = some (.int .i64 (rd (rd_L1 ((rd_T27 l0 0).f3) x3_2) 1)) ∧ w'.cell? ad143 = some (.string ((rd_T27 l0 0).f0)) ∧ w'.cell? ⟨ad143.block, ad143.off + 1, none⟩ = some (.int .i64 ((rd_T27 l0 0).f1)) ∧ w'.cell? ⟨ad143.block, ad143.off + 2, none⟩ = some (.int .i64 ((rd_T27 l0 0).f2)) ∧ w'.cell? ⟨ad143.block, ad143.off + 3, none⟩ = some (.slice (some ad156) ((rd_T27 l0 0).f3).length c155_3) ∧ w'.cell? (ad156.add ((ji34)).toNat) = some (.slice (some ad157) (rd_L1 ((rd_T27 l0 0).f3) (ji34)).length c156_0) ∧ w'.cell? ad157 = some (.int .i64 (rd (rd_L1 ((rd_T27 l0 0).f3) (ji34)) 0)) ∧ w'.cell? ad146 = some (.int .i64 (rd (rd_L1 ((rd_T27 l0 0).f3) x3_2) 0))) (ds := []) (tf 0 47) (by kernel_rfl) rfl rfl ⟨((HB.out.cell (World.block_lt_of_cell? w _ hw146_0)).trans hw146_0), ((HB.out.cell (World.block_lt_of_cell? w _ hw148_0)).trans hw148_0), ((HB.out.cell (World.block_lt_of_cell? w _ hw155_0)).trans hw155_0), ((HB.out.cell (World.block_lt_of_cell? w _ hw155_1)).trans hw155_1), ((HB.out.cell (World.block_lt_of_cell? w _ hw155_2)).trans hw155_2), ((HB.out.cell (World.block_lt_of_cell? w _ hw155_3)).trans hw155_3), ((HB.out.cell (World.block_lt_of_cell? w _ hw156_0)).trans hw156_0), ((HB.out.cell (World.block_lt_of_cell? w _ hw157_0)).trans hw157_0), ((HB.out.cell (World.block_lt_of_cell? w _ hw158_0)).trans hw158_0)⟩ (fun hHeld => ?_); refine with_tabW spec_l21Ok.tab7 spec_l21Ok.bits7 (fun HT_ HW_ => ?_)
                    generalize wr.drew = w38 at HB HR155_3 HR156_0 hx146_0 hx148_0 hx155_0 hx155_1 hx155_2 hx155_3 hx156_0 hx157_0 hx158_0 hHeld ⊢
                    refine px 0 (some 52) (tf 1 47) HT_ ?_
                    refine px 1 (some 53) (tf 2 47) HT_ ?_
                    refine px 2 (some 54) (tf 3 47) HT_ ?_
                    refine px 3 (some 55) (tf 4 47) HT_ ?_
                    refine px 4 (some 56) (tf 5 47) HT_ ?_
                    refine px 5 (some 57) (tf 6 47) HT_ ?_
                    refine tx (v := ?_) 6 (some 58) (tf 7 47) HT_ HW_ hHeld ?_ ?_
                    rotate_left; (· rintro w' ⟨s0, s1, s2, s3, s4, s5, s6, s7, s8⟩; go_simp; with_reducible rfl)
                    refine one_ (i := 7) (N := some 59) (tf 8 47) rfl rfl (one_of HT_.out (by kernel_rfl)) (by decide) (fun K hK => ?_)
                    refine goes_ Try.func60 (by kernel_rfl) rfl #[.int .i64 (rd (rd_L1 ((rd_T27 l0 0).f3) x3_2) 0), .int .i64 0, .int .i64 1000000] (by rfl) rfl rfl (by (try simp only [List.map_toArray, List.map_cons, List.map_nil]); first | done | rfl | (simp only [List.length_drop, List.length_take]; rfl)) ?_
                    with_reducible refine (spec_l00In.calls (rd (rd_L1 ((rd_T27 l0 0).f3) x3_2) 0) 0 1000000 true _ A18.out).mono ?_
                    rintro e w' ⟨rfl, ⟨nd, rfl⟩⟩
                    refine ⟨_, rfl, ?_⟩
                    refine hK.out _ _ ⟨((HB.out.cell (World.block_lt_of_cell? w _ hw146_0)).trans hw146_0), ((HB.out.cell (World.block_lt_of_cell? w _ hw148_0)).trans hw148_0), ((HB.out.cell (World.block_lt_of_cell? w _ hw155_0)).trans hw155_0), ((HB.out.cell (World.block_lt_of_cell? w _ hw155_1)).trans hw155_1), ((HB.out.cell (World.block_lt_of_cell? w _ hw155_2)).trans hw155_2), ((HB.out.cell (World.block_lt_of_cell? w _ hw155_3)).trans hw155_3), ((HB.out.cell (World.block_lt_of_cell? w _ hw156_0)).trans hw156_0), ((HB.out.cell (World.block_lt_of_cell? w _ hw157_0)).trans hw157_0), ((HB.out.cell (World.block_lt_of_cell? w _ hw158_0)).trans hw158_0)⟩ (fun hHeld => ?_)
                    clear hK K
                    refine norm_ (a' := ?_) ?_ ?_
                    rotate_left
                    ·show Act.put _ (some 59) _ = _
                     simp only [Act.put, List.setIfInBounds_toArray, List.set_cons_zero, List.set_cons_succ, i64_w, i32_w]
                     rfl
                    refine px 8 (some 60) (tf 9 47) HT_ ?_
                    refine px 9 (some 61) (tf 10 47) HT_ ?_
                    refine px 10 (some 62) (tf 11 47) HT_ ?_
                    refine px 11 (some 63) (tf 12 47) HT_ ?_
                    refine px 12 (some 64) (tf 13 47) HT_ ?_
                    refine tx (v := ?_) 13 (some 65) (tf 14 47) HT_ HW_ hHeld ?_ ?_
                    rotate_left; (· rintro w' ⟨s0, s1, s2, s3, s4, s5, s6, s7, s8⟩; go_simp; with_reducible rfl)
                    refine one_ (i := 14) (N := some 66) (tf 15 47) rfl rfl (one_of HT_.out (by kernel_rfl)) (by decide) (fun K hK => ?_)
                    refine goes_ Try.func60 (by kernel_rfl) rfl #[.int .i64 (rd (rd_L1 ((rd_T27 l0 0).f3) x3_2) 1), .int .i64 0, .int .i64 10000] (by rfl) rfl rfl (by (try simp only [List.map_toArray, List.map_cons, List.map_nil]); first | done | rfl | (simp only [List.length_drop, List.length_take]; rfl)) ?_
                    with_reducible refine (spec_l00In.calls (rd (rd_L1 ((rd_T27 l0 0).f3) x3_2) 1) 0 10000 true _ A21.out).mono ?_
                    rintro e w' ⟨rfl, ⟨nd, rfl⟩⟩
                    refine ⟨_, rfl, ?_⟩
                    refine hK.out _ _ ⟨((HB.out.cell (World.block_lt_of_cell? w _ hw146_0)).trans hw146_0), ((HB.out.cell (World.block_lt_of_cell? w _ hw148_0)).trans hw148_0), ((HB.out.cell (World.block_lt_of_cell? w _ hw155_0)).trans hw155_0), ((HB.out.cell (World.block_lt_of_cell? w _ hw155_1)).trans hw155_1), ((HB.out.cell (World.block_lt_of_cell? w _ hw155_2)).trans hw155_2), ((HB.out.cell (World.block_lt_of_cell? w _ hw155_3)).trans hw155_3), ((HB.out.cell (World.block_lt_of_cell? w _ hw156_0)).trans hw156_0), ((HB.out.cell (World.block_lt_of_cell? w _ hw157_0)).trans hw157_0), ((HB.out.cell (World.block_lt_of_cell? w _ hw158_0)).trans hw158_0)⟩ (fun hHeld => ?_)
                    clear hK K
                    refine norm_ (a' := ?_) ?_ ?_
                    rotate_left
                    ·show Act.put _ (some 66) _ = _
                     simp only [Act.put, List.setIfInBounds_toArray, List.set_cons_zero, List.set_cons_succ, i64_w, i32_w]
                     rfl
                    refine px 15 (some 67) (tf 16 47) HT_ ?_
                    refine px 16 (some 68) (tf 17 47) HT_ ?_
                    refine px 17 (some 69) (tf 18 47) HT_ ?_
                    refine px 18 (some 70) (tf 19 47) HT_ ?_
                    refine px 19 (some 71) (tf 20 47) HT_ ?_
                    refine px 20 (some 72) (tf 21 47) HT_ ?_
                    refine sx 21 (some 73) (tf 22 47) HT_ ?_
                    refine sx 22 (some 74) (tf 23 47) HT_ ?_
                    refine sx 23 (some 75) (tf 24 47) HT_ ?_
                    refine sx 24 (some 76) (tf 25 47) HT_ ?_
                    refine px 25 (some 77) (tf 26 47) HT_ ?_
                    refine px 26 (some 78) (tf 27 47) HT_ ?_
                    refine px 27 (some 79) (tf 28 47) HT_ ?_
                    refine px 28 (some 80) (tf 29 47) HT_ ?_
                    refine px 29 (some 81) (tf 30 47) HT_ ?_
                    refine px 30 (some 82) (tf 31 47) HT_ ?_
                    refine px 31 (some 83) (tf 32 47) HT_ ?_
                    refine px 32 (some 84) (tf 33 47) HT_ ?_
                    refine px 33 (some 85) (tf 34 47) HT_ ?_
                    refine px 35 (some 87) (tb 47 51539607551) HT_ ?_
                    refine px 36 (some 88) (tb 47 120259084287) HT_ ?_
                    refine px 41 (some 93) (tb 47 2319282339839) HT_ ?_
                    refine px 42 (some 94) (tb 47 6717328850943) HT_ ?_
                    refine tx (v := ?_) 34 (some 86) (tb 47 6734508720127) HT_ HW_ hHeld ?_ ?_
                    rotate_left; (· rintro w' ⟨s0, s1, s2, s3, s4, s5, s6, s7, s8⟩; go_simp; with_reducible rfl)
                    refine px 37 (some 89) (tb 47 6871947673599) HT_ ?_
                    refine tx (v := ?_) 38 (some 90) (tb 47 7146825580543) HT_ HW_ hHeld ?_ ?_
                    rotate_left; (· rintro w' ⟨s0, s1, s2, s3, s4, s5, s6, s7, s8⟩; go_simp; with_reducible rfl)
                    refine px 39 (some 91) (tb 47 7696581394431) HT_ ?_
                    refine tx (v := ?_) 40 (some 92) (tf 43 47) HT_ HW_ hHeld ?_ ?_
                    rotate_left; (· rintro w' ⟨s0, s1, s2, s3, s4, s5, s6, s7, s8⟩; go_simp; with_reducible rfl)
                    refine tx (v := ?_) 43 (some 95) (tf 44 47) HT_ HW_ hHeld ?_ ?_
                    rotate_left; (· rintro w' ⟨s0, s1, s2, s3, s4, s5, s6, s7, s8⟩; go_simp; with_reducible rfl)
                    refine px 44 (some 96) (tf 45 47) HT_ ?_
                    refine px 45 (some 97) (tf 46 47) HT_ ?_
                    refine px 46 (some 98) (tf 47 47) HT_ ?_
                    refine done_ (done_of HT_.out (by kernel_rfl)) ?_
                    try go_wp2
                    go_meet
                    case rel => exact ⟨_, (decide ((rd (rd_L1 ((rd_T27 l0 0).f3) (ji34)) 0) ≥ (rd (rd_L1 ((rd_T27 l0 0).f3) x3_2) 0))), (by first | rfl | (simp; done) | (simp only [← hji34] <;> (first | rfl | simp)) | (simp [*]; done)), H', ⟨by have := HJ1.out; have := HK2.out; first | omega | exact Nat.le_refl _⟩, ⟨by repeat (first | (with_reducible first | exact HB.out | apply below_alloc | apply pw_below_drewN | apply below_drew1) | exact HB.out)⟩⟩
                   ·rw [if_neg c37] at H
                    exact absurd H (by simp)
                  ·rw [if_neg c36] at H
                   exact absurd H (by simp)
                 ·rw [if_neg c35] at H
                  exact absurd H (by simp)
                ·rw [if_neg c33] at H
                 have c33b0 : decide (0 < x3_2) = false := decide_eq_false c33
                 clear c33
                 have H' := Aside0.mk H
                 clear H
                 try go_wp2
                 have n0_ := Aside0.mk (below_drew1 HB.out)
                 clear HB
                 have HB := n0_
                 clear n0_
                 have p146 : 0 ≤ (0 : Int) := (by omega)
                 have q146 : 0 < ((rd_L1 ((rd_T27 l0 0).f3) x3_2).length : Int) := of_decide_eq_true (by first | (with_reducible assumption) | assumption)
                 obtain ⟨ad146, e146, hx146_0⟩ := Kd.at_int HR145_0.out 0 p146 q146
                 have hw146_0 := hx146_0
                 (try rw [show ((0 : Int)).toNat = 0 from rfl] at hw146_0)
                 (try rw [show 0 * 1 = 0 from rfl] at hw146_0)
                 (try rw [Addr.add_zero'] at hw146_0)
                 cases e146
                 have qi146 : (0 < (rd_L1 ((rd_T27 l0 0).f3) x3_2).length) = True := eq_true (by omega)
                 (try rw [show ((0 : Int)).toNat = 0 from rfl] at hx146_0)
                 (try rw [Addr.add_zero'] at hx146_0)
                 replace hx146_0 := (HB.out.cell (World.block_lt_of_cell? w _ hx146_0)).trans hx146_0
                 replace p146 := eq_true p146
                 replace q146 := eq_true q146
                 have p148 : 0 ≤ (1 : Int) := (by omega)
                 have q148 : 1 < ((rd_L1 ((rd_T27 l0 0).f3) x3_2).length : Int) := of_decide_eq_true (by first | (with_reducible assumption) | assumption)
                 obtain ⟨ad148, e148, hx148_0⟩ := Kd.at_int HR145_0.out 1 p148 q148
                 have hw148_0 := hx148_0
                 (try rw [show ((1 : Int)).toNat = 1 from rfl] at hw148_0)
                 (try rw [show 1 * 1 = 1 from rfl] at hw148_0)
                 (try simp only [Nat.reduceMul, Nat.reduceEqDiff, Go.Addr.add, ↓reduceIte] at hw148_0)
                 obtain rfl : ad146 = ad148 := (by injection e148)
                 (try simp only [show (1 : Int).toNat = 1 from rfl, Nat.reduceMul, Nat.reduceEqDiff, Go.Addr.add, ↓reduceIte] at hx148_0)
                 have qi148 : (1 < (rd_L1 ((rd_T27 l0 0).f3) x3_2).length) = True := eq_true (by omega)
                 (try rw [show ((1 : Int)).toNat = 1 from rfl] at hx148_0)
                 replace hx148_0 := (HB.out.cell (World.block_lt_of_cell? w _ hx148_0)).trans hx148_0
                 replace p148 := eq_true p148
                 replace q148 := eq_true q148
                 refine start_ (n := 47) (S := fun w' => w'.cell? ad146 = some (.int .i64 (rd (rd_L1 ((rd_T27 l0 0).f3) x3_2) 0)) ∧ w'.cell? ⟨ad146.block, ad146.off + 1, none⟩ = some (.int .i64 (rd (rd_L1 ((rd_T27 l0 0).f3) x3_2) 1))) (ds := []) (tf 0 47) (by kernel_rfl) rfl rfl ⟨((HB.out.cell (World.block_lt_of_cell? w _ hw146_0)).trans hw146_0), ((HB.out.cell (World.block_lt_of_cell? w _ hw148_0)).trans hw148_0)⟩ (fun hHeld => ?_); refine with_tabW spec_l21Ok.tab7 spec_l21Ok.bits7 (fun HT_ HW_ => ?_)
                 generalize wr.drew = w39 at HB hx146_0 hx148_0 hHeld ⊢
                 refine px 0 (some 52) (tf 1 47) HT_ ?_
                 refine px 1 (some 53) (tf 2 47) HT_ ?_
                 refine px 2 (some 54) (tf 3 47) HT_ ?_
                 refine px 3 (some 55) (tf 4 47) HT_ ?_
                 refine px 4 (some 56) (tf 5 47) HT_ ?_
                 refine px 5 (some 57) (tf 6 47) HT_ ?_
                 refine tx (v := ?_) 6 (some 58) (tf 7 47) HT_ HW_ hHeld ?_ ?_
                 rotate_left; (· rintro w' ⟨s0, s1⟩; go_simp; with_reducible rfl)
                 refine one_ (i := 7) (N := some 59) (tf 8 47) rfl rfl (one_of HT_.out (by kernel_rfl)) (by decide) (fun K hK => ?_)
                 refine goes_ Try.func60 (by kernel_rfl) rfl #[.int .i64 (rd (rd_L1 ((rd_T27 l0 0).f3) x3_2) 0), .int .i64 0, .int .i64 1000000] (by rfl) rfl rfl (by (try simp only [List.map_toArray, List.map_cons, List.map_nil]); first | done | rfl | (simp only [List.length_drop, List.length_take]; rfl)) ?_
                 with_reducible refine (spec_l00In.calls (rd (rd_L1 ((rd_T27 l0 0).f3) x3_2) 0) 0 1000000 true _ A18.out).mono ?_
                 rintro e w' ⟨rfl, ⟨nd, rfl⟩⟩
                 refine ⟨_, rfl, ?_⟩
                 refine hK.out _ _ ⟨((HB.out.cell (World.block_lt_of_cell? w _ hw146_0)).trans hw146_0), ((HB.out.cell (World.block_lt_of_cell? w _ hw148_0)).trans hw148_0)⟩ (fun hHeld => ?_)
                 clear hK K
                 refine norm_ (a' := ?_) ?_ ?_
                 rotate_left
                 ·show Act.put _ (some 59) _ = _
                  simp only [Act.put, List.setIfInBounds_toArray, List.set_cons_zero, List.set_cons_succ, i64_w, i32_w]
                  rfl
                 refine px 8 (some 60) (tf 9 47) HT_ ?_
                 refine px 9 (some 61) (tf 10 47) HT_ ?_
                 refine px 10 (some 62) (tf 11 47) HT_ ?_
                 refine px 11 (some 63) (tf 12 47) HT_ ?_
                 refine px 12 (some 64) (tf 13 47) HT_ ?_
                 refine tx (v := ?_) 13 (some 65) (tf 14 47) HT_ HW_ hHeld ?_ ?_
                 rotate_left; (· rintro w' ⟨s0, s1⟩; go_simp; with_reducible rfl)
                 refine one_ (i := 14) (N := some 66) (tf 15 47) rfl rfl (one_of HT_.out (by kernel_rfl)) (by decide) (fun K hK => ?_)
                 refine goes_ Try.func60 (by kernel_rfl) rfl #[.int .i64 (rd (rd_L1 ((rd_T27 l0 0).f3) x3_2) 1), .int .i64 0, .int .i64 10000] (by rfl) rfl rfl (by (try simp only [List.map_toArray, List.map_cons, List.map_nil]); first | done | rfl | (simp only [List.length_drop, List.length_take]; rfl)) ?_
                 with_reducible refine (spec_l00In.calls (rd (rd_L1 ((rd_T27 l0 0).f3) x3_2) 1) 0 10000 true _ A21.out).mono ?_
                 rintro e w' ⟨rfl, ⟨nd, rfl⟩⟩
                 refine ⟨_, rfl, ?_⟩
                 refine hK.out _ _ ⟨((HB.out.cell (World.block_lt_of_cell? w _ hw146_0)).trans hw146_0), ((HB.out.cell (World.block_lt_of_cell? w _ hw148_0)).trans hw148_0)⟩ (fun hHeld => ?_)
                 clear hK K
                 refine norm_ (a' := ?_) ?_ ?_
                 rotate_left
                 ·show Act.put _ (some 66) _ = _
                  simp only [Act.put, List.setIfInBounds_toArray, List.set_cons_zero, List.set_cons_succ, i64_w, i32_w]
                  rfl
                 refine px 15 (some 67) (tf 16 47) HT_ ?_
                 refine px 16 (some 68) (tf 17 47) HT_ ?_
                 refine px 17 (some 69) (tf 18 47) HT_ ?_
                 refine px 18 (some 70) (tf 19 47) HT_ ?_
                 refine px 19 (some 71) (tf 20 47) HT_ ?_
                 refine px 20 (some 72) (tf 21 47) HT_ ?_
                 refine sx 21 (some 73) (tf 22 47) HT_ ?_
                 refine sx 22 (some 74) (tf 23 47) HT_ ?_
                 refine sx 23 (some 75) (tf 24 47) HT_ ?_
                 refine sx 24 (some 76) (tf 25 47) HT_ ?_
                 refine px 25 (some 77) (tf 26 47) HT_ ?_
                 refine px 26 (some 78) (tf 27 47) HT_ ?_
                 refine px 27 (some 79) (tf 28 47) HT_ ?_
                 refine px 28 (some 80) (tf 29 47) HT_ ?_
                 refine px 29 (some 81) (tf 30 47) HT_ ?_
                 refine px 30 (some 82) (tf 31 47) HT_ ?_
                 refine sx 31 (some 83) (tf 32 47) HT_ ?_
                 refine sx 32 (some 84) (tf 33 47) HT_ ?_
                 refine sx 33 (some 85) (tf 34 47) HT_ ?_
                 refine sx 34 (some 86) (tf 35 47) HT_ ?_
                 refine sx 35 (some 87) (tf 36 47) HT_ ?_
                 refine sx 36 (some 88) (tf 37 47) HT_ ?_
                 refine sx 37 (some 89) (tf 38 47) HT_ ?_
                 refine sx 38 (some 90) (tf 39 47) HT_ ?_
                 refine sx 39 (some 91) (tf 40 47) HT_ ?_
                 refine sx 40 (some 92) (tf 41 47) HT_ ?_
                 refine sx 41 (some 93) (tf 42 47) HT_ ?_
                 refine sx 42 (some 94) (tf 43 47) HT_ ?_
                 refine sx 43 (some 95) (tf 44 47) HT_ ?_
                 refine sx 44 (some 96) (tf 45 47) HT_ ?_
                 refine px 45 (some 97) (tf 46 47) HT_ ?_
                 refine px 46 (some 98) (tf 47 47) HT_ ?_
                 refine done_ (done_of HT_.out (by kernel_rfl)) ?_
                 try go_wp2
                 go_meet
                 case rel => exact ⟨_, (false), (by first | rfl | (simp; done) | (simp [*]; done)), H', ⟨by have := HJ1.out; have := HK2.out; first | omega | exact Nat.le_refl _⟩, ⟨by repeat (first | (with_reducible first | exact HB.out | apply below_alloc | apply pw_below_drewN | apply below_drew1) | exact HB.out)⟩⟩
              ·replace c22 := Bool.eq_false_iff.mpr c22
               subst c22
               have H1 : (spec_l21Ok.j2 k2 l0 x3_2 true) = some r := by rw [if_neg (show ¬ (false = true) by decide)] at H; exact H
               clear H
               have H := H1
               clear H1
               have H' := Aside0.mk H
               clear H
               try go_wp2
               have n0_ := Aside0.mk (below_drew1 HB.out)
               clear HB
               have HB := n0_
               clear n0_
               have p146 : 0 ≤ (0 : Int) := (by omega)
               have q146 : 0 < ((rd_L1 ((rd_T27 l0 0).f3) x3_2).length : Int) := of_decide_eq_true (by first | (with_reducible assumption) | assumption)
               obtain ⟨ad146, e146, hx146_0⟩ := Kd.at_int HR145_0.out 0 p146 q146
               have hw146_0 := hx146_0
               (try rw [show ((0 : Int)).toNat = 0 from rfl] at hw146_0)
               (try rw [show 0 * 1 = 0 from rfl] at hw146_0)
               (try rw [Addr.add_zero'] at hw146_0)
               cases e146
               have qi146 : (0 < (rd_L1 ((rd_T27 l0 0).f3) x3_2).length) = True := eq_true (by omega)
               (try rw [show ((0 : Int)).toNat = 0 from rfl] at hx146_0)
               (try rw [Addr.add_zero'] at hx146_0)
               replace hx146_0 := (HB.out.cell (World.block_lt_of_cell? w _ hx146_0)).trans hx146_0
               replace p146 := eq_true p146
               replace q146 := eq_true q146
               have p148 : 0 ≤ (1 : Int) := (by omega)
               have q148 : 1 < ((rd_L1 ((rd_T27 l0 0).f3) x3_2).length : Int) := of_decide_eq_true (by first | (with_reducible assumption) | assumption)
               obtain ⟨ad148, e148, hx148_0⟩ := Kd.at_int HR145_0.out 1 p148 q148
               have hw148_0 := hx148_0
               (try rw [show ((1 : Int)).toNat = 1 from rfl] at hw148_0)
               (try rw [show 1 * 1 = 1 from rfl] at hw148_0)
               (try simp only [Nat.reduceMul, Nat.reduceEqDiff, Go.Addr.add, ↓reduceIte] at hw148_0)
               obtain rfl : ad146 = ad148 := (by injection e148)
               (try simp only [show (1 : Int).toNat = 1 from rfl, Nat.reduceMul, Nat.reduceEqDiff, Go.Addr.add, ↓reduceIte] at hx148_0)
               have qi148 : (1 < (rd_L1 ((rd_T27 l0 0).f3) x3_2).length) = True := eq_true (by omega)
               (try rw [show ((1 : Int)).toNat = 1 from rfl] at hx148_0)
               replace hx148_0 := (HB.out.cell (World.block_lt_of_cell? w _ hx148_0)).trans hx148_0
               replace p148 := eq_true p148
               replace q148 := eq_true q148
               refine start_ (n := 47) (S := fun w' => w'.cell? ad146 = some (.int .i64 (rd (rd_L1 ((rd_T27 l0 0).f3) x3_2) 0)) ∧ w'.cell? ⟨ad146.block, ad146.off + 1, none⟩ = some (.int .i64 (rd (rd_L1 ((rd_T27 l0 0).f3) x3_2) 1))) (ds := []) (tf 0 47) (by kernel_rfl) rfl rfl ⟨((HB.out.cell (World.block_lt_of_cell? w _ hw146_0)).trans hw146_0), ((HB.out.cell (World.block_lt_of_cell? w _ hw148_0)).trans hw148_0)⟩ (fun hHeld => ?_); refine with_tabW spec_l21Ok.tab7 spec_l21Ok.bits7 (fun HT_ HW_ => ?_)
               generalize wr.drew = w40 at HB hx146_0 hx148_0 hHeld ⊢
               refine px 0 (some 52) (tf 1 47) HT_ ?_
               refine px 1 (some 53) (tf 2 47) HT_ ?_
               refine px 2 (some 54) (tf 3 47) HT_ ?_
               refine px 3 (some 55) (tf 4 47) HT_ ?_
               refine px 4 (some 56) (tf 5 47) HT_ ?_
               refine px 5 (some 57) (tf 6 47) HT_ ?_
               refine tx (v := ?_) 6 (some 58) (tf 7 47) HT_ HW_ hHeld ?_ ?_
               rotate_left; (· rintro w' ⟨s0, s1⟩; go_simp; with_reducible rfl)
               refine one_ (i := 7) (N := some 59) (tf 8 47) rfl rfl (one_of HT_.out (by kernel_rfl)) (by decide) (fun K hK => ?_)
               refine goes_ Try.func60 (by kernel_rfl) rfl #[.int .i64 (rd (rd_L1 ((rd_T27 l0 0).f3) x3_2) 0), .int .i64 0, .int .i64 1000000] (by rfl) rfl rfl (by (try simp only [List.map_toArray, List.map_cons, List.map_nil]); first | done | rfl | (simp only [List.length_drop, List.length_take]; rfl)) ?_
               with_reducible refine (spec_l00In.calls (rd (rd_L1 ((rd_T27 l0 0).f3) x3_2) 0) 0 1000000 true _ A18.out).mono ?_
               rintro e w' ⟨rfl, ⟨nd, rfl⟩⟩
               refine ⟨_, rfl, ?_⟩
               refine hK.out _ _ ⟨((HB.out.cell (World.block_lt_of_cell? w _ hw146_0)).trans hw146_0), ((HB.out.cell (World.block_lt_of_cell? w _ hw148_0)).trans hw148_0)⟩ (fun hHeld => ?_)
               clear hK K
               refine norm_ (a' := ?_) ?_ ?_
               rotate_left
               ·show Act.put _ (some 59) _ = _
                simp only [Act.put, List.setIfInBounds_toArray, List.set_cons_zero, List.set_cons_succ, i64_w, i32_w]
                rfl
               refine px 8 (some 60) (tf 9 47) HT_ ?_
               refine px 9 (some 61) (tf 10 47) HT_ ?_
               refine px 10 (some 62) (tf 11 47) HT_ ?_
               refine px 11 (some 63) (tf 12 47) HT_ ?_
               refine px 12 (some 64) (tf 13 47) HT_ ?_
               refine tx (v := ?_) 13 (some 65) (tf 14 47) HT_ HW_ hHeld ?_ ?_
               rotate_left; (· rintro w' ⟨s0, s1⟩; go_simp; with_reducible rfl)
               refine one_ (i := 14) (N := some 66) (tf 15 47) rfl rfl (one_of HT_.out (by kernel_rfl)) (by decide) (fun K hK => ?_)
               refine goes_ Try.func60 (by kernel_rfl) rfl #[.int .i64 (rd (rd_L1 ((rd_T27 l0 0).f3) x3_2) 1), .int .i64 0, .int .i64 10000] (by rfl) rfl rfl (by (try simp only [List.map_toArray, List.map_cons, List.map_nil]); first | done | rfl | (simp only [List.length_drop, List.length_take]; rfl)) ?_
               with_reducible refine (spec_l00In.calls (rd (rd_L1 ((rd_T27 l0 0).f3) x3_2) 1) 0 10000 false _ A21.out).mono ?_
               rintro e w' ⟨rfl, ⟨nd, rfl⟩⟩
               refine ⟨_, rfl, ?_⟩
               refine hK.out _ _ ⟨((HB.out.cell (World.block_lt_of_cell? w _ hw146_0)).trans hw146_0), ((HB.out.cell (World.block_lt_of_cell? w _ hw148_0)).trans hw148_0)⟩ (fun hHeld => ?_)
               clear hK K
               refine norm_ (a' := ?_) ?_ ?_
               rotate_left
               ·show Act.put _ (some 66) _ = _
                simp only [Act.put, List.setIfInBounds_toArray, List.set_cons_zero, List.set_cons_succ, i64_w, i32_w]
                rfl
               refine px 15 (some 67) (tf 16 47) HT_ ?_
               refine px 16 (some 68) (tf 17 47) HT_ ?_
               refine px 17 (some 69) (tf 18 47) HT_ ?_
               refine sx 18 (some 70) (tf 19 47) HT_ ?_
               refine sx 19 (some 71) (tf 20 47) HT_ ?_
               refine sx 20 (some 72) (tf 21 47) HT_ ?_
               refine sx 21 (some 73) (tf 22 47) HT_ ?_
               refine sx 22 (some 74) (tf 23 47) HT_ ?_
               refine sx 23 (some 75) (tf 24 47) HT_ ?_
               refine sx 24 (some 76) (tf 25 47) HT_ ?_
               refine sx 25 (some 77) (tf 26 47) HT_ ?_
               refine px 26 (some 78) (tf 27 47) HT_ ?_
               refine px 27 (some 79) (tf 28 47) HT_ ?_
               refine sx 28 (some 80) (tf 29 47) HT_ ?_
               refine sx 29 (some 81) (tf 30 47) HT_ ?_
               refine sx 30 (some 82) (tf 31 47) HT_ ?_
               refine sx 31 (some 83) (tf 32 47) HT_ ?_
               refine sx 32 (some 84) (tf 33 47) HT_ ?_
               refine sx 33 (some 85) (tf 34 47) HT_ ?_
               refine sx 34 (some 86) (tf 35 47) HT_ ?_
               refine sx 35 (some 87) (tf 36 47) HT_ ?_
               refine sx 36 (some 88) (tf 37 47) HT_ ?_
               refine sx 37 (some 89) (tf 38 47) HT_ ?_
               refine sx 38 (some 90) (tf 39 47) HT_ ?_
               refine sx 39 (some 91) (tf 40 47) HT_ ?_
               refine sx 40 (some 92) (tf 41 47) HT_ ?_
               refine sx 41 (some 93) (tf 42 47) HT_ ?_
               refine sx 42 (some 94) (tf 43 47) HT_ ?_
               refine sx 43 (some 95) (tf 44 47) HT_ ?_
               refine sx 44 (some 96) (tf 45 47) HT_ ?_
               refine sx 45 (some 97) (tf 46 47) HT_ ?_
               refine px 46 (some 98) (tf 47 47) HT_ ?_
               refine done_ (done_of HT_.out (by kernel_rfl)) ?_
               try go_wp2
               go_meet
               case rel => exact ⟨_, (true), (by first | rfl | (simp; done) | (simp [*]; done)), H', ⟨by have := HJ1.out; have := HK2.out; first | omega | exact Nat.le_refl _⟩, ⟨by repeat (first | (with_reducible first | exact HB.out | apply below_alloc | apply pw_below_drewN | apply below_drew1) | exact HB.out)⟩⟩
             ·rw [if_neg c20] at H
              exact absurd H (by simp)
            ·replace c19 := Bool.eq_false_iff.mpr c19
             subst c19
             have H1 : (spec_l21Ok.j2 k2 l0 x3_2 true) = some r := by rw [if_neg (show ¬ (false = true) by decide)] at H; exact H
             clear H
             have H := H1
             clear H1
             have H' := Aside0.mk H
             clear H
             try go_wp2
             have n0_ := Aside0.mk (below_drew1 HB.out)
             clear HB
             have HB := n0_
             clear n0_
             have p146 : 0 ≤ (0 : Int) := (by omega)
             have q146 : 0 < ((rd_L1 ((rd_T27 l0 0).f3) x3_2).length : Int) := of_decide_eq_true (by first | (with_reducible assumption) | assumption)
             obtain ⟨ad146, e146, hx146_0⟩ := Kd.at_int HR145_0.out 0 p146 q146
             have hw146_0 := hx146_0
             (try rw [show ((0 : Int)).toNat = 0 from rfl] at hw146_0)
             (try rw [show 0 * 1 = 0 from rfl] at hw146_0)
             (try rw [Addr.add_zero'] at hw146_0)
             cases e146
             have qi146 : (0 < (rd_L1 ((rd_T27 l0 0).f3) x3_2).length) = True := eq_true (by omega)
             (try rw [show ((0 : Int)).toNat = 0 from rfl] at hx146_0)
             (try rw [Addr.add_zero'] at hx146_0)
             replace hx146_0 := (HB.out.cell (World.block_lt_of_cell? w _ hx146_0)).trans hx146_0
             replace p146 := eq_true p146
             replace q146 := eq_true q146
             refine start_ (n := 47) (S := fun w' => w'.cell? ad146 = some (.int .i64 (rd (rd_L1 ((rd_T27 l0 0).f3) x3_2) 0))) (ds := []) (tf 0 47) (by kernel_rfl) rfl rfl (((HB.out.cell (World.block_lt_of_cell? w _ hw146_0)).trans hw146_0)) (fun hHeld => ?_); refine with_tabW spec_l21Ok.tab7 spec_l21Ok.bits7 (fun HT_ HW_ => ?_)
             generalize wr.drew = w41 at HB hx146_0 hHeld ⊢
             refine px 0 (some 52) (tf 1 47) HT_ ?_
             refine px 1 (some 53) (tf 2 47) HT_ ?_
             refine px 2 (some 54) (tf 3 47) HT_ ?_
             refine px 3 (some 55) (tf 4 47) HT_ ?_
             refine px 4 (some 56) (tf 5 47) HT_ ?_
             refine px 5 (some 57) (tf 6 47) HT_ ?_
             refine take_ (i := 6) (N := some 58) (v := ?_) (a' := ?_) (tf 7 47) rfl rfl (take_ofW HT_.out HW_.out (by kernel_rfl)) (fun _ _ _ h => h) (Or.inl ⟨by rfl, ?_⟩) hHeld ?_ ?_
             rotate_left
             ·intro w' s0
              go_simp
              with_reducible rfl
             rotate_left; (· simp only [Act.put, List.setIfInBounds_toArray, List.set_cons_zero, List.set_cons_succ, i64_w, i32_w]; rfl)
             refine one_ (i := 7) (N := some 59) (tf 8 47) rfl rfl (one_of HT_.out (by kernel_rfl)) (by decide) (fun K hK => ?_)
             refine goes_ Try.func60 (by kernel_rfl) rfl #[.int .i64 (rd (rd_L1 ((rd_T27 l0 0).f3) x3_2) 0), .int .i64 0, .int .i64 1000000] (by rfl) rfl rfl (by (try simp only [List.map_toArray, List.map_cons, List.map_nil]); first | done | rfl | (simp only [List.length_drop, List.length_take]; rfl)) ?_
             with_reducible refine (spec_l00In.calls (rd (rd_L1 ((rd_T27 l0 0).f3) x3_2) 0) 0 1000000 false _ A18.out).mono ?_
             rintro e w' ⟨rfl, ⟨nd, rfl⟩⟩
             refine ⟨_, rfl, ?_⟩
             refine hK.out _ _ (((HB.out.cell (World.block_lt_of_cell? w _ hw146_0)).trans hw146_0)) (fun hHeld => ?_)
             clear hK K
             refine norm_ (a' := ?_) ?_ ?_
             rotate_left
             ·show Act.put _ (some 59) _ = _
              simp only [Act.put, List.setIfInBounds_toArray, List.set_cons_zero, List.set_cons_succ, i64_w, i32_w]
              rfl
             refine px 8 (some 60) (tf 9 47) HT_ ?_
             refine px 9 (some 61) (tf 10 47) HT_ ?_
             refine px 10 (some 62) (tf 11 47) HT_ ?_
             refine sx 11 (some 63) (tf 12 47) HT_ ?_
             refine sx 12 (some 64) (tf 13 47) HT_ ?_
             refine sx 13 (some 65) (tf 14 47) HT_ ?_
             refine sx 14 (some 66) (tf 15 47) HT_ ?_
             refine sx 15 (some 67) (tf 16 47) HT_ ?_
             refine px 16 (some 68) (tf 17 47) HT_ ?_
             refine px 17 (some 69) (tf 18 47) HT_ ?_
             refine sx 18 (some 70) (tf 19 47) HT_ ?_
             refine sx 19 (some 71) (tf 20 47) HT_ ?_
             refine sx 20 (some 72) (tf 21 47) HT_ ?_
             refine sx 21 (some 73) (tf 22 47) HT_ ?_
             refine sx 22 (some 74) (tf 23 47) HT_ ?_
             refine sx 23 (some 75) (tf 24 47) HT_ ?_
             refine sx 24 (some 76) (tf 25 47) HT_ ?_
             refine sx 25 (some 77) (tf 26 47) HT_ ?_
             refine px 26 (some 78) (tf 27 47) HT_ ?_
             refine px 27 (some 79) (tf 28 47) HT_ ?_
             refine sx 28 (some 80) (tf 29 47) HT_ ?_
             refine sx 29 (some 81) (tf 30 47) HT_ ?_
             refine sx 30 (some 82) (tf 31 47) HT_ ?_
             refine sx 31 (some 83) (tf 32 47) HT_ ?_
             refine sx 32 (some 84) (tf 33 47) HT_ ?_
             refine sx 33 (some 85) (tf 34 47) HT_ ?_
             refine sx 34 (some 86) (tf 35 47) HT_ ?_
             refine sx 35 (some 87) (tf 36 47) HT_ ?_
             refine sx 36 (some 88) (tf 37 47) HT_ ?_
             refine sx 37 (some 89) (tf 38 47) HT_ ?_
             refine sx 38 (some 90) (tf 39 47) HT_ ?_
             refine sx 39 (some 91) (tf 40 47) HT_ ?_
             refine sx 40 (some 92) (tf 41 47) HT_ ?_
             refine sx 41 (some 93) (tf 42 47) HT_ ?_
             refine sx 42 (some 94) (tf 43 47) HT_ ?_
             refine sx 43 (some 95) (tf 44 47) HT_ ?_
             refine sx 44 (some 96) (tf 45 47) HT_ ?_
             refine sx 45 (some 97) (tf 46 47) HT_ ?_
             refine px 46 (some 98) (tf 47 47) HT_ ?_
             refine done_ (done_of HT_.out (by kernel_rfl)) ?_
             try go_wp2
             go_meet
             case rel => exact ⟨_, (true), (by first | rfl | (simp; done) | (simp [*]; done)), H', ⟨by have := HJ1.out; have := HK2.out; first | omega | exact Nat.le_refl _⟩, ⟨by repeat (first | (with_reducible first | exact HB.out | apply below_alloc | apply pw_below_drewN | apply below_drew1) | exact HB.out)⟩⟩
           ·rw [if_neg c17] at H
            exact absurd H (by simp)
          ·rw [if_neg c16] at H
           have c16b0 : (((rd_L1 ((rd_T27 l0 0).f3) x3_2).length : Int) == 2) = false := beq_eq_false_iff_ne.mpr c16
           have c16b1 : (((rd_L1 ((rd_T27 l0 0).f3) x3_2).length : Int) != 2) = true := bne_iff_ne.mpr c16
           (first | rw [c16b0] | (simp only [i64_w, i32_w]; rw [c16b0]) | skip)
           have H' := Aside0.mk H
           clear H
           try go_wp2
           have n0_ := Aside0.mk (below_drew1 HB.out)
           clear HB
           have HB := n0_
           clear n0_
           refine start_ (n := 47) (S := fun w' => True) (ds := []) (tf 0 47) (by kernel_rfl) rfl rfl trivial (fun hHeld => ?_); refine with_tabW spec_l21Ok.tab7 spec_l21Ok.bits7 (fun HT_ HW_ => ?_)
           generalize wr.drew = w42 at HB hHeld ⊢
           refine px 0 (some 52) (tf 1 47) HT_ ?_
           refine px 1 (some 53) (tf 2 47) HT_ ?_
           refine px 2 (some 54) (tf 3 47) HT_ ?_
           refine px 3 (some 55) (tf 4 47) HT_ ?_
           refine sx 4 (some 56) (tf 5 47) HT_ ?_
           refine sx 5 (some 57) (tf 6 47) HT_ ?_
           refine sx 6 (some 58) (tf 7 47) HT_ ?_
           refine sx 7 (some 59) (tf 8 47) HT_ ?_
           refine sx 8 (some 60) (tf 9 47) HT_ ?_
           refine px 9 (some 61) (tf 10 47) HT_ ?_
           refine px 10 (some 62) (tf 11 47) HT_ ?_
           refine sx 11 (some 63) (tf 12 47) HT_ ?_
           refine sx 12 (some 64) (tf 13 47) HT_ ?_
           refine sx 13 (some 65) (tf 14 47) HT_ ?_
           refine sx 14 (some 66) (tf 15 47) HT_ ?_
           refine sx 15 (some 67) (tf 16 47) HT_ ?_
           refine px 16 (some 68) (tf 17 47) HT_ ?_
           refine px 17 (some 69) (tf 18 47) HT_ ?_
           refine sx 18 (some 70) (tf 19 47) HT_ ?_
           refine sx 19 (some 71) (tf 20 47) HT_ ?_
           refine sx 20 (some 72) (tf 21 47) HT_ ?_
           refine sx 21 (some 73) (tf 22 47) HT_ ?_
           refine sx 22 (some 74) (tf 23 47) HT_ ?_
           refine sx 23 (some 75) (tf 24 47) HT_ ?_
           refine sx 24 (some 76) (tf 25 47) HT_ ?_
           refine sx 25 (some 77) (tf 26 47) HT_ ?_
           refine px 26 (some 78) (tf 27 47) HT_ ?_
           refine px 27 (some 79) (tf 28 47) HT_ ?_
           refine sx 28 (some 80) (tf 29 47) HT_ ?_
           refine sx 29 (some 81) (tf 30 47) HT_ ?_
           refine sx 30 (some 82) (tf 31 47) HT_ ?_
           refine sx 31 (some 83) (tf 32 47) HT_ ?_
           refine sx 32 (some 84) (tf 33 47) HT_ ?_
           refine sx 33 (some 85) (tf 34 47) HT_ ?_
           refine sx 34 (some 86) (tf 35 47) HT_ ?_
           refine sx 35 (some 87) (tf 36 47) HT_ ?_
           refine sx 36 (some 88) (tf 37 47) HT_ ?_
           refine sx 37 (some 89) (tf 38 47) HT_ ?_
           refine sx 38 (some 90) (tf 39 47) HT_ ?_
           refine sx 39 (some 91) (tf 40 47) HT_ ?_
           refine sx 40 (some 92) (tf 41 47) HT_ ?_
           refine sx 41 (some 93) (tf 42 47) HT_ ?_
           refine sx 42 (some 94) (tf 43 47) HT_ ?_
           refine sx 43 (some 95) (tf 44 47) HT_ ?_
           refine sx 44 (some 96) (tf 45 47) HT_ ?_
           refine sx 45 (some 97) (tf 46 47) HT_ ?_
           refine px 46 (some 98) (tf 47 47) HT_ ?_
           refine done_ (done_of HT_.out (by kernel_rfl)) ?_
           try go_wp2
           go_meet
           case rel => exact ⟨_, (true), (by first | rfl | (simp; done) | (simp [*]; done)), H', ⟨by have := HJ1.out; have := HK2.out; first | omega | exact Nat.le_refl _⟩, ⟨by repeat (first | (with_reducible first | exact HB.out | apply below_alloc | apply pw_below_drewN | apply below_drew1) | exact HB.out)⟩⟩
         case rest =>
          clear HC15
          try clear c1
          try clear p1
          try clear q1
          try clear hx1
          try clear qi1
          try clear c2
          try clear p2
          try clear c6
          try clear p14
          try clear q14
          try clear hx14
          try clear qi14
          try clear c16
          try clear c16b0
          try clear c16b1
          try clear c17
          try clear c19
          try clear c20
          try clear hx146_0
          try clear p146
          try clear q146
          obtain ⟨kq, x98_14, rfl, HA, HJ14, HB⟩ := hcut
          cases kq with
          | zero => exact absurd HA.out (by simp [spec_l21Ok.j2])
          | succ kj14 =>
           have H := HA.out
           clear HA
           simp only [spec_l21Ok.j2] at H
           by_cases c43 : x98_14 = true
           ·subst c43
            have H1 : (some false) = some r := by rw [if_pos rfl] at H; exact H
            clear H
            have H := H1
            clear H1
            obtain rfl := Option.some.inj H
            go_wp2
            go_ret
            exact ⟨by first | rfl | (rw [Int.tdiv_eq_ediv_of_nonneg (by omega)]; rfl) | (simp [errW_none, errW_some] <;> rfl) | (simp [*, errW_none, errW_some] <;> rfl), by repeat (first | (with_reducible first | exact HB.out | apply below_alloc | apply pw_below_drewN | apply below_drew1) | exact HB.out)⟩
           ·replace c43 := Bool.eq_false_iff.mpr c43
            subst c43
            have H1 : (spec_l21Ok.l0 kj14 l0 (wrap64 (x3_2 + 1))) = some r := by rw [if_neg (show ¬ (false = true) by decide)] at H; exact H
            clear H
            have H := H1
            clear H1
            have H' := Aside0.mk H
            clear H
            go_wp2
            go_roundg kj14
            case measure => have := HJ1.out; have := HK2.out; have := HJ14.out; omega
            case rel => exact ⟨(wrap64 (x3_2 + 1)), (by first | rfl | (simp; done) | (simp [*]; done)), H', ⟨by have := HJ1.out; have := HK2.out; have := HJ14.out; omega⟩, ⟨by repeat (first | (with_reducible first | exact HB.out | apply below_alloc | apply pw_below_drewN | apply below_drew1) | exact HB.out)⟩⟩
        ·rw [if_neg c14] at H
         exact absurd H (by simp)
       ·rw [if_neg c13] at H
        have c13b0 : decide (x3_2 < (((rd_T27 l0 0).f3).length : Int)) = false := decide_eq_false c13
        clear c13
        obtain rfl := Option.some.inj H
        have p143 : 0 ≤ (0 : Int) := (by omega)
        have q143 : 0 < (l0.length : Int) := of_decide_eq_true (by first | (with_reducible assumption) | assumption)
        obtain ⟨ad143, A143_3, c143_3, e143, hx143_0, hx143_1, hx143_2, hx143_3, hl143_3, hi143_3⟩ := at_T27 HR0.out 0 p143 q143
        cases e143
        have qi143 : (0 < l0.length) = True := eq_true (by omega)
        (try rw [show ((0 : Int)).toNat = 0 from rfl] at hx143_0)
        (try rw [show 0 * 4 = 0 from rfl] at hx143_0)
        (try rw [Addr.add_zero'] at hx143_0)
        (try rw [show ((0 : Int)).toNat = 0 from rfl] at hx143_1)
        (try rw [show 0 * 4 = 0 from rfl] at hx143_1)
        (try rw [Addr.add_zero'] at hx143_1)
        (try rw [show ((0 : Int)).toNat = 0 from rfl] at hx143_2)
        (try rw [show 0 * 4 = 0 from rfl] at hx143_2)
        (try rw [Addr.add_zero'] at hx143_2)
        (try rw [show ((0 : Int)).toNat = 0 from rfl] at hx143_3)
        (try rw [show 0 * 4 = 0 from rfl] at hx143_3)
        (try rw [Addr.add_zero'] at hx143_3)
        replace hx143_0 := (HB.out.cell (World.block_lt_of_cell? w _ hx143_0)).trans hx143_0
        replace hx143_1 := (HB.out.cell (World.block_lt_of_cell? w _ hx143_1)).trans hx143_1
        replace hx143_2 := (HB.out.cell (World.block_lt_of_cell? w _ hx143_2)).trans hx143_2
        replace hx143_3 := (HB.out.cell (World.block_lt_of_cell? w _ hx143_3)).trans hx143_3
        have HR143_3 := Aside0.mk hi143_3
        have HC143_3 := Aside0.mk hl143_3
        clear hi143_3 hl143_3
        replace p143 := eq_true p143
        replace q143 := eq_true q143
        go_wp2
        go_ret
        exact ⟨by first | rfl | (rw [Int.tdiv_eq_ediv_of_nonneg (by omega)]; rfl) | (simp [errW_none, errW_some] <;> rfl) | (simp [*, errW_none, errW_some] <;> rfl), by repeat (first | (with_reducible first | exact HB.out | apply below_alloc | apply pw_below_drewN | apply below_drew1) | exact HB.out)⟩
      ·rw [if_neg c12] at H
       exact absurd H (by simp)

end Go.Proofs.Ytdafonbeinildaa.PFnExactHeatWithin
