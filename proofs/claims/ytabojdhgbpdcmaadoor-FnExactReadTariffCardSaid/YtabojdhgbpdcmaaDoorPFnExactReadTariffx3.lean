-- written by wip/xprint.py, a program of this session, for this claim; not trusted: Lean checks it.
import Derived.Test.YtabojdhgbpdcmaaDoorPFnExactReadTariffx0
import Derived.Test.YtabojdhgbpdcmaaDoorPFnExactReadTariffx2
namespace Go.Proofs.YtabojdhgbpdcmaaDoor.PFnExactReadTariff
open Go.RowKit Go.Proofs.YtabojdhgbpdcmaaDoorW.PrintWords Go.Proofs.YtabojdhgbpdcmaaDoorW.PrintLast Go.Proofs.YtabojdhgbpdcmaaDoorW.PrintMore
attribute [local go_sem] leq_less_ max2_int min2_int max_two min_two max_three min_three max_four min_four   -- for this text's walks alone
set_option linter.unusedVariables false
set_option linter.unusedSimpArgs false

/-! ### spec_l21Ok: function 11 -/
mutual
def spec_l21Ok.j0 : Nat → List (S24) → Bool → Option (Bool)
 | 0, _, _ => none
 | k + 1, x0, x35 => if x35 = true then (some false) else (spec_l21Ok.l0 k x0 0)
def spec_l21Ok.l0 : Nat → List (S24) → Int → Option (Bool)
 | 0, _, _ => none
 | k + 1, x0, x3 => if 0 < (x0.length : Int) then (if x3 < (((rd_T24 x0 0).f3).length : Int) then (if 0 ≤ x3 then (if ((rd_L2 ((rd_T24 x0 0).f3) x3).length : Int) = 2 then (if 0 < ((rd_L2 ((rd_T24 x0 0).f3) x3).length : Int) then ((spec_l00In.f (rd (rd_L2 ((rd_T24 x0 0).f3) x3) 0) 0 1000000).bind fun t138 => (if t138 = true then (if 1 < ((rd_L2 ((rd_T24 x0 0).f3) x3).length : Int) then ((spec_l00In.f (rd (rd_L2 ((rd_T24 x0 0).f3) x3) 1) 0 10000).bind fun t140 => (if t140 = true then (if x3 = 0 then (if (rd (rd_L2 ((rd_T24 x0 0).f3) x3) 0) = 0 then (if x3 > 0 then (if 0 ≤ (wrap64 (x3 - 1)) then (if (wrap64 (x3 - 1)) < (((rd_T24 x0 0).f3).length : Int) then (if 0 < ((rd_L2 ((rd_T24 x0 0).f3) (wrap64 (x3 - 1))).length : Int) then (spec_l21Ok.j2 k x0 x3 (decide ((rd (rd_L2 ((rd_T24 x0 0).f3) (wrap64 (x3 - 1))) 0) ≥ (rd (rd_L2 ((rd_T24 x0 0).f3) x3) 0)))) else (none)) else (none)) else (none)) else (spec_l21Ok.j2 k x0 x3 false)) else (spec_l21Ok.j2 k x0 x3 true)) else (if x3 > 0 then (if 0 ≤ (wrap64 (x3 - 1)) then (if (wrap64 (x3 - 1)) < (((rd_T24 x0 0).f3).length : Int) then (if 0 < ((rd_L2 ((rd_T24 x0 0).f3) (wrap64 (x3 - 1))).length : Int) then (spec_l21Ok.j2 k x0 x3 (decide ((rd (rd_L2 ((rd_T24 x0 0).f3) (wrap64 (x3 - 1))) 0) ≥ (rd (rd_L2 ((rd_T24 x0 0).f3) x3) 0)))) else (none)) else (none)) else (none)) else (spec_l21Ok.j2 k x0 x3 false))) else (spec_l21Ok.j2 k x0 x3 true))) else (none)) else (spec_l21Ok.j2 k x0 x3 true))) else (none)) else (spec_l21Ok.j2 k x0 x3 true)) else (none)) else (some true)) else (none)
def spec_l21Ok.j2 : Nat → List (S24) → Int → Bool → Option (Bool)
 | 0, _, _, _ => none
 | k + 1, x0, x3, x98 => if x98 = true then (some false) else (spec_l21Ok.l0 k x0 (wrap64 (x3 + 1)))
end
def spec_l21Ok.f (k : Nat) (l0 : List (S24)) : Option (Bool) := if 0 < (l0.length : Int) then ((spec_l01Name.f k ((rd_T24 l0 0).f0)).bind fun t127 => (if t127 = true then ((spec_l00In.f ((rd_T24 l0 0).f1) 0 1000000).bind fun t129 => (if t129 = true then ((spec_l00In.f ((rd_T24 l0 0).f2) 0 10000).bind fun t131 => (if t131 = true then ((spec_l00In.f (((rd_T24 l0 0).f3).length : Int) 1 6).bind fun t133 => (spec_l21Ok.j0 k l0 (!t133))) else (spec_l21Ok.j0 k l0 true))) else (spec_l21Ok.j0 k l0 true))) else (spec_l21Ok.j0 k l0 true))) else (none)
theorem spec_l21Ok.mono_l : ∀ k, (∀ y0 y1, LeO (spec_l21Ok.j0 k y0 y1) (spec_l21Ok.j0 (k + 1) y0 y1)) ∧ (∀ y0 y1, LeO (spec_l21Ok.l0 k y0 y1) (spec_l21Ok.l0 (k + 1) y0 y1)) ∧ (∀ y0 y1 y2, LeO (spec_l21Ok.j2 k y0 y1 y2) (spec_l21Ok.j2 (k + 1) y0 y1 y2))
 | 0 => ⟨fun _ _ r h => by simp [spec_l21Ok.j0] at h, fun _ _ r h => by simp [spec_l21Ok.l0] at h, fun _ _ _ r h => by simp [spec_l21Ok.j2] at h⟩
 | k + 1 => by
  obtain ⟨ih0, ih1, ih2⟩ := spec_l21Ok.mono_l k
  refine ⟨?_, ?_, ?_⟩
  ·intro y0 y1
   unfold spec_l21Ok.j0
   repeat' first
   | (with_reducible exact ih0 _ _)
   | (with_reducible exact ih1 _ _)
   | (with_reducible exact ih2 _ _ _)
   | (with_reducible exact spec_l01Name.mono _ _)
   | (with_reducible exact LeO.refl _)
   | (with_reducible exact LeO.none _)
   | (with_reducible refine LeO.ite ?_ ?_)
   | (with_reducible refine LeO.bind ?_ (fun _ => ?_))
   | exact ih0 _ _
   | exact ih1 _ _
   | exact ih2 _ _ _
   | exact spec_l01Name.mono _ _
   | exact LeO.none _
   | refine LeO.ite ?_ ?_
   | refine LeO.bind ?_ (fun _ => ?_)
  ·intro y0 y1
   unfold spec_l21Ok.l0
   repeat' first
   | (with_reducible exact ih0 _ _)
   | (with_reducible exact ih1 _ _)
   | (with_reducible exact ih2 _ _ _)
   | (with_reducible exact spec_l01Name.mono _ _)
   | (with_reducible exact LeO.refl _)
   | (with_reducible exact LeO.none _)
   | (with_reducible refine LeO.ite ?_ ?_)
   | (with_reducible refine LeO.bind ?_ (fun _ => ?_))
   | exact ih0 _ _
   | exact ih1 _ _
   | exact ih2 _ _ _
   | exact spec_l01Name.mono _ _
   | exact LeO.none _
   | refine LeO.ite ?_ ?_
   | refine LeO.bind ?_ (fun _ => ?_)
  ·intro y0 y1 y2
   unfold spec_l21Ok.j2
   repeat' first
   | (with_reducible exact ih0 _ _)
   | (with_reducible exact ih1 _ _)
   | (with_reducible exact ih2 _ _ _)
   | (with_reducible exact spec_l01Name.mono _ _)
   | (with_reducible exact LeO.refl _)
   | (with_reducible exact LeO.none _)
   | (with_reducible refine LeO.ite ?_ ?_)
   | (with_reducible refine LeO.bind ?_ (fun _ => ?_))
   | exact ih0 _ _
   | exact ih1 _ _
   | exact ih2 _ _ _
   | exact spec_l01Name.mono _ _
   | exact LeO.none _
   | refine LeO.ite ?_ ?_
   | refine LeO.bind ?_ (fun _ => ?_)
theorem spec_l21Ok.mono : ∀ a0 k, LeO (spec_l21Ok.f k a0) (spec_l21Ok.f (k + 1) a0) := by
 intro a0 k
 obtain ⟨ih0, ih1, ih2⟩ := spec_l21Ok.mono_l k
 unfold spec_l21Ok.f
 repeat' first
   | (with_reducible exact ih0 _ _)
   | (with_reducible exact ih1 _ _)
   | (with_reducible exact ih2 _ _ _)
   | (with_reducible exact spec_l01Name.mono _ _)
   | (with_reducible exact LeO.refl _)
   | (with_reducible exact LeO.none _)
   | (with_reducible refine LeO.ite ?_ ?_)
   | (with_reducible refine LeO.bind ?_ (fun _ => ?_))
   | exact ih0 _ _
   | exact ih1 _ _
   | exact ih2 _ _ _
   | exact spec_l01Name.mono _ _
   | exact LeO.none _
   | refine LeO.ite ?_ ?_
   | refine LeO.bind ?_ (fun _ => ?_)
def spec_l21Ok.T7 : Bool × List (List Nat × List Nat) := (true, [([], []), ([0], [0]), ([1], [1]), ([2], [2]), ([3], [3]), ([4, 3], [3, 4]), ([5, 3], [3, 5]), ([6, 3, 3], [3, 6]), ([7, 3], [3, 7]), ([3, 8], [3, 8]), ([9, 7], [9]), ([10], [10]), ([11, 10], [10, 11]), ([12, 10], [10, 12]), ([13, 10, 10], [10, 13]), ([14, 10], [10, 14]), ([10, 15], [10, 15]), ([16, 14], [16]), ([17], [17]), ([18, 17], [17, 18]), ([19, 17, 17], [17, 19]), ([20], [20]), ([21, 20], [20, 21]), ([22, 20], [20, 22]), ([23, 20], [20, 23]), ([20, 24, 17], [17, 20, 24]), ([17, 25], [17, 25]), ([26, 20], [26]), ([27], [27]), ([28, 27], [27, 28]), ([29, 27, 27], [27, 29]), ([30], [30]), ([31, 30], [30, 31]), ([32, 30], [30, 32]), ([33, 30], [30, 33]), ([30], [30]), ([35, 30], [30, 35]), ([34, 36, 30], [30, 34, 36]), ([37, 30], [30, 37]), ([38, 30], [30, 38]), ([39, 30], [30, 39]), ([30], [30]), ([41, 30], [30, 41]), ([42, 30], [30, 42]), ([40, 43, 30], [30, 40, 43]), ([30, 44, 27], [27, 30, 44]), ([27, 45], [27, 45])])
def spec_l21Ok.B7 : List Nat := [0, 1, 3, 7, 15, 31, 63, 127, 255, 511, 1023, 2047, 4095, 8191, 16383, 32767, 65535, 131071, 262143, 524287, 1048575, 2097151, 4194303, 8388607, 16777215, 33554431, 67108863, 134217727, 268435455, 536870911, 1073741823, 2147483647, 4294967295, 8589934591, 17179869183, 2147483647, 36507222015, 137438953471, 274877906943, 549755813887, 1099511627775, 2147483647, 2201170739199, 6599217250303, 17592186044415, 35184372088831, 70368744177663]
theorem spec_l21Ok.tab7 : rtab .any (opsOf Tryd.f11 7) = spec_l21Ok.T7 := by kernel_rfl
theorem spec_l21Ok.bits7 : waitsOk spec_l21Ok.T7.2 spec_l21Ok.B7 = true := by kernel_rfl
set_option maxHeartbeats 8000000 in
set_option maxRecDepth 100000 in
theorem spec_l21Ok.calls (k : Nat) (A0 : Option Addr) (c0 : Nat) (l0 : List (S24)) (r : Bool) (w : World) (hr0 : Kd.C k24 w A0 l0.length l0) (hc0 : l0.length ≤ c0) (h : spec_l21Ok.f k l0 = some r) :
  Calls Tryd.prog 11 #[.pointer A0] w fun e w' => e = .returned (.bool r) ∧ Below w.heap.size w w' := by
 have HR0 := Aside0.mk hr0
 have HC0 := Aside0.mk hc0
 clear hr0 hc0
 have HB := Aside0.mk (Below.refl w.heap.size w)
 have H : (if 0 < (l0.length : Int) then ((spec_l01Name.f k ((rd_T24 l0 0).f0)).bind fun t127 => (if t127 = true then ((spec_l00In.f ((rd_T24 l0 0).f1) 0 1000000).bind fun t129 => (if t129 = true then ((spec_l00In.f ((rd_T24 l0 0).f2) 0 10000).bind fun t131 => (if t131 = true then ((spec_l00In.f (((rd_T24 l0 0).f3).length : Int) 1 6).bind fun t133 => (spec_l21Ok.j0 k l0 (!t133))) else (spec_l21Ok.j0 k l0 true))) else (spec_l21Ok.j0 k l0 true))) else (spec_l21Ok.j0 k l0 true))) else (none)) = some r := h
 clear h
 have HC2 := Aside0.mk H
 clear H
 go_enter Tryd.func11, Tryd.ntmps11
 go_upto_region 1 with (fail)
 go_cut [35] (fun v35 wc => ∃ (kq : Nat) (x35_1 : Bool), v35 = .bool x35_1 ∧ Aside0 (spec_l21Ok.j0 kq l0 x35_1 = some r) ∧ Aside0 (kq ≤ k) ∧ Aside0 (Below w.heap.size w wc))
 case first =>
  have H := HC2.out
  clear HC2
  by_cases c3 : 0 < (l0.length : Int)
  ·rw [if_pos c3] at H
   have c3b0 : decide (0 < (l0.length : Int)) = true := decide_eq_true c3
   have c3b1 : decide (0 < l0.length) = true := decide_eq_true (by omega)
   clear c3
   (first | rw [c3b0] | (simp only [i64_w, i32_w]; rw [c3b0]) | skip)
   replace H := Option.bind_eq_some_iff.mp H
   obtain ⟨t127, A40, H⟩ := H
   replace H : (if t127 = true then ((spec_l00In.f ((rd_T24 l0 0).f1) 0 1000000).bind fun t129 => (if t129 = true then ((spec_l00In.f ((rd_T24 l0 0).f2) 0 10000).bind fun t131 => (if t131 = true then ((spec_l00In.f (((rd_T24 l0 0).f3).length : Int) 1 6).bind fun t133 => (spec_l21Ok.j0 k l0 (!t133))) else (spec_l21Ok.j0 k l0 true))) else (spec_l21Ok.j0 k l0 true))) else (spec_l21Ok.j0 k l0 true)) = some r := H
   have A4 := Aside0.mk A40
   clear A40
   by_cases c5 : t127 = true
   ·subst c5
    have H1 : ((spec_l00In.f ((rd_T24 l0 0).f1) 0 1000000).bind fun t129 => (if t129 = true then ((spec_l00In.f ((rd_T24 l0 0).f2) 0 10000).bind fun t131 => (if t131 = true then ((spec_l00In.f (((rd_T24 l0 0).f3).length : Int) 1 6).bind fun t133 => (spec_l21Ok.j0 k l0 (!t133))) else (spec_l21Ok.j0 k l0 true))) else (spec_l21Ok.j0 k l0 true))) = some r := by rw [if_pos rfl] at H; exact H
    clear H
    have H := H1
    clear H1
    replace H := Option.bind_eq_some_iff.mp H
    obtain ⟨t129, A60, H⟩ := H
    replace H : (if t129 = true then ((spec_l00In.f ((rd_T24 l0 0).f2) 0 10000).bind fun t131 => (if t131 = true then ((spec_l00In.f (((rd_T24 l0 0).f3).length : Int) 1 6).bind fun t133 => (spec_l21Ok.j0 k l0 (!t133))) else (spec_l21Ok.j0 k l0 true))) else (spec_l21Ok.j0 k l0 true)) = some r := H
    have A6 := Aside0.mk A60
    clear A60
    by_cases c7 : t129 = true
    ·subst c7
     have H1 : ((spec_l00In.f ((rd_T24 l0 0).f2) 0 10000).bind fun t131 => (if t131 = true then ((spec_l00In.f (((rd_T24 l0 0).f3).length : Int) 1 6).bind fun t133 => (spec_l21Ok.j0 k l0 (!t133))) else (spec_l21Ok.j0 k l0 true))) = some r := by rw [if_pos rfl] at H; exact H
     clear H
     have H := H1
     clear H1
     replace H := Option.bind_eq_some_iff.mp H
     obtain ⟨t131, A80, H⟩ := H
     replace H : (if t131 = true then ((spec_l00In.f (((rd_T24 l0 0).f3).length : Int) 1 6).bind fun t133 => (spec_l21Ok.j0 k l0 (!t133))) else (spec_l21Ok.j0 k l0 true)) = some r := H
     have A8 := Aside0.mk A80
     clear A80
     by_cases c9 : t131 = true
     ·subst c9
      have H1 : ((spec_l00In.f (((rd_T24 l0 0).f3).length : Int) 1 6).bind fun t133 => (spec_l21Ok.j0 k l0 (!t133))) = some r := by rw [if_pos rfl] at H; exact H
      clear H
      have H := H1
      clear H1
      replace H := Option.bind_eq_some_iff.mp H
      obtain ⟨t133, A100, H⟩ := H
      replace H : (spec_l21Ok.j0 k l0 (!t133)) = some r := H
      have A10 := Aside0.mk A100
      clear A100
      have H' := Aside0.mk H
      clear H
      have p126 : 0 ≤ (0 : Int) := (by omega)
      have q126 : 0 < (l0.length : Int) := of_decide_eq_true (by first | (with_reducible assumption) | assumption)
      obtain ⟨ad126, A126_3, c126_3, e126, hx126_0, hx126_1, hx126_2, hx126_3, hl126_3, hi126_3⟩ := at_T24 HR0.out 0 p126 q126
      cases e126
      have qi126 : (0 < l0.length) = True := eq_true (by omega)
      (try rw [show ((0 : Int)).toNat = 0 from rfl] at hx126_0)
      (try rw [show 0 * 4 = 0 from rfl] at hx126_0)
      (try rw [Addr.add_zero'] at hx126_0)
      (try rw [show ((0 : Int)).toNat = 0 from rfl] at hx126_1)
      (try rw [show 0 * 4 = 0 from rfl] at hx126_1)
      (try rw [Addr.add_zero'] at hx126_1)
      (try rw [show ((0 : Int)).toNat = 0 from rfl] at hx126_2)
      (try rw [show 0 * 4 = 0 from rfl] at hx126_2)
      (try rw [Addr.add_zero'] at hx126_2)
      (try rw [show ((0 : Int)).toNat = 0 from rfl] at hx126_3)
      (try rw [show 0 * 4 = 0 from rfl] at hx126_3)
      (try rw [Addr.add_zero'] at hx126_3)
      replace hx126_0 := (HB.out.cell (World.block_lt_of_cell? w _ hx126_0)).trans hx126_0
      replace hx126_1 := (HB.out.cell (World.block_lt_of_cell? w _ hx126_1)).trans hx126_1
      replace hx126_2 := (HB.out.cell (World.block_lt_of_cell? w _ hx126_2)).trans hx126_2
      replace hx126_3 := (HB.out.cell (World.block_lt_of_cell? w _ hx126_3)).trans hx126_3
      have HR126_3 := Aside0.mk hi126_3
      have HC126_3 := Aside0.mk hl126_3
      clear hi126_3 hl126_3
      replace p126 := eq_true p126
      replace q126 := eq_true q126
      go_wp2_with (first | ((with_reducible refine gate_callee (f := 20) rfl ?_); refine goesL_ (some 9) rfl rfl Tryd.func20 (by kernel_rfl) rfl #[.string ((rd_T24 l0 0).f0)] rfl (by (try simp only [List.map_toArray, List.map_cons, List.map_nil]); first | done | rfl | (simp only [List.length_drop, List.length_take]; rfl)) ?_; (with_reducible refine (spec_l01Name.calls k ((rd_T24 l0 0).f0) true _ A4.out).mono ?_); rintro e w' ⟨rfl, ⟨nd, rfl⟩⟩; refine ⟨_, rfl, ?_⟩; have p128 : 0 ≤ (0 : Int) := (by omega); have q128 : 0 < (l0.length : Int) := of_decide_eq_true (by first | (with_reducible assumption) | assumption); obtain ⟨ad128, A128_3, c128_3, e128, hx128_0, hx128_1, hx128_2, hx128_3, hl128_3, hi128_3⟩ := at_T24 HR0.out 0 p128 q128; obtain rfl : ad126 = ad128 := (by injection e128); have qi128 : (0 < l0.length) = True := eq_true (by omega); (try rw [show ((0 : Int)).toNat = 0 from rfl] at hx128_0); (try rw [show 0 * 4 = 0 from rfl] at hx128_0); (try rw [Addr.add_zero'] at hx128_0); (try rw [show ((0 : Int)).toNat = 0 from rfl] at hx128_1); (try rw [show 0 * 4 = 0 from rfl] at hx128_1); (try rw [Addr.add_zero'] at hx128_1); (try rw [show ((0 : Int)).toNat = 0 from rfl] at hx128_2); (try rw [show 0 * 4 = 0 from rfl] at hx128_2); (try rw [Addr.add_zero'] at hx128_2); (try rw [show ((0 : Int)).toNat = 0 from rfl] at hx128_3); (try rw [show 0 * 4 = 0 from rfl] at hx128_3); (try rw [Addr.add_zero'] at hx128_3); replace hx128_0 := (HB.out.cell (World.block_lt_of_cell? w _ hx128_0)).trans hx128_0; replace hx128_1 := (HB.out.cell (World.block_lt_of_cell? w _ hx128_1)).trans hx128_1; replace hx128_2 := (HB.out.cell (World.block_lt_of_cell? w _ hx128_2)).trans hx128_2; replace hx128_3 := (HB.out.cell (World.block_lt_of_cell? w _ hx128_3)).trans hx128_3; have HR128_3 := Aside0.mk hi128_3; have HC128_3 := Aside0.mk hl128_3; clear hi128_3 hl128_3; replace p128 := eq_true p128; replace q128 := eq_true q128; have ea_ := Option.some.inj (hx126_3.symm.trans hx128_3); injection ea_ with ea_ en_ ec_; subst ea_; subst ec_; clear en_) | (go_at_call 21; (with_reducible refine (spec_l00In.calls ((rd_T24 l0 0).f1) 0 1000000 true _ A6.out).mono ?_); rintro e w' ⟨rfl, ⟨nd, rfl⟩⟩; have p130 : 0 ≤ (0 : Int) := (by omega); have q130 : 0 < (l0.length : Int) := of_decide_eq_true (by first | (with_reducible assumption) | assumption); obtain ⟨ad130, A130_3, c130_3, e130, hx130_0, hx130_1, hx130_2, hx130_3, hl130_3, hi130_3⟩ := at_T24 HR0.out 0 p130 q130; obtain rfl : ad126 = ad130 := (by injection e130); have qi130 : (0 < l0.length) = True := eq_true (by omega); (try rw [show ((0 : Int)).toNat = 0 from rfl] at hx130_0); (try rw [show 0 * 4 = 0 from rfl] at hx130_0); (try rw [Addr.add_zero'] at hx130_0); (try rw [show ((0 : Int)).toNat = 0 from rfl] at hx130_1); (try rw [show 0 * 4 = 0 from rfl] at hx130_1); (try rw [Addr.add_zero'] at hx130_1); (try rw [show ((0 : Int)).toNat = 0 from rfl] at hx130_2); (try rw [show 0 * 4 = 0 from rfl] at hx130_2); (try rw [Addr.add_zero'] at hx130_2); (try rw [show ((0 : Int)).toNat = 0 from rfl] at hx130_3); (try rw [show 0 * 4 = 0 from rfl] at hx130_3); (try rw [Addr.add_zero'] at hx130_3); replace hx130_0 := (HB.out.cell (World.block_lt_of_cell? w _ hx130_0)).trans hx130_0; replace hx130_1 := (HB.out.cell (World.block_lt_of_cell? w _ hx130_1)).trans hx130_1; replace hx130_2 := (HB.out.cell (World.block_lt_of_cell? w _ hx130_2)).trans hx130_2; replace hx130_3 := (HB.out.cell (World.block_lt_of_cell? w _ hx130_3)).trans hx130_3; have HR130_3 := Aside0.mk hi130_3; have HC130_3 := Aside0.mk hl130_3; clear hi130_3 hl130_3; replace p130 := eq_true p130; replace q130 := eq_true q130; have ea_ := Option.some.inj (hx126_3.symm.trans hx130_3); injection ea_ with ea_ en_ ec_; subst ea_; subst ec_; clear en_) | (go_at_call 21; (with_reducible refine (spec_l00In.calls ((rd_T24 l0 0).f2) 0 10000 true _ A8.out).mono ?_); rintro e w' ⟨rfl, ⟨nd, rfl⟩⟩; have p132 : 0 ≤ (0 : Int) := (by omega); have q132 : 0 < (l0.length : Int) := of_decide_eq_true (by first | (with_reducible assumption) | assumption); obtain ⟨ad132, A132_3, c132_3, e132, hx132_0, hx132_1, hx132_2, hx132_3, hl132_3, hi132_3⟩ := at_T24 HR0.out 0 p132 q132; obtain rfl : ad126 = ad132 := (by injection e132); have qi132 : (0 < l0.length) = True := eq_true (by omega); (try rw [show ((0 : Int)).toNat = 0 from rfl] at hx132_0); (try rw [show 0 * 4 = 0 from rfl] at hx132_0); (try rw [Addr.add_zero'] at hx132_0); (try rw [show ((0 : Int)).toNat = 0 from rfl] at hx132_1); (try rw [show 0 * 4 = 0 from rfl] at hx132_1); (try rw [Addr.add_zero'] at hx132_1); (try rw [show ((0 : Int)).toNat = 0 from rfl] at hx132_2); (try rw [show 0 * 4 = 0 from rfl] at hx132_2); (try rw [Addr.add_zero'] at hx132_2); (try rw [show ((0 : Int)).toNat = 0 from rfl] at hx132_3); (try rw [show 0 * 4 = 0 from rfl] at hx132_3); (try rw [Addr.add_zero'] at hx132_3); replace hx132_0 := (HB.out.cell (World.block_lt_of_cell? w _ hx132_0)).trans hx132_0; replace hx132_1 := (HB.out.cell (World.block_lt_of_cell? w _ hx132_1)).trans hx132_1; replace hx132_2 := (HB.out.cell (World.block_lt_of_cell? w _ hx132_2)).trans hx132_2; replace hx132_3 := (HB.out.cell (World.block_lt_of_cell? w _ hx132_3)).trans hx132_3; have HR132_3 := Aside0.mk hi132_3; have HC132_3 := Aside0.mk hl132_3; clear hi132_3 hl132_3; replace p132 := eq_true p132; replace q132 := eq_true q132; have ea_ := Option.some.inj (hx126_3.symm.trans hx132_3); injection ea_ with ea_ en_ ec_; subst ea_; subst ec_; clear en_) | (go_at_call 21; (with_reducible refine (spec_l00In.calls (((rd_T24 l0 0).f3).length : Int) 1 6 t133 _ A10.out).mono ?_); rintro e w' ⟨rfl, ⟨nd, rfl⟩⟩))
      go_meet
      case rel => exact ⟨_, (!t133), (by first | rfl | (simp; done) | (simp [*]; done)), H', ⟨by first | omega | exact Nat.le_refl _⟩, ⟨by repeat (first | (with_reducible first | exact HB.out | apply below_alloc | apply pw_below_drewN | apply below_drew1) | exact HB.out)⟩⟩
     ·replace c9 := Bool.eq_false_iff.mpr c9
      subst c9
      have H1 : (spec_l21Ok.j0 k l0 true) = some r := by rw [if_neg (show ¬ (false = true) by decide)] at H; exact H
      clear H
      have H := H1
      clear H1
      have H' := Aside0.mk H
      clear H
      have p126 : 0 ≤ (0 : Int) := (by omega)
      have q126 : 0 < (l0.length : Int) := of_decide_eq_true (by first | (with_reducible assumption) | assumption)
      obtain ⟨ad126, A126_3, c126_3, e126, hx126_0, hx126_1, hx126_2, hx126_3, hl126_3, hi126_3⟩ := at_T24 HR0.out 0 p126 q126
      cases e126
      have qi126 : (0 < l0.length) = True := eq_true (by omega)
      (try rw [show ((0 : Int)).toNat = 0 from rfl] at hx126_0)
      (try rw [show 0 * 4 = 0 from rfl] at hx126_0)
      (try rw [Addr.add_zero'] at hx126_0)
      (try rw [show ((0 : Int)).toNat = 0 from rfl] at hx126_1)
      (try rw [show 0 * 4 = 0 from rfl] at hx126_1)
      (try rw [Addr.add_zero'] at hx126_1)
      (try rw [show ((0 : Int)).toNat = 0 from rfl] at hx126_2)
      (try rw [show 0 * 4 = 0 from rfl] at hx126_2)
      (try rw [Addr.add_zero'] at hx126_2)
      (try rw [show ((0 : Int)).toNat = 0 from rfl] at hx126_3)
      (try rw [show 0 * 4 = 0 from rfl] at hx126_3)
      (try rw [Addr.add_zero'] at hx126_3)
      replace hx126_0 := (HB.out.cell (World.block_lt_of_cell? w _ hx126_0)).trans hx126_0
      replace hx126_1 := (HB.out.cell (World.block_lt_of_cell? w _ hx126_1)).trans hx126_1
      replace hx126_2 := (HB.out.cell (World.block_lt_of_cell? w _ hx126_2)).trans hx126_2
      replace hx126_3 := (HB.out.cell (World.block_lt_of_cell? w _ hx126_3)).trans hx126_3
      have HR126_3 := Aside0.mk hi126_3
      have HC126_3 := Aside0.mk hl126_3
      clear hi126_3 hl126_3
      replace p126 := eq_true p126
      replace q126 := eq_true q126
      go_wp2_with (first | ((with_reducible refine gate_callee (f := 20) rfl ?_); refine goesL_ (some 9) rfl rfl Tryd.func20 (by kernel_rfl) rfl #[.string ((rd_T24 l0 0).f0)] rfl (by (try simp only [List.map_toArray, List.map_cons, List.map_nil]); first | done | rfl | (simp only [List.length_drop, List.length_take]; rfl)) ?_; (with_reducible refine (spec_l01Name.calls k ((rd_T24 l0 0).f0) true _ A4.out).mono ?_); rintro e w' ⟨rfl, ⟨nd, rfl⟩⟩; refine ⟨_, rfl, ?_⟩; have p128 : 0 ≤ (0 : Int) := (by omega); have q128 : 0 < (l0.length : Int) := of_decide_eq_true (by first | (with_reducible assumption) | assumption); obtain ⟨ad128, A128_3, c128_3, e128, hx128_0, hx128_1, hx128_2, hx128_3, hl128_3, hi128_3⟩ := at_T24 HR0.out 0 p128 q128; obtain rfl : ad126 = ad128 := (by injection e128); have qi128 : (0 < l0.length) = True := eq_true (by omega); (try rw [show ((0 : Int)).toNat = 0 from rfl] at hx128_0); (try rw [show 0 * 4 = 0 from rfl] at hx128_0); (try rw [Addr.add_zero'] at hx128_0); (try rw [show ((0 : Int)).toNat = 0 from rfl] at hx128_1); (try rw [show 0 * 4 = 0 from rfl] at hx128_1); (try rw [Addr.add_zero'] at hx128_1); (try rw [show ((0 : Int)).toNat = 0 from rfl] at hx128_2); (try rw [show 0 * 4 = 0 from rfl] at hx128_2); (try rw [Addr.add_zero'] at hx128_2); (try rw [show ((0 : Int)).toNat = 0 from rfl] at hx128_3); (try rw [show 0 * 4 = 0 from rfl] at hx128_3); (try rw [Addr.add_zero'] at hx128_3); replace hx128_0 := (HB.out.cell (World.block_lt_of_cell? w _ hx128_0)).trans hx128_0; replace hx128_1 := (HB.out.cell (World.block_lt_of_cell? w _ hx128_1)).trans hx128_1; replace hx128_2 := (HB.out.cell (World.block_lt_of_cell? w _ hx128_2)).trans hx128_2; replace hx128_3 := (HB.out.cell (World.block_lt_of_cell? w _ hx128_3)).trans hx128_3; have HR128_3 := Aside0.mk hi128_3; have HC128_3 := Aside0.mk hl128_3; clear hi128_3 hl128_3; replace p128 := eq_true p128; replace q128 := eq_true q128; have ea_ := Option.some.inj (hx126_3.symm.trans hx128_3); injection ea_ with ea_ en_ ec_; subst ea_; subst ec_; clear en_) | (go_at_call 21; (with_reducible refine (spec_l00In.calls ((rd_T24 l0 0).f1) 0 1000000 true _ A6.out).mono ?_); rintro e w' ⟨rfl, ⟨nd, rfl⟩⟩; have p130 : 0 ≤ (0 : Int) := (by omega); have q130 : 0 < (l0.length : Int) := of_decide_eq_true (by first | (with_reducible assumption) | assumption); obtain ⟨ad130, A130_3, c130_3, e130, hx130_0, hx130_1, hx130_2, hx130_3, hl130_3, hi130_3⟩ := at_T24 HR0.out 0 p130 q130; obtain rfl : ad126 = ad130 := (by injection e130); have qi130 : (0 < l0.length) = True := eq_true (by omega); (try rw [show ((0 : Int)).toNat = 0 from rfl] at hx130_0); (try rw [show 0 * 4 = 0 from rfl] at hx130_0); (try rw [Addr.add_zero'] at hx130_0); (try rw [show ((0 : Int)).toNat = 0 from rfl] at hx130_1); (try rw [show 0 * 4 = 0 from rfl] at hx130_1); (try rw [Addr.add_zero'] at hx130_1); (try rw [show ((0 : Int)).toNat = 0 from rfl] at hx130_2); (try rw [show 0 * 4 = 0 from rfl] at hx130_2); (try rw [Addr.add_zero'] at hx130_2); (try rw [show ((0 : Int)).toNat = 0 from rfl] at hx130_3); (try rw [show 0 * 4 = 0 from rfl] at hx130_3); (try rw [Addr.add_zero'] at hx130_3); replace hx130_0 := (HB.out.cell (World.block_lt_of_cell? w _ hx130_0)).trans hx130_0; replace hx130_1 := (HB.out.cell (World.block_lt_of_cell? w _ hx130_1)).trans hx130_1; replace hx130_2 := (HB.out.cell (World.block_lt_of_cell? w _ hx130_2)).trans hx130_2; replace hx130_3 := (HB.out.cell (World.block_lt_of_cell? w _ hx130_3)).trans hx130_3; have HR130_3 := Aside0.mk hi130_3; have HC130_3 := Aside0.mk hl130_3; clear hi130_3 hl130_3; replace p130 := eq_true p130; replace q130 := eq_true q130; have ea_ := Option.some.inj (hx126_3.symm.trans hx130_3); injection ea_ with ea_ en_ ec_; subst ea_; subst ec_; clear en_) | (go_at_call 21; (with_reducible refine (spec_l00In.calls ((rd_T24 l0 0).f2) 0 10000 false _ A8.out).mono ?_); rintro e w' ⟨rfl, ⟨nd, rfl⟩⟩))
      go_meet
      case rel => exact ⟨_, (true), (by first | rfl | (simp; done) | (simp [*]; done)), H', ⟨by first | omega | exact Nat.le_refl _⟩, ⟨by repeat (first | (with_reducible first | exact HB.out | apply below_alloc | apply pw_below_drewN | apply below_drew1) | exact HB.out)⟩⟩
    ·replace c7 := Bool.eq_false_iff.mpr c7
     subst c7
     have H1 : (spec_l21Ok.j0 k l0 true) = some r := by rw [if_neg (show ¬ (false = true) by decide)] at H; exact H
     clear H
     have H := H1
     clear H1
     have H' := Aside0.mk H
     clear H
     have p126 : 0 ≤ (0 : Int) := (by omega)
     have q126 : 0 < (l0.length : Int) := of_decide_eq_true (by first | (with_reducible assumption) | assumption)
     obtain ⟨ad126, A126_3, c126_3, e126, hx126_0, hx126_1, hx126_2, hx126_3, hl126_3, hi126_3⟩ := at_T24 HR0.out 0 p126 q126
     cases e126
     have qi126 : (0 < l0.length) = True := eq_true (by omega)
     (try rw [show ((0 : Int)).toNat = 0 from rfl] at hx126_0)
     (try rw [show 0 * 4 = 0 from rfl] at hx126_0)
     (try rw [Addr.add_zero'] at hx126_0)
     (try rw [show ((0 : Int)).toNat = 0 from rfl] at hx126_1)
     (try rw [show 0 * 4 = 0 from rfl] at hx126_1)
     (try rw [Addr.add_zero'] at hx126_1)
     (try rw [show ((0 : Int)).toNat = 0 from rfl] at hx126_2)
     (try rw [show 0 * 4 = 0 from rfl] at hx126_2)
     (try rw [Addr.add_zero'] at hx126_2)
     (try rw [show ((0 : Int)).toNat = 0 from rfl] at hx126_3)
     (try rw [show 0 * 4 = 0 from rfl] at hx126_3)
     (try rw [Addr.add_zero'] at hx126_3)
     replace hx126_0 := (HB.out.cell (World.block_lt_of_cell? w _ hx126_0)).trans hx126_0
     replace hx126_1 := (HB.out.cell (World.block_lt_of_cell? w _ hx126_1)).trans hx126_1
     replace hx126_2 := (HB.out.cell (World.block_lt_of_cell? w _ hx126_2)).trans hx126_2
     replace hx126_3 := (HB.out.cell (World.block_lt_of_cell? w _ hx126_3)).trans hx126_3
     have HR126_3 := Aside0.mk hi126_3
     have HC126_3 := Aside0.mk hl126_3
     clear hi126_3 hl126_3
     replace p126 := eq_true p126
     replace q126 := eq_true q126
     go_wp2_with (first | ((with_reducible refine gate_callee (f := 20) rfl ?_); refine goesL_ (some 9) rfl rfl Tryd.func20 (by kernel_rfl) rfl #[.string ((rd_T24 l0 0).f0)] rfl (by (try simp only [List.map_toArray, List.map_cons, List.map_nil]); first | done | rfl | (simp only [List.length_drop, List.length_take]; rfl)) ?_; (with_reducible refine (spec_l01Name.calls k ((rd_T24 l0 0).f0) true _ A4.out).mono ?_); rintro e w' ⟨rfl, ⟨nd, rfl⟩⟩; refine ⟨_, rfl, ?_⟩; have p128 : 0 ≤ (0 : Int) := (by omega); have q128 : 0 < (l0.length : Int) := of_decide_eq_true (by first | (with_reducible assumption) | assumption); obtain ⟨ad128, A128_3, c128_3, e128, hx128_0, hx128_1, hx128_2, hx128_3, hl128_3, hi128_3⟩ := at_T24 HR0.out 0 p128 q128; obtain rfl : ad126 = ad128 := (by injection e128); have qi128 : (0 < l0.length) = True := eq_true (by omega); (try rw [show ((0 : Int)).toNat = 0 from rfl] at hx128_0); (try rw [show 0 * 4 = 0 from rfl] at hx128_0); (try rw [Addr.add_zero'] at hx128_0); (try rw [show ((0 : Int)).toNat = 0 from rfl] at hx128_1); (try rw [show 0 * 4 = 0 from rfl] at hx128_1); (try rw [Addr.add_zero'] at hx128_1); (try rw [show ((0 : Int)).toNat = 0 from rfl] at hx128_2); (try rw [show 0 * 4 = 0 from rfl] at hx128_2); (try rw [Addr.add_zero'] at hx128_2); (try rw [show ((0 : Int)).toNat = 0 from rfl] at hx128_3); (try rw [show 0 * 4 = 0 from rfl] at hx128_3); (try rw [Addr.add_zero'] at hx128_3); replace hx128_0 := (HB.out.cell (World.block_lt_of_cell? w _ hx128_0)).trans hx128_0; replace hx128_1 := (HB.out.cell (World.block_lt_of_cell? w _ hx128_1)).trans hx128_1; replace hx128_2 := (HB.out.cell (World.block_lt_of_cell? w _ hx128_2)).trans hx128_2; replace hx128_3 := (HB.out.cell (World.block_lt_of_cell? w _ hx128_3)).trans hx128_3; have HR128_3 := Aside0.mk hi128_3; have HC128_3 := Aside0.mk hl128_3; clear hi128_3 hl128_3; replace p128 := eq_true p128; replace q128 := eq_true q128; have ea_ := Option.some.inj (hx126_3.symm.trans hx128_3); injection ea_ with ea_ en_ ec_; subst ea_; subst ec_; clear en_) | (go_at_call 21; (with_reducible refine (spec_l00In.calls ((rd_T24 l0 0).f1) 0 1000000 false _ A6.out).mono ?_); rintro e w' ⟨rfl, ⟨nd, rfl⟩⟩))
     go_meet
     case rel => exact ⟨_, (true), (by first | rfl | (simp; done) | (simp [*]; done)), H', ⟨by first | omega | exact Nat.le_refl _⟩, ⟨by repeat (first | (with_reducible first | exact HB.out | apply below_alloc | apply pw_below_drewN | apply below_drew1) | exact HB.out)⟩⟩
   ·replace c5 := Bool.eq_false_iff.mpr c5
    subst c5
    have H1 : (spec_l21Ok.j0 k l0 true) = some r := by rw [if_neg (show ¬ (false = true) by decide)] at H; exact H
    clear H
    have H := H1
    clear H1
    have H' := Aside0.mk H
    clear H
    have p126 : 0 ≤ (0 : Int) := (by omega)
    have q126 : 0 < (l0.length : Int) := of_decide_eq_true (by first | (with_reducible assumption) | assumption)
    obtain ⟨ad126, A126_3, c126_3, e126, hx126_0, hx126_1, hx126_2, hx126_3, hl126_3, hi126_3⟩ := at_T24 HR0.out 0 p126 q126
    cases e126
    have qi126 : (0 < l0.length) = True := eq_true (by omega)
    (try rw [show ((0 : Int)).toNat = 0 from rfl] at hx126_0)
    (try rw [show 0 * 4 = 0 from rfl] at hx126_0)
    (try rw [Addr.add_zero'] at hx126_0)
    (try rw [show ((0 : Int)).toNat = 0 from rfl] at hx126_1)
    (try rw [show 0 * 4 = 0 from rfl] at hx126_1)
    (try rw [Addr.add_zero'] at hx126_1)
    (try rw [show ((0 : Int)).toNat = 0 from rfl] at hx126_2)
    (try rw [show 0 * 4 = 0 from rfl] at hx126_2)
    (try rw [Addr.add_zero'] at hx126_2)
    (try rw [show ((0 : Int)).toNat = 0 from rfl] at hx126_3)
    (try rw [show 0 * 4 = 0 from rfl] at hx126_3)
    (try rw [Addr.add_zero'] at hx126_3)
    replace hx126_0 := (HB.out.cell (World.block_lt_of_cell? w _ hx126_0)).trans hx126_0
    replace hx126_1 := (HB.out.cell (World.block_lt_of_cell? w _ hx126_1)).trans hx126_1
    replace hx126_2 := (HB.out.cell (World.block_lt_of_cell? w _ hx126_2)).trans hx126_2
    replace hx126_3 := (HB.out.cell (World.block_lt_of_cell? w _ hx126_3)).trans hx126_3
    have HR126_3 := Aside0.mk hi126_3
    have HC126_3 := Aside0.mk hl126_3
    clear hi126_3 hl126_3
    replace p126 := eq_true p126
    replace q126 := eq_true q126
    go_wp2_with (first | ((with_reducible refine gate_callee (f := 20) rfl ?_); refine goesL_ (some 9) rfl rfl Tryd.func20 (by kernel_rfl) rfl #[.string ((rd_T24 l0 0).f0)] rfl (by (try simp only [List.map_toArray, List.map_cons, List.map_nil]); first | done | rfl | (simp only [List.length_drop, List.length_take]; rfl)) ?_; (with_reducible refine (spec_l01Name.calls k ((rd_T24 l0 0).f0) false _ A4.out).mono ?_); rintro e w' ⟨rfl, ⟨nd, rfl⟩⟩; refine ⟨_, rfl, ?_⟩))
    go_meet
    case rel => exact ⟨_, (true), (by first | rfl | (simp; done) | (simp [*]; done)), H', ⟨by first | omega | exact Nat.le_refl _⟩, ⟨by repeat (first | (with_reducible first | exact HB.out | apply below_alloc | apply pw_below_drewN | apply below_drew1) | exact HB.out)⟩⟩
  ·rw [if_neg c3] at H
   exact absurd H (by simp)
 case rest =>
  clear HC2
  try clear c1
  try clear p1
  try clear q1
  try clear hx1
  try clear qi1
  try clear c2
  try clear p2
  try clear c3
  try clear c3b0
  try clear c3b1
  try clear c5
  try clear c7
  try clear c9
  try clear hx126_0
  try clear hx126_1
  try clear hx126_2
  try clear hx126_3
  try clear hx128_0
  try clear hx128_1
  try clear hx128_2
  try clear hx128_3
  try clear hx130_0
  try clear hx130_1
  try clear hx130_2
  try clear hx130_3
  try clear hx132_0
  try clear hx132_1
  try clear hx132_2
  try clear hx132_3
  try clear p126
  try clear p128
  try clear p130
  try clear p132
  try clear q126
  try clear q128
  try clear q130
  try clear q132
  obtain ⟨kq, x35_1, rfl, HA, HJ1, HB⟩ := hcut
  cases kq with
  | zero => exact absurd HA.out (by simp [spec_l21Ok.j0])
  | succ kj1 =>
   have H := HA.out
   clear HA
   simp only [spec_l21Ok.j0] at H
   by_cases c11 : x35_1 = true
   ·subst c11
    have H1 : (some false) = some r := by rw [if_pos rfl] at H; exact H
    clear H
    have H := H1
    clear H1
    obtain rfl := Option.some.inj H
    go_wp2
    go_ret
    exact ⟨by first | rfl | (rw [Int.tdiv_eq_ediv_of_nonneg (by omega)]; rfl) | (simp [errW_none, errW_some] <;> rfl) | (simp [*, errW_none, errW_some] <;> rfl), by repeat (first | (with_reducible first | exact HB.out | apply below_alloc | apply pw_below_drewN | apply below_drew1) | exact HB.out)⟩
   ·replace c11 := Bool.eq_false_iff.mpr c11
    subst c11
    have H1 : (spec_l21Ok.l0 kj1 l0 0) = some r := by rw [if_neg (show ¬ (false = true) by decide)] at H; exact H
    clear H
    have H := H1
    clear H1
    have H' := Aside0.mk H
    clear H
    go_wp2
    go_loopg [3] kj1 (fun kq v3 w' => ∃ (x3_2 : Int), v3 = .int .i64 x3_2 ∧ Aside0 (spec_l21Ok.l0 kq l0 x3_2 = some r) ∧ Aside0 (kq ≤ kj1) ∧ Aside0 (Below w.heap.size w w'))
    case atStart => exact ⟨(0), (by first | rfl | (simp; done) | (simp [*]; done)), H', ⟨Nat.le_refl _⟩, ⟨by repeat (first | (with_reducible first | exact HB.out | apply below_alloc | apply pw_below_drewN | apply below_drew1) | exact HB.out)⟩⟩
    case round =>
     clear H'
     try clear c1
     try clear p1
     try clear q1
     try clear hx1
     try clear qi1
     try clear c2
     try clear p2
     try clear c3
     try clear c3b0
     try clear c3b1
     try clear c5
     try clear c7
     try clear c9
     try clear c11
     try clear hx126_0
     try clear hx126_1
     try clear hx126_2
     try clear hx126_3
     try clear hx128_0
     try clear hx128_1
     try clear hx128_2
     try clear hx128_3
     try clear hx130_0
     try clear hx130_1
     try clear hx130_2
     try clear hx130_3
     try clear hx132_0
     try clear hx132_1
     try clear hx132_2
     try clear hx132_3
     try clear p1
     try clear p126
     try clear p128
     try clear p130
     try clear p132
     try clear p2
     try clear q1
     try clear q126
     try clear q128
     try clear q130
     try clear q132
     obtain ⟨x3_2, rfl, HA, HK2, HB⟩ := hrel
     cases gk with
     | zero => exact absurd HA.out (by simp [spec_l21Ok.l0])
     | succ k2 =>
      have H := HA.out
      clear HA
      simp only [spec_l21Ok.l0] at H
      by_cases c12 : 0 < (l0.length : Int)
      ·rw [if_pos c12] at H
       have c12b0 : decide (0 < (l0.length : Int)) = true := decide_eq_true c12
       have c12b1 : decide (0 < l0.length) = true := decide_eq_true (by omega)
       clear c12
       by_cases c13 : x3_2 < (((rd_T24 l0 0).f3).length : Int)
       ·rw [if_pos c13] at H
        have c13b0 : decide (x3_2 < (((rd_T24 l0 0).f3).length : Int)) = true := decide_eq_true c13
        clear c13
        by_cases c14 : 0 ≤ x3_2
        ·rw [if_pos c14] at H
         have c14b0 : decide (0 ≤ x3_2) = true := decide_eq_true c14
         clear c14
         have HC15 := Aside0.mk H
         clear H
         have p134 : 0 ≤ (0 : Int) := (by omega)
         have q134 : 0 < (l0.length : Int) := of_decide_eq_true (by first | (with_reducible assumption) | assumption)
         obtain ⟨ad134, A134_3, c134_3, e134, hx134_0, hx134_1, hx134_2, hx134_3, hl134_3, hi134_3⟩ := at_T24 HR0.out 0 p134 q134
         cases e134
         have qi134 : (0 < l0.length) = True := eq_true (by omega)
         (try rw [show ((0 : Int)).toNat = 0 from rfl] at hx134_0)
         (try rw [show 0 * 4 = 0 from rfl] at hx134_0)
         (try rw [Addr.add_zero'] at hx134_0)
         (try rw [show ((0 : Int)).toNat = 0 from rfl] at hx134_1)
         (try rw [show 0 * 4 = 0 from rfl] at hx134_1)
         (try rw [Addr.add_zero'] at hx134_1)
         (try rw [show ((0 : Int)).toNat = 0 from rfl] at hx134_2)
         (try rw [show 0 * 4 = 0 from rfl] at hx134_2)
         (try rw [Addr.add_zero'] at hx134_2)
         (try rw [show ((0 : Int)).toNat = 0 from rfl] at hx134_3)
         (try rw [show 0 * 4 = 0 from rfl] at hx134_3)
         (try rw [Addr.add_zero'] at hx134_3)
         replace hx134_0 := (HB.out.cell (World.block_lt_of_cell? w _ hx134_0)).trans hx134_0
         replace hx134_1 := (HB.out.cell (World.block_lt_of_cell? w _ hx134_1)).trans hx134_1
         replace hx134_2 := (HB.out.cell (World.block_lt_of_cell? w _ hx134_2)).trans hx134_2
         replace hx134_3 := (HB.out.cell (World.block_lt_of_cell? w _ hx134_3)).trans hx134_3
         have HR134_3 := Aside0.mk hi134_3
         have HC134_3 := Aside0.mk hl134_3
         clear hi134_3 hl134_3
         replace p134 := eq_true p134
         replace q134 := eq_true q134
         have p135 : 0 ≤ (0 : Int) := (by omega)
         have q135 : 0 < (l0.length : Int) := of_decide_eq_true (by first | (with_reducible assumption) | assumption)
         obtain ⟨ad135, A135_3, c135_3, e135, hx135_0, hx135_1, hx135_2, hx135_3, hl135_3, hi135_3⟩ := at_T24 HR0.out 0 p135 q135
         obtain rfl : ad134 = ad135 := (by injection e135)
         have qi135 : (0 < l0.length) = True := eq_true (by omega)
         (try rw [show ((0 : Int)).toNat = 0 from rfl] at hx135_0)
         (try rw [show 0 * 4 = 0 from rfl] at hx135_0)
         (try rw [Addr.add_zero'] at hx135_0)
         (try rw [show ((0 : Int)).toNat = 0 from rfl] at hx135_1)
         (try rw [show 0 * 4 = 0 from rfl] at hx135_1)
         (try rw [Addr.add_zero'] at hx135_1)
         (try rw [show ((0 : Int)).toNat = 0 from rfl] at hx135_2)
         (try rw [show 0 * 4 = 0 from rfl] at hx135_2)
         (try rw [Addr.add_zero'] at hx135_2)
         (try rw [show ((0 : Int)).toNat = 0 from rfl] at hx135_3)
         (try rw [show 0 * 4 = 0 from rfl] at hx135_3)
         (try rw [Addr.add_zero'] at hx135_3)
         replace hx135_0 := (HB.out.cell (World.block_lt_of_cell? w _ hx135_0)).trans hx135_0
         replace hx135_1 := (HB.out.cell (World.block_lt_of_cell? w _ hx135_1)).trans hx135_1
         replace hx135_2 := (HB.out.cell (World.block_lt_of_cell? w _ hx135_2)).trans hx135_2
         replace hx135_3 := (HB.out.cell (World.block_lt_of_cell? w _ hx135_3)).trans hx135_3
         have HR135_3 := Aside0.mk hi135_3
         have HC135_3 := Aside0.mk hl135_3
         clear hi135_3 hl135_3
         replace p135 := eq_true p135
         replace q135 := eq_true q135
         have ea_ := Option.some.inj (hx134_3.symm.trans hx135_3)
         injection ea_ with ea_ en_ ec_
         subst ea_
         subst ec_
         clear en_
         have p136 : 0 ≤ (x3_2 : Int) := of_decide_eq_true (by first | (with_reducible assumption) | assumption)
         have q136 : x3_2 < (((rd_T24 l0 0).f3).length : Int) := of_decide_eq_true (by first | (with_reducible assumption) | assumption)
         obtain ⟨ad136, A136_0, c136_0, e136, hx136_0, hl136_0, hi136_0⟩ := at_L2 HR135_3.out x3_2 p136 q136
         cases e136
         replace hx136_0 := (HB.out.cell (World.block_lt_of_cell? w _ hx136_0)).trans hx136_0
         have HR136_0 := Aside0.mk hi136_0
         have HC136_0 := Aside0.mk hl136_0
         clear hi136_0 hl136_0
         replace p136 := eq_true p136
         replace q136 := eq_true q136
         go_upto_region 7 with (fail)
         go_cut [98] (fun v98 wc => ∃ (kq : Nat) (x98_14 : Bool), v98 = .bool x98_14 ∧ Aside0 (spec_l21Ok.j2 kq l0 x3_2 x98_14 = some r) ∧ Aside0 (kq ≤ k2) ∧ Aside0 (Below w.heap.size w wc))
         case first =>
          have H := HC15.out
          clear HC15
          by_cases c16 : ((rd_L2 ((rd_T24 l0 0).f3) x3_2).length : Int) = 2
          ·rw [if_pos c16] at H
           have c16b0 : (((rd_L2 ((rd_T24 l0 0).f3) x3_2).length : Int) == 2) = true := beq_iff_eq.mpr c16
           have c16b1 : (((rd_L2 ((rd_T24 l0 0).f3) x3_2).length : Int) != 2) = false := bne_eq_false_iff_eq.mpr c16
           clear c16
           (first | rw [c16b0] | (simp only [i64_w, i32_w]; rw [c16b0]) | skip)
           by_cases c17 : 0 < ((rd_L2 ((rd_T24 l0 0).f3) x3_2).length : Int)
           ·rw [if_pos c17] at H
            have c17b0 : decide (0 < ((rd_L2 ((rd_T24 l0 0).f3) x3_2).length : Int)) = true := decide_eq_true c17
            have c17b1 : decide (0 < (rd_L2 ((rd_T24 l0 0).f3) x3_2).length) = true := decide_eq_true (by omega)
            clear c17
            replace H := Option.bind_eq_some_iff.mp H
            obtain ⟨t138, A180, H⟩ := H
            replace H : (if t138 = true then (if 1 < ((rd_L2 ((rd_T24 l0 0).f3) x3_2).length : Int) then ((spec_l00In.f (rd (rd_L2 ((rd_T24 l0 0).f3) x3_2) 1) 0 10000).bind fun t140 => (if t140 = true then (if x3_2 = 0 then (if (rd (rd_L2 ((rd_T24 l0 0).f3) x3_2) 0) = 0 then (if x3_2 > 0 then (if 0 ≤ (wrap64 (x3_2 - 1)) then (if (wrap64 (x3_2 - 1)) < (((rd_T24 l0 0).f3).length : Int) then (if 0 < ((rd_L2 ((rd_T24 l0 0).f3) (wrap64 (x3_2 - 1))).length : Int) then (spec_l21Ok.j2 k2 l0 x3_2 (decide ((rd (rd_L2 ((rd_T24 l0 0).f3) (wrap64 (x3_2 - 1))) 0) ≥ (rd (rd_L2 ((rd_T24 l0 0).f3) x3_2) 0)))) else (none)) else (none)) else (none)) else (spec_l21Ok.j2 k2 l0 x3_2 false)) else (spec_l21Ok.j2 k2 l0 x3_2 true)) else (if x3_2 > 0 then (if 0 ≤ (wrap64 (x3_2 - 1)) then (if (wrap64 (x3_2 - 1)) < (((rd_T24 l0 0).f3).length : Int) then (if 0 < ((rd_L2 ((rd_T24 l0 0).f3) (wrap64 (x3_2 - 1))).length : Int) then (spec_l21Ok.j2 k2 l0 x3_2 (decide ((rd (rd_L2 ((rd_T24 l0 0).f3) (wrap64 (x3_2 - 1))) 0) ≥ (rd (rd_L2 ((rd_T24 l0 0).f3) x3_2) 0)))) else (none)) else (none)) else (none)) else (spec_l21Ok.j2 k2 l0 x3_2 false))) else (spec_l21Ok.j2 k2 l0 x3_2 true))) else (none)) else (spec_l21Ok.j2 k2 l0 x3_2 true)) = some r := H
            have A18 := Aside0.mk A180
            clear A180
            by_cases c19 : t138 = true
            ·subst c19
             have H1 : (if 1 < ((rd_L2 ((rd_T24 l0 0).f3) x3_2).length : Int) then ((spec_l00In.f (rd (rd_L2 ((rd_T24 l0 0).f3) x3_2) 1) 0 10000).bind fun t140 => (if t140 = true then (if x3_2 = 0 then (if (rd (rd_L2 ((rd_T24 l0 0).f3) x3_2) 0) = 0 then (if x3_2 > 0 then (if 0 ≤ (wrap64 (x3_2 - 1)) then (if (wrap64 (x3_2 - 1)) < (((rd_T24 l0 0).f3).length : Int) then (if 0 < ((rd_L2 ((rd_T24 l0 0).f3) (wrap64 (x3_2 - 1))).length : Int) then (spec_l21Ok.j2 k2 l0 x3_2 (decide ((rd (rd_L2 ((rd_T24 l0 0).f3) (wrap64 (x3_2 - 1))) 0) ≥ (rd (rd_L2 ((rd_T24 l0 0).f3) x3_2) 0)))) else (none)) else (none)) else (none)) else (spec_l21Ok.j2 k2 l0 x3_2 false)) else (spec_l21Ok.j2 k2 l0 x3_2 true)) else (if x3_2 > 0 then (if 0 ≤ (wrap64 (x3_2 - 1)) then (if (wrap64 (x3_2 - 1)) < (((rd_T24 l0 0).f3).length : Int) then (if 0 < ((rd_L2 ((rd_T24 l0 0).f3) (wrap64 (x3_2 - 1))).length : Int) then (spec_l21Ok.j2 k2 l0 x3_2 (decide ((rd (rd_L2 ((rd_T24 l0 0).f3) (wrap64 (x3_2 - 1))) 0) ≥ (rd (rd_L2 ((rd_T24 l0 0).f3) x3_2) 0)))) else (none)) else (none)) else (none)) else (spec_l21Ok.j2 k2 l0 x3_2 false))) else (spec_l21Ok.j2 k2 l0 x3_2 true))) else (none)) = some r := by rw [if_pos rfl] at H; exact H
             clear H
             have H := H1
             clear H1
             by_cases c20 : 1 < ((rd_L2 ((rd_T24 l0 0).f3) x3_2).length : Int)
             ·rw [if_pos c20] at H
              have c20b0 : decide (1 < ((rd_L2 ((rd_T24 l0 0).f3) x3_2).length : Int)) = true := decide_eq_true c20
              have c20b1 : decide (1 < (rd_L2 ((rd_T24 l0 0).f3) x3_2).length) = true := decide_eq_true (by omega)
              clear c20
              replace H := Option.bind_eq_some_iff.mp H
              obtain ⟨t140, A210, H⟩ := H
              replace H : (if t140 = true then (if x3_2 = 0 then (if (rd (rd_L2 ((rd_T24 l0 0).f3) x3_2) 0) = 0 then (if x3_2 > 0 then (if 0 ≤ (wrap64 (x3_2 - 1)) then (if (wrap64 (x3_2 - 1)) < (((rd_T24 l0 0).f3).length : Int) then (if 0 < ((rd_L2 ((rd_T24 l0 0).f3) (wrap64 (x3_2 - 1))).length : Int) then (spec_l21Ok.j2 k2 l0 x3_2 (decide ((rd (rd_L2 ((rd_T24 l0 0).f3) (wrap64 (x3_2 - 1))) 0) ≥ (rd (rd_L2 ((rd_T24 l0 0).f3) x3_2) 0)))) else (none)) else (none)) else (none)) else (spec_l21Ok.j2 k2 l0 x3_2 false)) else (spec_l21Ok.j2 k2 l0 x3_2 true)) else (if x3_2 > 0 then (if 0 ≤ (wrap64 (x3_2 - 1)) then (if (wrap64 (x3_2 - 1)) < (((rd_T24 l0 0).f3).length : Int) then (if 0 < ((rd_L2 ((rd_T24 l0 0).f3) (wrap64 (x3_2 - 1))).length : Int) then (spec_l21Ok.j2 k2 l0 x3_2 (decide ((rd (rd_L2 ((rd_T24 l0 0).f3) (wrap64 (x3_2 - 1))) 0) ≥ (rd (rd_L2 ((rd_T24 l0 0).f3) x3_2) 0)))) else (none)) else (none)) else (none)) else (spec_l21Ok.j2 k2 l0 x3_2 false))) else (spec_l21Ok.j2 k2 l0 x3_2 true)) = some r := H
              have A21 := Aside0.mk A210
              clear A210
              by_cases c22 : t140 = true
              ·subst c22
               have H1 : (if x3_2 = 0 then (if (rd (rd_L2 ((rd_T24 l0 0).f3) x3_2) 0) = 0 then (if x3_2 > 0 then (if 0 ≤ (wrap64 (x3_2 - 1)) then (if (wrap64 (x3_2 - 1)) < (((rd_T24 l0 0).f3).length : Int) then (if 0 < ((rd_L2 ((rd_T24 l0 0).f3) (wrap64 (x3_2 - 1))).length : Int) then (spec_l21Ok.j2 k2 l0 x3_2 (decide ((rd (rd_L2 ((rd_T24 l0 0).f3) (wrap64 (x3_2 - 1))) 0) ≥ (rd (rd_L2 ((rd_T24 l0 0).f3) x3_2) 0)))) else (none)) else (none)) else (none)) else (spec_l21Ok.j2 k2 l0 x3_2 false)) else (spec_l21Ok.j2 k2 l0 x3_2 true)) else (if x3_2 > 0 then (if 0 ≤ (wrap64 (x3_2 - 1)) then (if (wrap64 (x3_2 - 1)) < (((rd_T24 l0 0).f3).length : Int) then (if 0 < ((rd_L2 ((rd_T24 l0 0).f3) (wrap64 (x3_2 - 1))).length : Int) then (spec_l21Ok.j2 k2 l0 x3_2 (decide ((rd (rd_L2 ((rd_T24 l0 0).f3) (wrap64 (x3_2 - 1))) 0) ≥ (rd (rd_L2 ((rd_T24 l0 0).f3) x3_2) 0)))) else (none)) else (none)) else (none)) else (spec_l21Ok.j2 k2 l0 x3_2 false))) = some r := by rw [if_pos rfl] at H; exact H
               clear H
               have H := H1
               clear H1
               by_cases c23 : x3_2 = 0
               ·rw [if_pos c23] at H
                have c23b0 : (x3_2 == 0) = true := beq_iff_eq.mpr c23
                have c23b1 : (x3_2 != 0) = false := bne_eq_false_iff_eq.mpr c23
                clear c23
                by_cases c24 : (rd (rd_L2 ((rd_T24 l0 0).f3) x3_2) 0) = 0
                ·rw [if_pos c24] at H
                 have c24b0 : ((rd (rd_L2 ((rd_T24 l0 0).f3) x3_2) 0) == 0) = true := beq_iff_eq.mpr c24
                 have c24b1 : ((rd (rd_L2 ((rd_T24 l0 0).f3) x3_2) 0) != 0) = false := bne_eq_false_iff_eq.mpr c24
                 clear c24
                 by_cases c25 : x3_2 > 0
                 ·rw [if_pos c25] at H
                  have c25b0 : decide (0 < x3_2) = true := decide_eq_true c25
                  clear c25
                  obtain ⟨ji26, hji26⟩ : ∃ j_ : Int, (wrap64 (x3_2 - 1)) = j_ := ⟨_, rfl⟩
                  replace H : (if 0 ≤ (ji26) then (if (ji26) < (((rd_T24 l0 0).f3).length : Int) then (if 0 < ((rd_L2 ((rd_T24 l0 0).f3) (ji26)).length : Int) then (spec_l21Ok.j2 k2 l0 x3_2 (decide ((rd (rd_L2 ((rd_T24 l0 0).f3) (ji26)) 0) ≥ (rd (rd_L2 ((rd_T24 l0 0).f3) x3_2) 0)))) else (none)) else (none)) else (none)) = some r := by first | (rw [hji26] at H; exact H) | (simp only [hji26] at H ⊢; exact H)
                  (try rw [hji26] at A18)
                  (try rw [hji26] at A21)
                  have hji26w : (IntKind.i64.wrap (x3_2 - 1)) = ji26 := (i64_w _).trans hji26
                  by_cases c27 : 0 ≤ (ji26)
                  ·rw [if_pos c27] at H
                   have c27b0 : decide (0 ≤ (ji26)) = true := decide_eq_true c27
                   clear c27
                   by_cases c28 : (ji26) < (((rd_T24 l0 0).f3).length : Int)
                   ·rw [if_pos c28] at H
                    have c28b0 : decide ((ji26) < (((rd_T24 l0 0).f3).length : Int)) = true := decide_eq_true c28
                    clear c28
                    by_cases c29 : 0 < ((rd_L2 ((rd_T24 l0 0).f3) (ji26)).length : Int)
                    ·rw [if_pos c29] at H
                     have c29b0 : decide (0 < ((rd_L2 ((rd_T24 l0 0).f3) (ji26)).length : Int)) = true := decide_eq_true c29
                     have c29b1 : decide (0 < (rd_L2 ((rd_T24 l0 0).f3) (ji26)).length) = true := decide_eq_true (by omega)
                     clear c29
                     have H' := Aside0.mk H
                     clear H
                     try go_wp2
                     have n0_ := Aside0.mk (below_drew1 HB.out)
                     clear HB
                     have HB := n0_
                     clear n0_
                     have p137 : 0 ≤ (0 : Int) := (by omega)
                     have q137 : 0 < ((rd_L2 ((rd_T24 l0 0).f3) x3_2).length : Int) := of_decide_eq_true (by first | (with_reducible assumption) | assumption)
                     obtain ⟨ad137, e137, hx137_0⟩ := Kd.at_int HR136_0.out 0 p137 q137
                     have hw137_0 := hx137_0
                     (try rw [show ((0 : Int)).toNat = 0 from rfl] at hw137_0)
                     (try rw [show 0 * 1 = 0 from rfl] at hw137_0)
                     (try rw [Addr.add_zero'] at hw137_0)
                     cases e137
                     have qi137 : (0 < (rd_L2 ((rd_T24 l0 0).f3) x3_2).length) = True := eq_true (by omega)
                     (try rw [show ((0 : Int)).toNat = 0 from rfl] at hx137_0)
                     (try rw [Addr.add_zero'] at hx137_0)
                     replace hx137_0 := (HB.out.cell (World.block_lt_of_cell? w _ hx137_0)).trans hx137_0
                     replace p137 := eq_true p137
                     replace q137 := eq_true q137
                     have p139 : 0 ≤ (1 : Int) := (by omega)
                     have q139 : 1 < ((rd_L2 ((rd_T24 l0 0).f3) x3_2).length : Int) := of_decide_eq_true (by first | (with_reducible assumption) | assumption)
                     obtain ⟨ad139, e139, hx139_0⟩ := Kd.at_int HR136_0.out 1 p139 q139
                     have hw139_0 := hx139_0
                     (try rw [show ((1 : Int)).toNat = 1 from rfl] at hw139_0)
                     (try rw [show 1 * 1 = 1 from rfl] at hw139_0)
                     (try simp only [Nat.reduceMul, Nat.reduceEqDiff, Go.Addr.add, ↓reduceIte] at hw139_0)
                     obtain rfl : ad137 = ad139 := (by injection e139)
                     (try simp only [show (1 : Int).toNat = 1 from rfl, Nat.reduceMul, Nat.reduceEqDiff, Go.Addr.add, ↓reduceIte] at hx139_0)
                     have qi139 : (1 < (rd_L2 ((rd_T24 l0 0).f3) x3_2).length) = True := eq_true (by omega)
                     (try rw [show ((1 : Int)).toNat = 1 from rfl] at hx139_0)
                     replace hx139_0 := (HB.out.cell (World.block_lt_of_cell? w _ hx139_0)).trans hx139_0
                     replace p139 := eq_true p139
                     replace q139 := eq_true q139
                     have p141 : 0 ≤ (0 : Int) := (by omega)
                     have q141 : 0 < ((rd_L2 ((rd_T24 l0 0).f3) x3_2).length : Int) := of_decide_eq_true (by first | (with_reducible assumption) | assumption)
                     obtain ⟨ad141, e141, hx141_0⟩ := Kd.at_int HR136_0.out 0 p141 q141
                     have hw141_0 := hx141_0
                     (try rw [show ((0 : Int)).toNat = 0 from rfl] at hw141_0)
                     (try rw [show 0 * 1 = 0 from rfl] at hw141_0)
                     (try rw [Addr.add_zero'] at hw141_0)
                     obtain rfl : ad137 = ad141 := (by injection e141)
                     have qi141 : (0 < (rd_L2 ((rd_T24 l0 0).f3) x3_2).length) = True := eq_true (by omega)
                     (try rw [show ((0 : Int)).toNat = 0 from rfl] at hx141_0)
                     (try rw [Addr.add_zero'] at hx141_0)
                     replace hx141_0 := (HB.out.cell (World.block_lt_of_cell? w _ hx141_0)).trans hx141_0
                     replace p141 := eq_true p141
                     replace q141 := eq_true q141
                     have p142 : 0 ≤ (0 : Int) := (by omega)
                     have q142 : 0 < (l0.length : Int) := of_decide_eq_true (by first | (with_reducible assumption) | assumption)
                     obtain ⟨ad142, A142_3, c142_3, e142, hx142_0, hx142_1, hx142_2, hx142_3, hl142_3, hi142_3⟩ := at_T24 HR0.out 0 p142 q142
                     have hw142_3 := hx142_3
                     (try rw [show ((0 : Int)).toNat = 0 from rfl] at hw142_3)
                     (try rw [show 0 * 4 = 0 from rfl] at hw142_3)
                     (try rw [Addr.add_zero'] at hw142_3)
                     have hw142_2 := hx142_2
                     (try rw [show ((0 : Int)).toNat = 0 from rfl] at hw142_2)
                     (try rw [show 0 * 4 = 0 from rfl] at hw142_2)
                     (try rw [Addr.add_zero'] at hw142_2)
                     have hw142_1 := hx142_1
                     (try rw [show ((0 : Int)).toNat = 0 from rfl] at hw142_1)
                     (try rw [show 0 * 4 = 0 from rfl] at hw142_1)
                     (try rw [Addr.add_zero'] at hw142_1)
                     have hw142_0 := hx142_0
                     (try rw [show ((0 : Int)).toNat = 0 from rfl] at hw142_0)
                     (try rw [show 0 * 4 = 0 from rfl] at hw142_0)
                     (try rw [Addr.add_zero'] at hw142_0)
                     obtain rfl : ad134 = ad142 := (by injection e142)
                     have qi142 : (0 < l0.length) = True := eq_true (by omega)
                     (try rw [show ((0 : Int)).toNat = 0 from rfl] at hx142_0)
                     (try rw [show 0 * 4 = 0 from rfl] at hx142_0)
                     (try rw [Addr.add_zero'] at hx142_0)
                     (try rw [show ((0 : Int)).toNat = 0 from rfl] at hx142_1)
                     (try rw [show 0 * 4 = 0 from rfl] at hx142_1)
                     (try rw [Addr.add_zero'] at hx142_1)
                     (try rw [show ((0 : Int)).toNat = 0 from rfl] at hx142_2)
                     (try rw [show 0 * 4 = 0 from rfl] at hx142_2)
                     (try rw [Addr.add_zero'] at hx142_2)
                     (try rw [show ((0 : Int)).toNat = 0 from rfl] at hx142_3)
                     (try rw [show 0 * 4 = 0 from rfl] at hx142_3)
                     (try rw [Addr.add_zero'] at hx142_3)
                     replace hx142_0 := (HB.out.cell (World.block_lt_of_cell? w _ hx142_0)).trans hx142_0
                     replace hx142_1 := (HB.out.cell (World.block_lt_of_cell? w _ hx142_1)).trans hx142_1
                     replace hx142_2 := (HB.out.cell (World.block_lt_of_cell? w _ hx142_2)).trans hx142_2
                     replace hx142_3 := (HB.out.cell (World.block_lt_of_cell? w _ hx142_3)).trans hx142_3
                     have HR142_3 := Aside0.mk hi142_3
                     have HC142_3 := Aside0.mk hl142_3
                     clear hi142_3 hl142_3
                     replace p142 := eq_true p142
                     replace q142 := eq_true q142
                     have p143 : 0 ≤ ((ji26) : Int) := of_decide_eq_true (by first | (with_reducible assumption) | assumption)
                     have q143 : (ji26) < (((rd_T24 l0 0).f3).length : Int) := of_decide_eq_true (by first | (with_reducible assumption) | assumption)
                     obtain ⟨ad143, A143_0, c143_0, e143, hx143_0, hl143_0, hi143_0⟩ := at_L2 HR142_3.out (ji26) p143 q143
                     have hw143_0 := hx143_0
                     cases e143
                     replace hx143_0 := (HB.out.cell (World.block_lt_of_cell? w _ hx143_0)).trans hx143_0
                     have HR143_0 := Aside0.mk hi143_0
                     have HC143_0 := Aside0.mk hl143_0
                     clear hi143_0 hl143_0
                     replace p143 := eq_true p143
                     replace q143 := eq_true q143
                     have p144 : 0 ≤ (0 : Int) := (by omega)
                     have q144 : 0 < ((rd_L2 ((rd_T24 l0 0).f3) (ji26)).length : Int) := of_decide_eq_true (by first | (with_reducible assumption) | assumption)
                     obtain ⟨ad144, e144, hx144_0⟩ := Kd.at_int HR143_0.out 0 p144 q144
                     have hw144_0 := hx144_0
                     (try rw [show ((0 : Int)).toNat = 0 from rfl] at hw144_0)
                     (try rw [show 0 * 1 = 0 from rfl] at hw144_0)
                     (try rw [Addr.add_zero'] at hw144_0)
                     cases e144
                     have qi144 : (0 < (rd_L2 ((rd_T24 l0 0).f3) (ji26)).length) = True := eq_true (by omega)
                     (try rw [show ((0 : Int)).toNat = 0 from rfl] at hx144_0)
                     (try rw [Addr.add_zero'] at hx144_0)
                     replace hx144_0 := (HB.out.cell (World.block_lt_of_cell? w _ hx144_0)).trans hx144_0
                     replace p144 := eq_true p144
                     replace q144 := eq_true q144
                     have p145 : 0 ≤ (0 : Int) := (by omega)
                     have q145 : 0 < ((rd_L2 ((rd_T24 l0 0).f3) x3_2).length : Int) := of_decide_eq_true (by first | (with_reducible assumption) | assumption)
                     obtain ⟨ad145, e145, hx145_0⟩ := Kd.at_int HR136_0.out 0 p145 q145
                     have hw145_0 := hx145_0
                     (try rw [show ((0 : Int)).toNat = 0 from rfl] at hw145_0)
                     (try rw [show 0 * 1 = 0 from rfl] at hw145_0)
                     (try rw [Addr.add_zero'] at hw145_0)
                     obtain rfl : ad137 = ad145 := (by injection e145)
                     have qi145 : (0 < (rd_L2 ((rd_T24 l0 0).f3) x3_2).length) = True := eq_true (by omega)
                     (try rw [show ((0 : Int)).toNat = 0 from rfl] at hx145_0)
                     (try rw [Addr.add_zero'] at hx145_0)
                     replace hx145_0 := (HB.out.cell (World.block_lt_of_cell? w _ hx145_0)).trans hx145_0
                     replace p145 := eq_true p145
                     replace q145 := eq_true q145
                     refine start_ (n := 47) (S := fun w' => w'.cell? ad137 = some (.int .i64 (rd (rd_L2 ((rd_T24 l0 0).f3) x3_2) 0)) ∧ w'.cell? ⟨ad137.block, ad137.off + 1, none⟩ = some (.int .i64 (rd (rd_L2 ((rd_T24 l0 0).f3) x3_2) 1)) ∧ w'.cell? ad137 = some (.int .i64 (rd (rd_L2 ((rd_T24 l0 0).f3) x3_2) 0)) ∧ w'.cell? ad134 = some (.string ((rd_T24 l0 0).f0)) ∧ w'.cell? ⟨ad134.block, ad134.off + 1, none⟩ = some (.int .i64 ((rd_T24 l0 0).f1)) ∧ w'.cell? ⟨ad134.block, ad134.off + 2, none⟩ = some (.int .i64 ((rd_T24 l0 0).f2)) ∧ w'.cell? ⟨ad134.block, ad134.off + 3, none⟩ = some (.slice (some ad143) ((rd_T24 l0 0).f3).length c142_3) ∧ w'.cell? (ad143.add ((ji26)).toNat) = some (.slice (some ad144) (rd_L2 ((rd_T24 l0 0).f3) (ji26)).length c143_0) ∧ w'.cell? ad144 = some (.int .i64 (rd (rd_L2 ((rd_T24 l0 0).f3) (ji26)) 0)) ∧ w'.cell? ad137 = some (.int .i64 (rd (rd_L2 ((rd_T24 l0 0).f3) x3_2) 0))) (ds := []) (tf 0 47) (by kernel_rfl) rfl rfl ⟨((HB.out.cell (World.block_lt_of_cell? w _ hw137_0)).trans hw137_0), ((HB.out.cell (World.block_lt_of_cell? w _ hw139_0)).trans hw139_0), ((HB.out.cell (World.block_lt_of_cell? w _ hw141_0)).trans hw141_0), ((HB.out.cell (World.block_lt_of_cell? w _ hw142_0)).trans hw142_0), ((HB.out.cell (World.block_lt_of_cell? w _ hw142_1)).trans hw142_1), ((HB.out.cell (World.block_lt_of_cell? w _ hw142_2)).trans hw142_2), ((HB.out.cell (World.block_lt_of_cell? w _ hw142_3)).trans hw142_3), ((HB.out.cell (World.block_lt_of_cell? w _ hw143_0)).trans hw143_0), ((HB.out.cell (World.block_lt_of_cell? w _ hw144_0)).trans hw144_0), ((HB.out.cell (World.block_lt_of_cell? w _ hw145_0)).trans hw145_0)⟩ (fun hHeld => ?_); refine with_tabW spec_l21Ok.tab7 spec_l21Ok.bits7 (fun HT_ HW_ => ?_)
                     generalize wr.drew = w30 at HB HR142_3 HR143_0 hx137_0 hx139_0 hx141_0 hx142_0 hx142_1 hx142_2 hx142_3 hx143_0 hx144_0 hx145_0 hHeld ⊢
                     refine px 0 (some 52) (tf 1 47) HT_ ?_
                     refine px 1 (some 53) (tf 2 47) HT_ ?_
                     refine px 2 (some 54) (tf 3 47) HT_ ?_
                     refine px 3 (some 55) (tf 4 47) HT_ ?_
                     refine px 4 (some 56) (tf 5 47) HT_ ?_
                     refine px 5 (some 57) (tf 6 47) HT_ ?_
                     refine tx (v := ?_) 6 (some 58) (tf 7 47) HT_ HW_ hHeld ?_ ?_
                     rotate_left; (· rintro w' ⟨s0, s1, s2, s3, s4, s5, s6, s7, s8, s9⟩; go_simp; with_reducible rfl)
                     refine one_ (i := 7) (N := some 59) (tf 8 47) rfl rfl (one_of HT_.out (by kernel_rfl)) (by decide) (fun K hK => ?_)
                     refine goes_ Tryd.func21 (by kernel_rfl) rfl #[.int .i64 (rd (rd_L2 ((rd_T24 l0 0).f3) x3_2) 0), .int .i64 0, .int .i64 1000000] (by rfl) rfl rfl (by (try simp only [List.map_toArray, List.map_cons, List.map_nil]); first | done | rfl | (simp only [List.length_drop, List.length_take]; rfl)) ?_
                     with_reducible refine (spec_l00In.calls (rd (rd_L2 ((rd_T24 l0 0).f3) x3_2) 0) 0 1000000 true _ A18.out).mono ?_
                     rintro e w' ⟨rfl, ⟨nd, rfl⟩⟩
                     refine ⟨_, rfl, ?_⟩
                     refine hK.out _ _ ⟨((HB.out.cell (World.block_lt_of_cell? w _ hw137_0)).trans hw137_0), ((HB.out.cell (World.block_lt_of_cell? w _ hw139_0)).trans hw139_0), ((HB.out.cell (World.block_lt_of_cell? w _ hw141_0)).trans hw141_0), ((HB.out.cell (World.block_lt_of_cell? w _ hw142_0)).trans hw142_0), ((HB.out.cell (World.block_lt_of_cell? w _ hw142_1)).trans hw142_1), ((HB.out.cell (World.block_lt_of_cell? w _ hw142_2)).trans hw142_2), ((HB.out.cell (World.block_lt_of_cell? w _ hw142_3)).trans hw142_3), ((HB.out.cell (World.block_lt_of_cell? w _ hw143_0)).trans hw143_0), ((HB.out.cell (World.block_lt_of_cell? w _ hw144_0)).trans hw144_0), ((HB.out.cell (World.block_lt_of_cell? w _ hw145_0)).trans hw145_0)⟩ (fun hHeld => ?_)
                     clear hK K
                     refine norm_ (a' := ?_) ?_ ?_
                     rotate_left
                     ·show Act.put _ (some 59) _ = _
                      simp only [Act.put, List.setIfInBounds_toArray, List.set_cons_zero, List.set_cons_succ, i64_w, i32_w]
                      rfl
                     refine px 8 (some 60) (tf 9 47) HT_ ?_
                     refine px 9 (some 61) (tf 10 47) HT_ ?_
                     refine px 10 (some 62) (tf 11 47) HT_ ?_
                     refine px 11 (some 63) (tf 12 47) HT_ ?_
                     refine px 12 (some 64) (tf 13 47) HT_ ?_
                     refine tx (v := ?_) 13 (some 65) (tf 14 47) HT_ HW_ hHeld ?_ ?_
                     rotate_left; (· rintro w' ⟨s0, s1, s2, s3, s4, s5, s6, s7, s8, s9⟩; go_simp; with_reducible rfl)
                     refine one_ (i := 14) (N := some 66) (tf 15 47) rfl rfl (one_of HT_.out (by kernel_rfl)) (by decide) (fun K hK => ?_)
                     refine goes_ Tryd.func21 (by kernel_rfl) rfl #[.int .i64 (rd (rd_L2 ((rd_T24 l0 0).f3) x3_2) 1), .int .i64 0, .int .i64 10000] (by rfl) rfl rfl (by (try simp only [List.map_toArray, List.map_cons, List.map_nil]); first | done | rfl | (simp only [List.length_drop, List.length_take]; rfl)) ?_
                     with_reducible refine (spec_l00In.calls (rd (rd_L2 ((rd_T24 l0 0).f3) x3_2) 1) 0 10000 true _ A21.out).mono ?_
                     rintro e w' ⟨rfl, ⟨nd, rfl⟩⟩
                     refine ⟨_, rfl, ?_⟩
                     refine hK.out _ _ ⟨((HB.out.cell (World.block_lt_of_cell? w _ hw137_0)).trans hw137_0), ((HB.out.cell (World.block_lt_of_cell? w _ hw139_0)).trans hw139_0), ((HB.out.cell (World.block_lt_of_cell? w _ hw141_0)).trans hw141_0), ((HB.out.cell (World.block_lt_of_cell? w _ hw142_0)).trans hw142_0), ((HB.out.cell (World.block_lt_of_cell? w _ hw142_1)).trans hw142_1), ((HB.out.cell (World.block_lt_of_cell? w _ hw142_2)).trans hw142_2), ((HB.out.cell (World.block_lt_of_cell? w _ hw142_3)).trans hw142_3), ((HB.out.cell (World.block_lt_of_cell? w _ hw143_0)).trans hw143_0), ((HB.out.cell (World.block_lt_of_cell? w _ hw144_0)).trans hw144_0), ((HB.out.cell (World.block_lt_of_cell? w _ hw145_0)).trans hw145_0)⟩ (fun hHeld => ?_)
                     clear hK K
                     refine norm_ (a' := ?_) ?_ ?_
                     rotate_left
                     ·show Act.put _ (some 66) _ = _
                      simp only [Act.put, List.setIfInBounds_toArray, List.set_cons_zero, List.set_cons_succ, i64_w, i32_w]
                      rfl
                     refine px 15 (some 67) (tf 16 47) HT_ ?_
                     refine px 16 (some 68) (tf 17 47) HT_ ?_
                     refine px 17 (some 69) (tf 18 47) HT_ ?_
                     refine px 18 (some 70) (tf 19 47) HT_ ?_
                     refine px 19 (some 71) (tf 20 47) HT_ ?_
                     refine px 20 (some 72) (tf 21 47) HT_ ?_
                     refine px 21 (some 73) (tf 22 47) HT_ ?_
                     refine px 22 (some 74) (tf 23 47) HT_ ?_
                     refine tx (v := ?_) 23 (some 75) (tf 24 47) HT_ HW_ hHeld ?_ ?_
                     rotate_left; (· rintro w' ⟨s0, s1, s2, s3, s4, s5, s6, s7, s8, s9⟩; go_simp; with_reducible rfl)
                     refine px 24 (some 76) (tf 25 47) HT_ ?_
                     refine px 25 (some 77) (tf 26 47) HT_ ?_
                     refine px 26 (some 78) (tf 27 47) HT_ ?_
                     refine px 27 (some 79) (tf 28 47) HT_ ?_
                     refine px 28 (some 80) (tf 29 47) HT_ ?_
                     refine px 29 (some 81) (tf 30 47) HT_ ?_
                     refine px 30 (some 82) (tf 31 47) HT_ ?_
                     refine px 31 (some 83) (tf 32 47) HT_ ?_
                     refine px 32 (some 84) (tf 33 47) HT_ ?_
                     refine px 33 (some 85) (tf 34 47) HT_ ?_
                     refine px 35 (some 87) (tb 47 51539607551) HT_ ?_
                     refine px 36 (some 88) (tb 47 120259084287) HT_ ?_
                     refine px 41 (some 93) (tb 47 2319282339839) HT_ ?_
                     refine px 42 (some 94) (tb 47 6717328850943) HT_ ?_
                     refine tx (v := ?_) 34 (some 86) (tb 47 6734508720127) HT_ HW_ hHeld ?_ ?_
                     rotate_left; (· rintro w' ⟨s0, s1, s2, s3, s4, s5, s6, s7, s8, s9⟩; go_simp; with_reducible rfl)
                     refine px 37 (some 89) (tb 47 6871947673599) HT_ ?_
                     refine tx (v := ?_) 38 (some 90) (tb 47 7146825580543) HT_ HW_ hHeld ?_ ?_
                     rotate_left; (· rintro w' ⟨s0, s1, s2, s3, s4, s5, s6, s7, s8, s9⟩; go_simp; with_reducible rfl)
                     refine px 39 (some 91) (tb 47 7696581394431) HT_ ?_
                     refine tx (v := ?_) 40 (some 92) (tf 43 47) HT_ HW_ hHeld ?_ ?_
                     rotate_left; (· rintro w' ⟨s0, s1, s2, s3, s4, s5, s6, s7, s8, s9⟩; go_simp; with_reducible rfl)
                     refine tx (v := ?_) 43 (some 95) (tf 44 47) HT_ HW_ hHeld ?_ ?_
                     rotate_left; (· rintro w' ⟨s0, s1, s2, s3, s4, s5, s6, s7, s8, s9⟩; go_simp; with_reducible rfl)
                     refine px 44 (some 96) (tf 45 47) HT_ ?_
                     refine px 45 (some 97) (tf 46 47) HT_ ?_
                     refine px 46 (some 98) (tf 47 47) HT_ ?_
                     refine done_ (done_of HT_.out (by kernel_rfl)) ?_
                     try go_wp2
                     go_meet
                     case rel => exact ⟨_, (decide ((rd (rd_L2 ((rd_T24 l0 0).f3) (ji26)) 0) ≥ (rd (rd_L2 ((rd_T24 l0 0).f3) x3_2) 0))), (by first | rfl | (simp; done) | (simp only [← hji26] <;> (first | rfl | simp)) | (simp [*]; done)), H', ⟨by have := HJ1.out; have := HK2.out; first | omega | exact Nat.le_refl _⟩, ⟨by repeat (first | (with_reducible first | exact HB.out | apply below_alloc | apply pw_below_drewN | apply below_drew1) | exact HB.out)⟩⟩
                    ·rw [if_neg c29] at H
                     exact absurd H (by simp)
                   ·rw [if_neg c28] at H
                    exact absurd H (by simp)
                  ·rw [if_neg c27] at H
                   exact absurd H (by simp)
                 ·rw [if_neg c25] at H
                  have c25b0 : decide (0 < x3_2) = false := decide_eq_false c25
                  clear c25
                  have H' := Aside0.mk H
                  clear H
                  try go_wp2
                  have n0_ := Aside0.mk (below_drew1 HB.out)
                  clear HB
                  have HB := n0_
                  clear n0_
                  have p137 : 0 ≤ (0 : Int) := (by omega)
                  have q137 : 0 < ((rd_L2 ((rd_T24 l0 0).f3) x3_2).length : Int) := of_decide_eq_true (by first | (with_reducible assumption) | assumption)
                  obtain ⟨ad137, e137, hx137_0⟩ := Kd.at_int HR136_0.out 0 p137 q137
                  have hw137_0 := hx137_0
                  (try rw [show ((0 : Int)).toNat = 0 from rfl] at hw137_0)
                  (try rw [show 0 * 1 = 0 from rfl] at hw137_0)
                  (try rw [Addr.add_zero'] at hw137_0)
                  cases e137
                  have qi137 : (0 < (rd_L2 ((rd_T24 l0 0).f3) x3_2).length) = True := eq_true (by omega)
                  (try rw [show ((0 : Int)).toNat = 0 from rfl] at hx137_0)
                  (try rw [Addr.add_zero'] at hx137_0)
                  replace hx137_0 := (HB.out.cell (World.block_lt_of_cell? w _ hx137_0)).trans hx137_0
                  replace p137 := eq_true p137
                  replace q137 := eq_true q137
                  have p139 : 0 ≤ (1 : Int) := (by omega)
                  have q139 : 1 < ((rd_L2 ((rd_T24 l0 0).f3) x3_2).length : Int) := of_decide_eq_true (by first | (with_reducible assumption) | assumption)
                  obtain ⟨ad139, e139, hx139_0⟩ := Kd.at_int HR136_0.out 1 p139 q139
                  have hw139_0 := hx139_0
                  (try rw [show ((1 : Int)).toNat = 1 from rfl] at hw139_0)
                  (try rw [show 1 * 1 = 1 from rfl] at hw139_0)
                  (try simp only [Nat.reduceMul, Nat.reduceEqDiff, Go.Addr.add, ↓reduceIte] at hw139_0)
                  obtain rfl : ad137 = ad139 := (by injection e139)
                  (try simp only [show (1 : Int).toNat = 1 from rfl, Nat.reduceMul, Nat.reduceEqDiff, Go.Addr.add, ↓reduceIte] at hx139_0)
                  have qi139 : (1 < (rd_L2 ((rd_T24 l0 0).f3) x3_2).length) = True := eq_true (by omega)
                  (try rw [show ((1 : Int)).toNat = 1 from rfl] at hx139_0)
                  replace hx139_0 := (HB.out.cell (World.block_lt_of_cell? w _ hx139_0)).trans hx139_0
                  replace p139 := eq_true p139
                  replace q139 := eq_true q139
                  have p141 : 0 ≤ (0 : Int) := (by omega)
                  have q141 : 0 < ((rd_L2 ((rd_T24 l0 0).f3) x3_2).length : Int) := of_decide_eq_true (by first | (with_reducible assumption) | assumption)
                  obtain ⟨ad141, e141, hx141_0⟩ := Kd.at_int HR136_0.out 0 p141 q141
                  have hw141_0 := hx141_0
                  (try rw [show ((0 : Int)).toNat = 0 from rfl] at hw141_0)
                  (try rw [show 0 * 1 = 0 from rfl] at hw141_0)
                  (try rw [Addr.add_zero'] at hw141_0)
                  obtain rfl : ad137 = ad141 := (by injection e141)
                  have qi141 : (0 < (rd_L2 ((rd_T24 l0 0).f3) x3_2).length) = True := eq_true (by omega)
                  (try rw [show ((0 : Int)).toNat = 0 from rfl] at hx141_0)
                  (try rw [Addr.add_zero'] at hx141_0)
                  replace hx141_0 := (HB.out.cell (World.block_lt_of_cell? w _ hx141_0)).trans hx141_0
                  replace p141 := eq_true p141
                  replace q141 := eq_true q141
                  refine start_ (n := 47) (S := fun w' => w'.cell? ad137 = some (.int .i64 (rd (rd_L2 ((rd_T24 l0 0).f3) x3_2) 0)) ∧ w'.cell? ⟨ad137.block, ad137.off + 1, none⟩ = some (.int .i64 (rd (rd_L2 ((rd_T24 l0 0).f3) x3_2) 1)) ∧ w'.cell? ad137 = some (.int .i64 (rd (rd_L2 ((rd_T24 l0 0).f3) x3_2) 0))) (ds := []) (tf 0 47) (by kernel_rfl) rfl rfl ⟨((HB.out.cell (World.block_lt_of_cell? w _ hw137_0)).trans hw137_0), ((HB.out.cell (World.block_lt_of_cell? w _ hw139_0)).trans hw139_0), ((HB.out.cell (World.block_lt_of_cell? w _ hw141_0)).trans hw141_0)⟩ (fun hHeld => ?_); refine with_tabW spec_l21Ok.tab7 spec_l21Ok.bits7 (fun HT_ HW_ => ?_)
                  generalize wr.drew = w31 at HB hx137_0 hx139_0 hx141_0 hHeld ⊢
                  refine px 0 (some 52) (tf 1 47) HT_ ?_
                  refine px 1 (some 53) (tf 2 47) HT_ ?_
                  refine px 2 (some 54) (tf 3 47) HT_ ?_
                  refine px 3 (some 55) (tf 4 47) HT_ ?_
                  refine px 4 (some 56) (tf 5 47) HT_ ?_
                  refine px 5 (some 57) (tf 6 47) HT_ ?_
                  refine tx (v := ?_) 6 (some 58) (tf 7 47) HT_ HW_ hHeld ?_ ?_
                  rotate_left; (· rintro w' ⟨s0, s1, s2⟩; go_simp; with_reducible rfl)
                  refine one_ (i := 7) (N := some 59) (tf 8 47) rfl rfl (one_of HT_.out (by kernel_rfl)) (by decide) (fun K hK => ?_)
                  refine goes_ Tryd.func21 (by kernel_rfl) rfl #[.int .i64 (rd (rd_L2 ((rd_T24 l0 0).f3) x3_2) 0), .int .i64 0, .int .i64 1000000] (by rfl) rfl rfl (by (try simp only [List.map_toArray, List.map_cons, List.map_nil]); first | done | rfl | (simp only [List.length_drop, List.length_take]; rfl)) ?_
                  with_reducible refine (spec_l00In.calls (rd (rd_L2 ((rd_T24 l0 0).f3) x3_2) 0) 0 1000000 true _ A18.out).mono ?_
                  rintro e w' ⟨rfl, ⟨nd, rfl⟩⟩
                  refine ⟨_, rfl, ?_⟩
                  refine hK.out _ _ ⟨((HB.out.cell (World.block_lt_of_cell? w _ hw137_0)).trans hw137_0), ((HB.out.cell (World.block_lt_of_cell? w _ hw139_0)).trans hw139_0), ((HB.out.cell (World.block_lt_of_cell? w _ hw141_0)).trans hw141_0)⟩ (fun hHeld => ?_)
                  clear hK K
                  refine norm_ (a' := ?_) ?_ ?_
                  rotate_left
                  ·show Act.put _ (some 59) _ = _
                   simp only [Act.put, List.setIfInBounds_toArray, List.set_cons_zero, List.set_cons_succ, i64_w, i32_w]
                   rfl
                  refine px 8 (some 60) (tf 9 47) HT_ ?_
                  refine px 9 (some 61) (tf 10 47) HT_ ?_
                  refine px 10 (some 62) (tf 11 47) HT_ ?_
                  refine px 11 (some 63) (tf 12 47) HT_ ?_
                  refine px 12 (some 64) (tf 13 47) HT_ ?_
                  refine tx (v := ?_) 13 (some 65) (tf 14 47) HT_ HW_ hHeld ?_ ?_
                  rotate_left; (· rintro w' ⟨s0, s1, s2⟩; go_simp; with_reducible rfl)
                  refine one_ (i := 14) (N := some 66) (tf 15 47) rfl rfl (one_of HT_.out (by kernel_rfl)) (by decide) (fun K hK => ?_)
                  refine goes_ Tryd.func21 (by kernel_rfl) rfl #[.int .i64 (rd (rd_L2 ((rd_T24 l0 0).f3) x3_2) 1), .int .i64 0, .int .i64 10000] (by rfl) rfl rfl (by (try simp only [List.map_toArray, List.map_cons, List.map_nil]); first | done | rfl | (simp only [List.length_drop, List.length_take]; rfl)) ?_
                  with_reducible refine (spec_l00In.calls (rd (rd_L2 ((rd_T24 l0 0).f3) x3_2) 1) 0 10000 true _ A21.out).mono ?_
                  rintro e w' ⟨rfl, ⟨nd, rfl⟩⟩
                  refine ⟨_, rfl, ?_⟩
                  refine hK.out _ _ ⟨((HB.out.cell (World.block_lt_of_cell? w _ hw137_0)).trans hw137_0), ((HB.out.cell (World.block_lt_of_cell? w _ hw139_0)).trans hw139_0), ((HB.out.cell (World.block_lt_of_cell? w _ hw141_0)).trans hw141_0)⟩ (fun hHeld => ?_)
                  clear hK K
                  refine norm_ (a' := ?_) ?_ ?_
                  rotate_left
                  ·show Act.put _ (some 66) _ = _
                   simp only [Act.put, List.setIfInBounds_toArray, List.set_cons_zero, List.set_cons_succ, i64_w, i32_w]
                   rfl
                  refine px 15 (some 67) (tf 16 47) HT_ ?_
                  refine px 16 (some 68) (tf 17 47) HT_ ?_
                  refine px 17 (some 69) (tf 18 47) HT_ ?_
                  refine px 18 (some 70) (tf 19 47) HT_ ?_
                  refine px 19 (some 71) (tf 20 47) HT_ ?_
                  refine px 20 (some 72) (tf 21 47) HT_ ?_
                  refine px 21 (some 73) (tf 22 47) HT_ ?_
                  refine px 22 (some 74) (tf 23 47) HT_ ?_
                  refine tx (v := ?_) 23 (some 75) (tf 24 47) HT_ HW_ hHeld ?_ ?_
                  rotate_left; (· rintro w' ⟨s0, s1, s2⟩; go_simp; with_reducible rfl)
                  refine px 24 (some 76) (tf 25 47) HT_ ?_
                  refine px 25 (some 77) (tf 26 47) HT_ ?_
                  refine px 26 (some 78) (tf 27 47) HT_ ?_
                  refine px 27 (some 79) (tf 28 47) HT_ ?_
                  refine px 28 (some 80) (tf 29 47) HT_ ?_
                  refine px 29 (some 81) (tf 30 47) HT_ ?_
                  refine px 30 (some 82) (tf 31 47) HT_ ?_
                  refine sx 31 (some 83) (tf 32 47) HT_ ?_
                  refine sx 32 (some 84) (tf 33 47) HT_ ?_
                  refine sx 33 (some 85) (tf 34 47) HT_ ?_
                  refine sx 34 (some 86) (tf 35 47) HT_ ?_
                  refine sx 35 (some 87) (tf 36 47) HT_ ?_
                  refine sx 36 (some 88) (tf 37 47) HT_ ?_
                  refine sx 37 (some 89) (tf 38 47) HT_ ?_
                  refine sx 38 (some 90) (tf 39 47) HT_ ?_
                  refine sx 39 (some 91) (tf 40 47) HT_ ?_
                  refine sx 40 (some 92) (tf 41 47) HT_ ?_
                  refine sx 41 (some 93) (tf 42 47) HT_ ?_
                  refine sx 42 (some 94) (tf 43 47) HT_ ?_
                  refine sx 43 (some 95) (tf 44 47) HT_ ?_
                  refine sx 44 (some 96) (tf 45 47) HT_ ?_
                  refine px 45 (some 97) (tf 46 47) HT_ ?_
                  refine px 46 (some 98) (tf 47 47) HT_ ?_
                  refine done_ (done_of HT_.out (by kernel_rfl)) ?_
                  try go_wp2
                  go_meet
                  case rel => exact ⟨_, (false), (by first | rfl | (simp; done) | (simp [*]; done)), H', ⟨by have := HJ1.out; have := HK2.out; first | omega | exact Nat.le_refl _⟩, ⟨by repeat (first | (with_reducible first | exact HB.out | apply below_alloc | apply pw_below_drewN | apply below_drew1) | exact HB.out)⟩⟩
                ·rw [if_neg c24] at H
                 have c24b0 : ((rd (rd_L2 ((rd_T24 l0 0).f3) x3_2) 0) == 0) = false := beq_eq_false_iff_ne.mpr c24
                 have c24b1 : ((rd (rd_L2 ((rd_T24 l0 0).f3) x3_2) 0) != 0) = true := bne_iff_ne.mpr c24
                 have H' := Aside0.mk H
                 clear H
                 try go_wp2
                 have n0_ := Aside0.mk (below_drew1 HB.out)
                 clear HB
                 have HB := n0_
                 clear n0_
                 have p137 : 0 ≤ (0 : Int) := (by omega)
                 have q137 : 0 < ((rd_L2 ((rd_T24 l0 0).f3) x3_2).length : Int) := of_decide_eq_true (by first | (with_reducible assumption) | assumption)
                 obtain ⟨ad137, e137, hx137_0⟩ := Kd.at_int HR136_0.out 0 p137 q137
                 have hw137_0 := hx137_0
                 (try rw [show ((0 : Int)).toNat = 0 from rfl] at hw137_0)
                 (try rw [show 0 * 1 = 0 from rfl] at hw137_0)
                 (try rw [Addr.add_zero'] at hw137_0)
                 cases e137
                 have qi137 : (0 < (rd_L2 ((rd_T24 l0 0).f3) x3_2).length) = True := eq_true (by omega)
                 (try rw [show ((0 : Int)).toNat = 0 from rfl] at hx137_0)
                 (try rw [Addr.add_zero'] at hx137_0)
                 replace hx137_0 := (HB.out.cell (World.block_lt_of_cell? w _ hx137_0)).trans hx137_0
                 replace p137 := eq_true p137
                 replace q137 := eq_true q137
                 have p139 : 0 ≤ (1 : Int) := (by omega)
                 have q139 : 1 < ((rd_L2 ((rd_T24 l0 0).f3) x3_2).length : Int) := of_decide_eq_true (by first | (with_reducible assumption) | assumption)
                 obtain ⟨ad139, e139, hx139_0⟩ := Kd.at_int HR136_0.out 1 p139 q139
                 have hw139_0 := hx139_0
                 (try rw [show ((1 : Int)).toNat = 1 from rfl] at hw139_0)
                 (try rw [show 1 * 1 = 1 from rfl] at hw139_0)
                 (try simp only [Nat.reduceMul, Nat.reduceEqDiff, Go.Addr.add, ↓reduceIte] at hw139_0)
                 obtain rfl : ad137 = ad139 := (by injection e139)
                 (try simp only [show (1 : Int).toNat = 1 from rfl, Nat.reduceMul, Nat.reduceEqDiff, Go.Addr.add, ↓reduceIte] at hx139_0)
                 have qi139 : (1 < (rd_L2 ((rd_T24 l0 0).f3) x3_2).length) = True := eq_true (by omega)
                 (try rw [show ((1 : Int)).toNat = 1 from rfl] at hx139_0)
                 replace hx139_0 := (HB.out.cell (World.block_lt_of_cell? w _ hx139_0)).trans hx139_0
                 replace p139 := eq_true p139
                 replace q139 := eq_true q139
                 have p141 : 0 ≤ (0 : Int) := (by omega)
                 have q141 : 0 < ((rd_L2 ((rd_T24 l0 0).f3) x3_2).length : Int) := of_decide_eq_true (by first | (with_reducible assumption) | assumption)
                 obtain ⟨ad141, e141, hx141_0⟩ := Kd.at_int HR136_0.out 0 p141 q141
                 have hw141_0 := hx141_0
                 (try rw [show ((0 : Int)).toNat = 0 from rfl] at hw141_0)
                 (try rw [show 0 * 1 = 0 from rfl] at hw141_0)
                 (try rw [Addr.add_zero'] at hw141_0)
                 obtain rfl : ad137 = ad141 := (by injection e141)
                 have qi141 : (0 < (rd_L2 ((rd_T24 l0 0).f3) x3_2).length) = True := eq_true (by omega)
                 (try rw [show ((0 : Int)).toNat = 0 from rfl] at hx141_0)
                 (try rw [Addr.add_zero'] at hx141_0)
                 replace hx141_0 := (HB.out.cell (World.block_lt_of_cell? w _ hx141_0)).trans hx141_0
                 replace p141 := eq_true p141
                 replace q141 := eq_true q141
                 refine start_ (n := 47) (S := fun w' => w'.cell? ad137 = some (.int .i64 (rd (rd_L2 ((rd_T24 l0 0).f3) x3_2) 0)) ∧ w'.cell? ⟨ad137.block, ad137.off + 1, none⟩ = some (.int .i64 (rd (rd_L2 ((rd_T24 l0 0).f3) x3_2) 1)) ∧ w'.cell? ad137 = some (.int .i64 (rd (rd_L2 ((rd_T24 l0 0).f3) x3_2) 0))) (ds := []) (tf 0 47) (by kernel_rfl) rfl rfl ⟨((HB.out.cell (World.block_lt_of_cell? w _ hw137_0)).trans hw137_0), ((HB.out.cell (World.block_lt_of_cell? w _ hw139_0)).trans hw139_0), ((HB.out.cell (World.block_lt_of_cell? w _ hw141_0)).trans hw141_0)⟩ (fun hHeld => ?_); refine with_tabW spec_l21Ok.tab7 spec_l21Ok.bits7 (fun HT_ HW_ => ?_)
                 generalize wr.drew = w32 at HB hx137_0 hx139_0 hx141_0 hHeld ⊢
                 refine px 0 (some 52) (tf 1 47) HT_ ?_
                 refine px 1 (some 53) (tf 2 47) HT_ ?_
                 refine px 2 (some 54) (tf 3 47) HT_ ?_
                 refine px 3 (some 55) (tf 4 47) HT_ ?_
                 refine px 4 (some 56) (tf 5 47) HT_ ?_
                 refine px 5 (some 57) (tf 6 47) HT_ ?_
                 refine tx (v := ?_) 6 (some 58) (tf 7 47) HT_ HW_ hHeld ?_ ?_
                 rotate_left; (· rintro w' ⟨s0, s1, s2⟩; go_simp; with_reducible rfl)
                 refine one_ (i := 7) (N := some 59) (tf 8 47) rfl rfl (one_of HT_.out (by kernel_rfl)) (by decide) (fun K hK => ?_)
                 refine goes_ Tryd.func21 (by kernel_rfl) rfl #[.int .i64 (rd (rd_L2 ((rd_T24 l0 0).f3) x3_2) 0), .int .i64 0, .int .i64 1000000] (by rfl) rfl rfl (by (try simp only [List.map_toArray, List.map_cons, List.map_nil]); first | done | rfl | (simp only [List.length_drop, List.length_take]; rfl)) ?_
                 with_reducible refine (spec_l00In.calls (rd (rd_L2 ((rd_T24 l0 0).f3) x3_2) 0) 0 1000000 true _ A18.out).mono ?_
                 rintro e w' ⟨rfl, ⟨nd, rfl⟩⟩
                 refine ⟨_, rfl, ?_⟩
                 refine hK.out _ _ ⟨((HB.out.cell (World.block_lt_of_cell? w _ hw137_0)).trans hw137_0), ((HB.out.cell (World.block_lt_of_cell? w _ hw139_0)).trans hw139_0), ((HB.out.cell (World.block_lt_of_cell? w _ hw141_0)).trans hw141_0)⟩ (fun hHeld => ?_)
                 clear hK K
                 refine norm_ (a' := ?_) ?_ ?_
                 rotate_left
                 ·show Act.put _ (some 59) _ = _
                  simp only [Act.put, List.setIfInBounds_toArray, List.set_cons_zero, List.set_cons_succ, i64_w, i32_w]
                  rfl
                 refine px 8 (some 60) (tf 9 47) HT_ ?_
                 refine px 9 (some 61) (tf 10 47) HT_ ?_
                 refine px 10 (some 62) (tf 11 47) HT_ ?_
                 refine px 11 (some 63) (tf 12 47) HT_ ?_
                 refine px 12 (some 64) (tf 13 47) HT_ ?_
                 refine tx (v := ?_) 13 (some 65) (tf 14 47) HT_ HW_ hHeld ?_ ?_
                 rotate_left; (· rintro w' ⟨s0, s1, s2⟩; go_simp; with_reducible rfl)
                 refine one_ (i := 14) (N := some 66) (tf 15 47) rfl rfl (one_of HT_.out (by kernel_rfl)) (by decide) (fun K hK => ?_)
                 refine goes_ Tryd.func21 (by kernel_rfl) rfl #[.int .i64 (rd (rd_L2 ((rd_T24 l0 0).f3) x3_2) 1), .int .i64 0, .int .i64 10000] (by rfl) rfl rfl (by (try simp only [List.map_toArray, List.map_cons, List.map_nil]); first | done | rfl | (simp only [List.length_drop, List.length_take]; rfl)) ?_
                 with_reducible refine (spec_l00In.calls (rd (rd_L2 ((rd_T24 l0 0).f3) x3_2) 1) 0 10000 true _ A21.out).mono ?_
                 rintro e w' ⟨rfl, ⟨nd, rfl⟩⟩
                 refine ⟨_, rfl, ?_⟩
                 refine hK.out _ _ ⟨((HB.out.cell (World.block_lt_of_cell? w _ hw137_0)).trans hw137_0), ((HB.out.cell (World.block_lt_of_cell? w _ hw139_0)).trans hw139_0), ((HB.out.cell (World.block_lt_of_cell? w _ hw141_0)).trans hw141_0)⟩ (fun hHeld => ?_)
                 clear hK K
                 refine norm_ (a' := ?_) ?_ ?_
                 rotate_left
                 ·show Act.put _ (some 66) _ = _
                  simp only [Act.put, List.setIfInBounds_toArray, List.set_cons_zero, List.set_cons_succ, i64_w, i32_w]
                  rfl
                 refine px 15 (some 67) (tf 16 47) HT_ ?_
                 refine px 16 (some 68) (tf 17 47) HT_ ?_
                 refine px 17 (some 69) (tf 18 47) HT_ ?_
                 refine px 18 (some 70) (tf 19 47) HT_ ?_
                 refine px 19 (some 71) (tf 20 47) HT_ ?_
                 refine px 20 (some 72) (tf 21 47) HT_ ?_
                 refine px 21 (some 73) (tf 22 47) HT_ ?_
                 refine px 22 (some 74) (tf 23 47) HT_ ?_
                 refine tx (v := ?_) 23 (some 75) (tf 24 47) HT_ HW_ hHeld ?_ ?_
                 rotate_left; (· rintro w' ⟨s0, s1, s2⟩; go_simp; with_reducible rfl)
                 refine px 24 (some 76) (tf 25 47) HT_ ?_
                 refine px 25 (some 77) (tf 26 47) HT_ ?_
                 refine px 26 (some 78) (tf 27 47) HT_ ?_
                 refine px 27 (some 79) (tf 28 47) HT_ ?_
                 refine sx 28 (some 80) (tf 29 47) HT_ ?_
                 refine sx 29 (some 81) (tf 30 47) HT_ ?_
                 refine sx 30 (some 82) (tf 31 47) HT_ ?_
                 refine sx 31 (some 83) (tf 32 47) HT_ ?_
                 refine sx 32 (some 84) (tf 33 47) HT_ ?_
                 refine sx 33 (some 85) (tf 34 47) HT_ ?_
                 refine sx 34 (some 86) (tf 35 47) HT_ ?_
                 refine sx 35 (some 87) (tf 36 47) HT_ ?_
                 refine sx 36 (some 88) (tf 37 47) HT_ ?_
                 refine sx 37 (some 89) (tf 38 47) HT_ ?_
                 refine sx 38 (some 90) (tf 39 47) HT_ ?_
                 refine sx 39 (some 91) (tf 40 47) HT_ ?_
                 refine sx 40 (some 92) (tf 41 47) HT_ ?_
                 refine sx 41 (some 93) (tf 42 47) HT_ ?_
                 refine sx 42 (some 94) (tf 43 47) HT_ ?_
                 refine sx 43 (some 95) (tf 44 47) HT_ ?_
                 refine sx 44 (some 96) (tf 45 47) HT_ ?_
                 refine sx 45 (some 97) (tf 46 47) HT_ ?_
                 refine px 46 (some 98) (tf 47 47) HT_ ?_
                 refine done_ (done_of HT_.out (by kernel_rfl)) ?_
                 try go_wp2
                 go_meet
                 case rel => exact ⟨_, (true), (by first | rfl | (simp; done) | (simp [*]; done)), H', ⟨by have := HJ1.out; have := HK2.out; first | omega | exact Nat.le_refl _⟩, ⟨by repeat (first | (with_reducible first | exact HB.out | apply below_alloc | apply pw_below_drewN | apply below_drew1) | exact HB.out)⟩⟩
               ·rw [if_neg c23] at H
                have c23b0 : (x3_2 == 0) = false := beq_eq_false_iff_ne.mpr c23
                have c23b1 : (x3_2 != 0) = true := bne_iff_ne.mpr c23
                by_cases c33 : x3_2 > 0
                ·rw [if_pos c33] at H
                 have c33b0 : decide (0 < x3_2) = true := decide_eq_true c33
                 clear c33
                 obtain ⟨ji34, hji34⟩ : ∃ j_ : Int, (wrap64 (x3_2 - 1)) = j_ := ⟨_, rfl⟩
                 replace H : (if 0 ≤ (ji34) then (if (ji34) < (((rd_T24 l0 0).f3).length : Int) then (if 0 < ((rd_L2 ((rd_T24 l0 0).f3) (ji34)).length : Int) then (spec_l21Ok.j2 k2 l0 x3_2 (decide ((rd (rd_L2 ((rd_T24 l0 0).f3) (ji34)) 0) ≥ (rd (rd_L2 ((rd_T24 l0 0).f3) x3_2) 0)))) else (none)) else (none)) else (none)) = some r := by first | (rw [hji34] at H; exact H) | (simp only [hji34] at H ⊢; exact H)
                 (try rw [hji34] at A18)
                 (try rw [hji34] at A21)
                 have hji34w : (IntKind.i64.wrap (x3_2 - 1)) = ji34 := (i64_w _).trans hji34
                 (try clear hji26w)
                 by_cases c35 : 0 ≤ (ji34)
                 ·rw [if_pos c35] at H
                  have c35b0 : decide (0 ≤ (ji34)) = true := decide_eq_true c35
                  clear c35
                  by_cases c36 : (ji34) < (((rd_T24 l0 0).f3).length : Int)
                  ·rw [if_pos c36] at H
                   have c36b0 : decide ((ji34) < (((rd_T24 l0 0).f3).length : Int)) = true := decide_eq_true c36
                   clear c36
                   by_cases c37 : 0 < ((rd_L2 ((rd_T24 l0 0).f3) (ji34)).length : Int)
                   ·rw [if_pos c37] at H
                    have c37b0 : decide (0 < ((rd_L2 ((rd_T24 l0 0).f3) (ji34)).length : Int)) = true := decide_eq_true c37
                    have c37b1 : decide (0 < (rd_L2 ((rd_T24 l0 0).f3) (ji34)).length) = true := decide_eq_true (by omega)
                    clear c37
                    have H' := Aside0.mk H
                    clear H
                    try go_wp2
                    have n0_ := Aside0.mk (below_drew1 HB.out)
                    clear HB
                    have HB := n0_
                    clear n0_
                    have p137 : 0 ≤ (0 : Int) := (by omega)
                    have q137 : 0 < ((rd_L2 ((rd_T24 l0 0).f3) x3_2).length : Int) := of_decide_eq_true (by first | (with_reducible assumption) | assumption)
                    obtain ⟨ad137, e137, hx137_0⟩ := Kd.at_int HR136_0.out 0 p137 q137
                    have hw137_0 := hx137_0
                    (try rw [show ((0 : Int)).toNat = 0 from rfl] at hw137_0)
                    (try rw [show 0 * 1 = 0 from rfl] at hw137_0)
                    (try rw [Addr.add_zero'] at hw137_0)
                    cases e137
                    have qi137 : (0 < (rd_L2 ((rd_T24 l0 0).f3) x3_2).length) = True := eq_true (by omega)
                    (try rw [show ((0 : Int)).toNat = 0 from rfl] at hx137_0)
                    (try rw [Addr.add_zero'] at hx137_0)
                    replace hx137_0 := (HB.out.cell (World.block_lt_of_cell? w _ hx137_0)).trans hx137_0
                    replace p137 := eq_true p137
                    replace q137 := eq_true q137
                    have p139 : 0 ≤ (1 : Int) := (by omega)
                    have q139 : 1 < ((rd_L2 ((rd_T24 l0 0).f3) x3_2).length : Int) := of_decide_eq_true (by first | (with_reducible assumption) | assumption)
                    obtain ⟨ad139, e139, hx139_0⟩ := Kd.at_int HR136_0.out 1 p139 q139
                    have hw139_0 := hx139_0
                    (try rw [show ((1 : Int)).toNat = 1 from rfl] at hw139_0)
                    (try rw [show 1 * 1 = 1 from rfl] at hw139_0)
                    (try simp only [Nat.reduceMul, Nat.reduceEqDiff, Go.Addr.add, ↓reduceIte] at hw139_0)
                    obtain rfl : ad137 = ad139 := (by injection e139)
                    (try simp only [show (1 : Int).toNat = 1 from rfl, Nat.reduceMul, Nat.reduceEqDiff, Go.Addr.add, ↓reduceIte] at hx139_0)
                    have qi139 : (1 < (rd_L2 ((rd_T24 l0 0).f3) x3_2).length) = True := eq_true (by omega)
                    (try rw [show ((1 : Int)).toNat = 1 from rfl] at hx139_0)
                    replace hx139_0 := (HB.out.cell (World.block_lt_of_cell? w _ hx139_0)).trans hx139_0
                    replace p139 := eq_true p139
                    replace q139 := eq_true q139
                    have p146 : 0 ≤ (0 : Int) := (by omega)
                    have q146 : 0 < (l0.length : Int) := of_decide_eq_true (by first | (with_reducible assumption) | assumption)
                    obtain ⟨ad146, A146_3, c146_3, e146, hx146_0, hx146_1, hx146_2, hx146_3, hl146_3, hi146_3⟩ := at_T24 HR0.out 0 p146 q146
                    have hw146_3 := hx146_3
                    (try rw [show ((0 : Int)).toNat = 0 from rfl] at hw146_3)
                    (try rw [show 0 * 4 = 0 from rfl] at hw146_3)
                    (try rw [Addr.add_zero'] at hw146_3)
                    have hw146_2 := hx146_2
                    (try rw [show ((0 : Int)).toNat = 0 from rfl] at hw146_2)
                    (try rw [show 0 * 4 = 0 from rfl] at hw146_2)
                    (try rw [Addr.add_zero'] at hw146_2)
                    have hw146_1 := hx146_1
                    (try rw [show ((0 : Int)).toNat = 0 from rfl] at hw146_1)
                    (try rw [show 0 * 4 = 0 from rfl] at hw146_1)
                    (try rw [Addr.add_zero'] at hw146_1)
                    have hw146_0 := hx146_0
                    (try rw [show ((0 : Int)).toNat = 0 from rfl] at hw146_0)
                    (try rw [show 0 * 4 = 0 from rfl] at hw146_0)
                    (try rw [Addr.add_zero'] at hw146_0)
                    obtain rfl : ad134 = ad146 := (by injection e146)
                    have qi146 : (0 < l0.length) = True := eq_true (by omega)
                    (try rw [show ((0 : Int)).toNat = 0 from rfl] at hx146_0)
                    (try rw [show 0 * 4 = 0 from rfl] at hx146_0)
                    (try rw [Addr.add_zero'] at hx146_0)
                    (try rw [show ((0 : Int)).toNat = 0 from rfl] at hx146_1)
                    (try rw [show 0 * 4 = 0 from rfl] at hx146_1)
                    (try rw [Addr.add_zero'] at hx146_1)
                    (try rw [show ((0 : Int)).toNat = 0 from rfl] at hx146_2)
                    (try rw [show 0 * 4 = 0 from rfl] at hx146_2)
                    (try rw [Addr.add_zero'] at hx146_2)
                    (try rw [show ((0 : Int)).toNat = 0 from rfl] at hx146_3)
                    (try rw [show 0 * 4 = 0 from rfl] at hx146_3)
                    (try rw [Addr.add_zero'] at hx146_3)
                    replace hx146_0 := (HB.out.cell (World.block_lt_of_cell? w _ hx146_0)).trans hx146_0
                    replace hx146_1 := (HB.out.cell (World.block_lt_of_cell? w _ hx146_1)).trans hx146_1
                    replace hx146_2 := (HB.out.cell (World.block_lt_of_cell? w _ hx146_2)).trans hx146_2
                    replace hx146_3 := (HB.out.cell (World.block_lt_of_cell? w _ hx146_3)).trans hx146_3
                    have HR146_3 := Aside0.mk hi146_3
                    have HC146_3 := Aside0.mk hl146_3
                    clear hi146_3 hl146_3
                    replace p146 := eq_true p146
                    replace q146 := eq_true q146
                    have p147 : 0 ≤ ((ji34) : Int) := of_decide_eq_true (by first | (with_reducible assumption) | assumption)
                    have q147 : (ji34) < (((rd_T24 l0 0).f3).length : Int) := of_decide_eq_true (by first | (with_reducible assumption) | assumption)
                    obtain ⟨ad147, A147_0, c147_0, e147, hx147_0, hl147_0, hi147_0⟩ := at_L2 HR146_3.out (ji34) p147 q147
                    have hw147_0 := hx147_0
                    cases e147
                    replace hx147_0 := (HB.out.cell (World.block_lt_of_cell? w _ hx147_0)).trans hx147_0
                    have HR147_0 := Aside0.mk hi147_0
                    have HC147_0 := Aside0.mk hl147_0
                    clear hi147_0 hl147_0
                    replace p147 := eq_true p147
                    replace q147 := eq_true q147
                    have p148 : 0 ≤ (0 : Int) := (by omega)
                    have q148 : 0 < ((rd_L2 ((rd_T24 l0 0).f3) (ji34)).length : Int) := of_decide_eq_true (by first | (with_reducible assumption) | assumption)
                    obtain ⟨ad148, e148, hx148_0⟩ := Kd.at_int HR147_0.out 0 p148 q148
                    have hw148_0 := hx148_0
                    (try rw [show ((0 : Int)).toNat = 0 from rfl] at hw148_0)
                    (try rw [show 0 * 1 = 0 from rfl] at hw148_0)
                    (try rw [Addr.add_zero'] at hw148_0)
                    cases e148
                    have qi148 : (0 < (rd_L2 ((rd_T24 l0 0).f3) (ji34)).length) = True := eq_true (by omega)
                    (try rw [show ((0 : Int)).toNat = 0 from rfl] at hx148_0)
                    (try rw [Addr.add_zero'] at hx148_0)
                    replace hx148_0 := (HB.out.cell (World.block_lt_of_cell? w _ hx148_0)).trans hx148_0
                    replace p148 := eq_true p148
                    replace q148 := eq_true q148
                    have p149 : 0 ≤ (0 : Int) := (by omega)
                    have q149 : 0 < ((rd_L2 ((rd_T24 l0 0).f3) x3_2).length : Int) := of_decide_eq_true (by first | (with_reducible assumption) | assumption)
                    obtain ⟨ad149, e149, hx149_0⟩ := Kd.at_int HR136_0.out 0 p149 q149
                    have hw149_0 := hx149_0
                    (try rw [show ((0 : Int)).toNat = 0 from rfl] at hw149_0)
                    (try rw [show 0 * 1 = 0 from rfl] at hw149_0)
                    (try rw [Addr.add_zero'] at hw149_0)
                    obtain rfl : ad137 = ad149 := (by injection e149)
                    have qi149 : (0 < (rd_L2 ((rd_T24 l0 0).f3) x3_2).length) = True := eq_true (by omega)
                    (try rw [show ((0 : Int)).toNat = 0 from rfl] at hx149_0)
                    (try rw [Addr.add_zero'] at hx149_0)
                    replace hx149_0 := (HB.out.cell (World.block_lt_of_cell? w _ hx149_0)).trans hx149_0
                    replace p149 := eq_true p149
                    replace q149 := eq_true q149
                    refine start_ (n := 47) (S := fun w' => w'.cell? ad137 = some (.int .i64 (rd (rd_L2 ((rd_T24 l0 0).f3) x3_2) 0)) ∧ w'.cell? ⟨ad137.block, ad137.off + 1, none⟩ = some (.int .i64 (rd (rd_L2 ((rd_T24 l0 0).f3) x3_2) 1)) ∧ w'.cell? ad134 = some (.string ((rd_T24 l0 0).f0)) ∧ w'.cell? ⟨ad134.block, ad134.off + 1, none⟩ = some (.int .i64 ((rd_T24 l0 0).f1)) ∧ w'.cell? ⟨ad134.block, ad134.off + 2, none⟩ = some (.int .i64 ((rd_T24 l0 0).f2)) ∧ w'.cell? ⟨ad134.block, ad134.off + 3, none⟩ = some (.slice (some ad147) ((rd_T24 l0 0).f3).length c146_3) ∧ w'.cell? (ad147.add ((ji34)).toNat) = some (.slice (some ad148) (rd_L2 ((rd_T24 l0 0).f3) (ji34)).length c147_0) ∧ w'.cell? ad148 = some (.int .i64 (rd (rd_L2 ((rd_T24 l0 0).f3) (ji34)) 0)) ∧ w'.cell? ad137 = some (.int .i64 (rd (rd_L2 ((rd_T24 l0 0).f3) x3_2) 0))) (ds := []) (tf 0 47) (by kernel_rfl) rfl rfl ⟨((HB.out.cell (World.block_lt_of_cell? w _ hw137_0)).trans hw137_0), ((HB.out.cell (World.block_lt_of_cell? w _ hw139_0)).trans hw139_0), ((HB.out.cell (World.block_lt_of_cell? w _ hw146_0)).trans hw146_0), ((HB.out.cell (World.block_lt_of_cell? w _ hw146_1)).trans hw146_1), ((HB.out.cell (World.block_lt_of_cell? w _ hw146_2)).trans hw146_2), ((HB.out.cell (World.block_lt_of_cell? w _ hw146_3)).trans hw146_3), ((HB.out.cell (World.block_lt_of_cell? w _ hw147_0)).trans hw147_0), ((HB.out.cell (World.block_lt_of_cell? w _ hw148_0)).trans hw148_0), ((HB.out.cell (World.block_lt_of_cell? w _ hw149_0)).trans hw149_0)⟩ (fun hHeld => ?_); refine with_tabW spec_l21Ok.tab7 spec_l21Ok.bits7 (fun HT_ HW_ => ?_)
                    generalize wr.drew = w38 at HB HR146_3 HR147_0 hx137_0 hx139_0 hx146_0 hx146_1 hx146_2 hx146_3 hx147_0 hx148_0 hx149_0 hHeld ⊢
                    refine px 0 (some 52) (tf 1 47) HT_ ?_
                    refine px 1 (some 53) (tf 2 47) HT_ ?_
                    refine px 2 (some 54) (tf 3 47) HT_ ?_
                    refine px 3 (some 55) (tf 4 47) HT_ ?_
                    refine px 4 (some 56) (tf 5 47) HT_ ?_
                    refine px 5 (some 57) (tf 6 47) HT_ ?_
                    refine tx (v := ?_) 6 (some 58) (tf 7 47) HT_ HW_ hHeld ?_ ?_
                    rotate_left; (· rintro w' ⟨s0, s1, s2, s3, s4, s5, s6, s7, s8⟩; go_simp; with_reducible rfl)
                    refine one_ (i := 7) (N := some 59) (tf 8 47) rfl rfl (one_of HT_.out (by kernel_rfl)) (by decide) (fun K hK => ?_)
                    refine goes_ Tryd.func21 (by kernel_rfl) rfl #[.int .i64 (rd (rd_L2 ((rd_T24 l0 0).f3) x3_2) 0), .int .i64 0, .int .i64 1000000] (by rfl) rfl rfl (by (try simp only [List.map_toArray, List.map_cons, List.map_nil]); first | done | rfl | (simp only [List.length_drop, List.length_take]; rfl)) ?_
                    with_reducible refine (spec_l00In.calls (rd (rd_L2 ((rd_T24 l0 0).f3) x3_2) 0) 0 1000000 true _ A18.out).mono ?_
                    rintro e w' ⟨rfl, ⟨nd, rfl⟩⟩
                    refine ⟨_, rfl, ?_⟩
                    refine hK.out _ _ ⟨((HB.out.cell (World.block_lt_of_cell? w _ hw137_0)).trans hw137_0), ((HB.out.cell (World.block_lt_of_cell? w _ hw139_0)).trans hw139_0), ((HB.out.cell (World.block_lt_of_cell? w _ hw146_0)).trans hw146_0), ((HB.out.cell (World.block_lt_of_cell? w _ hw146_1)).trans hw146_1), ((HB.out.cell (World.block_lt_of_cell? w _ hw146_2)).trans hw146_2), ((HB.out.cell (World.block_lt_of_cell? w _ hw146_3)).trans hw146_3), ((HB.out.cell (World.block_lt_of_cell? w _ hw147_0)).trans hw147_0), ((HB.out.cell (World.block_lt_of_cell? w _ hw148_0)).trans hw148_0), ((HB.out.cell (World.block_lt_of_cell? w _ hw149_0)).trans hw149_0)⟩ (fun hHeld => ?_)
                    clear hK K
                    refine norm_ (a' := ?_) ?_ ?_
                    rotate_left
                    ·show Act.put _ (some 59) _ = _
                     simp only [Act.put, List.setIfInBounds_toArray, List.set_cons_zero, List.set_cons_succ, i64_w, i32_w]
                     rfl
                    refine px 8 (some 60) (tf 9 47) HT_ ?_
                    refine px 9 (some 61) (tf 10 47) HT_ ?_
                    refine px 10 (some 62) (tf 11 47) HT_ ?_
                    refine px 11 (some 63) (tf 12 47) HT_ ?_
                    refine px 12 (some 64) (tf 13 47) HT_ ?_
                    refine tx (v := ?_) 13 (some 65) (tf 14 47) HT_ HW_ hHeld ?_ ?_
                    rotate_left; (· rintro w' ⟨s0, s1, s2, s3, s4, s5, s6, s7, s8⟩; go_simp; with_reducible rfl)
                    refine one_ (i := 14) (N := some 66) (tf 15 47) rfl rfl (one_of HT_.out (by kernel_rfl)) (by decide) (fun K hK => ?_)
                    refine goes_ Tryd.func21 (by kernel_rfl) rfl #[.int .i64 (rd (rd_L2 ((rd_T24 l0 0).f3) x3_2) 1), .int .i64 0, .int .i64 10000] (by rfl) rfl rfl (by (try simp only [List.map_toArray, List.map_cons, List.map_nil]); first | done | rfl | (simp only [List.length_drop, List.length_take]; rfl)) ?_
                    with_reducible refine (spec_l00In.calls (rd (rd_L2 ((rd_T24 l0 0).f3) x3_2) 1) 0 10000 true _ A21.out).mono ?_
                    rintro e w' ⟨rfl, ⟨nd, rfl⟩⟩
                    refine ⟨_, rfl, ?_⟩
                    refine hK.out _ _ ⟨((HB.out.cell (World.block_lt_of_cell? w _ hw137_0)).trans hw137_0), ((HB.out.cell (World.block_lt_of_cell? w _ hw139_0)).trans hw139_0), ((HB.out.cell (World.block_lt_of_cell? w _ hw146_0)).trans hw146_0), ((HB.out.cell (World.block_lt_of_cell? w _ hw146_1)).trans hw146_1), ((HB.out.cell (World.block_lt_of_cell? w _ hw146_2)).trans hw146_2), ((HB.out.cell (World.block_lt_of_cell? w _ hw146_3)).trans hw146_3), ((HB.out.cell (World.block_lt_of_cell? w _ hw147_0)).trans hw147_0), ((HB.out.cell (World.block_lt_of_cell? w _ hw148_0)).trans hw148_0), ((HB.out.cell (World.block_lt_of_cell? w _ hw149_0)).trans hw149_0)⟩ (fun hHeld => ?_)
                    clear hK K
                    refine norm_ (a' := ?_) ?_ ?_
                    rotate_left
                    ·show Act.put _ (some 66) _ = _
                     simp only [Act.put, List.setIfInBounds_toArray, List.set_cons_zero, List.set_cons_succ, i64_w, i32_w]
                     rfl
                    refine px 15 (some 67) (tf 16 47) HT_ ?_
                    refine px 16 (some 68) (tf 17 47) HT_ ?_
                    refine px 17 (some 69) (tf 18 47) HT_ ?_
                    refine px 18 (some 70) (tf 19 47) HT_ ?_
                    refine px 19 (some 71) (tf 20 47) HT_ ?_
                    refine px 20 (some 72) (tf 21 47) HT_ ?_
                    refine sx 21 (some 73) (tf 22 47) HT_ ?_
                    refine sx 22 (some 74) (tf 23 47) HT_ ?_
                    refine sx 23 (some 75) (tf 24 47) HT_ ?_
                    refine sx 24 (some 76) (tf 25 47) HT_ ?_
                    refine px 25 (some 77) (tf 26 47) HT_ ?_
                    refine px 26 (some 78) (tf 27 47) HT_ ?_
                    refine px 27 (some 79) (tf 28 47) HT_ ?_
                    refine px 28 (some 80) (tf 29 47) HT_ ?_
                    refine px 29 (some 81) (tf 30 47) HT_ ?_
                    refine px 30 (some 82) (tf 31 47) HT_ ?_
                    refine px 31 (some 83) (tf 32 47) HT_ ?_
                    refine px 32 (some 84) (tf 33 47) HT_ ?_
                    refine px 33 (some 85) (tf 34 47) HT_ ?_
                    refine px 35 (some 87) (tb 47 51539607551) HT_ ?_
                    refine px 36 (some 88) (tb 47 120259084287) HT_ ?_
                    refine px 41 (some 93) (tb 47 2319282339839) HT_ ?_
                    refine px 42 (some 94) (tb 47 6717328850943) HT_ ?_
                    refine tx (v := ?_) 34 (some 86) (tb 47 6734508720127) HT_ HW_ hHeld ?_ ?_
                    rotate_left; (· rintro w' ⟨s0, s1, s2, s3, s4, s5, s6, s7, s8⟩; go_simp; with_reducible rfl)
                    refine px 37 (some 89) (tb 47 6871947673599) HT_ ?_
                    refine tx (v := ?_) 38 (some 90) (tb 47 7146825580543) HT_ HW_ hHeld ?_ ?_
                    rotate_left; (· rintro w' ⟨s0, s1, s2, s3, s4, s5, s6, s7, s8⟩; go_simp; with_reducible rfl)
                    refine px 39 (some 91) (tb 47 7696581394431) HT_ ?_
                    refine tx (v := ?_) 40 (some 92) (tf 43 47) HT_ HW_ hHeld ?_ ?_
                    rotate_left; (· rintro w' ⟨s0, s1, s2, s3, s4, s5, s6, s7, s8⟩; go_simp; with_reducible rfl)
                    refine tx (v := ?_) 43 (some 95) (tf 44 47) HT_ HW_ hHeld ?_ ?_
                    rotate_left; (· rintro w' ⟨s0, s1, s2, s3, s4, s5, s6, s7, s8⟩; go_simp; with_reducible rfl)
                    refine px 44 (some 96) (tf 45 47) HT_ ?_
                    refine px 45 (some 97) (tf 46 47) HT_ ?_
                    refine px 46 (some 98) (tf 47 47) HT_ ?_
                    refine done_ (done_of HT_.out (by kernel_rfl)) ?_
                    try go_wp2
                    go_meet
                    case rel => exact ⟨_, (decide ((rd (rd_L2 ((rd_T24 l0 0).f3) (ji34)) 0) ≥ (rd (rd_L2 ((rd_T24 l0 0).f3) x3_2) 0))), (by first | rfl | (simp; done) | (simp only [← hji34] <;> (first | rfl | simp)) | (simp [*]; done)), H', ⟨by have := HJ1.out; have := HK2.out; first | omega | exact Nat.le_refl _⟩, ⟨by repeat (first | (with_reducible first | exact HB.out | apply below_alloc | apply pw_below_drewN | apply below_drew1) | exact HB.out)⟩⟩
                   ·rw [if_neg c37] at H
                    exact absurd H (by simp)
                  ·rw [if_neg c36] at H
                   exact absurd H (by simp)
                 ·rw [if_neg c35] at H
                  exact absurd H (by simp)
                ·rw [if_neg c33] at H
                 have c33b0 : decide (0 < x3_2) = false := decide_eq_false c33
                 clear c33
                 have H' := Aside0.mk H
                 clear H
                 try go_wp2
                 have n0_ := Aside0.mk (below_drew1 HB.out)
                 clear HB
                 have HB := n0_
                 clear n0_
                 have p137 : 0 ≤ (0 : Int) := (by omega)
                 have q137 : 0 < ((rd_L2 ((rd_T24 l0 0).f3) x3_2).length : Int) := of_decide_eq_true (by first | (with_reducible assumption) | assumption)
                 obtain ⟨ad137, e137, hx137_0⟩ := Kd.at_int HR136_0.out 0 p137 q137
                 have hw137_0 := hx137_0
                 (try rw [show ((0 : Int)).toNat = 0 from rfl] at hw137_0)
                 (try rw [show 0 * 1 = 0 from rfl] at hw137_0)
                 (try rw [Addr.add_zero'] at hw137_0)
                 cases e137
                 have qi137 : (0 < (rd_L2 ((rd_T24 l0 0).f3) x3_2).length) = True := eq_true (by omega)
                 (try rw [show ((0 : Int)).toNat = 0 from rfl] at hx137_0)
                 (try rw [Addr.add_zero'] at hx137_0)
                 replace hx137_0 := (HB.out.cell (World.block_lt_of_cell? w _ hx137_0)).trans hx137_0
                 replace p137 := eq_true p137
                 replace q137 := eq_true q137
                 have p139 : 0 ≤ (1 : Int) := (by omega)
                 have q139 : 1 < ((rd_L2 ((rd_T24 l0 0).f3) x3_2).length : Int) := of_decide_eq_true (by first | (with_reducible assumption) | assumption)
                 obtain ⟨ad139, e139, hx139_0⟩ := Kd.at_int HR136_0.out 1 p139 q139
                 have hw139_0 := hx139_0
                 (try rw [show ((1 : Int)).toNat = 1 from rfl] at hw139_0)
                 (try rw [show 1 * 1 = 1 from rfl] at hw139_0)
                 (try simp only [Nat.reduceMul, Nat.reduceEqDiff, Go.Addr.add, ↓reduceIte] at hw139_0)
                 obtain rfl : ad137 = ad139 := (by injection e139)
                 (try simp only [show (1 : Int).toNat = 1 from rfl, Nat.reduceMul, Nat.reduceEqDiff, Go.Addr.add, ↓reduceIte] at hx139_0)
                 have qi139 : (1 < (rd_L2 ((rd_T24 l0 0).f3) x3_2).length) = True := eq_true (by omega)
                 (try rw [show ((1 : Int)).toNat = 1 from rfl] at hx139_0)
                 replace hx139_0 := (HB.out.cell (World.block_lt_of_cell? w _ hx139_0)).trans hx139_0
                 replace p139 := eq_true p139
                 replace q139 := eq_true q139
                 refine start_ (n := 47) (S := fun w' => w'.cell? ad137 = some (.int .i64 (rd (rd_L2 ((rd_T24 l0 0).f3) x3_2) 0)) ∧ w'.cell? ⟨ad137.block, ad137.off + 1, none⟩ = some (.int .i64 (rd (rd_L2 ((rd_T24 l0 0).f3) x3_2) 1))) (ds := []) (tf 0 47) (by kernel_rfl) rfl rfl ⟨((HB.out.cell (World.block_lt_of_cell? w _ hw137_0)).trans hw137_0), ((HB.out.cell (World.block_lt_of_cell? w _ hw139_0)).trans hw139_0)⟩ (fun hHeld => ?_); refine with_tabW spec_l21Ok.tab7 spec_l21Ok.bits7 (fun HT_ HW_ => ?_)
                 generalize wr.drew = w39 at HB hx137_0 hx139_0 hHeld ⊢
                 refine px 0 (some 52) (tf 1 47) HT_ ?_
                 refine px 1 (some 53) (tf 2 47) HT_ ?_
                 refine px 2 (some 54) (tf 3 47) HT_ ?_
                 refine px 3 (some 55) (tf 4 47) HT_ ?_
                 refine px 4 (some 56) (tf 5 47) HT_ ?_
                 refine px 5 (some 57) (tf 6 47) HT_ ?_
                 refine tx (v := ?_) 6 (some 58) (tf 7 47) HT_ HW_ hHeld ?_ ?_
                 rotate_left; (· rintro w' ⟨s0, s1⟩; go_simp; with_reducible rfl)
                 refine one_ (i := 7) (N := some 59) (tf 8 47) rfl rfl (one_of HT_.out (by kernel_rfl)) (by decide) (fun K hK => ?_)
                 refine goes_ Tryd.func21 (by kernel_rfl) rfl #[.int .i64 (rd (rd_L2 ((rd_T24 l0 0).f3) x3_2) 0), .int .i64 0, .int .i64 1000000] (by rfl) rfl rfl (by (try simp only [List.map_toArray, List.map_cons, List.map_nil]); first | done | rfl | (simp only [List.length_drop, List.length_take]; rfl)) ?_
                 with_reducible refine (spec_l00In.calls (rd (rd_L2 ((rd_T24 l0 0).f3) x3_2) 0) 0 1000000 true _ A18.out).mono ?_
                 rintro e w' ⟨rfl, ⟨nd, rfl⟩⟩
                 refine ⟨_, rfl, ?_⟩
                 refine hK.out _ _ ⟨((HB.out.cell (World.block_lt_of_cell? w _ hw137_0)).trans hw137_0), ((HB.out.cell (World.block_lt_of_cell? w _ hw139_0)).trans hw139_0)⟩ (fun hHeld => ?_)
                 clear hK K
                 refine norm_ (a' := ?_) ?_ ?_
                 rotate_left
                 ·show Act.put _ (some 59) _ = _
                  simp only [Act.put, List.setIfInBounds_toArray, List.set_cons_zero, List.set_cons_succ, i64_w, i32_w]
                  rfl
                 refine px 8 (some 60) (tf 9 47) HT_ ?_
                 refine px 9 (some 61) (tf 10 47) HT_ ?_
                 refine px 10 (some 62) (tf 11 47) HT_ ?_
                 refine px 11 (some 63) (tf 12 47) HT_ ?_
                 refine px 12 (some 64) (tf 13 47) HT_ ?_
                 refine tx (v := ?_) 13 (some 65) (tf 14 47) HT_ HW_ hHeld ?_ ?_
                 rotate_left; (· rintro w' ⟨s0, s1⟩; go_simp; with_reducible rfl)
                 refine one_ (i := 14) (N := some 66) (tf 15 47) rfl rfl (one_of HT_.out (by kernel_rfl)) (by decide) (fun K hK => ?_)
                 refine goes_ Tryd.func21 (by kernel_rfl) rfl #[.int .i64 (rd (rd_L2 ((rd_T24 l0 0).f3) x3_2) 1), .int .i64 0, .int .i64 10000] (by rfl) rfl rfl (by (try simp only [List.map_toArray, List.map_cons, List.map_nil]); first | done | rfl | (simp only [List.length_drop, List.length_take]; rfl)) ?_
                 with_reducible refine (spec_l00In.calls (rd (rd_L2 ((rd_T24 l0 0).f3) x3_2) 1) 0 10000 true _ A21.out).mono ?_
                 rintro e w' ⟨rfl, ⟨nd, rfl⟩⟩
                 refine ⟨_, rfl, ?_⟩
                 refine hK.out _ _ ⟨((HB.out.cell (World.block_lt_of_cell? w _ hw137_0)).trans hw137_0), ((HB.out.cell (World.block_lt_of_cell? w _ hw139_0)).trans hw139_0)⟩ (fun hHeld => ?_)
                 clear hK K
                 refine norm_ (a' := ?_) ?_ ?_
                 rotate_left
                 ·show Act.put _ (some 66) _ = _
                  simp only [Act.put, List.setIfInBounds_toArray, List.set_cons_zero, List.set_cons_succ, i64_w, i32_w]
                  rfl
                 refine px 15 (some 67) (tf 16 47) HT_ ?_
                 refine px 16 (some 68) (tf 17 47) HT_ ?_
                 refine px 17 (some 69) (tf 18 47) HT_ ?_
                 refine px 18 (some 70) (tf 19 47) HT_ ?_
                 refine px 19 (some 71) (tf 20 47) HT_ ?_
                 refine px 20 (some 72) (tf 21 47) HT_ ?_
                 refine sx 21 (some 73) (tf 22 47) HT_ ?_
                 refine sx 22 (some 74) (tf 23 47) HT_ ?_
                 refine sx 23 (some 75) (tf 24 47) HT_ ?_
                 refine sx 24 (some 76) (tf 25 47) HT_ ?_
                 refine px 25 (some 77) (tf 26 47) HT_ ?_
                 refine px 26 (some 78) (tf 27 47) HT_ ?_
                 refine px 27 (some 79) (tf 28 47) HT_ ?_
                 refine px 28 (some 80) (tf 29 47) HT_ ?_
                 refine px 29 (some 81) (tf 30 47) HT_ ?_
                 refine px 30 (some 82) (tf 31 47) HT_ ?_
                 refine sx 31 (some 83) (tf 32 47) HT_ ?_
                 refine sx 32 (some 84) (tf 33 47) HT_ ?_
                 refine sx 33 (some 85) (tf 34 47) HT_ ?_
                 refine sx 34 (some 86) (tf 35 47) HT_ ?_
                 refine sx 35 (some 87) (tf 36 47) HT_ ?_
                 refine sx 36 (some 88) (tf 37 47) HT_ ?_
                 refine sx 37 (some 89) (tf 38 47) HT_ ?_
                 refine sx 38 (some 90) (tf 39 47) HT_ ?_
                 refine sx 39 (some 91) (tf 40 47) HT_ ?_
                 refine sx 40 (some 92) (tf 41 47) HT_ ?_
                 refine sx 41 (some 93) (tf 42 47) HT_ ?_
                 refine sx 42 (some 94) (tf 43 47) HT_ ?_
                 refine sx 43 (some 95) (tf 44 47) HT_ ?_
                 refine sx 44 (some 96) (tf 45 47) HT_ ?_
                 refine px 45 (some 97) (tf 46 47) HT_ ?_
                 refine px 46 (some 98) (tf 47 47) HT_ ?_
                 refine done_ (done_of HT_.out (by kernel_rfl)) ?_
                 try go_wp2
                 go_meet
                 case rel => exact ⟨_, (false), (by first | rfl | (simp; done) | (simp [*]; done)), H', ⟨by have := HJ1.out; have := HK2.out; first | omega | exact Nat.le_refl _⟩, ⟨by repeat (first | (with_reducible first | exact HB.out | apply below_alloc | apply pw_below_drewN | apply below_drew1) | exact HB.out)⟩⟩
              ·replace c22 := Bool.eq_false_iff.mpr c22
               subst c22
               have H1 : (spec_l21Ok.j2 k2 l0 x3_2 true) = some r := by rw [if_neg (show ¬ (false = true) by decide)] at H; exact H
               clear H
               have H := H1
               clear H1
               have H' := Aside0.mk H
               clear H
               try go_wp2
               have n0_ := Aside0.mk (below_drew1 HB.out)
               clear HB
               have HB := n0_
               clear n0_
               have p137 : 0 ≤ (0 : Int) := (by omega)
               have q137 : 0 < ((rd_L2 ((rd_T24 l0 0).f3) x3_2).length : Int) := of_decide_eq_true (by first | (with_reducible assumption) | assumption)
               obtain ⟨ad137, e137, hx137_0⟩ := Kd.at_int HR136_0.out 0 p137 q137
               have hw137_0 := hx137_0
               (try rw [show ((0 : Int)).toNat = 0 from rfl] at hw137_0)
               (try rw [show 0 * 1 = 0 from rfl] at hw137_0)
               (try rw [Addr.add_zero'] at hw137_0)
               cases e137
               have qi137 : (0 < (rd_L2 ((rd_T24 l0 0).f3) x3_2).length) = True := eq_true (by omega)
               (try rw [show ((0 : Int)).toNat = 0 from rfl] at hx137_0)
               (try rw [Addr.add_zero'] at hx137_0)
               replace hx137_0 := (HB.out.cell (World.block_lt_of_cell? w _ hx137_0)).trans hx137_0
               replace p137 := eq_true p137
               replace q137 := eq_true q137
               have p139 : 0 ≤ (1 : Int) := (by omega)
               have q139 : 1 < ((rd_L2 ((rd_T24 l0 0).f3) x3_2).length : Int) := of_decide_eq_true (by first | (with_reducible assumption) | assumption)
               obtain ⟨ad139, e139, hx139_0⟩ := Kd.at_int HR136_0.out 1 p139 q139
               have hw139_0 := hx139_0
               (try rw [show ((1 : Int)).toNat = 1 from rfl] at hw139_0)
               (try rw [show 1 * 1 = 1 from rfl] at hw139_0)
               (try simp only [Nat.reduceMul, Nat.reduceEqDiff, Go.Addr.add, ↓reduceIte] at hw139_0)
               obtain rfl : ad137 = ad139 := (by injection e139)
               (try simp only [show (1 : Int).toNat = 1 from rfl, Nat.reduceMul, Nat.reduceEqDiff, Go.Addr.add, ↓reduceIte] at hx139_0)
               have qi139 : (1 < (rd_L2 ((rd_T24 l0 0).f3) x3_2).length) = True := eq_true (by omega)
               (try rw [show ((1 : Int)).toNat = 1 from rfl] at hx139_0)
               replace hx139_0 := (HB.out.cell (World.block_lt_of_cell? w _ hx139_0)).trans hx139_0
               replace p139 := eq_true p139
               replace q139 := eq_true q139
               refine start_ (n := 47) (S := fun w' => w'.cell? ad137 = some (.int .i64 (rd (rd_L2 ((rd_T24 l0 0).f3) x3_2) 0)) ∧ w'.cell? ⟨ad137.block, ad137.off + 1, none⟩ = some (.int .i64 (rd (rd_L2 ((rd_T24 l0 0).f3) x3_2) 1))) (ds := []) (tf 0 47) (by kernel_rfl) rfl rfl ⟨((HB.out.cell (World.block_lt_of_cell? w _ hw137_0)).trans hw137_0), ((HB.out.cell (World.block_lt_of_cell? w _ hw139_0)).trans hw139_0)⟩ (fun hHeld => ?_); refine with_tabW spec_l21Ok.tab7 spec_l21Ok.bits7 (fun HT_ HW_ => ?_)
               generalize wr.drew = w40 at HB hx137_0 hx139_0 hHeld ⊢
               refine px 0 (some 52) (tf 1 47) HT_ ?_
               refine px 1 (some 53) (tf 2 47) HT_ ?_
               refine px 2 (some 54) (tf 3 47) HT_ ?_
               refine px 3 (some 55) (tf 4 47) HT_ ?_
               refine px 4 (some 56) (tf 5 47) HT_ ?_
               refine px 5 (some 57) (tf 6 47) HT_ ?_
               refine tx (v := ?_) 6 (some 58) (tf 7 47) HT_ HW_ hHeld ?_ ?_
               rotate_left; (· rintro w' ⟨s0, s1⟩; go_simp; with_reducible rfl)
               refine one_ (i := 7) (N := some 59) (tf 8 47) rfl rfl (one_of HT_.out (by kernel_rfl)) (by decide) (fun K hK => ?_)
               refine goes_ Tryd.func21 (by kernel_rfl) rfl #[.int .i64 (rd (rd_L2 ((rd_T24 l0 0).f3) x3_2) 0), .int .i64 0, .int .i64 1000000] (by rfl) rfl rfl (by (try simp only [List.map_toArray, List.map_cons, List.map_nil]); first | done | rfl | (simp only [List.length_drop, List.length_take]; rfl)) ?_
               with_reducible refine (spec_l00In.calls (rd (rd_L2 ((rd_T24 l0 0).f3) x3_2) 0) 0 1000000 true _ A18.out).mono ?_
               rintro e w' ⟨rfl, ⟨nd, rfl⟩⟩
               refine ⟨_, rfl, ?_⟩
               refine hK.out _ _ ⟨((HB.out.cell (World.block_lt_of_cell? w _ hw137_0)).trans hw137_0), ((HB.out.cell (World.block_lt_of_cell? w _ hw139_0)).trans hw139_0)⟩ (fun hHeld => ?_)
               clear hK K
               refine norm_ (a' := ?_) ?_ ?_
               rotate_left
               ·show Act.put _ (some 59) _ = _
                simp only [Act.put, List.setIfInBounds_toArray, List.set_cons_zero, List.set_cons_succ, i64_w, i32_w]
                rfl
               refine px 8 (some 60) (tf 9 47) HT_ ?_
               refine px 9 (some 61) (tf 10 47) HT_ ?_
               refine px 10 (some 62) (tf 11 47) HT_ ?_
               refine px 11 (some 63) (tf 12 47) HT_ ?_
               refine px 12 (some 64) (tf 13 47) HT_ ?_
               refine tx (v := ?_) 13 (some 65) (tf 14 47) HT_ HW_ hHeld ?_ ?_
               rotate_left; (· rintro w' ⟨s0, s1⟩; go_simp; with_reducible rfl)
               refine one_ (i := 14) (N := some 66) (tf 15 47) rfl rfl (one_of HT_.out (by kernel_rfl)) (by decide) (fun K hK => ?_)
               refine goes_ Tryd.func21 (by kernel_rfl) rfl #[.int .i64 (rd (rd_L2 ((rd_T24 l0 0).f3) x3_2) 1), .int .i64 0, .int .i64 10000] (by rfl) rfl rfl (by (try simp only [List.map_toArray, List.map_cons, List.map_nil]); first | done | rfl | (simp only [List.length_drop, List.length_take]; rfl)) ?_
               with_reducible refine (spec_l00In.calls (rd (rd_L2 ((rd_T24 l0 0).f3) x3_2) 1) 0 10000 false _ A21.out).mono ?_
               rintro e w' ⟨rfl, ⟨nd, rfl⟩⟩
               refine ⟨_, rfl, ?_⟩
               refine hK.out _ _ ⟨((HB.out.cell (World.block_lt_of_cell? w _ hw137_0)).trans hw137_0), ((HB.out.cell (World.block_lt_of_cell? w _ hw139_0)).trans hw139_0)⟩ (fun hHeld => ?_)
               clear hK K
               refine norm_ (a' := ?_) ?_ ?_
               rotate_left
               ·show Act.put _ (some 66) _ = _
                simp only [Act.put, List.setIfInBounds_toArray, List.set_cons_zero, List.set_cons_succ, i64_w, i32_w]
                rfl
               refine px 15 (some 67) (tf 16 47) HT_ ?_
               refine px 16 (some 68) (tf 17 47) HT_ ?_
               refine px 17 (some 69) (tf 18 47) HT_ ?_
               refine sx 18 (some 70) (tf 19 47) HT_ ?_
               refine sx 19 (some 71) (tf 20 47) HT_ ?_
               refine sx 20 (some 72) (tf 21 47) HT_ ?_
               refine sx 21 (some 73) (tf 22 47) HT_ ?_
               refine sx 22 (some 74) (tf 23 47) HT_ ?_
               refine sx 23 (some 75) (tf 24 47) HT_ ?_
               refine sx 24 (some 76) (tf 25 47) HT_ ?_
               refine sx 25 (some 77) (tf 26 47) HT_ ?_
               refine px 26 (some 78) (tf 27 47) HT_ ?_
               refine px 27 (some 79) (tf 28 47) HT_ ?_
               refine sx 28 (some 80) (tf 29 47) HT_ ?_
               refine sx 29 (some 81) (tf 30 47) HT_ ?_
               refine sx 30 (some 82) (tf 31 47) HT_ ?_
               refine sx 31 (some 83) (tf 32 47) HT_ ?_
               refine sx 32 (some 84) (tf 33 47) HT_ ?_
               refine sx 33 (some 85) (tf 34 47) HT_ ?_
               refine sx 34 (some 86) (tf 35 47) HT_ ?_
               refine sx 35 (some 87) (tf 36 47) HT_ ?_
               refine sx 36 (some 88) (tf 37 47) HT_ ?_
               refine sx 37 (some 89) (tf 38 47) HT_ ?_
               refine sx 38 (some 90) (tf 39 47) HT_ ?_
               refine sx 39 (some 91) (tf 40 47) HT_ ?_
               refine sx 40 (some 92) (tf 41 47) HT_ ?_
               refine sx 41 (some 93) (tf 42 47) HT_ ?_
               refine sx 42 (some 94) (tf 43 47) HT_ ?_
               refine sx 43 (some 95) (tf 44 47) HT_ ?_
               refine sx 44 (some 96) (tf 45 47) HT_ ?_
               refine sx 45 (some 97) (tf 46 47) HT_ ?_
               refine px 46 (some 98) (tf 47 47) HT_ ?_
               refine done_ (done_of HT_.out (by kernel_rfl)) ?_
               try go_wp2
               go_meet
               case rel => exact ⟨_, (true), (by first | rfl | (simp; done) | (simp [*]; done)), H', ⟨by have := HJ1.out; have := HK2.out; first | omega | exact Nat.le_refl _⟩, ⟨by repeat (first | (with_reducible first | exact HB.out | apply below_alloc | apply pw_below_drewN | apply below_drew1) | exact HB.out)⟩⟩
             ·rw [if_neg c20] at H
              exact absurd H (by simp)
            ·replace c19 := Bool.eq_false_iff.mpr c19
             subst c19
             have H1 : (spec_l21Ok.j2 k2 l0 x3_2 true) = some r := by rw [if_neg (show ¬ (false = true) by decide)] at H; exact H
             clear H
             have H := H1
             clear H1
             have H' := Aside0.mk H
             clear H
             try go_wp2
             have n0_ := Aside0.mk (below_drew1 HB.out)
             clear HB
             have HB := n0_
             clear n0_
             have p137 : 0 ≤ (0 : Int) := (by omega)
             have q137 : 0 < ((rd_L2 ((rd_T24 l0 0).f3) x3_2).length : Int) := of_decide_eq_true (by first | (with_reducible assumption) | assumption)
             obtain ⟨ad137, e137, hx137_0⟩ := Kd.at_int HR136_0.out 0 p137 q137
             have hw137_0 := hx137_0
             (try rw [show ((0 : Int)).toNat = 0 from rfl] at hw137_0)
             (try rw [show 0 * 1 = 0 from rfl] at hw137_0)
             (try rw [Addr.add_zero'] at hw137_0)
             cases e137
             have qi137 : (0 < (rd_L2 ((rd_T24 l0 0).f3) x3_2).length) = True := eq_true (by omega)
             (try rw [show ((0 : Int)).toNat = 0 from rfl] at hx137_0)
             (try rw [Addr.add_zero'] at hx137_0)
             replace hx137_0 := (HB.out.cell (World.block_lt_of_cell? w _ hx137_0)).trans hx137_0
             replace p137 := eq_true p137
             replace q137 := eq_true q137
             refine start_ (n := 47) (S := fun w' => w'.cell? ad137 = some (.int .i64 (rd (rd_L2 ((rd_T24 l0 0).f3) x3_2) 0))) (ds := []) (tf 0 47) (by kernel_rfl) rfl rfl (((HB.out.cell (World.block_lt_of_cell? w _ hw137_0)).trans hw137_0)) (fun hHeld => ?_); refine with_tabW spec_l21Ok.tab7 spec_l21Ok.bits7 (fun HT_ HW_ => ?_)
             generalize wr.drew = w41 at HB hx137_0 hHeld ⊢
             refine px 0 (some 52) (tf 1 47) HT_ ?_
             refine px 1 (some 53) (tf 2 47) HT_ ?_
             refine px 2 (some 54) (tf 3 47) HT_ ?_
             refine px 3 (some 55) (tf 4 47) HT_ ?_
             refine px 4 (some 56) (tf 5 47) HT_ ?_
             refine px 5 (some 57) (tf 6 47) HT_ ?_
             refine take_ (i := 6) (N := some 58) (v := ?_) (a' := ?_) (tf 7 47) rfl rfl (take_ofW HT_.out HW_.out (by kernel_rfl)) (fun _ _ _ h => h) (Or.inl ⟨by rfl, ?_⟩) hHeld ?_ ?_
             rotate_left
             ·intro w' s0
              go_simp
              with_reducible rfl
             rotate_left; (· simp only [Act.put, List.setIfInBounds_toArray, List.set_cons_zero, List.set_cons_succ, i64_w, i32_w]; rfl)
             refine one_ (i := 7) (N := some 59) (tf 8 47) rfl rfl (one_of HT_.out (by kernel_rfl)) (by decide) (fun K hK => ?_)
             refine goes_ Tryd.func21 (by kernel_rfl) rfl #[.int .i64 (rd (rd_L2 ((rd_T24 l0 0).f3) x3_2) 0), .int .i64 0, .int .i64 1000000] (by rfl) rfl rfl (by (try simp only [List.map_toArray, List.map_cons, List.map_nil]); first | done | rfl | (simp only [List.length_drop, List.length_take]; rfl)) ?_
             with_reducible refine (spec_l00In.calls (rd (rd_L2 ((rd_T24 l0 0).f3) x3_2) 0) 0 1000000 false _ A18.out).mono ?_
             rintro e w' ⟨rfl, ⟨nd, rfl⟩⟩
             refine ⟨_, rfl, ?_⟩
             refine hK.out _ _ (((HB.out.cell (World.block_lt_of_cell? w _ hw137_0)).trans hw137_0)) (fun hHeld => ?_)
             clear hK K
             refine norm_ (a' := ?_) ?_ ?_
             rotate_left
             ·show Act.put _ (some 59) _ = _
              simp only [Act.put, List.setIfInBounds_toArray, List.set_cons_zero, List.set_cons_succ, i64_w, i32_w]
              rfl
             refine px 8 (some 60) (tf 9 47) HT_ ?_
             refine px 9 (some 61) (tf 10 47) HT_ ?_
             refine px 10 (some 62) (tf 11 47) HT_ ?_
             refine sx 11 (some 63) (tf 12 47) HT_ ?_
             refine sx 12 (some 64) (tf 13 47) HT_ ?_
             refine sx 13 (some 65) (tf 14 47) HT_ ?_
             refine sx 14 (some 66) (tf 15 47) HT_ ?_
             refine sx 15 (some 67) (tf 16 47) HT_ ?_
             refine px 16 (some 68) (tf 17 47) HT_ ?_
             refine px 17 (some 69) (tf 18 47) HT_ ?_
             refine sx 18 (some 70) (tf 19 47) HT_ ?_
             refine sx 19 (some 71) (tf 20 47) HT_ ?_
             refine sx 20 (some 72) (tf 21 47) HT_ ?_
             refine sx 21 (some 73) (tf 22 47) HT_ ?_
             refine sx 22 (some 74) (tf 23 47) HT_ ?_
             refine sx 23 (some 75) (tf 24 47) HT_ ?_
             refine sx 24 (some 76) (tf 25 47) HT_ ?_
             refine sx 25 (some 77) (tf 26 47) HT_ ?_
             refine px 26 (some 78) (tf 27 47) HT_ ?_
             refine px 27 (some 79) (tf 28 47) HT_ ?_
             refine sx 28 (some 80) (tf 29 47) HT_ ?_
             refine sx 29 (some 81) (tf 30 47) HT_ ?_
             refine sx 30 (some 82) (tf 31 47) HT_ ?_
             refine sx 31 (some 83) (tf 32 47) HT_ ?_
             refine sx 32 (some 84) (tf 33 47) HT_ ?_
             refine sx 33 (some 85) (tf 34 47) HT_ ?_
             refine sx 34 (some 86) (tf 35 47) HT_ ?_
             refine sx 35 (some 87) (tf 36 47) HT_ ?_
             refine sx 36 (some 88) (tf 37 47) HT_ ?_
             refine sx 37 (some 89) (tf 38 47) HT_ ?_
             refine sx 38 (some 90) (tf 39 47) HT_ ?_
             refine sx 39 (some 91) (tf 40 47) HT_ ?_
             refine sx 40 (some 92) (tf 41 47) HT_ ?_
             refine sx 41 (some 93) (tf 42 47) HT_ ?_
             refine sx 42 (some 94) (tf 43 47) HT_ ?_
             refine sx 43 (some 95) (tf 44 47) HT_ ?_
             refine sx 44 (some 96) (tf 45 47) HT_ ?_
             refine sx 45 (some 97) (tf 46 47) HT_ ?_
             refine px 46 (some 98) (tf 47 47) HT_ ?_
             refine done_ (done_of HT_.out (by kernel_rfl)) ?_
             try go_wp2
             go_meet
             case rel => exact ⟨_, (true), (by first | rfl | (simp; done) | (simp [*]; done)), H', ⟨by have := HJ1.out; have := HK2.out; first | omega | exact Nat.le_refl _⟩, ⟨by repeat (first | (with_reducible first | exact HB.out | apply below_alloc | apply pw_below_drewN | apply below_drew1) | exact HB.out)⟩⟩
           ·rw [if_neg c17] at H
            exact absurd H (by simp)
          ·rw [if_neg c16] at H
           have c16b0 : (((rd_L2 ((rd_T24 l0 0).f3) x3_2).length : Int) == 2) = false := beq_eq_false_iff_ne.mpr c16
           have c16b1 : (((rd_L2 ((rd_T24 l0 0).f3) x3_2).length : Int) != 2) = true := bne_iff_ne.mpr c16
           (first | rw [c16b0] | (simp only [i64_w, i32_w]; rw [c16b0]) | skip)
           have H' := Aside0.mk H
           clear H
           try go_wp2
           have n0_ := Aside0.mk (below_drew1 HB.out)
           clear HB
           have HB := n0_
           clear n0_
           refine start_ (n := 47) (S := fun w' => True) (ds := []) (tf 0 47) (by kernel_rfl) rfl rfl trivial (fun hHeld => ?_); refine with_tabW spec_l21Ok.tab7 spec_l21Ok.bits7 (fun HT_ HW_ => ?_)
           generalize wr.drew = w42 at HB hHeld ⊢
           refine px 0 (some 52) (tf 1 47) HT_ ?_
           refine px 1 (some 53) (tf 2 47) HT_ ?_
           refine px 2 (some 54) (tf 3 47) HT_ ?_
           refine px 3 (some 55) (tf 4 47) HT_ ?_
           refine sx 4 (some 56) (tf 5 47) HT_ ?_
           refine sx 5 (some 57) (tf 6 47) HT_ ?_
           refine sx 6 (some 58) (tf 7 47) HT_ ?_
           refine sx 7 (some 59) (tf 8 47) HT_ ?_
           refine sx 8 (some 60) (tf 9 47) HT_ ?_
           refine px 9 (some 61) (tf 10 47) HT_ ?_
           refine px 10 (some 62) (tf 11 47) HT_ ?_
           refine sx 11 (some 63) (tf 12 47) HT_ ?_
           refine sx 12 (some 64) (tf 13 47) HT_ ?_
           refine sx 13 (some 65) (tf 14 47) HT_ ?_
           refine sx 14 (some 66) (tf 15 47) HT_ ?_
           refine sx 15 (some 67) (tf 16 47) HT_ ?_
           refine px 16 (some 68) (tf 17 47) HT_ ?_
           refine px 17 (some 69) (tf 18 47) HT_ ?_
           refine sx 18 (some 70) (tf 19 47) HT_ ?_
           refine sx 19 (some 71) (tf 20 47) HT_ ?_
           refine sx 20 (some 72) (tf 21 47) HT_ ?_
           refine sx 21 (some 73) (tf 22 47) HT_ ?_
           refine sx 22 (some 74) (tf 23 47) HT_ ?_
           refine sx 23 (some 75) (tf 24 47) HT_ ?_
           refine sx 24 (some 76) (tf 25 47) HT_ ?_
           refine sx 25 (some 77) (tf 26 47) HT_ ?_
           refine px 26 (some 78) (tf 27 47) HT_ ?_
           refine px 27 (some 79) (tf 28 47) HT_ ?_
           refine sx 28 (some 80) (tf 29 47) HT_ ?_
           refine sx 29 (some 81) (tf 30 47) HT_ ?_
           refine sx 30 (some 82) (tf 31 47) HT_ ?_
           refine sx 31 (some 83) (tf 32 47) HT_ ?_
           refine sx 32 (some 84) (tf 33 47) HT_ ?_
           refine sx 33 (some 85) (tf 34 47) HT_ ?_
           refine sx 34 (some 86) (tf 35 47) HT_ ?_
           refine sx 35 (some 87) (tf 36 47) HT_ ?_
           refine sx 36 (some 88) (tf 37 47) HT_ ?_
           refine sx 37 (some 89) (tf 38 47) HT_ ?_
           refine sx 38 (some 90) (tf 39 47) HT_ ?_
           refine sx 39 (some 91) (tf 40 47) HT_ ?_
           refine sx 40 (some 92) (tf 41 47) HT_ ?_
           refine sx 41 (some 93) (tf 42 47) HT_ ?_
           refine sx 42 (some 94) (tf 43 47) HT_ ?_
           refine sx 43 (some 95) (tf 44 47) HT_ ?_
           refine sx 44 (some 96) (tf 45 47) HT_ ?_
           refine sx 45 (some 97) (tf 46 47) HT_ ?_
           refine px 46 (some 98) (tf 47 47) HT_ ?_
           refine done_ (done_of HT_.out (by kernel_rfl)) ?_
           try go_wp2
           go_meet
           case rel => exact ⟨_, (true), (by first | rfl | (simp; done) | (simp [*]; done)), H', ⟨by have := HJ1.out; have := HK2.out; first | omega | exact Nat.le_refl _⟩, ⟨by repeat (first | (with_reducible first | exact HB.out | apply below_alloc | apply pw_below_drewN | apply below_drew1) | exact HB.out)⟩⟩
         case rest =>
          clear HC15
          try clear c1
          try clear p1
          try clear q1
          try clear hx1
          try clear qi1
          try clear c2
          try clear p2
          try clear p13
          try clear q13
          try clear hx13
          try clear qi13
          try clear c16
          try clear c16b0
          try clear c16b1
          try clear c17
          try clear c19
          try clear c20
          try clear c21
          try clear hx137_0
          try clear p137
          try clear q137
          obtain ⟨kq, x98_14, rfl, HA, HJ14, HB⟩ := hcut
          cases kq with
          | zero => exact absurd HA.out (by simp [spec_l21Ok.j2])
          | succ kj14 =>
           have H := HA.out
           clear HA
           simp only [spec_l21Ok.j2] at H
           by_cases c43 : x98_14 = true
           ·subst c43
            have H1 : (some false) = some r := by rw [if_pos rfl] at H; exact H
            clear H
            have H := H1
            clear H1
            obtain rfl := Option.some.inj H
            go_wp2
            go_ret
            exact ⟨by first | rfl | (rw [Int.tdiv_eq_ediv_of_nonneg (by omega)]; rfl) | (simp [errW_none, errW_some] <;> rfl) | (simp [*, errW_none, errW_some] <;> rfl), by repeat (first | (with_reducible first | exact HB.out | apply below_alloc | apply pw_below_drewN | apply below_drew1) | exact HB.out)⟩
           ·replace c43 := Bool.eq_false_iff.mpr c43
            subst c43
            have H1 : (spec_l21Ok.l0 kj14 l0 (wrap64 (x3_2 + 1))) = some r := by rw [if_neg (show ¬ (false = true) by decide)] at H; exact H
            clear H
            have H := H1
            clear H1
            have H' := Aside0.mk H
            clear H
            go_wp2
            go_roundg kj14
            case measure => have := HJ1.out; have := HK2.out; have := HJ14.out; omega
            case rel => exact ⟨(wrap64 (x3_2 + 1)), (by first | rfl | (simp; done) | (simp [*]; done)), H', ⟨by have := HJ1.out; have := HK2.out; have := HJ14.out; omega⟩, ⟨by repeat (first | (with_reducible first | exact HB.out | apply below_alloc | apply pw_below_drewN | apply below_drew1) | exact HB.out)⟩⟩
        ·rw [if_neg c14] at H
         exact absurd H (by simp)
       ·rw [if_neg c13] at H
        have c13b0 : decide (x3_2 < (((rd_T24 l0 0).f3).length : Int)) = false := decide_eq_false c13
        clear c13
        obtain rfl := Option.some.inj H
        have p134 : 0 ≤ (0 : Int) := (by omega)
        have q134 : 0 < (l0.length : Int) := of_decide_eq_true (by first | (with_reducible assumption) | assumption)
        obtain ⟨ad134, A134_3, c134_3, e134, hx134_0, hx134_1, hx134_2, hx134_3, hl134_3, hi134_3⟩ := at_T24 HR0.out 0 p134 q134
        cases e134
        have qi134 : (0 < l0.length) = True := eq_true (by omega)
        (try rw [show ((0 : Int)).toNat = 0 from rfl] at hx134_0)
        (try rw [show 0 * 4 = 0 from rfl] at hx134_0)
        (try rw [Addr.add_zero'] at hx134_0)
        (try rw [show ((0 : Int)).toNat = 0 from rfl] at hx134_1)
        (try rw [show 0 * 4 = 0 from rfl] at hx134_1)
        (try rw [Addr.add_zero'] at hx134_1)
        (try rw [show ((0 : Int)).toNat = 0 from rfl] at hx134_2)
        (try rw [show 0 * 4 = 0 from rfl] at hx134_2)
        (try rw [Addr.add_zero'] at hx134_2)
        (try rw [show ((0 : Int)).toNat = 0 from rfl] at hx134_3)
        (try rw [show 0 * 4 = 0 from rfl] at hx134_3)
        (try rw [Addr.add_zero'] at hx134_3)
        replace hx134_0 := (HB.out.cell (World.block_lt_of_cell? w _ hx134_0)).trans hx134_0
        replace hx134_1 := (HB.out.cell (World.block_lt_of_cell? w _ hx134_1)).trans hx134_1
        replace hx134_2 := (HB.out.cell (World.block_lt_of_cell? w _ hx134_2)).trans hx134_2
        replace hx134_3 := (HB.out.cell (World.block_lt_of_cell? w _ hx134_3)).trans hx134_3
        have HR134_3 := Aside0.mk hi134_3
        have HC134_3 := Aside0.mk hl134_3
        clear hi134_3 hl134_3
        replace p134 := eq_true p134
        replace q134 := eq_true q134
        go_wp2
        go_ret
        exact ⟨by first | rfl | (rw [Int.tdiv_eq_ediv_of_nonneg (by omega)]; rfl) | (simp [errW_none, errW_some] <;> rfl) | (simp [*, errW_none, errW_some] <;> rfl), by repeat (first | (with_reducible first | exact HB.out | apply below_alloc | apply pw_below_drewN | apply below_drew1) | exact HB.out)⟩
      ·rw [if_neg c12] at H
       exact absurd H (by simp)

end Go.Proofs.YtabojdhgbpdcmaaDoor.PFnExactReadTariff
