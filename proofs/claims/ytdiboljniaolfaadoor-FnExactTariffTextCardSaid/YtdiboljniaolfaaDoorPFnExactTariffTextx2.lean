-- written by wip/xprint.py, a program of this session, for this claim; not trusted: Lean checks it.
import Derived.Test.YtdiboljniaolfaaDoorPFnExactTariffTextx0
import Derived.Test.YtdiboljniaolfaaDoorPFnExactTariffTextx1
namespace Go.Proofs.YtdiboljniaolfaaDoor.PFnExactTariffText
open Go.RowKit Go.Proofs.YtdiboljniaolfaaDoorW.PrintWords Go.Proofs.YtdiboljniaolfaaDoorW.PrintLast Go.Proofs.YtdiboljniaolfaaDoorW.PrintMore
attribute [local go_sem] leq_less_ max2_int min2_int max_two min_two max_three min_three max_four min_four   -- for this text's walks alone
set_option linter.unusedVariables false
set_option linter.unusedSimpArgs false

/-! ### spec_l21Ok: function 10 -/
mutual
def spec_l21Ok.j0 : Nat → List (S27) → Bool → Option (Bool)
 | 0, _, _ => none
 | k + 1, x0, x35 => if x35 = true then (some false) else (spec_l21Ok.l0 k x0 0)
def spec_l21Ok.l0 : Nat → List (S27) → Int → Option (Bool)
 | 0, _, _ => none
 | k + 1, x0, x3 => if 0 < (x0.length : Int) then (if x3 < (((rd_T27 x0 0).f3).length : Int) then (if 0 ≤ x3 then (if ((rd_L1 ((rd_T27 x0 0).f3) x3).length : Int) = 2 then (if 0 < ((rd_L1 ((rd_T27 x0 0).f3) x3).length : Int) then ((spec_l00In.f (rd (rd_L1 ((rd_T27 x0 0).f3) x3) 0) 0 1000000).bind fun t120 => (if t120 = true then (if 1 < ((rd_L1 ((rd_T27 x0 0).f3) x3).length : Int) then ((spec_l00In.f (rd (rd_L1 ((rd_T27 x0 0).f3) x3) 1) 0 10000).bind fun t122 => (if t122 = true then (if x3 = 0 then (if (rd (rd_L1 ((rd_T27 x0 0).f3) x3) 0) = 0 then (if x3 > 0 then (if 0 ≤ (wrap64 (x3 - 1)) then (if (wrap64 (x3 - 1)) < (((rd_T27 x0 0).f3).length : Int) then (if 0 < ((rd_L1 ((rd_T27 x0 0).f3) (wrap64 (x3 - 1))).length : Int) then (spec_l21Ok.j2 k x0 x3 (decide ((rd (rd_L1 ((rd_T27 x0 0).f3) (wrap64 (x3 - 1))) 0) ≥ (rd (rd_L1 ((rd_T27 x0 0).f3) x3) 0)))) else (none)) else (none)) else (none)) else (spec_l21Ok.j2 k x0 x3 false)) else (spec_l21Ok.j2 k x0 x3 true)) else (if x3 > 0 then (if 0 ≤ (wrap64 (x3 - 1)) then (if (wrap64 (x3 - 1)) < (((rd_T27 x0 0).f3).length : Int) then (if 0 < ((rd_L1 ((rd_T27 x0 0).f3) (wrap64 (x3 - 1))).length : Int) then (spec_l21Ok.j2 k x0 x3 (decide ((rd (rd_L1 ((rd_T27 x0 0).f3) (wrap64 (x3 - 1))) 0) ≥ (rd (rd_L1 ((rd_T27 x0 0).f3) x3) 0)))) else (none)) else (none)) else (none)) else (spec_l21Ok.j2 k x0 x3 false))) else (spec_l21Ok.j2 k x0 x3 true))) else (none)) else (spec_l21Ok.j2 k x0 x3 true))) else (none)) else (spec_l21Ok.j2 k x0 x3 true)) else (none)) else (some true)) else (none)
def spec_l21Ok.j2 : Nat → List (S27) → Int → Bool → Option (Bool)
 | 0, _, _, _ => none
 | k + 1, x0, x3, x98 => if x98 = true then (some false) else (spec_l21Ok.l0 k x0 (wrap64 (x3 + 1)))
end
def spec_l21Ok.f (k : Nat) (l0 : List (S27)) : Option (Bool) := if 0 < (l0.length : Int) then ((spec_l01Name.f k ((rd_T27 l0 0).f0)).bind fun t109 => (if t109 = true then ((spec_l00In.f ((rd_T27 l0 0).f1) 0 1000000).bind fun t111 => (if t111 = true then ((spec_l00In.f ((rd_T27 l0 0).f2) 0 10000).bind fun t113 => (if t113 = true then ((spec_l00In.f (((rd_T27 l0 0).f3).length : Int) 1 6).bind fun t115 => (spec_l21Ok.j0 k l0 (!t115))) else (spec_l21Ok.j0 k l0 true))) else (spec_l21Ok.j0 k l0 true))) else (spec_l21Ok.j0 k l0 true))) else (none)
theorem spec_l21Ok.mono_l : ∀ k, (∀ y0 y1, LeO (spec_l21Ok.j0 k y0 y1) (spec_l21Ok.j0 (k + 1) y0 y1)) ∧ (∀ y0 y1, LeO (spec_l21Ok.l0 k y0 y1) (spec_l21Ok.l0 (k + 1) y0 y1)) ∧ (∀ y0 y1 y2, LeO (spec_l21Ok.j2 k y0 y1 y2) (spec_l21Ok.j2 (k + 1) y0 y1 y2))
 | 0 => ⟨fun _ _ r h => by simp [spec_l21Ok.j0] at h, fun _ _ r h => by simp [spec_l21Ok.l0] at h, fun _ _ _ r h => by simp [spec_l21Ok.j2] at h⟩
 | k + 1 => by
  obtain ⟨ih0, ih1, ih2⟩ := spec_l21Ok.mono_l k
  refine ⟨?_, ?_, ?_⟩
  ·intro y0 y1
   unfold spec_l21Ok.j0
   repeat' first
   | (with_reducible exact ih0 _ _)
   | (with_reducible exact ih1 _ _)
   | (with_reducible exact ih2 _ _ _)
   | (with_reducible exact spec_l01Name.mono _ _)
   | (with_reducible exact LeO.refl _)
   | (with_reducible exact LeO.none _)
   | (with_reducible refine LeO.ite ?_ ?_)
   | (with_reducible refine LeO.bind ?_ (fun _ => ?_))
   | exact ih0 _ _
   | exact ih1 _ _
   | exact ih2 _ _ _
   | exact spec_l01Name.mono _ _
   | exact LeO.none _
   | refine LeO.ite ?_ ?_
   | refine LeO.bind ?_ (fun _ => ?_)
  ·intro y0 y1
   unfold spec_l21Ok.l0
   repeat' first
   | (with_reducible exact ih0 _ _)
   | (with_reducible exact ih1 _ _)
   | (with_reducible exact ih2 _ _ _)
   | (with_reducible exact spec_l01Name.mono _ _)
   | (with_reducible exact LeO.refl _)
   | (with_reducible exact LeO.none _)
   | (with_reducible refine LeO.ite ?_ ?_)
   | (with_reducible refine LeO.bind ?_ (fun _ => ?_))
   | exact ih0 _ _
   | exact ih1 _ _
   | exact ih2 _ _ _
   | exact spec_l01Name.mono _ _
   | exact LeO.none _
   | refine LeO.ite ?_ ?_
   | refine LeO.bind ?_ (fun _ => ?_)
  ·intro y0 y1 y2
   unfold spec_l21Ok.j2
   repeat' first
   | (with_reducible exact ih0 _ _)
   | (with_reducible exact ih1 _ _)
   | (with_reducible exact ih2 _ _ _)
   | (with_reducible exact spec_l01Name.mono _ _)
   | (with_reducible exact LeO.refl _)
   | (with_reducible exact LeO.none _)
   | (with_reducible refine LeO.ite ?_ ?_)
   | (with_reducible refine LeO.bind ?_ (fun _ => ?_))
   | exact ih0 _ _
   | exact ih1 _ _
   | exact ih2 _ _ _
   | exact spec_l01Name.mono _ _
   | exact LeO.none _
   | refine LeO.ite ?_ ?_
   | refine LeO.bind ?_ (fun _ => ?_)
theorem spec_l21Ok.mono : ∀ a0 k, LeO (spec_l21Ok.f k a0) (spec_l21Ok.f (k + 1) a0) := by
 intro a0 k
 obtain ⟨ih0, ih1, ih2⟩ := spec_l21Ok.mono_l k
 unfold spec_l21Ok.f
 repeat' first
   | (with_reducible exact ih0 _ _)
   | (with_reducible exact ih1 _ _)
   | (with_reducible exact ih2 _ _ _)
   | (with_reducible exact spec_l01Name.mono _ _)
   | (with_reducible exact LeO.refl _)
   | (with_reducible exact LeO.none _)
   | (with_reducible refine LeO.ite ?_ ?_)
   | (with_reducible refine LeO.bind ?_ (fun _ => ?_))
   | exact ih0 _ _
   | exact ih1 _ _
   | exact ih2 _ _ _
   | exact spec_l01Name.mono _ _
   | exact LeO.none _
   | refine LeO.ite ?_ ?_
   | refine LeO.bind ?_ (fun _ => ?_)
def spec_l21Ok.T7 : Bool × List (List Nat × List Nat) := (true, [([], []), ([0], [0]), ([1], [1]), ([2], [2]), ([3], [3]), ([4, 3], [3, 4]), ([5, 3], [3, 5]), ([6, 3, 3], [3, 6]), ([7, 3], [3, 7]), ([3, 8], [3, 8]), ([9, 7], [9]), ([10], [10]), ([11, 10], [10, 11]), ([12, 10], [10, 12]), ([13, 10, 10], [10, 13]), ([14, 10], [10, 14]), ([10, 15], [10, 15]), ([16, 14], [16]), ([17], [17]), ([18, 17], [17, 18]), ([19, 17, 17], [17, 19]), ([20], [20]), ([21, 20], [20, 21]), ([22, 20], [20, 22]), ([23, 20], [20, 23]), ([20, 24, 17], [17, 20, 24]), ([17, 25], [17, 25]), ([26, 20], [26]), ([27], [27]), ([28, 27], [27, 28]), ([29, 27, 27], [27, 29]), ([30], [30]), ([31, 30], [30, 31]), ([32, 30], [30, 32]), ([33, 30], [30, 33]), ([30], [30]), ([35, 30], [30, 35]), ([34, 36, 30], [30, 34, 36]), ([37, 30], [30, 37]), ([38, 30], [30, 38]), ([39, 30], [30, 39]), ([30], [30]), ([41, 30], [30, 41]), ([42, 30], [30, 42]), ([40, 43, 30], [30, 40, 43]), ([30, 44, 27], [27, 30, 44]), ([27, 45], [27, 45])])
def spec_l21Ok.B7 : List Nat := [0, 1, 3, 7, 15, 31, 63, 127, 255, 511, 1023, 2047, 4095, 8191, 16383, 32767, 65535, 131071, 262143, 524287, 1048575, 2097151, 4194303, 8388607, 16777215, 33554431, 67108863, 134217727, 268435455, 536870911, 1073741823, 2147483647, 4294967295, 8589934591, 17179869183, 2147483647, 36507222015, 137438953471, 274877906943, 549755813887, 1099511627775, 2147483647, 2201170739199, 6599217250303, 17592186044415, 35184372088831, 70368744177663]
theorem spec_l21Ok.tab7 : rtab .any (opsOf Tryd.f10 7) = spec_l21Ok.T7 := by kernel_rfl
theorem spec_l21Ok.bits7 : waitsOk spec_l21Ok.T7.2 spec_l21Ok.B7 = true := by kernel_rfl
set_option maxHeartbeats 8000000 in
set_option maxRecDepth 100000 in
theorem spec_l21Ok.calls (k : Nat) (A0 : Option Addr) (c0 : Nat) (l0 : List (S27)) (r : Bool) (w : World) (hr0 : Kd.C k27 w A0 l0.length l0) (hc0 : l0.length ≤ c0) (h : spec_l21Ok.f k l0 = some r) :
  Calls Tryd.prog 10 #[.pointer A0] w fun e w' => e = .returned (.bool r) ∧ Below w.heap.size w w' := by
 have HR0 := Aside0.mk hr0
 have HC0 := Aside0.mk hc0
 clear hr0 hc0
 have HB := Aside0.mk (Below.refl w.heap.size w)
 have H : (if 0 < (l0.length : Int) then ((spec_l01Name.f k ((rd_T27 l0 0).f0)).bind fun t109 => (if t109 = true then ((spec_l00In.f ((rd_T27 l0 0).f1) 0 1000000).bind fun t111 => (if t111 = true then ((spec_l00In.f ((rd_T27 l0 0).f2) 0 10000).bind fun t113 => (if t113 = true then ((spec_l00In.f (((rd_T27 l0 0).f3).length : Int) 1 6).bind fun t115 => (spec_l21Ok.j0 k l0 (!t115))) else (spec_l21Ok.j0 k l0 true))) else (spec_l21Ok.j0 k l0 true))) else (spec_l21Ok.j0 k l0 true))) else (none)) = some r := h
 clear h
 have HC2 := Aside0.mk H
 clear H
 go_enter Tryd.func10, Tryd.ntmps10
 go_upto_region 1 with (fail)
 go_cut [35] (fun v35 wc => ∃ (kq : Nat) (x35_1 : Bool), v35 = .bool x35_1 ∧ Aside0 (spec_l21Ok.j0 kq l0 x35_1 = some r) ∧ Aside0 (kq ≤ k) ∧ Aside0 (Below w.heap.size w wc))
 case first =>
  have H := HC2.out
  clear HC2
  by_cases c3 : 0 < (l0.length : Int)
  ·rw [if_pos c3] at H
   have c3b0 : decide (0 < (l0.length : Int)) = true := decide_eq_true c3
   have c3b1 : decide (0 < l0.length) = true := decide_eq_true (by omega)
   clear c3
   (first | rw [c3b0] | (simp only [i64_w, i32_w]; rw [c3b0]) | skip)
   replace H := Option.bind_eq_some_iff.mp H
   obtain ⟨t109, A40, H⟩ := H
   replace H : (if t109 = true then ((spec_l00In.f ((rd_T27 l0 0).f1) 0 1000000).bind fun t111 => (if t111 = true then ((spec_l00In.f ((rd_T27 l0 0).f2) 0 10000).bind fun t113 => (if t113 = true then ((spec_l00In.f (((rd_T27 l0 0).f3).length : Int) 1 6).bind fun t115 => (spec_l21Ok.j0 k l0 (!t115))) else (spec_l21Ok.j0 k l0 true))) else (spec_l21Ok.j0 k l0 true))) else (spec_l21Ok.j0 k l0 true)) = some r := H
   have A4 := Aside0.mk A40
   clear A40
   by_cases c5 : t109 = true
   ·subst c5
    have H1 : ((spec_l00In.f ((rd_T27 l0 0).f1) 0 1000000).bind fun t111 => (if t111 = true then ((spec_l00In.f ((rd_T27 l0 0).f2) 0 10000).bind fun t113 => (if t113 = true then ((spec_l00In.f (((rd_T27 l0 0).f3).length : Int) 1 6).bind fun t115 => (spec_l21Ok.j0 k l0 (!t115))) else (spec_l21Ok.j0 k l0 true))) else (spec_l21Ok.j0 k l0 true))) = some r := by rw [if_pos rfl] at H; exact H
    clear H
    have H := H1
    clear H1
    replace H := Option.bind_eq_some_iff.mp H
    obtain ⟨t111, A60, H⟩ := H
    replace H : (if t111 = true then ((spec_l00In.f ((rd_T27 l0 0).f2) 0 10000).bind fun t113 => (if t113 = true then ((spec_l00In.f (((rd_T27 l0 0).f3).length : Int) 1 6).bind fun t115 => (spec_l21Ok.j0 k l0 (!t115))) else (spec_l21Ok.j0 k l0 true))) else (spec_l21Ok.j0 k l0 true)) = some r := H
    have A6 := Aside0.mk A60
    clear A60
    by_cases c7 : t111 = true
    ·subst c7
     have H1 : ((spec_l00In.f ((rd_T27 l0 0).f2) 0 10000).bind fun t113 => (if t113 = true then ((spec_l00In.f (((rd_T27 l0 0).f3).length : Int) 1 6).bind fun t115 => (spec_l21Ok.j0 k l0 (!t115))) else (spec_l21Ok.j0 k l0 true))) = some r := by rw [if_pos rfl] at H; exact H
     clear H
     have H := H1
     clear H1
     replace H := Option.bind_eq_some_iff.mp H
     obtain ⟨t113, A80, H⟩ := H
     replace H : (if t113 = true then ((spec_l00In.f (((rd_T27 l0 0).f3).length : Int) 1 6).bind fun t115 => (spec_l21Ok.j0 k l0 (!t115))) else (spec_l21Ok.j0 k l0 true)) = some r := H
     have A8 := Aside0.mk A80
     clear A80
     by_cases c9 : t113 = true
     ·subst c9
      have H1 : ((spec_l00In.f (((rd_T27 l0 0).f3).length : Int) 1 6).bind fun t115 => (spec_l21Ok.j0 k l0 (!t115))) = some r := by rw [if_pos rfl] at H; exact H
      clear H
      have H := H1
      clear H1
      replace H := Option.bind_eq_some_iff.mp H
      obtain ⟨t115, A100, H⟩ := H
      replace H : (spec_l21Ok.j0 k l0 (!t115)) = some r := H
      have A10 := Aside0.mk A100
      clear A100
      have H' := Aside0.mk H
      clear H
      have p108 : 0 ≤ (0 : Int) := (by omega)
      have q108 : 0 < (l0.length : Int) := of_decide_eq_true (by first | (with_reducible assumption) | assumption)
      obtain ⟨ad108, A108_3, c108_3, e108, hx108_0, hx108_1, hx108_2, hx108_3, hl108_3, hi108_3⟩ := at_T27 HR0.out 0 p108 q108
      cases e108
      have qi108 : (0 < l0.length) = True := eq_true (by omega)
      (try rw [show ((0 : Int)).toNat = 0 from rfl] at hx108_0)
      (try rw [show 0 * 4 = 0 from rfl] at hx108_0)
      (try rw [Addr.add_zero'] at hx108_0)
      (try rw [show ((0 : Int)).toNat = 0 from rfl] at hx108_1)
      (try rw [show 0 * 4 = 0 from rfl] at hx108_1)
      (try rw [Addr.add_zero'] at hx108_1)
      (try rw [show ((0 : Int)).toNat = 0 from rfl] at hx108_2)
      (try rw [show 0 * 4 = 0 from rfl] at hx108_2)
      (try rw [Addr.add_zero'] at hx108_2)
      (try rw [show ((0 : Int)).toNat = 0 from rfl] at hx108_3)
      (try rw [show 0 * 4 = 0 from rfl] at hx108_3)
      (try rw [Addr.add_zero'] at hx108_3)
      replace hx108_0 := (HB.out.cell (World.block_lt_of_cell? w _ hx108_0)).trans hx108_0
      replace hx108_1 := (HB.out.cell (World.block_lt_of_cell? w _ hx108_1)).trans hx108_1
      replace hx108_2 := (HB.out.cell (World.block_lt_of_cell? w _ hx108_2)).trans hx108_2
      replace hx108_3 := (HB.out.cell (World.block_lt_of_cell? w _ hx108_3)).trans hx108_3
      have HR108_3 := Aside0.mk hi108_3
      have HC108_3 := Aside0.mk hl108_3
      clear hi108_3 hl108_3
      replace p108 := eq_true p108
      replace q108 := eq_true q108
      go_wp2_with (first | ((with_reducible refine gate_callee (f := 17) rfl ?_); refine goesL_ (some 9) rfl rfl Tryd.func17 (by kernel_rfl) rfl #[.string ((rd_T27 l0 0).f0)] rfl (by (try simp only [List.map_toArray, List.map_cons, List.map_nil]); first | done | rfl | (simp only [List.length_drop, List.length_take]; rfl)) ?_; (with_reducible refine (spec_l01Name.calls k ((rd_T27 l0 0).f0) true _ A4.out).mono ?_); rintro e w' ⟨rfl, ⟨nd, rfl⟩⟩; refine ⟨_, rfl, ?_⟩; have p110 : 0 ≤ (0 : Int) := (by omega); have q110 : 0 < (l0.length : Int) := of_decide_eq_true (by first | (with_reducible assumption) | assumption); obtain ⟨ad110, A110_3, c110_3, e110, hx110_0, hx110_1, hx110_2, hx110_3, hl110_3, hi110_3⟩ := at_T27 HR0.out 0 p110 q110; obtain rfl : ad108 = ad110 := (by injection e110); have qi110 : (0 < l0.length) = True := eq_true (by omega); (try rw [show ((0 : Int)).toNat = 0 from rfl] at hx110_0); (try rw [show 0 * 4 = 0 from rfl] at hx110_0); (try rw [Addr.add_zero'] at hx110_0); (try rw [show ((0 : Int)).toNat = 0 from rfl] at hx110_1); (try rw [show 0 * 4 = 0 from rfl] at hx110_1); (try rw [Addr.add_zero'] at hx110_1); (try rw [show ((0 : Int)).toNat = 0 from rfl] at hx110_2); (try rw [show 0 * 4 = 0 from rfl] at hx110_2); (try rw [Addr.add_zero'] at hx110_2); (try rw [show ((0 : Int)).toNat = 0 from rfl] at hx110_3); (try rw [show 0 * 4 = 0 from rfl] at hx110_3); (try rw [Addr.add_zero'] at hx110_3); replace hx110_0 := (HB.out.cell (World.block_lt_of_cell? w _ hx110_0)).trans hx110_0; replace hx110_1 := (HB.out.cell (World.block_lt_of_cell? w _ hx110_1)).trans hx110_1; replace hx110_2 := (HB.out.cell (World.block_lt_of_cell? w _ hx110_2)).trans hx110_2; replace hx110_3 := (HB.out.cell (World.block_lt_of_cell? w _ hx110_3)).trans hx110_3; have HR110_3 := Aside0.mk hi110_3; have HC110_3 := Aside0.mk hl110_3; clear hi110_3 hl110_3; replace p110 := eq_true p110; replace q110 := eq_true q110; have ea_ := Option.some.inj (hx108_3.symm.trans hx110_3); injection ea_ with ea_ en_ ec_; subst ea_; subst ec_; clear en_) | (go_at_call 18; (with_reducible refine (spec_l00In.calls ((rd_T27 l0 0).f1) 0 1000000 true _ A6.out).mono ?_); rintro e w' ⟨rfl, ⟨nd, rfl⟩⟩; have p112 : 0 ≤ (0 : Int) := (by omega); have q112 : 0 < (l0.length : Int) := of_decide_eq_true (by first | (with_reducible assumption) | assumption); obtain ⟨ad112, A112_3, c112_3, e112, hx112_0, hx112_1, hx112_2, hx112_3, hl112_3, hi112_3⟩ := at_T27 HR0.out 0 p112 q112; obtain rfl : ad108 = ad112 := (by injection e112); have qi112 : (0 < l0.length) = True := eq_true (by omega); (try rw [show ((0 : Int)).toNat = 0 from rfl] at hx112_0); (try rw [show 0 * 4 = 0 from rfl] at hx112_0); (try rw [Addr.add_zero'] at hx112_0); (try rw [show ((0 : Int)).toNat = 0 from rfl] at hx112_1); (try rw [show 0 * 4 = 0 from rfl] at hx112_1); (try rw [Addr.add_zero'] at hx112_1); (try rw [show ((0 : Int)).toNat = 0 from rfl] at hx112_2); (try rw [show 0 * 4 = 0 from rfl] at hx112_2); (try rw [Addr.add_zero'] at hx112_2); (try rw [show ((0 : Int)).toNat = 0 from rfl] at hx112_3); (try rw [show 0 * 4 = 0 from rfl] at hx112_3); (try rw [Addr.add_zero'] at hx112_3); replace hx112_0 := (HB.out.cell (World.block_lt_of_cell? w _ hx112_0)).trans hx112_0; replace hx112_1 := (HB.out.cell (World.block_lt_of_cell? w _ hx112_1)).trans hx112_1; replace hx112_2 := (HB.out.cell (World.block_lt_of_cell? w _ hx112_2)).trans hx112_2; replace hx112_3 := (HB.out.cell (World.block_lt_of_cell? w _ hx112_3)).trans hx112_3; have HR112_3 := Aside0.mk hi112_3; have HC112_3 := Aside0.mk hl112_3; clear hi112_3 hl112_3; replace p112 := eq_true p112; replace q112 := eq_true q112; have ea_ := Option.some.inj (hx108_3.symm.trans hx112_3); injection ea_ with ea_ en_ ec_; subst ea_; subst ec_; clear en_) | (go_at_call 18; (with_reducible refine (spec_l00In.calls ((rd_T27 l0 0).f2) 0 10000 true _ A8.out).mono ?_); rintro e w' ⟨rfl, ⟨nd, rfl⟩⟩; have p114 : 0 ≤ (0 : Int) := (by omega); have q114 : 0 < (l0.length : Int) := of_decide_eq_true (by first | (with_reducible assumption) | assumption); obtain ⟨ad114, A114_3, c114_3, e114, hx114_0, hx114_1, hx114_2, hx114_3, hl114_3, hi114_3⟩ := at_T27 HR0.out 0 p114 q114; obtain rfl : ad108 = ad114 := (by injection e114); have qi114 : (0 < l0.length) = True := eq_true (by omega); (try rw [show ((0 : Int)).toNat = 0 from rfl] at hx114_0); (try rw [show 0 * 4 = 0 from rfl] at hx114_0); (try rw [Addr.add_zero'] at hx114_0); (try rw [show ((0 : Int)).toNat = 0 from rfl] at hx114_1); (try rw [show 0 * 4 = 0 from rfl] at hx114_1); (try rw [Addr.add_zero'] at hx114_1); (try rw [show ((0 : Int)).toNat = 0 from rfl] at hx114_2); (try rw [show 0 * 4 = 0 from rfl] at hx114_2); (try rw [Addr.add_zero'] at hx114_2); (try rw [show ((0 : Int)).toNat = 0 from rfl] at hx114_3); (try rw [show 0 * 4 = 0 from rfl] at hx114_3); (try rw [Addr.add_zero'] at hx114_3); replace hx114_0 := (HB.out.cell (World.block_lt_of_cell? w _ hx114_0)).trans hx114_0; replace hx114_1 := (HB.out.cell (World.block_lt_of_cell? w _ hx114_1)).trans hx114_1; replace hx114_2 := (HB.out.cell (World.block_lt_of_cell? w _ hx114_2)).trans hx114_2; replace hx114_3 := (HB.out.cell (World.block_lt_of_cell? w _ hx114_3)).trans hx114_3; have HR114_3 := Aside0.mk hi114_3; have HC114_3 := Aside0.mk hl114_3; clear hi114_3 hl114_3; replace p114 := eq_true p114; replace q114 := eq_true q114; have ea_ := Option.some.inj (hx108_3.symm.trans hx114_3); injection ea_ with ea_ en_ ec_; subst ea_; subst ec_; clear en_) | (go_at_call 18; (with_reducible refine (spec_l00In.calls (((rd_T27 l0 0).f3).length : Int) 1 6 t115 _ A10.out).mono ?_); rintro e w' ⟨rfl, ⟨nd, rfl⟩⟩))
      go_meet
      case rel => exact ⟨_, (!t115), (by first | rfl | (simp; done) | (simp [*]; done)), H', ⟨by first | omega | exact Nat.le_refl _⟩, ⟨by repeat (first | (with_reducible first | exact HB.out | apply below_alloc | apply pw_below_drewN | apply below_drew1) | exact HB.out)⟩⟩
     ·replace c9 := Bool.eq_false_iff.mpr c9
      subst c9
      have H1 : (spec_l21Ok.j0 k l0 true) = some r := by rw [if_neg (show ¬ (false = true) by decide)] at H; exact H
      clear H
      have H := H1
      clear H1
      have H' := Aside0.mk H
      clear H
      have p108 : 0 ≤ (0 : Int) := (by omega)
      have q108 : 0 < (l0.length : Int) := of_decide_eq_true (by first | (with_reducible assumption) | assumption)
      obtain ⟨ad108, A108_3, c108_3, e108, hx108_0, hx108_1, hx108_2, hx108_3, hl108_3, hi108_3⟩ := at_T27 HR0.out 0 p108 q108
      cases e108
      have qi108 : (0 < l0.length) = True := eq_true (by omega)
      (try rw [show ((0 : Int)).toNat = 0 from rfl] at hx108_0)
      (try rw [show 0 * 4 = 0 from rfl] at hx108_0)
      (try rw [Addr.add_zero'] at hx108_0)
      (try rw [show ((0 : Int)).toNat = 0 from rfl] at hx108_1)
      (try rw [show 0 * 4 = 0 from rfl] at hx108_1)
      (try rw [Addr.add_zero'] at hx108_1)
      (try rw [show ((0 : Int)).toNat = 0 from rfl] at hx108_2)
      (try rw [show 0 * 4 = 0 from rfl] at hx108_2)
      (try rw [Addr.add_zero'] at hx108_2)
      (try rw [show ((0 : Int)).toNat = 0 from rfl] at hx108_3)
      (try rw [show 0 * 4 = 0 from rfl] at hx108_3)
      (try rw [Addr.add_zero'] at hx108_3)
      replace hx108_0 := (HB.out.cell (World.block_lt_of_cell? w _ hx108_0)).trans hx108_0
      replace hx108_1 := (HB.out.cell (World.block_lt_of_cell? w _ hx108_1)).trans hx108_1
      replace hx108_2 := (HB.out.cell (World.block_lt_of_cell? w _ hx108_2)).trans hx108_2
      replace hx108_3 := (HB.out.cell (World.block_lt_of_cell? w _ hx108_3)).trans hx108_3
      have HR108_3 := Aside0.mk hi108_3
      have HC108_3 := Aside0.mk hl108_3
      clear hi108_3 hl108_3
      replace p108 := eq_true p108
      replace q108 := eq_true q108
      go_wp2_with (first | ((with_reducible refine gate_callee (f := 17) rfl ?_); refine goesL_ (some 9) rfl rfl Tryd.func17 (by kernel_rfl) rfl #[.string ((rd_T27 l0 0).f0)] rfl (by (try simp only [List.map_toArray, List.map_cons, List.map_nil]); first | done | rfl | (simp only [List.length_drop, List.length_take]; rfl)) ?_; (with_reducible refine (spec_l01Name.calls k ((rd_T27 l0 0).f0) true _ A4.out).mono ?_); rintro e w' ⟨rfl, ⟨nd, rfl⟩⟩; refine ⟨_, rfl, ?_⟩; have p110 : 0 ≤ (0 : Int) := (by omega); have q110 : 0 < (l0.length : Int) := of_decide_eq_true (by first | (with_reducible assumption) | assumption); obtain ⟨ad110, A110_3, c110_3, e110, hx110_0, hx110_1, hx110_2, hx110_3, hl110_3, hi110_3⟩ := at_T27 HR0.out 0 p110 q110; obtain rfl : ad108 = ad110 := (by injection e110); have qi110 : (0 < l0.length) = True := eq_true (by omega); (try rw [show ((0 : Int)).toNat = 0 from rfl] at hx110_0); (try rw [show 0 * 4 = 0 from rfl] at hx110_0); (try rw [Addr.add_zero'] at hx110_0); (try rw [show ((0 : Int)).toNat = 0 from rfl] at hx110_1); (try rw [show 0 * 4 = 0 from rfl] at hx110_1); (try rw [Addr.add_zero'] at hx110_1); (try rw [show ((0 : Int)).toNat = 0 from rfl] at hx110_2); (try rw [show 0 * 4 = 0 from rfl] at hx110_2); (try rw [Addr.add_zero'] at hx110_2); (try rw [show ((0 : Int)).toNat = 0 from rfl] at hx110_3); (try rw [show 0 * 4 = 0 from rfl] at hx110_3); (try rw [Addr.add_zero'] at hx110_3); replace hx110_0 := (HB.out.cell (World.block_lt_of_cell? w _ hx110_0)).trans hx110_0; replace hx110_1 := (HB.out.cell (World.block_lt_of_cell? w _ hx110_1)).trans hx110_1; replace hx110_2 := (HB.out.cell (World.block_lt_of_cell? w _ hx110_2)).trans hx110_2; replace hx110_3 := (HB.out.cell (World.block_lt_of_cell? w _ hx110_3)).trans hx110_3; have HR110_3 := Aside0.mk hi110_3; have HC110_3 := Aside0.mk hl110_3; clear hi110_3 hl110_3; replace p110 := eq_true p110; replace q110 := eq_true q110; have ea_ := Option.some.inj (hx108_3.symm.trans hx110_3); injection ea_ with ea_ en_ ec_; subst ea_; subst ec_; clear en_) | (go_at_call 18; (with_reducible refine (spec_l00In.calls ((rd_T27 l0 0).f1) 0 1000000 true _ A6.out).mono ?_); rintro e w' ⟨rfl, ⟨nd, rfl⟩⟩; have p112 : 0 ≤ (0 : Int) := (by omega); have q112 : 0 < (l0.length : Int) := of_decide_eq_true (by first | (with_reducible assumption) | assumption); obtain ⟨ad112, A112_3, c112_3, e112, hx112_0, hx112_1, hx112_2, hx112_3, hl112_3, hi112_3⟩ := at_T27 HR0.out 0 p112 q112; obtain rfl : ad108 = ad112 := (by injection e112); have qi112 : (0 < l0.length) = True := eq_true (by omega); (try rw [show ((0 : Int)).toNat = 0 from rfl] at hx112_0); (try rw [show 0 * 4 = 0 from rfl] at hx112_0); (try rw [Addr.add_zero'] at hx112_0); (try rw [show ((0 : Int)).toNat = 0 from rfl] at hx112_1); (try rw [show 0 * 4 = 0 from rfl] at hx112_1); (try rw [Addr.add_zero'] at hx112_1); (try rw [show ((0 : Int)).toNat = 0 from rfl] at hx112_2); (try rw [show 0 * 4 = 0 from rfl] at hx112_2); (try rw [Addr.add_zero'] at hx112_2); (try rw [show ((0 : Int)).toNat = 0 from rfl] at hx112_3); (try rw [show 0 * 4 = 0 from rfl] at hx112_3); (try rw [Addr.add_zero'] at hx112_3); replace hx112_0 := (HB.out.cell (World.block_lt_of_cell? w _ hx112_0)).trans hx112_0; replace hx112_1 := (HB.out.cell (World.block_lt_of_cell? w _ hx112_1)).trans hx112_1; replace hx112_2 := (HB.out.cell (World.block_lt_of_cell? w _ hx112_2)).trans hx112_2; replace hx112_3 := (HB.out.cell (World.block_lt_of_cell? w _ hx112_3)).trans hx112_3; have HR112_3 := Aside0.mk hi112_3; have HC112_3 := Aside0.mk hl112_3; clear hi112_3 hl112_3; replace p112 := eq_true p112; replace q112 := eq_true q112; have ea_ := Option.some.inj (hx108_3.symm.trans hx112_3); injection ea_ with ea_ en_ ec_; subst ea_; subst ec_; clear en_) | (go_at_call 18; (with_reducible refine (spec_l00In.calls ((rd_T27 l0 0).f2) 0 10000 false _ A8.out).mono ?_); rintro e w' ⟨rfl, ⟨nd, rfl⟩⟩))
      go_meet
      case rel => exact ⟨_, (true), (by first | rfl | (simp; done) | (simp [*]; done)), H', ⟨by first | omega | exact Nat.le_refl _⟩, ⟨by repeat (first | (with_reducible first | exact HB.out | apply below_alloc | apply pw_below_drewN | apply below_drew1) | exact HB.out)⟩⟩
    ·replace c7 := Bool.eq_false_iff.mpr c7
     subst c7
     have H1 : (spec_l21Ok.j0 k l0 true) = some r := by rw [if_neg (show ¬ (false = true) by decide)] at H; exact H
     clear H
     have H := H1
     clear H1
     have H' := Aside0.mk H
     clear H
     have p108 : 0 ≤ (0 : Int) := (by omega)
     have q108 : 0 < (l0.length : Int) := of_decide_eq_true (by first | (with_reducible assumption) | assumption)
     obtain ⟨ad108, A108_3, c108_3, e108, hx108_0, hx108_1, hx108_2, hx108_3, hl108_3, hi108_3⟩ := at_T27 HR0.out 0 p108 q108
     cases e108
     have qi108 : (0 < l0.length) = True := eq_true (by omega)
     (try rw [show ((0 : Int)).toNat = 0 from rfl] at hx108_0)
     (try rw [show 0 * 4 = 0 from rfl] at hx108_0)
     (try rw [Addr.add_zero'] at hx108_0)
     (try rw [show ((0 : Int)).toNat = 0 from rfl] at hx108_1)
     (try rw [show 0 * 4 = 0 from rfl] at hx108_1)
     (try rw [Addr.add_zero'] at hx108_1)
     (try rw [show ((0 : Int)).toNat = 0 from rfl] at hx108_2)
     (try rw [show 0 * 4 = 0 from rfl] at hx108_2)
     (try rw [Addr.add_zero'] at hx108_2)
     (try rw [show ((0 : Int)).toNat = 0 from rfl] at hx108_3)
     (try rw [show 0 * 4 = 0 from rfl] at hx108_3)
     (try rw [Addr.add_zero'] at hx108_3)
     replace hx108_0 := (HB.out.cell (World.block_lt_of_cell? w _ hx108_0)).trans hx108_0
     replace hx108_1 := (HB.out.cell (World.block_lt_of_cell? w _ hx108_1)).trans hx108_1
     replace hx108_2 := (HB.out.cell (World.block_lt_of_cell? w _ hx108_2)).trans hx108_2
     replace hx108_3 := (HB.out.cell (World.block_lt_of_cell? w _ hx108_3)).trans hx108_3
     have HR108_3 := Aside0.mk hi108_3
     have HC108_3 := Aside0.mk hl108_3
     clear hi108_3 hl108_3
     replace p108 := eq_true p108
     replace q108 := eq_true q108
     go_wp2_with (first | ((with_reducible refine gate_callee (f := 17) rfl ?_); refine goesL_ (some 9) rfl rfl Tryd.func17 (by kernel_rfl) rfl #[.string ((rd_T27 l0 0).f0)] rfl (by (try simp only [List.map_toArray, List.map_cons, List.map_nil]); first | done | rfl | (simp only [List.length_drop, List.length_take]; rfl)) ?_; (with_reducible refine (spec_l01Name.calls k ((rd_T27 l0 0).f0) true _ A4.out).mono ?_); rintro e w' ⟨rfl, ⟨nd, rfl⟩⟩; refine ⟨_, rfl, ?_⟩; have p110 : 0 ≤ (0 : Int) := (by omega); have q110 : 0 < (l0.length : Int) := of_decide_eq_true (by first | (with_reducible assumption) | assumption); obtain ⟨ad110, A110_3, c110_3, e110, hx110_0, hx110_1, hx110_2, hx110_3, hl110_3, hi110_3⟩ := at_T27 HR0.out 0 p110 q110; obtain rfl : ad108 = ad110 := (by injection e110); have qi110 : (0 < l0.length) = True := eq_true (by omega); (try rw [show ((0 : Int)).toNat = 0 from rfl] at hx110_0); (try rw [show 0 * 4 = 0 from rfl] at hx110_0); (try rw [Addr.add_zero'] at hx110_0); (try rw [show ((0 : Int)).toNat = 0 from rfl] at hx110_1); (try rw [show 0 * 4 = 0 from rfl] at hx110_1); (try rw [Addr.add_zero'] at hx110_1); (try rw [show ((0 : Int)).toNat = 0 from rfl] at hx110_2); (try rw [show 0 * 4 = 0 from rfl] at hx110_2); (try rw [Addr.add_zero'] at hx110_2); (try rw [show ((0 : Int)).toNat = 0 from rfl] at hx110_3); (try rw [show 0 * 4 = 0 from rfl] at hx110_3); (try rw [Addr.add_zero'] at hx110_3); replace hx110_0 := (HB.out.cell (World.block_lt_of_cell? w _ hx110_0)).trans hx110_0; replace hx110_1 := (HB.out.cell (World.block_lt_of_cell? w _ hx110_1)).trans hx110_1; replace hx110_2 := (HB.out.cell (World.block_lt_of_cell? w _ hx110_2)).trans hx110_2; replace hx110_3 := (HB.out.cell (World.block_lt_of_cell? w _ hx110_3)).trans hx110_3; have HR110_3 := Aside0.mk hi110_3; have HC110_3 := Aside0.mk hl110_3; clear hi110_3 hl110_3; replace p110 := eq_true p110; replace q110 := eq_true q110; have ea_ := Option.some.inj (hx108_3.symm.trans hx110_3); injection ea_ with ea_ en_ ec_; subst ea_; subst ec_; clear en_) | (go_at_call 18; (with_reducible refine (spec_l00In.calls ((rd_T27 l0 0).f1) 0 1000000 false _ A6.out).mono ?_); rintro e w' ⟨rfl, ⟨nd, rfl⟩⟩))
     go_meet
     case rel => exact ⟨_, (true), (by first | rfl | (simp; done) | (simp [*]; done)), H', ⟨by first | omega | exact Nat.le_refl _⟩, ⟨by repeat (first | (with_reducible first | exact HB.out | apply below_alloc | apply pw_below_drewN | apply below_drew1) | exact HB.out)⟩⟩
   ·replace c5 := Bool.eq_false_iff.mpr c5
    subst c5
    have H1 : (spec_l21Ok.j0 k l0 true) = some r := by rw [if_neg (show ¬ (false = true) by decide)] at H; exact H
    clear H
    have H := H1
    clear H1
    have H' := Aside0.mk H
    clear H
    have p108 : 0 ≤ (0 : Int) := (by omega)
    have q108 : 0 < (l0.length : Int) := of_decide_eq_true (by first | (with_reducible assumption) | assumption)
    obtain ⟨ad108, A108_3, c108_3, e108, hx108_0, hx108_1, hx108_2, hx108_3, hl108_3, hi108_3⟩ := at_T27 HR0.out 0 p108 q108
    cases e108
    have qi108 : (0 < l0.length) = True := eq_true (by omega)
    (try rw [show ((0 : Int)).toNat = 0 from rfl] at hx108_0)
    (try rw [show 0 * 4 = 0 from rfl] at hx108_0)
    (try rw [Addr.add_zero'] at hx108_0)
    (try rw [show ((0 : Int)).toNat = 0 from rfl] at hx108_1)
    (try rw [show 0 * 4 = 0 from rfl] at hx108_1)
    (try rw [Addr.add_zero'] at hx108_1)
    (try rw [show ((0 : Int)).toNat = 0 from rfl] at hx108_2)
    (try rw [show 0 * 4 = 0 from rfl] at hx108_2)
    (try rw [Addr.add_zero'] at hx108_2)
    (try rw [show ((0 : Int)).toNat = 0 from rfl] at hx108_3)
    (try rw [show 0 * 4 = 0 from rfl] at hx108_3)
    (try rw [Addr.add_zero'] at hx108_3)
    replace hx108_0 := (HB.out.cell (World.block_lt_of_cell? w _ hx108_0)).trans hx108_0
    replace hx108_1 := (HB.out.cell (World.block_lt_of_cell? w _ hx108_1)).trans hx108_1
    replace hx108_2 := (HB.out.cell (World.block_lt_of_cell? w _ hx108_2)).trans hx108_2
    replace hx108_3 := (HB.out.cell (World.block_lt_of_cell? w _ hx108_3)).trans hx108_3
    have HR108_3 := Aside0.mk hi108_3
    have HC108_3 := Aside0.mk hl108_3
    clear hi108_3 hl108_3
    replace p108 := eq_true p108
    replace q108 := eq_true q108
    go_wp2_with (first | ((with_reducible refine gate_callee (f := 17) rfl ?_); refine goesL_ (some 9) rfl rfl Tryd.func17 (by kernel_rfl) rfl #[.string ((rd_T27 l0 0).f0)] rfl (by (try simp only [List.map_toArray, List.map_cons, List.map_nil]); first | done | rfl | (simp only [List.length_drop, List.length_take]; rfl)) ?_; (with_reducible refine (spec_l01Name.calls k ((rd_T27 l0 0).f0) false _ A4.out).mono ?_); rintro e w' ⟨rfl, ⟨nd, rfl⟩⟩; refine ⟨_, rfl, ?_⟩))
    go_meet
    case rel => exact ⟨_, (true), (by first | rfl | (simp; done) | (simp [*]; done)), H', ⟨by first | omega | exact Nat.le_refl _⟩, ⟨by repeat (first | (with_reducible first | exact HB.out | apply below_alloc | apply pw_below_drewN | apply below_drew1) | exact HB.out)⟩⟩
  ·rw [if_neg c3] at H
   exact absurd H (by simp)
 case rest =>
  clear HC2
  try clear c1
  try clear p1
  try clear q1
  try clear hx1
  try clear qi1
  try clear p2
  try clear c3
  try clear c3b0
  try clear c3b1
  try clear c5
  try clear c7
  try clear c9
  try clear c10
  try clear p10
  try clear q10
  try clear hx10
  try clear qi10
  try clear hx108_0
  try clear hx108_1
  try clear hx108_2
  try clear hx108_3
  try clear hx110_0
  try clear hx110_1
  try clear hx110_2
  try clear hx110_3
  try clear hx112_0
  try clear hx112_1
  try clear hx112_2
  try clear hx112_3
  try clear hx114_0
  try clear hx114_1
  try clear hx114_2
  try clear hx114_3
  try clear p108
  try clear p110
  try clear p112
  try clear p114
  try clear q108
  try clear q110
  try clear q112
  try clear q114
  obtain ⟨kq, x35_1, rfl, HA, HJ1, HB⟩ := hcut
  cases kq with
  | zero => exact absurd HA.out (by simp [spec_l21Ok.j0])
  | succ kj1 =>
   have H := HA.out
   clear HA
   simp only [spec_l21Ok.j0] at H
   by_cases c11 : x35_1 = true
   ·subst c11
    have H1 : (some false) = some r := by rw [if_pos rfl] at H; exact H
    clear H
    have H := H1
    clear H1
    obtain rfl := Option.some.inj H
    go_wp2
    go_ret
    exact ⟨by first | rfl | (rw [Int.tdiv_eq_ediv_of_nonneg (by omega)]; rfl) | (simp [errW_none, errW_some] <;> rfl) | (simp [*, errW_none, errW_some] <;> rfl), by repeat (first | (with_reducible first | exact HB.out | apply below_alloc | apply pw_below_drewN | apply below_drew1) | exact HB.out)⟩
   ·replace c11 := Bool.eq_false_iff.mpr c11
    subst c11
    have H1 : (spec_l21Ok.l0 kj1 l0 0) = some r := by rw [if_neg (show ¬ (false = true) by decide)] at H; exact H
    clear H
    have H := H1
    clear H1
    have H' := Aside0.mk H
    clear H
    go_wp2
    go_loopg [3] kj1 (fun kq v3 w' => ∃ (x3_2 : Int), v3 = .int .i64 x3_2 ∧ Aside0 (spec_l21Ok.l0 kq l0 x3_2 = some r) ∧ Aside0 (kq ≤ kj1) ∧ Aside0 (Below w.heap.size w w'))
    case atStart => exact ⟨(0), (by first | rfl | (simp; done) | (simp [*]; done)), H', ⟨Nat.le_refl _⟩, ⟨by repeat (first | (with_reducible first | exact HB.out | apply below_alloc | apply pw_below_drewN | apply below_drew1) | exact HB.out)⟩⟩
    case round =>
     clear H'
     try clear c1
     try clear p1
     try clear q1
     try clear hx1
     try clear qi1
     try clear p2
     try clear c3
     try clear c3b0
     try clear c3b1
     try clear c5
     try clear c7
     try clear c9
     try clear c10
     try clear p10
     try clear q10
     try clear hx10
     try clear qi10
     try clear c11
     try clear p11
     try clear q11
     try clear hx11
     try clear qi11
     try clear hx108_0
     try clear hx108_1
     try clear hx108_2
     try clear hx108_3
     try clear hx110_0
     try clear hx110_1
     try clear hx110_2
     try clear hx110_3
     try clear hx112_0
     try clear hx112_1
     try clear hx112_2
     try clear hx112_3
     try clear hx114_0
     try clear hx114_1
     try clear hx114_2
     try clear hx114_3
     try clear p1
     try clear p10
     try clear p108
     try clear p110
     try clear p112
     try clear p114
     try clear p2
     try clear q1
     try clear q10
     try clear q108
     try clear q110
     try clear q112
     try clear q114
     obtain ⟨x3_2, rfl, HA, HK2, HB⟩ := hrel
     cases gk with
     | zero => exact absurd HA.out (by simp [spec_l21Ok.l0])
     | succ k2 =>
      have H := HA.out
      clear HA
      simp only [spec_l21Ok.l0] at H
      by_cases c12 : 0 < (l0.length : Int)
      ·rw [if_pos c12] at H
       have c12b0 : decide (0 < (l0.length : Int)) = true := decide_eq_true c12
       have c12b1 : decide (0 < l0.length) = true := decide_eq_true (by omega)
       clear c12
       by_cases c13 : x3_2 < (((rd_T27 l0 0).f3).length : Int)
       ·rw [if_pos c13] at H
        have c13b0 : decide (x3_2 < (((rd_T27 l0 0).f3).length : Int)) = true := decide_eq_true c13
        clear c13
        by_cases c14 : 0 ≤ x3_2
        ·rw [if_pos c14] at H
         have c14b0 : decide (0 ≤ x3_2) = true := decide_eq_true c14
         clear c14
         have HC15 := Aside0.mk H
         clear H
         have p116 : 0 ≤ (0 : Int) := (by omega)
         have q116 : 0 < (l0.length : Int) := of_decide_eq_true (by first | (with_reducible assumption) | assumption)
         obtain ⟨ad116, A116_3, c116_3, e116, hx116_0, hx116_1, hx116_2, hx116_3, hl116_3, hi116_3⟩ := at_T27 HR0.out 0 p116 q116
         cases e116
         have qi116 : (0 < l0.length) = True := eq_true (by omega)
         (try rw [show ((0 : Int)).toNat = 0 from rfl] at hx116_0)
         (try rw [show 0 * 4 = 0 from rfl] at hx116_0)
         (try rw [Addr.add_zero'] at hx116_0)
         (try rw [show ((0 : Int)).toNat = 0 from rfl] at hx116_1)
         (try rw [show 0 * 4 = 0 from rfl] at hx116_1)
         (try rw [Addr.add_zero'] at hx116_1)
         (try rw [show ((0 : Int)).toNat = 0 from rfl] at hx116_2)
         (try rw [show 0 * 4 = 0 from rfl] at hx116_2)
         (try rw [Addr.add_zero'] at hx116_2)
         (try rw [show ((0 : Int)).toNat = 0 from rfl] at hx116_3)
         (try rw [show 0 * 4 = 0 from rfl] at hx116_3)
         (try rw [Addr.add_zero'] at hx116_3)
         replace hx116_0 := (HB.out.cell (World.block_lt_of_cell? w _ hx116_0)).trans hx116_0
         replace hx116_1 := (HB.out.cell (World.block_lt_of_cell? w _ hx116_1)).trans hx116_1
         replace hx116_2 := (HB.out.cell (World.block_lt_of_cell? w _ hx116_2)).trans hx116_2
         replace hx116_3 := (HB.out.cell (World.block_lt_of_cell? w _ hx116_3)).trans hx116_3
         have HR116_3 := Aside0.mk hi116_3
         have HC116_3 := Aside0.mk hl116_3
         clear hi116_3 hl116_3
         replace p116 := eq_true p116
         replace q116 := eq_true q116
         have p117 : 0 ≤ (0 : Int) := (by omega)
         have q117 : 0 < (l0.length : Int) := of_decide_eq_true (by first | (with_reducible assumption) | assumption)
         obtain ⟨ad117, A117_3, c117_3, e117, hx117_0, hx117_1, hx117_2, hx117_3, hl117_3, hi117_3⟩ := at_T27 HR0.out 0 p117 q117
         obtain rfl : ad116 = ad117 := (by injection e117)
         have qi117 : (0 < l0.length) = True := eq_true (by omega)
         (try rw [show ((0 : Int)).toNat = 0 from rfl] at hx117_0)
         (try rw [show 0 * 4 = 0 from rfl] at hx117_0)
         (try rw [Addr.add_zero'] at hx117_0)
         (try rw [show ((0 : Int)).toNat = 0 from rfl] at hx117_1)
         (try rw [show 0 * 4 = 0 from rfl] at hx117_1)
         (try rw [Addr.add_zero'] at hx117_1)
         (try rw [show ((0 : Int)).toNat = 0 from rfl] at hx117_2)
         (try rw [show 0 * 4 = 0 from rfl] at hx117_2)
         (try rw [Addr.add_zero'] at hx117_2)
         (try rw [show ((0 : Int)).toNat = 0 from rfl] at hx117_3)
         (try rw [show 0 * 4 = 0 from rfl] at hx117_3)
         (try rw [Addr.add_zero'] at hx117_3)
         replace hx117_0 := (HB.out.cell (World.block_lt_of_cell? w _ hx117_0)).trans hx117_0
         replace hx117_1 := (HB.out.cell (World.block_lt_of_cell? w _ hx117_1)).trans hx117_1
         replace hx117_2 := (HB.out.cell (World.block_lt_of_cell? w _ hx117_2)).trans hx117_2
         replace hx117_3 := (HB.out.cell (World.block_lt_of_cell? w _ hx117_3)).trans hx117_3
         have HR117_3 := Aside0.mk hi117_3
         have HC117_3 := Aside0.mk hl117_3
         clear hi117_3 hl117_3
         replace p117 := eq_true p117
         replace q117 := eq_true q117
         have ea_ := Option.some.inj (hx116_3.symm.trans hx117_3)
         injection ea_ with ea_ en_ ec_
         subst ea_
         subst ec_
         clear en_
         have p118 : 0 ≤ (x3_2 : Int) := of_decide_eq_true (by first | (with_reducible assumption) | assumption)
         have q118 : x3_2 < (((rd_T27 l0 0).f3).length : Int) := of_decide_eq_true (by first | (with_reducible assumption) | assumption)
         obtain ⟨ad118, A118_0, c118_0, e118, hx118_0, hl118_0, hi118_0⟩ := at_L1 HR117_3.out x3_2 p118 q118
         cases e118
         replace hx118_0 := (HB.out.cell (World.block_lt_of_cell? w _ hx118_0)).trans hx118_0
         have HR118_0 := Aside0.mk hi118_0
         have HC118_0 := Aside0.mk hl118_0
         clear hi118_0 hl118_0
         replace p118 := eq_true p118
         replace q118 := eq_true q118
         go_upto_region 7 with (fail)
         go_cut [98] (fun v98 wc => ∃ (kq : Nat) (x98_14 : Bool), v98 = .bool x98_14 ∧ Aside0 (spec_l21Ok.j2 kq l0 x3_2 x98_14 = some r) ∧ Aside0 (kq ≤ k2) ∧ Aside0 (Below w.heap.size w wc))
         case first =>
          have H := HC15.out
          clear HC15
          by_cases c16 : ((rd_L1 ((rd_T27 l0 0).f3) x3_2).length : Int) = 2
          ·rw [if_pos c16] at H
           have c16b0 : (((rd_L1 ((rd_T27 l0 0).f3) x3_2).length : Int) == 2) = true := beq_iff_eq.mpr c16
           have c16b1 : (((rd_L1 ((rd_T27 l0 0).f3) x3_2).length : Int) != 2) = false := bne_eq_false_iff_eq.mpr c16
           clear c16
           (first | rw [c16b0] | (simp only [i64_w, i32_w]; rw [c16b0]) | skip)
           by_cases c17 : 0 < ((rd_L1 ((rd_T27 l0 0).f3) x3_2).length : Int)
           ·rw [if_pos c17] at H
            have c17b0 : decide (0 < ((rd_L1 ((rd_T27 l0 0).f3) x3_2).length : Int)) = true := decide_eq_true c17
            have c17b1 : decide (0 < (rd_L1 ((rd_T27 l0 0).f3) x3_2).length) = true := decide_eq_true (by omega)
            clear c17
            replace H := Option.bind_eq_some_iff.mp H
            obtain ⟨t120, A180, H⟩ := H
            replace H : (if t120 = true then (if 1 < ((rd_L1 ((rd_T27 l0 0).f3) x3_2).length : Int) then ((spec_l00In.f (rd (rd_L1 ((rd_T27 l0 0).f3) x3_2) 1) 0 10000).bind fun t122 => (if t122 = true then (if x3_2 = 0 then (if (rd (rd_L1 ((rd_T27 l0 0).f3) x3_2) 0) = 0 then (if x3_2 > 0 then (if 0 ≤ (wrap64 (x3_2 - 1)) then (if (wrap64 (x3_2 - 1)) < (((rd_T27 l0 0).f3).length : Int) then (if 0 < ((rd_L1 ((rd_T27 l0 0).f3) (wrap64 (x3_2 - 1))).length : Int) then (spec_l21Ok.j2 k2 l0 x3_2 (decide ((rd (rd_L1 ((rd_T27 l0 0).f3) (wrap64 (x3_2 - 1))) 0) ≥ (rd (rd_L1 ((rd_T27 l0 0).f3) x3_2) 0)))) else (none)) else (none)) else (none)) else (spec_l21Ok.j2 k2 l0 x3_2 false)) else (spec_l21Ok.j2 k2 l0 x3_2 true)) else (if x3_2 > 0 then (if 0 ≤ (wrap64 (x3_2 - 1)) then (if (wrap64 (x3_2 - 1)) < (((rd_T27 l0 0).f3).length : Int) then (if 0 < ((rd_L1 ((rd_T27 l0 0).f3) (wrap64 (x3_2 - 1))).length : Int) then (spec_l21Ok.j2 k2 l0 x3_2 (decide ((rd (rd_L1 ((rd_T27 l0 0).f3) (wrap64 (x3_2 - 1))) 0) ≥ (rd (rd_L1 ((rd_T27 l0 0).f3) x3_2) 0)))) else (none)) else (none)) else (none)) else (spec_l21Ok.j2 k2 l0 x3_2 false))) else (spec_l21Ok.j2 k2 l0 x3_2 true))) else (none)) else (spec_l21Ok.j2 k2 l0 x3_2 true)) = some r := H
            have A18 := Aside0.mk A180
            clear A180
            by_cases c19 : t120 = true
            ·subst c19
             have H1 : (if 1 < ((rd_L1 ((rd_T27 l0 0).f3) x3_2).length : Int) then ((spec_l00In.f (rd (rd_L1 ((rd_T27 l0 0).f3) x3_2) 1) 0 10000).bind fun t122 => (if t122 = true then (if x3_2 = 0 then (if (rd (rd_L1 ((rd_T27 l0 0).f3) x3_2) 0) = 0 then (if x3_2 > 0 then (if 0 ≤ (wrap64 (x3_2 - 1)) then (if (wrap64 (x3_2 - 1)) < (((rd_T27 l0 0).f3).length : Int) then (if 0 < ((rd_L1 ((rd_T27 l0 0).f3) (wrap64 (x3_2 - 1))).length : Int) then (spec_l21Ok.j2 k2 l0 x3_2 (decide ((rd (rd_L1 ((rd_T27 l0 0).f3) (wrap64 (x3_2 - 1))) 0) ≥ (rd (rd_L1 ((rd_T27 l0 0).f3) x3_2) 0)))) else (none)) else (none)) else (none)) else (spec_l21Ok.j2 k2 l0 x3_2 false)) else (spec_l21Ok.j2 k2 l0 x3_2 true)) else (if x3_2 > 0 then (if 0 ≤ (wrap64 (x3_2 - 1)) then (if (wrap64 (x3_2 - 1)) < (((rd_T27 l0 0).f3).length : Int) then (if 0 < ((rd_L1 ((rd_T27 l0 0).f3) (wrap64 (x3_2 - 1))).length : Int) then (spec_l21Ok.j2 k2 l0 x3_2 (decide ((rd (rd_L1 ((rd_T27 l0 0).f3) (wrap64 (x3_2 - 1))) 0) ≥ (rd (rd_L1 ((rd_T27 l0 0).f3) x3_2) 0)))) else (none)) else (none)) else (none)) else (spec_l21Ok.j2 k2 l0 x3_2 false))) else (spec_l21Ok.j2 k2 l0 x3_2 true))) else (none)) = some r := by rw [if_pos rfl] at H; exact H
             clear H
             have H := H1
             clear H1
             by_cases c20 : 1 < ((rd_L1 ((rd_T27 l0 0).f3) x3_2).length : Int)
             ·rw [if_pos c20] at H
              have c20b0 : decide (1 < ((rd_L1 ((rd_T27 l0 0).f3) x3_2).length : Int)) = true := decide_eq_true c20
              have c20b1 : decide (1 < (rd_L1 ((rd_T27 l0 0).f3) x3_2).length) = true := decide_eq_true (by omega)
              clear c20
              replace H := Option.bind_eq_some_iff.mp H
              obtain ⟨t122, A210, H⟩ := H
              replace H : (if t122 = true then (if x3_2 = 0 then (if (rd (rd_L1 ((rd_T27 l0 0).f3) x3_2) 0) = 0 then (if x3_2 > 0 then (if 0 ≤ (wrap64 (x3_2 - 1)) then (if (wrap64 (x3_2 - 1)) < (((rd_T27 l0 0).f3).length : Int) then (if 0 < ((rd_L1 ((rd_T27 l0 0).f3) (wrap64 (x3_2 - 1))).length : Int) then (spec_l21Ok.j2 k2 l0 x3_2 (decide ((rd (rd_L1 ((rd_T27 l0 0).f3) (wrap64 (x3_2 - 1))) 0) ≥ (rd (rd_L1 ((rd_T27 l0 0).f3) x3_2) 0)))) else (none)) else (none)) else (none)) else (spec_l21Ok.j2 k2 l0 x3_2 false)) else (spec_l21Ok.j2 k2 l0 x3_2 true)) else (if x3_2 > 0 then (if 0 ≤ (wrap64 (x3_2 - 1)) then (if (wrap64 (x3_2 - 1)) < (((rd_T27 l0 0).f3).length : Int) then (if 0 < ((rd_L1 ((rd_T27 l0 0).f3) (wrap64 (x3_2 - 1))).length : Int) then (spec_l21Ok.j2 k2 l0 x3_2 (decide ((rd (rd_L1 ((rd_T27 l0 0).f3) (wrap64 (x3_2 - 1))) 0) ≥ (rd (rd_L1 ((rd_T27 l0 0).f3) x3_2) 0)))) else (none)) else (none)) else (none)) else (spec_l21Ok.j2 k2 l0 x3_2 false))) else (spec_l21Ok.j2 k2 l0 x3_2 true)) = some r := H
              have A21 := Aside0.mk A210
              clear A210
              by_cases c22 : t122 = true
              ·subst c22
               have H1 : (if x3_2 = 0 then (if (rd (rd_L1 ((rd_T27 l0 0).f3) x3_2) 0) = 0 then (if x3_2 > 0 then (if 0 ≤ (wrap64 (x3_2 - 1)) then (if (wrap64 (x3_2 - 1)) < (((rd_T27 l0 0).f3).length : Int) then (if 0 < ((rd_L1 ((rd_T27 l0 0).f3) (wrap64 (x3_2 - 1))).length : Int) then (spec_l21Ok.j2 k2 l0 x3_2 (decide ((rd (rd_L1 ((rd_T27 l0 0).f3) (wrap64 (x3_2 - 1))) 0) ≥ (rd (rd_L1 ((rd_T27 l0 0).f3) x3_2) 0)))) else (none)) else (none)) else (none)) else (spec_l21Ok.j2 k2 l0 x3_2 false)) else (spec_l21Ok.j2 k2 l0 x3_2 true)) else (if x3_2 > 0 then (if 0 ≤ (wrap64 (x3_2 - 1)) then (if (wrap64 (x3_2 - 1)) < (((rd_T27 l0 0).f3).length : Int) then (if 0 < ((rd_L1 ((rd_T27 l0 0).f3) (wrap64 (x3_2 - 1))).length : Int) then (spec_l21Ok.j2 k2 l0 x3_2 (decide ((rd (rd_L1 ((rd_T27 l0 0).f3) (wrap64 (x3_2 - 1))) 0) ≥ (rd (rd_L1 ((rd_T27 l0 0).f3) x3_2) 0)))) else (none)) else (none)) else (none)) else (spec_l21Ok.j2 k2 l0 x3_2 false))) = some r := by rw [if_pos rfl] at H; exact H
               clear H
               have H := H1
               clear H1
               by_cases c23 : x3_2 = 0
               ·rw [if_pos c23] at H
                have c23b0 : (x3_2 == 0) = true := beq_iff_eq.mpr c23
                have c23b1 : (x3_2 != 0) = false := bne_eq_false_iff_eq.mpr c23
                clear c23
                by_cases c24 : (rd (rd_L1 ((rd_T27 l0 0).f3) x3_2) 0) = 0
                ·rw [if_pos c24] at H
                 have c24b0 : ((rd (rd_L1 ((rd_T27 l0 0).f3) x3_2) 0) == 0) = true := beq_iff_eq.mpr c24
                 have c24b1 : ((rd (rd_L1 ((rd_T27 l0 0).f3) x3_2) 0) != 0) = false := bne_eq_false_iff_eq.mpr c24
                 clear c24
                 by_cases c25 : x3_2 > 0
                 ·rw [if_pos c25] at H
                  have c25b0 : decide (0 < x3_2) = true := decide_eq_true c25
                  clear c25
                  obtain ⟨ji26, hji26⟩ : ∃ j_ : Int, (wrap64 (x3_2 - 1)) = j_ := ⟨_, rfl⟩
                  replace H : (if 0 ≤ (ji26) then (if (ji26) < (((rd_T27 l0 0).f3).length : Int) then (if 0 < ((rd_L1 ((rd_T27 l0 0).f3) (ji26)).length : Int) then (spec_l21Ok.j2 k2 l0 x3_2 (decide ((rd (rd_L1 ((rd_T27 l0 0).f3) (ji26)) 0) ≥ (rd (rd_L1 ((rd_T27 l0 0).f3) x3_2) 0)))) else (none)) else (none)) else (none)) = some r := by first | (rw [hji26] at H; exact H) | (simp only [hji26] at H ⊢; exact H)
                  (try rw [hji26] at A18)
                  (try rw [hji26] at A21)
                  have hji26w : (IntKind.i64.wrap (x3_2 - 1)) = ji26 := (i64_w _).trans hji26
                  by_cases c27 : 0 ≤ (ji26)
                  ·rw [if_pos c27] at H
                   have c27b0 : decide (0 ≤ (ji26)) = true := decide_eq_true c27
                   clear c27
                   by_cases c28 : (ji26) < (((rd_T27 l0 0).f3).length : Int)
                   ·rw [if_pos c28] at H
                    have c28b0 : decide ((ji26) < (((rd_T27 l0 0).f3).length : Int)) = true := decide_eq_true c28
                    clear c28
                    by_cases c29 : 0 < ((rd_L1 ((rd_T27 l0 0).f3) (ji26)).length : Int)
                    ·rw [if_pos c29] at H
                     have c29b0 : decide (0 < ((rd_L1 ((rd_T27 l0 0).f3) (ji26)).length : Int)) = true := decide_eq_true c29
                     have c29b1 : decide (0 < (rd_L1 ((rd_T27 l0 0).f3) (ji26)).length) = true := decide_eq_true (by omega)
                     clear c29
                     have H' := Aside0.mk H
                     clear H
                     try go_wp2
                     have n0_ := Aside0.mk (below_drew1 HB.out)
                     clear HB
                     have HB := n0_
                     clear n0_
                     have p119 : 0 ≤ (0 : Int) := (by omega)
                     have q119 : 0 < ((rd_L1 ((rd_T27 l0 0).f3) x3_2).length : Int) := of_decide_eq_true (by first | (with_reducible assumption) | assumption)
                     obtain ⟨ad119, e119, hx119_0⟩ := Kd.at_int HR118_0.out 0 p119 q119
                     have hw119_0 := hx119_0
                     (try rw [show ((0 : Int)).toNat = 0 from rfl] at hw119_0)
                     (try rw [show 0 * 1 = 0 from rfl] at hw119_0)
                     (try rw [Addr.add_zero'] at hw119_0)
                     cases e119
                     have qi119 : (0 < (rd_L1 ((rd_T27 l0 0).f3) x3_2).length) = True := eq_true (by omega)
                     (try rw [show ((0 : Int)).toNat = 0 from rfl] at hx119_0)
                     (try rw [Addr.add_zero'] at hx119_0)
                     replace hx119_0 := (HB.out.cell (World.block_lt_of_cell? w _ hx119_0)).trans hx119_0
                     replace p119 := eq_true p119
                     replace q119 := eq_true q119
                     have p121 : 0 ≤ (1 : Int) := (by omega)
                     have q121 : 1 < ((rd_L1 ((rd_T27 l0 0).f3) x3_2).length : Int) := of_decide_eq_true (by first | (with_reducible assumption) | assumption)
                     obtain ⟨ad121, e121, hx121_0⟩ := Kd.at_int HR118_0.out 1 p121 q121
                     have hw121_0 := hx121_0
                     (try rw [show ((1 : Int)).toNat = 1 from rfl] at hw121_0)
                     (try rw [show 1 * 1 = 1 from rfl] at hw121_0)
                     (try simp only [Nat.reduceMul, Nat.reduceEqDiff, Go.Addr.add, ↓reduceIte] at hw121_0)
                     obtain rfl : ad119 = ad121 := (by injection e121)
                     (try simp only [show (1 : Int).toNat = 1 from rfl, Nat.reduceMul, Nat.reduceEqDiff, Go.Addr.add, ↓reduceIte] at hx121_0)
                     have qi121 : (1 < (rd_L1 ((rd_T27 l0 0).f3) x3_2).length) = True := eq_true (by omega)
                     (try rw [show ((1 : Int)).toNat = 1 from rfl] at hx121_0)
                     replace hx121_0 := (HB.out.cell (World.block_lt_of_cell? w _ hx121_0)).trans hx121_0
                     replace p121 := eq_true p121
                     replace q121 := eq_true q121
                     have p123 : 0 ≤ (0 : Int) := (by omega)
                     have q123 : 0 < ((rd_L1 ((rd_T27 l0 0).f3) x3_2).length : Int) := of_decide_eq_true (by first | (with_reducible assumption) | assumption)
                     obtain ⟨ad123, e123, hx123_0⟩ := Kd.at_int HR118_0.out 0 p123 q123
                     have hw123_0 := hx123_0
                     (try rw [show ((0 : Int)).toNat = 0 from rfl] at hw123_0)
                     (try rw [show 0 * 1 = 0 from rfl] at hw123_0)
                     (try rw [Addr.add_zero'] at hw123_0)
                     obtain rfl : ad119 = ad123 := (by injection e123)
                     have qi123 : (0 < (rd_L1 ((rd_T27 l0 0).f3) x3_2).length) = True := eq_true (by omega)
                     (try rw [show ((0 : Int)).toNat = 0 from rfl] at hx123_0)
                     (try rw [Addr.add_zero'] at hx123_0)
                     replace hx123_0 := (HB.out.cell (World.block_lt_of_cell? w _ hx123_0)).trans hx123_0
                     replace p123 := eq_true p123
                     replace q123 := eq_true q123
                     have p124 : 0 ≤ (0 : Int) := (by omega)
                     have q124 : 0 < (l0.length : Int) := of_decide_eq_true (by first | (with_reducible assumption) | assumption)
                     obtain ⟨ad124, A124_3, c124_3, e124, hx124_0, hx124_1, hx124_2, hx124_3, hl124_3, hi124_3⟩ := at_T27 HR0.out 0 p124 q124
                     have hw124_3 := hx124_3
                     (try rw [show ((0 : Int)).toNat = 0 from rfl] at hw124_3)
                     (try rw [show 0 * 4 = 0 from rfl] at hw124_3)
                     (try rw [Addr.add_zero'] at hw124_3)
                     have hw124_2 := hx124_2
                     (try rw [show ((0 : Int)).toNat = 0 from rfl] at hw124_2)
                     (try rw [show 0 * 4 = 0 from rfl] at hw124_2)
                     (try rw [Addr.add_zero'] at hw124_2)
                     have hw124_1 := hx124_1
                     (try rw [show ((0 : Int)).toNat = 0 from rfl] at hw124_1)
                     (try rw [show 0 * 4 = 0 from rfl] at hw124_1)
                     (try rw [Addr.add_zero'] at hw124_1)
                     have hw124_0 := hx124_0
                     (try rw [show ((0 : Int)).toNat = 0 from rfl] at hw124_0)
                     (try rw [show 0 * 4 = 0 from rfl] at hw124_0)
                     (try rw [Addr.add_zero'] at hw124_0)
                     obtain rfl : ad116 = ad124 := (by injection e124)
                     have qi124 : (0 < l0.length) = True := eq_true (by omega)
                     (try rw [show ((0 : Int)).toNat = 0 from rfl] at hx124_0)
                     (try rw [show 0 * 4 = 0 from rfl] at hx124_0)
                     (try rw [Addr.add_zero'] at hx124_0)
                     (try rw [show ((0 : Int)).toNat = 0 from rfl] at hx124_1)
                     (try rw [show 0 * 4 = 0 from rfl] at hx124_1)
                     (try rw [Addr.add_zero'] at hx124_1)
                     (try rw [show ((0 : Int)).toNat = 0 from rfl] at hx124_2)
                     (try rw [show 0 * 4 = 0 from rfl] at hx124_2)
                     (try rw [Addr.add_zero'] at hx124_2)
                     (try rw [show ((0 : Int)).toNat = 0 from rfl] at hx124_3)
                     (try rw [show 0 * 4 = 0 from rfl] at hx124_3)
                     (try rw [Addr.add_zero'] at hx124_3)
                     replace hx124_0 := (HB.out.cell (World.block_lt_of_cell? w _ hx124_0)).trans hx124_0
                     replace hx124_1 := (HB.out.cell (World.block_lt_of_cell? w _ hx124_1)).trans hx124_1
                     replace hx124_2 := (HB.out.cell (World.block_lt_of_cell? w _ hx124_2)).trans hx124_2
                     replace hx124_3 := (HB.out.cell (World.block_lt_of_cell? w _ hx124_3)).trans hx124_3
                     have HR124_3 := Aside0.mk hi124_3
                     have HC124_3 := Aside0.mk hl124_3
                     clear hi124_3 hl124_3
                     replace p124 := eq_true p124
                     replace q124 := eq_true q124
                     have p125 : 0 ≤ ((ji26) : Int) := of_decide_eq_true (by first | (with_reducible assumption) | assumption)
                     have q125 : (ji26) < (((rd_T27 l0 0).f3).length : Int) := of_decide_eq_true (by first | (with_reducible assumption) | assumption)
                     obtain ⟨ad125, A125_0, c125_0, e125, hx125_0, hl125_0, hi125_0⟩ := at_L1 HR124_3.out (ji26) p125 q125
                     have hw125_0 := hx125_0
                     cases e125
                     replace hx125_0 := (HB.out.cell (World.block_lt_of_cell? w _ hx125_0)).trans hx125_0
                     have HR125_0 := Aside0.mk hi125_0
                     have HC125_0 := Aside0.mk hl125_0
                     clear hi125_0 hl125_0
                     replace p125 := eq_true p125
                     replace q125 := eq_true q125
                     have p126 : 0 ≤ (0 : Int) := (by omega)
                     have q126 : 0 < ((rd_L1 ((rd_T27 l0 0).f3) (ji26)).length : Int) := of_decide_eq_true (by first | (with_reducible assumption) | assumption)
                     obtain ⟨ad126, e126, hx126_0⟩ := Kd.at_int HR125_0.out 0 p126 q126
                     have hw126_0 := hx126_0
                     (try rw [show ((0 : Int)).toNat = 0 from rfl] at hw126_0)
                     (try rw [show 0 * 1 = 0 from rfl] at hw126_0)
                     (try rw [Addr.add_zero'] at hw126_0)
                     cases e126
                     have qi126 : (0 < (rd_L1 ((rd_T27 l0 0).f3) (ji26)).length) = True := eq_true (by omega)
                     (try rw [show ((0 : Int)).toNat = 0 from rfl] at hx126_0)
                     (try rw [Addr.add_zero'] at hx126_0)
                     replace hx126_0 := (HB.out.cell (World.block_lt_of_cell? w _ hx126_0)).trans hx126_0
                     replace p126 := eq_true p126
                     replace q126 := eq_true q126
                     have p127 : 0 ≤ (0 : Int) := (by omega)
                     have q127 : 0 < ((rd_L1 ((rd_T27 l0 0).f3) x3_2).length : Int) := of_decide_eq_true (by first | (with_reducible assumption) | assumption)
                     obtain ⟨ad127, e127, hx127_0⟩ := Kd.at_int HR118_0.out 0 p127 q127
                     have hw127_0 := hx127_0
                     (try rw [show ((0 : Int)).toNat = 0 from rfl] at hw127_0)
                     (try rw [show 0 * 1 = 0 from rfl] at hw127_0)
                     (try rw [Addr.add_zero'] at hw127_0)
                     obtain rfl : ad119 = ad127 := (by injection e127)
                     have qi127 : (0 < (rd_L1 ((rd_T27 l0 0).f3) x3_2).length) = True := eq_true (by omega)
                     (try rw [show ((0 : Int)).toNat = 0 from rfl] at hx127_0)
                     (try rw [Addr.add_zero'] at hx127_0)
                     replace hx127_0 := (HB.out.cell (World.block_lt_of_cell? w _ hx127_0)).trans hx127_0
                     replace p127 := eq_true p127
                     replace q127 := eq_true q127
                     refine start_ (n := 47) (S := fun w' => w'.cell? ad119 = some (.int .i64 (rd (rd_L1 ((rd_T27 l0 0).f3) x3_2) 0)) ∧ w'.cell? ⟨ad119.block, ad119.off + 1, none⟩ = some (.int .i64 (rd (rd_L1 ((rd_T27 l0 0).f3) x3_2) 1)) ∧ w'.cell? ad119 = some (.int .i64 (rd (rd_L1 ((rd_T27 l0 0).f3) x3_2) 0)) ∧ w'.cell? ad116 = some (.string ((rd_T27 l0 0).f0)) ∧ w'.cell? ⟨ad116.block, ad116.off + 1, none⟩ = some (.int .i64 ((rd_T27 l0 0).f1)) ∧ w'.cell? ⟨ad116.block, ad116.off + 2, none⟩ = some (.int .i64 ((rd_T27 l0 0).f2)) ∧ w'.cell? ⟨ad116.block, ad116.off + 3, none⟩ = some (.slice (some ad125) ((rd_T27 l0 0).f3).length c124_3) ∧ w'.cell? (ad125.add ((ji26)).toNat) = some (.slice (some ad126) (rd_L1 ((rd_T27 l0 0).f3) (ji26)).length c125_0) ∧ w'.cell? ad126 = some (.int .i64 (rd (rd_L1 ((rd_T27 l0 0).f3) (ji26)) 0)) ∧ w'.cell? ad119 = some (.int .i64 (rd (rd_L1 ((rd_T27 l0 0).f3) x3_2) 0))) (ds := []) (tf 0 47) (by kernel_rfl) rfl rfl ⟨((HB.out.cell (World.block_lt_of_cell? w _ hw119_0)).trans hw119_0), ((HB.out.cell (World.block_lt_of_cell? w _ hw121_0)).trans hw121_0), ((HB.out.cell (World.block_lt_of_cell? w _ hw123_0)).trans hw123_0), ((HB.out.cell (World.block_lt_of_cell? w _ hw124_0)).trans hw124_0), ((HB.out.cell (World.block_lt_of_cell? w _ hw124_1)).trans hw124_1), ((HB.out.cell (World.block_lt_of_cell? w _ hw124_2)).trans hw124_2), ((HB.out.cell (World.block_lt_of_cell? w _ hw124_3)).trans hw124_3), ((HB.out.cell (World.block_lt_of_cell? w _ hw125_0)).trans hw125_0), ((HB.out.cell (World.block_lt_of_cell? w _ hw126_0)).trans hw126_0), ((HB.out.cell (World.block_lt_of_cell? w _ hw127_0)).trans hw127_0)⟩ (fun hHeld => ?_); refine with_tabW spec_l21Ok.tab7 spec_l21Ok.bits7 (fun HT_ HW_ => ?_)
                     generalize wr.drew = w30 at HB HR124_3 HR125_0 hx119_0 hx121_0 hx123_0 hx124_0 hx124_1 hx124_2 hx124_3 hx125_0 hx126_0 hx127_0 hHeld ⊢
                     refine px 0 (some 52) (tf 1 47) HT_ ?_
                     refine px 1 (some 53) (tf 2 47) HT_ ?_
                     refine px 2 (some 54) (tf 3 47) HT_ ?_
                     refine px 3 (some 55) (tf 4 47) HT_ ?_
                     refine px 4 (some 56) (tf 5 47) HT_ ?_
                     refine px 5 (some 57) (tf 6 47) HT_ ?_
                     refine tx (v := ?_) 6 (some 58) (tf 7 47) HT_ HW_ hHeld ?_ ?_
                     rotate_left; (· rintro w' ⟨s0, s1, s2, s3, s4, s5, s6, s7, s8, s9⟩; go_simp; with_reducible rfl)
                     refine one_ (i := 7) (N := some 59) (tf 8 47) rfl rfl (one_of HT_.out (by kernel_rfl)) (by decide) (fun K hK => ?_)
                     refine goes_ Tryd.func18 (by kernel_rfl) rfl #[.int .i64 (rd (rd_L1 ((rd_T27 l0 0).f3) x3_2) 0), .int .i64 0, .int .i64 1000000] (by rfl) rfl rfl (by (try simp only [List.map_toArray, List.map_cons, List.map_nil]); first | done | rfl | (simp only [List.length_drop, List.length_take]; rfl)) ?_
                     with_reducible refine (spec_l00In.calls (rd (rd_L1 ((rd_T27 l0 0).f3) x3_2) 0) 0 1000000 true _ A18.out).mono ?_
                     rintro e w' ⟨rfl, ⟨nd, rfl⟩⟩
                     refine ⟨_, rfl, ?_⟩
                     refine hK.out _ _ ⟨((HB.out.cell (World.block_lt_of_cell? w _ hw119_0)).trans hw119_0), ((HB.out.cell (World.block_lt_of_cell? w _ hw121_0)).trans hw121_0), ((HB.out.cell (World.block_lt_of_cell? w _ hw123_0)).trans hw123_0), ((HB.out.cell (World.block_lt_of_cell? w _ hw124_0)).trans hw124_0), ((HB.out.cell (World.block_lt_of_cell? w _ hw124_1)).trans hw124_1), ((HB.out.cell (World.block_lt_of_cell? w _ hw124_2)).trans hw124_2), ((HB.out.cell (World.block_lt_of_cell? w _ hw124_3)).trans hw124_3), ((HB.out.cell (World.block_lt_of_cell? w _ hw125_0)).trans hw125_0), ((HB.out.cell (World.block_lt_of_cell? w _ hw126_0)).trans hw126_0), ((HB.out.cell (World.block_lt_of_cell? w _ hw127_0)).trans hw127_0)⟩ (fun hHeld => ?_)
                     clear hK K
                     refine norm_ (a' := ?_) ?_ ?_
                     rotate_left
                     ·show Act.put _ (some 59) _ = _
                      simp only [Act.put, List.setIfInBounds_toArray, List.set_cons_zero, List.set_cons_succ, i64_w, i32_w]
                      rfl
                     refine px 8 (some 60) (tf 9 47) HT_ ?_
                     refine px 9 (some 61) (tf 10 47) HT_ ?_
                     refine px 10 (some 62) (tf 11 47) HT_ ?_
                     refine px 11 (some 63) (tf 12 47) HT_ ?_
                     refine px 12 (some 64) (tf 13 47) HT_ ?_
                     refine tx (v := ?_) 13 (some 65) (tf 14 47) HT_ HW_ hHeld ?_ ?_
                     rotate_left; (· rintro w' ⟨s0, s1, s2, s3, s4, s5, s6, s7, s8, s9⟩; go_simp; with_reducible rfl)
                     refine one_ (i := 14) (N := some 66) (tf 15 47) rfl rfl (one_of HT_.out (by kernel_rfl)) (by decide) (fun K hK => ?_)
                     refine goes_ Tryd.func18 (by kernel_rfl) rfl #[.int .i64 (rd (rd_L1 ((rd_T27 l0 0).f3) x3_2) 1), .int .i64 0, .int .i64 10000] (by rfl) rfl rfl (by (try simp only [List.map_toArray, List.map_cons, List.map_nil]); first | done | rfl | (simp only [List.length_drop, List.length_take]; rfl)) ?_
                     with_reducible refine (spec_l00In.calls (rd (rd_L1 ((rd_T27 l0 0).f3) x3_2) 1) 0 10000 true _ A21.out).mono ?_
                     rintro e w' ⟨rfl, ⟨nd, rfl⟩⟩
                     refine ⟨_, rfl, ?_⟩
                     refine hK.out _ _ ⟨((HB.out.cell (World.block_lt_of_cell? w _ hw119_0)).trans hw119_0), ((HB.out.cell (World.block_lt_of_cell? w _ hw121_0)).trans hw121_0), ((HB.out.cell (World.block_lt_of_cell? w _ hw123_0)).trans hw123_0), ((HB.out.cell (World.block_lt_of_cell? w _ hw124_0)).trans hw124_0), ((HB.out.cell (World.block_lt_of_cell? w _ hw124_1)).trans hw124_1), ((HB.out.cell (World.block_lt_of_cell? w _ hw124_2)).trans hw124_2), ((HB.out.cell (World.block_lt_of_cell? w _ hw124_3)).trans hw124_3), ((HB.out.cell (World.block_lt_of_cell? w _ hw125_0)).trans hw125_0), ((HB.out.cell (World.block_lt_of_cell? w _ hw126_0)).trans hw126_0), ((HB.out.cell (World.block_lt_of_cell? w _ hw127_0)).trans hw127_0)⟩ (fun hHeld => ?_)
                     clear hK K
                     refine norm_ (a' := ?_) ?_ ?_
                     rotate_left
                     ·show Act.put _ (some 66) _ = _
                      simp only [Act.put, List.setIfInBounds_toArray, List.set_cons_zero, List.set_cons_succ, i64_w, i32_w]
                      rfl
                     refine px 15 (some 67) (tf 16 47) HT_ ?_
                     refine px 16 (some 68) (tf 17 47) HT_ ?_
                     refine px 17 (some 69) (tf 18 47) HT_ ?_
                     refine px 18 (some 70) (tf 19 47) HT_ ?_
                     refine px 19 (some 71) (tf 20 47) HT_ ?_
                     refine px 20 (some 72) (tf 21 47) HT_ ?_
                     refine px 21 (some 73) (tf 22 47) HT_ ?_
                     refine px 22 (some 74) (tf 23 47) HT_ ?_
                     refine tx (v := ?_) 23 (some 75) (tf 24 47) HT_ HW_ hHeld ?_ ?_
                     rotate_left; (· rintro w' ⟨s0, s1, s2, s3, s4, s5, s6, s7, s8, s9⟩; go_simp; with_reducible rfl)
                     refine px 24 (some 76) (tf 25 47) HT_ ?_
                     refine px 25 (some 77) (tf 26 47) HT_ ?_
                     refine px 26 (some 78) (tf 27 47) HT_ ?_
                     refine px 27 (some 79) (tf 28 47) HT_ ?_
                     refine px 28 (some 80) (tf 29 47) HT_ ?_
                     refine px 29 (some 81) (tf 30 47) HT_ ?_
                     refine px 30 (some 82) (tf 31 47) HT_ ?_
                     refine px 31 (some 83) (tf 32 47) HT_ ?_
                     refine px 32 (some 84) (tf 33 47) HT_ ?_
                     refine px 33 (some 85) (tf 34 47) HT_ ?_
                     refine px 35 (some 87) (tb 47 51539607551) HT_ ?_
                     refine px 36 (some 88) (tb 47 120259084287) HT_ ?_
                     refine px 41 (some 93) (tb 47 2319282339839) HT_ ?_
                     refine px 42 (some 94) (tb 47 6717328850943) HT_ ?_
                     refine tx (v := ?_) 34 (some 86) (tb 47 6734508720127) HT_ HW_ hHeld ?_ ?_
                     rotate_left; (· rintro w' ⟨s0, s1, s2, s3, s4, s5, s6, s7, s8, s9⟩; go_simp; with_reducible rfl)
                     refine px 37 (some 89) (tb 47 6871947673599) HT_ ?_
                     refine tx (v := ?_) 38 (some 90) (tb 47 7146825580543) HT_ HW_ hHeld ?_ ?_
                     rotate_left; (· rintro w' ⟨s0, s1, s2, s3, s4, s5, s6, s7, s8, s9⟩; go_simp; with_reducible rfl)
                     refine px 39 (some 91) (tb 47 7696581394431) HT_ ?_
                     refine tx (v := ?_) 40 (some 92) (tf 43 47) HT_ HW_ hHeld ?_ ?_
                     rotate_left; (· rintro w' ⟨s0, s1, s2, s3, s4, s5, s6, s7, s8, s9⟩; go_simp; with_reducible rfl)
                     refine tx (v := ?_) 43 (some 95) (tf 44 47) HT_ HW_ hHeld ?_ ?_
                     rotate_left; (· rintro w' ⟨s0, s1, s2, s3, s4, s5, s6, s7, s8, s9⟩; go_simp; with_reducible rfl)
                     refine px 44 (some 96) (tf 45 47) HT_ ?_
                     refine px 45 (some 97) (tf 46 47) HT_ ?_
                     refine px 46 (some 98) (tf 47 47) HT_ ?_
                     refine done_ (done_of HT_.out (by kernel_rfl)) ?_
                     try go_wp2
                     go_meet
                     case rel => exact ⟨_, (decide ((rd (rd_L1 ((rd_T27 l0 0).f3) (ji26)) 0) ≥ (rd (rd_L1 ((rd_T27 l0 0).f3) x3_2) 0))), (by first | rfl | (simp; done) | (simp only [← hji26] <;> (first | rfl | simp)) | (simp [*]; done)), H', ⟨by have := HJ1.out; have := HK2.out; first | omega | exact Nat.le_refl _⟩, ⟨by repeat (first | (with_reducible first | exact HB.out | apply below_alloc | apply pw_below_drewN | apply below_drew1) | exact HB.out)⟩⟩
                    ·rw [if_neg c29] at H
                     exact absurd H (by simp)
                   ·rw [if_neg c28] at H
                    exact absurd H (by simp)
                  ·rw [if_neg c27] at H
                   exact absurd H (by simp)
                 ·rw [if_neg c25] at H
                  have c25b0 : decide (0 < x3_2) = false := decide_eq_false c25
                  clear c25
                  have H' := Aside0.mk H
                  clear H
                  try go_wp2
                  have n0_ := Aside0.mk (below_drew1 HB.out)
                  clear HB
                  have HB := n0_
                  clear n0_
                  have p119 : 0 ≤ (0 : Int) := (by omega)
                  have q119 : 0 < ((rd_L1 ((rd_T27 l0 0).f3) x3_2).length : Int) := of_decide_eq_true (by first | (with_reducible assumption) | assumption)
                  obtain ⟨ad119, e119, hx119_0⟩ := Kd.at_int HR118_0.out 0 p119 q119
                  have hw119_0 := hx119_0
                  (try rw [show ((0 : Int)).toNat = 0 from rfl] at hw119_0)
                  (try rw [show 0 * 1 = 0 from rfl] at hw119_0)
                  (try rw [Addr.add_zero'] at hw119_0)
                  cases e119
                  have qi119 : (0 < (rd_L1 ((rd_T27 l0 0).f3) x3_2).length) = True := eq_true (by omega)
                  (try rw [show ((0 : Int)).toNat = 0 from rfl] at hx119_0)
                  (try rw [Addr.add_zero'] at hx119_0)
                  replace hx119_0 := (HB.out.cell (World.block_lt_of_cell? w _ hx119_0)).trans hx119_0
                  replace p119 := eq_true p119
                  replace q119 := eq_true q119
                  have p121 : 0 ≤ (1 : Int) := (by omega)
                  have q121 : 1 < ((rd_L1 ((rd_T27 l0 0).f3) x3_2).length : Int) := of_decide_eq_true (by first | (with_reducible assumption) | assumption)
                  obtain ⟨ad121, e121, hx121_0⟩ := Kd.at_int HR118_0.out 1 p121 q121
                  have hw121_0 := hx121_0
                  (try rw [show ((1 : Int)).toNat = 1 from rfl] at hw121_0)
                  (try rw [show 1 * 1 = 1 from rfl] at hw121_0)
                  (try simp only [Nat.reduceMul, Nat.reduceEqDiff, Go.Addr.add, ↓reduceIte] at hw121_0)
                  obtain rfl : ad119 = ad121 := (by injection e121)
                  (try simp only [show (1 : Int).toNat = 1 from rfl, Nat.reduceMul, Nat.reduceEqDiff, Go.Addr.add, ↓reduceIte] at hx121_0)
                  have qi121 : (1 < (rd_L1 ((rd_T27 l0 0).f3) x3_2).length) = True := eq_true (by omega)
                  (try rw [show ((1 : Int)).toNat = 1 from rfl] at hx121_0)
                  replace hx121_0 := (HB.out.cell (World.block_lt_of_cell? w _ hx121_0)).trans hx121_0
                  replace p121 := eq_true p121
                  replace q121 := eq_true q121
                  have p123 : 0 ≤ (0 : Int) := (by omega)
                  have q123 : 0 < ((rd_L1 ((rd_T27 l0 0).f3) x3_2).length : Int) := of_decide_eq_true (by first | (with_reducible assumption) | assumption)
                  obtain ⟨ad123, e123, hx123_0⟩ := Kd.at_int HR118_0.out 0 p123 q123
                  have hw123_0 := hx123_0
                  (try rw [show ((0 : Int)).toNat = 0 from rfl] at hw123_0)
                  (try rw [show 0 * 1 = 0 from rfl] at hw123_0)
                  (try rw [Addr.add_zero'] at hw123_0)
                  obtain rfl : ad119 = ad123 := (by injection e123)
                  have qi123 : (0 < (rd_L1 ((rd_T27 l0 0).f3) x3_2).length) = True := eq_true (by omega)
                  (try rw [show ((0 : Int)).toNat = 0 from rfl] at hx123_0)
                  (try rw [Addr.add_zero'] at hx123_0)
                  replace hx123_0 := (HB.out.cell (World.block_lt_of_cell? w _ hx123_0)).trans hx123_0
                  replace p123 := eq_true p123
                  replace q123 := eq_true q123
                  refine start_ (n := 47) (S := fun w' => w'.cell? ad119 = some (.int .i64 (rd (rd_L1 ((rd_T27 l0 0).f3) x3_2) 0)) ∧ w'.cell? ⟨ad119.block, ad119.off + 1, none⟩ = some (.int .i64 (rd (rd_L1 ((rd_T27 l0 0).f3) x3_2) 1)) ∧ w'.cell? ad119 = some (.int .i64 (rd (rd_L1 ((rd_T27 l0 0).f3) x3_2) 0))) (ds := []) (tf 0 47) (by kernel_rfl) rfl rfl ⟨((HB.out.cell (World.block_lt_of_cell? w _ hw119_0)).trans hw119_0), ((HB.out.cell (World.block_lt_of_cell? w _ hw121_0)).trans hw121_0), ((HB.out.cell (World.block_lt_of_cell? w _ hw123_0)).trans hw123_0)⟩ (fun hHeld => ?_); refine with_tabW spec_l21Ok.tab7 spec_l21Ok.bits7 (fun HT_ HW_ => ?_)
                  generalize wr.drew = w31 at HB hx119_0 hx121_0 hx123_0 hHeld ⊢
                  refine px 0 (some 52) (tf 1 47) HT_ ?_
                  refine px 1 (some 53) (tf 2 47) HT_ ?_
                  refine px 2 (some 54) (tf 3 47) HT_ ?_
                  refine px 3 (some 55) (tf 4 47) HT_ ?_
                  refine px 4 (some 56) (tf 5 47) HT_ ?_
                  refine px 5 (some 57) (tf 6 47) HT_ ?_
                  refine tx (v := ?_) 6 (some 58) (tf 7 47) HT_ HW_ hHeld ?_ ?_
                  rotate_left; (· rintro w' ⟨s0, s1, s2⟩; go_simp; with_reducible rfl)
                  refine one_ (i := 7) (N := some 59) (tf 8 47) rfl rfl (one_of HT_.out (by kernel_rfl)) (by decide) (fun K hK => ?_)
                  refine goes_ Tryd.func18 (by kernel_rfl) rfl #[.int .i64 (rd (rd_L1 ((rd_T27 l0 0).f3) x3_2) 0), .int .i64 0, .int .i64 1000000] (by rfl) rfl rfl (by (try simp only [List.map_toArray, List.map_cons, List.map_nil]); first | done | rfl | (simp only [List.length_drop, List.length_take]; rfl)) ?_
                  with_reducible refine (spec_l00In.calls (rd (rd_L1 ((rd_T27 l0 0).f3) x3_2) 0) 0 1000000 true _ A18.out).mono ?_
                  rintro e w' ⟨rfl, ⟨nd, rfl⟩⟩
                  refine ⟨_, rfl, ?_⟩
                  refine hK.out _ _ ⟨((HB.out.cell (World.block_lt_of_cell? w _ hw119_0)).trans hw119_0), ((HB.out.cell (World.block_lt_of_cell? w _ hw121_0)).trans hw121_0), ((HB.out.cell (World.block_lt_of_cell? w _ hw123_0)).trans hw123_0)⟩ (fun hHeld => ?_)
                  clear hK K
                  refine norm_ (a' := ?_) ?_ ?_
                  rotate_left
                  ·show Act.put _ (some 59) _ = _
                   simp only [Act.put, List.setIfInBounds_toArray, List.set_cons_zero, List.set_cons_succ, i64_w, i32_w]
                   rfl
                  refine px 8 (some 60) (tf 9 47) HT_ ?_
                  refine px 9 (some 61) (tf 10 47) HT_ ?_
                  refine px 10 (some 62) (tf 11 47) HT_ ?_
                  refine px 11 (some 63) (tf 12 47) HT_ ?_
                  refine px 12 (some 64) (tf 13 47) HT_ ?_
                  refine tx (v := ?_) 13 (some 65) (tf 14 47) HT_ HW_ hHeld ?_ ?_
                  rotate_left; (· rintro w' ⟨s0, s1, s2⟩; go_simp; with_reducible rfl)
                  refine one_ (i := 14) (N := some 66) (tf 15 47) rfl rfl (one_of HT_.out (by kernel_rfl)) (by decide) (fun K hK => ?_)
                  refine goes_ Tryd.func18 (by kernel_rfl) rfl #[.int .i64 (rd (rd_L1 ((rd_T27 l0 0).f3) x3_2) 1), .int .i64 0, .int .i64 10000] (by rfl) rfl rfl (by (try simp only [List.map_toArray, List.map_cons, List.map_nil]); first | done | rfl | (simp only [List.length_drop, List.length_take]; rfl)) ?_
                  with_reducible refine (spec_l00In.calls (rd (rd_L1 ((rd_T27 l0 0).f3) x3_2) 1) 0 10000 true _ A21.out).mono ?_
                  rintro e w' ⟨rfl, ⟨nd, rfl⟩⟩
                  refine ⟨_, rfl, ?_⟩
                  refine hK.out _ _ ⟨((HB.out.cell (World.block_lt_of_cell? w _ hw119_0)).trans hw119_0), ((HB.out.cell (World.block_lt_of_cell? w _ hw121_0)).trans hw121_0), ((HB.out.cell (World.block_lt_of_cell? w _ hw123_0)).trans hw123_0)⟩ (fun hHeld => ?_)
                  clear hK K
                  refine norm_ (a' := ?_) ?_ ?_
                  rotate_left
                  ·show Act.put _ (some 66) _ = _
                   simp only [Act.put, List.setIfInBounds_toArray, List.set_cons_zero, List.set_cons_succ, i64_w, i32_w]
                   rfl
                  refine px 15 (some 67) (tf 16 47) HT_ ?_
                  refine px 16 (some 68) (tf 17 47) HT_ ?_
                  refine px 17 (some 69) (tf 18 47) HT_ ?_
                  refine px 18 (some 70) (tf 19 47) HT_ ?_
                  refine px 19 (some 71) (tf 20 47) HT_ ?_
                  refine px 20 (some 72) (tf 21 47) HT_ ?_
                  refine px 21 (some 73) (tf 22 47) HT_ ?_
                  refine px 22 (some 74) (tf 23 47) HT_ ?_
                  refine tx (v := ?_) 23 (some 75) (tf 24 47) HT_ HW_ hHeld ?_ ?_
                  rotate_left; (· rintro w' ⟨s0, s1, s2⟩; go_simp; with_reducible rfl)
                  refine px 24 (some 76) (tf 25 47) HT_ ?_
                  refine px 25 (some 77) (tf 26 47) HT_ ?_
                  refine px 26 (some 78) (tf 27 47) HT_ ?_
                  refine px 27 (some 79) (tf 28 47) HT_ ?_
                  refine px 28 (some 80) (tf 29 47) HT_ ?_
                  refine px 29 (some 81) (tf 30 47) HT_ ?_
                  refine px 30 (some 82) (tf 31 47) HT_ ?_
                  refine sx 31 (some 83) (tf 32 47) HT_ ?_
                  refine sx 32 (some 84) (tf 33 47) HT_ ?_
                  refine sx 33 (some 85) (tf 34 47) HT_ ?_
                  refine sx 34 (some 86) (tf 35 47) HT_ ?_
                  refine sx 35 (some 87) (tf 36 47) HT_ ?_
                  refine sx 36 (some 88) (tf 37 47) HT_ ?_
                  refine sx 37 (some 89) (tf 38 47) HT_ ?_
                  refine sx 38 (some 90) (tf 39 47) HT_ ?_
                  refine sx 39 (some 91) (tf 40 47) HT_ ?_
                  refine sx 40 (some 92) (tf 41 47) HT_ ?_
                  refine sx 41 (some 93) (tf 42 47) HT_ ?_
                  refine sx 42 (some 94) (tf 43 47) HT_ ?_
                  refine sx 43 (some 95) (tf 44 47) HT_ ?_
                  refine sx 44 (some 96) (tf 45 47) HT_ ?_
                  refine px 45 (some 97) (tf 46 47) HT_ ?_
                  refine px 46 (some 98) (tf 47 47) HT_ ?_
                  refine done_ (done_of HT_.out (by kernel_rfl)) ?_
                  try go_wp2
                  go_meet
                  case rel => exact ⟨_, (false), (by first | rfl | (simp; done) | (simp [*]; done)), H', ⟨by have := HJ1.out; have := HK2.out; first | omega | exact Nat.le_refl _⟩, ⟨by repeat (first | (with_reducible first | exact HB.out | apply below_alloc | apply pw_below_drewN | apply below_drew1) | exact HB.out)⟩⟩
                ·rw [if_neg c24] at H
                 have c24b0 : ((rd (rd_L1 ((rd_T27 l0 0).f3) x3_2) 0) == 0) = false := beq_eq_false_iff_ne.mpr c24
                 have c24b1 : ((rd (rd_L1 ((rd_T27 l0 0).f3) x3_2) 0) != 0) = true := bne_iff_ne.mpr c24
                 have H' := Aside0.mk H
                 clear H
                 try go_wp2
                 have n0_ := Aside0.mk (below_drew1 HB.out)
                 clear HB
                 have HB := n0_
                 clear n0_
                 have p119 : 0 ≤ (0 : Int) := (by omega)
                 have q119 : 0 < ((rd_L1 ((rd_T27 l0 0).f3) x3_2).length : Int) := of_decide_eq_true (by first | (with_reducible assumption) | assumption)
                 obtain ⟨ad119, e119, hx119_0⟩ := Kd.at_int HR118_0.out 0 p119 q119
                 have hw119_0 := hx119_0
                 (try rw [show ((0 : Int)).toNat = 0 from rfl] at hw119_0)
                 (try rw [show 0 * 1 = 0 from rfl] at hw119_0)
                 (try rw [Addr.add_zero'] at hw119_0)
                 cases e119
                 have qi119 : (0 < (rd_L1 ((rd_T27 l0 0).f3) x3_2).length) = True := eq_true (by omega)
                 (try rw [show ((0 : Int)).toNat = 0 from rfl] at hx119_0)
                 (try rw [Addr.add_zero'] at hx119_0)
                 replace hx119_0 := (HB.out.cell (World.block_lt_of_cell? w _ hx119_0)).trans hx119_0
                 replace p119 := eq_true p119
                 replace q119 := eq_true q119
                 have p121 : 0 ≤ (1 : Int) := (by omega)
                 have q121 : 1 < ((rd_L1 ((rd_T27 l0 0).f3) x3_2).length : Int) := of_decide_eq_true (by first | (with_reducible assumption) | assumption)
                 obtain ⟨ad121, e121, hx121_0⟩ := Kd.at_int HR118_0.out 1 p121 q121
                 have hw121_0 := hx121_0
                 (try rw [show ((1 : Int)).toNat = 1 from rfl] at hw121_0)
                 (try rw [show 1 * 1 = 1 from rfl] at hw121_0)
                 (try simp only [Nat.reduceMul, Nat.reduceEqDiff, Go.Addr.add, ↓reduceIte] at hw121_0)
                 obtain rfl : ad119 = ad121 := (by injection e121)
                 (try simp only [show (1 : Int).toNat = 1 from rfl, Nat.reduceMul, Nat.reduceEqDiff, Go.Addr.add, ↓reduceIte] at hx121_0)
                 have qi121 : (1 < (rd_L1 ((rd_T27 l0 0).f3) x3_2).length) = True := eq_true (by omega)
                 (try rw [show ((1 : Int)).toNat = 1 from rfl] at hx121_0)
                 replace hx121_0 := (HB.out.cell (World.block_lt_of_cell? w _ hx121_0)).trans hx121_0
                 replace p121 := eq_true p121
                 replace q121 := eq_true q121
                 have p123 : 0 ≤ (0 : Int) := (by omega)
                 have q123 : 0 < ((rd_L1 ((rd_T27 l0 0).f3) x3_2).length : Int) := of_decide_eq_true (by first | (with_reducible assumption) | assumption)
                 obtain ⟨ad123, e123, hx123_0⟩ := Kd.at_int HR118_0.out 0 p123 q123
                 have hw123_0 := hx123_0
                 (try rw [show ((0 : Int)).toNat = 0 from rfl] at hw123_0)
                 (try rw [show 0 * 1 = 0 from rfl] at hw123_0)
                 (try rw [Addr.add_zero'] at hw123_0)
                 obtain rfl : ad119 = ad123 := (by injection e123)
                 have qi123 : (0 < (rd_L1 ((rd_T27 l0 0).f3) x3_2).length) = True := eq_true (by omega)
                 (try rw [show ((0 : Int)).toNat = 0 from rfl] at hx123_0)
                 (try rw [Addr.add_zero'] at hx123_0)
                 replace hx123_0 := (HB.out.cell (World.block_lt_of_cell? w _ hx123_0)).trans hx123_0
                 replace p123 := eq_true p123
                 replace q123 := eq_true q123
                 refine start_ (n := 47) (S := fun w' => w'.cell? ad119 = some (.int .i64 (rd (rd_L1 ((rd_T27 l0 0).f3) x3_2) 0)) ∧ w'.cell? ⟨ad119.block, ad119.off + 1, none⟩ = some (.int .i64 (rd (rd_L1 ((rd_T27 l0 0).f3) x3_2) 1)) ∧ w'.cell? ad119 = some (.int .i64 (rd (rd_L1 ((rd_T27 l0 0).f3) x3_2) 0))) (ds := []) (tf 0 47) (by kernel_rfl) rfl rfl ⟨((HB.out.cell (World.block_lt_of_cell? w _ hw119_0)).trans hw119_0), ((HB.out.cell (World.block_lt_of_cell? w _ hw121_0)).trans hw121_0), ((HB.out.cell (World.block_lt_of_cell? w _ hw123_0)).trans hw123_0)⟩ (fun hHeld => ?_); refine with_tabW spec_l21Ok.tab7 spec_l21Ok.bits7 (fun HT_ HW_ => ?_)
                 generalize wr.drew = w32 at HB hx119_0 hx121_0 hx123_0 hHeld ⊢
                 refine px 0 (some 52) (tf 1 47) HT_ ?_
                 refine px 1 (some 53) (tf 2 47) HT_ ?_
                 refine px 2 (some 54) (tf 3 47) HT_ ?_
                 refine px 3 (some 55) (tf 4 47) HT_ ?_
                 refine px 4 (some 56) (tf 5 47) HT_ ?_
                 refine px 5 (some 57) (tf 6 47) HT_ ?_
                 refine tx (v := ?_) 6 (some 58) (tf 7 47) HT_ HW_ hHeld ?_ ?_
                 rotate_left; (· rintro w' ⟨s0, s1, s2⟩; go_simp; with_reducible rfl)
                 refine one_ (i := 7) (N := some 59) (tf 8 47) rfl rfl (one_of HT_.out (by kernel_rfl)) (by decide) (fun K hK => ?_)
                 refine goes_ Tryd.func18 (by kernel_rfl) rfl #[.int .i64 (rd (rd_L1 ((rd_T27 l0 0).f3) x3_2) 0), .int .i64 0, .int .i64 1000000] (by rfl) rfl rfl (by (try simp only [List.map_toArray, List.map_cons, List.map_nil]); first | done | rfl | (simp only [List.length_drop, List.length_take]; rfl)) ?_
                 with_reducible refine (spec_l00In.calls (rd (rd_L1 ((rd_T27 l0 0).f3) x3_2) 0) 0 1000000 true _ A18.out).mono ?_
                 rintro e w' ⟨rfl, ⟨nd, rfl⟩⟩
                 refine ⟨_, rfl, ?_⟩
                 refine hK.out _ _ ⟨((HB.out.cell (World.block_lt_of_cell? w _ hw119_0)).trans hw119_0), ((HB.out.cell (World.block_lt_of_cell? w _ hw121_0)).trans hw121_0), ((HB.out.cell (World.block_lt_of_cell? w _ hw123_0)).trans hw123_0)⟩ (fun hHeld => ?_)
                 clear hK K
                 refine norm_ (a' := ?_) ?_ ?_
                 rotate_left
                 ·show Act.put _ (some 59) _ = _
                  simp only [Act.put, List.setIfInBounds_toArray, List.set_cons_zero, List.set_cons_succ, i64_w, i32_w]
                  rfl
                 refine px 8 (some 60) (tf 9 47) HT_ ?_
                 refine px 9 (some 61) (tf 10 47) HT_ ?_
                 refine px 10 (some 62) (tf 11 47) HT_ ?_
                 refine px 11 (some 63) (tf 12 47) HT_ ?_
                 refine px 12 (some 64) (tf 13 47) HT_ ?_
                 refine tx (v := ?_) 13 (some 65) (tf 14 47) HT_ HW_ hHeld ?_ ?_
                 rotate_left; (· rintro w' ⟨s0, s1, s2⟩; go_simp; with_reducible rfl)
                 refine one_ (i := 14) (N := some 66) (tf 15 47) rfl rfl (one_of HT_.out (by kernel_rfl)) (by decide) (fun K hK => ?_)
                 refine goes_ Tryd.func18 (by kernel_rfl) rfl #[.int .i64 (rd (rd_L1 ((rd_T27 l0 0).f3) x3_2) 1), .int .i64 0, .int .i64 10000] (by rfl) rfl rfl (by (try simp only [List.map_toArray, List.map_cons, List.map_nil]); first | done | rfl | (simp only [List.length_drop, List.length_take]; rfl)) ?_
                 with_reducible refine (spec_l00In.calls (rd (rd_L1 ((rd_T27 l0 0).f3) x3_2) 1) 0 10000 true _ A21.out).mono ?_
                 rintro e w' ⟨rfl, ⟨nd, rfl⟩⟩
                 refine ⟨_, rfl, ?_⟩
                 refine hK.out _ _ ⟨((HB.out.cell (World.block_lt_of_cell? w _ hw119_0)).trans hw119_0), ((HB.out.cell (World.block_lt_of_cell? w _ hw121_0)).trans hw121_0), ((HB.out.cell (World.block_lt_of_cell? w _ hw123_0)).trans hw123_0)⟩ (fun hHeld => ?_)
                 clear hK K
                 refine norm_ (a' := ?_) ?_ ?_
                 rotate_left
                 ·show Act.put _ (some 66) _ = _
                  simp only [Act.put, List.setIfInBounds_toArray, List.set_cons_zero, List.set_cons_succ, i64_w, i32_w]
                  rfl
                 refine px 15 (some 67) (tf 16 47) HT_ ?_
                 refine px 16 (some 68) (tf 17 47) HT_ ?_
                 refine px 17 (some 69) (tf 18 47) HT_ ?_
                 refine px 18 (some 70) (tf 19 47) HT_ ?_
                 refine px 19 (some 71) (tf 20 47) HT_ ?_
                 refine px 20 (some 72) (tf 21 47) HT_ ?_
                 refine px 21 (some 73) (tf 22 47) HT_ ?_
                 refine px 22 (some 74) (tf 23 47) HT_ ?_
                 refine tx (v := ?_) 23 (some 75) (tf 24 47) HT_ HW_ hHeld ?_ ?_
                 rotate_left; (· rintro w' ⟨s0, s1, s2⟩; go_simp; with_reducible rfl)
                 refine px 24 (some 76) (tf 25 47) HT_ ?_
                 refine px 25 (some 77) (tf 26 47) HT_ ?_
                 refine px 26 (some 78) (tf 27 47) HT_ ?_
                 refine px 27 (some 79) (tf 28 47) HT_ ?_
                 refine sx 28 (some 80) (tf 29 47) HT_ ?_
                 refine sx 29 (some 81) (tf 30 47) HT_ ?_
                 refine sx 30 (some 82) (tf 31 47) HT_ ?_
                 refine sx 31 (some 83) (tf 32 47) HT_ ?_
                 refine sx 32 (some 84) (tf 33 47) HT_ ?_
                 refine sx 33 (some 85) (tf 34 47) HT_ ?_
                 refine sx 34 (some 86) (tf 35 47) HT_ ?_
                 refine sx 35 (some 87) (tf 36 47) HT_ ?_
                 refine sx 36 (some 88) (tf 37 47) HT_ ?_
                 refine sx 37 (some 89) (tf 38 47) HT_ ?_
                 refine sx 38 (some 90) (tf 39 47) HT_ ?_
                 refine sx 39 (some 91) (tf 40 47) HT_ ?_
                 refine sx 40 (some 92) (tf 41 47) HT_ ?_
                 refine sx 41 (some 93) (tf 42 47) HT_ ?_
                 refine sx 42 (some 94) (tf 43 47) HT_ ?_
                 refine sx 43 (some 95) (tf 44 47) HT_ ?_
                 refine sx 44 (some 96) (tf 45 47) HT_ ?_
                 refine sx 45 (some 97) (tf 46 47) HT_ ?_
                 refine px 46 (some 98) (tf 47 47) HT_ ?_
                 refine done_ (done_of HT_.out (by kernel_rfl)) ?_
                 try go_wp2
                 go_meet
                 case rel => exact ⟨_, (true), (by first | rfl | (simp; done) | (simp [*]; done)), H', ⟨by have := HJ1.out; have := HK2.out; first | omega | exact Nat.le_refl _⟩, ⟨by repeat (first | (with_reducible first | exact HB.out | apply below_alloc | apply pw_below_drewN | apply below_drew1) | exact HB.out)⟩⟩
               ·rw [if_neg c23] at H
                have c23b0 : (x3_2 == 0) = false := beq_eq_false_iff_ne.mpr c23
                have c23b1 : (x3_2 != 0) = true := bne_iff_ne.mpr c23
                by_cases c33 : x3_2 > 0
                ·rw [if_pos c33] at H
                 have c33b0 : decide (0 < x3_2) = true := decide_eq_true c33
                 clear c33
                 obtain ⟨ji34, hji34⟩ : ∃ j_ : Int, (wrap64 (x3_2 - 1)) = j_ := ⟨_, rfl⟩
                 replace H : (if 0 ≤ (ji34) then (if (ji34) < (((rd_T27 l0 0).f3).length : Int) then (if 0 < ((rd_L1 ((rd_T27 l0 0).f3) (ji34)).length : Int) then (spec_l21Ok.j2 k2 l0 x3_2 (decide ((rd (rd_L1 ((rd_T27 l0 0).f3) (ji34)) 0) ≥ (rd (rd_L1 ((rd_T27 l0 0).f3) x3_2) 0)))) else (none)) else (none)) else (none)) = some r := by first | (rw [hji34] at H; exact H) | (simp only [hji34] at H ⊢; exact H)
                 (try rw [hji34] at A18)
                 (try rw [hji34] at A21)
                 have hji34w : (IntKind.i64.wrap (x3_2 - 1)) = ji34 := (i64_w _).trans hji34
                 (try clear hji26w)
                 by_cases c35 : 0 ≤ (ji34)
                 ·rw [if_pos c35] at H
                  have c35b0 : decide (0 ≤ (ji34)) = true := decide_eq_true c35
                  clear c35
                  by_cases c36 : (ji34) < (((rd_T27 l0 0).f3).length : Int)
                  ·rw [if_pos c36] at H
                   have c36b0 : decide ((ji34) < (((rd_T27 l0 0).f3).length : Int)) = true := decide_eq_true c36
                   clear c36
                   by_cases c37 : 0 < ((rd_L1 ((rd_T27 l0 0).f3) (ji34)).length : Int)
                   ·rw [if_pos c37] at H
                    have c37b0 : decide (0 < ((rd_L1 ((rd_T27 l0 0).f3) (ji34)).length : Int)) = true := decide_eq_true c37
                    have c37b1 : decide (0 < (rd_L1 ((rd_T27 l0 0).f3) (ji34)).length) = true := decide_eq_true (by omega)
                    clear c37
                    have H' := Aside0.mk H
                    clear H
                    try go_wp2
                    have n0_ := Aside0.mk (below_drew1 HB.out)
                    clear HB
                    have HB := n0_
                    clear n0_
                    have p119 : 0 ≤ (0 : Int) := (by omega)
                    have q119 : 0 < ((rd_L1 ((rd_T27 l0 0).f3) x3_2).length : Int) := of_decide_eq_true (by first | (with_reducible assumption) | assumption)
                    obtain ⟨ad119, e119, hx119_0⟩ := Kd.at_int HR118_0.out 0 p119 q119
                    have hw119_0 := hx119_0
                    (try rw [show ((0 : Int)).toNat = 0 from rfl] at hw119_0)
                    (try rw [show 0 * 1 = 0 from rfl] at hw119_0)
                    (try rw [Addr.add_zero'] at hw119_0)
                    cases e119
                    have qi119 : (0 < (rd_L1 ((rd_T27 l0 0).f3) x3_2).length) = True := eq_true (by omega)
                    (try rw [show ((0 : Int)).toNat = 0 from rfl] at hx119_0)
                    (try rw [Addr.add_zero'] at hx119_0)
                    replace hx119_0 := (HB.out.cell (World.block_lt_of_cell? w _ hx119_0)).trans hx119_0
                    replace p119 := eq_true p119
                    replace q119 := eq_true q119
                    have p121 : 0 ≤ (1 : Int) := (by omega)
                    have q121 : 1 < ((rd_L1 ((rd_T27 l0 0).f3) x3_2).length : Int) := of_decide_eq_true (by first | (with_reducible assumption) | assumption)
                    obtain ⟨ad121, e121, hx121_0⟩ := Kd.at_int HR118_0.out 1 p121 q121
                    have hw121_0 := hx121_0
                    (try rw [show ((1 : Int)).toNat = 1 from rfl] at hw121_0)
                    (try rw [show 1 * 1 = 1 from rfl] at hw121_0)
                    (try simp only [Nat.reduceMul, Nat.reduceEqDiff, Go.Addr.add, ↓reduceIte] at hw121_0)
                    obtain rfl : ad119 = ad121 := (by injection e121)
                    (try simp only [show (1 : Int).toNat = 1 from rfl, Nat.reduceMul, Nat.reduceEqDiff, Go.Addr.add, ↓reduceIte] at hx121_0)
                    have qi121 : (1 < (rd_L1 ((rd_T27 l0 0).f3) x3_2).length) = True := eq_true (by omega)
                    (try rw [show ((1 : Int)).toNat = 1 from rfl] at hx121_0)
                    replace hx121_0 := (HB.out.cell (World.block_lt_of_cell? w _ hx121_0)).trans hx121_0
                    replace p121 := eq_true p121
                    replace q121 := eq_true q121
                    have p128 : 0 ≤ (0 : Int) := (by omega)
                    have q128 : 0 < (l0.length : Int) := of_decide_eq_true (by first | (with_reducible assumption) | assumption)
                    obtain ⟨ad128, A128_3, c128_3, e128, hx128_0, hx128_1, hx128_2, hx128_3, hl128_3, hi128_3⟩ := at_T27 HR0.out 0 p128 q128
                    have hw128_3 := hx128_3
                    (try rw [show ((0 : Int)).toNat = 0 from rfl] at hw128_3)
                    (try rw [show 0 * 4 = 0 from rfl] at hw128_3)
                    (try rw [Addr.add_zero'] at hw128_3)
                    have hw128_2 := hx128_2
                    (try rw [show ((0 : Int)).toNat = 0 from rfl] at hw128_2)
                    (try rw [show 0 * 4 = 0 from rfl] at hw128_2)
                    (try rw [Addr.add_zero'] at hw128_2)
                    have hw128_1 := hx128_1
                    (try rw [show ((0 : Int)).toNat = 0 from rfl] at hw128_1)
                    (try rw [show 0 * 4 = 0 from rfl] at hw128_1)
                    (try rw [Addr.add_zero'] at hw128_1)
                    have hw128_0 := hx128_0
                    (try rw [show ((0 : Int)).toNat = 0 from rfl] at hw128_0)
                    (try rw [show 0 * 4 = 0 from rfl] at hw128_0)
                    (try rw [Addr.add_zero'] at hw128_0)
                    obtain rfl : ad116 = ad128 := (by injection e128)
                    have qi128 : (0 < l0.length) = True := eq_true (by omega)
                    (try rw [show ((0 : Int)).toNat = 0 from rfl] at hx128_0)
                    (try rw [show 0 * 4 = 0 from rfl] at hx128_0)
                    (try rw [Addr.add_zero'] at hx128_0)
                    (try rw [show ((0 : Int)).toNat = 0 from rfl] at hx128_1)
                    (try rw [show 0 * 4 = 0 from rfl] at hx128_1)
                    (try rw [Addr.add_zero'] at hx128_1)
                    (try rw [show ((0 : Int)).toNat = 0 from rfl] at hx128_2)
                    (try rw [show 0 * 4 = 0 from rfl] at hx128_2)
                    (try rw [Addr.add_zero'] at hx128_2)
                    (try rw [show ((0 : Int)).toNat = 0 from rfl] at hx128_3)
                    (try rw [show 0 * 4 = 0 from rfl] at hx128_3)
                    (try rw [Addr.add_zero'] at hx128_3)
                    replace hx128_0 := (HB.out.cell (World.block_lt_of_cell? w _ hx128_0)).trans hx128_0
                    replace hx128_1 := (HB.out.cell (World.block_lt_of_cell? w _ hx128_1)).trans hx128_1
                    replace hx128_2 := (HB.out.cell (World.block_lt_of_cell? w _ hx128_2)).trans hx128_2
                    replace hx128_3 := (HB.out.cell (World.block_lt_of_cell? w _ hx128_3)).trans hx128_3
                    have HR128_3 := Aside0.mk hi128_3
                    have HC128_3 := Aside0.mk hl128_3
                    clear hi128_3 hl128_3
                    replace p128 := eq_true p128
                    replace q128 := eq_true q128
                    have p129 : 0 ≤ ((ji34) : Int) := of_decide_eq_true (by first | (with_reducible assumption) | assumption)
                    have q129 : (ji34) < (((rd_T27 l0 0).f3).length : Int) := of_decide_eq_true (by first | (with_reducible assumption) | assumption)
                    obtain ⟨ad129, A129_0, c129_0, e129, hx129_0, hl129_0, hi129_0⟩ := at_L1 HR128_3.out (ji34) p129 q129
                    have hw129_0 := hx129_0
                    cases e129
                    replace hx129_0 := (HB.out.cell (World.block_lt_of_cell? w _ hx129_0)).trans hx129_0
                    have HR129_0 := Aside0.mk hi129_0
                    have HC129_0 := Aside0.mk hl129_0
                    clear hi129_0 hl129_0
                    replace p129 := eq_true p129
                    replace q129 := eq_true q129
                    have p130 : 0 ≤ (0 : Int) := (by omega)
                    have q130 : 0 < ((rd_L1 ((rd_T27 l0 0).f3) (ji34)).length : Int) := of_decide_eq_true (by first | (with_reducible assumption) | assumption)
                    obtain ⟨ad130, e130, hx130_0⟩ := Kd.at_int HR129_0.out 0 p130 q130
                    have hw130_0 := hx130_0
                    (try rw [show ((0 : Int)).toNat = 0 from rfl] at hw130_0)
                    (try rw [show 0 * 1 = 0 from rfl] at hw130_0)
                    (try rw [Addr.add_zero'] at hw130_0)
                    cases e130
                    have qi130 : (0 < (rd_L1 ((rd_T27 l0 0).f3) (ji34)).length) = True := eq_true (by omega)
                    (try rw [show ((0 : Int)).toNat = 0 from rfl] at hx130_0)
                    (try rw [Addr.add_zero'] at hx130_0)
                    replace hx130_0 := (HB.out.cell (World.block_lt_of_cell? w _ hx130_0)).trans hx130_0
                    replace p130 := eq_true p130
                    replace q130 := eq_true q130
                    have p131 : 0 ≤ (0 : Int) := (by omega)
                    have q131 : 0 < ((rd_L1 ((rd_T27 l0 0).f3) x3_2).length : Int) := of_decide_eq_true (by first | (with_reducible assumption) | assumption)
                    obtain ⟨ad131, e131, hx131_0⟩ := Kd.at_int HR118_0.out 0 p131 q131
                    have hw131_0 := hx131_0
                    (try rw [show ((0 : Int)).toNat = 0 from rfl] at hw131_0)
                    (try rw [show 0 * 1 = 0 from rfl] at hw131_0)
                    (try rw [Addr.add_zero'] at hw131_0)
                    obtain rfl : ad119 = ad131 := (by injection e131)
                    have qi131 : (0 < (rd_L1 ((rd_T27 l0 0).f3) x3_2).length) = True := eq_true (by omega)
                    (try rw [show ((0 : Int)).toNat = 0 from rfl] at hx131_0)
                    (try rw [Addr.add_zero'] at hx131_0)
                    replace hx131_0 := (HB.out.cell (World.block_lt_of_cell? w _ hx131_0)).trans hx131_0
                    replace p131 := eq_true p131
                    replace q131 := eq_true q131
                    refine start_ (n := 47) (S := fun w' => w'.cell? ad119 = some (.int .i64 (rd (rd_L1 ((rd_T27 l0 0).f3) x3_2) 0)) ∧ w'.cell? ⟨ad119.block, ad119.off + 1, none⟩ = some (.int .i64 (rd (rd_L1 ((rd_T27 l0 0).f3) x3_2) 1)) ∧ w'.cell? ad116 = some (.string ((rd_T27 l0 0).f0)) ∧ w'.cell? ⟨ad116.block, ad116.off + 1, none⟩ = some (.int .i64 ((rd_T27 l0 0).f1)) ∧ w'.cell? ⟨ad116.block, ad116.off + 2, none⟩ = some (.int .i64 ((rd_T27 l0 0).f2)) ∧ w'.cell? ⟨ad116.block, ad116.off + 3, none⟩ = some (.slice (some ad129) ((rd_T27 l0 0).f3).length c128_3) ∧ w'.cell? (ad129.add ((ji34)).toNat) = some (.slice (some ad130) (rd_L1 ((rd_T27 l0 0).f3) (ji34)).length c129_0) ∧ w'.cell? ad130 = some (.int .i64 (rd (rd_L1 ((rd_T27 l0 0).f3) (ji34)) 0)) ∧ w'.cell? ad119 = some (.int .i64 (rd (rd_L1 ((rd_T27 l0 0).f3) x3_2) 0))) (ds := []) (tf 0 47) (by kernel_rfl) rfl rfl ⟨((HB.out.cell (World.block_lt_of_cell? w _ hw119_0)).trans hw119_0), ((HB.out.cell (World.block_lt_of_cell? w _ hw121_0)).trans hw121_0), ((HB.out.cell (World.block_lt_of_cell? w _ hw128_0)).trans hw128_0), ((HB.out.cell (World.block_lt_of_cell? w _ hw128_1)).trans hw128_1), ((HB.out.cell (World.block_lt_of_cell? w _ hw128_2)).trans hw128_2), ((HB.out.cell (World.block_lt_of_cell? w _ hw128_3)).trans hw128_3), ((HB.out.cell (World.block_lt_of_cell? w _ hw129_0)).trans hw129_0), ((HB.out.cell (World.block_lt_of_cell? w _ hw130_0)).trans hw130_0), ((HB.out.cell (World.block_lt_of_cell? w _ hw131_0)).trans hw131_0)⟩ (fun hHeld => ?_); refine with_tabW spec_l21Ok.tab7 spec_l21Ok.bits7 (fun HT_ HW_ => ?_)
                    generalize wr.drew = w38 at HB HR128_3 HR129_0 hx119_0 hx121_0 hx128_0 hx128_1 hx128_2 hx128_3 hx129_0 hx130_0 hx131_0 hHeld ⊢
                    refine px 0 (some 52) (tf 1 47) HT_ ?_
                    refine px 1 (some 53) (tf 2 47) HT_ ?_
                    refine px 2 (some 54) (tf 3 47) HT_ ?_
                    refine px 3 (some 55) (tf 4 47) HT_ ?_
                    refine px 4 (some 56) (tf 5 47) HT_ ?_
                    refine px 5 (some 57) (tf 6 47) HT_ ?_
                    refine tx (v := ?_) 6 (some 58) (tf 7 47) HT_ HW_ hHeld ?_ ?_
                    rotate_left; (· rintro w' ⟨s0, s1, s2, s3, s4, s5, s6, s7, s8⟩; go_simp; with_reducible rfl)
                    refine one_ (i := 7) (N := some 59) (tf 8 47) rfl rfl (one_of HT_.out (by kernel_rfl)) (by decide) (fun K hK => ?_)
                    refine goes_ Tryd.func18 (by kernel_rfl) rfl #[.int .i64 (rd (rd_L1 ((rd_T27 l0 0).f3) x3_2) 0), .int .i64 0, .int .i64 1000000] (by rfl) rfl rfl (by (try simp only [List.map_toArray, List.map_cons, List.map_nil]); first | done | rfl | (simp only [List.length_drop, List.length_take]; rfl)) ?_
                    with_reducible refine (spec_l00In.calls (rd (rd_L1 ((rd_T27 l0 0).f3) x3_2) 0) 0 1000000 true _ A18.out).mono ?_
                    rintro e w' ⟨rfl, ⟨nd, rfl⟩⟩
                    refine ⟨_, rfl, ?_⟩
                    refine hK.out _ _ ⟨((HB.out.cell (World.block_lt_of_cell? w _ hw119_0)).trans hw119_0), ((HB.out.cell (World.block_lt_of_cell? w _ hw121_0)).trans hw121_0), ((HB.out.cell (World.block_lt_of_cell? w _ hw128_0)).trans hw128_0), ((HB.out.cell (World.block_lt_of_cell? w _ hw128_1)).trans hw128_1), ((HB.out.cell (World.block_lt_of_cell? w _ hw128_2)).trans hw128_2), ((HB.out.cell (World.block_lt_of_cell? w _ hw128_3)).trans hw128_3), ((HB.out.cell (World.block_lt_of_cell? w _ hw129_0)).trans hw129_0), ((HB.out.cell (World.block_lt_of_cell? w _ hw130_0)).trans hw130_0), ((HB.out.cell (World.block_lt_of_cell? w _ hw131_0)).trans hw131_0)⟩ (fun hHeld => ?_)
                    clear hK K
                    refine norm_ (a' := ?_) ?_ ?_
                    rotate_left
                    ·show Act.put _ (some 59) _ = _
                     simp only [Act.put, List.setIfInBounds_toArray, List.set_cons_zero, List.set_cons_succ, i64_w, i32_w]
                     rfl
                    refine px 8 (some 60) (tf 9 47) HT_ ?_
                    refine px 9 (some 61) (tf 10 47) HT_ ?_
                    refine px 10 (some 62) (tf 11 47) HT_ ?_
                    refine px 11 (some 63) (tf 12 47) HT_ ?_
                    refine px 12 (some 64) (tf 13 47) HT_ ?_
                    refine tx (v := ?_) 13 (some 65) (tf 14 47) HT_ HW_ hHeld ?_ ?_
                    rotate_left; (· rintro w' ⟨s0, s1, s2, s3, s4, s5, s6, s7, s8⟩; go_simp; with_reducible rfl)
                    refine one_ (i := 14) (N := some 66) (tf 15 47) rfl rfl (one_of HT_.out (by kernel_rfl)) (by decide) (fun K hK => ?_)
                    refine goes_ Tryd.func18 (by kernel_rfl) rfl #[.int .i64 (rd (rd_L1 ((rd_T27 l0 0).f3) x3_2) 1), .int .i64 0, .int .i64 10000] (by rfl) rfl rfl (by (try simp only [List.map_toArray, List.map_cons, List.map_nil]); first | done | rfl | (simp only [List.length_drop, List.length_take]; rfl)) ?_
                    with_reducible refine (spec_l00In.calls (rd (rd_L1 ((rd_T27 l0 0).f3) x3_2) 1) 0 10000 true _ A21.out).mono ?_
                    rintro e w' ⟨rfl, ⟨nd, rfl⟩⟩
                    refine ⟨_, rfl, ?_⟩
                    refine hK.out _ _ ⟨((HB.out.cell (World.block_lt_of_cell? w _ hw119_0)).trans hw119_0), ((HB.out.cell (World.block_lt_of_cell? w _ hw121_0)).trans hw121_0), ((HB.out.cell (World.block_lt_of_cell? w _ hw128_0)).trans hw128_0), ((HB.out.cell (World.block_lt_of_cell? w _ hw128_1)).trans hw128_1), ((HB.out.cell (World.block_lt_of_cell? w _ hw128_2)).trans hw128_2), ((HB.out.cell (World.block_lt_of_cell? w _ hw128_3)).trans hw128_3), ((HB.out.cell (World.block_lt_of_cell? w _ hw129_0)).trans hw129_0), ((HB.out.cell (World.block_lt_of_cell? w _ hw130_0)).trans hw130_0), ((HB.out.cell (World.block_lt_of_cell? w _ hw131_0)).trans hw131_0)⟩ (fun hHeld => ?_)
                    clear hK K
                    refine norm_ (a' := ?_) ?_ ?_
                    rotate_left
                    ·show Act.put _ (some 66) _ = _
                     simp only [Act.put, List.setIfInBounds_toArray, List.set_cons_zero, List.set_cons_succ, i64_w, i32_w]
                     rfl
                    refine px 15 (some 67) (tf 16 47) HT_ ?_
                    refine px 16 (some 68) (tf 17 47) HT_ ?_
                    refine px 17 (some 69) (tf 18 47) HT_ ?_
                    refine px 18 (some 70) (tf 19 47) HT_ ?_
                    refine px 19 (some 71) (tf 20 47) HT_ ?_
                    refine px 20 (some 72) (tf 21 47) HT_ ?_
                    refine sx 21 (some 73) (tf 22 47) HT_ ?_
                    refine sx 22 (some 74) (tf 23 47) HT_ ?_
                    refine sx 23 (some 75) (tf 24 47) HT_ ?_
                    refine sx 24 (some 76) (tf 25 47) HT_ ?_
                    refine px 25 (some 77) (tf 26 47) HT_ ?_
                    refine px 26 (some 78) (tf 27 47) HT_ ?_
                    refine px 27 (some 79) (tf 28 47) HT_ ?_
                    refine px 28 (some 80) (tf 29 47) HT_ ?_
                    refine px 29 (some 81) (tf 30 47) HT_ ?_
                    refine px 30 (some 82) (tf 31 47) HT_ ?_
                    refine px 31 (some 83) (tf 32 47) HT_ ?_
                    refine px 32 (some 84) (tf 33 47) HT_ ?_
                    refine px 33 (some 85) (tf 34 47) HT_ ?_
                    refine px 35 (some 87) (tb 47 51539607551) HT_ ?_
                    refine px 36 (some 88) (tb 47 120259084287) HT_ ?_
                    refine px 41 (some 93) (tb 47 2319282339839) HT_ ?_
                    refine px 42 (some 94) (tb 47 6717328850943) HT_ ?_
                    refine tx (v := ?_) 34 (some 86) (tb 47 6734508720127) HT_ HW_ hHeld ?_ ?_
                    rotate_left; (· rintro w' ⟨s0, s1, s2, s3, s4, s5, s6, s7, s8⟩; go_simp; with_reducible rfl)
                    refine px 37 (some 89) (tb 47 6871947673599) HT_ ?_
                    refine tx (v := ?_) 38 (some 90) (tb 47 7146825580543) HT_ HW_ hHeld ?_ ?_
                    rotate_left; (· rintro w' ⟨s0, s1, s2, s3, s4, s5, s6, s7, s8⟩; go_simp; with_reducible rfl)
                    refine px 39 (some 91) (tb 47 7696581394431) HT_ ?_
                    refine tx (v := ?_) 40 (some 92) (tf 43 47) HT_ HW_ hHeld ?_ ?_
                    rotate_left; (· rintro w' ⟨s0, s1, s2, s3, s4, s5, s6, s7, s8⟩; go_simp; with_reducible rfl)
                    refine tx (v := ?_) 43 (some 95) (tf 44 47) HT_ HW_ hHeld ?_ ?_
                    rotate_left; (· rintro w' ⟨s0, s1, s2, s3, s4, s5, s6, s7, s8⟩; go_simp; with_reducible rfl)
                    refine px 44 (some 96) (tf 45 47) HT_ ?_
                    refine px 45 (some 97) (tf 46 47) HT_ ?_
                    refine px 46 (some 98) (tf 47 47) HT_ ?_
                    refine done_ (done_of HT_.out (by kernel_rfl)) ?_
                    try go_wp2
                    go_meet
                    case rel => exact ⟨_, (decide ((rd (rd_L1 ((rd_T27 l0 0).f3) (ji34)) 0) ≥ (rd (rd_L1 ((rd_T27 l0 0).f3) x3_2) 0))), (by first | rfl | (simp; done) | (simp only [← hji34] <;> (first | rfl | simp)) | (simp [*]; done)), H', ⟨by have := HJ1.out; have := HK2.out; first | omega | exact Nat.le_refl _⟩, ⟨by repeat (first | (with_reducible first | exact HB.out | apply below_alloc | apply pw_below_drewN | apply below_drew1) | exact HB.out)⟩⟩
                   ·rw [if_neg c37] at H
                    exact absurd H (by simp)
                  ·rw [if_neg c36] at H
                   exact absurd H (by simp)
                 ·rw [if_neg c35] at H
                  exact absurd H (by simp)
                ·rw [if_neg c33] at H
                 have c33b0 : decide (0 < x3_2) = false := decide_eq_false c33
                 clear c33
                 have H' := Aside0.mk H
                 clear H
                 try go_wp2
                 have n0_ := Aside0.mk (below_drew1 HB.out)
                 clear HB
                 have HB := n0_
                 clear n0_
                 have p119 : 0 ≤ (0 : Int) := (by omega)
                 have q119 : 0 < ((rd_L1 ((rd_T27 l0 0).f3) x3_2).length : Int) := of_decide_eq_true (by first | (with_reducible assumption) | assumption)
                 obtain ⟨ad119, e119, hx119_0⟩ := Kd.at_int HR118_0.out 0 p119 q119
                 have hw119_0 := hx119_0
                 (try rw [show ((0 : Int)).toNat = 0 from rfl] at hw119_0)
                 (try rw [show 0 * 1 = 0 from rfl] at hw119_0)
                 (try rw [Addr.add_zero'] at hw119_0)
                 cases e119
                 have qi119 : (0 < (rd_L1 ((rd_T27 l0 0).f3) x3_2).length) = True := eq_true (by omega)
                 (try rw [show ((0 : Int)).toNat = 0 from rfl] at hx119_0)
                 (try rw [Addr.add_zero'] at hx119_0)
                 replace hx119_0 := (HB.out.cell (World.block_lt_of_cell? w _ hx119_0)).trans hx119_0
                 replace p119 := eq_true p119
                 replace q119 := eq_true q119
                 have p121 : 0 ≤ (1 : Int) := (by omega)
                 have q121 : 1 < ((rd_L1 ((rd_T27 l0 0).f3) x3_2).length : Int) := of_decide_eq_true (by first | (with_reducible assumption) | assumption)
                 obtain ⟨ad121, e121, hx121_0⟩ := Kd.at_int HR118_0.out 1 p121 q121
                 have hw121_0 := hx121_0
                 (try rw [show ((1 : Int)).toNat = 1 from rfl] at hw121_0)
                 (try rw [show 1 * 1 = 1 from rfl] at hw121_0)
                 (try simp only [Nat.reduceMul, Nat.reduceEqDiff, Go.Addr.add, ↓reduceIte] at hw121_0)
                 obtain rfl : ad119 = ad121 := (by injection e121)
                 (try simp only [show (1 : Int).toNat = 1 from rfl, Nat.reduceMul, Nat.reduceEqDiff, Go.Addr.add, ↓reduceIte] at hx121_0)
                 have qi121 : (1 < (rd_L1 ((rd_T27 l0 0).f3) x3_2).length) = True := eq_true (by omega)
                 (try rw [show ((1 : Int)).toNat = 1 from rfl] at hx121_0)
                 replace hx121_0 := (HB.out.cell (World.block_lt_of_cell? w _ hx121_0)).trans hx121_0
                 replace p121 := eq_true p121
                 replace q121 := eq_true q121
                 refine start_ (n := 47) (S := fun w' => w'.cell? ad119 = some (.int .i64 (rd (rd_L1 ((rd_T27 l0 0).f3) x3_2) 0)) ∧ w'.cell? ⟨ad119.block, ad119.off + 1, none⟩ = some (.int .i64 (rd (rd_L1 ((rd_T27 l0 0).f3) x3_2) 1))) (ds := []) (tf 0 47) (by kernel_rfl) rfl rfl ⟨((HB.out.cell (World.block_lt_of_cell? w _ hw119_0)).trans hw119_0), ((HB.out.cell (World.block_lt_of_cell? w _ hw121_0)).trans hw121_0)⟩ (fun hHeld => ?_); refine with_tabW spec_l21Ok.tab7 spec_l21Ok.bits7 (fun HT_ HW_ => ?_)
                 generalize wr.drew = w39 at HB hx119_0 hx121_0 hHeld ⊢
                 refine px 0 (some 52) (tf 1 47) HT_ ?_
                 refine px 1 (some 53) (tf 2 47) HT_ ?_
                 refine px 2 (some 54) (tf 3 47) HT_ ?_
                 refine px 3 (some 55) (tf 4 47) HT_ ?_
                 refine px 4 (some 56) (tf 5 47) HT_ ?_
                 refine px 5 (some 57) (tf 6 47) HT_ ?_
                 refine tx (v := ?_) 6 (some 58) (tf 7 47) HT_ HW_ hHeld ?_ ?_
                 rotate_left; (· rintro w' ⟨s0, s1⟩; go_simp; with_reducible rfl)
                 refine one_ (i := 7) (N := some 59) (tf 8 47) rfl rfl (one_of HT_.out (by kernel_rfl)) (by decide) (fun K hK => ?_)
                 refine goes_ Tryd.func18 (by kernel_rfl) rfl #[.int .i64 (rd (rd_L1 ((rd_T27 l0 0).f3) x3_2) 0), .int .i64 0, .int .i64 1000000] (by rfl) rfl rfl (by (try simp only [List.map_toArray, List.map_cons, List.map_nil]); first | done | rfl | (simp only [List.length_drop, List.length_take]; rfl)) ?_
                 with_reducible refine (spec_l00In.calls (rd (rd_L1 ((rd_T27 l0 0).f3) x3_2) 0) 0 1000000 true _ A18.out).mono ?_
                 rintro e w' ⟨rfl, ⟨nd, rfl⟩⟩
                 refine ⟨_, rfl, ?_⟩
                 refine hK.out _ _ ⟨((HB.out.cell (World.block_lt_of_cell? w _ hw119_0)).trans hw119_0), ((HB.out.cell (World.block_lt_of_cell? w _ hw121_0)).trans hw121_0)⟩ (fun hHeld => ?_)
                 clear hK K
                 refine norm_ (a' := ?_) ?_ ?_
                 rotate_left
                 ·show Act.put _ (some 59) _ = _
                  simp only [Act.put, List.setIfInBounds_toArray, List.set_cons_zero, List.set_cons_succ, i64_w, i32_w]
                  rfl
                 refine px 8 (some 60) (tf 9 47) HT_ ?_
                 refine px 9 (some 61) (tf 10 47) HT_ ?_
                 refine px 10 (some 62) (tf 11 47) HT_ ?_
                 refine px 11 (some 63) (tf 12 47) HT_ ?_
                 refine px 12 (some 64) (tf 13 47) HT_ ?_
                 refine tx (v := ?_) 13 (some 65) (tf 14 47) HT_ HW_ hHeld ?_ ?_
                 rotate_left; (· rintro w' ⟨s0, s1⟩; go_simp; with_reducible rfl)
                 refine one_ (i := 14) (N := some 66) (tf 15 47) rfl rfl (one_of HT_.out (by kernel_rfl)) (by decide) (fun K hK => ?_)
                 refine goes_ Tryd.func18 (by kernel_rfl) rfl #[.int .i64 (rd (rd_L1 ((rd_T27 l0 0).f3) x3_2) 1), .int .i64 0, .int .i64 10000] (by rfl) rfl rfl (by (try simp only [List.map_toArray, List.map_cons, List.map_nil]); first | done | rfl | (simp only [List.length_drop, List.length_take]; rfl)) ?_
                 with_reducible refine (spec_l00In.calls (rd (rd_L1 ((rd_T27 l0 0).f3) x3_2) 1) 0 10000 true _ A21.out).mono ?_
                 rintro e w' ⟨rfl, ⟨nd, rfl⟩⟩
                 refine ⟨_, rfl, ?_⟩
                 refine hK.out _ _ ⟨((HB.out.cell (World.block_lt_of_cell? w _ hw119_0)).trans hw119_0), ((HB.out.cell (World.block_lt_of_cell? w _ hw121_0)).trans hw121_0)⟩ (fun hHeld => ?_)
                 clear hK K
                 refine norm_ (a' := ?_) ?_ ?_
                 rotate_left
                 ·show Act.put _ (some 66) _ = _
                  simp only [Act.put, List.setIfInBounds_toArray, List.set_cons_zero, List.set_cons_succ, i64_w, i32_w]
                  rfl
                 refine px 15 (some 67) (tf 16 47) HT_ ?_
                 refine px 16 (some 68) (tf 17 47) HT_ ?_
                 refine px 17 (some 69) (tf 18 47) HT_ ?_
                 refine px 18 (some 70) (tf 19 47) HT_ ?_
                 refine px 19 (some 71) (tf 20 47) HT_ ?_
                 refine px 20 (some 72) (tf 21 47) HT_ ?_
                 refine sx 21 (some 73) (tf 22 47) HT_ ?_
                 refine sx 22 (some 74) (tf 23 47) HT_ ?_
                 refine sx 23 (some 75) (tf 24 47) HT_ ?_
                 refine sx 24 (some 76) (tf 25 47) HT_ ?_
                 refine px 25 (some 77) (tf 26 47) HT_ ?_
                 refine px 26 (some 78) (tf 27 47) HT_ ?_
                 refine px 27 (some 79) (tf 28 47) HT_ ?_
                 refine px 28 (some 80) (tf 29 47) HT_ ?_
                 refine px 29 (some 81) (tf 30 47) HT_ ?_
                 refine px 30 (some 82) (tf 31 47) HT_ ?_
                 refine sx 31 (some 83) (tf 32 47) HT_ ?_
                 refine sx 32 (some 84) (tf 33 47) HT_ ?_
                 refine sx 33 (some 85) (tf 34 47) HT_ ?_
                 refine sx 34 (some 86) (tf 35 47) HT_ ?_
                 refine sx 35 (some 87) (tf 36 47) HT_ ?_
                 refine sx 36 (some 88) (tf 37 47) HT_ ?_
                 refine sx 37 (some 89) (tf 38 47) HT_ ?_
                 refine sx 38 (some 90) (tf 39 47) HT_ ?_
                 refine sx 39 (some 91) (tf 40 47) HT_ ?_
                 refine sx 40 (some 92) (tf 41 47) HT_ ?_
                 refine sx 41 (some 93) (tf 42 47) HT_ ?_
                 refine sx 42 (some 94) (tf 43 47) HT_ ?_
                 refine sx 43 (some 95) (tf 44 47) HT_ ?_
                 refine sx 44 (some 96) (tf 45 47) HT_ ?_
                 refine px 45 (some 97) (tf 46 47) HT_ ?_
                 refine px 46 (some 98) (tf 47 47) HT_ ?_
                 refine done_ (done_of HT_.out (by kernel_rfl)) ?_
                 try go_wp2
                 go_meet
                 case rel => exact ⟨_, (false), (by first | rfl | (simp; done) | (simp [*]; done)), H', ⟨by have := HJ1.out; have := HK2.out; first | omega | exact Nat.le_refl _⟩, ⟨by repeat (first | (with_reducible first | exact HB.out | apply below_alloc | apply pw_below_drewN | apply below_drew1) | exact HB.out)⟩⟩
              ·replace c22 := Bool.eq_false_iff.mpr c22
               subst c22
               have H1 : (spec_l21Ok.j2 k2 l0 x3_2 true) = some r := by rw [if_neg (show ¬ (false = true) by decide)] at H; exact H
               clear H
               have H := H1
               clear H1
               have H' := Aside0.mk H
               clear H
               try go_wp2
               have n0_ := Aside0.mk (below_drew1 HB.out)
               clear HB
               have HB := n0_
               clear n0_
               have p119 : 0 ≤ (0 : Int) := (by omega)
               have q119 : 0 < ((rd_L1 ((rd_T27 l0 0).f3) x3_2).length : Int) := of_decide_eq_true (by first | (with_reducible assumption) | assumption)
               obtain ⟨ad119, e119, hx119_0⟩ := Kd.at_int HR118_0.out 0 p119 q119
               have hw119_0 := hx119_0
               (try rw [show ((0 : Int)).toNat = 0 from rfl] at hw119_0)
               (try rw [show 0 * 1 = 0 from rfl] at hw119_0)
               (try rw [Addr.add_zero'] at hw119_0)
               cases e119
               have qi119 : (0 < (rd_L1 ((rd_T27 l0 0).f3) x3_2).length) = True := eq_true (by omega)
               (try rw [show ((0 : Int)).toNat = 0 from rfl] at hx119_0)
               (try rw [Addr.add_zero'] at hx119_0)
               replace hx119_0 := (HB.out.cell (World.block_lt_of_cell? w _ hx119_0)).trans hx119_0
               replace p119 := eq_true p119
               replace q119 := eq_true q119
               have p121 : 0 ≤ (1 : Int) := (by omega)
               have q121 : 1 < ((rd_L1 ((rd_T27 l0 0).f3) x3_2).length : Int) := of_decide_eq_true (by first | (with_reducible assumption) | assumption)
               obtain ⟨ad121, e121, hx121_0⟩ := Kd.at_int HR118_0.out 1 p121 q121
               have hw121_0 := hx121_0
               (try rw [show ((1 : Int)).toNat = 1 from rfl] at hw121_0)
               (try rw [show 1 * 1 = 1 from rfl] at hw121_0)
               (try simp only [Nat.reduceMul, Nat.reduceEqDiff, Go.Addr.add, ↓reduceIte] at hw121_0)
               obtain rfl : ad119 = ad121 := (by injection e121)
               (try simp only [show (1 : Int).toNat = 1 from rfl, Nat.reduceMul, Nat.reduceEqDiff, Go.Addr.add, ↓reduceIte] at hx121_0)
               have qi121 : (1 < (rd_L1 ((rd_T27 l0 0).f3) x3_2).length) = True := eq_true (by omega)
               (try rw [show ((1 : Int)).toNat = 1 from rfl] at hx121_0)
               replace hx121_0 := (HB.out.cell (World.block_lt_of_cell? w _ hx121_0)).trans hx121_0
               replace p121 := eq_true p121
               replace q121 := eq_true q121
               refine start_ (n := 47) (S := fun w' => w'.cell? ad119 = some (.int .i64 (rd (rd_L1 ((rd_T27 l0 0).f3) x3_2) 0)) ∧ w'.cell? ⟨ad119.block, ad119.off + 1, none⟩ = some (.int .i64 (rd (rd_L1 ((rd_T27 l0 0).f3) x3_2) 1))) (ds := []) (tf 0 47) (by kernel_rfl) rfl rfl ⟨((HB.out.cell (World.block_lt_of_cell? w _ hw119_0)).trans hw119_0), ((HB.out.cell (World.block_lt_of_cell? w _ hw121_0)).trans hw121_0)⟩ (fun hHeld => ?_); refine with_tabW spec_l21Ok.tab7 spec_l21Ok.bits7 (fun HT_ HW_ => ?_)
               generalize wr.drew = w40 at HB hx119_0 hx121_0 hHeld ⊢
               refine px 0 (some 52) (tf 1 47) HT_ ?_
               refine px 1 (some 53) (tf 2 47) HT_ ?_
               refine px 2 (some 54) (tf 3 47) HT_ ?_
               refine px 3 (some 55) (tf 4 47) HT_ ?_
               refine px 4 (some 56) (tf 5 47) HT_ ?_
               refine px 5 (some 57) (tf 6 47) HT_ ?_
               refine tx (v := ?_) 6 (some 58) (tf 7 47) HT_ HW_ hHeld ?_ ?_
               rotate_left; (· rintro w' ⟨s0, s1⟩; go_simp; with_reducible rfl)
               refine one_ (i := 7) (N := some 59) (tf 8 47) rfl rfl (one_of HT_.out (by kernel_rfl)) (by decide) (fun K hK => ?_)
               refine goes_ Tryd.func18 (by kernel_rfl) rfl #[.int .i64 (rd (rd_L1 ((rd_T27 l0 0).f3) x3_2) 0), .int .i64 0, .int .i64 1000000] (by rfl) rfl rfl (by (try simp only [List.map_toArray, List.map_cons, List.map_nil]); first | done | rfl | (simp only [List.length_drop, List.length_take]; rfl)) ?_
               with_reducible refine (spec_l00In.calls (rd (rd_L1 ((rd_T27 l0 0).f3) x3_2) 0) 0 1000000 true _ A18.out).mono ?_
               rintro e w' ⟨rfl, ⟨nd, rfl⟩⟩
               refine ⟨_, rfl, ?_⟩
               refine hK.out _ _ ⟨((HB.out.cell (World.block_lt_of_cell? w _ hw119_0)).trans hw119_0), ((HB.out.cell (World.block_lt_of_cell? w _ hw121_0)).trans hw121_0)⟩ (fun hHeld => ?_)
               clear hK K
               refine norm_ (a' := ?_) ?_ ?_
               rotate_left
               ·show Act.put _ (some 59) _ = _
                simp only [Act.put, List.setIfInBounds_toArray, List.set_cons_zero, List.set_cons_succ, i64_w, i32_w]
                rfl
               refine px 8 (some 60) (tf 9 47) HT_ ?_
               refine px 9 (some 61) (tf 10 47) HT_ ?_
               refine px 10 (some 62) (tf 11 47) HT_ ?_
               refine px 11 (some 63) (tf 12 47) HT_ ?_
               refine px 12 (some 64) (tf 13 47) HT_ ?_
               refine tx (v := ?_) 13 (some 65) (tf 14 47) HT_ HW_ hHeld ?_ ?_
               rotate_left; (· rintro w' ⟨s0, s1⟩; go_simp; with_reducible rfl)
               refine one_ (i := 14) (N := some 66) (tf 15 47) rfl rfl (one_of HT_.out (by kernel_rfl)) (by decide) (fun K hK => ?_)
               refine goes_ Tryd.func18 (by kernel_rfl) rfl #[.int .i64 (rd (rd_L1 ((rd_T27 l0 0).f3) x3_2) 1), .int .i64 0, .int .i64 10000] (by rfl) rfl rfl (by (try simp only [List.map_toArray, List.map_cons, List.map_nil]); first | done | rfl | (simp only [List.length_drop, List.length_take]; rfl)) ?_
               with_reducible refine (spec_l00In.calls (rd (rd_L1 ((rd_T27 l0 0).f3) x3_2) 1) 0 10000 false _ A21.out).mono ?_
               rintro e w' ⟨rfl, ⟨nd, rfl⟩⟩
               refine ⟨_, rfl, ?_⟩
               refine hK.out _ _ ⟨((HB.out.cell (World.block_lt_of_cell? w _ hw119_0)).trans hw119_0), ((HB.out.cell (World.block_lt_of_cell? w _ hw121_0)).trans hw121_0)⟩ (fun hHeld => ?_)
               clear hK K
               refine norm_ (a' := ?_) ?_ ?_
               rotate_left
               ·show Act.put _ (some 66) _ = _
                simp only [Act.put, List.setIfInBounds_toArray, List.set_cons_zero, List.set_cons_succ, i64_w, i32_w]
                rfl
               refine px 15 (some 67) (tf 16 47) HT_ ?_
               refine px 16 (some 68) (tf 17 47) HT_ ?_
               refine px 17 (some 69) (tf 18 47) HT_ ?_
               refine sx 18 (some 70) (tf 19 47) HT_ ?_
               refine sx 19 (some 71) (tf 20 47) HT_ ?_
               refine sx 20 (some 72) (tf 21 47) HT_ ?_
               refine sx 21 (some 73) (tf 22 47) HT_ ?_
               refine sx 22 (some 74) (tf 23 47) HT_ ?_
               refine sx 23 (some 75) (tf 24 47) HT_ ?_
               refine sx 24 (some 76) (tf 25 47) HT_ ?_
               refine sx 25 (some 77) (tf 26 47) HT_ ?_
               refine px 26 (some 78) (tf 27 47) HT_ ?_
               refine px 27 (some 79) (tf 28 47) HT_ ?_
               refine sx 28 (some 80) (tf 29 47) HT_ ?_
               refine sx 29 (some 81) (tf 30 47) HT_ ?_
               refine sx 30 (some 82) (tf 31 47) HT_ ?_
               refine sx 31 (some 83) (tf 32 47) HT_ ?_
               refine sx 32 (some 84) (tf 33 47) HT_ ?_
               refine sx 33 (some 85) (tf 34 47) HT_ ?_
               refine sx 34 (some 86) (tf 35 47) HT_ ?_
               refine sx 35 (some 87) (tf 36 47) HT_ ?_
               refine sx 36 (some 88) (tf 37 47) HT_ ?_
               refine sx 37 (some 89) (tf 38 47) HT_ ?_
               refine sx 38 (some 90) (tf 39 47) HT_ ?_
               refine sx 39 (some 91) (tf 40 47) HT_ ?_
               refine sx 40 (some 92) (tf 41 47) HT_ ?_
               refine sx 41 (some 93) (tf 42 47) HT_ ?_
               refine sx 42 (some 94) (tf 43 47) HT_ ?_
               refine sx 43 (some 95) (tf 44 47) HT_ ?_
               refine sx 44 (some 96) (tf 45 47) HT_ ?_
               refine sx 45 (some 97) (tf 46 47) HT_ ?_
               refine px 46 (some 98) (tf 47 47) HT_ ?_
               refine done_ (done_of HT_.out (by kernel_rfl)) ?_
               try go_wp2
               go_meet
               case rel => exact ⟨_, (true), (by first | rfl | (simp; done) | (simp [*]; done)), H', ⟨by have := HJ1.out; have := HK2.out; first | omega | exact Nat.le_refl _⟩, ⟨by repeat (first | (with_reducible first | exact HB.out | apply below_alloc | apply pw_below_drewN | apply below_drew1) | exact HB.out)⟩⟩
             ·rw [if_neg c20] at H
              exact absurd H (by simp)
            ·replace c19 := Bool.eq_false_iff.mpr c19
             subst c19
             have H1 : (spec_l21Ok.j2 k2 l0 x3_2 true) = some r := by rw [if_neg (show ¬ (false = true) by decide)] at H; exact H
             clear H
             have H := H1
             clear H1
             have H' := Aside0.mk H
             clear H
             try go_wp2
             have n0_ := Aside0.mk (below_drew1 HB.out)
             clear HB
             have HB := n0_
             clear n0_
             have p119 : 0 ≤ (0 : Int) := (by omega)
             have q119 : 0 < ((rd_L1 ((rd_T27 l0 0).f3) x3_2).length : Int) := of_decide_eq_true (by first | (with_reducible assumption) | assumption)
             obtain ⟨ad119, e119, hx119_0⟩ := Kd.at_int HR118_0.out 0 p119 q119
             have hw119_0 := hx119_0
             (try rw [show ((0 : Int)).toNat = 0 from rfl] at hw119_0)
             (try rw [show 0 * 1 = 0 from rfl] at hw119_0)
             (try rw [Addr.add_zero'] at hw119_0)
             cases e119
             have qi119 : (0 < (rd_L1 ((rd_T27 l0 0).f3) x3_2).length) = True := eq_true (by omega)
             (try rw [show ((0 : Int)).toNat = 0 from rfl] at hx119_0)
             (try rw [Addr.add_zero'] at hx119_0)
             replace hx119_0 := (HB.out.cell (World.block_lt_of_cell? w _ hx119_0)).trans hx119_0
             replace p119 := eq_true p119
             replace q119 := eq_true q119
             refine start_ (n := 47) (S := fun w' => w'.cell? ad119 = some (.int .i64 (rd (rd_L1 ((rd_T27 l0 0).f3) x3_2) 0))) (ds := []) (tf 0 47) (by kernel_rfl) rfl rfl (((HB.out.cell (World.block_lt_of_cell? w _ hw119_0)).trans hw119_0)) (fun hHeld => ?_); refine with_tabW spec_l21Ok.tab7 spec_l21Ok.bits7 (fun HT_ HW_ => ?_)
             generalize wr.drew = w41 at HB hx119_0 hHeld ⊢
             refine px 0 (some 52) (tf 1 47) HT_ ?_
             refine px 1 (some 53) (tf 2 47) HT_ ?_
             refine px 2 (some 54) (tf 3 47) HT_ ?_
             refine px 3 (some 55) (tf 4 47) HT_ ?_
             refine px 4 (some 56) (tf 5 47) HT_ ?_
             refine px 5 (some 57) (tf 6 47) HT_ ?_
             refine take_ (i := 6) (N := some 58) (v := ?_) (a' := ?_) (tf 7 47) rfl rfl (take_ofW HT_.out HW_.out (by kernel_rfl)) (fun _ _ _ h => h) (Or.inl ⟨by rfl, ?_⟩) hHeld ?_ ?_
             rotate_left
             ·intro w' s0
              go_simp
              with_reducible rfl
             rotate_left; (· simp only [Act.put, List.setIfInBounds_toArray, List.set_cons_zero, List.set_cons_succ, i64_w, i32_w]; rfl)
             refine one_ (i := 7) (N := some 59) (tf 8 47) rfl rfl (one_of HT_.out (by kernel_rfl)) (by decide) (fun K hK => ?_)
             refine goes_ Tryd.func18 (by kernel_rfl) rfl #[.int .i64 (rd (rd_L1 ((rd_T27 l0 0).f3) x3_2) 0), .int .i64 0, .int .i64 1000000] (by rfl) rfl rfl (by (try simp only [List.map_toArray, List.map_cons, List.map_nil]); first | done | rfl | (simp only [List.length_drop, List.length_take]; rfl)) ?_
             with_reducible refine (spec_l00In.calls (rd (rd_L1 ((rd_T27 l0 0).f3) x3_2) 0) 0 1000000 false _ A18.out).mono ?_
             rintro e w' ⟨rfl, ⟨nd, rfl⟩⟩
             refine ⟨_, rfl, ?_⟩
             refine hK.out _ _ (((HB.out.cell (World.block_lt_of_cell? w _ hw119_0)).trans hw119_0)) (fun hHeld => ?_)
             clear hK K
             refine norm_ (a' := ?_) ?_ ?_
             rotate_left
             ·show Act.put _ (some 59) _ = _
              simp only [Act.put, List.setIfInBounds_toArray, List.set_cons_zero, List.set_cons_succ, i64_w, i32_w]
              rfl
             refine px 8 (some 60) (tf 9 47) HT_ ?_
             refine px 9 (some 61) (tf 10 47) HT_ ?_
             refine px 10 (some 62) (tf 11 47) HT_ ?_
             refine sx 11 (some 63) (tf 12 47) HT_ ?_
             refine sx 12 (some 64) (tf 13 47) HT_ ?_
             refine sx 13 (some 65) (tf 14 47) HT_ ?_
             refine sx 14 (some 66) (tf 15 47) HT_ ?_
             refine sx 15 (some 67) (tf 16 47) HT_ ?_
             refine px 16 (some 68) (tf 17 47) HT_ ?_
             refine px 17 (some 69) (tf 18 47) HT_ ?_
             refine sx 18 (some 70) (tf 19 47) HT_ ?_
             refine sx 19 (some 71) (tf 20 47) HT_ ?_
             refine sx 20 (some 72) (tf 21 47) HT_ ?_
             refine sx 21 (some 73) (tf 22 47) HT_ ?_
             refine sx 22 (some 74) (tf 23 47) HT_ ?_
             refine sx 23 (some 75) (tf 24 47) HT_ ?_
             refine sx 24 (some 76) (tf 25 47) HT_ ?_
             refine sx 25 (some 77) (tf 26 47) HT_ ?_
             refine px 26 (some 78) (tf 27 47) HT_ ?_
             refine px 27 (some 79) (tf 28 47) HT_ ?_
             refine sx 28 (some 80) (tf 29 47) HT_ ?_
             refine sx 29 (some 81) (tf 30 47) HT_ ?_
             refine sx 30 (some 82) (tf 31 47) HT_ ?_
             refine sx 31 (some 83) (tf 32 47) HT_ ?_
             refine sx 32 (some 84) (tf 33 47) HT_ ?_
             refine sx 33 (some 85) (tf 34 47) HT_ ?_
             refine sx 34 (some 86) (tf 35 47) HT_ ?_
             refine sx 35 (some 87) (tf 36 47) HT_ ?_
             refine sx 36 (some 88) (tf 37 47) HT_ ?_
             refine sx 37 (some 89) (tf 38 47) HT_ ?_
             refine sx 38 (some 90) (tf 39 47) HT_ ?_
             refine sx 39 (some 91) (tf 40 47) HT_ ?_
             refine sx 40 (some 92) (tf 41 47) HT_ ?_
             refine sx 41 (some 93) (tf 42 47) HT_ ?_
             refine sx 42 (some 94) (tf 43 47) HT_ ?_
             refine sx 43 (some 95) (tf 44 47) HT_ ?_
             refine sx 44 (some 96) (tf 45 47) HT_ ?_
             refine sx 45 (some 97) (tf 46 47) HT_ ?_
             refine px 46 (some 98) (tf 47 47) HT_ ?_
             refine done_ (done_of HT_.out (by kernel_rfl)) ?_
             try go_wp2
             go_meet
             case rel => exact ⟨_, (true), (by first | rfl | (simp; done) | (simp [*]; done)), H', ⟨by have := HJ1.out; have := HK2.out; first | omega | exact Nat.le_refl _⟩, ⟨by repeat (first | (with_reducible first | exact HB.out | apply below_alloc | apply pw_below_drewN | apply below_drew1) | exact HB.out)⟩⟩
           ·rw [if_neg c17] at H
            exact absurd H (by simp)
          ·rw [if_neg c16] at H
           have c16b0 : (((rd_L1 ((rd_T27 l0 0).f3) x3_2).length : Int) == 2) = false := beq_eq_false_iff_ne.mpr c16
           have c16b1 : (((rd_L1 ((rd_T27 l0 0).f3) x3_2).length : Int) != 2) = true := bne_iff_ne.mpr c16
           (first | rw [c16b0] | (simp only [i64_w, i32_w]; rw [c16b0]) | skip)
           have H' := Aside0.mk H
           clear H
           try go_wp2
           have n0_ := Aside0.mk (below_drew1 HB.out)
           clear HB
           have HB := n0_
           clear n0_
           refine start_ (n := 47) (S := fun w' => True) (ds := []) (tf 0 47) (by kernel_rfl) rfl rfl trivial (fun hHeld => ?_); refine with_tabW spec_l21Ok.tab7 spec_l21Ok.bits7 (fun HT_ HW_ => ?_)
           generalize wr.drew = w42 at HB hHeld ⊢
           refine px 0 (some 52) (tf 1 47) HT_ ?_
           refine px 1 (some 53) (tf 2 47) HT_ ?_
           refine px 2 (some 54) (tf 3 47) HT_ ?_
           refine px 3 (some 55) (tf 4 47) HT_ ?_
           refine sx 4 (some 56) (tf 5 47) HT_ ?_
           refine sx 5 (some 57) (tf 6 47) HT_ ?_
           refine sx 6 (some 58) (tf 7 47) HT_ ?_
           refine sx 7 (some 59) (tf 8 47) HT_ ?_
           refine sx 8 (some 60) (tf 9 47) HT_ ?_
           refine px 9 (some 61) (tf 10 47) HT_ ?_
           refine px 10 (some 62) (tf 11 47) HT_ ?_
           refine sx 11 (some 63) (tf 12 47) HT_ ?_
           refine sx 12 (some 64) (tf 13 47) HT_ ?_
           refine sx 13 (some 65) (tf 14 47) HT_ ?_
           refine sx 14 (some 66) (tf 15 47) HT_ ?_
           refine sx 15 (some 67) (tf 16 47) HT_ ?_
           refine px 16 (some 68) (tf 17 47) HT_ ?_
           refine px 17 (some 69) (tf 18 47) HT_ ?_
           refine sx 18 (some 70) (tf 19 47) HT_ ?_
           refine sx 19 (some 71) (tf 20 47) HT_ ?_
           refine sx 20 (some 72) (tf 21 47) HT_ ?_
           refine sx 21 (some 73) (tf 22 47) HT_ ?_
           refine sx 22 (some 74) (tf 23 47) HT_ ?_
           refine sx 23 (some 75) (tf 24 47) HT_ ?_
           refine sx 24 (some 76) (tf 25 47) HT_ ?_
           refine sx 25 (some 77) (tf 26 47) HT_ ?_
           refine px 26 (some 78) (tf 27 47) HT_ ?_
           refine px 27 (some 79) (tf 28 47) HT_ ?_
           refine sx 28 (some 80) (tf 29 47) HT_ ?_
           refine sx 29 (some 81) (tf 30 47) HT_ ?_
           refine sx 30 (some 82) (tf 31 47) HT_ ?_
           refine sx 31 (some 83) (tf 32 47) HT_ ?_
           refine sx 32 (some 84) (tf 33 47) HT_ ?_
           refine sx 33 (some 85) (tf 34 47) HT_ ?_
           refine sx 34 (some 86) (tf 35 47) HT_ ?_
           refine sx 35 (some 87) (tf 36 47) HT_ ?_
           refine sx 36 (some 88) (tf 37 47) HT_ ?_
           refine sx 37 (some 89) (tf 38 47) HT_ ?_
           refine sx 38 (some 90) (tf 39 47) HT_ ?_
           refine sx 39 (some 91) (tf 40 47) HT_ ?_
           refine sx 40 (some 92) (tf 41 47) HT_ ?_
           refine sx 41 (some 93) (tf 42 47) HT_ ?_
           refine sx 42 (some 94) (tf 43 47) HT_ ?_
           refine sx 43 (some 95) (tf 44 47) HT_ ?_
           refine sx 44 (some 96) (tf 45 47) HT_ ?_
           refine sx 45 (some 97) (tf 46 47) HT_ ?_
           refine px 46 (some 98) (tf 47 47) HT_ ?_
           refine done_ (done_of HT_.out (by kernel_rfl)) ?_
           try go_wp2
           go_meet
           case rel => exact ⟨_, (true), (by first | rfl | (simp; done) | (simp [*]; done)), H', ⟨by have := HJ1.out; have := HK2.out; first | omega | exact Nat.le_refl _⟩, ⟨by repeat (first | (with_reducible first | exact HB.out | apply below_alloc | apply pw_below_drewN | apply below_drew1) | exact HB.out)⟩⟩
         case rest =>
          clear HC15
          try clear c1
          try clear p1
          try clear q1
          try clear hx1
          try clear qi1
          try clear c2
          try clear p2
          try clear p11
          try clear q11
          try clear hx11
          try clear qi11
          try clear c16
          try clear c16b0
          try clear c16b1
          try clear c17
          try clear c18
          try clear c19
          try clear c20
          try clear hx119_0
          try clear p119
          try clear q119
          obtain ⟨kq, x98_14, rfl, HA, HJ14, HB⟩ := hcut
          cases kq with
          | zero => exact absurd HA.out (by simp [spec_l21Ok.j2])
          | succ kj14 =>
           have H := HA.out
           clear HA
           simp only [spec_l21Ok.j2] at H
           by_cases c43 : x98_14 = true
           ·subst c43
            have H1 : (some false) = some r := by rw [if_pos rfl] at H; exact H
            clear H
            have H := H1
            clear H1
            obtain rfl := Option.some.inj H
            go_wp2
            go_ret
            exact ⟨by first | rfl | (rw [Int.tdiv_eq_ediv_of_nonneg (by omega)]; rfl) | (simp [errW_none, errW_some] <;> rfl) | (simp [*, errW_none, errW_some] <;> rfl), by repeat (first | (with_reducible first | exact HB.out | apply below_alloc | apply pw_below_drewN | apply below_drew1) | exact HB.out)⟩
           ·replace c43 := Bool.eq_false_iff.mpr c43
            subst c43
            have H1 : (spec_l21Ok.l0 kj14 l0 (wrap64 (x3_2 + 1))) = some r := by rw [if_neg (show ¬ (false = true) by decide)] at H; exact H
            clear H
            have H := H1
            clear H1
            have H' := Aside0.mk H
            clear H
            go_wp2
            go_roundg kj14
            case measure => have := HJ1.out; have := HK2.out; have := HJ14.out; omega
            case rel => exact ⟨(wrap64 (x3_2 + 1)), (by first | rfl | (simp; done) | (simp [*]; done)), H', ⟨by have := HJ1.out; have := HK2.out; have := HJ14.out; omega⟩, ⟨by repeat (first | (with_reducible first | exact HB.out | apply below_alloc | apply pw_below_drewN | apply below_drew1) | exact HB.out)⟩⟩
        ·rw [if_neg c14] at H
         exact absurd H (by simp)
       ·rw [if_neg c13] at H
        have c13b0 : decide (x3_2 < (((rd_T27 l0 0).f3).length : Int)) = false := decide_eq_false c13
        clear c13
        obtain rfl := Option.some.inj H
        have p116 : 0 ≤ (0 : Int) := (by omega)
        have q116 : 0 < (l0.length : Int) := of_decide_eq_true (by first | (with_reducible assumption) | assumption)
        obtain ⟨ad116, A116_3, c116_3, e116, hx116_0, hx116_1, hx116_2, hx116_3, hl116_3, hi116_3⟩ := at_T27 HR0.out 0 p116 q116
        cases e116
        have qi116 : (0 < l0.length) = True := eq_true (by omega)
        (try rw [show ((0 : Int)).toNat = 0 from rfl] at hx116_0)
        (try rw [show 0 * 4 = 0 from rfl] at hx116_0)
        (try rw [Addr.add_zero'] at hx116_0)
        (try rw [show ((0 : Int)).toNat = 0 from rfl] at hx116_1)
        (try rw [show 0 * 4 = 0 from rfl] at hx116_1)
        (try rw [Addr.add_zero'] at hx116_1)
        (try rw [show ((0 : Int)).toNat = 0 from rfl] at hx116_2)
        (try rw [show 0 * 4 = 0 from rfl] at hx116_2)
        (try rw [Addr.add_zero'] at hx116_2)
        (try rw [show ((0 : Int)).toNat = 0 from rfl] at hx116_3)
        (try rw [show 0 * 4 = 0 from rfl] at hx116_3)
        (try rw [Addr.add_zero'] at hx116_3)
        replace hx116_0 := (HB.out.cell (World.block_lt_of_cell? w _ hx116_0)).trans hx116_0
        replace hx116_1 := (HB.out.cell (World.block_lt_of_cell? w _ hx116_1)).trans hx116_1
        replace hx116_2 := (HB.out.cell (World.block_lt_of_cell? w _ hx116_2)).trans hx116_2
        replace hx116_3 := (HB.out.cell (World.block_lt_of_cell? w _ hx116_3)).trans hx116_3
        have HR116_3 := Aside0.mk hi116_3
        have HC116_3 := Aside0.mk hl116_3
        clear hi116_3 hl116_3
        replace p116 := eq_true p116
        replace q116 := eq_true q116
        go_wp2
        go_ret
        exact ⟨by first | rfl | (rw [Int.tdiv_eq_ediv_of_nonneg (by omega)]; rfl) | (simp [errW_none, errW_some] <;> rfl) | (simp [*, errW_none, errW_some] <;> rfl), by repeat (first | (with_reducible first | exact HB.out | apply below_alloc | apply pw_below_drewN | apply below_drew1) | exact HB.out)⟩
      ·rw [if_neg c12] at H
       exact absurd H (by simp)

end Go.Proofs.YtdiboljniaolfaaDoor.PFnExactTariffText
