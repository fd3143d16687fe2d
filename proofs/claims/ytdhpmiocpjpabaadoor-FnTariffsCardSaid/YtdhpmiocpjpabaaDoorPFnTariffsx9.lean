-- written by wip/xprint.py, a program of this session, for this claim; not trusted: Lean checks it.
import Derived.Test.YtdhpmiocpjpabaaDoorPFnTariffsx0
import Derived.Test.YtdhpmiocpjpabaaDoorPFnTariffsx7
import Derived.Test.YtdhpmiocpjpabaaDoorPFnTariffsx8
namespace Go.Proofs.YtdhpmiocpjpabaaDoor.PFnTariffs
open Go.RowKit Go.Proofs.YtdhpmiocpjpabaaDoorW.PrintWords Go.Proofs.YtdhpmiocpjpabaaDoorW.PrintLast Go.Proofs.YtdhpmiocpjpabaaDoorW.PrintMore
attribute [local go_sem] leq_less_ max2_int min2_int max_two min_two max_three min_three max_four min_four   -- for this text's walks alone
set_option linter.unusedVariables false
set_option linter.unusedSimpArgs false

/-! ### spec_l21Ok: function 45 -/
mutual
def spec_l21Ok.j0 : Nat → List (S26) → Bool → Option (Bool)
 | 0, _, _ => none
 | k + 1, x0, x35 => if x35 = true then (some false) else (spec_l21Ok.l0 k x0 0)
def spec_l21Ok.l0 : Nat → List (S26) → Int → Option (Bool)
 | 0, _, _ => none
 | k + 1, x0, x3 => if 0 < (x0.length : Int) then (if x3 < (((rd_T26 x0 0).f3).length : Int) then (if 0 ≤ x3 then (if ((rd_L3 ((rd_T26 x0 0).f3) x3).length : Int) = 2 then (if 0 < ((rd_L3 ((rd_T26 x0 0).f3) x3).length : Int) then ((spec_l00In.f (rd (rd_L3 ((rd_T26 x0 0).f3) x3) 0) 0 1000000).bind fun t295 => (if t295 = true then (if 1 < ((rd_L3 ((rd_T26 x0 0).f3) x3).length : Int) then ((spec_l00In.f (rd (rd_L3 ((rd_T26 x0 0).f3) x3) 1) 0 10000).bind fun t297 => (if t297 = true then (if x3 = 0 then (if (rd (rd_L3 ((rd_T26 x0 0).f3) x3) 0) = 0 then (if x3 > 0 then (if 0 ≤ (wrap64 (x3 - 1)) then (if (wrap64 (x3 - 1)) < (((rd_T26 x0 0).f3).length : Int) then (if 0 < ((rd_L3 ((rd_T26 x0 0).f3) (wrap64 (x3 - 1))).length : Int) then (spec_l21Ok.j2 k x0 x3 (decide ((rd (rd_L3 ((rd_T26 x0 0).f3) (wrap64 (x3 - 1))) 0) ≥ (rd (rd_L3 ((rd_T26 x0 0).f3) x3) 0)))) else (none)) else (none)) else (none)) else (spec_l21Ok.j2 k x0 x3 false)) else (spec_l21Ok.j2 k x0 x3 true)) else (if x3 > 0 then (if 0 ≤ (wrap64 (x3 - 1)) then (if (wrap64 (x3 - 1)) < (((rd_T26 x0 0).f3).length : Int) then (if 0 < ((rd_L3 ((rd_T26 x0 0).f3) (wrap64 (x3 - 1))).length : Int) then (spec_l21Ok.j2 k x0 x3 (decide ((rd (rd_L3 ((rd_T26 x0 0).f3) (wrap64 (x3 - 1))) 0) ≥ (rd (rd_L3 ((rd_T26 x0 0).f3) x3) 0)))) else (none)) else (none)) else (none)) else (spec_l21Ok.j2 k x0 x3 false))) else (spec_l21Ok.j2 k x0 x3 true))) else (none)) else (spec_l21Ok.j2 k x0 x3 true))) else (none)) else (spec_l21Ok.j2 k x0 x3 true)) else (none)) else (some true)) else (none)
def spec_l21Ok.j2 : Nat → List (S26) → Int → Bool → Option (Bool)
 | 0, _, _, _ => none
 | k + 1, x0, x3, x98 => if x98 = true then (some false) else (spec_l21Ok.l0 k x0 (wrap64 (x3 + 1)))
end
def spec_l21Ok.f (k : Nat) (l0 : List (S26)) : Option (Bool) := if 0 < (l0.length : Int) then ((spec_l01Name.f k ((rd_T26 l0 0).f0)).bind fun t284 => (if t284 = true then ((spec_l00In.f ((rd_T26 l0 0).f1) 0 1000000).bind fun t286 => (if t286 = true then ((spec_l00In.f ((rd_T26 l0 0).f2) 0 10000).bind fun t288 => (if t288 = true then ((spec_l00In.f (((rd_T26 l0 0).f3).length : Int) 1 6).bind fun t290 => (spec_l21Ok.j0 k l0 (!t290))) else (spec_l21Ok.j0 k l0 true))) else (spec_l21Ok.j0 k l0 true))) else (spec_l21Ok.j0 k l0 true))) else (none)
theorem spec_l21Ok.mono_l : ∀ k, (∀ y0 y1, LeO (spec_l21Ok.j0 k y0 y1) (spec_l21Ok.j0 (k + 1) y0 y1)) ∧ (∀ y0 y1, LeO (spec_l21Ok.l0 k y0 y1) (spec_l21Ok.l0 (k + 1) y0 y1)) ∧ (∀ y0 y1 y2, LeO (spec_l21Ok.j2 k y0 y1 y2) (spec_l21Ok.j2 (k + 1) y0 y1 y2))
 | 0 => ⟨fun _ _ r h => by simp [spec_l21Ok.j0] at h, fun _ _ r h => by simp [spec_l21Ok.l0] at h, fun _ _ _ r h => by simp [spec_l21Ok.j2] at h⟩
 | k + 1 => by
  obtain ⟨ih0, ih1, ih2⟩ := spec_l21Ok.mono_l k
  refine ⟨?_, ?_, ?_⟩
  ·intro y0 y1
   unfold spec_l21Ok.j0
   repeat' first
   | (with_reducible exact ih0 _ _)
   | (with_reducible exact ih1 _ _)
   | (with_reducible exact ih2 _ _ _)
   | (with_reducible exact spec_l01Name.mono _ _)
   | (with_reducible exact LeO.refl _)
   | (with_reducible exact LeO.none _)
   | (with_reducible refine LeO.ite ?_ ?_)
   | (with_reducible refine LeO.bind ?_ (fun _ => ?_))
   | exact ih0 _ _
   | exact ih1 _ _
   | exact ih2 _ _ _
   | exact spec_l01Name.mono _ _
   | exact LeO.none _
   | refine LeO.ite ?_ ?_
   | refine LeO.bind ?_ (fun _ => ?_)
  ·intro y0 y1
   unfold spec_l21Ok.l0
   repeat' first
   | (with_reducible exact ih0 _ _)
   | (with_reducible exact ih1 _ _)
   | (with_reducible exact ih2 _ _ _)
   | (with_reducible exact spec_l01Name.mono _ _)
   | (with_reducible exact LeO.refl _)
   | (with_reducible exact LeO.none _)
   | (with_reducible refine LeO.ite ?_ ?_)
   | (with_reducible refine LeO.bind ?_ (fun _ => ?_))
   | exact ih0 _ _
   | exact ih1 _ _
   | exact ih2 _ _ _
   | exact spec_l01Name.mono _ _
   | exact LeO.none _
   | refine LeO.ite ?_ ?_
   | refine LeO.bind ?_ (fun _ => ?_)
  ·intro y0 y1 y2
   unfold spec_l21Ok.j2
   repeat' first
   | (with_reducible exact ih0 _ _)
   | (with_reducible exact ih1 _ _)
   | (with_reducible exact ih2 _ _ _)
   | (with_reducible exact spec_l01Name.mono _ _)
   | (with_reducible exact LeO.refl _)
   | (with_reducible exact LeO.none _)
   | (with_reducible refine LeO.ite ?_ ?_)
   | (with_reducible refine LeO.bind ?_ (fun _ => ?_))
   | exact ih0 _ _
   | exact ih1 _ _
   | exact ih2 _ _ _
   | exact spec_l01Name.mono _ _
   | exact LeO.none _
   | refine LeO.ite ?_ ?_
   | refine LeO.bind ?_ (fun _ => ?_)
theorem spec_l21Ok.mono : ∀ a0 k, LeO (spec_l21Ok.f k a0) (spec_l21Ok.f (k + 1) a0) := by
 intro a0 k
 obtain ⟨ih0, ih1, ih2⟩ := spec_l21Ok.mono_l k
 unfold spec_l21Ok.f
 repeat' first
   | (with_reducible exact ih0 _ _)
   | (with_reducible exact ih1 _ _)
   | (with_reducible exact ih2 _ _ _)
   | (with_reducible exact spec_l01Name.mono _ _)
   | (with_reducible exact LeO.refl _)
   | (with_reducible exact LeO.none _)
   | (with_reducible refine LeO.ite ?_ ?_)
   | (with_reducible refine LeO.bind ?_ (fun _ => ?_))
   | exact ih0 _ _
   | exact ih1 _ _
   | exact ih2 _ _ _
   | exact spec_l01Name.mono _ _
   | exact LeO.none _
   | refine LeO.ite ?_ ?_
   | refine LeO.bind ?_ (fun _ => ?_)
def spec_l21Ok.T7 : Bool × List (List Nat × List Nat) := (true, [([], []), ([0], [0]), ([1], [1]), ([2], [2]), ([3], [3]), ([4, 3], [3, 4]), ([5, 3], [3, 5]), ([6, 3, 3], [3, 6]), ([7, 3], [3, 7]), ([3, 8], [3, 8]), ([9, 7], [9]), ([10], [10]), ([11, 10], [10, 11]), ([12, 10], [10, 12]), ([13, 10, 10], [10, 13]), ([14, 10], [10, 14]), ([10, 15], [10, 15]), ([16, 14], [16]), ([17], [17]), ([18, 17], [17, 18]), ([19, 17, 17], [17, 19]), ([20], [20]), ([21, 20], [20, 21]), ([22, 20], [20, 22]), ([23, 20], [20, 23]), ([20, 24, 17], [17, 20, 24]), ([17, 25], [17, 25]), ([26, 20], [26]), ([27], [27]), ([28, 27], [27, 28]), ([29, 27, 27], [27, 29]), ([30], [30]), ([31, 30], [30, 31]), ([32, 30], [30, 32]), ([33, 30], [30, 33]), ([30], [30]), ([35, 30], [30, 35]), ([34, 36, 30], [30, 34, 36]), ([37, 30], [30, 37]), ([38, 30], [30, 38]), ([39, 30], [30, 39]), ([30], [30]), ([41, 30], [30, 41]), ([42, 30], [30, 42]), ([40, 43, 30], [30, 40, 43]), ([30, 44, 27], [27, 30, 44]), ([27, 45], [27, 45])])
def spec_l21Ok.B7 : List Nat := [0, 1, 3, 7, 15, 31, 63, 127, 255, 511, 1023, 2047, 4095, 8191, 16383, 32767, 65535, 131071, 262143, 524287, 1048575, 2097151, 4194303, 8388607, 16777215, 33554431, 67108863, 134217727, 268435455, 536870911, 1073741823, 2147483647, 4294967295, 8589934591, 17179869183, 2147483647, 36507222015, 137438953471, 274877906943, 549755813887, 1099511627775, 2147483647, 2201170739199, 6599217250303, 17592186044415, 35184372088831, 70368744177663]
theorem spec_l21Ok.tab7 : rtab .any (opsOf Tryd.f45 7) = spec_l21Ok.T7 := by kernel_rfl
theorem spec_l21Ok.bits7 : waitsOk spec_l21Ok.T7.2 spec_l21Ok.B7 = true := by kernel_rfl
set_option maxHeartbeats 8000000 in
set_option maxRecDepth 100000 in
theorem spec_l21Ok.calls (k : Nat) (A0 : Option Addr) (c0 : Nat) (l0 : List (S26)) (r : Bool) (w : World) (hr0 : Kd.C k26 w A0 l0.length l0) (hc0 : l0.length ≤ c0) (h : spec_l21Ok.f k l0 = some r) :
  Calls Tryd.prog 45 #[.pointer A0] w fun e w' => e = .returned (.bool r) ∧ Below w.heap.size w w' := by
 have HR0 := Aside0.mk hr0
 have HC0 := Aside0.mk hc0
 clear hr0 hc0
 have HB := Aside0.mk (Below.refl w.heap.size w)
 have H : (if 0 < (l0.length : Int) then ((spec_l01Name.f k ((rd_T26 l0 0).f0)).bind fun t284 => (if t284 = true then ((spec_l00In.f ((rd_T26 l0 0).f1) 0 1000000).bind fun t286 => (if t286 = true then ((spec_l00In.f ((rd_T26 l0 0).f2) 0 10000).bind fun t288 => (if t288 = true then ((spec_l00In.f (((rd_T26 l0 0).f3).length : Int) 1 6).bind fun t290 => (spec_l21Ok.j0 k l0 (!t290))) else (spec_l21Ok.j0 k l0 true))) else (spec_l21Ok.j0 k l0 true))) else (spec_l21Ok.j0 k l0 true))) else (none)) = some r := h
 clear h
 have HC2 := Aside0.mk H
 clear H
 go_enter Tryd.func45, Tryd.ntmps45
 go_upto_region 1 with (fail)
 go_cut [35] (fun v35 wc => ∃ (kq : Nat) (x35_1 : Bool), v35 = .bool x35_1 ∧ Aside0 (spec_l21Ok.j0 kq l0 x35_1 = some r) ∧ Aside0 (kq ≤ k) ∧ Aside0 (Below w.heap.size w wc))
 case first =>
  have H := HC2.out
  clear HC2
  by_cases c3 : 0 < (l0.length : Int)
  ·rw [if_pos c3] at H
   have c3b0 : decide (0 < (l0.length : Int)) = true := decide_eq_true c3
   have c3b1 : decide (0 < l0.length) = true := decide_eq_true (by omega)
   clear c3
   (first | rw [c3b0] | (simp only [i64_w, i32_w]; rw [c3b0]) | skip)
   replace H := Option.bind_eq_some_iff.mp H
   obtain ⟨t284, A40, H⟩ := H
   replace H : (if t284 = true then ((spec_l00In.f ((rd_T26 l0 0).f1) 0 1000000).bind fun t286 => (if t286 = true then ((spec_l00In.f ((rd_T26 l0 0).f2) 0 10000).bind fun t288 => (if t288 = true then ((spec_l00In.f (((rd_T26 l0 0).f3).length : Int) 1 6).bind fun t290 => (spec_l21Ok.j0 k l0 (!t290))) else (spec_l21Ok.j0 k l0 true))) else (spec_l21Ok.j0 k l0 true))) else (spec_l21Ok.j0 k l0 true)) = some r := H
   have A4 := Aside0.mk A40
   clear A40
   by_cases c5 : t284 = true
   ·subst c5
    have H1 : ((spec_l00In.f ((rd_T26 l0 0).f1) 0 1000000).bind fun t286 => (if t286 = true then ((spec_l00In.f ((rd_T26 l0 0).f2) 0 10000).bind fun t288 => (if t288 = true then ((spec_l00In.f (((rd_T26 l0 0).f3).length : Int) 1 6).bind fun t290 => (spec_l21Ok.j0 k l0 (!t290))) else (spec_l21Ok.j0 k l0 true))) else (spec_l21Ok.j0 k l0 true))) = some r := by rw [if_pos rfl] at H; exact H
    clear H
    have H := H1
    clear H1
    replace H := Option.bind_eq_some_iff.mp H
    obtain ⟨t286, A60, H⟩ := H
    replace H : (if t286 = true then ((spec_l00In.f ((rd_T26 l0 0).f2) 0 10000).bind fun t288 => (if t288 = true then ((spec_l00In.f (((rd_T26 l0 0).f3).length : Int) 1 6).bind fun t290 => (spec_l21Ok.j0 k l0 (!t290))) else (spec_l21Ok.j0 k l0 true))) else (spec_l21Ok.j0 k l0 true)) = some r := H
    have A6 := Aside0.mk A60
    clear A60
    by_cases c7 : t286 = true
    ·subst c7
     have H1 : ((spec_l00In.f ((rd_T26 l0 0).f2) 0 10000).bind fun t288 => (if t288 = true then ((spec_l00In.f (((rd_T26 l0 0).f3).length : Int) 1 6).bind fun t290 => (spec_l21Ok.j0 k l0 (!t290))) else (spec_l21Ok.j0 k l0 true))) = some r := by rw [if_pos rfl] at H; exact H
     clear H
     have H := H1
     clear H1
     replace H := Option.bind_eq_some_iff.mp H
     obtain ⟨t288, A80, H⟩ := H
     replace H : (if t288 = true then ((spec_l00In.f (((rd_T26 l0 0).f3).length : Int) 1 6).bind fun t290 => (spec_l21Ok.j0 k l0 (!t290))) else (spec_l21Ok.j0 k l0 true)) = some r := H
     have A8 := Aside0.mk A80
     clear A80
     by_cases c9 : t288 = true
     ·subst c9
      have H1 : ((spec_l00In.f (((rd_T26 l0 0).f3).length : Int) 1 6).bind fun t290 => (spec_l21Ok.j0 k l0 (!t290))) = some r := by rw [if_pos rfl] at H; exact H
      clear H
      have H := H1
      clear H1
      replace H := Option.bind_eq_some_iff.mp H
      obtain ⟨t290, A100, H⟩ := H
      replace H : (spec_l21Ok.j0 k l0 (!t290)) = some r := H
      have A10 := Aside0.mk A100
      clear A100
      have H' := Aside0.mk H
      clear H
      have p283 : 0 ≤ (0 : Int) := (by omega)
      have q283 : 0 < (l0.length : Int) := of_decide_eq_true (by first | (with_reducible assumption) | assumption)
      obtain ⟨ad283, A283_3, c283_3, e283, hx283_0, hx283_1, hx283_2, hx283_3, hl283_3, hi283_3⟩ := at_T26 HR0.out 0 p283 q283
      cases e283
      have qi283 : (0 < l0.length) = True := eq_true (by omega)
      (try rw [show ((0 : Int)).toNat = 0 from rfl] at hx283_0)
      (try rw [show 0 * 4 = 0 from rfl] at hx283_0)
      (try rw [Addr.add_zero'] at hx283_0)
      (try rw [show ((0 : Int)).toNat = 0 from rfl] at hx283_1)
      (try rw [show 0 * 4 = 0 from rfl] at hx283_1)
      (try rw [Addr.add_zero'] at hx283_1)
      (try rw [show ((0 : Int)).toNat = 0 from rfl] at hx283_2)
      (try rw [show 0 * 4 = 0 from rfl] at hx283_2)
      (try rw [Addr.add_zero'] at hx283_2)
      (try rw [show ((0 : Int)).toNat = 0 from rfl] at hx283_3)
      (try rw [show 0 * 4 = 0 from rfl] at hx283_3)
      (try rw [Addr.add_zero'] at hx283_3)
      replace hx283_0 := (HB.out.cell (World.block_lt_of_cell? w _ hx283_0)).trans hx283_0
      replace hx283_1 := (HB.out.cell (World.block_lt_of_cell? w _ hx283_1)).trans hx283_1
      replace hx283_2 := (HB.out.cell (World.block_lt_of_cell? w _ hx283_2)).trans hx283_2
      replace hx283_3 := (HB.out.cell (World.block_lt_of_cell? w _ hx283_3)).trans hx283_3
      have HR283_3 := Aside0.mk hi283_3
      have HC283_3 := Aside0.mk hl283_3
      clear hi283_3 hl283_3
      replace p283 := eq_true p283
      replace q283 := eq_true q283
      go_wp2_with (first | ((with_reducible refine gate_callee (f := 60) rfl ?_); refine goesL_ (some 9) rfl rfl Tryd.func60 (by kernel_rfl) rfl #[.string ((rd_T26 l0 0).f0)] rfl (by (try simp only [List.map_toArray, List.map_cons, List.map_nil]); first | done | rfl | (simp only [List.length_drop, List.length_take]; rfl)) ?_; (with_reducible refine (spec_l01Name.calls k ((rd_T26 l0 0).f0) true _ A4.out).mono ?_); rintro e w' ⟨rfl, ⟨nd, rfl⟩⟩; refine ⟨_, rfl, ?_⟩; have p285 : 0 ≤ (0 : Int) := (by omega); have q285 : 0 < (l0.length : Int) := of_decide_eq_true (by first | (with_reducible assumption) | assumption); obtain ⟨ad285, A285_3, c285_3, e285, hx285_0, hx285_1, hx285_2, hx285_3, hl285_3, hi285_3⟩ := at_T26 HR0.out 0 p285 q285; obtain rfl : ad283 = ad285 := (by injection e285); have qi285 : (0 < l0.length) = True := eq_true (by omega); (try rw [show ((0 : Int)).toNat = 0 from rfl] at hx285_0); (try rw [show 0 * 4 = 0 from rfl] at hx285_0); (try rw [Addr.add_zero'] at hx285_0); (try rw [show ((0 : Int)).toNat = 0 from rfl] at hx285_1); (try rw [show 0 * 4 = 0 from rfl] at hx285_1); (try rw [Addr.add_zero'] at hx285_1); (try rw [show ((0 : Int)).toNat = 0 from rfl] at hx285_2); (try rw [show 0 * 4 = 0 from rfl] at hx285_2); (try rw [Addr.add_zero'] at hx285_2); (try rw [show ((0 : Int)).toNat = 0 from rfl] at hx285_3); (try rw [show 0 * 4 = 0 from rfl] at hx285_3); (try rw [Addr.add_zero'] at hx285_3); replace hx285_0 := (HB.out.cell (World.block_lt_of_cell? w _ hx285_0)).trans hx285_0; replace hx285_1 := (HB.out.cell (World.block_lt_of_cell? w _ hx285_1)).trans hx285_1; replace hx285_2 := (HB.out.cell (World.block_lt_of_cell? w _ hx285_2)).trans hx285_2; replace hx285_3 := (HB.out.cell (World.block_lt_of_cell? w _ hx285_3)).trans hx285_3; have HR285_3 := Aside0.mk hi285_3; have HC285_3 := Aside0.mk hl285_3; clear hi285_3 hl285_3; replace p285 := eq_true p285; replace q285 := eq_true q285; have ea_ := Option.some.inj (hx283_3.symm.trans hx285_3); injection ea_ with ea_ en_ ec_; subst ea_; subst ec_; clear en_) | (go_at_call 26; (with_reducible refine (spec_l00In.calls ((rd_T26 l0 0).f1) 0 1000000 true _ A6.out).mono ?_); rintro e w' ⟨rfl, ⟨nd, rfl⟩⟩; have p287 : 0 ≤ (0 : Int) := (by omega); have q287 : 0 < (l0.length : Int) := of_decide_eq_true (by first | (with_reducible assumption) | assumption); obtain ⟨ad287, A287_3, c287_3, e287, hx287_0, hx287_1, hx287_2, hx287_3, hl287_3, hi287_3⟩ := at_T26 HR0.out 0 p287 q287; obtain rfl : ad283 = ad287 := (by injection e287); have qi287 : (0 < l0.length) = True := eq_true (by omega); (try rw [show ((0 : Int)).toNat = 0 from rfl] at hx287_0); (try rw [show 0 * 4 = 0 from rfl] at hx287_0); (try rw [Addr.add_zero'] at hx287_0); (try rw [show ((0 : Int)).toNat = 0 from rfl] at hx287_1); (try rw [show 0 * 4 = 0 from rfl] at hx287_1); (try rw [Addr.add_zero'] at hx287_1); (try rw [show ((0 : Int)).toNat = 0 from rfl] at hx287_2); (try rw [show 0 * 4 = 0 from rfl] at hx287_2); (try rw [Addr.add_zero'] at hx287_2); (try rw [show ((0 : Int)).toNat = 0 from rfl] at hx287_3); (try rw [show 0 * 4 = 0 from rfl] at hx287_3); (try rw [Addr.add_zero'] at hx287_3); replace hx287_0 := (HB.out.cell (World.block_lt_of_cell? w _ hx287_0)).trans hx287_0; replace hx287_1 := (HB.out.cell (World.block_lt_of_cell? w _ hx287_1)).trans hx287_1; replace hx287_2 := (HB.out.cell (World.block_lt_of_cell? w _ hx287_2)).trans hx287_2; replace hx287_3 := (HB.out.cell (World.block_lt_of_cell? w _ hx287_3)).trans hx287_3; have HR287_3 := Aside0.mk hi287_3; have HC287_3 := Aside0.mk hl287_3; clear hi287_3 hl287_3; replace p287 := eq_true p287; replace q287 := eq_true q287; have ea_ := Option.some.inj (hx283_3.symm.trans hx287_3); injection ea_ with ea_ en_ ec_; subst ea_; subst ec_; clear en_) | (go_at_call 26; (with_reducible refine (spec_l00In.calls ((rd_T26 l0 0).f2) 0 10000 true _ A8.out).mono ?_); rintro e w' ⟨rfl, ⟨nd, rfl⟩⟩; have p289 : 0 ≤ (0 : Int) := (by omega); have q289 : 0 < (l0.length : Int) := of_decide_eq_true (by first | (with_reducible assumption) | assumption); obtain ⟨ad289, A289_3, c289_3, e289, hx289_0, hx289_1, hx289_2, hx289_3, hl289_3, hi289_3⟩ := at_T26 HR0.out 0 p289 q289; obtain rfl : ad283 = ad289 := (by injection e289); have qi289 : (0 < l0.length) = True := eq_true (by omega); (try rw [show ((0 : Int)).toNat = 0 from rfl] at hx289_0); (try rw [show 0 * 4 = 0 from rfl] at hx289_0); (try rw [Addr.add_zero'] at hx289_0); (try rw [show ((0 : Int)).toNat = 0 from rfl] at hx289_1); (try rw [show 0 * 4 = 0 from rfl] at hx289_1); (try rw [Addr.add_zero'] at hx289_1); (try rw [show ((0 : Int)).toNat = 0 from rfl] at hx289_2); (try rw [show 0 * 4 = 0 from rfl] at hx289_2); (try rw [Addr.add_zero'] at hx289_2); (try rw [show ((0 : Int)).toNat = 0 from rfl] at hx289_3); (try rw [show 0 * 4 = 0 from rfl] at hx289_3); (try rw [Addr.add_zero'] at hx289_3); replace hx289_0 := (HB.out.cell (World.block_lt_of_cell? w _ hx289_0)).trans hx289_0; replace hx289_1 := (HB.out.cell (World.block_lt_of_cell? w _ hx289_1)).trans hx289_1; replace hx289_2 := (HB.out.cell (World.block_lt_of_cell? w _ hx289_2)).trans hx289_2; replace hx289_3 := (HB.out.cell (World.block_lt_of_cell? w _ hx289_3)).trans hx289_3; have HR289_3 := Aside0.mk hi289_3; have HC289_3 := Aside0.mk hl289_3; clear hi289_3 hl289_3; replace p289 := eq_true p289; replace q289 := eq_true q289; have ea_ := Option.some.inj (hx283_3.symm.trans hx289_3); injection ea_ with ea_ en_ ec_; subst ea_; subst ec_; clear en_) | (go_at_call 26; (with_reducible refine (spec_l00In.calls (((rd_T26 l0 0).f3).length : Int) 1 6 t290 _ A10.out).mono ?_); rintro e w' ⟨rfl, ⟨nd, rfl⟩⟩))
      go_meet
      case rel => exact ⟨_, (!t290), (by first | rfl | (simp; done) | (simp [*]; done)), H', ⟨by first | omega | exact Nat.le_refl _⟩, ⟨by repeat (first | (with_reducible first | exact HB.out | apply below_alloc | apply pw_below_drewN | apply below_drew1) | exact HB.out)⟩⟩
     ·replace c9 := Bool.eq_false_iff.mpr c9
      subst c9
      have H1 : (spec_l21Ok.j0 k l0 true) = some r := by rw [if_neg (show ¬ (false = true) by decide)] at H; exact H
      clear H
      have H := H1
      clear H1
      have H' := Aside0.mk H
      clear H
      have p283 : 0 ≤ (0 : Int) := (by omega)
      have q283 : 0 < (l0.length : Int) := of_decide_eq_true (by first | (with_reducible assumption) | assumption)
      obtain ⟨ad283, A283_3, c283_3, e283, hx283_0, hx283_1, hx283_2, hx283_3, hl283_3, hi283_3⟩ := at_T26 HR0.out 0 p283 q283
      cases e283
      have qi283 : (0 < l0.length) = True := eq_true (by omega)
      (try rw [show ((0 : Int)).toNat = 0 from rfl] at hx283_0)
      (try rw [show 0 * 4 = 0 from rfl] at hx283_0)
      (try rw [Addr.add_zero'] at hx283_0)
      (try rw [show ((0 : Int)).toNat = 0 from rfl] at hx283_1)
      (try rw [show 0 * 4 = 0 from rfl] at hx283_1)
      (try rw [Addr.add_zero'] at hx283_1)
      (try rw [show ((0 : Int)).toNat = 0 from rfl] at hx283_2)
      (try rw [show 0 * 4 = 0 from rfl] at hx283_2)
      (try rw [Addr.add_zero'] at hx283_2)
      (try rw [show ((0 : Int)).toNat = 0 from rfl] at hx283_3)
      (try rw [show 0 * 4 = 0 from rfl] at hx283_3)
      (try rw [Addr.add_zero'] at hx283_3)
      replace hx283_0 := (HB.out.cell (World.block_lt_of_cell? w _ hx283_0)).trans hx283_0
      replace hx283_1 := (HB.out.cell (World.block_lt_of_cell? w _ hx283_1)).trans hx283_1
      replace hx283_2 := (HB.out.cell (World.block_lt_of_cell? w _ hx283_2)).trans hx283_2
      replace hx283_3 := (HB.out.cell (World.block_lt_of_cell? w _ hx283_3)).trans hx283_3
      have HR283_3 := Aside0.mk hi283_3
      have HC283_3 := Aside0.mk hl283_3
      clear hi283_3 hl283_3
      replace p283 := eq_true p283
      replace q283 := eq_true q283
      go_wp2_with (first | ((with_reducible refine gate_callee (f := 60) rfl ?_); refine goesL_ (some 9) rfl rfl Tryd.func60 (by kernel_rfl) rfl #[.string ((rd_T26 l0 0).f0)] rfl (by (try simp only [List.map_toArray, List.map_cons, List.map_nil]); first | done | rfl | (simp only [List.length_drop, List.length_take]; rfl)) ?_; (with_reducible refine (spec_l01Name.calls k ((rd_T26 l0 0).f0) true _ A4.out).mono ?_); rintro e w' ⟨rfl, ⟨nd, rfl⟩⟩; refine ⟨_, rfl, ?_⟩; have p285 : 0 ≤ (0 : Int) := (by omega); have q285 : 0 < (l0.length : Int) := of_decide_eq_true (by first | (with_reducible assumption) | assumption); obtain ⟨ad285, A285_3, c285_3, e285, hx285_0, hx285_1, hx285_2, hx285_3, hl285_3, hi285_3⟩ := at_T26 HR0.out 0 p285 q285; obtain rfl : ad283 = ad285 := (by injection e285); have qi285 : (0 < l0.length) = True := eq_true (by omega); (try rw [show ((0 : Int)).toNat = 0 from rfl] at hx285_0); (try rw [show 0 * 4 = 0 from rfl] at hx285_0); (try rw [Addr.add_zero'] at hx285_0); (try rw [show ((0 : Int)).toNat = 0 from rfl] at hx285_1); (try rw [show 0 * 4 = 0 from rfl] at hx285_1); (try rw [Addr.add_zero'] at hx285_1); (try rw [show ((0 : Int)).toNat = 0 from rfl] at hx285_2); (try rw [show 0 * 4 = 0 from rfl] at hx285_2); (try rw [Addr.add_zero'] at hx285_2); (try rw [show ((0 : Int)).toNat = 0 from rfl] at hx285_3); (try rw [show 0 * 4 = 0 from rfl] at hx285_3); (try rw [Addr.add_zero'] at hx285_3); replace hx285_0 := (HB.out.cell (World.block_lt_of_cell? w _ hx285_0)).trans hx285_0; replace hx285_1 := (HB.out.cell (World.block_lt_of_cell? w _ hx285_1)).trans hx285_1; replace hx285_2 := (HB.out.cell (World.block_lt_of_cell? w _ hx285_2)).trans hx285_2; replace hx285_3 := (HB.out.cell (World.block_lt_of_cell? w _ hx285_3)).trans hx285_3; have HR285_3 := Aside0.mk hi285_3; have HC285_3 := Aside0.mk hl285_3; clear hi285_3 hl285_3; replace p285 := eq_true p285; replace q285 := eq_true q285; have ea_ := Option.some.inj (hx283_3.symm.trans hx285_3); injection ea_ with ea_ en_ ec_; subst ea_; subst ec_; clear en_) | (go_at_call 26; (with_reducible refine (spec_l00In.calls ((rd_T26 l0 0).f1) 0 1000000 true _ A6.out).mono ?_); rintro e w' ⟨rfl, ⟨nd, rfl⟩⟩; have p287 : 0 ≤ (0 : Int) := (by omega); have q287 : 0 < (l0.length : Int) := of_decide_eq_true (by first | (with_reducible assumption) | assumption); obtain ⟨ad287, A287_3, c287_3, e287, hx287_0, hx287_1, hx287_2, hx287_3, hl287_3, hi287_3⟩ := at_T26 HR0.out 0 p287 q287; obtain rfl : ad283 = ad287 := (by injection e287); have qi287 : (0 < l0.length) = True := eq_true (by omega); (try rw [show ((0 : Int)).toNat = 0 from rfl] at hx287_0); (try rw [show 0 * 4 = 0 from rfl] at hx287_0); (try rw [Addr.add_zero'] at hx287_0); (try rw [show ((0 : Int)).toNat = 0 from rfl] at hx287_1); (try rw [show 0 * 4 = 0 from rfl] at hx287_1); (try rw [Addr.add_zero'] at hx287_1); (try rw [show ((0 : Int)).toNat = 0 from rfl] at hx287_2); (try rw [show 0 * 4 = 0 from rfl] at hx287_2); (try rw [Addr.add_zero'] at hx287_2); (try rw [show ((0 : Int)).toNat = 0 from rfl] at hx287_3); (try rw [show 0 * 4 = 0 from rfl] at hx287_3); (try rw [Addr.add_zero'] at hx287_3); replace hx287_0 := (HB.out.cell (World.block_lt_of_cell? w _ hx287_0)).trans hx287_0; replace hx287_1 := (HB.out.cell (World.block_lt_of_cell? w _ hx287_1)).trans hx287_1; replace hx287_2 := (HB.out.cell (World.block_lt_of_cell? w _ hx287_2)).trans hx287_2; replace hx287_3 := (HB.out.cell (World.block_lt_of_cell? w _ hx287_3)).trans hx287_3; have HR287_3 := Aside0.mk hi287_3; have HC287_3 := Aside0.mk hl287_3; clear hi287_3 hl287_3; replace p287 := eq_true p287; replace q287 := eq_true q287; have ea_ := Option.some.inj (hx283_3.symm.trans hx287_3); injection ea_ with ea_ en_ ec_; subst ea_; subst ec_; clear en_) | (go_at_call 26; (with_reducible refine (spec_l00In.calls ((rd_T26 l0 0).f2) 0 10000 false _ A8.out).mono ?_); rintro e w' ⟨rfl, ⟨nd, rfl⟩⟩))
      go_meet
      case rel => exact ⟨_, (true), (by first | rfl | (simp; done) | (simp [*]; done)), H', ⟨by first | omega | exact Nat.le_refl _⟩, ⟨by repeat (first | (with_reducible first | exact HB.out | apply below_alloc | apply pw_below_drewN | apply below_drew1) | exact HB.out)⟩⟩
    ·replace c7 := Bool.eq_false_iff.mpr c7
     subst c7
     have H1 : (spec_l21Ok.j0 k l0 true) = some r := by rw [if_neg (show ¬ (false = true) by decide)] at H; exact H
     clear H
     have H := H1
     clear H1
     have H' := Aside0.mk H
     clear H
     have p283 : 0 ≤ (0 : Int) := (by omega)
     have q283 : 0 < (l0.length : Int) := of_decide_eq_true (by first | (with_reducible assumption) | assumption)
     obtain ⟨ad283, A283_3, c283_3, e283, hx283_0, hx283_1, hx283_2, hx283_3, hl283_3, hi283_3⟩ := at_T26 HR0.out 0 p283 q283
     cases e283
     have qi283 : (0 < l0.length) = True := eq_true (by omega)
     (try rw [show ((0 : Int)).toNat = 0 from rfl] at hx283_0)
     (try rw [show 0 * 4 = 0 from rfl] at hx283_0)
     (try rw [Addr.add_zero'] at hx283_0)
     (try rw [show ((0 : Int)).toNat = 0 from rfl] at hx283_1)
     (try rw [show 0 * 4 = 0 from rfl] at hx283_1)
     (try rw [Addr.add_zero'] at hx283_1)
     (try rw [show ((0 : Int)).toNat = 0 from rfl] at hx283_2)
     (try rw [show 0 * 4 = 0 from rfl] at hx283_2)
     (try rw [Addr.add_zero'] at hx283_2)
     (try rw [show ((0 : Int)).toNat = 0 from rfl] at hx283_3)
     (try rw [show 0 * 4 = 0 from rfl] at hx283_3)
     (try rw [Addr.add_zero'] at hx283_3)
     replace hx283_0 := (HB.out.cell (World.block_lt_of_cell? w _ hx283_0)).trans hx283_0
     replace hx283_1 := (HB.out.cell (World.block_lt_of_cell? w _ hx283_1)).trans hx283_1
     replace hx283_2 := (HB.out.cell (World.block_lt_of_cell? w _ hx283_2)).trans hx283_2
     replace hx283_3 := (HB.out.cell (World.block_lt_of_cell? w _ hx283_3)).trans hx283_3
     have HR283_3 := Aside0.mk hi283_3
     have HC283_3 := Aside0.mk hl283_3
     clear hi283_3 hl283_3
     replace p283 := eq_true p283
     replace q283 := eq_true q283
     go_wp2_with (first | ((with_reducible refine gate_callee (f := 60) rfl ?_); refine goesL_ (some 9) rfl rfl Tryd.func60 (by kernel_rfl) rfl #[.string ((rd_T26 l0 0).f0)] rfl (by (try simp only [List.map_toArray, List.map_cons, List.map_nil]); first | done | rfl | (simp only [List.length_drop, List.length_take]; rfl)) ?_; (with_reducible refine (spec_l01Name.calls k ((rd_T26 l0 0).f0) true _ A4.out).mono ?_); rintro e w' ⟨rfl, ⟨nd, rfl⟩⟩; refine ⟨_, rfl, ?_⟩; have p285 : 0 ≤ (0 : Int) := (by omega); have q285 : 0 < (l0.length : Int) := of_decide_eq_true (by first | (with_reducible assumption) | assumption); obtain ⟨ad285, A285_3, c285_3, e285, hx285_0, hx285_1, hx285_2, hx285_3, hl285_3, hi285_3⟩ := at_T26 HR0.out 0 p285 q285; obtain rfl : ad283 = ad285 := (by injection e285); have qi285 : (0 < l0.length) = True := eq_true (by omega); (try rw [show ((0 : Int)).toNat = 0 from rfl] at hx285_0); (try rw [show 0 * 4 = 0 from rfl] at hx285_0); (try rw [Addr.add_zero'] at hx285_0); (try rw [show ((0 : Int)).toNat = 0 from rfl] at hx285_1); (try rw [show 0 * 4 = 0 from rfl] at hx285_1); (try rw [Addr.add_zero'] at hx285_1); (try rw [show ((0 : Int)).toNat = 0 from rfl] at hx285_2); (try rw [show 0 * 4 = 0 from rfl] at hx285_2); (try rw [Addr.add_zero'] at hx285_2); (try rw [show ((0 : Int)).toNat = 0 from rfl] at hx285_3); (try rw [show 0 * 4 = 0 from rfl] at hx285_3); (try rw [Addr.add_zero'] at hx285_3); replace hx285_0 := (HB.out.cell (World.block_lt_of_cell? w _ hx285_0)).trans hx285_0; replace hx285_1 := (HB.out.cell (World.block_lt_of_cell? w _ hx285_1)).trans hx285_1; replace hx285_2 := (HB.out.cell (World.block_lt_of_cell? w _ hx285_2)).trans hx285_2; replace hx285_3 := (HB.out.cell (World.block_lt_of_cell? w _ hx285_3)).trans hx285_3; have HR285_3 := Aside0.mk hi285_3; have HC285_3 := Aside0.mk hl285_3; clear hi285_3 hl285_3; replace p285 := eq_true p285; replace q285 := eq_true q285; have ea_ := Option.some.inj (hx283_3.symm.trans hx285_3); injection ea_ with ea_ en_ ec_; subst ea_; subst ec_; clear en_) | (go_at_call 26; (with_reducible refine (spec_l00In.calls ((rd_T26 l0 0).f1) 0 1000000 false _ A6.out).mono ?_); rintro e w' ⟨rfl, ⟨nd, rfl⟩⟩))
     go_meet
     case rel => exact ⟨_, (true), (by first | rfl | (simp; done) | (simp [*]; done)), H', ⟨by first | omega | exact Nat.le_refl _⟩, ⟨by repeat (first | (with_reducible first | exact HB.out | apply below_alloc | apply pw_below_drewN | apply below_drew1) | exact HB.out)⟩⟩
   ·replace c5 := Bool.eq_false_iff.mpr c5
    subst c5
    have H1 : (spec_l21Ok.j0 k l0 true) = some r := by rw [if_neg (show ¬ (false = true) by decide)] at H; exact H
    clear H
    have H := H1
    clear H1
    have H' := Aside0.mk H
    clear H
    have p283 : 0 ≤ (0 : Int) := (by omega)
    have q283 : 0 < (l0.length : Int) := of_decide_eq_true (by first | (with_reducible assumption) | assumption)
    obtain ⟨ad283, A283_3, c283_3, e283, hx283_0, hx283_1, hx283_2, hx283_3, hl283_3, hi283_3⟩ := at_T26 HR0.out 0 p283 q283
    cases e283
    have qi283 : (0 < l0.length) = True := eq_true (by omega)
    (try rw [show ((0 : Int)).toNat = 0 from rfl] at hx283_0)
    (try rw [show 0 * 4 = 0 from rfl] at hx283_0)
    (try rw [Addr.add_zero'] at hx283_0)
    (try rw [show ((0 : Int)).toNat = 0 from rfl] at hx283_1)
    (try rw [show 0 * 4 = 0 from rfl] at hx283_1)
    (try rw [Addr.add_zero'] at hx283_1)
    (try rw [show ((0 : Int)).toNat = 0 from rfl] at hx283_2)
    (try rw [show 0 * 4 = 0 from rfl] at hx283_2)
    (try rw [Addr.add_zero'] at hx283_2)
    (try rw [show ((0 : Int)).toNat = 0 from rfl] at hx283_3)
    (try rw [show 0 * 4 = 0 from rfl] at hx283_3)
    (try rw [Addr.add_zero'] at hx283_3)
    replace hx283_0 := (HB.out.cell (World.block_lt_of_cell? w _ hx283_0)).trans hx283_0
    replace hx283_1 := (HB.out.cell (World.block_lt_of_cell? w _ hx283_1)).trans hx283_1
    replace hx283_2 := (HB.out.cell (World.block_lt_of_cell? w _ hx283_2)).trans hx283_2
    replace hx283_3 := (HB.out.cell (World.block_lt_of_cell? w _ hx283_3)).trans hx283_3
    have HR283_3 := Aside0.mk hi283_3
    have HC283_3 := Aside0.mk hl283_3
    clear hi283_3 hl283_3
    replace p283 := eq_true p283
    replace q283 := eq_true q283
    go_wp2_with (first | ((with_reducible refine gate_callee (f := 60) rfl ?_); refine goesL_ (some 9) rfl rfl Tryd.func60 (by kernel_rfl) rfl #[.string ((rd_T26 l0 0).f0)] rfl (by (try simp only [List.map_toArray, List.map_cons, List.map_nil]); first | done | rfl | (simp only [List.length_drop, List.length_take]; rfl)) ?_; (with_reducible refine (spec_l01Name.calls k ((rd_T26 l0 0).f0) false _ A4.out).mono ?_); rintro e w' ⟨rfl, ⟨nd, rfl⟩⟩; refine ⟨_, rfl, ?_⟩))
    go_meet
    case rel => exact ⟨_, (true), (by first | rfl | (simp; done) | (simp [*]; done)), H', ⟨by first | omega | exact Nat.le_refl _⟩, ⟨by repeat (first | (with_reducible first | exact HB.out | apply below_alloc | apply pw_below_drewN | apply below_drew1) | exact HB.out)⟩⟩
  ·rw [if_neg c3] at H
   exact absurd H (by simp)
 case rest =>
  clear HC2
  try clear c2
  try clear p2
  try clear q2
  try clear hx2
  try clear qi2
  try clear c3
  try clear c3b0
  try clear c3b1
  try clear c4
  try clear c5
  try clear c6
  try clear c7
  try clear c9
  try clear hx283_0
  try clear hx283_1
  try clear hx283_2
  try clear hx283_3
  try clear hx285_0
  try clear hx285_1
  try clear hx285_2
  try clear hx285_3
  try clear hx287_0
  try clear hx287_1
  try clear hx287_2
  try clear hx287_3
  try clear hx289_0
  try clear hx289_1
  try clear hx289_2
  try clear hx289_3
  try clear p283
  try clear p285
  try clear p287
  try clear p289
  try clear q283
  try clear q285
  try clear q287
  try clear q289
  obtain ⟨kq, x35_1, rfl, HA, HJ1, HB⟩ := hcut
  cases kq with
  | zero => exact absurd HA.out (by simp [spec_l21Ok.j0])
  | succ kj1 =>
   have H := HA.out
   clear HA
   simp only [spec_l21Ok.j0] at H
   by_cases c11 : x35_1 = true
   ·subst c11
    have H1 : (some false) = some r := by rw [if_pos rfl] at H; exact H
    clear H
    have H := H1
    clear H1
    obtain rfl := Option.some.inj H
    go_wp2
    go_ret
    exact ⟨by first | rfl | (rw [Int.tdiv_eq_ediv_of_nonneg (by omega)]; rfl) | (simp [errW_none, errW_some] <;> rfl) | (simp [*, errW_none, errW_some] <;> rfl), by repeat (first | (with_reducible first | exact HB.out | apply below_alloc | apply pw_below_drewN | apply below_drew1) | exact HB.out)⟩
   ·replace c11 := Bool.eq_false_iff.mpr c11
    subst c11
    have H1 : (spec_l21Ok.l0 kj1 l0 0) = some r := by rw [if_neg (show ¬ (false = true) by decide)] at H; exact H
    clear H
    have H := H1
    clear H1
    have H' := Aside0.mk H
    clear H
    go_wp2
    go_loopg [3] kj1 (fun kq v3 w' => ∃ (x3_2 : Int), v3 = .int .i64 x3_2 ∧ Aside0 (spec_l21Ok.l0 kq l0 x3_2 = some r) ∧ Aside0 (kq ≤ kj1) ∧ Aside0 (Below w.heap.size w w'))
    case atStart => exact ⟨(0), (by first | rfl | (simp; done) | (simp [*]; done)), H', ⟨Nat.le_refl _⟩, ⟨by repeat (first | (with_reducible first | exact HB.out | apply below_alloc | apply pw_below_drewN | apply below_drew1) | exact HB.out)⟩⟩
    case round =>
     clear H'
     try clear c1
     try clear c2
     try clear p2
     try clear q2
     try clear hx2
     try clear qi2
     try clear c3
     try clear c3b0
     try clear c3b1
     try clear c4
     try clear c5
     try clear c6
     try clear c7
     try clear c9
     try clear c11
     try clear hx283_0
     try clear hx283_1
     try clear hx283_2
     try clear hx283_3
     try clear hx285_0
     try clear hx285_1
     try clear hx285_2
     try clear hx285_3
     try clear hx287_0
     try clear hx287_1
     try clear hx287_2
     try clear hx287_3
     try clear hx289_0
     try clear hx289_1
     try clear hx289_2
     try clear hx289_3
     try clear p2
     try clear p283
     try clear p285
     try clear p287
     try clear p289
     try clear q2
     try clear q283
     try clear q285
     try clear q287
     try clear q289
     obtain ⟨x3_2, rfl, HA, HK2, HB⟩ := hrel
     cases gk with
     | zero => exact absurd HA.out (by simp [spec_l21Ok.l0])
     | succ k2 =>
      have H := HA.out
      clear HA
      simp only [spec_l21Ok.l0] at H
      by_cases c12 : 0 < (l0.length : Int)
      ·rw [if_pos c12] at H
       have c12b0 : decide (0 < (l0.length : Int)) = true := decide_eq_true c12
       have c12b1 : decide (0 < l0.length) = true := decide_eq_true (by omega)
       clear c12
       by_cases c13 : x3_2 < (((rd_T26 l0 0).f3).length : Int)
       ·rw [if_pos c13] at H
        have c13b0 : decide (x3_2 < (((rd_T26 l0 0).f3).length : Int)) = true := decide_eq_true c13
        clear c13
        by_cases c14 : 0 ≤ x3_2
        ·rw [if_pos c14] at H
         have c14b0 : decide (0 ≤ x3_2) = true := decide_eq_true c14
         clear c14
         have HC15 := Aside0.mk H
         clear H
         have p291 : 0 ≤ (0 : Int) := (by omega)
         have q291 : 0 < (l0.length : Int) := of_decide_eq_true (by first | (with_reducible assumption) | assumption)
         obtain ⟨ad291, A291_3, c291_3, e291, hx291_0, hx291_1, hx291_2, hx291_3, hl291_3, hi291_3⟩ := at_T26 HR0.out 0 p291 q291
         cases e291
         have qi291 : (0 < l0.length) = True := eq_true (by omega)
         (try rw [show ((0 : Int)).toNat = 0 from rfl] at hx291_0)
         (try rw [show 0 * 4 = 0 from rfl] at hx291_0)
         (try rw [Addr.add_zero'] at hx291_0)
         (try rw [show ((0 : Int)).toNat = 0 from rfl] at hx291_1)
         (try rw [show 0 * 4 = 0 from rfl] at hx291_1)
         (try rw [Addr.add_zero'] at hx291_1)
         (try rw [show ((0 : Int)).toNat = 0 from rfl] at hx291_2)
         (try rw [show 0 * 4 = 0 from rfl] at hx291_2)
         (try rw [Addr.add_zero'] at hx291_2)
         (try rw [show ((0 : Int)).toNat = 0 from rfl] at hx291_3)
         (try rw [show 0 * 4 = 0 from rfl] at hx291_3)
         (try rw [Addr.add_zero'] at hx291_3)
         replace hx291_0 := (HB.out.cell (World.block_lt_of_cell? w _ hx291_0)).trans hx291_0
         replace hx291_1 := (HB.out.cell (World.block_lt_of_cell? w _ hx291_1)).trans hx291_1
         replace hx291_2 := (HB.out.cell (World.block_lt_of_cell? w _ hx291_2)).trans hx291_2
         replace hx291_3 := (HB.out.cell (World.block_lt_of_cell? w _ hx291_3)).trans hx291_3
         have HR291_3 := Aside0.mk hi291_3
         have HC291_3 := Aside0.mk hl291_3
         clear hi291_3 hl291_3
         replace p291 := eq_true p291
         replace q291 := eq_true q291
         have p292 : 0 ≤ (0 : Int) := (by omega)
         have q292 : 0 < (l0.length : Int) := of_decide_eq_true (by first | (with_reducible assumption) | assumption)
         obtain ⟨ad292, A292_3, c292_3, e292, hx292_0, hx292_1, hx292_2, hx292_3, hl292_3, hi292_3⟩ := at_T26 HR0.out 0 p292 q292
         obtain rfl : ad291 = ad292 := (by injection e292)
         have qi292 : (0 < l0.length) = True := eq_true (by omega)
         (try rw [show ((0 : Int)).toNat = 0 from rfl] at hx292_0)
         (try rw [show 0 * 4 = 0 from rfl] at hx292_0)
         (try rw [Addr.add_zero'] at hx292_0)
         (try rw [show ((0 : Int)).toNat = 0 from rfl] at hx292_1)
         (try rw [show 0 * 4 = 0 from rfl] at hx292_1)
         (try rw [Addr.add_zero'] at hx292_1)
         (try rw [show ((0 : Int)).toNat = 0 from rfl] at hx292_2)
         (try rw [show 0 * 4 = 0 from rfl] at hx292_2)
         (try rw [Addr.add_zero'] at hx292_2)
         (try rw [show ((0 : Int)).toNat = 0 from rfl] at hx292_3)
         (try rw [show 0 * 4 = 0 from rfl] at hx292_3)
         (try rw [Addr.add_zero'] at hx292_3)
         replace hx292_0 := (HB.out.cell (World.block_lt_of_cell? w _ hx292_0)).trans hx292_0
         replace hx292_1 := (HB.out.cell (World.block_lt_of_cell? w _ hx292_1)).trans hx292_1
         replace hx292_2 := (HB.out.cell (World.block_lt_of_cell? w _ hx292_2)).trans hx292_2
         replace hx292_3 := (HB.out.cell (World.block_lt_of_cell? w _ hx292_3)).trans hx292_3
         have HR292_3 := Aside0.mk hi292_3
         have HC292_3 := Aside0.mk hl292_3
         clear hi292_3 hl292_3
         replace p292 := eq_true p292
         replace q292 := eq_true q292
         have ea_ := Option.some.inj (hx291_3.symm.trans hx292_3)
         injection ea_ with ea_ en_ ec_
         subst ea_
         subst ec_
         clear en_
         have p293 : 0 ≤ (x3_2 : Int) := of_decide_eq_true (by first | (with_reducible assumption) | assumption)
         have q293 : x3_2 < (((rd_T26 l0 0).f3).length : Int) := of_decide_eq_true (by first | (with_reducible assumption) | assumption)
         obtain ⟨ad293, A293_0, c293_0, e293, hx293_0, hl293_0, hi293_0⟩ := at_L3 HR292_3.out x3_2 p293 q293
         cases e293
         replace hx293_0 := (HB.out.cell (World.block_lt_of_cell? w _ hx293_0)).trans hx293_0
         have HR293_0 := Aside0.mk hi293_0
         have HC293_0 := Aside0.mk hl293_0
         clear hi293_0 hl293_0
         replace p293 := eq_true p293
         replace q293 := eq_true q293
         go_upto_region 7 with (fail)
         go_cut [98] (fun v98 wc => ∃ (kq : Nat) (x98_14 : Bool), v98 = .bool x98_14 ∧ Aside0 (spec_l21Ok.j2 kq l0 x3_2 x98_14 = some r) ∧ Aside0 (kq ≤ k2) ∧ Aside0 (Below w.heap.size w wc))
         case first =>
          have H := HC15.out
          clear HC15
          by_cases c16 : ((rd_L3 ((rd_T26 l0 0).f3) x3_2).length : Int) = 2
          ·rw [if_pos c16] at H
           have c16b0 : (((rd_L3 ((rd_T26 l0 0).f3) x3_2).length : Int) == 2) = true := beq_iff_eq.mpr c16
           have c16b1 : (((rd_L3 ((rd_T26 l0 0).f3) x3_2).length : Int) != 2) = false := bne_eq_false_iff_eq.mpr c16
           clear c16
           (first | rw [c16b0] | (simp only [i64_w, i32_w]; rw [c16b0]) | skip)
           by_cases c17 : 0 < ((rd_L3 ((rd_T26 l0 0).f3) x3_2).length : Int)
           ·rw [if_pos c17] at H
            have c17b0 : decide (0 < ((rd_L3 ((rd_T26 l0 0).f3) x3_2).length : Int)) = true := decide_eq_true c17
            have c17b1 : decide (0 < (rd_L3 ((rd_T26 l0 0).f3) x3_2).length) = true := decide_eq_true (by omega)
            clear c17
            replace H := Option.bind_eq_some_iff.mp H
            obtain ⟨t295, A180, H⟩ := H
            replace H : (if t295 = true then (if 1 < ((rd_L3 ((rd_T26 l0 0).f3) x3_2).length : Int) then ((spec_l00In.f (rd (rd_L3 ((rd_T26 l0 0).f3) x3_2) 1) 0 10000).bind fun t297 => (if t297 = true then (if x3_2 = 0 then (if (rd (rd_L3 ((rd_T26 l0 0).f3) x3_2) 0) = 0 then (if x3_2 > 0 then (if 0 ≤ (wrap64 (x3_2 - 1)) then (if (wrap64 (x3_2 - 1)) < (((rd_T26 l0 0).f3).length : Int) then (if 0 < ((rd_L3 ((rd_T26 l0 0).f3) (wrap64 (x3_2 - 1))).length : Int) then (spec_l21Ok.j2 k2 l0 x3_2 (decide ((rd (rd_L3 ((rd_T26 l0 0).f3) (wrap64 (x3_2 - 1))) 0) ≥ (rd (rd_L3 ((rd_T26 l0 0).f3) x3_2) 0)))) else (none)) else (none)) else (none)) else (spec_l21Ok.j2 k2 l0 x3_2 false)) else (spec_l21Ok.j2 k2 l0 x3_2 true)) else (if x3_2 > 0 then (if 0 ≤ (wrap64 (x3_2 - 1)) then (if (wrap64 (x3_2 - 1)) < (((rd_T26 l0 0).f3).length : Int) then (if 0 < ((rd_L3 ((rd_T26 l0 0).f3) (wrap64 (x3_2 - 1))).length : Int) then (spec_l21Ok.j2 k2 l0 x3_2 (decide ((rd (rd_L3 ((rd_T26 l0 0).f3) (wrap64 (x3_2 - 1))) 0) ≥ (rd (rd_L3 ((rd_T26 l0 0).f3) x3_2) 0)))) else (none)) else (none)) else (none)) else (spec_l21Ok.j2 k2 l0 x3_2 false))) else (spec_l21Ok.j2 k2 l0 x3_2 true))) else (none)) else (spec_l21Ok.j2 k2 l0 x3_2 true)) = some r := H
            have A18 := Aside0.mk A180
            clear A180
            by_cases c19 : t295 = true
            ·subst c19
             have H1 : (if 1 < ((rd_L3 ((rd_T26 l0 0).f3) x3_2).length : Int) then ((spec_l00In.f (rd (rd_L3 ((rd_T26 l0 0).f3) x3_2) 1) 0 10000).bind fun t297 => (if t297 = true then (if x3_2 = 0 then (if (rd (rd_L3 ((rd_T26 l0 0).f3) x3_2) 0) = 0 then (if x3_2 > 0 then (if 0 ≤ (wrap64 (x3_2 - 1)) then (if (wrap64 (x3_2 - 1)) < (((rd_T26 l0 0).f3).length : Int) then (if 0 < ((rd_L3 ((rd_T26 l0 0).f3) (wrap64 (x3_2 - 1))).length : Int) then (spec_l21Ok.j2 k2 l0 x3_2 (decide ((rd (rd_L3 ((rd_T26 l0 0).f3) (wrap64 (x3_2 - 1))) 0) ≥ (rd (rd_L3 ((rd_T26 l0 0).f3) x3_2) 0)))) else (none)) else (none)) else (none)) else (spec_l21Ok.j2 k2 l0 x3_2 false)) else (spec_l21Ok.j2 k2 l0 x3_2 true)) else (if x3_2 > 0 then (if 0 ≤ (wrap64 (x3_2 - 1)) then (if (wrap64 (x3_2 - 1)) < (((rd_T26 l0 0).f3).length : Int) then (if 0 < ((rd_L3 ((rd_T26 l0 0).f3) (wrap64 (x3_2 - 1))).length : Int) then (spec_l21Ok.j2 k2 l0 x3_2 (decide ((rd (rd_L3 ((rd_T26 l0 0).f3) (wrap64 (x3_2 - 1))) 0) ≥ (rd (rd_L3 ((rd_T26 l0 0).f3) x3_2) 0)))) else (none)) else (none)) else (none)) else (spec_l21Ok.j2 k2 l0 x3_2 false))) else (spec_l21Ok.j2 k2 l0 x3_2 true))) else (none)) = some r := by rw [if_pos rfl] at H; exact H
             clear H
             have H := H1
             clear H1
             by_cases c20 : 1 < ((rd_L3 ((rd_T26 l0 0).f3) x3_2).length : Int)
             ·rw [if_pos c20] at H
              have c20b0 : decide (1 < ((rd_L3 ((rd_T26 l0 0).f3) x3_2).length : Int)) = true := decide_eq_true c20
              have c20b1 : decide (1 < (rd_L3 ((rd_T26 l0 0).f3) x3_2).length) = true := decide_eq_true (by omega)
              clear c20
              replace H := Option.bind_eq_some_iff.mp H
              obtain ⟨t297, A210, H⟩ := H
              replace H : (if t297 = true then (if x3_2 = 0 then (if (rd (rd_L3 ((rd_T26 l0 0).f3) x3_2) 0) = 0 then (if x3_2 > 0 then (if 0 ≤ (wrap64 (x3_2 - 1)) then (if (wrap64 (x3_2 - 1)) < (((rd_T26 l0 0).f3).length : Int) then (if 0 < ((rd_L3 ((rd_T26 l0 0).f3) (wrap64 (x3_2 - 1))).length : Int) then (spec_l21Ok.j2 k2 l0 x3_2 (decide ((rd (rd_L3 ((rd_T26 l0 0).f3) (wrap64 (x3_2 - 1))) 0) ≥ (rd (rd_L3 ((rd_T26 l0 0).f3) x3_2) 0)))) else (none)) else (none)) else (none)) else (spec_l21Ok.j2 k2 l0 x3_2 false)) else (spec_l21Ok.j2 k2 l0 x3_2 true)) else (if x3_2 > 0 then (if 0 ≤ (wrap64 (x3_2 - 1)) then (if (wrap64 (x3_2 - 1)) < (((rd_T26 l0 0).f3).length : Int) then (if 0 < ((rd_L3 ((rd_T26 l0 0).f3) (wrap64 (x3_2 - 1))).length : Int) then (spec_l21Ok.j2 k2 l0 x3_2 (decide ((rd (rd_L3 ((rd_T26 l0 0).f3) (wrap64 (x3_2 - 1))) 0) ≥ (rd (rd_L3 ((rd_T26 l0 0).f3) x3_2) 0)))) else (none)) else (none)) else (none)) else (spec_l21Ok.j2 k2 l0 x3_2 false))) else (spec_l21Ok.j2 k2 l0 x3_2 true)) = some r := H
              have A21 := Aside0.mk A210
              clear A210
              by_cases c22 : t297 = true
              ·subst c22
               have H1 : (if x3_2 = 0 then (if (rd (rd_L3 ((rd_T26 l0 0).f3) x3_2) 0) = 0 then (if x3_2 > 0 then (if 0 ≤ (wrap64 (x3_2 - 1)) then (if (wrap64 (x3_2 - 1)) < (((rd_T26 l0 0).f3).length : Int) then (if 0 < ((rd_L3 ((rd_T26 l0 0).f3) (wrap64 (x3_2 - 1))).length : Int) then (spec_l21Ok.j2 k2 l0 x3_2 (decide ((rd (rd_L3 ((rd_T26 l0 0).f3) (wrap64 (x3_2 - 1))) 0) ≥ (rd (rd_L3 ((rd_T26 l0 0).f3) x3_2) 0)))) else (none)) else (none)) else (none)) else (spec_l21Ok.j2 k2 l0 x3_2 false)) else (spec_l21Ok.j2 k2 l0 x3_2 true)) else (if x3_2 > 0 then (if 0 ≤ (wrap64 (x3_2 - 1)) then (if (wrap64 (x3_2 - 1)) < (((rd_T26 l0 0).f3).length : Int) then (if 0 < ((rd_L3 ((rd_T26 l0 0).f3) (wrap64 (x3_2 - 1))).length : Int) then (spec_l21Ok.j2 k2 l0 x3_2 (decide ((rd (rd_L3 ((rd_T26 l0 0).f3) (wrap64 (x3_2 - 1))) 0) ≥ (rd (rd_L3 ((rd_T26 l0 0).f3) x3_2) 0)))) else (none)) else (none)) else (none)) else (spec_l21Ok.j2 k2 l0 x3_2 false))) = some r := by rw [if_pos rfl] at H; exact H
               clear H
               have H := H1
               clear H1
               by_cases c23 : x3_2 = 0
               ·rw [if_pos c23] at H
                have c23b0 : (x3_2 == 0) = true := beq_iff_eq.mpr c23
                have c23b1 : (x3_2 != 0) = false := bne_eq_false_iff_eq.mpr c23
                clear c23
                by_cases c24 : (rd (rd_L3 ((rd_T26 l0 0).f3) x3_2) 0) = 0
                ·rw [if_pos c24] at H
                 have c24b0 : ((rd (rd_L3 ((rd_T26 l0 0).f3) x3_2) 0) == 0) = true := beq_iff_eq.mpr c24
                 have c24b1 : ((rd (rd_L3 ((rd_T26 l0 0).f3) x3_2) 0) != 0) = false := bne_eq_false_iff_eq.mpr c24
                 clear c24
                 by_cases c25 : x3_2 > 0
                 ·rw [if_pos c25] at H
                  have c25b0 : decide (0 < x3_2) = true := decide_eq_true c25
                  clear c25
                  obtain ⟨ji26, hji26⟩ : ∃ j_ : Int, (wrap64 (x3_2 - 1)) = j_ := ⟨_, rfl⟩
                  replace H : (if 0 ≤ (ji26) then (if (ji26) < (((rd_T26 l0 0).f3).length : Int) then (if 0 < ((rd_L3 ((rd_T26 l0 0).f3) (ji26)).length : Int) then (spec_l21Ok.j2 k2 l0 x3_2 (decide ((rd (rd_L3 ((rd_T26 l0 0).f3) (ji26)) 0) ≥ (rd (rd_L3 ((rd_T26 l0 0).f3) x3_2) 0)))) else (none)) else (none)) else (none)) = some r := by first | (rw [hji26] at H; exact H) | (simp only [hji26] at H ⊢; exact H)
                  (try rw [hji26] at A18)
                  (try rw [hji26] at A21)
                  have hji26w : (IntKind.i64.wrap (x3_2 - 1)) = ji26 := (i64_w _).trans hji26
                  by_cases c27 : 0 ≤ (ji26)
                  ·rw [if_pos c27] at H
                   have c27b0 : decide (0 ≤ (ji26)) = true := decide_eq_true c27
                   clear c27
                   by_cases c28 : (ji26) < (((rd_T26 l0 0).f3).length : Int)
                   ·rw [if_pos c28] at H
                    have c28b0 : decide ((ji26) < (((rd_T26 l0 0).f3).length : Int)) = true := decide_eq_true c28
                    clear c28
                    by_cases c29 : 0 < ((rd_L3 ((rd_T26 l0 0).f3) (ji26)).length : Int)
                    ·rw [if_pos c29] at H
                     have c29b0 : decide (0 < ((rd_L3 ((rd_T26 l0 0).f3) (ji26)).length : Int)) = true := decide_eq_true c29
                     have c29b1 : decide (0 < (rd_L3 ((rd_T26 l0 0).f3) (ji26)).length) = true := decide_eq_true (by omega)
                     clear c29
                     have H' := Aside0.mk H
                     clear H
                     try go_wp2
                     have n0_ := Aside0.mk (below_drew1 HB.out)
                     clear HB
                     have HB := n0_
                     clear n0_
                     have p294 : 0 ≤ (0 : Int) := (by omega)
                     have q294 : 0 < ((rd_L3 ((rd_T26 l0 0).f3) x3_2).length : Int) := of_decide_eq_true (by first | (with_reducible assumption) | assumption)
                     obtain ⟨ad294, e294, hx294_0⟩ := Kd.at_int HR293_0.out 0 p294 q294
                     have hw294_0 := hx294_0
                     (try rw [show ((0 : Int)).toNat = 0 from rfl] at hw294_0)
                     (try rw [show 0 * 1 = 0 from rfl] at hw294_0)
                     (try rw [Addr.add_zero'] at hw294_0)
                     cases e294
                     have qi294 : (0 < (rd_L3 ((rd_T26 l0 0).f3) x3_2).length) = True := eq_true (by omega)
                     (try rw [show ((0 : Int)).toNat = 0 from rfl] at hx294_0)
                     (try rw [Addr.add_zero'] at hx294_0)
                     replace hx294_0 := (HB.out.cell (World.block_lt_of_cell? w _ hx294_0)).trans hx294_0
                     replace p294 := eq_true p294
                     replace q294 := eq_true q294
                     have p296 : 0 ≤ (1 : Int) := (by omega)
                     have q296 : 1 < ((rd_L3 ((rd_T26 l0 0).f3) x3_2).length : Int) := of_decide_eq_true (by first | (with_reducible assumption) | assumption)
                     obtain ⟨ad296, e296, hx296_0⟩ := Kd.at_int HR293_0.out 1 p296 q296
                     have hw296_0 := hx296_0
                     (try rw [show ((1 : Int)).toNat = 1 from rfl] at hw296_0)
                     (try rw [show 1 * 1 = 1 from rfl] at hw296_0)
                     (try simp only [Nat.reduceMul, Nat.reduceEqDiff, Go.Addr.add, ↓reduceIte] at hw296_0)
                     obtain rfl : ad294 = ad296 := (by injection e296)
                     (try simp only [show (1 : Int).toNat = 1 from rfl, Nat.reduceMul, Nat.reduceEqDiff, Go.Addr.add, ↓reduceIte] at hx296_0)
                     have qi296 : (1 < (rd_L3 ((rd_T26 l0 0).f3) x3_2).length) = True := eq_true (by omega)
                     (try rw [show ((1 : Int)).toNat = 1 from rfl] at hx296_0)
                     replace hx296_0 := (HB.out.cell (World.block_lt_of_cell? w _ hx296_0)).trans hx296_0
                     replace p296 := eq_true p296
                     replace q296 := eq_true q296
                     have p298 : 0 ≤ (0 : Int) := (by omega)
                     have q298 : 0 < ((rd_L3 ((rd_T26 l0 0).f3) x3_2).length : Int) := of_decide_eq_true (by first | (with_reducible assumption) | assumption)
                     obtain ⟨ad298, e298, hx298_0⟩ := Kd.at_int HR293_0.out 0 p298 q298
                     have hw298_0 := hx298_0
                     (try rw [show ((0 : Int)).toNat = 0 from rfl] at hw298_0)
                     (try rw [show 0 * 1 = 0 from rfl] at hw298_0)
                     (try rw [Addr.add_zero'] at hw298_0)
                     obtain rfl : ad294 = ad298 := (by injection e298)
                     have qi298 : (0 < (rd_L3 ((rd_T26 l0 0).f3) x3_2).length) = True := eq_true (by omega)
                     (try rw [show ((0 : Int)).toNat = 0 from rfl] at hx298_0)
                     (try rw [Addr.add_zero'] at hx298_0)
                     replace hx298_0 := (HB.out.cell (World.block_lt_of_cell? w _ hx298_0)).trans hx298_0
                     replace p298 := eq_true p298
                     replace q298 := eq_true q298
                     have p299 : 0 ≤ (0 : Int) := (by omega)
                     have q299 : 0 < (l0.length : Int) := of_decide_eq_true (by first | (with_reducible assumption) | assumption)
                     obtain ⟨ad299, A299_3, c299_3, e299, hx299_0, hx299_1, hx299_2, hx299_3, hl299_3, hi299_3⟩ := at_T26 HR0.out 0 p299 q299
                     have hw299_3 := hx299_3
                     (try rw [show ((0 : Int)).toNat = 0 from rfl] at hw299_3)
                     (try rw [show 0 * 4 = 0 from rfl] at hw299_3)
                     (try rw [Addr.add_zero'] at hw299_3)
                     have hw299_2 := hx299_2
                     (try rw [show ((0 : Int)).toNat = 0 from rfl] at hw299_2)
                     (try rw [show 0 * 4 = 0 from rfl] at hw299_2)
                     (try rw [Addr.add_zero'] at hw299_2)
                     have hw299_1 := hx299_1
                     (try rw [show ((0 : Int)).toNat = 0 from rfl] at hw299_1)
                     (try rw [show 0 * 4 = 0 from rfl] at hw299_1)
                     (try rw [Addr.add_zero'] at hw299_1)
                     have hw299_0 := hx299_0
                     (try rw [show ((0 : Int)).toNat = 0 from rfl] at hw299_0)
                     (try rw [show 0 * 4 = 0 from rfl] at hw299_0)
                     (try rw [Addr.add_zero'] at hw299_0)
                     obtain rfl : ad291 = ad299 := (by injection e299)
                     have qi299 : (0 < l0.length) = True := eq_true (by omega)
                     (try rw [show ((0 : Int)).toNat = 0 from rfl] at hx299_0)
                     (try rw [show 0 * 4 = 0 from rfl] at hx299_0)
                     (try rw [Addr.add_zero'] at hx299_0)
                     (try rw [show ((0 : Int)).toNat = 0 from rfl] at hx299_1)
                     (try rw [show 0 * 4 = 0 from rfl] at hx299_1)
                     (try rw [Addr.add_zero'] at hx299_1)
                     (try rw [show ((0 : Int)).toNat = 0 from rfl] at hx299_2)
                     (try rw [show 0 * 4 = 0 from rfl] at hx299_2)
                     (try rw [Addr.add_zero'] at hx299_2)
                     (try rw [show ((0 : Int)).toNat = 0 from rfl] at hx299_3)
                     (try rw [show 0 * 4 = 0 from rfl] at hx299_3)
                     (try rw [Addr.add_zero'] at hx299_3)
                     replace hx299_0 := (HB.out.cell (World.block_lt_of_cell? w _ hx299_0)).trans hx299_0
                     replace hx299_1 := (HB.out.cell (World.block_lt_of_cell? w _ hx299_1)).trans hx299_1
                     replace hx299_2 := (HB.out.cell (World.block_lt_of_cell? w _ hx299_2)).trans hx299_2
                     replace hx299_3 := (HB.out.cell (World.block_lt_of_cell? w _ hx299_3)).trans hx299_3
                     have HR299_3 := Aside0.mk hi299_3
                     have HC299_3 := Aside0.mk hl299_3
                     clear hi299_3 hl299_3
                     replace p299 := eq_true p299
                     replace q299 := eq_true q299
                     have p300 : 0 ≤ ((ji26) : Int) := of_decide_eq_true (by first | (with_reducible assumption) | assumption)
                     have q300 : (ji26) < (((rd_T26 l0 0).f3).length : Int) := of_decide_eq_true (by first | (with_reducible assumption) | assumption)
                     obtain ⟨ad300, A300_0, c300_0, e300, hx300_0, hl300_0, hi300_0⟩ := at_L3 HR299_3.out (ji26) p300 q300
                     have hw300_0 := hx300_0
                     cases e300
                     replace hx300_0 := (HB.out.cell (World.block_lt_of_cell? w _ hx300_0)).trans hx300_0
                     have HR300_0 := Aside0.mk hi300_0
                     have HC300_0 := Aside0.mk hl300_0
                     clear hi300_0 hl300_0
                     replace p300 := eq_true p300
                     replace q300 := eq_true q300
                     have p301 : 0 ≤ (0 : Int) := (by omega)
                     have q301 : 0 < ((rd_L3 ((rd_T26 l0 0).f3) (ji26)).length : Int) := of_decide_eq_true (by first | (with_reducible assumption) | assumption)
                     obtain ⟨ad301, e301, hx301_0⟩ := Kd.at_int HR300_0.out 0 p301 q301
                     have hw301_0 := hx301_0
                     (try rw [show ((0 : Int)).toNat = 0 from rfl] at hw301_0)
                     (try rw [show 0 * 1 = 0 from rfl] at hw301_0)
                     (try rw [Addr.add_zero'] at hw301_0)
                     cases e301
                     have qi301 : (0 < (rd_L3 ((rd_T26 l0 0).f3) (ji26)).length) = True := eq_true (by omega)
                     (try rw [show ((0 : Int)).toNat = 0 from rfl] at hx301_0)
                     (try rw [Addr.add_zero'] at hx301_0)
                     replace hx301_0 := (HB.out.cell (World.block_lt_of_cell? w _ hx301_0)).trans hx301_0
                     replace p301 := eq_true p301
                     replace q301 := eq_true q301
                     have p302 : 0 ≤ (0 : Int) := (by omega)
                     have q302 : 0 < ((rd_L3 ((rd_T26 l0 0).f3) x3_2).length : Int) := of_decide_eq_true (by first | (with_reducible assumption) | assumption)
                     obtain ⟨ad302, e302, hx302_0⟩ := Kd.at_int HR293_0.out 0 p302 q302
                     have hw302_0 := hx302_0
                     (try rw [show ((0 : Int)).toNat = 0 from rfl] at hw302_0)
                     (try rw [show 0 * 1 = 0 from rfl] at hw302_0)
                     (try rw [Addr.add_zero'] at hw302_0)
                     obtain rfl : ad294 = ad302 := (by injection e302)
                     have qi302 : (0 < (rd_L3 ((rd_T26 l0 0).f3) x3_2).length) = True := eq_true (by omega)
                     (try rw [show ((0 : Int)).toNat = 0 from rfl] at hx302_0)
                     (try rw [Addr.add_zero'] at hx302_0)
                     replace hx302_0 := (HB.out.cell (World.block_lt_of_cell? w _ hx302_0)).trans hx302_0
                     replace p302 := eq_true p302
                     replace q302 := eq_true q302
                     refine start_ (n := 47) (S := fun w' => w'.cell? ad294 = some (.int .i64 (rd (rd_L3 ((rd_T26 l0 0).f3) x3_2) 0)) ∧ w'.cell? ⟨ad294.block, ad294.off + 1, none⟩ = some (.int .i64 (rd (rd_L3 ((rd_T26 l0 0).f3) x3_2) 1)) ∧ w'.cell? ad294 = some (.int .i64 (rd (rd_L3 ((rd_T26 l0 0).f3) x3_2) 0)) ∧ w'.cell? ad291 = some (.string ((rd_T26 l0 0).f0)) ∧ w'.cell? ⟨ad291.block, ad291.off + 1, none⟩ = some (.int .i64 ((rd_T26 l0 0).f1)) ∧ w'.cell? ⟨ad291.block, ad291.off + 2, none⟩ = some (.int .i64 ((rd_T26 l0 0).f2)) ∧ w'.cell? ⟨ad291.block, ad291.off + 3, none⟩ = some (.slice (some ad300) ((rd_T26 l0 0).f3).length c299_3) ∧ w'.cell? (ad300.add ((ji26)).toNat) = some (.slice (some ad301) (rd_L3 ((rd_T26 l0 0).f3) (ji26)).length c300_0) ∧ w'.cell? ad301 = some (.int .i64 (rd (rd_L3 ((rd_T26 l0 0).f3) (ji26)) 0)) ∧ w'.cell? ad294 = some (.int .i64 (rd (rd_L3 ((rd_T26 l0 0).f3) x3_2) 0))) (ds := []) (tf 0 47) (by kernel_rfl) rfl rfl ⟨((HB.out.cell (World.block_lt_of_cell? w _ hw294_0)).trans hw294_0), ((HB.out.cell (World.block_lt_of_cell? w _ hw296_0)).trans hw296_0), ((HB.out.cell (World.block_lt_of_cell? w _ hw298_0)).trans hw298_0), ((HB.out.cell (World.block_lt_of_cell? w _ hw299_0)).trans hw299_0), ((HB.out.cell (World.block_lt_of_cell? w _ hw299_1)).trans hw299_1), ((HB.out.cell (World.block_lt_of_cell? w _ hw299_2)).trans hw299_2), ((HB.out.cell (World.block_lt_of_cell? w _ hw299_3)).trans hw299_3), ((HB.out.cell (World.block_lt_of_cell? w _ hw300_0)).trans hw300_0), ((HB.out.cell (World.block_lt_of_cell? w _ hw301_0)).trans hw301_0), ((HB.out.cell (World.block_lt_of_cell? w _ hw302_0)).trans hw302_0)⟩ (fun hHeld => ?_); refine with_tabW spec_l21Ok.tab7 spec_l21Ok.bits7 (fun HT_ HW_ => ?_)
                     generalize wr.drew = w30 at HB HR299_3 HR300_0 hx294_0 hx296_0 hx298_0 hx299_0 hx299_1 hx299_2 hx299_3 hx300_0 hx301_0 hx302_0 hHeld ⊢
                     refine px 0 (some 52) (tf 1 47) HT_ ?_
                     refine px 1 (some 53) (tf 2 47) HT_ ?_
                     refine px 2 (some 54) (tf 3 47) HT_ ?_
                     refine px 3 (some 55) (tf 4 47) HT_ ?_
                     refine px 4 (some 56) (tf 5 47) HT_ ?_
                     refine px 5 (some 57) (tf 6 47) HT_ ?_
                     refine tx (v := ?_) 6 (some 58) (tf 7 47) HT_ HW_ hHeld ?_ ?_
                     rotate_left; (· rintro w' ⟨s0, s1, s2, s3, s4, s5, s6, s7, s8, s9⟩; go_simp; with_reducible rfl)
                     refine one_ (i := 7) (N := some 59) (tf 8 47) rfl rfl (one_of HT_.out (by kernel_rfl)) (by decide) (fun K hK => ?_)
                     refine goes_ Tryd.func26 (by kernel_rfl) rfl #[.int .i64 (rd (rd_L3 ((rd_T26 l0 0).f3) x3_2) 0), .int .i64 0, .int .i64 1000000] (by rfl) rfl rfl (by (try simp only [List.map_toArray, List.map_cons, List.map_nil]); first | done | rfl | (simp only [List.length_drop, List.length_take]; rfl)) ?_
                     with_reducible refine (spec_l00In.calls (rd (rd_L3 ((rd_T26 l0 0).f3) x3_2) 0) 0 1000000 true _ A18.out).mono ?_
                     rintro e w' ⟨rfl, ⟨nd, rfl⟩⟩
                     refine ⟨_, rfl, ?_⟩
                     refine hK.out _ _ ⟨((HB.out.cell (World.block_lt_of_cell? w _ hw294_0)).trans hw294_0), ((HB.out.cell (World.block_lt_of_cell? w _ hw296_0)).trans hw296_0), ((HB.out.cell (World.block_lt_of_cell? w _ hw298_0)).trans hw298_0), ((HB.out.cell (World.block_lt_of_cell? w _ hw299_0)).trans hw299_0), ((HB.out.cell (World.block_lt_of_cell? w _ hw299_1)).trans hw299_1), ((HB.out.cell (World.block_lt_of_cell? w _ hw299_2)).trans hw299_2), ((HB.out.cell (World.block_lt_of_cell? w _ hw299_3)).trans hw299_3), ((HB.out.cell (World.block_lt_of_cell? w _ hw300_0)).trans hw300_0), ((HB.out.cell (World.block_lt_of_cell? w _ hw301_0)).trans hw301_0), ((HB.out.cell (World.block_lt_of_cell? w _ hw302_0)).trans hw302_0)⟩ (fun hHeld => ?_)
                     clear hK K
                     refine norm_ (a' := ?_) ?_ ?_
                     rotate_left
                     ·show Act.put _ (some 59) _ = _
                      simp only [Act.put, List.setIfInBounds_toArray, List.set_cons_zero, List.set_cons_succ, i64_w, i32_w]
                      rfl
                     refine px 8 (some 60) (tf 9 47) HT_ ?_
                     refine px 9 (some 61) (tf 10 47) HT_ ?_
                     refine px 10 (some 62) (tf 11 47) HT_ ?_
                     refine px 11 (some 63) (tf 12 47) HT_ ?_
                     refine px 12 (some 64) (tf 13 47) HT_ ?_
                     refine tx (v := ?_) 13 (some 65) (tf 14 47) HT_ HW_ hHeld ?_ ?_
                     rotate_left; (· rintro w' ⟨s0, s1, s2, s3, s4, s5, s6, s7, s8, s9⟩; go_simp; with_reducible rfl)
                     refine one_ (i := 14) (N := some 66) (tf 15 47) rfl rfl (one_of HT_.out (by kernel_rfl)) (by decide) (fun K hK => ?_)
                     refine goes_ Tryd.func26 (by kernel_rfl) rfl #[.int .i64 (rd (rd_L3 ((rd_T26 l0 0).f3) x3_2) 1), .int .i64 0, .int .i64 10000] (by rfl) rfl rfl (by (try simp only [List.map_toArray, List.map_cons, List.map_nil]); first | done | rfl | (simp only [List.length_drop, List.length_take]; rfl)) ?_
                     with_reducible refine (spec_l00In.calls (rd (rd_L3 ((rd_T26 l0 0).f3) x3_2) 1) 0 10000 true _ A21.out).mono ?_
                     rintro e w' ⟨rfl, ⟨nd, rfl⟩⟩
                     refine ⟨_, rfl, ?_⟩
                     refine hK.out _ _ ⟨((HB.out.cell (World.block_lt_of_cell? w _ hw294_0)).trans hw294_0), ((HB.out.cell (World.block_lt_of_cell? w _ hw296_0)).trans hw296_0), ((HB.out.cell (World.block_lt_of_cell? w _ hw298_0)).trans hw298_0), ((HB.out.cell (World.block_lt_of_cell? w _ hw299_0)).trans hw299_0), ((HB.out.cell (World.block_lt_of_cell? w _ hw299_1)).trans hw299_1), ((HB.out.cell (World.block_lt_of_cell? w _ hw299_2)).trans hw299_2), ((HB.out.cell (World.block_lt_of_cell? w _ hw299_3)).trans hw299_3), ((HB.out.cell (World.block_lt_of_cell? w _ hw300_0)).trans hw300_0), ((HB.out.cell (World.block_lt_of_cell? w _ hw301_0)).trans hw301_0), ((HB.out.cell (World.block_lt_of_cell? w _ hw302_0)).trans hw302_0)⟩ (fun hHeld => ?_)
                     clear hK K
                     refine norm_ (a' := ?_) ?_ ?_
                     rotate_left
                     ·show Act.put _ (some 66) _ = _
                      simp only [Act.put, List.setIfInBounds_toArray, List.set_cons_zero, List.set_cons_succ, i64_w, i32_w]
                      rfl
                     refine px 15 (some 67) (tf 16 47) HT_ ?_
                     refine px 16 (some 68) (tf 17 47) HT_ ?_
                     refine px 17 (some 69) (tf 18 47) HT_ ?_
                     refine px 18 (some 70) (tf 19 47) HT_ ?_
                     refine px 19 (some 71) (tf 20 47) HT_ ?_
                     refine px 20 (some 72) (tf 21 47) HT_ ?_
                     refine px 21 (some 73) (tf 22 47) HT_ ?_
                     refine px 22 (some 74) (tf 23 47) HT_ ?_
                     refine tx (v := ?_) 23 (some 75) (tf 24 47) HT_ HW_ hHeld ?_ ?_
                     rotate_left; (· rintro w' ⟨s0, s1, s2, s3, s4, s5, s6, s7, s8, s9⟩; go_simp; with_reducible rfl)
                     refine px 24 (some 76) (tf 25 47) HT_ ?_
                     refine px 25 (some 77) (tf 26 47) HT_ ?_
                     refine px 26 (some 78) (tf 27 47) HT_ ?_
                     refine px 27 (some 79) (tf 28 47) HT_ ?_
                     refine px 28 (some 80) (tf 29 47) HT_ ?_
                     refine px 29 (some 81) (tf 30 47) HT_ ?_
                     refine px 30 (some 82) (tf 31 47) HT_ ?_
                     refine px 31 (some 83) (tf 32 47) HT_ ?_
                     refine px 32 (some 84) (tf 33 47) HT_ ?_
                     refine px 33 (some 85) (tf 34 47) HT_ ?_
                     refine px 35 (some 87) (tb 47 51539607551) HT_ ?_
                     refine px 36 (some 88) (tb 47 120259084287) HT_ ?_
                     refine px 41 (some 93) (tb 47 2319282339839) HT_ ?_
                     refine px 42 (some 94) (tb 47 6717328850943) HT_ ?_
                     refine tx (v := ?_) 34 (some 86) (tb 47 6734508720127) HT_ HW_ hHeld ?_ ?_
                     rotate_left; (· rintro w' ⟨s0, s1, s2, s3, s4, s5, s6, s7, s8, s9⟩; go_simp; with_reducible rfl)
                     refine px 37 (some 89) (tb 47 6871947673599) HT_ ?_
                     refine tx (v := ?_) 38 (some 90) (tb 47 7146825580543) HT_ HW_ hHeld ?_ ?_
                     rotate_left; (· rintro w' ⟨s0, s1, s2, s3, s4, s5, s6, s7, s8, s9⟩; go_simp; with_reducible rfl)
                     refine px 39 (some 91) (tb 47 7696581394431) HT_ ?_
                     refine tx (v := ?_) 40 (some 92) (tf 43 47) HT_ HW_ hHeld ?_ ?_
                     rotate_left; (· rintro w' ⟨s0, s1, s2, s3, s4, s5, s6, s7, s8, s9⟩; go_simp; with_reducible rfl)
                     refine tx (v := ?_) 43 (some 95) (tf 44 47) HT_ HW_ hHeld ?_ ?_
                     rotate_left; (· rintro w' ⟨s0, s1, s2, s3, s4, s5, s6, s7, s8, s9⟩; go_simp; with_reducible rfl)
                     refine px 44 (some 96) (tf 45 47) HT_ ?_
                     refine px 45 (some 97) (tf 46 47) HT_ ?_
                     refine px 46 (some 98) (tf 47 47) HT_ ?_
                     refine done_ (done_of HT_.out (by kernel_rfl)) ?_
                     try go_wp2
                     go_meet
                     case rel => exact ⟨_, (decide ((rd (rd_L3 ((rd_T26 l0 0).f3) (ji26)) 0) ≥ (rd (rd_L3 ((rd_T26 l0 0).f3) x3_2) 0))), (by first | rfl | (simp; done) | (simp only [← hji26] <;> (first | rfl | simp)) | (simp [*]; done)), H', ⟨by have := HJ1.out; have := HK2.out; first | omega | exact Nat.le_refl _⟩, ⟨by repeat (first | (with_reducible first | exact HB.out | apply below_alloc | apply pw_below_drewN | apply below_drew1) | exact HB.out)⟩⟩
                    ·rw [if_neg c29] at H
                     exact absurd H (by simp)
                   ·rw [if_neg c28] at H
                    exact absurd H (by simp)
                  ·rw [if_neg c27] at H
                   exact absurd H (by simp)
                 ·rw [if_neg c25] at H
                  have c25b0 : decide (0 < x3_2) = false := decide_eq_false c25
                  clear c25
                  have H' := Aside0.mk H
                  clear H
                  try go_wp2
                  have n0_ := Aside0.mk (below_drew1 HB.out)
                  clear HB
                  have HB := n0_
                  clear n0_
                  have p294 : 0 ≤ (0 : Int) := (by omega)
                  have q294 : 0 < ((rd_L3 ((rd_T26 l0 0).f3) x3_2).length : Int) := of_decide_eq_true (by first | (with_reducible assumption) | assumption)
                  obtain ⟨ad294, e294, hx294_0⟩ := Kd.at_int HR293_0.out 0 p294 q294
                  have hw294_0 := hx294_0
                  (try rw [show ((0 : Int)).toNat = 0 from rfl] at hw294_0)
                  (try rw [show 0 * 1 = 0 from rfl] at hw294_0)
                  (try rw [Addr.add_zero'] at hw294_0)
                  cases e294
                  have qi294 : (0 < (rd_L3 ((rd_T26 l0 0).f3) x3_2).length) = True := eq_true (by omega)
                  (try rw [show ((0 : Int)).toNat = 0 from rfl] at hx294_0)
                  (try rw [Addr.add_zero'] at hx294_0)
                  replace hx294_0 := (HB.out.cell (World.block_lt_of_cell? w _ hx294_0)).trans hx294_0
                  replace p294 := eq_true p294
                  replace q294 := eq_true q294
                  have p296 : 0 ≤ (1 : Int) := (by omega)
                  have q296 : 1 < ((rd_L3 ((rd_T26 l0 0).f3) x3_2).length : Int) := of_decide_eq_true (by first | (with_reducible assumption) | assumption)
                  obtain ⟨ad296, e296, hx296_0⟩ := Kd.at_int HR293_0.out 1 p296 q296
                  have hw296_0 := hx296_0
                  (try rw [show ((1 : Int)).toNat = 1 from rfl] at hw296_0)
                  (try rw [show 1 * 1 = 1 from rfl] at hw296_0)
                  (try simp only [Nat.reduceMul, Nat.reduceEqDiff, Go.Addr.add, ↓reduceIte] at hw296_0)
                  obtain rfl : ad294 = ad296 := (by injection e296)
                  (try simp only [show (1 : Int).toNat = 1 from rfl, Nat.reduceMul, Nat.reduceEqDiff, Go.Addr.add, ↓reduceIte] at hx296_0)
                  have qi296 : (1 < (rd_L3 ((rd_T26 l0 0).f3) x3_2).length) = True := eq_true (by omega)
                  (try rw [show ((1 : Int)).toNat = 1 from rfl] at hx296_0)
                  replace hx296_0 := (HB.out.cell (World.block_lt_of_cell? w _ hx296_0)).trans hx296_0
                  replace p296 := eq_true p296
                  replace q296 := eq_true q296
                  have p298 : 0 ≤ (0 : Int) := (by omega)
                  have q298 : 0 < ((rd_L3 ((rd_T26 l0 0).f3) x3_2).length : Int) := of_decide_eq_true (by first | (with_reducible assumption) | assumption)
                  obtain ⟨ad298, e298, hx298_0⟩ := Kd.at_int HR293_0.out 0 p298 q298
                  have hw298_0 := hx298_0
                  (try rw [show ((0 : Int)).toNat = 0 from rfl] at hw298_0)
                  (try rw [show 0 * 1 = 0 from rfl] at hw298_0)
                  (try rw [Addr.add_zero'] at hw298_0)
                  obtain rfl : ad294 = ad298 := (by injection e298)
                  have qi298 : (0 < (rd_L3 ((rd_T26 l0 0).f3) x3_2).length) = True := eq_true (by omega)
                  (try rw [show ((0 : Int)).toNat = 0 from rfl] at hx298_0)
                  (try rw [Addr.add_zero'] at hx298_0)
                  replace hx298_0 := (HB.out.cell (World.block_lt_of_cell? w _ hx298_0)).trans hx298_0
                  replace p298 := eq_true p298
                  replace q298 := eq_true q298
                  refine start_ (n := 47) (S := fun w' => w'.cell? ad294 = some (.int .i64 (rd (rd_L3 ((rd_T26 l0 0).f3) x3_2) 0)) ∧ w'.cell? ⟨ad294.block, ad294.off + 1, none⟩ = some (.int .i64 (rd (rd_L3 ((rd_T26 l0 0).f3) x3_2) 1)) ∧ w'.cell? ad294 = some (.int .i64 (rd (rd_L3 ((rd_T26 l0 0).f3) x3_2) 0))) (ds := []) (tf 0 47) (by kernel_rfl) rfl rfl ⟨((HB.out.cell (World.block_lt_of_cell? w _ hw294_0)).trans hw294_0), ((HB.out.cell (World.block_lt_of_cell? w _ hw296_0)).trans hw296_0), ((HB.out.cell (World.block_lt_of_cell? w _ hw298_0)).trans hw298_0)⟩ (fun hHeld => ?_); refine with_tabW spec_l21Ok.tab7 spec_l21Ok.bits7 (fun HT_ HW_ => ?_)
                  generalize wr.drew = w31 at HB hx294_0 hx296_0 hx298_0 hHeld ⊢
                  refine px 0 (some 52) (tf 1 47) HT_ ?_
                  refine px 1 (some 53) (tf 2 47) HT_ ?_
                  refine px 2 (some 54) (tf 3 47) HT_ ?_
                  refine px 3 (some 55) (tf 4 47) HT_ ?_
                  refine px 4 (some 56) (tf 5 47) HT_ ?_
                  refine px 5 (some 57) (tf 6 47) HT_ ?_
                  refine tx (v := ?_) 6 (some 58) (tf 7 47) HT_ HW_ hHeld ?_ ?_
                  rotate_left; (· rintro w' ⟨s0, s1, s2⟩; go_simp; with_reducible rfl)
                  refine one_ (i := 7) (N := some 59) (tf 8 47) rfl rfl (one_of HT_.out (by kernel_rfl)) (by decide) (fun K hK => ?_)
                  refine goes_ Tryd.func26 (by kernel_rfl) rfl #[.int .i64 (rd (rd_L3 ((rd_T26 l0 0).f3) x3_2) 0), .int .i64 0, .int .i64 1000000] (by rfl) rfl rfl (by (try simp only [List.map_toArray, List.map_cons, List.map_nil]); first | done | rfl | (simp only [List.length_drop, List.length_take]; rfl)) ?_
                  with_reducible refine (spec_l00In.calls (rd (rd_L3 ((rd_T26 l0 0).f3) x3_2) 0) 0 1000000 true _ A18.out).mono ?_
                  rintro e w' ⟨rfl, ⟨nd, rfl⟩⟩
                  refine ⟨_, rfl, ?_⟩
                  refine hK.out _ _ ⟨((HB.out.cell (World.block_lt_of_cell? w _ hw294_0)).trans hw294_0), ((HB.out.cell (World.block_lt_of_cell? w _ hw296_0)).trans hw296_0), ((HB.out.cell (World.block_lt_of_cell? w _ hw298_0)).trans hw298_0)⟩ (fun hHeld => ?_)
                  clear hK K
                  refine norm_ (a' := ?_) ?_ ?_
                  rotate_left
                  ·show Act.put _ (some 59) _ = _
                   simp only [Act.put, List.setIfInBounds_toArray, List.set_cons_zero, List.set_cons_succ, i64_w, i32_w]
                   rfl
                  refine px 8 (some 60) (tf 9 47) HT_ ?_
                  refine px 9 (some 61) (tf 10 47) HT_ ?_
                  refine px 10 (some 62) (tf 11 47) HT_ ?_
                  refine px 11 (some 63) (tf 12 47) HT_ ?_
                  refine px 12 (some 64) (tf 13 47) HT_ ?_
                  refine tx (v := ?_) 13 (some 65) (tf 14 47) HT_ HW_ hHeld ?_ ?_
                  rotate_left; (· rintro w' ⟨s0, s1, s2⟩; go_simp; with_reducible rfl)
                  refine one_ (i := 14) (N := some 66) (tf 15 47) rfl rfl (one_of HT_.out (by kernel_rfl)) (by decide) (fun K hK => ?_)
                  refine goes_ Tryd.func26 (by kernel_rfl) rfl #[.int .i64 (rd (rd_L3 ((rd_T26 l0 0).f3) x3_2) 1), .int .i64 0, .int .i64 10000] (by rfl) rfl rfl (by (try simp only [List.map_toArray, List.map_cons, List.map_nil]); first | done | rfl | (simp only [List.length_drop, List.length_take]; rfl)) ?_
                  with_reducible refine (spec_l00In.calls (rd (rd_L3 ((rd_T26 l0 0).f3) x3_2) 1) 0 10000 true _ A21.out).mono ?_
                  rintro e w' ⟨rfl, ⟨nd, rfl⟩⟩
                  refine ⟨_, rfl, ?_⟩
                  refine hK.out _ _ ⟨((HB.out.cell (World.block_lt_of_cell? w _ hw294_0)).trans hw294_0), ((HB.out.cell (World.block_lt_of_cell? w _ hw296_0)).trans hw296_0), ((HB.out.cell (World.block_lt_of_cell? w _ hw298_0)).trans hw298_0)⟩ (fun hHeld => ?_)
                  clear hK K
                  refine norm_ (a' := ?_) ?_ ?_
                  rotate_left
                  ·show Act.put _ (some 66) _ = _
                   simp only [Act.put, List.setIfInBounds_toArray, List.set_cons_zero, List.set_cons_succ, i64_w, i32_w]
                   rfl
                  refine px 15 (some 67) (tf 16 47) HT_ ?_
                  refine px 16 (some 68) (tf 17 47) HT_ ?_
                  refine px 17 (some 69) (tf 18 47) HT_ ?_
                  refine px 18 (some 70) (tf 19 47) HT_ ?_
                  refine px 19 (some 71) (tf 20 47) HT_ ?_
                  refine px 20 (some 72) (tf 21 47) HT_ ?_
                  refine px 21 (some 73) (tf 22 47) HT_ ?_
                  refine px 22 (some 74) (tf 23 47) HT_ ?_
                  refine tx (v := ?_) 23 (some 75) (tf 24 47) HT_ HW_ hHeld ?_ ?_
                  rotate_left; (· rintro w' ⟨s0, s1, s2⟩; go_simp; with_reducible rfl)
                  refine px 24 (some 76) (tf 25 47) HT_ ?_
                  refine px 25 (some 77) (tf 26 47) HT_ ?_
                  refine px 26 (some 78) (tf 27 47) HT_ ?_
                  refine px 27 (some 79) (tf 28 47) HT_ ?_
                  refine px 28 (some 80) (tf 29 47) HT_ ?_
                  refine px 29 (some 81) (tf 30 47) HT_ ?_
                  refine px 30 (some 82) (tf 31 47) HT_ ?_
                  refine sx 31 (some 83) (tf 32 47) HT_ ?_
                  refine sx 32 (some 84) (tf 33 47) HT_ ?_
                  refine sx 33 (some 85) (tf 34 47) HT_ ?_
                  refine sx 34 (some 86) (tf 35 47) HT_ ?_
                  refine sx 35 (some 87) (tf 36 47) HT_ ?_
                  refine sx 36 (some 88) (tf 37 47) HT_ ?_
                  refine sx 37 (some 89) (tf 38 47) HT_ ?_
                  refine sx 38 (some 90) (tf 39 47) HT_ ?_
                  refine sx 39 (some 91) (tf 40 47) HT_ ?_
                  refine sx 40 (some 92) (tf 41 47) HT_ ?_
                  refine sx 41 (some 93) (tf 42 47) HT_ ?_
                  refine sx 42 (some 94) (tf 43 47) HT_ ?_
                  refine sx 43 (some 95) (tf 44 47) HT_ ?_
                  refine sx 44 (some 96) (tf 45 47) HT_ ?_
                  refine px 45 (some 97) (tf 46 47) HT_ ?_
                  refine px 46 (some 98) (tf 47 47) HT_ ?_
                  refine done_ (done_of HT_.out (by kernel_rfl)) ?_
                  try go_wp2
                  go_meet
                  case rel => exact ⟨_, (false), (by first | rfl | (simp; done) | (simp [*]; done)), H', ⟨by have := HJ1.out; have := HK2.out; first | omega | exact Nat.le_refl _⟩, ⟨by repeat (first | (with_reducible first | exact HB.out | apply below_alloc | apply pw_below_drewN | apply below_drew1) | exact HB.out)⟩⟩
                ·rw [if_neg c24] at H
                 have c24b0 : ((rd (rd_L3 ((rd_T26 l0 0).f3) x3_2) 0) == 0) = false := beq_eq_false_iff_ne.mpr c24
                 have c24b1 : ((rd (rd_L3 ((rd_T26 l0 0).f3) x3_2) 0) != 0) = true := bne_iff_ne.mpr c24
                 have H' := Aside0.mk H
                 clear H
                 try go_wp2
                 have n0_ := Aside0.mk (below_drew1 HB.out)
                 clear HB
                 have HB := n0_
                 clear n0_
                 have p294 : 0 ≤ (0 : Int) := (by omega)
                 have q294 : 0 < ((rd_L3 ((rd_T26 l0 0).f3) x3_2).length : Int) := of_decide_eq_true (by first | (with_reducible assumption) | assumption)
                 obtain ⟨ad294, e294, hx294_0⟩ := Kd.at_int HR293_0.out 0 p294 q294
                 have hw294_0 := hx294_0
                 (try rw [show ((0 : Int)).toNat = 0 from rfl] at hw294_0)
                 (try rw [show 0 * 1 = 0 from rfl] at hw294_0)
                 (try rw [Addr.add_zero'] at hw294_0)
                 cases e294
                 have qi294 : (0 < (rd_L3 ((rd_T26 l0 0).f3) x3_2).length) = True := eq_true (by omega)
                 (try rw [show ((0 : Int)).toNat = 0 from rfl] at hx294_0)
                 (try rw [Addr.add_zero'] at hx294_0)
                 replace hx294_0 := (HB.out.cell (World.block_lt_of_cell? w _ hx294_0)).trans hx294_0
                 replace p294 := eq_true p294
                 replace q294 := eq_true q294
                 have p296 : 0 ≤ (1 : Int) := (by omega)
                 have q296 : 1 < ((rd_L3 ((rd_T26 l0 0).f3) x3_2).length : Int) := of_decide_eq_true (by first | (with_reducible assumption) | assumption)
                 obtain ⟨ad296, e296, hx296_0⟩ := Kd.at_int HR293_0.out 1 p296 q296
                 have hw296_0 := hx296_0
                 (try rw [show ((1 : Int)).toNat = 1 from rfl] at hw296_0)
                 (try rw [show 1 * 1 = 1 from rfl] at hw296_0)
                 (try simp only [Nat.reduceMul, Nat.reduceEqDiff, Go.Addr.add, ↓reduceIte] at hw296_0)
                 obtain rfl : ad294 = ad296 := (by injection e296)
                 (try simp only [show (1 : Int).toNat = 1 from rfl, Nat.reduceMul, Nat.reduceEqDiff, Go.Addr.add, ↓reduceIte] at hx296_0)
                 have qi296 : (1 < (rd_L3 ((rd_T26 l0 0).f3) x3_2).length) = True := eq_true (by omega)
                 (try rw [show ((1 : Int)).toNat = 1 from rfl] at hx296_0)
                 replace hx296_0 := (HB.out.cell (World.block_lt_of_cell? w _ hx296_0)).trans hx296_0
                 replace p296 := eq_true p296
                 replace q296 := eq_true q296
                 have p298 : 0 ≤ (0 : Int) := (by omega)
                 have q298 : 0 < ((rd_L3 ((rd_T26 l0 0).f3) x3_2).length : Int) := of_decide_eq_true (by first | (with_reducible assumption) | assumption)
                 obtain ⟨ad298, e298, hx298_0⟩ := Kd.at_int HR293_0.out 0 p298 q298
                 have hw298_0 := hx298_0
                 (try rw [show ((0 : Int)).toNat = 0 from rfl] at hw298_0)
                 (try rw [show 0 * 1 = 0 from rfl] at hw298_0)
                 (try rw [Addr.add_zero'] at hw298_0)
                 obtain rfl : ad294 = ad298 := (by injection e298)
                 have qi298 : (0 < (rd_L3 ((rd_T26 l0 0).f3) x3_2).length) = True := eq_true (by omega)
                 (try rw [show ((0 : Int)).toNat = 0 from rfl] at hx298_0)
                 (try rw [Addr.add_zero'] at hx298_0)
                 replace hx298_0 := (HB.out.cell (World.block_lt_of_cell? w _ hx298_0)).trans hx298_0
                 replace p298 := eq_true p298
                 replace q298 := eq_true q298
                 refine start_ (n := 47) (S := fun w' => w'.cell? ad294 = some (.int .i64 (rd (rd_L3 ((rd_T26 l0 0).f3) x3_2) 0)) ∧ w'.cell? ⟨ad294.block, ad294.off + 1, none⟩ = some (.int .i64 (rd (rd_L3 ((rd_T26 l0 0).f3) x3_2) 1)) ∧ w'.cell? ad294 = some (.int .i64 (rd (rd_L3 ((rd_T26 l0 0).f3) x3_2) 0))) (ds := []) (tf 0 47) (by kernel_rfl) rfl rfl ⟨((HB.out.cell (World.block_lt_of_cell? w _ hw294_0)).trans hw294_0), ((HB.out.cell (World.block_lt_of_cell? w _ hw296_0)).trans hw296_0), ((HB.out.cell (World.block_lt_of_cell? w _ hw298_0)).trans hw298_0)⟩ (fun hHeld => ?_); refine with_tabW spec_l21Ok.tab7 spec_l21Ok.bits7 (fun HT_ HW_ => ?_)
                 generalize wr.drew = w32 at HB hx294_0 hx296_0 hx298_0 hHeld ⊢
                 refine px 0 (some 52) (tf 1 47) HT_ ?_
                 refine px 1 (some 53) (tf 2 47) HT_ ?_
                 refine px 2 (some 54) (tf 3 47) HT_ ?_
                 refine px 3 (some 55) (tf 4 47) HT_ ?_
                 refine px 4 (some 56) (tf 5 47) HT_ ?_
                 refine px 5 (some 57) (tf 6 47) HT_ ?_
                 refine tx (v := ?_) 6 (some 58) (tf 7 47) HT_ HW_ hHeld ?_ ?_
                 rotate_left; (· rintro w' ⟨s0, s1, s2⟩; go_simp; with_reducible rfl)
                 refine one_ (i := 7) (N := some 59) (tf 8 47) rfl rfl (one_of HT_.out (by kernel_rfl)) (by decide) (fun K hK => ?_)
                 refine goes_ Tryd.func26 (by kernel_rfl) rfl #[.int .i64 (rd (rd_L3 ((rd_T26 l0 0).f3) x3_2) 0), .int .i64 0, .int .i64 1000000] (by rfl) rfl rfl (by (try simp only [List.map_toArray, List.map_cons, List.map_nil]); first | done | rfl | (simp only [List.length_drop, List.length_take]; rfl)) ?_
                 with_reducible refine (spec_l00In.calls (rd (rd_L3 ((rd_T26 l0 0).f3) x3_2) 0) 0 1000000 true _ A18.out).mono ?_
                 rintro e w' ⟨rfl, ⟨nd, rfl⟩⟩
                 refine ⟨_, rfl, ?_⟩
                 refine hK.out _ _ ⟨((HB.out.cell (World.block_lt_of_cell? w _ hw294_0)).trans hw294_0), ((HB.out.cell (World.block_lt_of_cell? w _ hw296_0)).trans hw296_0), ((HB.out.cell (World.block_lt_of_cell? w _ hw298_0)).trans hw298_0)⟩ (fun hHeld => ?_)
                 clear hK K
                 refine norm_ (a' := ?_) ?_ ?_
                 rotate_left
                 ·show Act.put _ (some 59) _ = _
                  simp only [Act.put, List.setIfInBounds_toArray, List.set_cons_zero, List.set_cons_succ, i64_w, i32_w]
                  rfl
                 refine px 8 (some 60) (tf 9 47) HT_ ?_
                 refine px 9 (some 61) (tf 10 47) HT_ ?_
                 refine px 10 (some 62) (tf 11 47) HT_ ?_
                 refine px 11 (some 63) (tf 12 47) HT_ ?_
                 refine px 12 (some 64) (tf 13 47) HT_ ?_
                 refine tx (v := ?_) 13 (some 65) (tf 14 47) HT_ HW_ hHeld ?_ ?_
                 rotate_left; (· rintro w' ⟨s0, s1, s2⟩; go_simp; with_reducible rfl)
                 refine one_ (i := 14) (N := some 66) (tf 15 47) rfl rfl (one_of HT_.out (by kernel_rfl)) (by decide) (fun K hK => ?_)
                 refine goes_ Tryd.func26 (by kernel_rfl) rfl #[.int .i64 (rd (rd_L3 ((rd_T26 l0 0).f3) x3_2) 1), .int .i64 0, .int .i64 10000] (by rfl) rfl rfl (by (try simp only [List.map_toArray, List.map_cons, List.map_nil]); first | done | rfl | (simp only [List.length_drop, List.length_take]; rfl)) ?_
                 with_reducible refine (spec_l00In.calls (rd (rd_L3 ((rd_T26 l0 0).f3) x3_2) 1) 0 10000 true _ A21.out).mono ?_
                 rintro e w' ⟨rfl, ⟨nd, rfl⟩⟩
                 refine ⟨_, rfl, ?_⟩
                 refine hK.out _ _ ⟨((HB.out.cell (World.block_lt_of_cell? w _ hw294_0)).trans hw294_0), ((HB.out.cell (World.block_lt_of_cell? w _ hw296_0)).trans hw296_0), ((HB.out.cell (World.block_lt_of_cell? w _ hw298_0)).trans hw298_0)⟩ (fun hHeld => ?_)
                 clear hK K
                 refine norm_ (a' := ?_) ?_ ?_
                 rotate_left
                 ·show Act.put _ (some 66) _ = _
                  simp only [Act.put, List.setIfInBounds_toArray, List.set_cons_zero, List.set_cons_succ, i64_w, i32_w]
                  rfl
                 refine px 15 (some 67) (tf 16 47) HT_ ?_
                 refine px 16 (some 68) (tf 17 47) HT_ ?_
                 refine px 17 (some 69) (tf 18 47) HT_ ?_
                 refine px 18 (some 70) (tf 19 47) HT_ ?_
                 refine px 19 (some 71) (tf 20 47) HT_ ?_
                 refine px 20 (some 72) (tf 21 47) HT_ ?_
                 refine px 21 (some 73) (tf 22 47) HT_ ?_
                 refine px 22 (some 74) (tf 23 47) HT_ ?_
                 refine tx (v := ?_) 23 (some 75) (tf 24 47) HT_ HW_ hHeld ?_ ?_
                 rotate_left; (· rintro w' ⟨s0, s1, s2⟩; go_simp; with_reducible rfl)
                 refine px 24 (some 76) (tf 25 47) HT_ ?_
                 refine px 25 (some 77) (tf 26 47) HT_ ?_
                 refine px 26 (some 78) (tf 27 47) HT_ ?_
                 refine px 27 (some 79) (tf 28 47) HT_ ?_
                 refine sx 28 (some 80) (tf 29 47) HT_ ?_
                 refine sx 29 (some 81) (tf 30 47) HT_ ?_
                 refine sx 30 (some 82) (tf 31 47) HT_ ?_
                 refine sx 31 (some 83) (tf 32 47) HT_ ?_
                 refine sx 32 (some 84) (tf 33 47) HT_ ?_
                 refine sx 33 (some 85) (tf 34 47) HT_ ?_
                 refine sx 34 (some 86) (tf 35 47) HT_ ?_
                 refine sx 35 (some 87) (tf 36 47) HT_ ?_
                 refine sx 36 (some 88) (tf 37 47) HT_ ?_
                 refine sx 37 (some 89) (tf 38 47) HT_ ?_
                 refine sx 38 (some 90) (tf 39 47) HT_ ?_
                 refine sx 39 (some 91) (tf 40 47) HT_ ?_
                 refine sx 40 (some 92) (tf 41 47) HT_ ?_
                 refine sx 41 (some 93) (tf 42 47) HT_ ?_
                 refine sx 42 (some 94) (tf 43 47) HT_ ?_
                 refine sx 43 (some 95) (tf 44 47) HT_ ?_
                 refine sx 44 (some 96) (tf 45 47) HT_ ?_
                 refine sx 45 (some 97) (tf 46 47) HT_ ?_
                 refine px 46 (some 98) (tf 47 47) HT_ ?_
                 refine done_ (done_of HT_.out (by kernel_rfl)) ?_
                 try go_wp2
                 go_meet
                 case rel => exact ⟨_, (true), (by first | rfl | (simp; done) | (simp [*]; done)), H', ⟨by have := HJ1.out; have := HK2.out; first | omega | exact Nat.le_refl _⟩, ⟨by repeat (first | (with_reducible first | exact HB.out | apply below_alloc | apply pw_below_drewN | apply below_drew1) | exact HB.out)⟩⟩
               ·rw [if_neg c23] at H
                have c23b0 : (x3_2 == 0) = false := beq_eq_false_iff_ne.mpr c23
                have c23b1 : (x3_2 != 0) = true := bne_iff_ne.mpr c23
                by_cases c33 : x3_2 > 0
                ·rw [if_pos c33] at H
                 have c33b0 : decide (0 < x3_2) = true := decide_eq_true c33
                 clear c33
                 obtain ⟨ji34, hji34⟩ : ∃ j_ : Int, (wrap64 (x3_2 - 1)) = j_ := ⟨_, rfl⟩
                 replace H : (if 0 ≤ (ji34) then (if (ji34) < (((rd_T26 l0 0).f3).length : Int) then (if 0 < ((rd_L3 ((rd_T26 l0 0).f3) (ji34)).length : Int) then (spec_l21Ok.j2 k2 l0 x3_2 (decide ((rd (rd_L3 ((rd_T26 l0 0).f3) (ji34)) 0) ≥ (rd (rd_L3 ((rd_T26 l0 0).f3) x3_2) 0)))) else (none)) else (none)) else (none)) = some r := by first | (rw [hji34] at H; exact H) | (simp only [hji34] at H ⊢; exact H)
                 (try rw [hji34] at A18)
                 (try rw [hji34] at A21)
                 have hji34w : (IntKind.i64.wrap (x3_2 - 1)) = ji34 := (i64_w _).trans hji34
                 (try clear hji26w)
                 by_cases c35 : 0 ≤ (ji34)
                 ·rw [if_pos c35] at H
                  have c35b0 : decide (0 ≤ (ji34)) = true := decide_eq_true c35
                  clear c35
                  by_cases c36 : (ji34) < (((rd_T26 l0 0).f3).length : Int)
                  ·rw [if_pos c36] at H
                   have c36b0 : decide ((ji34) < (((rd_T26 l0 0).f3).length : Int)) = true := decide_eq_true c36
                   clear c36
                   by_cases c37 : 0 < ((rd_L3 ((rd_T26 l0 0).f3) (ji34)).length : Int)
                   ·rw [if_pos c37] at H
                    have c37b0 : decide (0 < ((rd_L3 ((rd_T26 l0 0).f3) (ji34)).length : Int)) = true := decide_eq_true c37
                    have c37b1 : decide (0 < (rd_L3 ((rd_T26 l0 0).f3) (ji34)).length) = true := decide_eq_true (by omega)
                    clear c37
                    have H' := Aside0.mk H
                    clear H
                    try go_wp2
                    have n0_ := Aside0.mk (below_drew1 HB.out)
                    clear HB
                    have HB := n0_
                    clear n0_
                    have p294 : 0 ≤ (0 : Int) := (by omega)
                    have q294 : 0 < ((rd_L3 ((rd_T26 l0 0).f3) x3_2).length : Int) := of_decide_eq_true (by first | (with_reducible assumption) | assumption)
                    obtain ⟨ad294, e294, hx294_0⟩ := Kd.at_int HR293_0.out 0 p294 q294
                    have hw294_0 := hx294_0
                    (try rw [show ((0 : Int)).toNat = 0 from rfl] at hw294_0)
                    (try rw [show 0 * 1 = 0 from rfl] at hw294_0)
                    (try rw [Addr.add_zero'] at hw294_0)
                    cases e294
                    have qi294 : (0 < (rd_L3 ((rd_T26 l0 0).f3) x3_2).length) = True := eq_true (by omega)
                    (try rw [show ((0 : Int)).toNat = 0 from rfl] at hx294_0)
                    (try rw [Addr.add_zero'] at hx294_0)
                    replace hx294_0 := (HB.out.cell (World.block_lt_of_cell? w _ hx294_0)).trans hx294_0
                    replace p294 := eq_true p294
                    replace q294 := eq_true q294
                    have p296 : 0 ≤ (1 : Int) := (by omega)
                    have q296 : 1 < ((rd_L3 ((rd_T26 l0 0).f3) x3_2).length : Int) := of_decide_eq_true (by first | (with_reducible assumption) | assumption)
                    obtain ⟨ad296, e296, hx296_0⟩ := Kd.at_int HR293_0.out 1 p296 q296
                    have hw296_0 := hx296_0
                    (try rw [show ((1 : Int)).toNat = 1 from rfl] at hw296_0)
                    (try rw [show 1 * 1 = 1 from rfl] at hw296_0)
                    (try simp only [Nat.reduceMul, Nat.reduceEqDiff, Go.Addr.add, ↓reduceIte] at hw296_0)
                    obtain rfl : ad294 = ad296 := (by injection e296)
                    (try simp only [show (1 : Int).toNat = 1 from rfl, Nat.reduceMul, Nat.reduceEqDiff, Go.Addr.add, ↓reduceIte] at hx296_0)
                    have qi296 : (1 < (rd_L3 ((rd_T26 l0 0).f3) x3_2).length) = True := eq_true (by omega)
                    (try rw [show ((1 : Int)).toNat = 1 from rfl] at hx296_0)
                    replace hx296_0 := (HB.out.cell (World.block_lt_of_cell? w _ hx296_0)).trans hx296_0
                    replace p296 := eq_true p296
                    replace q296 := eq_true q296
                    have p303 : 0 ≤ (0 : Int) := (by omega)
                    have q303 : 0 < (l0.length : Int) := of_decide_eq_true (by first | (with_reducible assumption) | assumption)
                    obtain ⟨ad303, A303_3, c303_3, e303, hx303_0, hx303_1, hx303_2, hx303_3, hl303_3, hi303_3⟩ := at_T26 HR0.out 0 p303 q303
                    have hw303_3 := hx303_3
                    (try rw [show ((0 : Int)).toNat = 0 from rfl] at hw303_3)
                    (try rw [show 0 * 4 = 0 from rfl] at hw303_3)
                    (try rw [Addr.add_zero'] at hw303_3)
                    have hw303_2 := hx303_2
                    (try rw [show ((0 : Int)).toNat = 0 from rfl] at hw303_2)
                    (try rw [show 0 * 4 = 0 from rfl] at hw303_2)
                    (try rw [Addr.add_zero'] at hw303_2)
                    have hw303_1 := hx303_1
                    (try rw [show ((0 : Int)).toNat = 0 from rfl] at hw303_1)
                    (try rw [show 0 * 4 = 0 from rfl] at hw303_1)
                    (try rw [Addr.add_zero'] at hw303_1)
                    have hw303_0 := hx303_0
                    (try rw [show ((0 : Int)).toNat = 0 from rfl] at hw303_0)
                    (try rw [show 0 * 4 = 0 from rfl] at hw303_0)
                    (try rw [Addr.add_zero'] at hw303_0)
                    obtain rfl : ad291 = ad303 := (by injection e303)
                    have qi303 : (0 < l0.length) = True := eq_true (by omega)
                    (try rw [show ((0 : Int)).toNat = 0 from rfl] at hx303_0)
                    (try rw [show 0 * 4 = 0 from rfl] at hx303_0)
                    (try rw [Addr.add_zero'] at hx303_0)
                    (try rw [show ((0 : Int)).toNat = 0 from rfl] at hx303_1)
                    (try rw [show 0 * 4 = 0 from rfl] at hx303_1)
                    (try rw [Addr.add_zero'] at hx303_1)
                    (try rw [show ((0 : Int)).toNat = 0 from rfl] at hx303_2)
                    (try rw [show 0 * 4 = 0 from rfl] at hx303_2)
                    (try rw [Addr.add_zero'] at hx303_2)
                    (try rw [show ((0 : Int)).toNat = 0 from rfl] at hx303_3)
                    (try rw [show 0 * 4 = 0 from rfl] at hx303_3)
                    (try rw [Addr.add_zero'] at hx303_3)
                    replace hx303_0 := (HB.out.cell (World.block_lt_of_cell? w _ hx303_0)).trans hx303_0
                    replace hx303_1 := (HB.out.cell (World.block_lt_of_cell? w _ hx303_1)).trans hx303_1
                    replace hx303_2 := (HB.out.cell (World.block_lt_of_cell? w _ hx303_2)).trans hx303_2
                    replace hx303_3 := (HB.out.cell (World.block_lt_of_cell? w _ hx303_3)).trans hx303_3
                    have HR303_3 := Aside0.mk hi303_3
                    have HC303_3 := Aside0.mk hl303_3
                    clear hi303_3 hl303_3
                    replace p303 := eq_true p303
                    replace q303 := eq_true q303
                    have p304 : 0 ≤ ((ji34) : Int) := of_decide_eq_true (by first | (with_reducible assumption) | assumption)
                    have q304 : (ji34) < (((rd_T26 l0 0).f3).length : Int) := of_decide_eq_true (by first | (with_reducible assumption) | assumption)
                    obtain ⟨ad304, A304_0, c304_0, e304, hx304_0, hl304_0, hi304_0⟩ := at_L3 HR303_3.out (ji34) p304 q304
                    have hw304_0 := hx304_0
                    cases e304
                    replace hx304_0 := (HB.out.cell (World.block_lt_of_cell? w _ hx304_0)).trans hx304_0
                    have HR304_0 := Aside0.mk hi304_0
                    have HC304_0 := Aside0.mk hl304_0
                    clear hi304_0 hl304_0
                    replace p304 := eq_true p304
                    replace q304 := eq_true q304
                    have p305 : 0 ≤ (0 : Int) := (by omega)
                    have q305 : 0 < ((rd_L3 ((rd_T26 l0 0).f3) (ji34)).length : Int) := of_decide_eq_true (by first | (with_reducible assumption) | assumption)
                    obtain ⟨ad305, e305, hx305_0⟩ := Kd.at_int HR304_0.out 0 p305 q305
                    have hw305_0 := hx305_0
                    (try rw [show ((0 : Int)).toNat = 0 from rfl] at hw305_0)
                    (try rw [show 0 * 1 = 0 from rfl] at hw305_0)
                    (try rw [Addr.add_zero'] at hw305_0)
                    cases e305
                    have qi305 : (0 < (rd_L3 ((rd_T26 l0 0).f3) (ji34)).length) = True := eq_true (by omega)
                    (try rw [show ((0 : Int)).toNat = 0 from rfl] at hx305_0)
                    (try rw [Addr.add_zero'] at hx305_0)
                    replace hx305_0 := (HB.out.cell (World.block_lt_of_cell? w _ hx305_0)).trans hx305_0
                    replace p305 := eq_true p305
                    replace q305 := eq_true q305
                    have p306 : 0 ≤ (0 : Int) := (by omega)
                    have q306 : 0 < ((rd_L3 ((rd_T26 l0 0).f3) x3_2).length : Int) := of_decide_eq_true (by first | (with_reducible assumption) | assumption)
                    obtain ⟨ad306, e306, hx306_0⟩ := Kd.at_int HR293_0.out 0 p306 q306
                    have hw306_0 := hx306_0
                    (try rw [show ((0 : Int)).toNat = 0 from rfl] at hw306_0)
                    (try rw [show 0 * 1 = 0 from rfl] at hw306_0)
                    (try rw [Addr.add_zero'] at hw306_0)
                    obtain rfl : ad294 = ad306 := (by injection e306)
                    have qi306 : (0 < (rd_L3 ((rd_T26 l0 0).f3) x3_2).length) = True := eq_true (by omega)
                    (try rw [show ((0 : Int)).toNat = 0 from rfl] at hx306_0)
                    (try rw [Addr.add_zero'] at hx306_0)
                    replace hx306_0 := (HB.out.cell (World.block_lt_of_cell? w _ hx306_0)).trans hx306_0
                    replace p306 := eq_true p306
                    replace q306 := eq_true q306
                    refine start_ (n := 47) (S := fun w' => w'.cell? ad294 = some (.int .i64 (rd (rd_L3 ((rd_T26 l0 0).f3) x3_2) 0)) ∧ w'.cell? ⟨ad294.block, ad294.off + 1, none⟩ = some (.int .i64 (rd (rd_L3 ((rd_T26 l0 0).f3) x3_2) 1)) ∧ w'.cell? ad291 = some (.string ((rd_T26 l0 0).f0)) ∧ w'.cell? ⟨ad291.block, ad291.off + 1, none⟩ = some (.int .i64 ((rd_T26 l0 0).f1)) ∧ w'.cell? ⟨ad291.block, ad291.off + 2, none⟩ = some (.int .i64 ((rd_T26 l0 0).f2)) ∧ w'.cell? ⟨ad291.block, ad291.off + 3, none⟩ = some (.slice (some ad304) ((rd_T26 l0 0).f3).length c303_3) ∧ w'.cell? (ad304.add ((ji34)).toNat) = some (.slice (some ad305) (rd_L3 ((rd_T26 l0 0).f3) (ji34)).length c304_0) ∧ w'.cell? ad305 = some (.int .i64 (rd (rd_L3 ((rd_T26 l0 0).f3) (ji34)) 0)) ∧ w'.cell? ad294 = some (.int .i64 (rd (rd_L3 ((rd_T26 l0 0).f3) x3_2) 0))) (ds := []) (tf 0 47) (by kernel_rfl) rfl rfl ⟨((HB.out.cell (World.block_lt_of_cell? w _ hw294_0)).trans hw294_0), ((HB.out.cell (World.block_lt_of_cell? w _ hw296_0)).trans hw296_0), ((HB.out.cell (World.block_lt_of_cell? w _ hw303_0)).trans hw303_0), ((HB.out.cell (World.block_lt_of_cell? w _ hw303_1)).trans hw303_1), ((HB.out.cell (World.block_lt_of_cell? w _ hw303_2)).trans hw303_2), ((HB.out.cell (World.block_lt_of_cell? w _ hw303_3)).trans hw303_3), ((HB.out.cell (World.block_lt_of_cell? w _ hw304_0)).trans hw304_0), ((HB.out.cell (World.block_lt_of_cell? w _ hw305_0)).trans hw305_0), ((HB.out.cell (World.block_lt_of_cell? w _ hw306_0)).trans hw306_0)⟩ (fun hHeld => ?_); refine with_tabW spec_l21Ok.tab7 spec_l21Ok.bits7 (fun HT_ HW_ => ?_)
                    generalize wr.drew = w38 at HB HR303_3 HR304_0 hx294_0 hx296_0 hx303_0 hx303_1 hx303_2 hx303_3 hx304_0 hx305_0 hx306_0 hHeld ⊢
                    refine px 0 (some 52) (tf 1 47) HT_ ?_
                    refine px 1 (some 53) (tf 2 47) HT_ ?_
                    refine px 2 (some 54) (tf 3 47) HT_ ?_
                    refine px 3 (some 55) (tf 4 47) HT_ ?_
                    refine px 4 (some 56) (tf 5 47) HT_ ?_
                    refine px 5 (some 57) (tf 6 47) HT_ ?_
                    refine tx (v := ?_) 6 (some 58) (tf 7 47) HT_ HW_ hHeld ?_ ?_
                    rotate_left; (· rintro w' ⟨s0, s1, s2, s3, s4, s5, s6, s7, s8⟩; go_simp; with_reducible rfl)
                    refine one_ (i := 7) (N := some 59) (tf 8 47) rfl rfl (one_of HT_.out (by kernel_rfl)) (by decide) (fun K hK => ?_)
                    refine goes_ Tryd.func26 (by kernel_rfl) rfl #[.int .i64 (rd (rd_L3 ((rd_T26 l0 0).f3) x3_2) 0), .int .i64 0, .int .i64 1000000] (by rfl) rfl rfl (by (try simp only [List.map_toArray, List.map_cons, List.map_nil]); first | done | rfl | (simp only [List.length_drop, List.length_take]; rfl)) ?_
                    with_reducible refine (spec_l00In.calls (rd (rd_L3 ((rd_T26 l0 0).f3) x3_2) 0) 0 1000000 true _ A18.out).mono ?_
                    rintro e w' ⟨rfl, ⟨nd, rfl⟩⟩
                    refine ⟨_, rfl, ?_⟩
                    refine hK.out _ _ ⟨((HB.out.cell (World.block_lt_of_cell? w _ hw294_0)).trans hw294_0), ((HB.out.cell (World.block_lt_of_cell? w _ hw296_0)).trans hw296_0), ((HB.out.cell (World.block_lt_of_cell? w _ hw303_0)).trans hw303_0), ((HB.out.cell (World.block_lt_of_cell? w _ hw303_1)).trans hw303_1), ((HB.out.cell (World.block_lt_of_cell? w _ hw303_2)).trans hw303_2), ((HB.out.cell (World.block_lt_of_cell? w _ hw303_3)).trans hw303_3), ((HB.out.cell (World.block_lt_of_cell? w _ hw304_0)).trans hw304_0), ((HB.out.cell (World.block_lt_of_cell? w _ hw305_0)).trans hw305_0), ((HB.out.cell (World.block_lt_of_cell? w _ hw306_0)).trans hw306_0)⟩ (fun hHeld => ?_)
                    clear hK K
                    refine norm_ (a' := ?_) ?_ ?_
                    rotate_left
                    ·show Act.put _ (some 59) _ = _
                     simp only [Act.put, List.setIfInBounds_toArray, List.set_cons_zero, List.set_cons_succ, i64_w, i32_w]
                     rfl
                    refine px 8 (some 60) (tf 9 47) HT_ ?_
                    refine px 9 (some 61) (tf 10 47) HT_ ?_
                    refine px 10 (some 62) (tf 11 47) HT_ ?_
                    refine px 11 (some 63) (tf 12 47) HT_ ?_
                    refine px 12 (some 64) (tf 13 47) HT_ ?_
                    refine tx (v := ?_) 13 (some 65) (tf 14 47) HT_ HW_ hHeld ?_ ?_
                    rotate_left; (· rintro w' ⟨s0, s1, s2, s3, s4, s5, s6, s7, s8⟩; go_simp; with_reducible rfl)
                    refine one_ (i := 14) (N := some 66) (tf 15 47) rfl rfl (one_of HT_.out (by kernel_rfl)) (by decide) (fun K hK => ?_)
                    refine goes_ Tryd.func26 (by kernel_rfl) rfl #[.int .i64 (rd (rd_L3 ((rd_T26 l0 0).f3) x3_2) 1), .int .i64 0, .int .i64 10000] (by rfl) rfl rfl (by (try simp only [List.map_toArray, List.map_cons, List.map_nil]); first | done | rfl | (simp only [List.length_drop, List.length_take]; rfl)) ?_
                    with_reducible refine (spec_l00In.calls (rd (rd_L3 ((rd_T26 l0 0).f3) x3_2) 1) 0 10000 true _ A21.out).mono ?_
                    rintro e w' ⟨rfl, ⟨nd, rfl⟩⟩
                    refine ⟨_, rfl, ?_⟩
                    refine hK.out _ _ ⟨((HB.out.cell (World.block_lt_of_cell? w _ hw294_0)).trans hw294_0), ((HB.out.cell (World.block_lt_of_cell? w _ hw296_0)).trans hw296_0), ((HB.out.cell (World.block_lt_of_cell? w _ hw303_0)).trans hw303_0), ((HB.out.cell (World.block_lt_of_cell? w _ hw303_1)).trans hw303_1), ((HB.out.cell (World.block_lt_of_cell? w _ hw303_2)).trans hw303_2), ((HB.out.cell (World.block_lt_of_cell? w _ hw303_3)).trans hw303_3), ((HB.out.cell (World.block_lt_of_cell? w _ hw304_0)).trans hw304_0), ((HB.out.cell (World.block_lt_of_cell? w _ hw305_0)).trans hw305_0), ((HB.out.cell (World.block_lt_of_cell? w _ hw306_0)).trans hw306_0)⟩ (fun hHeld => ?_)
                    clear hK K
                    refine norm_ (a' := ?_) ?_ ?_
                    rotate_left
                    ·show Act.put _ (some 66) _ = _
                     simp only [Act.put, List.setIfInBounds_toArray, List.set_cons_zero, List.set_cons_succ, i64_w, i32_w]
                     rfl
                    refine px 15 (some 67) (tf 16 47) HT_ ?_
                    refine px 16 (some 68) (tf 17 47) HT_ ?_
                    refine px 17 (some 69) (tf 18 47) HT_ ?_
                    refine px 18 (some 70) (tf 19 47) HT_ ?_
                    refine px 19 (some 71) (tf 20 47) HT_ ?_
                    refine px 20 (some 72) (tf 21 47) HT_ ?_
                    refine sx 21 (some 73) (tf 22 47) HT_ ?_
                    refine sx 22 (some 74) (tf 23 47) HT_ ?_
                    refine sx 23 (some 75) (tf 24 47) HT_ ?_
                    refine sx 24 (some 76) (tf 25 47) HT_ ?_
                    refine px 25 (some 77) (tf 26 47) HT_ ?_
                    refine px 26 (some 78) (tf 27 47) HT_ ?_
                    refine px 27 (some 79) (tf 28 47) HT_ ?_
                    refine px 28 (some 80) (tf 29 47) HT_ ?_
                    refine px 29 (some 81) (tf 30 47) HT_ ?_
                    refine px 30 (some 82) (tf 31 47) HT_ ?_
                    refine px 31 (some 83) (tf 32 47) HT_ ?_
                    refine px 32 (some 84) (tf 33 47) HT_ ?_
                    refine px 33 (some 85) (tf 34 47) HT_ ?_
                    refine px 35 (some 87) (tb 47 51539607551) HT_ ?_
                    refine px 36 (some 88) (tb 47 120259084287) HT_ ?_
                    refine px 41 (some 93) (tb 47 2319282339839) HT_ ?_
                    refine px 42 (some 94) (tb 47 6717328850943) HT_ ?_
                    refine tx (v := ?_) 34 (some 86) (tb 47 6734508720127) HT_ HW_ hHeld ?_ ?_
                    rotate_left; (· rintro w' ⟨s0, s1, s2, s3, s4, s5, s6, s7, s8⟩; go_simp; with_reducible rfl)
                    refine px 37 (some 89) (tb 47 6871947673599) HT_ ?_
                    refine tx (v := ?_) 38 (some 90) (tb 47 7146825580543) HT_ HW_ hHeld ?_ ?_
                    rotate_left; (· rintro w' ⟨s0, s1, s2, s3, s4, s5, s6, s7, s8⟩; go_simp; with_reducible rfl)
                    refine px 39 (some 91) (tb 47 7696581394431) HT_ ?_
                    refine tx (v := ?_) 40 (some 92) (tf 43 47) HT_ HW_ hHeld ?_ ?_
                    rotate_left; (· rintro w' ⟨s0, s1, s2, s3, s4, s5, s6, s7, s8⟩; go_simp; with_reducible rfl)
                    refine tx (v := ?_) 43 (some 95) (tf 44 47) HT_ HW_ hHeld ?_ ?_
                    rotate_left; (· rintro w' ⟨s0, s1, s2, s3, s4, s5, s6, s7, s8⟩; go_simp; with_reducible rfl)
                    refine px 44 (some 96) (tf 45 47) HT_ ?_
                    refine px 45 (some 97) (tf 46 47) HT_ ?_
                    refine px 46 (some 98) (tf 47 47) HT_ ?_
                    refine done_ (done_of HT_.out (by kernel_rfl)) ?_
                    try go_wp2
                    go_meet
                    case rel => exact ⟨_, (decide ((rd (rd_L3 ((rd_T26 l0 0).f3) (ji34)) 0) ≥ (rd (rd_L3 ((rd_T26 l0 0).f3) x3_2) 0))), (by first | rfl | (simp; done) | (simp only [← hji34] <;> (first | rfl | simp)) | (simp [*]; done)), H', ⟨by have := HJ1.out; have := HK2.out; first | omega | exact Nat.le_refl _⟩, ⟨by repeat (first | (with_reducible first | exact HB.out | apply below_alloc | apply pw_below_drewN | apply below_drew1) | exact HB.out)⟩⟩
                   ·rw [if_neg c37] at H
                    exact absurd H (by simp)
                  ·rw [if_neg c36] at H
                   exact absurd H (by simp)
                 ·rw [if_neg c35] at H
                  exact absurd H (by simp)
                ·rw [if_neg c33] at H
                 have c33b0 : decide (0 < x3_2) = false := decide_eq_false c33
                 clear c33
                 have H' := Aside0.mk H
                 clear H
                 try go_wp2
                 have n0_ := Aside0.mk (below_drew1 HB.out)
                 clear HB
                 have HB := n0_
                 clear n0_
                 have p294 : 0 ≤ (0 : Int) := (by omega)
                 have q294 : 0 < ((rd_L3 ((rd_T26 l0 0).f3) x3_2).length : Int) := of_decide_eq_true (by first | (with_reducible assumption) | assumption)
                 obtain ⟨ad294, e294, hx294_0⟩ := Kd.at_int HR293_0.out 0 p294 q294
                 have hw294_0 := hx294_0
                 (try rw [show ((0 : Int)).toNat = 0 from rfl] at hw294_0)
                 (try rw [show 0 * 1 = 0 from rfl] at hw294_0)
                 (try rw [Addr.add_zero'] at hw294_0)
                 cases e294
                 have qi294 : (0 < (rd_L3 ((rd_T26 l0 0).f3) x3_2).length) = True := eq_true (by omega)
                 (try rw [show ((0 : Int)).toNat = 0 from rfl] at hx294_0)
                 (try rw [Addr.add_zero'] at hx294_0)
                 replace hx294_0 := (HB.out.cell (World.block_lt_of_cell? w _ hx294_0)).trans hx294_0
                 replace p294 := eq_true p294
                 replace q294 := eq_true q294
                 have p296 : 0 ≤ (1 : Int) := (by omega)
                 have q296 : 1 < ((rd_L3 ((rd_T26 l0 0).f3) x3_2).length : Int) := of_decide_eq_true (by first | (with_reducible assumption) | assumption)
                 obtain ⟨ad296, e296, hx296_0⟩ := Kd.at_int HR293_0.out 1 p296 q296
                 have hw296_0 := hx296_0
                 (try rw [show ((1 : Int)).toNat = 1 from rfl] at hw296_0)
                 (try rw [show 1 * 1 = 1 from rfl] at hw296_0)
                 (try simp only [Nat.reduceMul, Nat.reduceEqDiff, Go.Addr.add, ↓reduceIte] at hw296_0)
                 obtain rfl : ad294 = ad296 := (by injection e296)
                 (try simp only [show (1 : Int).toNat = 1 from rfl, Nat.reduceMul, Nat.reduceEqDiff, Go.Addr.add, ↓reduceIte] at hx296_0)
                 have qi296 : (1 < (rd_L3 ((rd_T26 l0 0).f3) x3_2).length) = True := eq_true (by omega)
                 (try rw [show ((1 : Int)).toNat = 1 from rfl] at hx296_0)
                 replace hx296_0 := (HB.out.cell (World.block_lt_of_cell? w _ hx296_0)).trans hx296_0
                 replace p296 := eq_true p296
                 replace q296 := eq_true q296
                 refine start_ (n := 47) (S := fun w' => w'.cell? ad294 = some (.int .i64 (rd (rd_L3 ((rd_T26 l0 0).f3) x3_2) 0)) ∧ w'.cell? ⟨ad294.block, ad294.off + 1, none⟩ = some (.int .i64 (rd (rd_L3 ((rd_T26 l0 0).f3) x3_2) 1))) (ds := []) (tf 0 47) (by kernel_rfl) rfl rfl ⟨((HB.out.cell (World.block_lt_of_cell? w _ hw294_0)).trans hw294_0), ((HB.out.cell (World.block_lt_of_cell? w _ hw296_0)).trans hw296_0)⟩ (fun hHeld => ?_); refine with_tabW spec_l21Ok.tab7 spec_l21Ok.bits7 (fun HT_ HW_ => ?_)
                 generalize wr.drew = w39 at HB hx294_0 hx296_0 hHeld ⊢
                 refine px 0 (some 52) (tf 1 47) HT_ ?_
                 refine px 1 (some 53) (tf 2 47) HT_ ?_
                 refine px 2 (some 54) (tf 3 47) HT_ ?_
                 refine px 3 (some 55) (tf 4 47) HT_ ?_
                 refine px 4 (some 56) (tf 5 47) HT_ ?_
                 refine px 5 (some 57) (tf 6 47) HT_ ?_
                 refine tx (v := ?_) 6 (some 58) (tf 7 47) HT_ HW_ hHeld ?_ ?_
                 rotate_left; (· rintro w' ⟨s0, s1⟩; go_simp; with_reducible rfl)
                 refine one_ (i := 7) (N := some 59) (tf 8 47) rfl rfl (one_of HT_.out (by kernel_rfl)) (by decide) (fun K hK => ?_)
                 refine goes_ Tryd.func26 (by kernel_rfl) rfl #[.int .i64 (rd (rd_L3 ((rd_T26 l0 0).f3) x3_2) 0), .int .i64 0, .int .i64 1000000] (by rfl) rfl rfl (by (try simp only [List.map_toArray, List.map_cons, List.map_nil]); first | done | rfl | (simp only [List.length_drop, List.length_take]; rfl)) ?_
                 with_reducible refine (spec_l00In.calls (rd (rd_L3 ((rd_T26 l0 0).f3) x3_2) 0) 0 1000000 true _ A18.out).mono ?_
                 rintro e w' ⟨rfl, ⟨nd, rfl⟩⟩
                 refine ⟨_, rfl, ?_⟩
                 refine hK.out _ _ ⟨((HB.out.cell (World.block_lt_of_cell? w _ hw294_0)).trans hw294_0), ((HB.out.cell (World.block_lt_of_cell? w _ hw296_0)).trans hw296_0)⟩ (fun hHeld => ?_)
                 clear hK K
                 refine norm_ (a' := ?_) ?_ ?_
                 rotate_left
                 ·show Act.put _ (some 59) _ = _
                  simp only [Act.put, List.setIfInBounds_toArray, List.set_cons_zero, List.set_cons_succ, i64_w, i32_w]
                  rfl
                 refine px 8 (some 60) (tf 9 47) HT_ ?_
                 refine px 9 (some 61) (tf 10 47) HT_ ?_
                 refine px 10 (some 62) (tf 11 47) HT_ ?_
                 refine px 11 (some 63) (tf 12 47) HT_ ?_
                 refine px 12 (some 64) (tf 13 47) HT_ ?_
                 refine tx (v := ?_) 13 (some 65) (tf 14 47) HT_ HW_ hHeld ?_ ?_
                 rotate_left; (· rintro w' ⟨s0, s1⟩; go_simp; with_reducible rfl)
                 refine one_ (i := 14) (N := some 66) (tf 15 47) rfl rfl (one_of HT_.out (by kernel_rfl)) (by decide) (fun K hK => ?_)
                 refine goes_ Tryd.func26 (by kernel_rfl) rfl #[.int .i64 (rd (rd_L3 ((rd_T26 l0 0).f3) x3_2) 1), .int .i64 0, .int .i64 10000] (by rfl) rfl rfl (by (try simp only [List.map_toArray, List.map_cons, List.map_nil]); first | done | rfl | (simp only [List.length_drop, List.length_take]; rfl)) ?_
                 with_reducible refine (spec_l00In.calls (rd (rd_L3 ((rd_T26 l0 0).f3) x3_2) 1) 0 10000 true _ A21.out).mono ?_
                 rintro e w' ⟨rfl, ⟨nd, rfl⟩⟩
                 refine ⟨_, rfl, ?_⟩
                 refine hK.out _ _ ⟨((HB.out.cell (World.block_lt_of_cell? w _ hw294_0)).trans hw294_0), ((HB.out.cell (World.block_lt_of_cell? w _ hw296_0)).trans hw296_0)⟩ (fun hHeld => ?_)
                 clear hK K
                 refine norm_ (a' := ?_) ?_ ?_
                 rotate_left
                 ·show Act.put _ (some 66) _ = _
                  simp only [Act.put, List.setIfInBounds_toArray, List.set_cons_zero, List.set_cons_succ, i64_w, i32_w]
                  rfl
                 refine px 15 (some 67) (tf 16 47) HT_ ?_
                 refine px 16 (some 68) (tf 17 47) HT_ ?_
                 refine px 17 (some 69) (tf 18 47) HT_ ?_
                 refine px 18 (some 70) (tf 19 47) HT_ ?_
                 refine px 19 (some 71) (tf 20 47) HT_ ?_
                 refine px 20 (some 72) (tf 21 47) HT_ ?_
                 refine sx 21 (some 73) (tf 22 47) HT_ ?_
                 refine sx 22 (some 74) (tf 23 47) HT_ ?_
                 refine sx 23 (some 75) (tf 24 47) HT_ ?_
                 refine sx 24 (some 76) (tf 25 47) HT_ ?_
                 refine px 25 (some 77) (tf 26 47) HT_ ?_
                 refine px 26 (some 78) (tf 27 47) HT_ ?_
                 refine px 27 (some 79) (tf 28 47) HT_ ?_
                 refine px 28 (some 80) (tf 29 47) HT_ ?_
                 refine px 29 (some 81) (tf 30 47) HT_ ?_
                 refine px 30 (some 82) (tf 31 47) HT_ ?_
                 refine sx 31 (some 83) (tf 32 47) HT_ ?_
                 refine sx 32 (some 84) (tf 33 47) HT_ ?_
                 refine sx 33 (some 85) (tf 34 47) HT_ ?_
                 refine sx 34 (some 86) (tf 35 47) HT_ ?_
                 refine sx 35 (some 87) (tf 36 47) HT_ ?_
                 refine sx 36 (some 88) (tf 37 47) HT_ ?_
                 refine sx 37 (some 89) (tf 38 47) HT_ ?_
                 refine sx 38 (some 90) (tf 39 47) HT_ ?_
                 refine sx 39 (some 91) (tf 40 47) HT_ ?_
                 refine sx 40 (some 92) (tf 41 47) HT_ ?_
                 refine sx 41 (some 93) (tf 42 47) HT_ ?_
                 refine sx 42 (some 94) (tf 43 47) HT_ ?_
                 refine sx 43 (some 95) (tf 44 47) HT_ ?_
                 refine sx 44 (some 96) (tf 45 47) HT_ ?_
                 refine px 45 (some 97) (tf 46 47) HT_ ?_
                 refine px 46 (some 98) (tf 47 47) HT_ ?_
                 refine done_ (done_of HT_.out (by kernel_rfl)) ?_
                 try go_wp2
                 go_meet
                 case rel => exact ⟨_, (false), (by first | rfl | (simp; done) | (simp [*]; done)), H', ⟨by have := HJ1.out; have := HK2.out; first | omega | exact Nat.le_refl _⟩, ⟨by repeat (first | (with_reducible first | exact HB.out | apply below_alloc | apply pw_below_drewN | apply below_drew1) | exact HB.out)⟩⟩
              ·replace c22 := Bool.eq_false_iff.mpr c22
               subst c22
               have H1 : (spec_l21Ok.j2 k2 l0 x3_2 true) = some r := by rw [if_neg (show ¬ (false = true) by decide)] at H; exact H
               clear H
               have H := H1
               clear H1
               have H' := Aside0.mk H
               clear H
               try go_wp2
               have n0_ := Aside0.mk (below_drew1 HB.out)
               clear HB
               have HB := n0_
               clear n0_
               have p294 : 0 ≤ (0 : Int) := (by omega)
               have q294 : 0 < ((rd_L3 ((rd_T26 l0 0).f3) x3_2).length : Int) := of_decide_eq_true (by first | (with_reducible assumption) | assumption)
               obtain ⟨ad294, e294, hx294_0⟩ := Kd.at_int HR293_0.out 0 p294 q294
               have hw294_0 := hx294_0
               (try rw [show ((0 : Int)).toNat = 0 from rfl] at hw294_0)
               (try rw [show 0 * 1 = 0 from rfl] at hw294_0)
               (try rw [Addr.add_zero'] at hw294_0)
               cases e294
               have qi294 : (0 < (rd_L3 ((rd_T26 l0 0).f3) x3_2).length) = True := eq_true (by omega)
               (try rw [show ((0 : Int)).toNat = 0 from rfl] at hx294_0)
               (try rw [Addr.add_zero'] at hx294_0)
               replace hx294_0 := (HB.out.cell (World.block_lt_of_cell? w _ hx294_0)).trans hx294_0
               replace p294 := eq_true p294
               replace q294 := eq_true q294
               have p296 : 0 ≤ (1 : Int) := (by omega)
               have q296 : 1 < ((rd_L3 ((rd_T26 l0 0).f3) x3_2).length : Int) := of_decide_eq_true (by first | (with_reducible assumption) | assumption)
               obtain ⟨ad296, e296, hx296_0⟩ := Kd.at_int HR293_0.out 1 p296 q296
               have hw296_0 := hx296_0
               (try rw [show ((1 : Int)).toNat = 1 from rfl] at hw296_0)
               (try rw [show 1 * 1 = 1 from rfl] at hw296_0)
               (try simp only [Nat.reduceMul, Nat.reduceEqDiff, Go.Addr.add, ↓reduceIte] at hw296_0)
               obtain rfl : ad294 = ad296 := (by injection e296)
               (try simp only [show (1 : Int).toNat = 1 from rfl, Nat.reduceMul, Nat.reduceEqDiff, Go.Addr.add, ↓reduceIte] at hx296_0)
               have qi296 : (1 < (rd_L3 ((rd_T26 l0 0).f3) x3_2).length) = True := eq_true (by omega)
               (try rw [show ((1 : Int)).toNat = 1 from rfl] at hx296_0)
               replace hx296_0 := (HB.out.cell (World.block_lt_of_cell? w _ hx296_0)).trans hx296_0
               replace p296 := eq_true p296
               replace q296 := eq_true q296
               refine start_ (n := 47) (S := fun w' => w'.cell? ad294 = some (.int .i64 (rd (rd_L3 ((rd_T26 l0 0).f3) x3_2) 0)) ∧ w'.cell? ⟨ad294.block, ad294.off + 1, none⟩ = some (.int .i64 (rd (rd_L3 ((rd_T26 l0 0).f3) x3_2) 1))) (ds := []) (tf 0 47) (by kernel_rfl) rfl rfl ⟨((HB.out.cell (World.block_lt_of_cell? w _ hw294_0)).trans hw294_0), ((HB.out.cell (World.block_lt_of_cell? w _ hw296_0)).trans hw296_0)⟩ (fun hHeld => ?_); refine with_tabW spec_l21Ok.tab7 spec_l21Ok.bits7 (fun HT_ HW_ => ?_)
               generalize wr.drew = w40 at HB hx294_0 hx296_0 hHeld ⊢
               refine px 0 (some 52) (tf 1 47) HT_ ?_
               refine px 1 (some 53) (tf 2 47) HT_ ?_
               refine px 2 (some 54) (tf 3 47) HT_ ?_
               refine px 3 (some 55) (tf 4 47) HT_ ?_
               refine px 4 (some 56) (tf 5 47) HT_ ?_
               refine px 5 (some 57) (tf 6 47) HT_ ?_
               refine tx (v := ?_) 6 (some 58) (tf 7 47) HT_ HW_ hHeld ?_ ?_
               rotate_left; (· rintro w' ⟨s0, s1⟩; go_simp; with_reducible rfl)
               refine one_ (i := 7) (N := some 59) (tf 8 47) rfl rfl (one_of HT_.out (by kernel_rfl)) (by decide) (fun K hK => ?_)
               refine goes_ Tryd.func26 (by kernel_rfl) rfl #[.int .i64 (rd (rd_L3 ((rd_T26 l0 0).f3) x3_2) 0), .int .i64 0, .int .i64 1000000] (by rfl) rfl rfl (by (try simp only [List.map_toArray, List.map_cons, List.map_nil]); first | done | rfl | (simp only [List.length_drop, List.length_take]; rfl)) ?_
               with_reducible refine (spec_l00In.calls (rd (rd_L3 ((rd_T26 l0 0).f3) x3_2) 0) 0 1000000 true _ A18.out).mono ?_
               rintro e w' ⟨rfl, ⟨nd, rfl⟩⟩
               refine ⟨_, rfl, ?_⟩
               refine hK.out _ _ ⟨((HB.out.cell (World.block_lt_of_cell? w _ hw294_0)).trans hw294_0), ((HB.out.cell (World.block_lt_of_cell? w _ hw296_0)).trans hw296_0)⟩ (fun hHeld => ?_)
               clear hK K
               refine norm_ (a' := ?_) ?_ ?_
               rotate_left
               ·show Act.put _ (some 59) _ = _
                simp only [Act.put, List.setIfInBounds_toArray, List.set_cons_zero, List.set_cons_succ, i64_w, i32_w]
                rfl
               refine px 8 (some 60) (tf 9 47) HT_ ?_
               refine px 9 (some 61) (tf 10 47) HT_ ?_
               refine px 10 (some 62) (tf 11 47) HT_ ?_
               refine px 11 (some 63) (tf 12 47) HT_ ?_
               refine px 12 (some 64) (tf 13 47) HT_ ?_
               refine tx (v := ?_) 13 (some 65) (tf 14 47) HT_ HW_ hHeld ?_ ?_
               rotate_left; (· rintro w' ⟨s0, s1⟩; go_simp; with_reducible rfl)
               refine one_ (i := 14) (N := some 66) (tf 15 47) rfl rfl (one_of HT_.out (by kernel_rfl)) (by decide) (fun K hK => ?_)
               refine goes_ Tryd.func26 (by kernel_rfl) rfl #[.int .i64 (rd (rd_L3 ((rd_T26 l0 0).f3) x3_2) 1), .int .i64 0, .int .i64 10000] (by rfl) rfl rfl (by (try simp only [List.map_toArray, List.map_cons, List.map_nil]); first | done | rfl | (simp only [List.length_drop, List.length_take]; rfl)) ?_
               with_reducible refine (spec_l00In.calls (rd (rd_L3 ((rd_T26 l0 0).f3) x3_2) 1) 0 10000 false _ A21.out).mono ?_
               rintro e w' ⟨rfl, ⟨nd, rfl⟩⟩
               refine ⟨_, rfl, ?_⟩
               refine hK.out _ _ ⟨((HB.out.cell (World.block_lt_of_cell? w _ hw294_0)).trans hw294_0), ((HB.out.cell (World.block_lt_of_cell? w _ hw296_0)).trans hw296_0)⟩ (fun hHeld => ?_)
               clear hK K
               refine norm_ (a' := ?_) ?_ ?_
               rotate_left
               ·show Act.put _ (some 66) _ = _
                simp only [Act.put, List.setIfInBounds_toArray, List.set_cons_zero, List.set_cons_succ, i64_w, i32_w]
                rfl
               refine px 15 (some 67) (tf 16 47) HT_ ?_
               refine px 16 (some 68) (tf 17 47) HT_ ?_
               refine px 17 (some 69) (tf 18 47) HT_ ?_
               refine sx 18 (some 70) (tf 19 47) HT_ ?_
               refine sx 19 (some 71) (tf 20 47) HT_ ?_
               refine sx 20 (some 72) (tf 21 47) HT_ ?_
               refine sx 21 (some 73) (tf 22 47) HT_ ?_
               refine sx 22 (some 74) (tf 23 47) HT_ ?_
               refine sx 23 (some 75) (tf 24 47) HT_ ?_
               refine sx 24 (some 76) (tf 25 47) HT_ ?_
               refine sx 25 (some 77) (tf 26 47) HT_ ?_
               refine px 26 (some 78) (tf 27 47) HT_ ?_
               refine px 27 (some 79) (tf 28 47) HT_ ?_
               refine sx 28 (some 80) (tf 29 47) HT_ ?_
               refine sx 29 (some 81) (tf 30 47) HT_ ?_
               refine sx 30 (some 82) (tf 31 47) HT_ ?_
               refine sx 31 (some 83) (tf 32 47) HT_ ?_
               refine sx 32 (some 84) (tf 33 47) HT_ ?_
               refine sx 33 (some 85) (tf 34 47) HT_ ?_
               refine sx 34 (some 86) (tf 35 47) HT_ ?_
               refine sx 35 (some 87) (tf 36 47) HT_ ?_
               refine sx 36 (some 88) (tf 37 47) HT_ ?_
               refine sx 37 (some 89) (tf 38 47) HT_ ?_
               refine sx 38 (some 90) (tf 39 47) HT_ ?_
               refine sx 39 (some 91) (tf 40 47) HT_ ?_
               refine sx 40 (some 92) (tf 41 47) HT_ ?_
               refine sx 41 (some 93) (tf 42 47) HT_ ?_
               refine sx 42 (some 94) (tf 43 47) HT_ ?_
               refine sx 43 (some 95) (tf 44 47) HT_ ?_
               refine sx 44 (some 96) (tf 45 47) HT_ ?_
               refine sx 45 (some 97) (tf 46 47) HT_ ?_
               refine px 46 (some 98) (tf 47 47) HT_ ?_
               refine done_ (done_of HT_.out (by kernel_rfl)) ?_
               try go_wp2
               go_meet
               case rel => exact ⟨_, (true), (by first | rfl | (simp; done) | (simp [*]; done)), H', ⟨by have := HJ1.out; have := HK2.out; first | omega | exact Nat.le_refl _⟩, ⟨by repeat (first | (with_reducible first | exact HB.out | apply below_alloc | apply pw_below_drewN | apply below_drew1) | exact HB.out)⟩⟩
             ·rw [if_neg c20] at H
              exact absurd H (by simp)
            ·replace c19 := Bool.eq_false_iff.mpr c19
             subst c19
             have H1 : (spec_l21Ok.j2 k2 l0 x3_2 true) = some r := by rw [if_neg (show ¬ (false = true) by decide)] at H; exact H
             clear H
             have H := H1
             clear H1
             have H' := Aside0.mk H
             clear H
             try go_wp2
             have n0_ := Aside0.mk (below_drew1 HB.out)
             clear HB
             have HB := n0_
             clear n0_
             have p294 : 0 ≤ (0 : Int) := (by omega)
             have q294 : 0 < ((rd_L3 ((rd_T26 l0 0).f3) x3_2).length : Int) := of_decide_eq_true (by first | (with_reducible assumption) | assumption)
             obtain ⟨ad294, e294, hx294_0⟩ := Kd.at_int HR293_0.out 0 p294 q294
             have hw294_0 := hx294_0
             (try rw [show ((0 : Int)).toNat = 0 from rfl] at hw294_0)
             (try rw [show 0 * 1 = 0 from rfl] at hw294_0)
             (try rw [Addr.add_zero'] at hw294_0)
             cases e294
             have qi294 : (0 < (rd_L3 ((rd_T26 l0 0).f3) x3_2).length) = True := eq_true (by omega)
             (try rw [show ((0 : Int)).toNat = 0 from rfl] at hx294_0)
             (try rw [Addr.add_zero'] at hx294_0)
             replace hx294_0 := (HB.out.cell (World.block_lt_of_cell? w _ hx294_0)).trans hx294_0
             replace p294 := eq_true p294
             replace q294 := eq_true q294
             refine start_ (n := 47) (S := fun w' => w'.cell? ad294 = some (.int .i64 (rd (rd_L3 ((rd_T26 l0 0).f3) x3_2) 0))) (ds := []) (tf 0 47) (by kernel_rfl) rfl rfl (((HB.out.cell (World.block_lt_of_cell? w _ hw294_0)).trans hw294_0)) (fun hHeld => ?_); refine with_tabW spec_l21Ok.tab7 spec_l21Ok.bits7 (fun HT_ HW_ => ?_)
             generalize wr.drew = w41 at HB hx294_0 hHeld ⊢
             refine px 0 (some 52) (tf 1 47) HT_ ?_
             refine px 1 (some 53) (tf 2 47) HT_ ?_
             refine px 2 (some 54) (tf 3 47) HT_ ?_
             refine px 3 (some 55) (tf 4 47) HT_ ?_
             refine px 4 (some 56) (tf 5 47) HT_ ?_
             refine px 5 (some 57) (tf 6 47) HT_ ?_
             refine take_ (i := 6) (N := some 58) (v := ?_) (a' := ?_) (tf 7 47) rfl rfl (take_ofW HT_.out HW_.out (by kernel_rfl)) (fun _ _ _ h => h) (Or.inl ⟨by rfl, ?_⟩) hHeld ?_ ?_
             rotate_left
             ·intro w' s0
              go_simp
              with_reducible rfl
             rotate_left; (· simp only [Act.put, List.setIfInBounds_toArray, List.set_cons_zero, List.set_cons_succ, i64_w, i32_w]; rfl)
             refine one_ (i := 7) (N := some 59) (tf 8 47) rfl rfl (one_of HT_.out (by kernel_rfl)) (by decide) (fun K hK => ?_)
             refine goes_ Tryd.func26 (by kernel_rfl) rfl #[.int .i64 (rd (rd_L3 ((rd_T26 l0 0).f3) x3_2) 0), .int .i64 0, .int .i64 1000000] (by rfl) rfl rfl (by (try simp only [List.map_toArray, List.map_cons, List.map_nil]); first | done | rfl | (simp only [List.length_drop, List.length_take]; rfl)) ?_
             with_reducible refine (spec_l00In.calls (rd (rd_L3 ((rd_T26 l0 0).f3) x3_2) 0) 0 1000000 false _ A18.out).mono ?_
             rintro e w' ⟨rfl, ⟨nd, rfl⟩⟩
             refine ⟨_, rfl, ?_⟩
             refine hK.out _ _ (((HB.out.cell (World.block_lt_of_cell? w _ hw294_0)).trans hw294_0)) (fun hHeld => ?_)
             clear hK K
             refine norm_ (a' := ?_) ?_ ?_
             rotate_left
             ·show Act.put _ (some 59) _ = _
              simp only [Act.put, List.setIfInBounds_toArray, List.set_cons_zero, List.set_cons_succ, i64_w, i32_w]
              rfl
             refine px 8 (some 60) (tf 9 47) HT_ ?_
             refine px 9 (some 61) (tf 10 47) HT_ ?_
             refine px 10 (some 62) (tf 11 47) HT_ ?_
             refine sx 11 (some 63) (tf 12 47) HT_ ?_
             refine sx 12 (some 64) (tf 13 47) HT_ ?_
             refine sx 13 (some 65) (tf 14 47) HT_ ?_
             refine sx 14 (some 66) (tf 15 47) HT_ ?_
             refine sx 15 (some 67) (tf 16 47) HT_ ?_
             refine px 16 (some 68) (tf 17 47) HT_ ?_
             refine px 17 (some 69) (tf 18 47) HT_ ?_
             refine sx 18 (some 70) (tf 19 47) HT_ ?_
             refine sx 19 (some 71) (tf 20 47) HT_ ?_
             refine sx 20 (some 72) (tf 21 47) HT_ ?_
             refine sx 21 (some 73) (tf 22 47) HT_ ?_
             refine sx 22 (some 74) (tf 23 47) HT_ ?_
             refine sx 23 (some 75) (tf 24 47) HT_ ?_
             refine sx 24 (some 76) (tf 25 47) HT_ ?_
             refine sx 25 (some 77) (tf 26 47) HT_ ?_
             refine px 26 (some 78) (tf 27 47) HT_ ?_
             refine px 27 (some 79) (tf 28 47) HT_ ?_
             refine sx 28 (some 80) (tf 29 47) HT_ ?_
             refine sx 29 (some 81) (tf 30 47) HT_ ?_
             refine sx 30 (some 82) (tf 31 47) HT_ ?_
             refine sx 31 (some 83) (tf 32 47) HT_ ?_
             refine sx 32 (some 84) (tf 33 47) HT_ ?_
             refine sx 33 (some 85) (tf 34 47) HT_ ?_
             refine sx 34 (some 86) (tf 35 47) HT_ ?_
             refine sx 35 (some 87) (tf 36 47) HT_ ?_
             refine sx 36 (some 88) (tf 37 47) HT_ ?_
             refine sx 37 (some 89) (tf 38 47) HT_ ?_
             refine sx 38 (some 90) (tf 39 47) HT_ ?_
             refine sx 39 (some 91) (tf 40 47) HT_ ?_
             refine sx 40 (some 92) (tf 41 47) HT_ ?_
             refine sx 41 (some 93) (tf 42 47) HT_ ?_
             refine sx 42 (some 94) (tf 43 47) HT_ ?_
             refine sx 43 (some 95) (tf 44 47) HT_ ?_
             refine sx 44 (some 96) (tf 45 47) HT_ ?_
             refine sx 45 (some 97) (tf 46 47) HT_ ?_
             refine px 46 (some 98) (tf 47 47) HT_ ?_
             refine done_ (done_of HT_.out (by kernel_rfl)) ?_
             try go_wp2
             go_meet
             case rel => exact ⟨_, (true), (by first | rfl | (simp; done) | (simp [*]; done)), H', ⟨by have := HJ1.out; have := HK2.out; first | omega | exact Nat.le_refl _⟩, ⟨by repeat (first | (with_reducible first | exact HB.out | apply below_alloc | apply pw_below_drewN | apply below_drew1) | exact HB.out)⟩⟩
           ·rw [if_neg c17] at H
            exact absurd H (by simp)
          ·rw [if_neg c16] at H
           have c16b0 : (((rd_L3 ((rd_T26 l0 0).f3) x3_2).length : Int) == 2) = false := beq_eq_false_iff_ne.mpr c16
           have c16b1 : (((rd_L3 ((rd_T26 l0 0).f3) x3_2).length : Int) != 2) = true := bne_iff_ne.mpr c16
           (first | rw [c16b0] | (simp only [i64_w, i32_w]; rw [c16b0]) | skip)
           have H' := Aside0.mk H
           clear H
           try go_wp2
           have n0_ := Aside0.mk (below_drew1 HB.out)
           clear HB
           have HB := n0_
           clear n0_
           refine start_ (n := 47) (S := fun w' => True) (ds := []) (tf 0 47) (by kernel_rfl) rfl rfl trivial (fun hHeld => ?_); refine with_tabW spec_l21Ok.tab7 spec_l21Ok.bits7 (fun HT_ HW_ => ?_)
           generalize wr.drew = w42 at HB hHeld ⊢
           refine px 0 (some 52) (tf 1 47) HT_ ?_
           refine px 1 (some 53) (tf 2 47) HT_ ?_
           refine px 2 (some 54) (tf 3 47) HT_ ?_
           refine px 3 (some 55) (tf 4 47) HT_ ?_
           refine sx 4 (some 56) (tf 5 47) HT_ ?_
           refine sx 5 (some 57) (tf 6 47) HT_ ?_
           refine sx 6 (some 58) (tf 7 47) HT_ ?_
           refine sx 7 (some 59) (tf 8 47) HT_ ?_
           refine sx 8 (some 60) (tf 9 47) HT_ ?_
           refine px 9 (some 61) (tf 10 47) HT_ ?_
           refine px 10 (some 62) (tf 11 47) HT_ ?_
           refine sx 11 (some 63) (tf 12 47) HT_ ?_
           refine sx 12 (some 64) (tf 13 47) HT_ ?_
           refine sx 13 (some 65) (tf 14 47) HT_ ?_
           refine sx 14 (some 66) (tf 15 47) HT_ ?_
           refine sx 15 (some 67) (tf 16 47) HT_ ?_
           refine px 16 (some 68) (tf 17 47) HT_ ?_
           refine px 17 (some 69) (tf 18 47) HT_ ?_
           refine sx 18 (some 70) (tf 19 47) HT_ ?_
           refine sx 19 (some 71) (tf 20 47) HT_ ?_
           refine sx 20 (some 72) (tf 21 47) HT_ ?_
           refine sx 21 (some 73) (tf 22 47) HT_ ?_
           refine sx 22 (some 74) (tf 23 47) HT_ ?_
           refine sx 23 (some 75) (tf 24 47) HT_ ?_
           refine sx 24 (some 76) (tf 25 47) HT_ ?_
           refine sx 25 (some 77) (tf 26 47) HT_ ?_
           refine px 26 (some 78) (tf 27 47) HT_ ?_
           refine px 27 (some 79) (tf 28 47) HT_ ?_
           refine sx 28 (some 80) (tf 29 47) HT_ ?_
           refine sx 29 (some 81) (tf 30 47) HT_ ?_
           refine sx 30 (some 82) (tf 31 47) HT_ ?_
           refine sx 31 (some 83) (tf 32 47) HT_ ?_
           refine sx 32 (some 84) (tf 33 47) HT_ ?_
           refine sx 33 (some 85) (tf 34 47) HT_ ?_
           refine sx 34 (some 86) (tf 35 47) HT_ ?_
           refine sx 35 (some 87) (tf 36 47) HT_ ?_
           refine sx 36 (some 88) (tf 37 47) HT_ ?_
           refine sx 37 (some 89) (tf 38 47) HT_ ?_
           refine sx 38 (some 90) (tf 39 47) HT_ ?_
           refine sx 39 (some 91) (tf 40 47) HT_ ?_
           refine sx 40 (some 92) (tf 41 47) HT_ ?_
           refine sx 41 (some 93) (tf 42 47) HT_ ?_
           refine sx 42 (some 94) (tf 43 47) HT_ ?_
           refine sx 43 (some 95) (tf 44 47) HT_ ?_
           refine sx 44 (some 96) (tf 45 47) HT_ ?_
           refine sx 45 (some 97) (tf 46 47) HT_ ?_
           refine px 46 (some 98) (tf 47 47) HT_ ?_
           refine done_ (done_of HT_.out (by kernel_rfl)) ?_
           try go_wp2
           go_meet
           case rel => exact ⟨_, (true), (by first | rfl | (simp; done) | (simp [*]; done)), H', ⟨by have := HJ1.out; have := HK2.out; first | omega | exact Nat.le_refl _⟩, ⟨by repeat (first | (with_reducible first | exact HB.out | apply below_alloc | apply pw_below_drewN | apply below_drew1) | exact HB.out)⟩⟩
         case rest =>
          clear HC15
          try clear c1
          try clear c2
          try clear p2
          try clear q2
          try clear hx2
          try clear qi2
          try clear c16
          try clear c16b0
          try clear c16b1
          try clear c17
          try clear c19
          try clear c20
          try clear c26
          try clear p29
          try clear q29
          try clear hx29
          try clear qi29
          try clear hx294_0
          try clear p294
          try clear q294
          obtain ⟨kq, x98_14, rfl, HA, HJ14, HB⟩ := hcut
          cases kq with
          | zero => exact absurd HA.out (by simp [spec_l21Ok.j2])
          | succ kj14 =>
           have H := HA.out
           clear HA
           simp only [spec_l21Ok.j2] at H
           by_cases c43 : x98_14 = true
           ·subst c43
            have H1 : (some false) = some r := by rw [if_pos rfl] at H; exact H
            clear H
            have H := H1
            clear H1
            obtain rfl := Option.some.inj H
            go_wp2
            go_ret
            exact ⟨by first | rfl | (rw [Int.tdiv_eq_ediv_of_nonneg (by omega)]; rfl) | (simp [errW_none, errW_some] <;> rfl) | (simp [*, errW_none, errW_some] <;> rfl), by repeat (first | (with_reducible first | exact HB.out | apply below_alloc | apply pw_below_drewN | apply below_drew1) | exact HB.out)⟩
           ·replace c43 := Bool.eq_false_iff.mpr c43
            subst c43
            have H1 : (spec_l21Ok.l0 kj14 l0 (wrap64 (x3_2 + 1))) = some r := by rw [if_neg (show ¬ (false = true) by decide)] at H; exact H
            clear H
            have H := H1
            clear H1
            have H' := Aside0.mk H
            clear H
            go_wp2
            go_roundg kj14
            case measure => have := HJ1.out; have := HK2.out; have := HJ14.out; omega
            case rel => exact ⟨(wrap64 (x3_2 + 1)), (by first | rfl | (simp; done) | (simp [*]; done)), H', ⟨by have := HJ1.out; have := HK2.out; have := HJ14.out; omega⟩, ⟨by repeat (first | (with_reducible first | exact HB.out | apply below_alloc | apply pw_below_drewN | apply below_drew1) | exact HB.out)⟩⟩
        ·rw [if_neg c14] at H
         exact absurd H (by simp)
       ·rw [if_neg c13] at H
        have c13b0 : decide (x3_2 < (((rd_T26 l0 0).f3).length : Int)) = false := decide_eq_false c13
        clear c13
        obtain rfl := Option.some.inj H
        have p291 : 0 ≤ (0 : Int) := (by omega)
        have q291 : 0 < (l0.length : Int) := of_decide_eq_true (by first | (with_reducible assumption) | assumption)
        obtain ⟨ad291, A291_3, c291_3, e291, hx291_0, hx291_1, hx291_2, hx291_3, hl291_3, hi291_3⟩ := at_T26 HR0.out 0 p291 q291
        cases e291
        have qi291 : (0 < l0.length) = True := eq_true (by omega)
        (try rw [show ((0 : Int)).toNat = 0 from rfl] at hx291_0)
        (try rw [show 0 * 4 = 0 from rfl] at hx291_0)
        (try rw [Addr.add_zero'] at hx291_0)
        (try rw [show ((0 : Int)).toNat = 0 from rfl] at hx291_1)
        (try rw [show 0 * 4 = 0 from rfl] at hx291_1)
        (try rw [Addr.add_zero'] at hx291_1)
        (try rw [show ((0 : Int)).toNat = 0 from rfl] at hx291_2)
        (try rw [show 0 * 4 = 0 from rfl] at hx291_2)
        (try rw [Addr.add_zero'] at hx291_2)
        (try rw [show ((0 : Int)).toNat = 0 from rfl] at hx291_3)
        (try rw [show 0 * 4 = 0 from rfl] at hx291_3)
        (try rw [Addr.add_zero'] at hx291_3)
        replace hx291_0 := (HB.out.cell (World.block_lt_of_cell? w _ hx291_0)).trans hx291_0
        replace hx291_1 := (HB.out.cell (World.block_lt_of_cell? w _ hx291_1)).trans hx291_1
        replace hx291_2 := (HB.out.cell (World.block_lt_of_cell? w _ hx291_2)).trans hx291_2
        replace hx291_3 := (HB.out.cell (World.block_lt_of_cell? w _ hx291_3)).trans hx291_3
        have HR291_3 := Aside0.mk hi291_3
        have HC291_3 := Aside0.mk hl291_3
        clear hi291_3 hl291_3
        replace p291 := eq_true p291
        replace q291 := eq_true q291
        go_wp2
        go_ret
        exact ⟨by first | rfl | (rw [Int.tdiv_eq_ediv_of_nonneg (by omega)]; rfl) | (simp [errW_none, errW_some] <;> rfl) | (simp [*, errW_none, errW_some] <;> rfl), by repeat (first | (with_reducible first | exact HB.out | apply below_alloc | apply pw_below_drewN | apply below_drew1) | exact HB.out)⟩
      ·rw [if_neg c12] at H
       exact absurd H (by simp)

end Go.Proofs.YtdhpmiocpjpabaaDoor.PFnTariffs
