-- written by wip/xprint.py, a program of this session, for this claim; not trusted: Lean checks it.
import Derived.Test.YtdiboljniaolfaaDoorPFnExactTariffTextx0
import Derived.Test.YtdiboljniaolfaaDoorPFnExactTariffTextx2
import Derived.Test.YtdiboljniaolfaaDoorPFnExactTariffTextx3
namespace Go.Proofs.YtdiboljniaolfaaDoor.PFnExactTariffText
open Go.RowKit Go.Proofs.YtdiboljniaolfaaDoorW.PrintWords Go.Proofs.YtdiboljniaolfaaDoorW.PrintLast Go.Proofs.YtdiboljniaolfaaDoorW.PrintMore
attribute [local go_sem] leq_less_ max2_int min2_int max_two min_two max_three min_three max_four min_four   -- for this text's walks alone
set_option linter.unusedVariables false
set_option linter.unusedSimpArgs false

/-! ### spec_l21Text: function 11 -/
def spec_l21Text.l0 : Nat → List (S27) → ByteArray → Int → Option (ByteArray)
 | 0, _, _, _ => none
 | k + 1, x0, x3, x4 => if 0 < (x0.length : Int) then (if x4 < (((rd_T27 x0 0).f3).length : Int) then (if 0 ≤ x4 then (if 0 < ((rd_L1 ((rd_T27 x0 0).f3) x4).length : Int) then ((spec_l01Dec.f k (rd (rd_L1 ((rd_T27 x0 0).f3) x4) 0)).bind fun t160 => (if 1 + t160.size ≤ 9223372036854775807 then (if ((⟨#[32]⟩ : ByteArray) ++ t160).size + 1 ≤ 9223372036854775807 then (if 1 < ((rd_L1 ((rd_T27 x0 0).f3) x4).length : Int) then ((spec_l01Dec.f k (rd (rd_L1 ((rd_T27 x0 0).f3) x4) 1)).bind fun t164 => (if (((⟨#[32]⟩ : ByteArray) ++ t160) ++ (⟨#[58]⟩ : ByteArray)).size + t164.size ≤ 9223372036854775807 then (if x3.size + ((((⟨#[32]⟩ : ByteArray) ++ t160) ++ (⟨#[58]⟩ : ByteArray)) ++ t164).size ≤ 9223372036854775807 then (spec_l21Text.l0 k x0 (x3 ++ ((((⟨#[32]⟩ : ByteArray) ++ t160) ++ (⟨#[58]⟩ : ByteArray)) ++ t164)) (wrap64 (x4 + 1))) else (none)) else (none))) else (none)) else (none)) else (none))) else (none)) else (none)) else (some x3)) else (none)
def spec_l21Text.f (k : Nat) (l0 : List (S27)) : Option (ByteArray) := if 0 < (l0.length : Int) then (if ((rd_T27 l0 0).f0).size + 1 ≤ 9223372036854775807 then ((spec_l01Dec.f k ((rd_T27 l0 0).f1)).bind fun t153 => (if (((rd_T27 l0 0).f0) ++ (⟨#[32]⟩ : ByteArray)).size + t153.size ≤ 9223372036854775807 then (if ((((rd_T27 l0 0).f0) ++ (⟨#[32]⟩ : ByteArray)) ++ t153).size + 1 ≤ 9223372036854775807 then ((spec_l01Dec.f k ((rd_T27 l0 0).f2)).bind fun t155 => (if (((((rd_T27 l0 0).f0) ++ (⟨#[32]⟩ : ByteArray)) ++ t153) ++ (⟨#[43]⟩ : ByteArray)).size + t155.size ≤ 9223372036854775807 then (spec_l21Text.l0 k l0 ((((((rd_T27 l0 0).f0) ++ (⟨#[32]⟩ : ByteArray)) ++ t153) ++ (⟨#[43]⟩ : ByteArray)) ++ t155) 0) else (none))) else (none)) else (none))) else (none)) else (none)
theorem spec_l21Text.mono_l : ∀ k, (∀ y0 y1 y2, LeO (spec_l21Text.l0 k y0 y1 y2) (spec_l21Text.l0 (k + 1) y0 y1 y2))
 | 0 => fun _ _ _ r h => by simp [spec_l21Text.l0] at h
 | k + 1 => by
  have ih0 := spec_l21Text.mono_l k
  ·intro y0 y1 y2
   unfold spec_l21Text.l0
   repeat' first
   | (with_reducible exact ih0 _ _ _)
   | (with_reducible exact spec_l01Dec.mono _ _)
   | (with_reducible exact LeO.refl _)
   | (with_reducible exact LeO.none _)
   | (with_reducible refine LeO.ite ?_ ?_)
   | (with_reducible refine LeO.bind ?_ (fun _ => ?_))
   | exact ih0 _ _ _
   | exact spec_l01Dec.mono _ _
   | exact LeO.none _
   | refine LeO.ite ?_ ?_
   | refine LeO.bind ?_ (fun _ => ?_)
theorem spec_l21Text.mono : ∀ a0 k, LeO (spec_l21Text.f k a0) (spec_l21Text.f (k + 1) a0) := by
 intro a0 k
 have ih0 := spec_l21Text.mono_l k
 unfold spec_l21Text.f
 repeat' first
   | (with_reducible exact ih0 _ _ _)
   | (with_reducible exact spec_l01Dec.mono _ _)
   | (with_reducible exact LeO.refl _)
   | (with_reducible exact LeO.none _)
   | (with_reducible refine LeO.ite ?_ ?_)
   | (with_reducible refine LeO.bind ?_ (fun _ => ?_))
   | exact ih0 _ _ _
   | exact spec_l01Dec.mono _ _
   | exact LeO.none _
   | refine LeO.ite ?_ ?_
   | refine LeO.bind ?_ (fun _ => ?_)
def spec_l21Text.T1 : Bool × List (List Nat × List Nat) := (true, [([], []), ([0], [0]), ([1], [1]), ([2], [2]), ([3], [3]), ([], []), ([5], [5]), ([6], [6]), ([7], [7]), ([8], [8]), ([4, 9], [4, 9]), ([10], [10]), ([], []), ([12], [12]), ([13], [13]), ([14], [14]), ([15, 9], [15]), ([11, 16], [11, 16]), ([17, 16, 0, 1, 2, 3, 4, 5, 6, 7, 8, 9, 10, 11, 12, 13, 14, 15, 16, 17], [17])])
def spec_l21Text.B1 : List Nat := [0, 1, 3, 7, 15, 0, 32, 96, 224, 480, 1023, 2047, 0, 4096, 12288, 28672, 62432, 131071, 262143]
theorem spec_l21Text.tab1 : rtab .any (opsOf Tryd.f11 1) = spec_l21Text.T1 := by kernel_rfl
theorem spec_l21Text.bits1 : waitsOk spec_l21Text.T1.2 spec_l21Text.B1 = true := by kernel_rfl
def spec_l21Text.T5 : Bool × List (List Nat × List Nat) := (true, [([], []), ([], []), ([1], [1]), ([2], [2]), ([3], [3]), ([], []), ([4, 5], [4, 5]), ([6], [6]), ([7], [7]), ([8], [8]), ([9], [9]), ([10], [10]), ([11], [11]), ([], []), ([13], [13]), ([14], [14]), ([15], [15]), ([], []), ([16, 17], [16, 17]), ([18], [18]), ([19], [19]), ([20], [20]), ([21, 10], [21]), ([12, 22], [12, 22]), ([0, 23], [0, 23]), ([24, 22, 0, 1, 2, 3, 4, 5, 6, 7, 8, 9, 10, 11, 12, 13, 14, 15, 16, 17, 18, 19, 20, 21, 22, 23, 24], [0, 24])])
def spec_l21Text.B5 : List Nat := [0, 0, 2, 6, 14, 0, 62, 126, 254, 510, 1022, 2046, 4094, 0, 8192, 24576, 57344, 0, 253952, 516096, 1040384, 2088960, 4188158, 8388606, 16777215, 33554431]
theorem spec_l21Text.tab5 : rtab .any (opsOf Tryd.f11 5) = spec_l21Text.T5 := by kernel_rfl
theorem spec_l21Text.bits5 : waitsOk spec_l21Text.T5.2 spec_l21Text.B5 = true := by kernel_rfl
set_option maxHeartbeats 8000000 in
set_option maxRecDepth 100000 in
theorem spec_l21Text.calls (k : Nat) (A0 : Option Addr) (c0 : Nat) (l0 : List (S27)) (r : ByteArray) (w : World) (hr0 : Kd.C k27 w A0 l0.length l0) (hc0 : l0.length ≤ c0) (h : spec_l21Text.f k l0 = some r) :
  Calls Tryd.prog 11 #[.pointer A0] w fun e w' => e = .returned (.string r) ∧ Below w.heap.size w w' := by
 have HR0 := Aside0.mk hr0
 have HC0 := Aside0.mk hc0
 clear hr0 hc0
 have HB := Aside0.mk (Below.refl w.heap.size w)
 have H : (if 0 < (l0.length : Int) then (if ((rd_T27 l0 0).f0).size + 1 ≤ 9223372036854775807 then ((spec_l01Dec.f k ((rd_T27 l0 0).f1)).bind fun t153 => (if (((rd_T27 l0 0).f0) ++ (⟨#[32]⟩ : ByteArray)).size + t153.size ≤ 9223372036854775807 then (if ((((rd_T27 l0 0).f0) ++ (⟨#[32]⟩ : ByteArray)) ++ t153).size + 1 ≤ 9223372036854775807 then ((spec_l01Dec.f k ((rd_T27 l0 0).f2)).bind fun t155 => (if (((((rd_T27 l0 0).f0) ++ (⟨#[32]⟩ : ByteArray)) ++ t153) ++ (⟨#[43]⟩ : ByteArray)).size + t155.size ≤ 9223372036854775807 then (spec_l21Text.l0 k l0 ((((((rd_T27 l0 0).f0) ++ (⟨#[32]⟩ : ByteArray)) ++ t153) ++ (⟨#[43]⟩ : ByteArray)) ++ t155) 0) else (none))) else (none)) else (none))) else (none)) else (none)) = some r := h
 clear h
 by_cases c2 : 0 < (l0.length : Int)
 ·rw [if_pos c2] at H
  have c2b0 : decide (0 < (l0.length : Int)) = true := decide_eq_true c2
  have c2b1 : decide (0 < l0.length) = true := decide_eq_true (by omega)
  clear c2
  by_cases c3 : ((rd_T27 l0 0).f0).size + 1 ≤ 9223372036854775807
  ·rw [if_pos c3] at H
   have c3b0 := eq_true c3
   have c3b1 : decide (((rd_T27 l0 0).f0).size + 1 ≤ 9223372036854775807) = true := decide_eq_true c3
   try have c3b2 : (9223372036854775807 < ((rd_T27 l0 0).f0).size + 1) = False := eq_false (Nat.not_lt.2 c3)
   replace H := Option.bind_eq_some_iff.mp H
   obtain ⟨t153, A40, H⟩ := H
   replace H : (if (((rd_T27 l0 0).f0) ++ (⟨#[32]⟩ : ByteArray)).size + t153.size ≤ 9223372036854775807 then (if ((((rd_T27 l0 0).f0) ++ (⟨#[32]⟩ : ByteArray)) ++ t153).size + 1 ≤ 9223372036854775807 then ((spec_l01Dec.f k ((rd_T27 l0 0).f2)).bind fun t155 => (if (((((rd_T27 l0 0).f0) ++ (⟨#[32]⟩ : ByteArray)) ++ t153) ++ (⟨#[43]⟩ : ByteArray)).size + t155.size ≤ 9223372036854775807 then (spec_l21Text.l0 k l0 ((((((rd_T27 l0 0).f0) ++ (⟨#[32]⟩ : ByteArray)) ++ t153) ++ (⟨#[43]⟩ : ByteArray)) ++ t155) 0) else (none))) else (none)) else (none)) = some r := H
   have A4 := Aside0.mk A40
   clear A40
   by_cases c5 : (((rd_T27 l0 0).f0) ++ (⟨#[32]⟩ : ByteArray)).size + t153.size ≤ 9223372036854775807
   ·rw [if_pos c5] at H
    have c5b0 := eq_true c5
    have c5b1 : decide ((((rd_T27 l0 0).f0) ++ (⟨#[32]⟩ : ByteArray)).size + t153.size ≤ 9223372036854775807) = true := decide_eq_true c5
    try have c5b2 : (9223372036854775807 < (((rd_T27 l0 0).f0) ++ (⟨#[32]⟩ : ByteArray)).size + t153.size) = False := eq_false (Nat.not_lt.2 c5)
    try have c5b9 : (9223372036854775807 < ((rd_T27 l0 0).f0).size + 1 + (t153).size) = False := eq_false (by have h_ := c5; simp only [ByteArray.size_append] at h_; exact Nat.not_lt.2 h_)
    by_cases c6 : ((((rd_T27 l0 0).f0) ++ (⟨#[32]⟩ : ByteArray)) ++ t153).size + 1 ≤ 9223372036854775807
    ·rw [if_pos c6] at H
     have c6b0 := eq_true c6
     have c6b1 : decide (((((rd_T27 l0 0).f0) ++ (⟨#[32]⟩ : ByteArray)) ++ t153).size + 1 ≤ 9223372036854775807) = true := decide_eq_true c6
     try have c6b2 : (9223372036854775807 < ((((rd_T27 l0 0).f0) ++ (⟨#[32]⟩ : ByteArray)) ++ t153).size + 1) = False := eq_false (Nat.not_lt.2 c6)
     try have c6b9 : (9223372036854775807 < ((rd_T27 l0 0).f0).size + 1 + (t153).size + 1) = False := eq_false (by have h_ := c6; simp only [ByteArray.size_append] at h_; exact Nat.not_lt.2 h_)
     replace H := Option.bind_eq_some_iff.mp H
     obtain ⟨t155, A70, H⟩ := H
     replace H : (if (((((rd_T27 l0 0).f0) ++ (⟨#[32]⟩ : ByteArray)) ++ t153) ++ (⟨#[43]⟩ : ByteArray)).size + t155.size ≤ 9223372036854775807 then (spec_l21Text.l0 k l0 ((((((rd_T27 l0 0).f0) ++ (⟨#[32]⟩ : ByteArray)) ++ t153) ++ (⟨#[43]⟩ : ByteArray)) ++ t155) 0) else (none)) = some r := H
     have A7 := Aside0.mk A70
     clear A70
     by_cases c8 : (((((rd_T27 l0 0).f0) ++ (⟨#[32]⟩ : ByteArray)) ++ t153) ++ (⟨#[43]⟩ : ByteArray)).size + t155.size ≤ 9223372036854775807
     ·rw [if_pos c8] at H
      have c8b0 := eq_true c8
      have c8b1 : decide ((((((rd_T27 l0 0).f0) ++ (⟨#[32]⟩ : ByteArray)) ++ t153) ++ (⟨#[43]⟩ : ByteArray)).size + t155.size ≤ 9223372036854775807) = true := decide_eq_true c8
      try have c8b2 : (9223372036854775807 < (((((rd_T27 l0 0).f0) ++ (⟨#[32]⟩ : ByteArray)) ++ t153) ++ (⟨#[43]⟩ : ByteArray)).size + t155.size) = False := eq_false (Nat.not_lt.2 c8)
      try have c8b9 : (9223372036854775807 < ((rd_T27 l0 0).f0).size + 1 + (t153).size + 1 + (t155).size) = False := eq_false (by have h_ := c8; simp only [ByteArray.size_append] at h_; exact Nat.not_lt.2 h_)
      have H' := Aside0.mk H
      clear H
      go_enter Tryd.func11, Tryd.ntmps11
      try go_wp2
      have n0_ := Aside0.mk (below_drew1 HB.out)
      clear HB
      have HB := n0_
      clear n0_
      have p151 : 0 ≤ (0 : Int) := (by omega)
      have q151 : 0 < (l0.length : Int) := of_decide_eq_true (by first | (with_reducible assumption) | assumption)
      obtain ⟨ad151, A151_3, c151_3, e151, hx151_0, hx151_1, hx151_2, hx151_3, hl151_3, hi151_3⟩ := at_T27 HR0.out 0 p151 q151
      have hw151_3 := hx151_3
      (try rw [show ((0 : Int)).toNat = 0 from rfl] at hw151_3)
      (try rw [show 0 * 4 = 0 from rfl] at hw151_3)
      (try rw [Addr.add_zero'] at hw151_3)
      have hw151_2 := hx151_2
      (try rw [show ((0 : Int)).toNat = 0 from rfl] at hw151_2)
      (try rw [show 0 * 4 = 0 from rfl] at hw151_2)
      (try rw [Addr.add_zero'] at hw151_2)
      have hw151_1 := hx151_1
      (try rw [show ((0 : Int)).toNat = 0 from rfl] at hw151_1)
      (try rw [show 0 * 4 = 0 from rfl] at hw151_1)
      (try rw [Addr.add_zero'] at hw151_1)
      have hw151_0 := hx151_0
      (try rw [show ((0 : Int)).toNat = 0 from rfl] at hw151_0)
      (try rw [show 0 * 4 = 0 from rfl] at hw151_0)
      (try rw [Addr.add_zero'] at hw151_0)
      cases e151
      have qi151 : (0 < l0.length) = True := eq_true (by omega)
      (try rw [show ((0 : Int)).toNat = 0 from rfl] at hx151_0)
      (try rw [show 0 * 4 = 0 from rfl] at hx151_0)
      (try rw [Addr.add_zero'] at hx151_0)
      (try rw [show ((0 : Int)).toNat = 0 from rfl] at hx151_1)
      (try rw [show 0 * 4 = 0 from rfl] at hx151_1)
      (try rw [Addr.add_zero'] at hx151_1)
      (try rw [show ((0 : Int)).toNat = 0 from rfl] at hx151_2)
      (try rw [show 0 * 4 = 0 from rfl] at hx151_2)
      (try rw [Addr.add_zero'] at hx151_2)
      (try rw [show ((0 : Int)).toNat = 0 from rfl] at hx151_3)
      (try rw [show 0 * 4 = 0 from rfl] at hx151_3)
      (try rw [Addr.add_zero'] at hx151_3)
      replace hx151_0 := (HB.out.cell (World.block_lt_of_cell? w _ hx151_0)).trans hx151_0
      replace hx151_1 := (HB.out.cell (World.block_lt_of_cell? w _ hx151_1)).trans hx151_1
      replace hx151_2 := (HB.out.cell (World.block_lt_of_cell? w _ hx151_2)).trans hx151_2
      replace hx151_3 := (HB.out.cell (World.block_lt_of_cell? w _ hx151_3)).trans hx151_3
      have HR151_3 := Aside0.mk hi151_3
      have HC151_3 := Aside0.mk hl151_3
      clear hi151_3 hl151_3
      replace p151 := eq_true p151
      replace q151 := eq_true q151
      have p152 : 0 ≤ (0 : Int) := (by omega)
      have q152 : 0 < (l0.length : Int) := of_decide_eq_true (by first | (with_reducible assumption) | assumption)
      obtain ⟨ad152, A152_3, c152_3, e152, hx152_0, hx152_1, hx152_2, hx152_3, hl152_3, hi152_3⟩ := at_T27 HR0.out 0 p152 q152
      have hw152_3 := hx152_3
      (try rw [show ((0 : Int)).toNat = 0 from rfl] at hw152_3)
      (try rw [show 0 * 4 = 0 from rfl] at hw152_3)
      (try rw [Addr.add_zero'] at hw152_3)
      have hw152_2 := hx152_2
      (try rw [show ((0 : Int)).toNat = 0 from rfl] at hw152_2)
      (try rw [show 0 * 4 = 0 from rfl] at hw152_2)
      (try rw [Addr.add_zero'] at hw152_2)
      have hw152_1 := hx152_1
      (try rw [show ((0 : Int)).toNat = 0 from rfl] at hw152_1)
      (try rw [show 0 * 4 = 0 from rfl] at hw152_1)
      (try rw [Addr.add_zero'] at hw152_1)
      have hw152_0 := hx152_0
      (try rw [show ((0 : Int)).toNat = 0 from rfl] at hw152_0)
      (try rw [show 0 * 4 = 0 from rfl] at hw152_0)
      (try rw [Addr.add_zero'] at hw152_0)
      obtain rfl : ad151 = ad152 := (by injection e152)
      have qi152 : (0 < l0.length) = True := eq_true (by omega)
      (try rw [show ((0 : Int)).toNat = 0 from rfl] at hx152_0)
      (try rw [show 0 * 4 = 0 from rfl] at hx152_0)
      (try rw [Addr.add_zero'] at hx152_0)
      (try rw [show ((0 : Int)).toNat = 0 from rfl] at hx152_1)
      (try rw [show 0 * 4 = 0 from rfl] at hx152_1)
      (try rw [Addr.add_zero'] at hx152_1)
      (try rw [show ((0 : Int)).toNat = 0 from rfl] at hx152_2)
      (try rw [show 0 * 4 = 0 from rfl] at hx152_2)
      (try rw [Addr.add_zero'] at hx152_2)
      (try rw [show ((0 : Int)).toNat = 0 from rfl] at hx152_3)
      (try rw [show 0 * 4 = 0 from rfl] at hx152_3)
      (try rw [Addr.add_zero'] at hx152_3)
      replace hx152_0 := (HB.out.cell (World.block_lt_of_cell? w _ hx152_0)).trans hx152_0
      replace hx152_1 := (HB.out.cell (World.block_lt_of_cell? w _ hx152_1)).trans hx152_1
      replace hx152_2 := (HB.out.cell (World.block_lt_of_cell? w _ hx152_2)).trans hx152_2
      replace hx152_3 := (HB.out.cell (World.block_lt_of_cell? w _ hx152_3)).trans hx152_3
      have HR152_3 := Aside0.mk hi152_3
      have HC152_3 := Aside0.mk hl152_3
      clear hi152_3 hl152_3
      replace p152 := eq_true p152
      replace q152 := eq_true q152
      have ea_ := Option.some.inj (hx151_3.symm.trans hx152_3)
      injection ea_ with ea_ en_ ec_
      subst ea_
      subst ec_
      clear en_
      have p154 : 0 ≤ (0 : Int) := (by omega)
      have q154 : 0 < (l0.length : Int) := of_decide_eq_true (by first | (with_reducible assumption) | assumption)
      obtain ⟨ad154, A154_3, c154_3, e154, hx154_0, hx154_1, hx154_2, hx154_3, hl154_3, hi154_3⟩ := at_T27 HR0.out 0 p154 q154
      have hw154_3 := hx154_3
      (try rw [show ((0 : Int)).toNat = 0 from rfl] at hw154_3)
      (try rw [show 0 * 4 = 0 from rfl] at hw154_3)
      (try rw [Addr.add_zero'] at hw154_3)
      have hw154_2 := hx154_2
      (try rw [show ((0 : Int)).toNat = 0 from rfl] at hw154_2)
      (try rw [show 0 * 4 = 0 from rfl] at hw154_2)
      (try rw [Addr.add_zero'] at hw154_2)
      have hw154_1 := hx154_1
      (try rw [show ((0 : Int)).toNat = 0 from rfl] at hw154_1)
      (try rw [show 0 * 4 = 0 from rfl] at hw154_1)
      (try rw [Addr.add_zero'] at hw154_1)
      have hw154_0 := hx154_0
      (try rw [show ((0 : Int)).toNat = 0 from rfl] at hw154_0)
      (try rw [show 0 * 4 = 0 from rfl] at hw154_0)
      (try rw [Addr.add_zero'] at hw154_0)
      obtain rfl : ad151 = ad154 := (by injection e154)
      have qi154 : (0 < l0.length) = True := eq_true (by omega)
      (try rw [show ((0 : Int)).toNat = 0 from rfl] at hx154_0)
      (try rw [show 0 * 4 = 0 from rfl] at hx154_0)
      (try rw [Addr.add_zero'] at hx154_0)
      (try rw [show ((0 : Int)).toNat = 0 from rfl] at hx154_1)
      (try rw [show 0 * 4 = 0 from rfl] at hx154_1)
      (try rw [Addr.add_zero'] at hx154_1)
      (try rw [show ((0 : Int)).toNat = 0 from rfl] at hx154_2)
      (try rw [show 0 * 4 = 0 from rfl] at hx154_2)
      (try rw [Addr.add_zero'] at hx154_2)
      (try rw [show ((0 : Int)).toNat = 0 from rfl] at hx154_3)
      (try rw [show 0 * 4 = 0 from rfl] at hx154_3)
      (try rw [Addr.add_zero'] at hx154_3)
      replace hx154_0 := (HB.out.cell (World.block_lt_of_cell? w _ hx154_0)).trans hx154_0
      replace hx154_1 := (HB.out.cell (World.block_lt_of_cell? w _ hx154_1)).trans hx154_1
      replace hx154_2 := (HB.out.cell (World.block_lt_of_cell? w _ hx154_2)).trans hx154_2
      replace hx154_3 := (HB.out.cell (World.block_lt_of_cell? w _ hx154_3)).trans hx154_3
      have HR154_3 := Aside0.mk hi154_3
      have HC154_3 := Aside0.mk hl154_3
      clear hi154_3 hl154_3
      replace p154 := eq_true p154
      replace q154 := eq_true q154
      have ea_ := Option.some.inj (hx151_3.symm.trans hx154_3)
      injection ea_ with ea_ en_ ec_
      subst ea_
      subst ec_
      clear en_
      refine start_ (n := 19) (S := fun w' => w'.cell? ad151 = some (.string ((rd_T27 l0 0).f0)) ∧ w'.cell? ⟨ad151.block, ad151.off + 1, none⟩ = some (.int .i64 ((rd_T27 l0 0).f1)) ∧ w'.cell? ⟨ad151.block, ad151.off + 2, none⟩ = some (.int .i64 ((rd_T27 l0 0).f2)) ∧ w'.cell? ⟨ad151.block, ad151.off + 3, none⟩ = some (.slice A151_3 ((rd_T27 l0 0).f3).length c151_3) ∧ w'.cell? ad151 = some (.string ((rd_T27 l0 0).f0)) ∧ w'.cell? ⟨ad151.block, ad151.off + 1, none⟩ = some (.int .i64 ((rd_T27 l0 0).f1)) ∧ w'.cell? ⟨ad151.block, ad151.off + 2, none⟩ = some (.int .i64 ((rd_T27 l0 0).f2)) ∧ w'.cell? ⟨ad151.block, ad151.off + 3, none⟩ = some (.slice A151_3 ((rd_T27 l0 0).f3).length c151_3) ∧ w'.cell? ad151 = some (.string ((rd_T27 l0 0).f0)) ∧ w'.cell? ⟨ad151.block, ad151.off + 1, none⟩ = some (.int .i64 ((rd_T27 l0 0).f1)) ∧ w'.cell? ⟨ad151.block, ad151.off + 2, none⟩ = some (.int .i64 ((rd_T27 l0 0).f2)) ∧ w'.cell? ⟨ad151.block, ad151.off + 3, none⟩ = some (.slice A151_3 ((rd_T27 l0 0).f3).length c151_3)) (ds := []) (tf 0 19) (by kernel_rfl) rfl rfl ⟨((HB.out.cell (World.block_lt_of_cell? w _ hw151_0)).trans hw151_0), ((HB.out.cell (World.block_lt_of_cell? w _ hw151_1)).trans hw151_1), ((HB.out.cell (World.block_lt_of_cell? w _ hw151_2)).trans hw151_2), ((HB.out.cell (World.block_lt_of_cell? w _ hw151_3)).trans hw151_3), ((HB.out.cell (World.block_lt_of_cell? w _ hw152_0)).trans hw152_0), ((HB.out.cell (World.block_lt_of_cell? w _ hw152_1)).trans hw152_1), ((HB.out.cell (World.block_lt_of_cell? w _ hw152_2)).trans hw152_2), ((HB.out.cell (World.block_lt_of_cell? w _ hw152_3)).trans hw152_3), ((HB.out.cell (World.block_lt_of_cell? w _ hw154_0)).trans hw154_0), ((HB.out.cell (World.block_lt_of_cell? w _ hw154_1)).trans hw154_1), ((HB.out.cell (World.block_lt_of_cell? w _ hw154_2)).trans hw154_2), ((HB.out.cell (World.block_lt_of_cell? w _ hw154_3)).trans hw154_3)⟩ (fun hHeld => ?_); refine with_tabW spec_l21Text.tab1 spec_l21Text.bits1 (fun HT_ HW_ => ?_)
      generalize w.drew = w9 at HB HR151_3 HR152_3 HR154_3 hx151_0 hx151_1 hx151_2 hx151_3 hx152_0 hx152_1 hx152_2 hx152_3 hx154_0 hx154_1 hx154_2 hx154_3 hHeld ⊢
      refine px 0 (some 5) (tf 1 19) HT_ ?_
      refine px 1 (some 6) (tf 2 19) HT_ ?_
      refine px 2 (some 7) (tf 3 19) HT_ ?_
      refine px 5 (some 10) (tb 19 39) HT_ ?_
      refine px 6 (some 11) (tb 19 103) HT_ ?_
      refine px 7 (some 12) (tb 19 231) HT_ ?_
      refine px 12 (some 17) (tb 19 4327) HT_ ?_
      refine px 13 (some 18) (tb 19 12519) HT_ ?_
      refine px 14 (some 19) (tb 19 28903) HT_ ?_
      refine tx (v := ?_) 3 (some 8) (tb 19 28911) HT_ HW_ hHeld ?_ ?_
      rotate_left; (· rintro w' ⟨s0, s1, s2, s3, s4, s5, s6, s7, s8, s9, s10, s11⟩; go_simp; with_reducible rfl)
      refine px 4 (some 9) (tb 19 28927) HT_ ?_
      refine tx (v := ?_) 8 (some 13) (tb 19 29183) HT_ HW_ hHeld ?_ ?_
      rotate_left; (· rintro w' ⟨s0, s1, s2, s3, s4, s5, s6, s7, s8, s9, s10, s11⟩; go_simp; with_reducible rfl)
      refine tx (v := ?_) 15 (some 20) (tb 19 61951) HT_ HW_ hHeld ?_ ?_
      rotate_left; (· rintro w' ⟨s0, s1, s2, s3, s4, s5, s6, s7, s8, s9, s10, s11⟩; go_simp; with_reducible rfl)
      refine one_ (i := 9) (N := some 14) (tb 19 62463) rfl rfl (one_of HT_.out (by kernel_rfl)) (by decide) (fun K hK => ?_)
      refine goes_ Tryd.func19 (by kernel_rfl) rfl #[.int .i64 ((rd_T27 l0 0).f1)] (by rfl) rfl rfl (by (try simp only [List.map_toArray, List.map_cons, List.map_nil]); first | done | rfl | (simp only [List.length_drop, List.length_take]; rfl)) ?_
      with_reducible refine (spec_l01Dec.calls k ((rd_T27 l0 0).f1) t153 _ A4.out).mono ?_
      rintro e w10 ⟨rfl, hb⟩
      refine ⟨_, rfl, ?_⟩
      have n0_ := Aside0.mk (below_step (by repeat (first | (with_reducible first | exact HB.out | apply below_alloc | apply pw_below_drewN | apply below_drew1) | exact HB.out)) hb)
      clear HB
      have HB := n0_
      clear n0_
      (try clear hb)
      (try clear hb2)
      (try clear hk)
      (try clear hi)
      refine hK.out _ _ ⟨((HB.out.cell (World.block_lt_of_cell? w _ hw151_0)).trans hw151_0), ((HB.out.cell (World.block_lt_of_cell? w _ hw151_1)).trans hw151_1), ((HB.out.cell (World.block_lt_of_cell? w _ hw151_2)).trans hw151_2), ((HB.out.cell (World.block_lt_of_cell? w _ hw151_3)).trans hw151_3), ((HB.out.cell (World.block_lt_of_cell? w _ hw152_0)).trans hw152_0), ((HB.out.cell (World.block_lt_of_cell? w _ hw152_1)).trans hw152_1), ((HB.out.cell (World.block_lt_of_cell? w _ hw152_2)).trans hw152_2), ((HB.out.cell (World.block_lt_of_cell? w _ hw152_3)).trans hw152_3), ((HB.out.cell (World.block_lt_of_cell? w _ hw154_0)).trans hw154_0), ((HB.out.cell (World.block_lt_of_cell? w _ hw154_1)).trans hw154_1), ((HB.out.cell (World.block_lt_of_cell? w _ hw154_2)).trans hw154_2), ((HB.out.cell (World.block_lt_of_cell? w _ hw154_3)).trans hw154_3)⟩ (fun hHeld => ?_)
      clear hK K
      refine norm_ (a' := ?_) ?_ ?_
      rotate_left
      ·show Act.put _ (some 14) _ = _
       simp only [Act.put, List.setIfInBounds_toArray, List.set_cons_zero, List.set_cons_succ, i64_w, i32_w]
       rfl
      refine px 10 (some 15) (tb 19 63487) HT_ ?_
      refine px 11 (some 16) (tf 16 19) HT_ ?_
      refine one_ (i := 16) (N := some 21) (tf 17 19) rfl rfl (one_of HT_.out (by kernel_rfl)) (by decide) (fun K hK => ?_)
      refine goes_ Tryd.func19 (by kernel_rfl) rfl #[.int .i64 ((rd_T27 l0 0).f2)] (by rfl) rfl rfl (by (try simp only [List.map_toArray, List.map_cons, List.map_nil]); first | done | rfl | (simp only [List.length_drop, List.length_take]; rfl)) ?_
      with_reducible refine (spec_l01Dec.calls k ((rd_T27 l0 0).f2) t155 _ A7.out).mono ?_
      rintro e w11 ⟨rfl, hb⟩
      refine ⟨_, rfl, ?_⟩
      have n0_ := Aside0.mk (below_step (by repeat (first | (with_reducible first | exact HB.out | apply below_alloc | apply pw_below_drewN | apply below_drew1) | exact HB.out)) hb)
      clear HB
      have HB := n0_
      clear n0_
      (try clear hb)
      (try clear hb2)
      (try clear hk)
      (try clear hi)
      refine hK.out _ _ ⟨((HB.out.cell (World.block_lt_of_cell? w _ hw151_0)).trans hw151_0), ((HB.out.cell (World.block_lt_of_cell? w _ hw151_1)).trans hw151_1), ((HB.out.cell (World.block_lt_of_cell? w _ hw151_2)).trans hw151_2), ((HB.out.cell (World.block_lt_of_cell? w _ hw151_3)).trans hw151_3), ((HB.out.cell (World.block_lt_of_cell? w _ hw152_0)).trans hw152_0), ((HB.out.cell (World.block_lt_of_cell? w _ hw152_1)).trans hw152_1), ((HB.out.cell (World.block_lt_of_cell? w _ hw152_2)).trans hw152_2), ((HB.out.cell (World.block_lt_of_cell? w _ hw152_3)).trans hw152_3), ((HB.out.cell (World.block_lt_of_cell? w _ hw154_0)).trans hw154_0), ((HB.out.cell (World.block_lt_of_cell? w _ hw154_1)).trans hw154_1), ((HB.out.cell (World.block_lt_of_cell? w _ hw154_2)).trans hw154_2), ((HB.out.cell (World.block_lt_of_cell? w _ hw154_3)).trans hw154_3)⟩ (fun hHeld => ?_)
      clear hK K
      refine norm_ (a' := ?_) ?_ ?_
      rotate_left
      ·show Act.put _ (some 21) _ = _
       simp only [Act.put, List.setIfInBounds_toArray, List.set_cons_zero, List.set_cons_succ, i64_w, i32_w]
       rfl
      refine px 17 (some 22) (tf 18 19) HT_ ?_
      refine px 18 (some 3) (tf 19 19) HT_ ?_
      refine done_ (done_of HT_.out (by kernel_rfl)) ?_
      try go_wp2
      go_loopg [3, 4] k (fun kq v3 v4 w' => ∃ (x3_1 : ByteArray) (x4_1 : Int), v3 = .string x3_1 ∧ v4 = .int .i64 x4_1 ∧ Aside0 (spec_l21Text.l0 kq l0 x3_1 x4_1 = some r) ∧ Aside0 (kq ≤ k) ∧ Aside0 (Below w.heap.size w w'))
      case atStart => exact ⟨((((((rd_T27 l0 0).f0) ++ (⟨#[32]⟩ : ByteArray)) ++ t153) ++ (⟨#[43]⟩ : ByteArray)) ++ t155), (0), (by first | rfl | (simp; done) | (simp [*]; done)), (by first | rfl | (simp; done) | (simp [*]; done)), H', ⟨Nat.le_refl _⟩, ⟨by repeat (first | (with_reducible first | exact HB.out | apply below_alloc | apply pw_below_drewN | apply below_drew1) | exact HB.out)⟩⟩
      case round =>
       clear H'
       try clear c1
       try clear p1
       try clear q1
       try clear hx1
       try clear qi1
       try clear c2
       try clear c2b0
       try clear c2b1
       try clear p2
       try clear c3
       try clear c3b0
       try clear c3b1
       try clear c3b2
       try clear c5
       try clear c5b0
       try clear c5b1
       try clear c5b2
       try clear c6
       try clear c6b0
       try clear c6b1
       try clear c6b2
       try clear c8
       try clear c8b0
       try clear c8b1
       try clear c8b2
       try clear c11
       try clear hx151_0
       try clear hx151_1
       try clear hx151_2
       try clear hx151_3
       try clear hx152_0
       try clear hx152_1
       try clear hx152_2
       try clear hx152_3
       try clear hx154_0
       try clear hx154_1
       try clear hx154_2
       try clear hx154_3
       try clear p151
       try clear p152
       try clear p154
       try clear q151
       try clear q152
       try clear q154
       obtain ⟨x3_1, x4_1, rfl, rfl, HA, HK1, HB⟩ := hrel
       cases gk with
       | zero => exact absurd HA.out (by simp [spec_l21Text.l0])
       | succ k1 =>
        have H := HA.out
        clear HA
        simp only [spec_l21Text.l0] at H
        by_cases c12 : 0 < (l0.length : Int)
        ·rw [if_pos c12] at H
         have c12b0 : decide (0 < (l0.length : Int)) = true := decide_eq_true c12
         have c12b1 : decide (0 < l0.length) = true := decide_eq_true (by omega)
         clear c12
         by_cases c13 : x4_1 < (((rd_T27 l0 0).f3).length : Int)
         ·rw [if_pos c13] at H
          have c13b0 : decide (x4_1 < (((rd_T27 l0 0).f3).length : Int)) = true := decide_eq_true c13
          clear c13
          by_cases c14 : 0 ≤ x4_1
          ·rw [if_pos c14] at H
           have c14b0 : decide (0 ≤ x4_1) = true := decide_eq_true c14
           clear c14
           by_cases c15 : 0 < ((rd_L1 ((rd_T27 l0 0).f3) x4_1).length : Int)
           ·rw [if_pos c15] at H
            have c15b0 : decide (0 < ((rd_L1 ((rd_T27 l0 0).f3) x4_1).length : Int)) = true := decide_eq_true c15
            have c15b1 : decide (0 < (rd_L1 ((rd_T27 l0 0).f3) x4_1).length) = true := decide_eq_true (by omega)
            clear c15
            replace H := Option.bind_eq_some_iff.mp H
            obtain ⟨t160, A160, H⟩ := H
            replace H : (if 1 + t160.size ≤ 9223372036854775807 then (if ((⟨#[32]⟩ : ByteArray) ++ t160).size + 1 ≤ 9223372036854775807 then (if 1 < ((rd_L1 ((rd_T27 l0 0).f3) x4_1).length : Int) then ((spec_l01Dec.f k1 (rd (rd_L1 ((rd_T27 l0 0).f3) x4_1) 1)).bind fun t164 => (if (((⟨#[32]⟩ : ByteArray) ++ t160) ++ (⟨#[58]⟩ : ByteArray)).size + t164.size ≤ 9223372036854775807 then (if x3_1.size + ((((⟨#[32]⟩ : ByteArray) ++ t160) ++ (⟨#[58]⟩ : ByteArray)) ++ t164).size ≤ 9223372036854775807 then (spec_l21Text.l0 k1 l0 (x3_1 ++ ((((⟨#[32]⟩ : ByteArray) ++ t160) ++ (⟨#[58]⟩ : ByteArray)) ++ t164)) (wrap64 (x4_1 + 1))) else (none)) else (none))) else (none)) else (none)) else (none)) = some r := H
            have A16 := Aside0.mk A160
            clear A160
            by_cases c17 : 1 + t160.size ≤ 9223372036854775807
            ·rw [if_pos c17] at H
             have c17b0 := eq_true c17
             have c17b1 : decide (1 + t160.size ≤ 9223372036854775807) = true := decide_eq_true c17
             try have c17b2 : (9223372036854775807 < 1 + t160.size) = False := eq_false (Nat.not_lt.2 c17)
             by_cases c18 : ((⟨#[32]⟩ : ByteArray) ++ t160).size + 1 ≤ 9223372036854775807
             ·rw [if_pos c18] at H
              have c18b0 := eq_true c18
              have c18b1 : decide (((⟨#[32]⟩ : ByteArray) ++ t160).size + 1 ≤ 9223372036854775807) = true := decide_eq_true c18
              try have c18b2 : (9223372036854775807 < ((⟨#[32]⟩ : ByteArray) ++ t160).size + 1) = False := eq_false (Nat.not_lt.2 c18)
              try have c18b9 : (9223372036854775807 < 1 + (t160).size + 1) = False := eq_false (by have h_ := c18; simp only [ByteArray.size_append] at h_; exact Nat.not_lt.2 h_)
              by_cases c19 : 1 < ((rd_L1 ((rd_T27 l0 0).f3) x4_1).length : Int)
              ·rw [if_pos c19] at H
               have c19b0 : decide (1 < ((rd_L1 ((rd_T27 l0 0).f3) x4_1).length : Int)) = true := decide_eq_true c19
               have c19b1 : decide (1 < (rd_L1 ((rd_T27 l0 0).f3) x4_1).length) = true := decide_eq_true (by omega)
               clear c19
               replace H := Option.bind_eq_some_iff.mp H
               obtain ⟨t164, A200, H⟩ := H
               replace H : (if (((⟨#[32]⟩ : ByteArray) ++ t160) ++ (⟨#[58]⟩ : ByteArray)).size + t164.size ≤ 9223372036854775807 then (if x3_1.size + ((((⟨#[32]⟩ : ByteArray) ++ t160) ++ (⟨#[58]⟩ : ByteArray)) ++ t164).size ≤ 9223372036854775807 then (spec_l21Text.l0 k1 l0 (x3_1 ++ ((((⟨#[32]⟩ : ByteArray) ++ t160) ++ (⟨#[58]⟩ : ByteArray)) ++ t164)) (wrap64 (x4_1 + 1))) else (none)) else (none)) = some r := H
               have A20 := Aside0.mk A200
               clear A200
               by_cases c21 : (((⟨#[32]⟩ : ByteArray) ++ t160) ++ (⟨#[58]⟩ : ByteArray)).size + t164.size ≤ 9223372036854775807
               ·rw [if_pos c21] at H
                have c21b0 := eq_true c21
                have c21b1 : decide ((((⟨#[32]⟩ : ByteArray) ++ t160) ++ (⟨#[58]⟩ : ByteArray)).size + t164.size ≤ 9223372036854775807) = true := decide_eq_true c21
                try have c21b2 : (9223372036854775807 < (((⟨#[32]⟩ : ByteArray) ++ t160) ++ (⟨#[58]⟩ : ByteArray)).size + t164.size) = False := eq_false (Nat.not_lt.2 c21)
                try have c21b9 : (9223372036854775807 < 1 + (t160).size + 1 + (t164).size) = False := eq_false (by have h_ := c21; simp only [ByteArray.size_append] at h_; exact Nat.not_lt.2 h_)
                by_cases c22 : x3_1.size + ((((⟨#[32]⟩ : ByteArray) ++ t160) ++ (⟨#[58]⟩ : ByteArray)) ++ t164).size ≤ 9223372036854775807
                ·rw [if_pos c22] at H
                 have c22b0 := eq_true c22
                 have c22b1 : decide (x3_1.size + ((((⟨#[32]⟩ : ByteArray) ++ t160) ++ (⟨#[58]⟩ : ByteArray)) ++ t164).size ≤ 9223372036854775807) = true := decide_eq_true c22
                 try have c22b2 : (9223372036854775807 < x3_1.size + ((((⟨#[32]⟩ : ByteArray) ++ t160) ++ (⟨#[58]⟩ : ByteArray)) ++ t164).size) = False := eq_false (Nat.not_lt.2 c22)
                 try have c22b9 : (9223372036854775807 < (x3_1).size + (1 + (t160).size + 1 + (t164).size)) = False := eq_false (by have h_ := c22; simp only [ByteArray.size_append] at h_; exact Nat.not_lt.2 h_)
                 have H' := Aside0.mk H
                 clear H
                 have p156 : 0 ≤ (0 : Int) := (by omega)
                 have q156 : 0 < (l0.length : Int) := of_decide_eq_true (by first | (with_reducible assumption) | assumption)
                 obtain ⟨ad156, A156_3, c156_3, e156, hx156_0, hx156_1, hx156_2, hx156_3, hl156_3, hi156_3⟩ := at_T27 HR0.out 0 p156 q156
                 obtain rfl : ad151 = ad156 := (by injection e156)
                 have qi156 : (0 < l0.length) = True := eq_true (by omega)
                 (try rw [show ((0 : Int)).toNat = 0 from rfl] at hx156_0)
                 (try rw [show 0 * 4 = 0 from rfl] at hx156_0)
                 (try rw [Addr.add_zero'] at hx156_0)
                 (try rw [show ((0 : Int)).toNat = 0 from rfl] at hx156_1)
                 (try rw [show 0 * 4 = 0 from rfl] at hx156_1)
                 (try rw [Addr.add_zero'] at hx156_1)
                 (try rw [show ((0 : Int)).toNat = 0 from rfl] at hx156_2)
                 (try rw [show 0 * 4 = 0 from rfl] at hx156_2)
                 (try rw [Addr.add_zero'] at hx156_2)
                 (try rw [show ((0 : Int)).toNat = 0 from rfl] at hx156_3)
                 (try rw [show 0 * 4 = 0 from rfl] at hx156_3)
                 (try rw [Addr.add_zero'] at hx156_3)
                 replace hx156_0 := (HB.out.cell (World.block_lt_of_cell? w _ hx156_0)).trans hx156_0
                 replace hx156_1 := (HB.out.cell (World.block_lt_of_cell? w _ hx156_1)).trans hx156_1
                 replace hx156_2 := (HB.out.cell (World.block_lt_of_cell? w _ hx156_2)).trans hx156_2
                 replace hx156_3 := (HB.out.cell (World.block_lt_of_cell? w _ hx156_3)).trans hx156_3
                 have HR156_3 := Aside0.mk hi156_3
                 have HC156_3 := Aside0.mk hl156_3
                 clear hi156_3 hl156_3
                 replace p156 := eq_true p156
                 replace q156 := eq_true q156
                 try go_wp2
                 have n0_ := Aside0.mk (below_drew1 HB.out)
                 clear HB
                 have HB := n0_
                 clear n0_
                 have p157 : 0 ≤ (0 : Int) := (by omega)
                 have q157 : 0 < (l0.length : Int) := of_decide_eq_true (by first | (with_reducible assumption) | assumption)
                 obtain ⟨ad157, A157_3, c157_3, e157, hx157_0, hx157_1, hx157_2, hx157_3, hl157_3, hi157_3⟩ := at_T27 HR0.out 0 p157 q157
                 have hw157_3 := hx157_3
                 (try rw [show ((0 : Int)).toNat = 0 from rfl] at hw157_3)
                 (try rw [show 0 * 4 = 0 from rfl] at hw157_3)
                 (try rw [Addr.add_zero'] at hw157_3)
                 have hw157_2 := hx157_2
                 (try rw [show ((0 : Int)).toNat = 0 from rfl] at hw157_2)
                 (try rw [show 0 * 4 = 0 from rfl] at hw157_2)
                 (try rw [Addr.add_zero'] at hw157_2)
                 have hw157_1 := hx157_1
                 (try rw [show ((0 : Int)).toNat = 0 from rfl] at hw157_1)
                 (try rw [show 0 * 4 = 0 from rfl] at hw157_1)
                 (try rw [Addr.add_zero'] at hw157_1)
                 have hw157_0 := hx157_0
                 (try rw [show ((0 : Int)).toNat = 0 from rfl] at hw157_0)
                 (try rw [show 0 * 4 = 0 from rfl] at hw157_0)
                 (try rw [Addr.add_zero'] at hw157_0)
                 obtain rfl : ad151 = ad157 := (by injection e157)
                 have qi157 : (0 < l0.length) = True := eq_true (by omega)
                 (try rw [show ((0 : Int)).toNat = 0 from rfl] at hx157_0)
                 (try rw [show 0 * 4 = 0 from rfl] at hx157_0)
                 (try rw [Addr.add_zero'] at hx157_0)
                 (try rw [show ((0 : Int)).toNat = 0 from rfl] at hx157_1)
                 (try rw [show 0 * 4 = 0 from rfl] at hx157_1)
                 (try rw [Addr.add_zero'] at hx157_1)
                 (try rw [show ((0 : Int)).toNat = 0 from rfl] at hx157_2)
                 (try rw [show 0 * 4 = 0 from rfl] at hx157_2)
                 (try rw [Addr.add_zero'] at hx157_2)
                 (try rw [show ((0 : Int)).toNat = 0 from rfl] at hx157_3)
                 (try rw [show 0 * 4 = 0 from rfl] at hx157_3)
                 (try rw [Addr.add_zero'] at hx157_3)
                 replace hx157_0 := (HB.out.cell (World.block_lt_of_cell? w _ hx157_0)).trans hx157_0
                 replace hx157_1 := (HB.out.cell (World.block_lt_of_cell? w _ hx157_1)).trans hx157_1
                 replace hx157_2 := (HB.out.cell (World.block_lt_of_cell? w _ hx157_2)).trans hx157_2
                 replace hx157_3 := (HB.out.cell (World.block_lt_of_cell? w _ hx157_3)).trans hx157_3
                 have HR157_3 := Aside0.mk hi157_3
                 have HC157_3 := Aside0.mk hl157_3
                 clear hi157_3 hl157_3
                 replace p157 := eq_true p157
                 replace q157 := eq_true q157
                 have p158 : 0 ≤ (x4_1 : Int) := of_decide_eq_true (by first | (with_reducible assumption) | assumption)
                 have q158 : x4_1 < (((rd_T27 l0 0).f3).length : Int) := of_decide_eq_true (by first | (with_reducible assumption) | assumption)
                 obtain ⟨ad158, A158_0, c158_0, e158, hx158_0, hl158_0, hi158_0⟩ := at_L1 HR157_3.out x4_1 p158 q158
                 have hw158_0 := hx158_0
                 cases e158
                 replace hx158_0 := (HB.out.cell (World.block_lt_of_cell? w _ hx158_0)).trans hx158_0
                 have HR158_0 := Aside0.mk hi158_0
                 have HC158_0 := Aside0.mk hl158_0
                 clear hi158_0 hl158_0
                 replace p158 := eq_true p158
                 replace q158 := eq_true q158
                 have p159 : 0 ≤ (0 : Int) := (by omega)
                 have q159 : 0 < ((rd_L1 ((rd_T27 l0 0).f3) x4_1).length : Int) := of_decide_eq_true (by first | (with_reducible assumption) | assumption)
                 obtain ⟨ad159, e159, hx159_0⟩ := Kd.at_int HR158_0.out 0 p159 q159
                 have hw159_0 := hx159_0
                 (try rw [show ((0 : Int)).toNat = 0 from rfl] at hw159_0)
                 (try rw [show 0 * 1 = 0 from rfl] at hw159_0)
                 (try rw [Addr.add_zero'] at hw159_0)
                 cases e159
                 have qi159 : (0 < (rd_L1 ((rd_T27 l0 0).f3) x4_1).length) = True := eq_true (by omega)
                 (try rw [show ((0 : Int)).toNat = 0 from rfl] at hx159_0)
                 (try rw [Addr.add_zero'] at hx159_0)
                 replace hx159_0 := (HB.out.cell (World.block_lt_of_cell? w _ hx159_0)).trans hx159_0
                 replace p159 := eq_true p159
                 replace q159 := eq_true q159
                 have p161 : 0 ≤ (0 : Int) := (by omega)
                 have q161 : 0 < (l0.length : Int) := of_decide_eq_true (by first | (with_reducible assumption) | assumption)
                 obtain ⟨ad161, A161_3, c161_3, e161, hx161_0, hx161_1, hx161_2, hx161_3, hl161_3, hi161_3⟩ := at_T27 HR0.out 0 p161 q161
                 have hw161_3 := hx161_3
                 (try rw [show ((0 : Int)).toNat = 0 from rfl] at hw161_3)
                 (try rw [show 0 * 4 = 0 from rfl] at hw161_3)
                 (try rw [Addr.add_zero'] at hw161_3)
                 have hw161_2 := hx161_2
                 (try rw [show ((0 : Int)).toNat = 0 from rfl] at hw161_2)
                 (try rw [show 0 * 4 = 0 from rfl] at hw161_2)
                 (try rw [Addr.add_zero'] at hw161_2)
                 have hw161_1 := hx161_1
                 (try rw [show ((0 : Int)).toNat = 0 from rfl] at hw161_1)
                 (try rw [show 0 * 4 = 0 from rfl] at hw161_1)
                 (try rw [Addr.add_zero'] at hw161_1)
                 have hw161_0 := hx161_0
                 (try rw [show ((0 : Int)).toNat = 0 from rfl] at hw161_0)
                 (try rw [show 0 * 4 = 0 from rfl] at hw161_0)
                 (try rw [Addr.add_zero'] at hw161_0)
                 obtain rfl : ad151 = ad161 := (by injection e161)
                 have qi161 : (0 < l0.length) = True := eq_true (by omega)
                 (try rw [show ((0 : Int)).toNat = 0 from rfl] at hx161_0)
                 (try rw [show 0 * 4 = 0 from rfl] at hx161_0)
                 (try rw [Addr.add_zero'] at hx161_0)
                 (try rw [show ((0 : Int)).toNat = 0 from rfl] at hx161_1)
                 (try rw [show 0 * 4 = 0 from rfl] at hx161_1)
                 (try rw [Addr.add_zero'] at hx161_1)
                 (try rw [show ((0 : Int)).toNat = 0 from rfl] at hx161_2)
                 (try rw [show 0 * 4 = 0 from rfl] at hx161_2)
                 (try rw [Addr.add_zero'] at hx161_2)
                 (try rw [show ((0 : Int)).toNat = 0 from rfl] at hx161_3)
                 (try rw [show 0 * 4 = 0 from rfl] at hx161_3)
                 (try rw [Addr.add_zero'] at hx161_3)
                 replace hx161_0 := (HB.out.cell (World.block_lt_of_cell? w _ hx161_0)).trans hx161_0
                 replace hx161_1 := (HB.out.cell (World.block_lt_of_cell? w _ hx161_1)).trans hx161_1
                 replace hx161_2 := (HB.out.cell (World.block_lt_of_cell? w _ hx161_2)).trans hx161_2
                 replace hx161_3 := (HB.out.cell (World.block_lt_of_cell? w _ hx161_3)).trans hx161_3
                 have HR161_3 := Aside0.mk hi161_3
                 have HC161_3 := Aside0.mk hl161_3
                 clear hi161_3 hl161_3
                 replace p161 := eq_true p161
                 replace q161 := eq_true q161
                 have ea_ := Option.some.inj (hx157_3.symm.trans hx161_3)
                 injection ea_ with ea_ en_ ec_
                 subst ea_
                 subst ec_
                 clear en_
                 have p162 : 0 ≤ (x4_1 : Int) := of_decide_eq_true (by first | (with_reducible assumption) | assumption)
                 have q162 : x4_1 < (((rd_T27 l0 0).f3).length : Int) := of_decide_eq_true (by first | (with_reducible assumption) | assumption)
                 obtain ⟨ad162, A162_0, c162_0, e162, hx162_0, hl162_0, hi162_0⟩ := at_L1 HR161_3.out x4_1 p162 q162
                 have hw162_0 := hx162_0
                 obtain rfl : ad158 = ad162 := (by injection e162)
                 have ea_ := Option.some.inj (hw158_0.symm.trans hw162_0)
                 injection ea_ with ea_ en_ ec_
                 subst ea_
                 subst ec_
                 clear en_
                 replace hx162_0 := (HB.out.cell (World.block_lt_of_cell? w _ hx162_0)).trans hx162_0
                 have HR162_0 := Aside0.mk hi162_0
                 have HC162_0 := Aside0.mk hl162_0
                 clear hi162_0 hl162_0
                 replace p162 := eq_true p162
                 replace q162 := eq_true q162
                 have p163 : 0 ≤ (1 : Int) := (by omega)
                 have q163 : 1 < ((rd_L1 ((rd_T27 l0 0).f3) x4_1).length : Int) := of_decide_eq_true (by first | (with_reducible assumption) | assumption)
                 obtain ⟨ad163, e163, hx163_0⟩ := Kd.at_int HR162_0.out 1 p163 q163
                 have hw163_0 := hx163_0
                 (try rw [show ((1 : Int)).toNat = 1 from rfl] at hw163_0)
                 (try rw [show 1 * 1 = 1 from rfl] at hw163_0)
                 (try simp only [Nat.reduceMul, Nat.reduceEqDiff, Go.Addr.add, ↓reduceIte] at hw163_0)
                 cases e163
                 (try simp only [show (1 : Int).toNat = 1 from rfl, Nat.reduceMul, Nat.reduceEqDiff, Go.Addr.add, ↓reduceIte] at hx163_0)
                 have qi163 : (1 < (rd_L1 ((rd_T27 l0 0).f3) x4_1).length) = True := eq_true (by omega)
                 (try rw [show ((1 : Int)).toNat = 1 from rfl] at hx163_0)
                 replace hx163_0 := (HB.out.cell (World.block_lt_of_cell? w _ hx163_0)).trans hx163_0
                 replace p163 := eq_true p163
                 replace q163 := eq_true q163
                 refine start_ (n := 26) (S := fun w' => w'.cell? ad151 = some (.string ((rd_T27 l0 0).f0)) ∧ w'.cell? ⟨ad151.block, ad151.off + 1, none⟩ = some (.int .i64 ((rd_T27 l0 0).f1)) ∧ w'.cell? ⟨ad151.block, ad151.off + 2, none⟩ = some (.int .i64 ((rd_T27 l0 0).f2)) ∧ w'.cell? ⟨ad151.block, ad151.off + 3, none⟩ = some (.slice (some ad158) ((rd_T27 l0 0).f3).length c157_3) ∧ w'.cell? (ad158.add (x4_1).toNat) = some (.slice (some ad159) (rd_L1 ((rd_T27 l0 0).f3) x4_1).length c158_0) ∧ w'.cell? ad159 = some (.int .i64 (rd (rd_L1 ((rd_T27 l0 0).f3) x4_1) 0)) ∧ w'.cell? ad151 = some (.string ((rd_T27 l0 0).f0)) ∧ w'.cell? ⟨ad151.block, ad151.off + 1, none⟩ = some (.int .i64 ((rd_T27 l0 0).f1)) ∧ w'.cell? ⟨ad151.block, ad151.off + 2, none⟩ = some (.int .i64 ((rd_T27 l0 0).f2)) ∧ w'.cell? ⟨ad151.block, ad151.off + 3, none⟩ = some (.slice (some ad158) ((rd_T27 l0 0).f3).length c157_3) ∧ w'.cell? (ad158.add (x4_1).toNat) = some (.slice (some ad159) (rd_L1 ((rd_T27 l0 0).f3) x4_1).length c158_0) ∧ w'.cell? ⟨ad159.block, ad159.off + 1, none⟩ = some (.int .i64 (rd (rd_L1 ((rd_T27 l0 0).f3) x4_1) 1))) (ds := []) (tf 0 26) (by kernel_rfl) rfl rfl ⟨((HB.out.cell (World.block_lt_of_cell? w _ hw157_0)).trans hw157_0), ((HB.out.cell (World.block_lt_of_cell? w _ hw157_1)).trans hw157_1), ((HB.out.cell (World.block_lt_of_cell? w _ hw157_2)).trans hw157_2), ((HB.out.cell (World.block_lt_of_cell? w _ hw157_3)).trans hw157_3), ((HB.out.cell (World.block_lt_of_cell? w _ hw158_0)).trans hw158_0), ((HB.out.cell (World.block_lt_of_cell? w _ hw159_0)).trans hw159_0), ((HB.out.cell (World.block_lt_of_cell? w _ hw161_0)).trans hw161_0), ((HB.out.cell (World.block_lt_of_cell? w _ hw161_1)).trans hw161_1), ((HB.out.cell (World.block_lt_of_cell? w _ hw161_2)).trans hw161_2), ((HB.out.cell (World.block_lt_of_cell? w _ hw161_3)).trans hw161_3), ((HB.out.cell (World.block_lt_of_cell? w _ hw162_0)).trans hw162_0), ((HB.out.cell (World.block_lt_of_cell? w _ hw163_0)).trans hw163_0)⟩ (fun hHeld => ?_); refine with_tabW spec_l21Text.tab5 spec_l21Text.bits5 (fun HT_ HW_ => ?_)
                 generalize wr.drew = w23 at HB HR157_3 HR158_0 HR161_3 HR162_0 hx157_0 hx157_1 hx157_2 hx157_3 hx158_0 hx159_0 hx161_0 hx161_1 hx161_2 hx161_3 hx162_0 hx163_0 hHeld ⊢
                 refine px 0 (some 32) (tf 1 26) HT_ ?_
                 refine px 1 (some 33) (tf 2 26) HT_ ?_
                 refine px 2 (some 34) (tf 3 26) HT_ ?_
                 refine px 3 (some 35) (tf 4 26) HT_ ?_
                 refine px 5 (some 37) (tb 26 47) HT_ ?_
                 refine px 13 (some 45) (tb 26 8239) HT_ ?_
                 refine px 14 (some 46) (tb 26 24623) HT_ ?_
                 refine px 15 (some 47) (tb 26 57391) HT_ ?_
                 refine px 17 (some 49) (tb 26 188463) HT_ ?_
                 refine tx (v := ?_) 4 (some 36) (tb 26 188479) HT_ HW_ hHeld ?_ ?_
                 rotate_left; (· rintro w' ⟨s0, s1, s2, s3, s4, s5, s6, s7, s8, s9, s10, s11⟩; go_simp; with_reducible rfl)
                 refine px 6 (some 38) (tb 26 188543) HT_ ?_
                 refine tx (v := ?_) 7 (some 39) (tb 26 188671) HT_ HW_ hHeld ?_ ?_
                 rotate_left; (· rintro w' ⟨s0, s1, s2, s3, s4, s5, s6, s7, s8, s9, s10, s11⟩; go_simp; with_reducible rfl)
                 refine px 8 (some 40) (tb 26 188927) HT_ ?_
                 refine tx (v := ?_) 9 (some 41) (tb 26 189439) HT_ HW_ hHeld ?_ ?_
                 rotate_left; (· rintro w' ⟨s0, s1, s2, s3, s4, s5, s6, s7, s8, s9, s10, s11⟩; go_simp; with_reducible rfl)
                 refine tx (v := ?_) 16 (some 48) (tb 26 254975) HT_ HW_ hHeld ?_ ?_
                 rotate_left; (· rintro w' ⟨s0, s1, s2, s3, s4, s5, s6, s7, s8, s9, s10, s11⟩; go_simp; with_reducible rfl)
                 refine px 18 (some 50) (tb 26 517119) HT_ ?_
                 refine tx (v := ?_) 19 (some 51) (tb 26 1041407) HT_ HW_ hHeld ?_ ?_
                 rotate_left; (· rintro w' ⟨s0, s1, s2, s3, s4, s5, s6, s7, s8, s9, s10, s11⟩; go_simp; with_reducible rfl)
                 refine px 20 (some 52) (tb 26 2089983) HT_ ?_
                 refine tx (v := ?_) 21 (some 53) (tb 26 4187135) HT_ HW_ hHeld ?_ ?_
                 rotate_left; (· rintro w' ⟨s0, s1, s2, s3, s4, s5, s6, s7, s8, s9, s10, s11⟩; go_simp; with_reducible rfl)
                 refine one_ (i := 10) (N := some 42) (tb 26 4188159) rfl rfl (one_of HT_.out (by kernel_rfl)) (by decide) (fun K hK => ?_)
                 refine goes_ Tryd.func19 (by kernel_rfl) rfl #[.int .i64 (rd (rd_L1 ((rd_T27 l0 0).f3) x4_1) 0)] (by rfl) rfl rfl (by (try simp only [List.map_toArray, List.map_cons, List.map_nil]); first | done | rfl | (simp only [List.length_drop, List.length_take]; rfl)) ?_
                 with_reducible refine (spec_l01Dec.calls k1 (rd (rd_L1 ((rd_T27 l0 0).f3) x4_1) 0) t160 _ A16.out).mono ?_
                 rintro e w24 ⟨rfl, hb⟩
                 refine ⟨_, rfl, ?_⟩
                 have n0_ := Aside0.mk (below_step (by repeat (first | (with_reducible first | exact HB.out | apply below_alloc | apply pw_below_drewN | apply below_drew1) | exact HB.out)) hb)
                 clear HB
                 have HB := n0_
                 clear n0_
                 (try clear hb)
                 (try clear hb2)
                 (try clear hk)
                 (try clear hi)
                 refine hK.out _ _ ⟨((HB.out.cell (World.block_lt_of_cell? w _ hw157_0)).trans hw157_0), ((HB.out.cell (World.block_lt_of_cell? w _ hw157_1)).trans hw157_1), ((HB.out.cell (World.block_lt_of_cell? w _ hw157_2)).trans hw157_2), ((HB.out.cell (World.block_lt_of_cell? w _ hw157_3)).trans hw157_3), ((HB.out.cell (World.block_lt_of_cell? w _ hw158_0)).trans hw158_0), ((HB.out.cell (World.block_lt_of_cell? w _ hw159_0)).trans hw159_0), ((HB.out.cell (World.block_lt_of_cell? w _ hw161_0)).trans hw161_0), ((HB.out.cell (World.block_lt_of_cell? w _ hw161_1)).trans hw161_1), ((HB.out.cell (World.block_lt_of_cell? w _ hw161_2)).trans hw161_2), ((HB.out.cell (World.block_lt_of_cell? w _ hw161_3)).trans hw161_3), ((HB.out.cell (World.block_lt_of_cell? w _ hw162_0)).trans hw162_0), ((HB.out.cell (World.block_lt_of_cell? w _ hw163_0)).trans hw163_0)⟩ (fun hHeld => ?_)
                 clear hK K
                 refine norm_ (a' := ?_) ?_ ?_
                 rotate_left
                 ·show Act.put _ (some 42) _ = _
                  simp only [Act.put, List.setIfInBounds_toArray, List.set_cons_zero, List.set_cons_succ, i64_w, i32_w]
                  rfl
                 refine px 11 (some 43) (tb 26 4190207) HT_ ?_
                 refine px 12 (some 44) (tf 22 26) HT_ ?_
                 refine one_ (i := 22) (N := some 54) (tf 23 26) rfl rfl (one_of HT_.out (by kernel_rfl)) (by decide) (fun K hK => ?_)
                 refine goes_ Tryd.func19 (by kernel_rfl) rfl #[.int .i64 (rd (rd_L1 ((rd_T27 l0 0).f3) x4_1) 1)] (by rfl) rfl rfl (by (try simp only [List.map_toArray, List.map_cons, List.map_nil]); first | done | rfl | (simp only [List.length_drop, List.length_take]; rfl)) ?_
                 with_reducible refine (spec_l01Dec.calls k1 (rd (rd_L1 ((rd_T27 l0 0).f3) x4_1) 1) t164 _ A20.out).mono ?_
                 rintro e w25 ⟨rfl, hb⟩
                 refine ⟨_, rfl, ?_⟩
                 have n0_ := Aside0.mk (below_step (by repeat (first | (with_reducible first | exact HB.out | apply below_alloc | apply pw_below_drewN | apply below_drew1) | exact HB.out)) hb)
                 clear HB
                 have HB := n0_
                 clear n0_
                 (try clear hb)
                 (try clear hb2)
                 (try clear hk)
                 (try clear hi)
                 refine hK.out _ _ ⟨((HB.out.cell (World.block_lt_of_cell? w _ hw157_0)).trans hw157_0), ((HB.out.cell (World.block_lt_of_cell? w _ hw157_1)).trans hw157_1), ((HB.out.cell (World.block_lt_of_cell? w _ hw157_2)).trans hw157_2), ((HB.out.cell (World.block_lt_of_cell? w _ hw157_3)).trans hw157_3), ((HB.out.cell (World.block_lt_of_cell? w _ hw158_0)).trans hw158_0), ((HB.out.cell (World.block_lt_of_cell? w _ hw159_0)).trans hw159_0), ((HB.out.cell (World.block_lt_of_cell? w _ hw161_0)).trans hw161_0), ((HB.out.cell (World.block_lt_of_cell? w _ hw161_1)).trans hw161_1), ((HB.out.cell (World.block_lt_of_cell? w _ hw161_2)).trans hw161_2), ((HB.out.cell (World.block_lt_of_cell? w _ hw161_3)).trans hw161_3), ((HB.out.cell (World.block_lt_of_cell? w _ hw162_0)).trans hw162_0), ((HB.out.cell (World.block_lt_of_cell? w _ hw163_0)).trans hw163_0)⟩ (fun hHeld => ?_)
                 clear hK K
                 refine norm_ (a' := ?_) ?_ ?_
                 rotate_left
                 ·show Act.put _ (some 54) _ = _
                  simp only [Act.put, List.setIfInBounds_toArray, List.set_cons_zero, List.set_cons_succ, i64_w, i32_w]
                  rfl
                 refine px 23 (some 55) (tf 24 26) HT_ ?_
                 refine px 24 (some 56) (tf 25 26) HT_ ?_
                 refine px 25 (some 3) (tf 26 26) HT_ ?_
                 refine done_ (done_of HT_.out (by kernel_rfl)) ?_
                 try go_wp2
                 go_roundg k1
                 case measure => have := HK1.out; omega
                 case rel => exact ⟨(x3_1 ++ ((((⟨#[32]⟩ : ByteArray) ++ t160) ++ (⟨#[58]⟩ : ByteArray)) ++ t164)), (wrap64 (x4_1 + 1)), (by first | rfl | (simp; done) | (simp [*]; done)), (by first | rfl | (simp; done) | (simp [*]; done)), H', ⟨by have := HK1.out; omega⟩, ⟨by repeat (first | (with_reducible first | exact HB.out | apply below_alloc | apply pw_below_drewN | apply below_drew1) | exact HB.out)⟩⟩
                ·rw [if_neg c22] at H
                 exact absurd H (by simp)
               ·rw [if_neg c21] at H
                exact absurd H (by simp)
              ·rw [if_neg c19] at H
               exact absurd H (by simp)
             ·rw [if_neg c18] at H
              exact absurd H (by simp)
            ·rw [if_neg c17] at H
             exact absurd H (by simp)
           ·rw [if_neg c15] at H
            exact absurd H (by simp)
          ·rw [if_neg c14] at H
           exact absurd H (by simp)
         ·rw [if_neg c13] at H
          have c13b0 : decide (x4_1 < (((rd_T27 l0 0).f3).length : Int)) = false := decide_eq_false c13
          clear c13
          obtain rfl := Option.some.inj H
          have p156 : 0 ≤ (0 : Int) := (by omega)
          have q156 : 0 < (l0.length : Int) := of_decide_eq_true (by first | (with_reducible assumption) | assumption)
          obtain ⟨ad156, A156_3, c156_3, e156, hx156_0, hx156_1, hx156_2, hx156_3, hl156_3, hi156_3⟩ := at_T27 HR0.out 0 p156 q156
          obtain rfl : ad151 = ad156 := (by injection e156)
          have qi156 : (0 < l0.length) = True := eq_true (by omega)
          (try rw [show ((0 : Int)).toNat = 0 from rfl] at hx156_0)
          (try rw [show 0 * 4 = 0 from rfl] at hx156_0)
          (try rw [Addr.add_zero'] at hx156_0)
          (try rw [show ((0 : Int)).toNat = 0 from rfl] at hx156_1)
          (try rw [show 0 * 4 = 0 from rfl] at hx156_1)
          (try rw [Addr.add_zero'] at hx156_1)
          (try rw [show ((0 : Int)).toNat = 0 from rfl] at hx156_2)
          (try rw [show 0 * 4 = 0 from rfl] at hx156_2)
          (try rw [Addr.add_zero'] at hx156_2)
          (try rw [show ((0 : Int)).toNat = 0 from rfl] at hx156_3)
          (try rw [show 0 * 4 = 0 from rfl] at hx156_3)
          (try rw [Addr.add_zero'] at hx156_3)
          replace hx156_0 := (HB.out.cell (World.block_lt_of_cell? w _ hx156_0)).trans hx156_0
          replace hx156_1 := (HB.out.cell (World.block_lt_of_cell? w _ hx156_1)).trans hx156_1
          replace hx156_2 := (HB.out.cell (World.block_lt_of_cell? w _ hx156_2)).trans hx156_2
          replace hx156_3 := (HB.out.cell (World.block_lt_of_cell? w _ hx156_3)).trans hx156_3
          have HR156_3 := Aside0.mk hi156_3
          have HC156_3 := Aside0.mk hl156_3
          clear hi156_3 hl156_3
          replace p156 := eq_true p156
          replace q156 := eq_true q156
          go_wp2
          go_ret
          exact ⟨by first | rfl | (rw [Int.tdiv_eq_ediv_of_nonneg (by omega)]; rfl) | (simp [errW_none, errW_some] <;> rfl) | (simp [*, errW_none, errW_some] <;> rfl), by repeat (first | (with_reducible first | exact HB.out | apply below_alloc | apply pw_below_drewN | apply below_drew1) | exact HB.out)⟩
        ·rw [if_neg c12] at H
         exact absurd H (by simp)
     ·rw [if_neg c8] at H
      exact absurd H (by simp)
    ·rw [if_neg c6] at H
     exact absurd H (by simp)
   ·rw [if_neg c5] at H
    exact absurd H (by simp)
  ·rw [if_neg c3] at H
   exact absurd H (by simp)
 ·rw [if_neg c2] at H
  exact absurd H (by simp)

/-! ### spec_TariffText: function 5 -/
def spec_TariffText.f (k : Nat) (a0_0 : ByteArray) (a0_1 : Int) (a0_2 : Int) (l0_3 : List (List Int)) : Option (ByteArray) := (spec_l21Ok.f k [(⟨a0_0, a0_1, a0_2, l0_3⟩ : S27)]).bind fun t166 => (if t166 = true then ((spec_l21Text.f k [(⟨a0_0, a0_1, a0_2, l0_3⟩ : S27)]).bind fun t167 => (some t167)) else (some (⟨#[]⟩ : ByteArray)))
theorem spec_TariffText.mono : ∀ a0 a1 a2 a3 k, LeO (spec_TariffText.f k a0 a1 a2 a3) (spec_TariffText.f (k + 1) a0 a1 a2 a3) := by
 intro a0 a1 a2 a3 k
 unfold spec_TariffText.f
 repeat' first
   | (with_reducible exact spec_l21Ok.mono _ _)
   | (with_reducible exact spec_l21Text.mono _ _)
   | (with_reducible exact LeO.refl _)
   | (with_reducible exact LeO.none _)
   | (with_reducible refine LeO.ite ?_ ?_)
   | (with_reducible refine LeO.bind ?_ (fun _ => ?_))
   | exact spec_l21Ok.mono _ _
   | exact spec_l21Text.mono _ _
   | exact LeO.none _
   | refine LeO.ite ?_ ?_
   | refine LeO.bind ?_ (fun _ => ?_)
set_option maxHeartbeats 8000000 in
set_option maxRecDepth 100000 in
theorem spec_TariffText.calls (k : Nat) (a0_0 : ByteArray) (a0_1 : Int) (a0_2 : Int) (A0_3 : Option Addr) (c0_3 : Nat) (l0_3 : List (List Int)) (r : ByteArray) (w : World) (hr0_3 : Kd.C (Kd.slice 2 (Kd.int .i64)) w A0_3 l0_3.length l0_3) (hc0_3 : l0_3.length ≤ c0_3) (h : spec_TariffText.f k a0_0 a0_1 a0_2 l0_3 = some r) :
  Calls Tryd.prog 5 #[.agg #[.string a0_0, .int .i64 a0_1, .int .i64 a0_2, .slice A0_3 l0_3.length c0_3]] w fun e w' => e = .returned (.string r) ∧ Below w.heap.size w w' := by
 have hu27 := Tryd.underlying27
 have HR0_3 := Aside0.mk hr0_3
 have HC0_3 := Aside0.mk hc0_3
 clear hr0_3 hc0_3
 have HB := Aside0.mk (Below.refl w.heap.size w)
 have H : ((spec_l21Ok.f k [(⟨a0_0, a0_1, a0_2, l0_3⟩ : S27)]).bind fun t166 => (if t166 = true then ((spec_l21Text.f k [(⟨a0_0, a0_1, a0_2, l0_3⟩ : S27)]).bind fun t167 => (some t167)) else (some (⟨#[]⟩ : ByteArray)))) = some r := h
 clear h
 replace H := Option.bind_eq_some_iff.mp H
 obtain ⟨t166, A20, H⟩ := H
 replace H : (if t166 = true then ((spec_l21Text.f k [(⟨a0_0, a0_1, a0_2, l0_3⟩ : S27)]).bind fun t167 => (some t167)) else (some (⟨#[]⟩ : ByteArray))) = some r := H
 have A2 := Aside0.mk A20
 clear A20
 by_cases c3 : t166 = true
 ·subst c3
  have H1 : ((spec_l21Text.f k [(⟨a0_0, a0_1, a0_2, l0_3⟩ : S27)]).bind fun t167 => (some t167)) = some r := by rw [if_pos rfl] at H; exact H
  clear H
  have H := H1
  clear H1
  replace H := Option.bind_eq_some_iff.mp H
  obtain ⟨t167, A40, H⟩ := H
  replace H : (some t167) = some r := H
  have A4 := Aside0.mk A40
  clear A40
  obtain rfl := Option.some.inj H
  go_enter Tryd.func5, Tryd.ntmps5
  go_wp2_with (first | ((with_reducible refine gate_dst (N := 1) rfl ?_); refine box_event ?hg (N := 1) ?hd (cs := #[.string a0_0, .int .i64 a0_1, .int .i64 a0_2, .slice A0_3 l0_3.length c0_3]) (t := 27) ?hr ?_; (case hd => rfl); (case hg => rfl); (case hr => first | (go_simp; done) | (go_simp; rfl)); intro gb165 hg w5 hbox hb; have n0_ := Aside0.mk (below_step (by repeat (first | (with_reducible first | exact HB.out | apply below_alloc | apply pw_below_drewN | apply below_drew1) | exact HB.out)) hb); have n1_ := Aside0.mk (hbox); have n2_ := Aside0.mk ((by rw [hg]; exact (below_size (by repeat (first | (with_reducible first | exact HB.out | apply below_alloc | apply pw_below_drewN | apply below_drew1) | exact HB.out))) : w.heap.size ≤ gb165)); have n3_ := Aside0.mk ((by rw [hg]; exact (below_size (by repeat (first | (with_reducible first | exact HB.out | apply below_alloc | apply pw_below_drewN | apply below_drew1) | exact HB.out))) : w.heap.size ≤ gb165)); clear HB; have HB := n0_; have BK165 := n1_; have GW165 := n2_; have GE165 := n3_; clear n0_ n1_ n2_ n3_; clear hb hbox hg) | ((with_reducible refine gate_callee (f := 10) rfl ?_); refine goesL_ (some 3) rfl rfl Tryd.func10 (by kernel_rfl) rfl #[.pointer (some ⟨gb165, 0, none⟩)] rfl (by (try simp only [List.map_toArray, List.map_cons, List.map_nil]); first | done | rfl | (simp only [List.length_drop, List.length_take]; rfl)) ?_; (with_reducible refine (spec_l21Ok.calls k _ 1 [(⟨a0_0, a0_1, a0_2, l0_3⟩ : S27)] true _ ?side1 ?side2 A2.out).mono ?_); (case side1 => exact Kd.C_one (k27_mk _ (⟨a0_0, a0_1, a0_2, l0_3⟩ : S27) (by exact HC0_3.out) (by repeat (first | exact (Kd.C_below HR0_3.out HB.out) | (with_reducible refine Kd.C_alloc ?_ _) | (with_reducible refine Kd.C_drewN ?_ _) | (with_reducible refine Kd.C_drew ?_)))) (cells_blk (cs := #[.string a0_0, .int .i64 a0_1, .int .i64 a0_2, .slice A0_3 l0_3.length c0_3]) (t := 27) (by (with_reducible repeat (first | refine blk_drewN ?_ _ | refine blk_drew ?_ | refine blk_alloc ?_ _)); exact BK165.out))); (case side2 => exact Nat.le_refl _); rintro e w6 ⟨rfl, hb⟩; refine ⟨_, rfl, ?_⟩; have n0_ := Aside0.mk (blk_below (g := gb165) (o := .cells #[.string a0_0, .int .i64 a0_1, .int .i64 a0_2, .slice A0_3 l0_3.length c0_3] 27 (0, 0)) (by (with_reducible repeat (first | refine blk_drewN ?_ _ | refine blk_drew ?_ | refine blk_alloc ?_ _)); exact BK165.out) hb); have n1_ := Aside0.mk (below_step (by repeat (first | (with_reducible first | exact HB.out | apply below_alloc | apply pw_below_drewN | apply below_drew1 | refine below_set ?_ GE165.out) | exact HB.out)) hb); clear BK165; clear HB; have BK165 := n0_; have HB := n1_; clear n0_ n1_; (try clear hb); (try clear hb2); (try clear hk); (try clear hi)) | ((with_reducible refine gate_callee (f := 11) rfl ?_); refine goesL_ (some 5) rfl rfl Tryd.func11 (by kernel_rfl) rfl #[.pointer (some ⟨gb165, 0, none⟩)] rfl (by (try simp only [List.map_toArray, List.map_cons, List.map_nil]); first | done | rfl | (simp only [List.length_drop, List.length_take]; rfl)) ?_; (with_reducible refine (spec_l21Text.calls k _ 1 [(⟨a0_0, a0_1, a0_2, l0_3⟩ : S27)] t167 _ ?side1 ?side2 A4.out).mono ?_); (case side1 => exact Kd.C_one (k27_mk _ (⟨a0_0, a0_1, a0_2, l0_3⟩ : S27) (by exact HC0_3.out) (by repeat (first | exact (Kd.C_below HR0_3.out HB.out) | (with_reducible refine Kd.C_alloc ?_ _) | (with_reducible refine Kd.C_drewN ?_ _) | (with_reducible refine Kd.C_drew ?_)))) (cells_blk (cs := #[.string a0_0, .int .i64 a0_1, .int .i64 a0_2, .slice A0_3 l0_3.length c0_3]) (t := 27) (by (with_reducible repeat (first | refine blk_drewN ?_ _ | refine blk_drew ?_ | refine blk_alloc ?_ _)); exact BK165.out))); (case side2 => exact Nat.le_refl _); rintro e w7 ⟨rfl, hb⟩; refine ⟨_, rfl, ?_⟩; have n0_ := Aside0.mk (blk_below (g := gb165) (o := .cells #[.string a0_0, .int .i64 a0_1, .int .i64 a0_2, .slice A0_3 l0_3.length c0_3] 27 (0, 0)) (by (with_reducible repeat (first | refine blk_drewN ?_ _ | refine blk_drew ?_ | refine blk_alloc ?_ _)); exact BK165.out) hb); have n1_ := Aside0.mk (below_step (by repeat (first | (with_reducible first | exact HB.out | apply below_alloc | apply pw_below_drewN | apply below_drew1 | refine below_set ?_ GE165.out) | exact HB.out)) hb); clear BK165; clear HB; have BK165 := n0_; have HB := n1_; clear n0_ n1_; (try clear hb); (try clear hb2); (try clear hk); (try clear hi)))
  go_ret
  exact ⟨by first | rfl | (rw [Int.tdiv_eq_ediv_of_nonneg (by omega)]; rfl) | (simp [errW_none, errW_some] <;> rfl) | (simp [*, errW_none, errW_some] <;> rfl), by repeat (first | (with_reducible first | exact HB.out | apply below_alloc | apply pw_below_drewN | apply below_drew1 | refine below_set ?_ GE165.out) | exact HB.out)⟩
 ·replace c3 := Bool.eq_false_iff.mpr c3
  subst c3
  have H1 : (some (⟨#[]⟩ : ByteArray)) = some r := by rw [if_neg (show ¬ (false = true) by decide)] at H; exact H
  clear H
  have H := H1
  clear H1
  obtain rfl := Option.some.inj H
  go_enter Tryd.func5, Tryd.ntmps5
  go_wp2_with (first | ((with_reducible refine gate_dst (N := 1) rfl ?_); refine box_event ?hg (N := 1) ?hd (cs := #[.string a0_0, .int .i64 a0_1, .int .i64 a0_2, .slice A0_3 l0_3.length c0_3]) (t := 27) ?hr ?_; (case hd => rfl); (case hg => rfl); (case hr => first | (go_simp; done) | (go_simp; rfl)); intro gb165 hg w8 hbox hb; have n0_ := Aside0.mk (below_step (by repeat (first | (with_reducible first | exact HB.out | apply below_alloc | apply pw_below_drewN | apply below_drew1) | exact HB.out)) hb); have n1_ := Aside0.mk (hbox); have n2_ := Aside0.mk ((by rw [hg]; exact (below_size (by repeat (first | (with_reducible first | exact HB.out | apply below_alloc | apply pw_below_drewN | apply below_drew1) | exact HB.out))) : w.heap.size ≤ gb165)); have n3_ := Aside0.mk ((by rw [hg]; exact (below_size (by repeat (first | (with_reducible first | exact HB.out | apply below_alloc | apply pw_below_drewN | apply below_drew1) | exact HB.out))) : w.heap.size ≤ gb165)); clear HB; have HB := n0_; have BK165 := n1_; have GW165 := n2_; have GE165 := n3_; clear n0_ n1_ n2_ n3_; clear hb hbox hg) | ((with_reducible refine gate_callee (f := 10) rfl ?_); refine goesL_ (some 3) rfl rfl Tryd.func10 (by kernel_rfl) rfl #[.pointer (some ⟨gb165, 0, none⟩)] rfl (by (try simp only [List.map_toArray, List.map_cons, List.map_nil]); first | done | rfl | (simp only [List.length_drop, List.length_take]; rfl)) ?_; (with_reducible refine (spec_l21Ok.calls k _ 1 [(⟨a0_0, a0_1, a0_2, l0_3⟩ : S27)] false _ ?side1 ?side2 A2.out).mono ?_); (case side1 => exact Kd.C_one (k27_mk _ (⟨a0_0, a0_1, a0_2, l0_3⟩ : S27) (by exact HC0_3.out) (by repeat (first | exact (Kd.C_below HR0_3.out HB.out) | (with_reducible refine Kd.C_alloc ?_ _) | (with_reducible refine Kd.C_drewN ?_ _) | (with_reducible refine Kd.C_drew ?_)))) (cells_blk (cs := #[.string a0_0, .int .i64 a0_1, .int .i64 a0_2, .slice A0_3 l0_3.length c0_3]) (t := 27) (by (with_reducible repeat (first | refine blk_drewN ?_ _ | refine blk_drew ?_ | refine blk_alloc ?_ _)); exact BK165.out))); (case side2 => exact Nat.le_refl _); rintro e w9 ⟨rfl, hb⟩; refine ⟨_, rfl, ?_⟩; have n0_ := Aside0.mk (blk_below (g := gb165) (o := .cells #[.string a0_0, .int .i64 a0_1, .int .i64 a0_2, .slice A0_3 l0_3.length c0_3] 27 (0, 0)) (by (with_reducible repeat (first | refine blk_drewN ?_ _ | refine blk_drew ?_ | refine blk_alloc ?_ _)); exact BK165.out) hb); have n1_ := Aside0.mk (below_step (by repeat (first | (with_reducible first | exact HB.out | apply below_alloc | apply pw_below_drewN | apply below_drew1 | refine below_set ?_ GE165.out) | exact HB.out)) hb); clear BK165; clear HB; have BK165 := n0_; have HB := n1_; clear n0_ n1_; (try clear hb); (try clear hb2); (try clear hk); (try clear hi)))
  go_ret
  exact ⟨by first | rfl | (rw [Int.tdiv_eq_ediv_of_nonneg (by omega)]; rfl) | (simp [errW_none, errW_some] <;> rfl) | (simp [*, errW_none, errW_some] <;> rfl), by repeat (first | (with_reducible first | exact HB.out | apply below_alloc | apply pw_below_drewN | apply below_drew1 | refine below_set ?_ GE165.out) | exact HB.out)⟩

end Go.Proofs.YtdiboljniaolfaaDoor.PFnExactTariffText
