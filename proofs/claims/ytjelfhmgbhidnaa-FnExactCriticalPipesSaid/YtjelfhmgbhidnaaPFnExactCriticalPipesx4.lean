-- written by wip/xprint.py, a program of this session, for this claim; not trusted: Lean checks it.
import Derived.Test.YtjelfhmgbhidnaaPFnExactCriticalPipesx0
import Derived.Test.YtjelfhmgbhidnaaPFnExactCriticalPipesx2
import Derived.Test.YtjelfhmgbhidnaaPFnExactCriticalPipesx3
namespace Go.Proofs.Ytjelfhmgbhidnaa.PFnExactCriticalPipes
open Go.RowKit Go.Proofs.YtjelfhmgbhidnaaW.PrintWords Go.Proofs.YtjelfhmgbhidnaaW.PrintLast Go.Proofs.YtjelfhmgbhidnaaW.PrintMore
attribute [local go_sem] leq_less_ max2_int min2_int max_two min_two max_three min_three max_four min_four   -- for this text's walks alone
set_option linter.unusedVariables false
set_option linter.unusedSimpArgs false

/-! ### spec_l03Ok: function 105 -/
def spec_l03Ok.j0 : Nat → List (S80) → Bool → Option (Bool)
 | 0, _, _ => none
 | k + 1, x0, x35 => if x35 = true then (some false) else (if 0 < (x0.length : Int) then ((spec_l00In.f ((rd_T80 x0 0).f3) 1 10000).bind fun t175 => (if t175 = true then ((spec_l00In.f ((rd_T80 x0 0).f4) 20 1000).bind fun t177 => (if t177 = true then ((spec_l00In.f ((rd_T80 x0 0).f5) 0 5000).bind fun t179 => (some t179)) else (some false))) else (some false))) else (none))
def spec_l03Ok.f (k : Nat) (l0 : List (S80)) : Option (Bool) := if 0 < (l0.length : Int) then ((spec_l01Name.f k ((rd_T80 l0 0).f0)).bind fun t167 => (if t167 = true then ((spec_l00In.f ((rd_T80 l0 0).f1) 0 15).bind fun t169 => (if t169 = true then ((spec_l00In.f ((rd_T80 l0 0).f2) 0 15).bind fun t171 => (if t171 = true then (spec_l03Ok.j0 k l0 (((rd_T80 l0 0).f1) == ((rd_T80 l0 0).f2))) else (spec_l03Ok.j0 k l0 true))) else (spec_l03Ok.j0 k l0 true))) else (spec_l03Ok.j0 k l0 true))) else (none)
theorem spec_l03Ok.mono_l : ∀ k, (∀ y0 y1, LeO (spec_l03Ok.j0 k y0 y1) (spec_l03Ok.j0 (k + 1) y0 y1))
 | 0 => fun _ _ r h => by simp [spec_l03Ok.j0] at h
 | k + 1 => by
  have ih0 := spec_l03Ok.mono_l k
  ·intro y0 y1
   unfold spec_l03Ok.j0
   repeat' first
   | (with_reducible exact ih0 _ _)
   | (with_reducible exact spec_l01Name.mono _ _)
   | (with_reducible exact LeO.refl _)
   | (with_reducible exact LeO.none _)
   | (with_reducible refine LeO.ite ?_ ?_)
   | (with_reducible refine LeO.bind ?_ (fun _ => ?_))
   | exact ih0 _ _
   | exact spec_l01Name.mono _ _
   | exact LeO.none _
   | refine LeO.ite ?_ ?_
   | refine LeO.bind ?_ (fun _ => ?_)
theorem spec_l03Ok.mono : ∀ a0 k, LeO (spec_l03Ok.f k a0) (spec_l03Ok.f (k + 1) a0) := by
 intro a0 k
 have ih0 := spec_l03Ok.mono_l k
 unfold spec_l03Ok.f
 repeat' first
   | (with_reducible exact ih0 _ _)
   | (with_reducible exact spec_l01Name.mono _ _)
   | (with_reducible exact LeO.refl _)
   | (with_reducible exact LeO.none _)
   | (with_reducible refine LeO.ite ?_ ?_)
   | (with_reducible refine LeO.bind ?_ (fun _ => ?_))
   | exact ih0 _ _
   | exact spec_l01Name.mono _ _
   | exact LeO.none _
   | refine LeO.ite ?_ ?_
   | refine LeO.bind ?_ (fun _ => ?_)
def spec_l03Ok.T1 : Bool × List (List Nat × List Nat) := (true, [([], []), ([0], [0]), ([1], [1]), ([2], [2]), ([3], [3]), ([4], [4]), ([5, 4], [5]), ([6], [6]), ([7, 6], [6, 7]), ([8, 6], [6, 8]), ([9, 6], [6, 9]), ([10, 6, 6], [6, 10]), ([11, 6], [6, 11]), ([6, 12], [6, 12]), ([13, 11], [13]), ([14], [14]), ([15, 14], [14, 15]), ([16, 14], [14, 16]), ([17, 14], [14, 17]), ([18, 14, 14], [14, 18]), ([19, 14], [14, 19]), ([14, 20], [14, 20]), ([21, 19], [21]), ([22], [22]), ([23, 22], [22, 23]), ([24, 22], [22, 24]), ([25, 22], [22, 25]), ([22], [22]), ([27, 22], [22, 27]), ([28, 22], [22, 28]), ([29, 22], [22, 29]), ([26, 30, 22], [22, 26, 30]), ([22, 31], [22, 31])])
def spec_l03Ok.B1 : List Nat := [0, 1, 3, 7, 15, 31, 63, 127, 255, 511, 1023, 2047, 4095, 8191, 16383, 32767, 65535, 131071, 262143, 524287, 1048575, 2097151, 4194303, 8388607, 16777215, 33554431, 67108863, 8388607, 142606335, 411041791, 947912703, 2147483647, 4294967295]
theorem spec_l03Ok.tab1 : rtab .any (opsOf Try.f105 1) = spec_l03Ok.T1 := by kernel_rfl
theorem spec_l03Ok.bits1 : waitsOk spec_l03Ok.T1.2 spec_l03Ok.B1 = true := by kernel_rfl
set_option maxHeartbeats 8000000 in
set_option maxRecDepth 100000 in
theorem spec_l03Ok.calls (k : Nat) (A0 : Option Addr) (c0 : Nat) (l0 : List (S80)) (r : Bool) (w : World) (hr0 : Kd.C k80 w A0 l0.length l0) (hc0 : l0.length ≤ c0) (h : spec_l03Ok.f k l0 = some r) :
  Calls Try.prog 105 #[.pointer A0] w fun e w' => e = .returned (.bool r) ∧ Below w.heap.size w w' := by
 have HR0 := Aside0.mk hr0
 have HC0 := Aside0.mk hc0
 clear hr0 hc0
 have HB := Aside0.mk (Below.refl w.heap.size w)
 have H : (if 0 < (l0.length : Int) then ((spec_l01Name.f k ((rd_T80 l0 0).f0)).bind fun t167 => (if t167 = true then ((spec_l00In.f ((rd_T80 l0 0).f1) 0 15).bind fun t169 => (if t169 = true then ((spec_l00In.f ((rd_T80 l0 0).f2) 0 15).bind fun t171 => (if t171 = true then (spec_l03Ok.j0 k l0 (((rd_T80 l0 0).f1) == ((rd_T80 l0 0).f2))) else (spec_l03Ok.j0 k l0 true))) else (spec_l03Ok.j0 k l0 true))) else (spec_l03Ok.j0 k l0 true))) else (none)) = some r := h
 clear h
 have HC2 := Aside0.mk H
 clear H
 go_enter Try.func105, Try.ntmps105
 go_upto_region 1 with (fail)
 go_cut [35] (fun v35 wc => ∃ (kq : Nat) (x35_1 : Bool), v35 = .bool x35_1 ∧ Aside0 (spec_l03Ok.j0 kq l0 x35_1 = some r) ∧ Aside0 (kq ≤ k) ∧ Aside0 (Below w.heap.size w wc))
 case first =>
  have H := HC2.out
  clear HC2
  by_cases c3 : 0 < (l0.length : Int)
  ·rw [if_pos c3] at H
   have c3b0 : decide (0 < (l0.length : Int)) = true := decide_eq_true c3
   have c3b1 : decide (0 < l0.length) = true := decide_eq_true t28_
   clear c3
   (first | rw [c3b0] | (simp only [i64_w, i32_w]; rw [c3b0]) | skip)
   replace H := Option.bind_eq_some_iff.mp H
   obtain ⟨t167, A40, H⟩ := H
   replace H : (if t167 = true then ((spec_l00In.f ((rd_T80 l0 0).f1) 0 15).bind fun t169 => (if t169 = true then ((spec_l00In.f ((rd_T80 l0 0).f2) 0 15).bind fun t171 => (if t171 = true then (spec_l03Ok.j0 k l0 (((rd_T80 l0 0).f1) == ((rd_T80 l0 0).f2))) else (spec_l03Ok.j0 k l0 true))) else (spec_l03Ok.j0 k l0 true))) else (spec_l03Ok.j0 k l0 true)) = some r := H
   have A4 := Aside0.mk A40
   clear A40
   by_cases c5 : t167 = true
   ·subst c5
    have H1 : ((spec_l00In.f ((rd_T80 l0 0).f1) 0 15).bind fun t169 => (if t169 = true then ((spec_l00In.f ((rd_T80 l0 0).f2) 0 15).bind fun t171 => (if t171 = true then (spec_l03Ok.j0 k l0 (((rd_T80 l0 0).f1) == ((rd_T80 l0 0).f2))) else (spec_l03Ok.j0 k l0 true))) else (spec_l03Ok.j0 k l0 true))) = some r := by rw [if_pos rfl] at H; exact H
    clear H
    have H := H1
    clear H1
    replace H := Option.bind_eq_some_iff.mp H
    obtain ⟨t169, A60, H⟩ := H
    replace H : (if t169 = true then ((spec_l00In.f ((rd_T80 l0 0).f2) 0 15).bind fun t171 => (if t171 = true then (spec_l03Ok.j0 k l0 (((rd_T80 l0 0).f1) == ((rd_T80 l0 0).f2))) else (spec_l03Ok.j0 k l0 true))) else (spec_l03Ok.j0 k l0 true)) = some r := H
    have A6 := Aside0.mk A60
    clear A60
    by_cases c7 : t169 = true
    ·subst c7
     have H1 : ((spec_l00In.f ((rd_T80 l0 0).f2) 0 15).bind fun t171 => (if t171 = true then (spec_l03Ok.j0 k l0 (((rd_T80 l0 0).f1) == ((rd_T80 l0 0).f2))) else (spec_l03Ok.j0 k l0 true))) = some r := by rw [if_pos rfl] at H; exact H
     clear H
     have H := H1
     clear H1
     replace H := Option.bind_eq_some_iff.mp H
     obtain ⟨t171, A80, H⟩ := H
     replace H : (if t171 = true then (spec_l03Ok.j0 k l0 (((rd_T80 l0 0).f1) == ((rd_T80 l0 0).f2))) else (spec_l03Ok.j0 k l0 true)) = some r := H
     have A8 := Aside0.mk A80
     clear A80
     by_cases c9 : t171 = true
     ·subst c9
      have H1 : (spec_l03Ok.j0 k l0 (((rd_T80 l0 0).f1) == ((rd_T80 l0 0).f2))) = some r := by rw [if_pos rfl] at H; exact H
      clear H
      have H := H1
      clear H1
      have H' := Aside0.mk H
      clear H
      try go_wp2
      have n0_ := Aside0.mk (below_drew1 HB.out)
      clear HB
      have HB := n0_
      clear n0_
      have p166 : 0 ≤ (0 : Int) := t28_
      have q166 : 0 < (l0.length : Int) := of_decide_eq_true t3_
      obtain ⟨ad166, e166, hx166_0, hx166_1, hx166_2, hx166_3, hx166_4, hx166_5⟩ := at_T80 HR0.out 0 p166 q166
      have hw166_5 := hx166_5
      (try rw [za_] at hw166_5)
      have hw166_4 := hx166_4
      (try rw [za_] at hw166_4)
      have hw166_3 := hx166_3
      (try rw [za_] at hw166_3)
      have hw166_2 := hx166_2
      (try rw [za_] at hw166_2)
      have hw166_1 := hx166_1
      (try rw [za_] at hw166_1)
      have hw166_0 := hx166_0
      (try rw [za_] at hw166_0)
      cases e166
      have qi166 : (0 < l0.length) = True := eq_true t28_
      (try rw [za_] at hx166_0)
      (try rw [za_] at hx166_1)
      (try rw [za_] at hx166_2)
      (try rw [za_] at hx166_3)
      (try rw [za_] at hx166_4)
      (try rw [za_] at hx166_5)
      replace hx166_0 := hb_ HB hx166_0
      replace hx166_1 := hb_ HB hx166_1
      replace hx166_2 := hb_ HB hx166_2
      replace hx166_3 := hb_ HB hx166_3
      replace hx166_4 := hb_ HB hx166_4
      replace hx166_5 := hb_ HB hx166_5
      replace p166 := eq_true p166
      replace q166 := eq_true q166
      have p168 : 0 ≤ (0 : Int) := t28_
      have q168 : 0 < (l0.length : Int) := of_decide_eq_true t3_
      obtain ⟨ad168, e168, hx168_0, hx168_1, hx168_2, hx168_3, hx168_4, hx168_5⟩ := at_T80 HR0.out 0 p168 q168
      have hw168_5 := hx168_5
      (try rw [za_] at hw168_5)
      have hw168_4 := hx168_4
      (try rw [za_] at hw168_4)
      have hw168_3 := hx168_3
      (try rw [za_] at hw168_3)
      have hw168_2 := hx168_2
      (try rw [za_] at hw168_2)
      have hw168_1 := hx168_1
      (try rw [za_] at hw168_1)
      have hw168_0 := hx168_0
      (try rw [za_] at hw168_0)
      obtain rfl : ad166 = ad168 := (by injection e168)
      have qi168 : (0 < l0.length) = True := eq_true t28_
      (try rw [za_] at hx168_0)
      (try rw [za_] at hx168_1)
      (try rw [za_] at hx168_2)
      (try rw [za_] at hx168_3)
      (try rw [za_] at hx168_4)
      (try rw [za_] at hx168_5)
      replace hx168_0 := hb_ HB hx168_0
      replace hx168_1 := hb_ HB hx168_1
      replace hx168_2 := hb_ HB hx168_2
      replace hx168_3 := hb_ HB hx168_3
      replace hx168_4 := hb_ HB hx168_4
      replace hx168_5 := hb_ HB hx168_5
      replace p168 := eq_true p168
      replace q168 := eq_true q168
      have p170 : 0 ≤ (0 : Int) := t28_
      have q170 : 0 < (l0.length : Int) := of_decide_eq_true t3_
      obtain ⟨ad170, e170, hx170_0, hx170_1, hx170_2, hx170_3, hx170_4, hx170_5⟩ := at_T80 HR0.out 0 p170 q170
      have hw170_5 := hx170_5
      (try rw [za_] at hw170_5)
      have hw170_4 := hx170_4
      (try rw [za_] at hw170_4)
      have hw170_3 := hx170_3
      (try rw [za_] at hw170_3)
      have hw170_2 := hx170_2
      (try rw [za_] at hw170_2)
      have hw170_1 := hx170_1
      (try rw [za_] at hw170_1)
      have hw170_0 := hx170_0
      (try rw [za_] at hw170_0)
      obtain rfl : ad166 = ad170 := (by injection e170)
      have qi170 : (0 < l0.length) = True := eq_true t28_
      (try rw [za_] at hx170_0)
      (try rw [za_] at hx170_1)
      (try rw [za_] at hx170_2)
      (try rw [za_] at hx170_3)
      (try rw [za_] at hx170_4)
      (try rw [za_] at hx170_5)
      replace hx170_0 := hb_ HB hx170_0
      replace hx170_1 := hb_ HB hx170_1
      replace hx170_2 := hb_ HB hx170_2
      replace hx170_3 := hb_ HB hx170_3
      replace hx170_4 := hb_ HB hx170_4
      replace hx170_5 := hb_ HB hx170_5
      replace p170 := eq_true p170
      replace q170 := eq_true q170
      have p172 : 0 ≤ (0 : Int) := t28_
      have q172 : 0 < (l0.length : Int) := of_decide_eq_true t3_
      obtain ⟨ad172, e172, hx172_0, hx172_1, hx172_2, hx172_3, hx172_4, hx172_5⟩ := at_T80 HR0.out 0 p172 q172
      have hw172_5 := hx172_5
      (try rw [za_] at hw172_5)
      have hw172_4 := hx172_4
      (try rw [za_] at hw172_4)
      have hw172_3 := hx172_3
      (try rw [za_] at hw172_3)
      have hw172_2 := hx172_2
      (try rw [za_] at hw172_2)
      have hw172_1 := hx172_1
      (try rw [za_] at hw172_1)
      have hw172_0 := hx172_0
      (try rw [za_] at hw172_0)
      obtain rfl : ad166 = ad172 := (by injection e172)
      have qi172 : (0 < l0.length) = True := eq_true t28_
      (try rw [za_] at hx172_0)
      (try rw [za_] at hx172_1)
      (try rw [za_] at hx172_2)
      (try rw [za_] at hx172_3)
      (try rw [za_] at hx172_4)
      (try rw [za_] at hx172_5)
      replace hx172_0 := hb_ HB hx172_0
      replace hx172_1 := hb_ HB hx172_1
      replace hx172_2 := hb_ HB hx172_2
      replace hx172_3 := hb_ HB hx172_3
      replace hx172_4 := hb_ HB hx172_4
      replace hx172_5 := hb_ HB hx172_5
      replace p172 := eq_true p172
      replace q172 := eq_true q172
      have p173 : 0 ≤ (0 : Int) := t28_
      have q173 : 0 < (l0.length : Int) := of_decide_eq_true t3_
      obtain ⟨ad173, e173, hx173_0, hx173_1, hx173_2, hx173_3, hx173_4, hx173_5⟩ := at_T80 HR0.out 0 p173 q173
      have hw173_5 := hx173_5
      (try rw [za_] at hw173_5)
      have hw173_4 := hx173_4
      (try rw [za_] at hw173_4)
      have hw173_3 := hx173_3
      (try rw [za_] at hw173_3)
      have hw173_2 := hx173_2
      (try rw [za_] at hw173_2)
      have hw173_1 := hx173_1
      (try rw [za_] at hw173_1)
      have hw173_0 := hx173_0
      (try rw [za_] at hw173_0)
      obtain rfl : ad166 = ad173 := (by injection e173)
      have qi173 : (0 < l0.length) = True := eq_true t28_
      (try rw [za_] at hx173_0)
      (try rw [za_] at hx173_1)
      (try rw [za_] at hx173_2)
      (try rw [za_] at hx173_3)
      (try rw [za_] at hx173_4)
      (try rw [za_] at hx173_5)
      replace hx173_0 := hb_ HB hx173_0
      replace hx173_1 := hb_ HB hx173_1
      replace hx173_2 := hb_ HB hx173_2
      replace hx173_3 := hb_ HB hx173_3
      replace hx173_4 := hb_ HB hx173_4
      replace hx173_5 := hb_ HB hx173_5
      replace p173 := eq_true p173
      replace q173 := eq_true q173
      refine start_ (n := 33) (S := fun w' => w'.cell? ad166 = some (.string ((rd_T80 l0 0).f0)) ∧ w'.cell? ⟨ad166.block, ad166.off + 1, none⟩ = some (.int .i64 ((rd_T80 l0 0).f1)) ∧ w'.cell? ⟨ad166.block, ad166.off + 2, none⟩ = some (.int .i64 ((rd_T80 l0 0).f2)) ∧ w'.cell? ⟨ad166.block, ad166.off + 3, none⟩ = some (.int .i64 ((rd_T80 l0 0).f3)) ∧ w'.cell? ⟨ad166.block, ad166.off + 4, none⟩ = some (.int .i64 ((rd_T80 l0 0).f4)) ∧ w'.cell? ⟨ad166.block, ad166.off + 5, none⟩ = some (.int .i64 ((rd_T80 l0 0).f5)) ∧ w'.cell? ad166 = some (.string ((rd_T80 l0 0).f0)) ∧ w'.cell? ⟨ad166.block, ad166.off + 1, none⟩ = some (.int .i64 ((rd_T80 l0 0).f1)) ∧ w'.cell? ⟨ad166.block, ad166.off + 2, none⟩ = some (.int .i64 ((rd_T80 l0 0).f2)) ∧ w'.cell? ⟨ad166.block, ad166.off + 3, none⟩ = some (.int .i64 ((rd_T80 l0 0).f3)) ∧ w'.cell? ⟨ad166.block, ad166.off + 4, none⟩ = some (.int .i64 ((rd_T80 l0 0).f4)) ∧ w'.cell? ⟨ad166.block, ad166.off + 5, none⟩ = some (.int .i64 ((rd_T80 l0 0).f5)) ∧ w'.cell? ad166 = some (.string ((rd_T80 l0 0).f0)) ∧ w'.cell? ⟨ad166.block, ad166.off + 1, none⟩ = some (.int .i64 ((rd_T80 l0 0).f1)) ∧ w'.cell? ⟨ad166.block, ad166.off + 2, none⟩ = some (.int .i64 ((rd_T80 l0 0).f2)) ∧ w'.cell? ⟨ad166.block, ad166.off + 3, none⟩ = some (.int .i64 ((rd_T80 l0 0).f3)) ∧ w'.cell? ⟨ad166.block, ad166.off + 4, none⟩ = some (.int .i64 ((rd_T80 l0 0).f4)) ∧ w'.cell? ⟨ad166.block, ad166.off + 5, none⟩ = some (.int .i64 ((rd_T80 l0 0).f5)) ∧ w'.cell? ad166 = some (.string ((rd_T80 l0 0).f0)) ∧ w'.cell? ⟨ad166.block, ad166.off + 1, none⟩ = some (.int .i64 ((rd_T80 l0 0).f1)) ∧ w'.cell? ⟨ad166.block, ad166.off + 2, none⟩ = some (.int .i64 ((rd_T80 l0 0).f2)) ∧ w'.cell? ⟨ad166.block, ad166.off + 3, none⟩ = some (.int .i64 ((rd_T80 l0 0).f3)) ∧ w'.cell? ⟨ad166.block, ad166.off + 4, none⟩ = some (.int .i64 ((rd_T80 l0 0).f4)) ∧ w'.cell? ⟨ad166.block, ad166.off + 5, none⟩ = some (.int .i64 ((rd_T80 l0 0).f5)) ∧ w'.cell? ad166 = some (.string ((rd_T80 l0 0).f0)) ∧ w'.cell? ⟨ad166.block, ad166.off + 1, none⟩ = some (.int .i64 ((rd_T80 l0 0).f1)) ∧ w'.cell? ⟨ad166.block, ad166.off + 2, none⟩ = some (.int .i64 ((rd_T80 l0 0).f2)) ∧ w'.cell? ⟨ad166.block, ad166.off + 3, none⟩ = some (.int .i64 ((rd_T80 l0 0).f3)) ∧ w'.cell? ⟨ad166.block, ad166.off + 4, none⟩ = some (.int .i64 ((rd_T80 l0 0).f4)) ∧ w'.cell? ⟨ad166.block, ad166.off + 5, none⟩ = some (.int .i64 ((rd_T80 l0 0).f5))) (ds := []) (tf 0 33) t14_ rfl rfl ⟨(hb_ HB hw166_0 :), (hb_ HB hw166_1 :), (hb_ HB hw166_2 :), (hb_ HB hw166_3 :), (hb_ HB hw166_4 :), (hb_ HB hw166_5 :), (hb_ HB hw168_0 :), (hb_ HB hw168_1 :), (hb_ HB hw168_2 :), (hb_ HB hw168_3 :), (hb_ HB hw168_4 :), (hb_ HB hw168_5 :), (hb_ HB hw170_0 :), (hb_ HB hw170_1 :), (hb_ HB hw170_2 :), (hb_ HB hw170_3 :), (hb_ HB hw170_4 :), (hb_ HB hw170_5 :), (hb_ HB hw172_0 :), (hb_ HB hw172_1 :), (hb_ HB hw172_2 :), (hb_ HB hw172_3 :), (hb_ HB hw172_4 :), (hb_ HB hw172_5 :), (hb_ HB hw173_0 :), (hb_ HB hw173_1 :), (hb_ HB hw173_2 :), (hb_ HB hw173_3 :), (hb_ HB hw173_4 :), (hb_ HB hw173_5 :)⟩ (fun hHeld => ?_); refine with_tabW spec_l03Ok.tab1 spec_l03Ok.bits1 (fun HT_ HW_ => ?_)
      generalize w.drew = w10 at HB hx166_0 hx166_1 hx166_2 hx166_3 hx166_4 hx166_5 hx168_0 hx168_1 hx168_2 hx168_3 hx168_4 hx168_5 hx170_0 hx170_1 hx170_2 hx170_3 hx170_4 hx170_5 hx172_0 hx172_1 hx172_2 hx172_3 hx172_4 hx172_5 hx173_0 hx173_1 hx173_2 hx173_3 hx173_4 hx173_5 hHeld ⊢
      refine px 0 (some 3) (tf 1 33) HT_ ?_
      refine px 1 (some 4) (tf 2 33) HT_ ?_
      refine px 2 (some 5) (tf 3 33) HT_ ?_
      refine tx (v := ?_) 3 (some 6) (tf 4 33) HT_ HW_ hHeld ?_ ?_
      rotate_left; (· rintro w' ⟨s0, s1, s2, s3, s4, s5, s6, s7, s8, s9, s10, s11, s12, s13, s14, s15, s16, s17, s18, s19, s20, s21, s22, s23, s24, s25, s26, s27, s28, s29⟩; go_simp; with_reducible rfl)
      refine one_ (i := 4) (N := some 7) (tf 5 33) rfl rfl (one_of HT_.out t14_) t31_ (fun K hK => ?_)
      refine goes_ Try.func77 t14_ rfl #[.string ((rd_T80 l0 0).f0)] t71_ rfl rfl t2_ ?_
      with_reducible refine (spec_l01Name.calls k ((rd_T80 l0 0).f0) true _ A4.out).mono ?_
      rintro e w' ⟨rfl, ⟨nd, rfl⟩⟩
      refine ⟨_, rfl, ?_⟩
      refine hK.out _ _ ⟨(hb_ HB hw166_0 :), (hb_ HB hw166_1 :), (hb_ HB hw166_2 :), (hb_ HB hw166_3 :), (hb_ HB hw166_4 :), (hb_ HB hw166_5 :), (hb_ HB hw168_0 :), (hb_ HB hw168_1 :), (hb_ HB hw168_2 :), (hb_ HB hw168_3 :), (hb_ HB hw168_4 :), (hb_ HB hw168_5 :), (hb_ HB hw170_0 :), (hb_ HB hw170_1 :), (hb_ HB hw170_2 :), (hb_ HB hw170_3 :), (hb_ HB hw170_4 :), (hb_ HB hw170_5 :), (hb_ HB hw172_0 :), (hb_ HB hw172_1 :), (hb_ HB hw172_2 :), (hb_ HB hw172_3 :), (hb_ HB hw172_4 :), (hb_ HB hw172_5 :), (hb_ HB hw173_0 :), (hb_ HB hw173_1 :), (hb_ HB hw173_2 :), (hb_ HB hw173_3 :), (hb_ HB hw173_4 :), (hb_ HB hw173_5 :)⟩ (fun hHeld => ?_)
      clear hK K
      refine norm_ (a' := ?_) ?_ ?_
      rotate_left
      ·show Act.put _ (some 7) _ = _
       simp only [Act.put, List.setIfInBounds_toArray, List.set_cons_zero, List.set_cons_succ, i64_w, i32_w]
       rfl
      refine px 5 (some 8) (tf 6 33) HT_ ?_
      refine px 6 (some 9) (tf 7 33) HT_ ?_
      refine px 7 (some 10) (tf 8 33) HT_ ?_
      refine px 8 (some 11) (tf 9 33) HT_ ?_
      refine px 9 (some 12) (tf 10 33) HT_ ?_
      refine tx (v := ?_) 10 (some 13) (tf 11 33) HT_ HW_ hHeld ?_ ?_
      rotate_left; (· rintro w' ⟨s0, s1, s2, s3, s4, s5, s6, s7, s8, s9, s10, s11, s12, s13, s14, s15, s16, s17, s18, s19, s20, s21, s22, s23, s24, s25, s26, s27, s28, s29⟩; go_simp; with_reducible rfl)
      refine one_ (i := 11) (N := some 14) (tf 12 33) rfl rfl (one_of HT_.out t14_) t31_ (fun K hK => ?_)
      refine goes_ Try.func64 t14_ rfl #[.int .i64 ((rd_T80 l0 0).f1), .int .i64 0, .int .i64 15] t71_ rfl rfl t2_ ?_
      with_reducible refine (spec_l00In.calls ((rd_T80 l0 0).f1) 0 15 true _ A6.out).mono ?_
      rintro e w' ⟨rfl, ⟨nd, rfl⟩⟩
      refine ⟨_, rfl, ?_⟩
      refine hK.out _ _ ⟨(hb_ HB hw166_0 :), (hb_ HB hw166_1 :), (hb_ HB hw166_2 :), (hb_ HB hw166_3 :), (hb_ HB hw166_4 :), (hb_ HB hw166_5 :), (hb_ HB hw168_0 :), (hb_ HB hw168_1 :), (hb_ HB hw168_2 :), (hb_ HB hw168_3 :), (hb_ HB hw168_4 :), (hb_ HB hw168_5 :), (hb_ HB hw170_0 :), (hb_ HB hw170_1 :), (hb_ HB hw170_2 :), (hb_ HB hw170_3 :), (hb_ HB hw170_4 :), (hb_ HB hw170_5 :), (hb_ HB hw172_0 :), (hb_ HB hw172_1 :), (hb_ HB hw172_2 :), (hb_ HB hw172_3 :), (hb_ HB hw172_4 :), (hb_ HB hw172_5 :), (hb_ HB hw173_0 :), (hb_ HB hw173_1 :), (hb_ HB hw173_2 :), (hb_ HB hw173_3 :), (hb_ HB hw173_4 :), (hb_ HB hw173_5 :)⟩ (fun hHeld => ?_)
      clear hK K
      refine norm_ (a' := ?_) ?_ ?_
      rotate_left
      ·show Act.put _ (some 14) _ = _
       simp only [Act.put, List.setIfInBounds_toArray, List.set_cons_zero, List.set_cons_succ, i64_w, i32_w]
       rfl
      refine px 12 (some 15) (tf 13 33) HT_ ?_
      refine px 13 (some 16) (tf 14 33) HT_ ?_
      refine px 14 (some 17) (tf 15 33) HT_ ?_
      refine px 15 (some 18) (tf 16 33) HT_ ?_
      refine px 16 (some 19) (tf 17 33) HT_ ?_
      refine px 17 (some 20) (tf 18 33) HT_ ?_
      refine tx (v := ?_) 18 (some 21) (tf 19 33) HT_ HW_ hHeld ?_ ?_
      rotate_left; (· rintro w' ⟨s0, s1, s2, s3, s4, s5, s6, s7, s8, s9, s10, s11, s12, s13, s14, s15, s16, s17, s18, s19, s20, s21, s22, s23, s24, s25, s26, s27, s28, s29⟩; go_simp; with_reducible rfl)
      refine one_ (i := 19) (N := some 22) (tf 20 33) rfl rfl (one_of HT_.out t14_) t31_ (fun K hK => ?_)
      refine goes_ Try.func64 t14_ rfl #[.int .i64 ((rd_T80 l0 0).f2), .int .i64 0, .int .i64 15] t71_ rfl rfl t2_ ?_
      with_reducible refine (spec_l00In.calls ((rd_T80 l0 0).f2) 0 15 true _ A8.out).mono ?_
      rintro e w' ⟨rfl, ⟨nd, rfl⟩⟩
      refine ⟨_, rfl, ?_⟩
      refine hK.out _ _ ⟨(hb_ HB hw166_0 :), (hb_ HB hw166_1 :), (hb_ HB hw166_2 :), (hb_ HB hw166_3 :), (hb_ HB hw166_4 :), (hb_ HB hw166_5 :), (hb_ HB hw168_0 :), (hb_ HB hw168_1 :), (hb_ HB hw168_2 :), (hb_ HB hw168_3 :), (hb_ HB hw168_4 :), (hb_ HB hw168_5 :), (hb_ HB hw170_0 :), (hb_ HB hw170_1 :), (hb_ HB hw170_2 :), (hb_ HB hw170_3 :), (hb_ HB hw170_4 :), (hb_ HB hw170_5 :), (hb_ HB hw172_0 :), (hb_ HB hw172_1 :), (hb_ HB hw172_2 :), (hb_ HB hw172_3 :), (hb_ HB hw172_4 :), (hb_ HB hw172_5 :), (hb_ HB hw173_0 :), (hb_ HB hw173_1 :), (hb_ HB hw173_2 :), (hb_ HB hw173_3 :), (hb_ HB hw173_4 :), (hb_ HB hw173_5 :)⟩ (fun hHeld => ?_)
      clear hK K
      refine norm_ (a' := ?_) ?_ ?_
      rotate_left
      ·show Act.put _ (some 22) _ = _
       simp only [Act.put, List.setIfInBounds_toArray, List.set_cons_zero, List.set_cons_succ, i64_w, i32_w]
       rfl
      refine px 20 (some 23) (tf 21 33) HT_ ?_
      refine px 21 (some 24) (tf 22 33) HT_ ?_
      refine px 22 (some 25) (tf 23 33) HT_ ?_
      refine px 23 (some 26) (tf 24 33) HT_ ?_
      refine px 24 (some 27) (tf 25 33) HT_ ?_
      refine px 25 (some 28) (tf 26 33) HT_ ?_
      refine px 27 (some 30) (tb 33 201326591) HT_ ?_
      refine px 28 (some 31) (tb 33 469762047) HT_ ?_
      refine px 29 (some 32) (tb 33 1006632959) HT_ ?_
      refine tx (v := ?_) 26 (some 29) (tf 30 33) HT_ HW_ hHeld ?_ ?_
      rotate_left; (· rintro w' ⟨s0, s1, s2, s3, s4, s5, s6, s7, s8, s9, s10, s11, s12, s13, s14, s15, s16, s17, s18, s19, s20, s21, s22, s23, s24, s25, s26, s27, s28, s29⟩; go_simp; with_reducible rfl)
      refine tx (v := ?_) 30 (some 33) (tf 31 33) HT_ HW_ hHeld ?_ ?_
      rotate_left; (· rintro w' ⟨s0, s1, s2, s3, s4, s5, s6, s7, s8, s9, s10, s11, s12, s13, s14, s15, s16, s17, s18, s19, s20, s21, s22, s23, s24, s25, s26, s27, s28, s29⟩; go_simp; with_reducible rfl)
      refine px 31 (some 34) (tf 32 33) HT_ ?_
      refine px 32 (some 35) (tf 33 33) HT_ ?_
      refine done_ (done_of HT_.out t14_) ?_
      try go_wp2
      go_meet
      case rel => exact ⟨_, ((((rd_T80 l0 0).f1) == ((rd_T80 l0 0).f2))), t6_, H', ⟨t42_⟩, ⟨t1_⟩⟩
     ·replace c9 := Bool.eq_false_iff.mpr c9
      subst c9
      have H1 : (spec_l03Ok.j0 k l0 true) = some r := by rw [if_neg (show ¬ (false = true) by decide)] at H; exact H
      clear H
      have H := H1
      clear H1
      have H' := Aside0.mk H
      clear H
      try go_wp2
      have n0_ := Aside0.mk (below_drew1 HB.out)
      clear HB
      have HB := n0_
      clear n0_
      have p166 : 0 ≤ (0 : Int) := t28_
      have q166 : 0 < (l0.length : Int) := of_decide_eq_true t3_
      obtain ⟨ad166, e166, hx166_0, hx166_1, hx166_2, hx166_3, hx166_4, hx166_5⟩ := at_T80 HR0.out 0 p166 q166
      have hw166_5 := hx166_5
      (try rw [za_] at hw166_5)
      have hw166_4 := hx166_4
      (try rw [za_] at hw166_4)
      have hw166_3 := hx166_3
      (try rw [za_] at hw166_3)
      have hw166_2 := hx166_2
      (try rw [za_] at hw166_2)
      have hw166_1 := hx166_1
      (try rw [za_] at hw166_1)
      have hw166_0 := hx166_0
      (try rw [za_] at hw166_0)
      cases e166
      have qi166 : (0 < l0.length) = True := eq_true t28_
      (try rw [za_] at hx166_0)
      (try rw [za_] at hx166_1)
      (try rw [za_] at hx166_2)
      (try rw [za_] at hx166_3)
      (try rw [za_] at hx166_4)
      (try rw [za_] at hx166_5)
      replace hx166_0 := hb_ HB hx166_0
      replace hx166_1 := hb_ HB hx166_1
      replace hx166_2 := hb_ HB hx166_2
      replace hx166_3 := hb_ HB hx166_3
      replace hx166_4 := hb_ HB hx166_4
      replace hx166_5 := hb_ HB hx166_5
      replace p166 := eq_true p166
      replace q166 := eq_true q166
      have p168 : 0 ≤ (0 : Int) := t28_
      have q168 : 0 < (l0.length : Int) := of_decide_eq_true t3_
      obtain ⟨ad168, e168, hx168_0, hx168_1, hx168_2, hx168_3, hx168_4, hx168_5⟩ := at_T80 HR0.out 0 p168 q168
      have hw168_5 := hx168_5
      (try rw [za_] at hw168_5)
      have hw168_4 := hx168_4
      (try rw [za_] at hw168_4)
      have hw168_3 := hx168_3
      (try rw [za_] at hw168_3)
      have hw168_2 := hx168_2
      (try rw [za_] at hw168_2)
      have hw168_1 := hx168_1
      (try rw [za_] at hw168_1)
      have hw168_0 := hx168_0
      (try rw [za_] at hw168_0)
      obtain rfl : ad166 = ad168 := (by injection e168)
      have qi168 : (0 < l0.length) = True := eq_true t28_
      (try rw [za_] at hx168_0)
      (try rw [za_] at hx168_1)
      (try rw [za_] at hx168_2)
      (try rw [za_] at hx168_3)
      (try rw [za_] at hx168_4)
      (try rw [za_] at hx168_5)
      replace hx168_0 := hb_ HB hx168_0
      replace hx168_1 := hb_ HB hx168_1
      replace hx168_2 := hb_ HB hx168_2
      replace hx168_3 := hb_ HB hx168_3
      replace hx168_4 := hb_ HB hx168_4
      replace hx168_5 := hb_ HB hx168_5
      replace p168 := eq_true p168
      replace q168 := eq_true q168
      have p170 : 0 ≤ (0 : Int) := t28_
      have q170 : 0 < (l0.length : Int) := of_decide_eq_true t3_
      obtain ⟨ad170, e170, hx170_0, hx170_1, hx170_2, hx170_3, hx170_4, hx170_5⟩ := at_T80 HR0.out 0 p170 q170
      have hw170_5 := hx170_5
      (try rw [za_] at hw170_5)
      have hw170_4 := hx170_4
      (try rw [za_] at hw170_4)
      have hw170_3 := hx170_3
      (try rw [za_] at hw170_3)
      have hw170_2 := hx170_2
      (try rw [za_] at hw170_2)
      have hw170_1 := hx170_1
      (try rw [za_] at hw170_1)
      have hw170_0 := hx170_0
      (try rw [za_] at hw170_0)
      obtain rfl : ad166 = ad170 := (by injection e170)
      have qi170 : (0 < l0.length) = True := eq_true t28_
      (try rw [za_] at hx170_0)
      (try rw [za_] at hx170_1)
      (try rw [za_] at hx170_2)
      (try rw [za_] at hx170_3)
      (try rw [za_] at hx170_4)
      (try rw [za_] at hx170_5)
      replace hx170_0 := hb_ HB hx170_0
      replace hx170_1 := hb_ HB hx170_1
      replace hx170_2 := hb_ HB hx170_2
      replace hx170_3 := hb_ HB hx170_3
      replace hx170_4 := hb_ HB hx170_4
      replace hx170_5 := hb_ HB hx170_5
      replace p170 := eq_true p170
      replace q170 := eq_true q170
      refine start_ (n := 33) (S := fun w' => w'.cell? ad166 = some (.string ((rd_T80 l0 0).f0)) ∧ w'.cell? ⟨ad166.block, ad166.off + 1, none⟩ = some (.int .i64 ((rd_T80 l0 0).f1)) ∧ w'.cell? ⟨ad166.block, ad166.off + 2, none⟩ = some (.int .i64 ((rd_T80 l0 0).f2)) ∧ w'.cell? ⟨ad166.block, ad166.off + 3, none⟩ = some (.int .i64 ((rd_T80 l0 0).f3)) ∧ w'.cell? ⟨ad166.block, ad166.off + 4, none⟩ = some (.int .i64 ((rd_T80 l0 0).f4)) ∧ w'.cell? ⟨ad166.block, ad166.off + 5, none⟩ = some (.int .i64 ((rd_T80 l0 0).f5)) ∧ w'.cell? ad166 = some (.string ((rd_T80 l0 0).f0)) ∧ w'.cell? ⟨ad166.block, ad166.off + 1, none⟩ = some (.int .i64 ((rd_T80 l0 0).f1)) ∧ w'.cell? ⟨ad166.block, ad166.off + 2, none⟩ = some (.int .i64 ((rd_T80 l0 0).f2)) ∧ w'.cell? ⟨ad166.block, ad166.off + 3, none⟩ = some (.int .i64 ((rd_T80 l0 0).f3)) ∧ w'.cell? ⟨ad166.block, ad166.off + 4, none⟩ = some (.int .i64 ((rd_T80 l0 0).f4)) ∧ w'.cell? ⟨ad166.block, ad166.off + 5, none⟩ = some (.int .i64 ((rd_T80 l0 0).f5)) ∧ w'.cell? ad166 = some (.string ((rd_T80 l0 0).f0)) ∧ w'.cell? ⟨ad166.block, ad166.off + 1, none⟩ = some (.int .i64 ((rd_T80 l0 0).f1)) ∧ w'.cell? ⟨ad166.block, ad166.off + 2, none⟩ = some (.int .i64 ((rd_T80 l0 0).f2)) ∧ w'.cell? ⟨ad166.block, ad166.off + 3, none⟩ = some (.int .i64 ((rd_T80 l0 0).f3)) ∧ w'.cell? ⟨ad166.block, ad166.off + 4, none⟩ = some (.int .i64 ((rd_T80 l0 0).f4)) ∧ w'.cell? ⟨ad166.block, ad166.off + 5, none⟩ = some (.int .i64 ((rd_T80 l0 0).f5))) (ds := []) (tf 0 33) t14_ rfl rfl ⟨(hb_ HB hw166_0 :), (hb_ HB hw166_1 :), (hb_ HB hw166_2 :), (hb_ HB hw166_3 :), (hb_ HB hw166_4 :), (hb_ HB hw166_5 :), (hb_ HB hw168_0 :), (hb_ HB hw168_1 :), (hb_ HB hw168_2 :), (hb_ HB hw168_3 :), (hb_ HB hw168_4 :), (hb_ HB hw168_5 :), (hb_ HB hw170_0 :), (hb_ HB hw170_1 :), (hb_ HB hw170_2 :), (hb_ HB hw170_3 :), (hb_ HB hw170_4 :), (hb_ HB hw170_5 :)⟩ (fun hHeld => ?_); refine with_tabW spec_l03Ok.tab1 spec_l03Ok.bits1 (fun HT_ HW_ => ?_)
      generalize w.drew = w11 at HB hx166_0 hx166_1 hx166_2 hx166_3 hx166_4 hx166_5 hx168_0 hx168_1 hx168_2 hx168_3 hx168_4 hx168_5 hx170_0 hx170_1 hx170_2 hx170_3 hx170_4 hx170_5 hHeld ⊢
      refine px 0 (some 3) (tf 1 33) HT_ ?_
      refine px 1 (some 4) (tf 2 33) HT_ ?_
      refine px 2 (some 5) (tf 3 33) HT_ ?_
      refine tx (v := ?_) 3 (some 6) (tf 4 33) HT_ HW_ hHeld ?_ ?_
      rotate_left; (· rintro w' ⟨s0, s1, s2, s3, s4, s5, s6, s7, s8, s9, s10, s11, s12, s13, s14, s15, s16, s17⟩; go_simp; with_reducible rfl)
      refine one_ (i := 4) (N := some 7) (tf 5 33) rfl rfl (one_of HT_.out t14_) t31_ (fun K hK => ?_)
      refine goes_ Try.func77 t14_ rfl #[.string ((rd_T80 l0 0).f0)] t71_ rfl rfl t2_ ?_
      with_reducible refine (spec_l01Name.calls k ((rd_T80 l0 0).f0) true _ A4.out).mono ?_
      rintro e w' ⟨rfl, ⟨nd, rfl⟩⟩
      refine ⟨_, rfl, ?_⟩
      refine hK.out _ _ ⟨(hb_ HB hw166_0 :), (hb_ HB hw166_1 :), (hb_ HB hw166_2 :), (hb_ HB hw166_3 :), (hb_ HB hw166_4 :), (hb_ HB hw166_5 :), (hb_ HB hw168_0 :), (hb_ HB hw168_1 :), (hb_ HB hw168_2 :), (hb_ HB hw168_3 :), (hb_ HB hw168_4 :), (hb_ HB hw168_5 :), (hb_ HB hw170_0 :), (hb_ HB hw170_1 :), (hb_ HB hw170_2 :), (hb_ HB hw170_3 :), (hb_ HB hw170_4 :), (hb_ HB hw170_5 :)⟩ (fun hHeld => ?_)
      clear hK K
      refine norm_ (a' := ?_) ?_ ?_
      rotate_left
      ·show Act.put _ (some 7) _ = _
       simp only [Act.put, List.setIfInBounds_toArray, List.set_cons_zero, List.set_cons_succ, i64_w, i32_w]
       rfl
      refine px 5 (some 8) (tf 6 33) HT_ ?_
      refine px 6 (some 9) (tf 7 33) HT_ ?_
      refine px 7 (some 10) (tf 8 33) HT_ ?_
      refine px 8 (some 11) (tf 9 33) HT_ ?_
      refine px 9 (some 12) (tf 10 33) HT_ ?_
      refine tx (v := ?_) 10 (some 13) (tf 11 33) HT_ HW_ hHeld ?_ ?_
      rotate_left; (· rintro w' ⟨s0, s1, s2, s3, s4, s5, s6, s7, s8, s9, s10, s11, s12, s13, s14, s15, s16, s17⟩; go_simp; with_reducible rfl)
      refine one_ (i := 11) (N := some 14) (tf 12 33) rfl rfl (one_of HT_.out t14_) t31_ (fun K hK => ?_)
      refine goes_ Try.func64 t14_ rfl #[.int .i64 ((rd_T80 l0 0).f1), .int .i64 0, .int .i64 15] t71_ rfl rfl t2_ ?_
      with_reducible refine (spec_l00In.calls ((rd_T80 l0 0).f1) 0 15 true _ A6.out).mono ?_
      rintro e w' ⟨rfl, ⟨nd, rfl⟩⟩
      refine ⟨_, rfl, ?_⟩
      refine hK.out _ _ ⟨(hb_ HB hw166_0 :), (hb_ HB hw166_1 :), (hb_ HB hw166_2 :), (hb_ HB hw166_3 :), (hb_ HB hw166_4 :), (hb_ HB hw166_5 :), (hb_ HB hw168_0 :), (hb_ HB hw168_1 :), (hb_ HB hw168_2 :), (hb_ HB hw168_3 :), (hb_ HB hw168_4 :), (hb_ HB hw168_5 :), (hb_ HB hw170_0 :), (hb_ HB hw170_1 :), (hb_ HB hw170_2 :), (hb_ HB hw170_3 :), (hb_ HB hw170_4 :), (hb_ HB hw170_5 :)⟩ (fun hHeld => ?_)
      clear hK K
      refine norm_ (a' := ?_) ?_ ?_
      rotate_left
      ·show Act.put _ (some 14) _ = _
       simp only [Act.put, List.setIfInBounds_toArray, List.set_cons_zero, List.set_cons_succ, i64_w, i32_w]
       rfl
      refine px 12 (some 15) (tf 13 33) HT_ ?_
      refine px 13 (some 16) (tf 14 33) HT_ ?_
      refine px 14 (some 17) (tf 15 33) HT_ ?_
      refine px 15 (some 18) (tf 16 33) HT_ ?_
      refine px 16 (some 19) (tf 17 33) HT_ ?_
      refine px 17 (some 20) (tf 18 33) HT_ ?_
      refine tx (v := ?_) 18 (some 21) (tf 19 33) HT_ HW_ hHeld ?_ ?_
      rotate_left; (· rintro w' ⟨s0, s1, s2, s3, s4, s5, s6, s7, s8, s9, s10, s11, s12, s13, s14, s15, s16, s17⟩; go_simp; with_reducible rfl)
      refine one_ (i := 19) (N := some 22) (tf 20 33) rfl rfl (one_of HT_.out t14_) t31_ (fun K hK => ?_)
      refine goes_ Try.func64 t14_ rfl #[.int .i64 ((rd_T80 l0 0).f2), .int .i64 0, .int .i64 15] t71_ rfl rfl t2_ ?_
      with_reducible refine (spec_l00In.calls ((rd_T80 l0 0).f2) 0 15 false _ A8.out).mono ?_
      rintro e w' ⟨rfl, ⟨nd, rfl⟩⟩
      refine ⟨_, rfl, ?_⟩
      refine hK.out _ _ ⟨(hb_ HB hw166_0 :), (hb_ HB hw166_1 :), (hb_ HB hw166_2 :), (hb_ HB hw166_3 :), (hb_ HB hw166_4 :), (hb_ HB hw166_5 :), (hb_ HB hw168_0 :), (hb_ HB hw168_1 :), (hb_ HB hw168_2 :), (hb_ HB hw168_3 :), (hb_ HB hw168_4 :), (hb_ HB hw168_5 :), (hb_ HB hw170_0 :), (hb_ HB hw170_1 :), (hb_ HB hw170_2 :), (hb_ HB hw170_3 :), (hb_ HB hw170_4 :), (hb_ HB hw170_5 :)⟩ (fun hHeld => ?_)
      clear hK K
      refine norm_ (a' := ?_) ?_ ?_
      rotate_left
      ·show Act.put _ (some 22) _ = _
       simp only [Act.put, List.setIfInBounds_toArray, List.set_cons_zero, List.set_cons_succ, i64_w, i32_w]
       rfl
      refine px 20 (some 23) (tf 21 33) HT_ ?_
      refine px 21 (some 24) (tf 22 33) HT_ ?_
      refine px 22 (some 25) (tf 23 33) HT_ ?_
      refine sx 23 (some 26) (tf 24 33) HT_ ?_
      refine sx 24 (some 27) (tf 25 33) HT_ ?_
      refine sx 25 (some 28) (tf 26 33) HT_ ?_
      refine sx 26 (some 29) (tf 27 33) HT_ ?_
      refine sx 27 (some 30) (tf 28 33) HT_ ?_
      refine sx 28 (some 31) (tf 29 33) HT_ ?_
      refine sx 29 (some 32) (tf 30 33) HT_ ?_
      refine sx 30 (some 33) (tf 31 33) HT_ ?_
      refine sx 31 (some 34) (tf 32 33) HT_ ?_
      refine px 32 (some 35) (tf 33 33) HT_ ?_
      refine done_ (done_of HT_.out t14_) ?_
      try go_wp2
      go_meet
      case rel => exact ⟨_, (true), t6_, H', ⟨t42_⟩, ⟨t1_⟩⟩
    ·replace c7 := Bool.eq_false_iff.mpr c7
     subst c7
     have H1 : (spec_l03Ok.j0 k l0 true) = some r := by rw [if_neg (show ¬ (false = true) by decide)] at H; exact H
     clear H
     have H := H1
     clear H1
     have H' := Aside0.mk H
     clear H
     try go_wp2
     have n0_ := Aside0.mk (below_drew1 HB.out)
     clear HB
     have HB := n0_
     clear n0_
     have p166 : 0 ≤ (0 : Int) := t28_
     have q166 : 0 < (l0.length : Int) := of_decide_eq_true t3_
     obtain ⟨ad166, e166, hx166_0, hx166_1, hx166_2, hx166_3, hx166_4, hx166_5⟩ := at_T80 HR0.out 0 p166 q166
     have hw166_5 := hx166_5
     (try rw [za_] at hw166_5)
     have hw166_4 := hx166_4
     (try rw [za_] at hw166_4)
     have hw166_3 := hx166_3
     (try rw [za_] at hw166_3)
     have hw166_2 := hx166_2
     (try rw [za_] at hw166_2)
     have hw166_1 := hx166_1
     (try rw [za_] at hw166_1)
     have hw166_0 := hx166_0
     (try rw [za_] at hw166_0)
     cases e166
     have qi166 : (0 < l0.length) = True := eq_true t28_
     (try rw [za_] at hx166_0)
     (try rw [za_] at hx166_1)
     (try rw [za_] at hx166_2)
     (try rw [za_] at hx166_3)
     (try rw [za_] at hx166_4)
     (try rw [za_] at hx166_5)
     replace hx166_0 := hb_ HB hx166_0
     replace hx166_1 := hb_ HB hx166_1
     replace hx166_2 := hb_ HB hx166_2
     replace hx166_3 := hb_ HB hx166_3
     replace hx166_4 := hb_ HB hx166_4
     replace hx166_5 := hb_ HB hx166_5
     replace p166 := eq_true p166
     replace q166 := eq_true q166
     have p168 : 0 ≤ (0 : Int) := t28_
     have q168 : 0 < (l0.length : Int) := of_decide_eq_true t3_
     obtain ⟨ad168, e168, hx168_0, hx168_1, hx168_2, hx168_3, hx168_4, hx168_5⟩ := at_T80 HR0.out 0 p168 q168
     have hw168_5 := hx168_5
     (try rw [za_] at hw168_5)
     have hw168_4 := hx168_4
     (try rw [za_] at hw168_4)
     have hw168_3 := hx168_3
     (try rw [za_] at hw168_3)
     have hw168_2 := hx168_2
     (try rw [za_] at hw168_2)
     have hw168_1 := hx168_1
     (try rw [za_] at hw168_1)
     have hw168_0 := hx168_0
     (try rw [za_] at hw168_0)
     obtain rfl : ad166 = ad168 := (by injection e168)
     have qi168 : (0 < l0.length) = True := eq_true t28_
     (try rw [za_] at hx168_0)
     (try rw [za_] at hx168_1)
     (try rw [za_] at hx168_2)
     (try rw [za_] at hx168_3)
     (try rw [za_] at hx168_4)
     (try rw [za_] at hx168_5)
     replace hx168_0 := hb_ HB hx168_0
     replace hx168_1 := hb_ HB hx168_1
     replace hx168_2 := hb_ HB hx168_2
     replace hx168_3 := hb_ HB hx168_3
     replace hx168_4 := hb_ HB hx168_4
     replace hx168_5 := hb_ HB hx168_5
     replace p168 := eq_true p168
     replace q168 := eq_true q168
     refine start_ (n := 33) (S := fun w' => w'.cell? ad166 = some (.string ((rd_T80 l0 0).f0)) ∧ w'.cell? ⟨ad166.block, ad166.off + 1, none⟩ = some (.int .i64 ((rd_T80 l0 0).f1)) ∧ w'.cell? ⟨ad166.block, ad166.off + 2, none⟩ = some (.int .i64 ((rd_T80 l0 0).f2)) ∧ w'.cell? ⟨ad166.block, ad166.off + 3, none⟩ = some (.int .i64 ((rd_T80 l0 0).f3)) ∧ w'.cell? ⟨ad166.block, ad166.off + 4, none⟩ = some (.int .i64 ((rd_T80 l0 0).f4)) ∧ w'.cell? ⟨ad166.block, ad166.off + 5, none⟩ = some (.int .i64 ((rd_T80 l0 0).f5)) ∧ w'.cell? ad166 = some (.string ((rd_T80 l0 0).f0)) ∧ w'.cell? ⟨ad166.block, ad166.off + 1, none⟩ = some (.int .i64 ((rd_T80 l0 0).f1)) ∧ w'.cell? ⟨ad166.block, ad166.off + 2, none⟩ = some (.int .i64 ((rd_T80 l0 0).f2)) ∧ w'.cell? ⟨ad166.block, ad166.off + 3, none⟩ = some (.int .i64 ((rd_T80 l0 0).f3)) ∧ w'.cell? ⟨ad166.block, ad166.off + 4, none⟩ = some (.int .i64 ((rd_T80 l0 0).f4)) ∧ w'.cell? ⟨ad166.block, ad166.off + 5, none⟩ = some (.int .i64 ((rd_T80 l0 0).f5))) (ds := []) (tf 0 33) t14_ rfl rfl ⟨(hb_ HB hw166_0 :), (hb_ HB hw166_1 :), (hb_ HB hw166_2 :), (hb_ HB hw166_3 :), (hb_ HB hw166_4 :), (hb_ HB hw166_5 :), (hb_ HB hw168_0 :), (hb_ HB hw168_1 :), (hb_ HB hw168_2 :), (hb_ HB hw168_3 :), (hb_ HB hw168_4 :), (hb_ HB hw168_5 :)⟩ (fun hHeld => ?_); refine with_tabW spec_l03Ok.tab1 spec_l03Ok.bits1 (fun HT_ HW_ => ?_)
     generalize w.drew = w12 at HB hx166_0 hx166_1 hx166_2 hx166_3 hx166_4 hx166_5 hx168_0 hx168_1 hx168_2 hx168_3 hx168_4 hx168_5 hHeld ⊢
     refine px 0 (some 3) (tf 1 33) HT_ ?_
     refine px 1 (some 4) (tf 2 33) HT_ ?_
     refine px 2 (some 5) (tf 3 33) HT_ ?_
     refine tx (v := ?_) 3 (some 6) (tf 4 33) HT_ HW_ hHeld ?_ ?_
     rotate_left; (· rintro w' ⟨s0, s1, s2, s3, s4, s5, s6, s7, s8, s9, s10, s11⟩; go_simp; with_reducible rfl)
     refine one_ (i := 4) (N := some 7) (tf 5 33) rfl rfl (one_of HT_.out t14_) t31_ (fun K hK => ?_)
     refine goes_ Try.func77 t14_ rfl #[.string ((rd_T80 l0 0).f0)] t71_ rfl rfl t2_ ?_
     with_reducible refine (spec_l01Name.calls k ((rd_T80 l0 0).f0) true _ A4.out).mono ?_
     rintro e w' ⟨rfl, ⟨nd, rfl⟩⟩
     refine ⟨_, rfl, ?_⟩
     refine hK.out _ _ ⟨(hb_ HB hw166_0 :), (hb_ HB hw166_1 :), (hb_ HB hw166_2 :), (hb_ HB hw166_3 :), (hb_ HB hw166_4 :), (hb_ HB hw166_5 :), (hb_ HB hw168_0 :), (hb_ HB hw168_1 :), (hb_ HB hw168_2 :), (hb_ HB hw168_3 :), (hb_ HB hw168_4 :), (hb_ HB hw168_5 :)⟩ (fun hHeld => ?_)
     clear hK K
     refine norm_ (a' := ?_) ?_ ?_
     rotate_left
     ·show Act.put _ (some 7) _ = _
      simp only [Act.put, List.setIfInBounds_toArray, List.set_cons_zero, List.set_cons_succ, i64_w, i32_w]
      rfl
     refine px 5 (some 8) (tf 6 33) HT_ ?_
     refine px 6 (some 9) (tf 7 33) HT_ ?_
     refine px 7 (some 10) (tf 8 33) HT_ ?_
     refine px 8 (some 11) (tf 9 33) HT_ ?_
     refine px 9 (some 12) (tf 10 33) HT_ ?_
     refine tx (v := ?_) 10 (some 13) (tf 11 33) HT_ HW_ hHeld ?_ ?_
     rotate_left; (· rintro w' ⟨s0, s1, s2, s3, s4, s5, s6, s7, s8, s9, s10, s11⟩; go_simp; with_reducible rfl)
     refine one_ (i := 11) (N := some 14) (tf 12 33) rfl rfl (one_of HT_.out t14_) t31_ (fun K hK => ?_)
     refine goes_ Try.func64 t14_ rfl #[.int .i64 ((rd_T80 l0 0).f1), .int .i64 0, .int .i64 15] t71_ rfl rfl t2_ ?_
     with_reducible refine (spec_l00In.calls ((rd_T80 l0 0).f1) 0 15 false _ A6.out).mono ?_
     rintro e w' ⟨rfl, ⟨nd, rfl⟩⟩
     refine ⟨_, rfl, ?_⟩
     refine hK.out _ _ ⟨(hb_ HB hw166_0 :), (hb_ HB hw166_1 :), (hb_ HB hw166_2 :), (hb_ HB hw166_3 :), (hb_ HB hw166_4 :), (hb_ HB hw166_5 :), (hb_ HB hw168_0 :), (hb_ HB hw168_1 :), (hb_ HB hw168_2 :), (hb_ HB hw168_3 :), (hb_ HB hw168_4 :), (hb_ HB hw168_5 :)⟩ (fun hHeld => ?_)
     clear hK K
     refine norm_ (a' := ?_) ?_ ?_
     rotate_left
     ·show Act.put _ (some 14) _ = _
      simp only [Act.put, List.setIfInBounds_toArray, List.set_cons_zero, List.set_cons_succ, i64_w, i32_w]
      rfl
     refine px 12 (some 15) (tf 13 33) HT_ ?_
     refine px 13 (some 16) (tf 14 33) HT_ ?_
     refine px 14 (some 17) (tf 15 33) HT_ ?_
     refine sx 15 (some 18) (tf 16 33) HT_ ?_
     refine sx 16 (some 19) (tf 17 33) HT_ ?_
     refine sx 17 (some 20) (tf 18 33) HT_ ?_
     refine sx 18 (some 21) (tf 19 33) HT_ ?_
     refine sx 19 (some 22) (tf 20 33) HT_ ?_
     refine sx 20 (some 23) (tf 21 33) HT_ ?_
     refine px 21 (some 24) (tf 22 33) HT_ ?_
     refine px 22 (some 25) (tf 23 33) HT_ ?_
     refine sx 23 (some 26) (tf 24 33) HT_ ?_
     refine sx 24 (some 27) (tf 25 33) HT_ ?_
     refine sx 25 (some 28) (tf 26 33) HT_ ?_
     refine sx 26 (some 29) (tf 27 33) HT_ ?_
     refine sx 27 (some 30) (tf 28 33) HT_ ?_
     refine sx 28 (some 31) (tf 29 33) HT_ ?_
     refine sx 29 (some 32) (tf 30 33) HT_ ?_
     refine sx 30 (some 33) (tf 31 33) HT_ ?_
     refine sx 31 (some 34) (tf 32 33) HT_ ?_
     refine px 32 (some 35) (tf 33 33) HT_ ?_
     refine done_ (done_of HT_.out t14_) ?_
     try go_wp2
     go_meet
     case rel => exact ⟨_, (true), t6_, H', ⟨t42_⟩, ⟨t1_⟩⟩
   ·replace c5 := Bool.eq_false_iff.mpr c5
    subst c5
    have H1 : (spec_l03Ok.j0 k l0 true) = some r := by rw [if_neg (show ¬ (false = true) by decide)] at H; exact H
    clear H
    have H := H1
    clear H1
    have H' := Aside0.mk H
    clear H
    try go_wp2
    have n0_ := Aside0.mk (below_drew1 HB.out)
    clear HB
    have HB := n0_
    clear n0_
    have p166 : 0 ≤ (0 : Int) := t28_
    have q166 : 0 < (l0.length : Int) := of_decide_eq_true t3_
    obtain ⟨ad166, e166, hx166_0, hx166_1, hx166_2, hx166_3, hx166_4, hx166_5⟩ := at_T80 HR0.out 0 p166 q166
    have hw166_5 := hx166_5
    (try rw [za_] at hw166_5)
    have hw166_4 := hx166_4
    (try rw [za_] at hw166_4)
    have hw166_3 := hx166_3
    (try rw [za_] at hw166_3)
    have hw166_2 := hx166_2
    (try rw [za_] at hw166_2)
    have hw166_1 := hx166_1
    (try rw [za_] at hw166_1)
    have hw166_0 := hx166_0
    (try rw [za_] at hw166_0)
    cases e166
    have qi166 : (0 < l0.length) = True := eq_true t28_
    (try rw [za_] at hx166_0)
    (try rw [za_] at hx166_1)
    (try rw [za_] at hx166_2)
    (try rw [za_] at hx166_3)
    (try rw [za_] at hx166_4)
    (try rw [za_] at hx166_5)
    replace hx166_0 := hb_ HB hx166_0
    replace hx166_1 := hb_ HB hx166_1
    replace hx166_2 := hb_ HB hx166_2
    replace hx166_3 := hb_ HB hx166_3
    replace hx166_4 := hb_ HB hx166_4
    replace hx166_5 := hb_ HB hx166_5
    replace p166 := eq_true p166
    replace q166 := eq_true q166
    refine start_ (n := 33) (S := fun w' => w'.cell? ad166 = some (.string ((rd_T80 l0 0).f0)) ∧ w'.cell? ⟨ad166.block, ad166.off + 1, none⟩ = some (.int .i64 ((rd_T80 l0 0).f1)) ∧ w'.cell? ⟨ad166.block, ad166.off + 2, none⟩ = some (.int .i64 ((rd_T80 l0 0).f2)) ∧ w'.cell? ⟨ad166.block, ad166.off + 3, none⟩ = some (.int .i64 ((rd_T80 l0 0).f3)) ∧ w'.cell? ⟨ad166.block, ad166.off + 4, none⟩ = some (.int .i64 ((rd_T80 l0 0).f4)) ∧ w'.cell? ⟨ad166.block, ad166.off + 5, none⟩ = some (.int .i64 ((rd_T80 l0 0).f5))) (ds := []) (tf 0 33) t14_ rfl rfl ⟨(hb_ HB hw166_0 :), (hb_ HB hw166_1 :), (hb_ HB hw166_2 :), (hb_ HB hw166_3 :), (hb_ HB hw166_4 :), (hb_ HB hw166_5 :)⟩ (fun hHeld => ?_); refine with_tabW spec_l03Ok.tab1 spec_l03Ok.bits1 (fun HT_ HW_ => ?_)
    generalize w.drew = w13 at HB hx166_0 hx166_1 hx166_2 hx166_3 hx166_4 hx166_5 hHeld ⊢
    refine px 0 (some 3) (tf 1 33) HT_ ?_
    refine px 1 (some 4) (tf 2 33) HT_ ?_
    refine px 2 (some 5) (tf 3 33) HT_ ?_
    refine tx (v := ?_) 3 (some 6) (tf 4 33) HT_ HW_ hHeld ?_ ?_
    rotate_left; (· rintro w' ⟨s0, s1, s2, s3, s4, s5⟩; go_simp; with_reducible rfl)
    refine one_ (i := 4) (N := some 7) (tf 5 33) rfl rfl (one_of HT_.out t14_) t31_ (fun K hK => ?_)
    refine goes_ Try.func77 t14_ rfl #[.string ((rd_T80 l0 0).f0)] t71_ rfl rfl t2_ ?_
    with_reducible refine (spec_l01Name.calls k ((rd_T80 l0 0).f0) false _ A4.out).mono ?_
    rintro e w' ⟨rfl, ⟨nd, rfl⟩⟩
    refine ⟨_, rfl, ?_⟩
    refine hK.out _ _ ⟨(hb_ HB hw166_0 :), (hb_ HB hw166_1 :), (hb_ HB hw166_2 :), (hb_ HB hw166_3 :), (hb_ HB hw166_4 :), (hb_ HB hw166_5 :)⟩ (fun hHeld => ?_)
    clear hK K
    refine norm_ (a' := ?_) ?_ ?_
    rotate_left
    ·show Act.put _ (some 7) _ = _
     simp only [Act.put, List.setIfInBounds_toArray, List.set_cons_zero, List.set_cons_succ, i64_w, i32_w]
     rfl
    refine px 5 (some 8) (tf 6 33) HT_ ?_
    refine px 6 (some 9) (tf 7 33) HT_ ?_
    refine sx 7 (some 10) (tf 8 33) HT_ ?_
    refine sx 8 (some 11) (tf 9 33) HT_ ?_
    refine sx 9 (some 12) (tf 10 33) HT_ ?_
    refine sx 10 (some 13) (tf 11 33) HT_ ?_
    refine sx 11 (some 14) (tf 12 33) HT_ ?_
    refine sx 12 (some 15) (tf 13 33) HT_ ?_
    refine px 13 (some 16) (tf 14 33) HT_ ?_
    refine px 14 (some 17) (tf 15 33) HT_ ?_
    refine sx 15 (some 18) (tf 16 33) HT_ ?_
    refine sx 16 (some 19) (tf 17 33) HT_ ?_
    refine sx 17 (some 20) (tf 18 33) HT_ ?_
    refine sx 18 (some 21) (tf 19 33) HT_ ?_
    refine sx 19 (some 22) (tf 20 33) HT_ ?_
    refine sx 20 (some 23) (tf 21 33) HT_ ?_
    refine px 21 (some 24) (tf 22 33) HT_ ?_
    refine px 22 (some 25) (tf 23 33) HT_ ?_
    refine sx 23 (some 26) (tf 24 33) HT_ ?_
    refine sx 24 (some 27) (tf 25 33) HT_ ?_
    refine sx 25 (some 28) (tf 26 33) HT_ ?_
    refine sx 26 (some 29) (tf 27 33) HT_ ?_
    refine sx 27 (some 30) (tf 28 33) HT_ ?_
    refine sx 28 (some 31) (tf 29 33) HT_ ?_
    refine sx 29 (some 32) (tf 30 33) HT_ ?_
    refine sx 30 (some 33) (tf 31 33) HT_ ?_
    refine sx 31 (some 34) (tf 32 33) HT_ ?_
    refine px 32 (some 35) (tf 33 33) HT_ ?_
    refine done_ (done_of HT_.out t14_) ?_
    try go_wp2
    go_meet
    case rel => exact ⟨_, (true), t6_, H', ⟨t42_⟩, ⟨t1_⟩⟩
  ·rw [if_neg c3] at H
   exact absurd H t44_
 case rest =>
  clear HC2
  try clear p1
  try clear q1
  try clear hx1
  try clear qi1
  try clear p2
  try clear c3
  try clear c5
  try clear c6
  try clear c7
  try clear hx166_0
  try clear hx166_1
  try clear hx166_2
  try clear hx166_3
  try clear hx166_4
  try clear hx166_5
  try clear hx168_0
  try clear hx168_1
  try clear hx168_2
  try clear hx168_3
  try clear hx168_4
  try clear hx168_5
  try clear p166
  try clear p168
  try clear q166
  try clear q168
  obtain ⟨kq, x35_1, rfl, HA, HJ1, HB⟩ := hcut
  cases kq with
  | zero => exact absurd HA.out (by simp [spec_l03Ok.j0])
  | succ kj1 =>
   have H := HA.out
   clear HA
   simp only [spec_l03Ok.j0] at H
   by_cases c14 : x35_1 = true
   ·subst c14
    have H1 : (some false) = some r := by rw [if_pos rfl] at H; exact H
    clear H
    have H := H1
    clear H1
    obtain rfl := Option.some.inj H
    go_wp2
    go_ret
    exact ⟨t5_, t1_⟩
   ·replace c14 := Bool.eq_false_iff.mpr c14
    subst c14
    have H1 : (if 0 < (l0.length : Int) then ((spec_l00In.f ((rd_T80 l0 0).f3) 1 10000).bind fun t175 => (if t175 = true then ((spec_l00In.f ((rd_T80 l0 0).f4) 20 1000).bind fun t177 => (if t177 = true then ((spec_l00In.f ((rd_T80 l0 0).f5) 0 5000).bind fun t179 => (some t179)) else (some false))) else (some false))) else (none)) = some r := by rw [if_neg (show ¬ (false = true) by decide)] at H; exact H
    clear H
    have H := H1
    clear H1
    by_cases c15 : 0 < (l0.length : Int)
    ·rw [if_pos c15] at H
     have c15b0 : decide (0 < (l0.length : Int)) = true := decide_eq_true c15
     have c15b1 : decide (0 < l0.length) = true := decide_eq_true t28_
     clear c15
     replace H := Option.bind_eq_some_iff.mp H
     obtain ⟨t175, A160, H⟩ := H
     replace H : (if t175 = true then ((spec_l00In.f ((rd_T80 l0 0).f4) 20 1000).bind fun t177 => (if t177 = true then ((spec_l00In.f ((rd_T80 l0 0).f5) 0 5000).bind fun t179 => (some t179)) else (some false))) else (some false)) = some r := H
     have A16 := Aside0.mk A160
     clear A160
     by_cases c17 : t175 = true
     ·subst c17
      have H1 : ((spec_l00In.f ((rd_T80 l0 0).f4) 20 1000).bind fun t177 => (if t177 = true then ((spec_l00In.f ((rd_T80 l0 0).f5) 0 5000).bind fun t179 => (some t179)) else (some false))) = some r := by rw [if_pos rfl] at H; exact H
      clear H
      have H := H1
      clear H1
      replace H := Option.bind_eq_some_iff.mp H
      obtain ⟨t177, A180, H⟩ := H
      replace H : (if t177 = true then ((spec_l00In.f ((rd_T80 l0 0).f5) 0 5000).bind fun t179 => (some t179)) else (some false)) = some r := H
      have A18 := Aside0.mk A180
      clear A180
      by_cases c19 : t177 = true
      ·subst c19
       have H1 : ((spec_l00In.f ((rd_T80 l0 0).f5) 0 5000).bind fun t179 => (some t179)) = some r := by rw [if_pos rfl] at H; exact H
       clear H
       have H := H1
       clear H1
       replace H := Option.bind_eq_some_iff.mp H
       obtain ⟨t179, A200, H⟩ := H
       replace H : (some t179) = some r := H
       have A20 := Aside0.mk A200
       clear A200
       obtain rfl := Option.some.inj H
       have p174 : 0 ≤ (0 : Int) := t28_
       have q174 : 0 < (l0.length : Int) := of_decide_eq_true t3_
       obtain ⟨ad174, e174, hx174_0, hx174_1, hx174_2, hx174_3, hx174_4, hx174_5⟩ := at_T80 HR0.out 0 p174 q174
       cases e174
       have qi174 : (0 < l0.length) = True := eq_true t28_
       (try rw [za_] at hx174_0)
       (try rw [za_] at hx174_1)
       (try rw [za_] at hx174_2)
       (try rw [za_] at hx174_3)
       (try rw [za_] at hx174_4)
       (try rw [za_] at hx174_5)
       replace hx174_0 := hb_ HB hx174_0
       replace hx174_1 := hb_ HB hx174_1
       replace hx174_2 := hb_ HB hx174_2
       replace hx174_3 := hb_ HB hx174_3
       replace hx174_4 := hb_ HB hx174_4
       replace hx174_5 := hb_ HB hx174_5
       replace p174 := eq_true p174
       replace q174 := eq_true q174
       go_wp2_with (first | ((with_reducible refine gate_callee (f := 64) rfl ?_); refine goesL_ (some 40) rfl rfl Try.func64 t14_ rfl #[.int .i64 ((rd_T80 l0 0).f3), .int .i64 1, .int .i64 10000] rfl t2_ ?_; (with_reducible refine (spec_l00In.calls ((rd_T80 l0 0).f3) 1 10000 true _ A16.out).mono ?_); rintro e w' ⟨rfl, ⟨nd, rfl⟩⟩; refine ⟨_, rfl, ?_⟩; have p176 : 0 ≤ (0 : Int) := t28_; have q176 : 0 < (l0.length : Int) := of_decide_eq_true t3_; obtain ⟨ad176, e176, hx176_0, hx176_1, hx176_2, hx176_3, hx176_4, hx176_5⟩ := at_T80 HR0.out 0 p176 q176; obtain rfl : ad174 = ad176 := (by injection e176); have qi176 : (0 < l0.length) = True := eq_true t28_; (try rw [show ((0 : Int)).toNat = 0 from rfl] at hx176_0); (try rw [show 0 * 6 = 0 from rfl] at hx176_0); (try rw [Addr.add_zero'] at hx176_0); (try rw [show ((0 : Int)).toNat = 0 from rfl] at hx176_1); (try rw [show 0 * 6 = 0 from rfl] at hx176_1); (try rw [Addr.add_zero'] at hx176_1); (try rw [show ((0 : Int)).toNat = 0 from rfl] at hx176_2); (try rw [show 0 * 6 = 0 from rfl] at hx176_2); (try rw [Addr.add_zero'] at hx176_2); (try rw [show ((0 : Int)).toNat = 0 from rfl] at hx176_3); (try rw [show 0 * 6 = 0 from rfl] at hx176_3); (try rw [Addr.add_zero'] at hx176_3); (try rw [show ((0 : Int)).toNat = 0 from rfl] at hx176_4); (try rw [show 0 * 6 = 0 from rfl] at hx176_4); (try rw [Addr.add_zero'] at hx176_4); (try rw [show ((0 : Int)).toNat = 0 from rfl] at hx176_5); (try rw [show 0 * 6 = 0 from rfl] at hx176_5); (try rw [Addr.add_zero'] at hx176_5); replace hx176_0 := (HB.out.cell (World.block_lt_of_cell? w _ hx176_0)).trans hx176_0; replace hx176_1 := (HB.out.cell (World.block_lt_of_cell? w _ hx176_1)).trans hx176_1; replace hx176_2 := (HB.out.cell (World.block_lt_of_cell? w _ hx176_2)).trans hx176_2; replace hx176_3 := (HB.out.cell (World.block_lt_of_cell? w _ hx176_3)).trans hx176_3; replace hx176_4 := (HB.out.cell (World.block_lt_of_cell? w _ hx176_4)).trans hx176_4; replace hx176_5 := (HB.out.cell (World.block_lt_of_cell? w _ hx176_5)).trans hx176_5; replace p176 := eq_true p176; replace q176 := eq_true q176) | (go_at_call 64; (with_reducible refine (spec_l00In.calls ((rd_T80 l0 0).f4) 20 1000 true _ A18.out).mono ?_); rintro e w' ⟨rfl, ⟨nd, rfl⟩⟩; have p178 : 0 ≤ (0 : Int) := t28_; have q178 : 0 < (l0.length : Int) := of_decide_eq_true t3_; obtain ⟨ad178, e178, hx178_0, hx178_1, hx178_2, hx178_3, hx178_4, hx178_5⟩ := at_T80 HR0.out 0 p178 q178; obtain rfl : ad174 = ad178 := (by injection e178); have qi178 : (0 < l0.length) = True := eq_true t28_; (try rw [show ((0 : Int)).toNat = 0 from rfl] at hx178_0); (try rw [show 0 * 6 = 0 from rfl] at hx178_0); (try rw [Addr.add_zero'] at hx178_0); (try rw [show ((0 : Int)).toNat = 0 from rfl] at hx178_1); (try rw [show 0 * 6 = 0 from rfl] at hx178_1); (try rw [Addr.add_zero'] at hx178_1); (try rw [show ((0 : Int)).toNat = 0 from rfl] at hx178_2); (try rw [show 0 * 6 = 0 from rfl] at hx178_2); (try rw [Addr.add_zero'] at hx178_2); (try rw [show ((0 : Int)).toNat = 0 from rfl] at hx178_3); (try rw [show 0 * 6 = 0 from rfl] at hx178_3); (try rw [Addr.add_zero'] at hx178_3); (try rw [show ((0 : Int)).toNat = 0 from rfl] at hx178_4); (try rw [show 0 * 6 = 0 from rfl] at hx178_4); (try rw [Addr.add_zero'] at hx178_4); (try rw [show ((0 : Int)).toNat = 0 from rfl] at hx178_5); (try rw [show 0 * 6 = 0 from rfl] at hx178_5); (try rw [Addr.add_zero'] at hx178_5); replace hx178_0 := (HB.out.cell (World.block_lt_of_cell? w _ hx178_0)).trans hx178_0; replace hx178_1 := (HB.out.cell (World.block_lt_of_cell? w _ hx178_1)).trans hx178_1; replace hx178_2 := (HB.out.cell (World.block_lt_of_cell? w _ hx178_2)).trans hx178_2; replace hx178_3 := (HB.out.cell (World.block_lt_of_cell? w _ hx178_3)).trans hx178_3; replace hx178_4 := (HB.out.cell (World.block_lt_of_cell? w _ hx178_4)).trans hx178_4; replace hx178_5 := (HB.out.cell (World.block_lt_of_cell? w _ hx178_5)).trans hx178_5; replace p178 := eq_true p178; replace q178 := eq_true q178) | (go_at_call 64; (with_reducible refine (spec_l00In.calls ((rd_T80 l0 0).f5) 0 5000 t179 _ A20.out).mono ?_); rintro e w' ⟨rfl, ⟨nd, rfl⟩⟩))
       go_ret
       exact ⟨t5_, t1_⟩
      ·replace c19 := Bool.eq_false_iff.mpr c19
       subst c19
       have H1 : (some false) = some r := by rw [if_neg (show ¬ (false = true) by decide)] at H; exact H
       clear H
       have H := H1
       clear H1
       obtain rfl := Option.some.inj H
       have p174 : 0 ≤ (0 : Int) := t28_
       have q174 : 0 < (l0.length : Int) := of_decide_eq_true t3_
       obtain ⟨ad174, e174, hx174_0, hx174_1, hx174_2, hx174_3, hx174_4, hx174_5⟩ := at_T80 HR0.out 0 p174 q174
       cases e174
       have qi174 : (0 < l0.length) = True := eq_true t28_
       (try rw [za_] at hx174_0)
       (try rw [za_] at hx174_1)
       (try rw [za_] at hx174_2)
       (try rw [za_] at hx174_3)
       (try rw [za_] at hx174_4)
       (try rw [za_] at hx174_5)
       replace hx174_0 := hb_ HB hx174_0
       replace hx174_1 := hb_ HB hx174_1
       replace hx174_2 := hb_ HB hx174_2
       replace hx174_3 := hb_ HB hx174_3
       replace hx174_4 := hb_ HB hx174_4
       replace hx174_5 := hb_ HB hx174_5
       replace p174 := eq_true p174
       replace q174 := eq_true q174
       go_wp2_with (first | ((with_reducible refine gate_callee (f := 64) rfl ?_); refine goesL_ (some 40) rfl rfl Try.func64 t14_ rfl #[.int .i64 ((rd_T80 l0 0).f3), .int .i64 1, .int .i64 10000] rfl t2_ ?_; (with_reducible refine (spec_l00In.calls ((rd_T80 l0 0).f3) 1 10000 true _ A16.out).mono ?_); rintro e w' ⟨rfl, ⟨nd, rfl⟩⟩; refine ⟨_, rfl, ?_⟩; have p176 : 0 ≤ (0 : Int) := t28_; have q176 : 0 < (l0.length : Int) := of_decide_eq_true t3_; obtain ⟨ad176, e176, hx176_0, hx176_1, hx176_2, hx176_3, hx176_4, hx176_5⟩ := at_T80 HR0.out 0 p176 q176; obtain rfl : ad174 = ad176 := (by injection e176); have qi176 : (0 < l0.length) = True := eq_true t28_; (try rw [show ((0 : Int)).toNat = 0 from rfl] at hx176_0); (try rw [show 0 * 6 = 0 from rfl] at hx176_0); (try rw [Addr.add_zero'] at hx176_0); (try rw [show ((0 : Int)).toNat = 0 from rfl] at hx176_1); (try rw [show 0 * 6 = 0 from rfl] at hx176_1); (try rw [Addr.add_zero'] at hx176_1); (try rw [show ((0 : Int)).toNat = 0 from rfl] at hx176_2); (try rw [show 0 * 6 = 0 from rfl] at hx176_2); (try rw [Addr.add_zero'] at hx176_2); (try rw [show ((0 : Int)).toNat = 0 from rfl] at hx176_3); (try rw [show 0 * 6 = 0 from rfl] at hx176_3); (try rw [Addr.add_zero'] at hx176_3); (try rw [show ((0 : Int)).toNat = 0 from rfl] at hx176_4); (try rw [show 0 * 6 = 0 from rfl] at hx176_4); (try rw [Addr.add_zero'] at hx176_4); (try rw [show ((0 : Int)).toNat = 0 from rfl] at hx176_5); (try rw [show 0 * 6 = 0 from rfl] at hx176_5); (try rw [Addr.add_zero'] at hx176_5); replace hx176_0 := (HB.out.cell (World.block_lt_of_cell? w _ hx176_0)).trans hx176_0; replace hx176_1 := (HB.out.cell (World.block_lt_of_cell? w _ hx176_1)).trans hx176_1; replace hx176_2 := (HB.out.cell (World.block_lt_of_cell? w _ hx176_2)).trans hx176_2; replace hx176_3 := (HB.out.cell (World.block_lt_of_cell? w _ hx176_3)).trans hx176_3; replace hx176_4 := (HB.out.cell (World.block_lt_of_cell? w _ hx176_4)).trans hx176_4; replace hx176_5 := (HB.out.cell (World.block_lt_of_cell? w _ hx176_5)).trans hx176_5; replace p176 := eq_true p176; replace q176 := eq_true q176) | (go_at_call 64; (with_reducible refine (spec_l00In.calls ((rd_T80 l0 0).f4) 20 1000 false _ A18.out).mono ?_); rintro e w' ⟨rfl, ⟨nd, rfl⟩⟩))
       go_ret
       exact ⟨t5_, t1_⟩
     ·replace c17 := Bool.eq_false_iff.mpr c17
      subst c17
      have H1 : (some false) = some r := by rw [if_neg (show ¬ (false = true) by decide)] at H; exact H
      clear H
      have H := H1
      clear H1
      obtain rfl := Option.some.inj H
      have p174 : 0 ≤ (0 : Int) := t28_
      have q174 : 0 < (l0.length : Int) := of_decide_eq_true t3_
      obtain ⟨ad174, e174, hx174_0, hx174_1, hx174_2, hx174_3, hx174_4, hx174_5⟩ := at_T80 HR0.out 0 p174 q174
      cases e174
      have qi174 : (0 < l0.length) = True := eq_true t28_
      (try rw [za_] at hx174_0)
      (try rw [za_] at hx174_1)
      (try rw [za_] at hx174_2)
      (try rw [za_] at hx174_3)
      (try rw [za_] at hx174_4)
      (try rw [za_] at hx174_5)
      replace hx174_0 := hb_ HB hx174_0
      replace hx174_1 := hb_ HB hx174_1
      replace hx174_2 := hb_ HB hx174_2
      replace hx174_3 := hb_ HB hx174_3
      replace hx174_4 := hb_ HB hx174_4
      replace hx174_5 := hb_ HB hx174_5
      replace p174 := eq_true p174
      replace q174 := eq_true q174
      go_wp2_with (first | ((with_reducible refine gate_callee (f := 64) rfl ?_); refine goesL_ (some 40) rfl rfl Try.func64 t14_ rfl #[.int .i64 ((rd_T80 l0 0).f3), .int .i64 1, .int .i64 10000] rfl t2_ ?_; (with_reducible refine (spec_l00In.calls ((rd_T80 l0 0).f3) 1 10000 false _ A16.out).mono ?_); rintro e w' ⟨rfl, ⟨nd, rfl⟩⟩; refine ⟨_, rfl, ?_⟩))
      go_ret
      exact ⟨t5_, t1_⟩
    ·rw [if_neg c15] at H
     exact absurd H t44_

end Go.Proofs.Ytjelfhmgbhidnaa.PFnExactCriticalPipes
