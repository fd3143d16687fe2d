-- written by wip/xprint.py, a program of this session, for this claim; not trusted: Lean checks it.
import Derived.Test.YtjelfhmgbhidnaaPFnExactValidValvesx0
import Derived.Test.YtjelfhmgbhidnaaPFnExactValidValvesx12
namespace Go.Proofs.Ytjelfhmgbhidnaa.PFnExactValidValves
open Go.RowKit Go.Proofs.YtjelfhmgbhidnaaW.PrintWords Go.Proofs.YtjelfhmgbhidnaaW.PrintLast Go.Proofs.YtjelfhmgbhidnaaW.PrintMore
attribute [local go_sem] leq_less_ max2_int min2_int max_two min_two max_three min_three max_four min_four   -- for this text's walks alone
set_option linter.unusedVariables false
set_option linter.unusedSimpArgs false

/-! ### laws_eqValveS: function 18 -/
def laws_eqValveS.l0 : Nat → List (S64) → List (S64) → Int → Option (Bool)
 | 0, _, _, _ => none
 | k + 1, x0, x1, x5 => if x5 < (x0.length : Int) then (if 0 ≤ x5 then (if x5 < (x1.length : Int) then ((laws_eqValve.f ((rd_T64 x0 x5).f0) ((rd_T64 x0 x5).f1) ((rd_T64 x0 x5).f2) ((rd_T64 x1 x5).f0) ((rd_T64 x1 x5).f1) ((rd_T64 x1 x5).f2)).bind fun t278 => (if t278 = true then (laws_eqValveS.l0 k x0 x1 (wrap64 (x5 + 1))) else (some false))) else (none)) else (none)) else (some true)
def laws_eqValveS.f (k : Nat) (l0 : List (S64)) (l1 : List (S64)) : Option (Bool) := if (l0.length : Int) = (l1.length : Int) then (laws_eqValveS.l0 k l0 l1 0) else (some false)
theorem laws_eqValveS.mono_l : ∀ k, (∀ y0 y1 y2, LeO (laws_eqValveS.l0 k y0 y1 y2) (laws_eqValveS.l0 (k + 1) y0 y1 y2))
 | 0 => fun _ _ _ r h => by simp [laws_eqValveS.l0] at h
 | k + 1 => by
  have ih0 := laws_eqValveS.mono_l k
  ·intro y0 y1 y2
   unfold laws_eqValveS.l0
   repeat' first
   | (with_reducible exact ih0 _ _ _)
   | (with_reducible exact LeO.refl _)
   | (with_reducible exact LeO.none _)
   | (with_reducible refine LeO.ite ?_ ?_)
   | (with_reducible refine LeO.bind ?_ (fun _ => ?_))
   | exact ih0 _ _ _
   | exact LeO.none _
   | refine LeO.ite ?_ ?_
   | refine LeO.bind ?_ (fun _ => ?_)
theorem laws_eqValveS.mono : ∀ a0 a1 k, LeO (laws_eqValveS.f k a0 a1) (laws_eqValveS.f (k + 1) a0 a1) := by
 intro a0 a1 k
 have ih0 := laws_eqValveS.mono_l k
 unfold laws_eqValveS.f
 repeat' first
   | (with_reducible exact ih0 _ _ _)
   | (with_reducible exact LeO.refl _)
   | (with_reducible exact LeO.none _)
   | (with_reducible refine LeO.ite ?_ ?_)
   | (with_reducible refine LeO.bind ?_ (fun _ => ?_))
   | exact ih0 _ _ _
   | exact LeO.none _
   | refine LeO.ite ?_ ?_
   | refine LeO.bind ?_ (fun _ => ?_)
def laws_eqValveS.T6 : Bool × List (List Nat × List Nat) := (true, [([], []), ([], []), ([0, 1], [0, 1]), ([2], [2]), ([], []), ([], []), ([4, 5], [4, 5]), ([6], [6]), ([3, 7], [3, 7]), ([8], [8])])
def laws_eqValveS.B6 : List Nat := [0, 0, 3, 7, 0, 0, 48, 112, 255, 511]
theorem laws_eqValveS.tab6 : rtab .any (opsOf Try.f18 6) = laws_eqValveS.T6 := by kernel_rfl
theorem laws_eqValveS.bits6 : waitsOk laws_eqValveS.T6.2 laws_eqValveS.B6 = true := by kernel_rfl
set_option maxHeartbeats 8000000 in
set_option maxRecDepth 100000 in
theorem laws_eqValveS.calls (k : Nat) (A0 : Option Addr) (c0 : Nat) (l0 : List (S64)) (A1 : Option Addr) (c1 : Nat) (l1 : List (S64)) (r : Bool) (w : World) (hr0 : Kd.C k64 w A0 l0.length l0) (hc0 : l0.length ≤ c0) (hr1 : Kd.C k64 w A1 l1.length l1) (hc1 : l1.length ≤ c1) (h : laws_eqValveS.f k l0 l1 = some r) :
  Calls Try.prog 18 #[.slice A0 l0.length c0, .slice A1 l1.length c1] w fun e w' => e = .returned (.bool r) ∧ Below w.heap.size w w' := by
 have hu64 := Try.underlying64
 have HR0 := Aside0.mk hr0
 have HC0 := Aside0.mk hc0
 clear hr0 hc0
 have HR1 := Aside0.mk hr1
 have HC1 := Aside0.mk hc1
 clear hr1 hc1
 have HB := Aside0.mk (Below.refl w.heap.size w)
 have H : (if (l0.length : Int) = (l1.length : Int) then (laws_eqValveS.l0 k l0 l1 0) else (some false)) = some r := h
 clear h
 by_cases c3 : (l0.length : Int) = (l1.length : Int)
 ·rw [if_pos c3] at H
  have c3b0 : ((l0.length : Int) == (l1.length : Int)) = true := beq_iff_eq.mpr c3
  have c3b1 : ((l0.length : Int) != (l1.length : Int)) = false := bne_eq_false_iff_eq.mpr c3
  have c3b2 : (l0.length == l1.length) = true := by first | simpa using c3 | (simp at c3 ⊢; omega)
  clear c3
  have H' := Aside0.mk H
  clear H
  go_enter Try.func18, Try.ntmps18
  go_wp2
  go_loopg [5] k (fun kq v5 w' => ∃ (x5_1 : Int), v5 = .int .i64 x5_1 ∧ Aside0 (laws_eqValveS.l0 kq l0 l1 x5_1 = some r) ∧ Aside0 (kq ≤ k) ∧ Aside0 (Below w.heap.size w w'))
  case atStart => exact ⟨(0), t6_, H', ⟨Nat.le_refl _⟩, ⟨by repeat (first | (with_reducible first | exact HB.out | apply below_alloc | apply pw_below_drewN | apply below_drew1) | exact HB.out)⟩⟩
  case round =>
   clear H'
   try clear c1
   try clear p2
   try clear c3
   try clear c3b0
   try clear c3b1
   try clear c3b2
   obtain ⟨x5_1, rfl, HA, HK1, HB⟩ := hrel
   cases gk with
   | zero => exact absurd HA.out (by simp [laws_eqValveS.l0])
   | succ k1 =>
    have H := HA.out
    clear HA
    simp only [laws_eqValveS.l0] at H
    by_cases c4 : x5_1 < (l0.length : Int)
    ·rw [if_pos c4] at H
     have c4b0 : decide (x5_1 < (l0.length : Int)) = true := decide_eq_true c4
     clear c4
     by_cases c5 : 0 ≤ x5_1
     ·rw [if_pos c5] at H
      have c5b0 : decide (0 ≤ x5_1) = true := decide_eq_true c5
      clear c5
      by_cases c6 : x5_1 < (l1.length : Int)
      ·rw [if_pos c6] at H
       have c6b0 : decide (x5_1 < (l1.length : Int)) = true := decide_eq_true c6
       clear c6
       replace H := Option.bind_eq_some_iff.mp H
       obtain ⟨t278, A70, H⟩ := H
       replace H : (if t278 = true then (laws_eqValveS.l0 k1 l0 l1 (wrap64 (x5_1 + 1))) else (some false)) = some r := H
       have A7 := Aside0.mk A70
       clear A70
       by_cases c8 : t278 = true
       ·subst c8
        have H1 : (laws_eqValveS.l0 k1 l0 l1 (wrap64 (x5_1 + 1))) = some r := by rw [if_pos rfl] at H; exact H
        clear H
        have H := H1
        clear H1
        have H' := Aside0.mk H
        clear H
        try go_wp2
        have n0_ := Aside0.mk (below_drew1 HB.out)
        clear HB
        have HB := n0_
        clear n0_
        have p276 : 0 ≤ (x5_1 : Int) := of_decide_eq_true t3_
        have q276 : x5_1 < (l0.length : Int) := of_decide_eq_true t3_
        obtain ⟨ad276, e276, hx276_0, hx276_1, hx276_2⟩ := at_T64 HR0.out x5_1 p276 q276
        have hw276_2 := hx276_2
        have hw276_1 := hx276_1
        have hw276_0 := hx276_0
        cases e276
        replace hx276_0 := (HB.out.cell (World.block_lt_of_cell? w _ hx276_0)).trans hx276_0
        replace hx276_1 := (HB.out.cell (World.block_lt_of_cell? w _ hx276_1)).trans hx276_1
        replace hx276_2 := (HB.out.cell (World.block_lt_of_cell? w _ hx276_2)).trans hx276_2
        replace p276 := eq_true p276
        replace q276 := eq_true q276
        have p277 : 0 ≤ (x5_1 : Int) := of_decide_eq_true t3_
        have q277 : x5_1 < (l1.length : Int) := of_decide_eq_true t3_
        obtain ⟨ad277, e277, hx277_0, hx277_1, hx277_2⟩ := at_T64 HR1.out x5_1 p277 q277
        have hw277_2 := hx277_2
        have hw277_1 := hx277_1
        have hw277_0 := hx277_0
        cases e277
        replace hx277_0 := (HB.out.cell (World.block_lt_of_cell? w _ hx277_0)).trans hx277_0
        replace hx277_1 := (HB.out.cell (World.block_lt_of_cell? w _ hx277_1)).trans hx277_1
        replace hx277_2 := (HB.out.cell (World.block_lt_of_cell? w _ hx277_2)).trans hx277_2
        replace p277 := eq_true p277
        replace q277 := eq_true q277
        refine start_ (n := 10) (S := fun w' => w'.cell? (ad276.add ((x5_1).toNat * 3)) = some (.string ((rd_T64 l0 x5_1).f0)) ∧ w'.cell? ⟨(ad276.add ((x5_1).toNat * 3)).block, (ad276.add ((x5_1).toNat * 3)).off + 1, none⟩ = some (.string ((rd_T64 l0 x5_1).f1)) ∧ w'.cell? ⟨(ad276.add ((x5_1).toNat * 3)).block, (ad276.add ((x5_1).toNat * 3)).off + 2, none⟩ = some (.bool ((rd_T64 l0 x5_1).f2)) ∧ w'.cell? (ad277.add ((x5_1).toNat * 3)) = some (.string ((rd_T64 l1 x5_1).f0)) ∧ w'.cell? ⟨(ad277.add ((x5_1).toNat * 3)).block, (ad277.add ((x5_1).toNat * 3)).off + 1, none⟩ = some (.string ((rd_T64 l1 x5_1).f1)) ∧ w'.cell? ⟨(ad277.add ((x5_1).toNat * 3)).block, (ad277.add ((x5_1).toNat * 3)).off + 2, none⟩ = some (.bool ((rd_T64 l1 x5_1).f2))) (ds := []) (tf 0 10) t8_ rfl rfl ⟨((HB.out.cell (World.block_lt_of_cell? w _ hw276_0)).trans hw276_0), ((HB.out.cell (World.block_lt_of_cell? w _ hw276_1)).trans hw276_1), ((HB.out.cell (World.block_lt_of_cell? w _ hw276_2)).trans hw276_2), ((HB.out.cell (World.block_lt_of_cell? w _ hw277_0)).trans hw277_0), ((HB.out.cell (World.block_lt_of_cell? w _ hw277_1)).trans hw277_1), ((HB.out.cell (World.block_lt_of_cell? w _ hw277_2)).trans hw277_2)⟩ (fun hHeld => ?_); refine with_tabW laws_eqValveS.tab6 laws_eqValveS.bits6 (fun HT_ HW_ => ?_)
        generalize wr.drew = w9 at HB hx276_0 hx276_1 hx276_2 hx277_0 hx277_1 hx277_2 hHeld ⊢
        refine px 0 (some 17) (tf 1 10) HT_ ?_
        refine px 1 (some 18) (tf 2 10) HT_ ?_
        refine px 2 (some 19) (tf 3 10) HT_ ?_
        refine px 4 (some 21) (tb 10 23) HT_ ?_
        refine px 5 (some 22) (tb 10 55) HT_ ?_
        refine px 6 (some 23) (tb 10 119) HT_ ?_
        refine tx (v := ?_) 3 (some 20) (tf 7 10) HT_ HW_ hHeld ?_ ?_
        rotate_left; (· rintro w' ⟨s0, s1, s2, s3, s4, s5⟩; go_simp; with_reducible rfl)
        refine tx (v := ?_) 7 (some 24) (tf 8 10) HT_ HW_ hHeld ?_ ?_
        rotate_left; (· rintro w' ⟨s0, s1, s2, s3, s4, s5⟩; go_simp; with_reducible rfl)
        refine one_ (i := 8) (N := some 25) (tf 9 10) rfl rfl (one_of HT_.out t8_) t20_ (fun K hK => ?_)
        refine goes_ Try.func50 t8_ rfl #[.agg #[.string ((rd_T64 l0 x5_1).f0), .string ((rd_T64 l0 x5_1).f1), .bool ((rd_T64 l0 x5_1).f2)], .agg #[.string ((rd_T64 l1 x5_1).f0), .string ((rd_T64 l1 x5_1).f1), .bool ((rd_T64 l1 x5_1).f2)]] t37_ rfl rfl t2_ ?_
        with_reducible refine (laws_eqValve.calls ((rd_T64 l0 x5_1).f0) ((rd_T64 l0 x5_1).f1) ((rd_T64 l0 x5_1).f2) ((rd_T64 l1 x5_1).f0) ((rd_T64 l1 x5_1).f1) ((rd_T64 l1 x5_1).f2) true _ A7.out).mono ?_
        rintro e w10 ⟨rfl, hb⟩
        refine ⟨_, rfl, ?_⟩
        have n0_ := Aside0.mk (below_step t1_ hb)
        clear HB
        have HB := n0_
        clear n0_
        (try clear hb)
        (try clear hb2)
        (try clear hk)
        (try clear hi)
        refine hK.out _ _ ⟨((HB.out.cell (World.block_lt_of_cell? w _ hw276_0)).trans hw276_0), ((HB.out.cell (World.block_lt_of_cell? w _ hw276_1)).trans hw276_1), ((HB.out.cell (World.block_lt_of_cell? w _ hw276_2)).trans hw276_2), ((HB.out.cell (World.block_lt_of_cell? w _ hw277_0)).trans hw277_0), ((HB.out.cell (World.block_lt_of_cell? w _ hw277_1)).trans hw277_1), ((HB.out.cell (World.block_lt_of_cell? w _ hw277_2)).trans hw277_2)⟩ (fun hHeld => ?_)
        clear hK K
        refine norm_ (a' := ?_) ?_ ?_
        rotate_left
        ·show Act.put _ (some 25) _ = _
         simp only [Act.put, List.setIfInBounds_toArray, List.set_cons_zero, List.set_cons_succ, i64_w, i32_w]
         rfl
        refine px 9 (some 26) (tf 10 10) HT_ ?_
        refine done_ (done_of HT_.out t8_) ?_
        try go_wp2
        go_roundg k1
        case measure => have := HK1.out; omega
        case rel => exact ⟨(wrap64 (x5_1 + 1)), t6_, H', ⟨by have := HK1.out; omega⟩, ⟨by repeat (first | (with_reducible first | exact HB.out | apply below_alloc | apply pw_below_drewN | apply below_drew1) | exact HB.out)⟩⟩
       ·replace c8 := Bool.eq_false_iff.mpr c8
        subst c8
        have H1 : (some false) = some r := by rw [if_neg (show ¬ (false = true) by decide)] at H; exact H
        clear H
        have H := H1
        clear H1
        obtain rfl := Option.some.inj H
        try go_wp2
        have n0_ := Aside0.mk (below_drew1 HB.out)
        clear HB
        have HB := n0_
        clear n0_
        have p276 : 0 ≤ (x5_1 : Int) := of_decide_eq_true t3_
        have q276 : x5_1 < (l0.length : Int) := of_decide_eq_true t3_
        obtain ⟨ad276, e276, hx276_0, hx276_1, hx276_2⟩ := at_T64 HR0.out x5_1 p276 q276
        have hw276_2 := hx276_2
        have hw276_1 := hx276_1
        have hw276_0 := hx276_0
        cases e276
        replace hx276_0 := (HB.out.cell (World.block_lt_of_cell? w _ hx276_0)).trans hx276_0
        replace hx276_1 := (HB.out.cell (World.block_lt_of_cell? w _ hx276_1)).trans hx276_1
        replace hx276_2 := (HB.out.cell (World.block_lt_of_cell? w _ hx276_2)).trans hx276_2
        replace p276 := eq_true p276
        replace q276 := eq_true q276
        have p277 : 0 ≤ (x5_1 : Int) := of_decide_eq_true t3_
        have q277 : x5_1 < (l1.length : Int) := of_decide_eq_true t3_
        obtain ⟨ad277, e277, hx277_0, hx277_1, hx277_2⟩ := at_T64 HR1.out x5_1 p277 q277
        have hw277_2 := hx277_2
        have hw277_1 := hx277_1
        have hw277_0 := hx277_0
        cases e277
        replace hx277_0 := (HB.out.cell (World.block_lt_of_cell? w _ hx277_0)).trans hx277_0
        replace hx277_1 := (HB.out.cell (World.block_lt_of_cell? w _ hx277_1)).trans hx277_1
        replace hx277_2 := (HB.out.cell (World.block_lt_of_cell? w _ hx277_2)).trans hx277_2
        replace p277 := eq_true p277
        replace q277 := eq_true q277
        refine start_ (n := 10) (S := fun w' => w'.cell? (ad276.add ((x5_1).toNat * 3)) = some (.string ((rd_T64 l0 x5_1).f0)) ∧ w'.cell? ⟨(ad276.add ((x5_1).toNat * 3)).block, (ad276.add ((x5_1).toNat * 3)).off + 1, none⟩ = some (.string ((rd_T64 l0 x5_1).f1)) ∧ w'.cell? ⟨(ad276.add ((x5_1).toNat * 3)).block, (ad276.add ((x5_1).toNat * 3)).off + 2, none⟩ = some (.bool ((rd_T64 l0 x5_1).f2)) ∧ w'.cell? (ad277.add ((x5_1).toNat * 3)) = some (.string ((rd_T64 l1 x5_1).f0)) ∧ w'.cell? ⟨(ad277.add ((x5_1).toNat * 3)).block, (ad277.add ((x5_1).toNat * 3)).off + 1, none⟩ = some (.string ((rd_T64 l1 x5_1).f1)) ∧ w'.cell? ⟨(ad277.add ((x5_1).toNat * 3)).block, (ad277.add ((x5_1).toNat * 3)).off + 2, none⟩ = some (.bool ((rd_T64 l1 x5_1).f2))) (ds := []) (tf 0 10) t8_ rfl rfl ⟨((HB.out.cell (World.block_lt_of_cell? w _ hw276_0)).trans hw276_0), ((HB.out.cell (World.block_lt_of_cell? w _ hw276_1)).trans hw276_1), ((HB.out.cell (World.block_lt_of_cell? w _ hw276_2)).trans hw276_2), ((HB.out.cell (World.block_lt_of_cell? w _ hw277_0)).trans hw277_0), ((HB.out.cell (World.block_lt_of_cell? w _ hw277_1)).trans hw277_1), ((HB.out.cell (World.block_lt_of_cell? w _ hw277_2)).trans hw277_2)⟩ (fun hHeld => ?_); refine with_tabW laws_eqValveS.tab6 laws_eqValveS.bits6 (fun HT_ HW_ => ?_)
        generalize wr.drew = w11 at HB hx276_0 hx276_1 hx276_2 hx277_0 hx277_1 hx277_2 hHeld ⊢
        refine px 0 (some 17) (tf 1 10) HT_ ?_
        refine px 1 (some 18) (tf 2 10) HT_ ?_
        refine px 2 (some 19) (tf 3 10) HT_ ?_
        refine px 4 (some 21) (tb 10 23) HT_ ?_
        refine px 5 (some 22) (tb 10 55) HT_ ?_
        refine px 6 (some 23) (tb 10 119) HT_ ?_
        refine tx (v := ?_) 3 (some 20) (tf 7 10) HT_ HW_ hHeld ?_ ?_
        rotate_left; (· rintro w' ⟨s0, s1, s2, s3, s4, s5⟩; go_simp; with_reducible rfl)
        refine tx (v := ?_) 7 (some 24) (tf 8 10) HT_ HW_ hHeld ?_ ?_
        rotate_left; (· rintro w' ⟨s0, s1, s2, s3, s4, s5⟩; go_simp; with_reducible rfl)
        refine one_ (i := 8) (N := some 25) (tf 9 10) rfl rfl (one_of HT_.out t8_) t20_ (fun K hK => ?_)
        refine goes_ Try.func50 t8_ rfl #[.agg #[.string ((rd_T64 l0 x5_1).f0), .string ((rd_T64 l0 x5_1).f1), .bool ((rd_T64 l0 x5_1).f2)], .agg #[.string ((rd_T64 l1 x5_1).f0), .string ((rd_T64 l1 x5_1).f1), .bool ((rd_T64 l1 x5_1).f2)]] t37_ rfl rfl t2_ ?_
        with_reducible refine (laws_eqValve.calls ((rd_T64 l0 x5_1).f0) ((rd_T64 l0 x5_1).f1) ((rd_T64 l0 x5_1).f2) ((rd_T64 l1 x5_1).f0) ((rd_T64 l1 x5_1).f1) ((rd_T64 l1 x5_1).f2) false _ A7.out).mono ?_
        rintro e w12 ⟨rfl, hb⟩
        refine ⟨_, rfl, ?_⟩
        have n0_ := Aside0.mk (below_step t1_ hb)
        clear HB
        have HB := n0_
        clear n0_
        (try clear hb)
        (try clear hb2)
        (try clear hk)
        (try clear hi)
        refine hK.out _ _ ⟨((HB.out.cell (World.block_lt_of_cell? w _ hw276_0)).trans hw276_0), ((HB.out.cell (World.block_lt_of_cell? w _ hw276_1)).trans hw276_1), ((HB.out.cell (World.block_lt_of_cell? w _ hw276_2)).trans hw276_2), ((HB.out.cell (World.block_lt_of_cell? w _ hw277_0)).trans hw277_0), ((HB.out.cell (World.block_lt_of_cell? w _ hw277_1)).trans hw277_1), ((HB.out.cell (World.block_lt_of_cell? w _ hw277_2)).trans hw277_2)⟩ (fun hHeld => ?_)
        clear hK K
        refine norm_ (a' := ?_) ?_ ?_
        rotate_left
        ·show Act.put _ (some 25) _ = _
         simp only [Act.put, List.setIfInBounds_toArray, List.set_cons_zero, List.set_cons_succ, i64_w, i32_w]
         rfl
        refine px 9 (some 26) (tf 10 10) HT_ ?_
        refine done_ (done_of HT_.out t8_) ?_
        try go_wp2
        go_ret
        exact ⟨by first | rfl | (rw [Int.tdiv_eq_ediv_of_nonneg t12_]; rfl) | (simp [errW_none, errW_some] <;> rfl) | (simp [*, errW_none, errW_some] <;> rfl), by repeat (first | (with_reducible first | exact HB.out | apply below_alloc | apply pw_below_drewN | apply below_drew1) | exact HB.out)⟩
      ·rw [if_neg c6] at H
       exact absurd H t36_
     ·rw [if_neg c5] at H
      exact absurd H t36_
    ·rw [if_neg c4] at H
     have c4b0 : decide (x5_1 < (l0.length : Int)) = false := decide_eq_false c4
     clear c4
     obtain rfl := Option.some.inj H
     go_wp2
     go_ret
     exact ⟨by first | rfl | (rw [Int.tdiv_eq_ediv_of_nonneg t12_]; rfl) | (simp [errW_none, errW_some] <;> rfl) | (simp [*, errW_none, errW_some] <;> rfl), by repeat (first | (with_reducible first | exact HB.out | apply below_alloc | apply pw_below_drewN | apply below_drew1) | exact HB.out)⟩
 ·rw [if_neg c3] at H
  have c3b0 : ((l0.length : Int) == (l1.length : Int)) = false := beq_eq_false_iff_ne.mpr c3
  have c3b1 : ((l0.length : Int) != (l1.length : Int)) = true := bne_iff_ne.mpr c3
  have c3b2 : (l0.length == l1.length) = false := by first | simpa using c3 | (simp at c3 ⊢; omega)
  obtain rfl := Option.some.inj H
  go_enter Try.func18, Try.ntmps18
  go_wp2
  go_ret
  exact ⟨by first | rfl | (rw [Int.tdiv_eq_ediv_of_nonneg t12_]; rfl) | (simp [errW_none, errW_some] <;> rfl) | (simp [*, errW_none, errW_some] <;> rfl), by repeat (first | (with_reducible first | exact HB.out | apply below_alloc | apply pw_below_drewN | apply below_drew1) | exact HB.out)⟩

end Go.Proofs.Ytjelfhmgbhidnaa.PFnExactValidValves
