-- written by wip/xprint.py, a program of this session, for this claim; not trusted: Lean checks it.
import Derived.Test.YtjelfhmgbhidnaaPFnExactCriticalPipesx0
import Derived.Test.YtjelfhmgbhidnaaPFnExactCriticalPipesx7
namespace Go.Proofs.Ytjelfhmgbhidnaa.PFnExactCriticalPipes
open Go.RowKit Go.Proofs.YtjelfhmgbhidnaaW.PrintWords Go.Proofs.YtjelfhmgbhidnaaW.PrintLast Go.Proofs.YtjelfhmgbhidnaaW.PrintMore
attribute [local go_sem] leq_less_ max2_int min2_int max_two min_two max_three min_three max_four min_four   -- for this text's walks alone
set_option linter.unusedVariables false
set_option linter.unusedSimpArgs false

/-! ### spec_l19Served: function 65 -/
mutual
def spec_l19Served.l0 : Nat → List (S32) → List Int → List Int → List Bool → Int → Option (List Bool)
 | 0, _, _, _, _, _ => none
 | k + 1, x0, x1, x2, x7, x8 => if x8 < (x1.length : Int) then (if 0 ≤ x8 then (if 0 ≤ (rd x1 x8) then (if (rd x1 x8) < (x7.length : Int) then (spec_l19Served.l0 k x0 x1 x2 (x7.set ((rd x1 x8) : Int).toNat true) (wrap64 (x8 + 1))) else (none)) else (none)) else (none)) else (spec_l19Served.l1 k x0 x2 x7 0)
def spec_l19Served.l1 : Nat → List (S32) → List Int → List Bool → Int → Option (List Bool)
 | 0, _, _, _, _ => none
 | k + 1, x0, x2, x7, x9 => if 0 < (x0.length : Int) then (if x9 < (((rd_T32 x0 0).f0).length : Int) then (spec_l19Served.l2 k x0 x2 x7 x9 0) else (some x7)) else (none)
def spec_l19Served.l2 : Nat → List (S32) → List Int → List Bool → Int → Int → Option (List Bool)
 | 0, _, _, _, _, _ => none
 | k + 1, x0, x2, x7, x9, x10 => if 0 < (x0.length : Int) then (if x10 < (((rd_T32 x0 0).f1).length : Int) then (if 0 ≤ x10 then ((spec_l00Has.f k x2 x10).bind fun t221 => (if t221 = true then (spec_l19Served.l2 k x0 x2 x7 x9 (wrap64 (x10 + 1))) else (if 0 ≤ ((rd_T80 ((rd_T32 x0 0).f1) x10).f1) then (if ((rd_T80 ((rd_T32 x0 0).f1) x10).f1) < (x7.length : Int) then (if 0 ≤ ((rd_T80 ((rd_T32 x0 0).f1) x10).f2) then (if ((rd_T80 ((rd_T32 x0 0).f1) x10).f2) < (x7.length : Int) then (if ((rdOf false x7 ((rd_T80 ((rd_T32 x0 0).f1) x10).f1)) == (rdOf false x7 ((rd_T80 ((rd_T32 x0 0).f1) x10).f2))) = true then (spec_l19Served.l2 k x0 x2 x7 x9 (wrap64 (x10 + 1))) else (spec_l19Served.l2 k x0 x2 ((x7.set (((rd_T80 ((rd_T32 x0 0).f1) x10).f1) : Int).toNat true).set (((rd_T80 ((rd_T32 x0 0).f1) x10).f2) : Int).toNat true) x9 (wrap64 (x10 + 1)))) else (none)) else (none)) else (none)) else (none)))) else (none)) else (spec_l19Served.l1 k x0 x2 x7 (wrap64 (x9 + 1)))) else (none)
end
def spec_l19Served.f (k : Nat) (l0 : List (S32)) (l1 : List Int) (l2 : List Int) : Option (List Bool) := if 0 < (l0.length : Int) then (if 0 ≤ (((rd_T32 l0 0).f0).length : Int) then (if ((((rd_T32 l0 0).f0).length : Int) : Int).toNat ≤ 281474976710656 then (spec_l19Served.l0 k l0 l1 l2 (List.replicate ((((rd_T32 l0 0).f0).length : Int) : Int).toNat false) 0) else (none)) else (none)) else (none)
theorem spec_l19Served.mono_l : ∀ k, (∀ y0 y1 y2 y3 y4, LeO (spec_l19Served.l0 k y0 y1 y2 y3 y4) (spec_l19Served.l0 (k + 1) y0 y1 y2 y3 y4)) ∧ (∀ y0 y1 y2 y3, LeO (spec_l19Served.l1 k y0 y1 y2 y3) (spec_l19Served.l1 (k + 1) y0 y1 y2 y3)) ∧ (∀ y0 y1 y2 y3 y4, LeO (spec_l19Served.l2 k y0 y1 y2 y3 y4) (spec_l19Served.l2 (k + 1) y0 y1 y2 y3 y4))
 | 0 => ⟨fun _ _ _ _ _ r h => by simp [spec_l19Served.l0] at h, fun _ _ _ _ r h => by simp [spec_l19Served.l1] at h, fun _ _ _ _ _ r h => by simp [spec_l19Served.l2] at h⟩
 | k + 1 => by
  obtain ⟨ih0, ih1, ih2⟩ := spec_l19Served.mono_l k
  refine ⟨?_, ?_, ?_⟩ <;> intros <;> first | unfold spec_l19Served.l0 | unfold spec_l19Served.l1 | unfold spec_l19Served.l2
  all_goals
   repeat' first
   | (with_reducible exact ih0 _ _ _ _ _)
   | (with_reducible exact ih1 _ _ _ _)
   | (with_reducible exact ih2 _ _ _ _ _)
   | (with_reducible exact spec_l00Has.mono _ _ _)
   | (with_reducible exact LeO.refl _)
   | (with_reducible exact LeO.none _)
   | (with_reducible refine LeO.ite ?_ ?_)
   | (with_reducible refine LeO.bind ?_ (fun _ => ?_))
   | exact ih0 _ _ _ _ _
   | exact ih1 _ _ _ _
   | exact ih2 _ _ _ _ _
   | exact spec_l00Has.mono _ _ _
   | exact LeO.none _
   | refine LeO.ite ?_ ?_
   | refine LeO.bind ?_ (fun _ => ?_)
theorem spec_l19Served.mono : ∀ a0 a1 a2 k, LeO (spec_l19Served.f k a0 a1 a2) (spec_l19Served.f (k + 1) a0 a1 a2) := by
 intro a0 a1 a2 k
 obtain ⟨ih0, ih1, ih2⟩ := spec_l19Served.mono_l k
 unfold spec_l19Served.f
 repeat' first
   | (with_reducible exact ih0 _ _ _ _ _)
   | (with_reducible exact ih1 _ _ _ _)
   | (with_reducible exact ih2 _ _ _ _ _)
   | (with_reducible exact spec_l00Has.mono _ _ _)
   | (with_reducible exact LeO.refl _)
   | (with_reducible exact LeO.none _)
   | (with_reducible refine LeO.ite ?_ ?_)
   | (with_reducible refine LeO.bind ?_ (fun _ => ?_))
   | exact ih0 _ _ _ _ _
   | exact ih1 _ _ _ _
   | exact ih2 _ _ _ _ _
   | exact spec_l00Has.mono _ _ _
   | exact LeO.none _
   | refine LeO.ite ?_ ?_
   | refine LeO.bind ?_ (fun _ => ?_)
set_option maxHeartbeats 8000000 in
set_option maxRecDepth 100000 in
theorem spec_l19Served.calls (k : Nat) (A0 : Option Addr) (c0 : Nat) (l0 : List (S32)) (A1 : Option Addr) (c1 : Nat) (l1 : List Int) (A2 : Option Addr) (c2 : Nat) (l2 : List Int) (r : List Bool) (w : World) (hr0 : Kd.C k32 w A0 l0.length l0) (hc0 : l0.length ≤ c0) (hr1 : Kd.C (Kd.int .i64) w A1 l1.length l1) (hc1 : l1.length ≤ c1) (hr2 : Kd.C (Kd.int .i64) w A2 l2.length l2) (hc2 : l2.length ≤ c2) (h : spec_l19Served.f k l0 l1 l2 = some r) :
  Calls Try.prog 65 #[.pointer A0, .slice A1 l1.length c1, .slice A2 l2.length c2] w fun e w' => ∃ v0_ : Value, e = .returned (v0_) ∧ Kd.R Kd.bool 4 w' w.heap.size (fun _ => True) v0_ r ∧ Below w.heap.size w w' := by
 have HR0 := Aside0.mk hr0
 have HC0 := Aside0.mk hc0
 clear hr0 hc0
 have HR1 := Aside0.mk hr1
 have HC1 := Aside0.mk hc1
 clear hr1 hc1
 have HR2 := Aside0.mk hr2
 have HC2 := Aside0.mk hc2
 clear hr2 hc2
 have HB := Aside0.mk (Below.refl w.heap.size w)
 have H : (if 0 < (l0.length : Int) then (if 0 ≤ (((rd_T32 l0 0).f0).length : Int) then (if ((((rd_T32 l0 0).f0).length : Int) : Int).toNat ≤ 281474976710656 then (spec_l19Served.l0 k l0 l1 l2 (List.replicate ((((rd_T32 l0 0).f0).length : Int) : Int).toNat false) 0) else (none)) else (none)) else (none)) = some r := h
 clear h
 by_cases c4 : 0 < (l0.length : Int)
 ·rw [if_pos c4] at H
  have c4b0 : decide (0 < (l0.length : Int)) = true := decide_eq_true c4
  have c4b1 : decide (0 < l0.length) = true := decide_eq_true t28_
  clear c4
  by_cases c5 : 0 ≤ (((rd_T32 l0 0).f0).length : Int)
  ·rw [if_pos c5] at H
   have c5b0 := eq_true c5
   have c5b1 : decide (0 ≤ (((rd_T32 l0 0).f0).length : Int)) = true := decide_eq_true c5
   clear c5
   by_cases c6 : ((((rd_T32 l0 0).f0).length : Int) : Int).toNat ≤ 281474976710656
   ·rw [if_pos c6] at H
    have c6b0 := eq_true c6
    have c6b1 : decide (((((rd_T32 l0 0).f0).length : Int) : Int).toNat ≤ 281474976710656) = true := decide_eq_true c6
    clear c6
    obtain ⟨y212, hy212⟩ : ∃ y_ : List Bool, y_ = (List.replicate ((((rd_T32 l0 0).f0).length : Int) : Int).toNat false) := ⟨_, rfl⟩
    replace H : (spec_l19Served.l0 k l0 l1 l2 y212 0) = some r := by first | (rw [hy212]; with_reducible exact H) | (have H2_ := (Option.bind_some _ _).symm.trans H; rw [hy212]; with_reducible exact H2_) | (have H2_ := (Option.bind_some _ _).symm.trans H; with_reducible exact H2_) | with_reducible exact H | (rw [hy212]; exact H) | exact H
    have Ny212 := Aside0.mk hy212
    clear hy212
    have H' := Aside0.mk H
    clear H
    have p211 : 0 ≤ (0 : Int) := t28_
    have q211 : 0 < (l0.length : Int) := of_decide_eq_true t3_
    obtain ⟨ad211, A211_0, c211_0, A211_1, c211_1, e211, hx211_0, hx211_1, hl211_0, hi211_0, hl211_1, hi211_1⟩ := at_T32 HR0.out 0 p211 q211
    cases e211
    have qi211 : (0 < l0.length) = True := eq_true t28_
    (try rw [za_] at hx211_0)
    (try rw [za_] at hx211_1)
    have HR211_0 := Aside0.mk hi211_0
    have HC211_0 := Aside0.mk hl211_0
    clear hi211_0 hl211_0
    have HR211_1 := Aside0.mk hi211_1
    have HC211_1 := Aside0.mk hl211_1
    clear hi211_1 hl211_1
    replace p211 := eq_true p211
    replace q211 := eq_true q211
    go_enter Try.func65, Try.ntmps65
    go_wp2_with (first | ((with_reducible refine gate_dst (N := 17) rfl ?_); refine Kd.R_make Kd.bool _ 4 rfl (N := 17) rfl 89 _ _ rfl (((rd_T32 l0 0).f0).length : Int) rfl rfl Try.underlying89 (.bool false) 1 info4 rfl t31_ t28_ false (ok := fun _ => True) (okp := fun _ => True) rfl (fun _ hk => hk) trivial (of_decide_eq_true t3_) (Nat.le_trans (Nat.mul_le_mul_right _ (of_decide_eq_true t3_ : (((rd_T32 l0 0).f0).length : Int).toNat ≤ 281474976710656)) t28_) (Below.refl _ _) (Nat.le_refl _) ?_; intro v213 w7 ho8 hb hg_ hnew_; clear hg_ hnew_; (first | rw [← Ny212.out] at ho8 | (simp only [Int.reduceToNat] at ho8; rw [← Ny212.out] at ho8)); have n0_ := Aside0.mk (Kd.R_lower ho8 (below_size t1_)); have n1_ := Aside0.mk (below_step t1_ hb); clear HB; have HO214 := n0_; have HB := n1_; clear n0_ n1_; clear hb ho8))
    repeat (go_quiet (first | ((with_reducible refine gate_dst (N := 17) rfl ?_); refine Kd.R_make Kd.bool _ 4 rfl (N := 17) rfl 89 _ _ rfl (((rd_T32 l0 0).f0).length : Int) rfl rfl Try.underlying89 (.bool false) 1 info4 rfl t31_ t28_ false (ok := fun _ => True) (okp := fun _ => True) rfl (fun _ hk => hk) trivial (of_decide_eq_true t3_) (Nat.le_trans (Nat.mul_le_mul_right _ (of_decide_eq_true t3_ : (((rd_T32 l0 0).f0).length : Int).toNat ≤ 281474976710656)) t28_) (Below.refl _ _) (Nat.le_refl _) ?_; intro v213 w7 ho8 hb hg_ hnew_; clear hg_ hnew_; (first | rw [← Ny212.out] at ho8 | (simp only [Int.reduceToNat] at ho8; rw [← Ny212.out] at ho8)); have n0_ := Aside0.mk (Kd.R_lower ho8 (below_size t1_)); have n1_ := Aside0.mk (below_step t1_ hb); clear HB; have HO214 := n0_; have HB := n1_; clear n0_ n1_; clear hb ho8)); try go_wp2_with (first | ((with_reducible refine gate_dst (N := 17) rfl ?_); refine Kd.R_make Kd.bool _ 4 rfl (N := 17) rfl 89 _ _ rfl (((rd_T32 l0 0).f0).length : Int) rfl rfl Try.underlying89 (.bool false) 1 info4 rfl t31_ t28_ false (ok := fun _ => True) (okp := fun _ => True) rfl (fun _ hk => hk) trivial (of_decide_eq_true t3_) (Nat.le_trans (Nat.mul_le_mul_right _ (of_decide_eq_true t3_ : (((rd_T32 l0 0).f0).length : Int).toNat ≤ 281474976710656)) t28_) (Below.refl _ _) (Nat.le_refl _) ?_; intro v213 w7 ho8 hb hg_ hnew_; clear hg_ hnew_; (first | rw [← Ny212.out] at ho8 | (simp only [Int.reduceToNat] at ho8; rw [← Ny212.out] at ho8)); have n0_ := Aside0.mk (Kd.R_lower ho8 (below_size t1_)); have n1_ := Aside0.mk (below_step t1_ hb); clear HB; have HO214 := n0_; have HB := n1_; clear n0_ n1_; clear hb ho8)))
    go_loopg [8] k (fun kq v8 w' => ∃ (x7_1 : List Bool) (x8_1 : Int), v8 = .int .i64 x8_1 ∧ Aside0 (spec_l19Served.l0 kq l0 l1 l2 x7_1 x8_1 = some r) ∧ Aside0 (kq ≤ k) ∧ Aside0 (Kd.R Kd.bool 4 w' w.heap.size (fun _ => True) v213 x7_1) ∧ Aside0 (Below w.heap.size w w'))
    case atStart => exact ⟨(y212), (0), t6_, H', ⟨Nat.le_refl _⟩, ⟨(by (with_reducible repeat (first | apply Kd.R_alloc | apply Kd.R_drewN | apply Kd.R_drew)); exact HO214.out)⟩, ⟨t1_⟩⟩
    case round =>
     clear H'
     try clear c1
     try clear c2
     try clear p2
     try clear q2
     try clear hx2
     try clear qi2
     try clear c4
     try clear c4b0
     try clear c4b1
     try clear c5
     try clear c5b0
     try clear c5b1
     try clear c6
     try clear c6b0
     try clear c6b1
     try clear hx211_0
     try clear hx211_1
     try clear p211
     try clear q211
     obtain ⟨x7_1, x8_1, rfl, HA, HK1, HO_7, HB⟩ := hrel
     cases gk with
     | zero => exact absurd HA.out (by simp [spec_l19Served.l0])
     | succ k1 =>
      have H := HA.out
      clear HA
      simp only [spec_l19Served.l0] at H
      by_cases c9 : x8_1 < (l1.length : Int)
      ·rw [if_pos c9] at H
       have c9b0 : decide (x8_1 < (l1.length : Int)) = true := decide_eq_true c9
       clear c9
       by_cases c10 : 0 ≤ x8_1
       ·rw [if_pos c10] at H
        have c10b0 : decide (0 ≤ x8_1) = true := decide_eq_true c10
        clear c10
        by_cases c11 : 0 ≤ (rd l1 x8_1)
        ·rw [if_pos c11] at H
         have c11b0 : decide (0 ≤ (rd l1 x8_1)) = true := decide_eq_true c11
         clear c11
         by_cases c12 : (rd l1 x8_1) < (x7_1.length : Int)
         ·rw [if_pos c12] at H
          have c12b0 : decide ((rd l1 x8_1) < (x7_1.length : Int)) = true := decide_eq_true c12
          clear c12
          obtain ⟨y216, hy216⟩ : ∃ y_ : List Bool, y_ = (x7_1.set ((rd l1 x8_1) : Int).toNat true) := ⟨_, rfl⟩
          replace H : (spec_l19Served.l0 k1 l0 l1 l2 y216 (wrap64 (x8_1 + 1))) = some r := by first | (rw [hy216]; with_reducible exact H) | (have H2_ := (Option.bind_some _ _).symm.trans H; rw [hy216]; with_reducible exact H2_) | (have H2_ := (Option.bind_some _ _).symm.trans H; with_reducible exact H2_) | with_reducible exact H | (rw [hy216]; exact H) | exact H
          have Ny216 := Aside0.mk hy216
          clear hy216
          have H' := Aside0.mk H
          clear H
          have p215 : 0 ≤ (x8_1 : Int) := of_decide_eq_true t3_
          have q215 : x8_1 < (l1.length : Int) := of_decide_eq_true t3_
          obtain ⟨ad215, e215, hx215_0⟩ := Kd.at_int HR1.out x8_1 p215 q215
          cases e215
          replace hx215_0 := hb_ HB hx215_0
          replace p215 := eq_true p215
          replace q215 := eq_true q215
          have p13 : 0 ≤ ((rd l1 x8_1) : Int) := of_decide_eq_true t3_
          have q13 : ((rd l1 x8_1) : Int) < ((x7_1.length : Int) : Int) := of_decide_eq_true t3_
          obtain ⟨go13, co13, eo13, gb13, gl13, cl13, HG13⟩ := Kd.R_form HO_7.out t28_
          (first | cases eo13 | (injection eo13 with ea_ en_ ec_; (first | subst ea_ | (injection ea_ with ea_; subst ea_)); subst ec_; clear en_))
          have GB13 := Aside0.mk gb13
          have GG13 := Aside0.mk HG13
          clear gb13 gl13 HG13
          obtain ⟨hx13_0, hf13_0⟩ := Kd.R_celln false HO_7.out ((rd l1 x8_1) : Int) p13 q13
          replace p13 := eq_true p13
          replace q13 := eq_true q13
          have HP14 := Kd.R_putg HO_7.out ((rd l1 x8_1) : Int) true
          go_wp2_with (first | ((with_reducible refine gate_store (t := 4) (p := 29) rfl ?_); (try (rw [drewN_self wr]; generalize hq_ : World.drewN wr _ = wr; have n0_ := Aside0.mk (Kd.R_at hq_ HO_7.out); have n1_ := Aside0.mk (below_at hq_ HB.out); clear hq_ HO_7 HB; have HO_7 := n0_; have HB := n1_; clear n0_ n1_; (try (have HP14 := Kd.R_putg HO_7.out ((rd l1 x8_1) : Int) true)))); refine store_event (t := 4) (p := 29) (v := ?vo_w15) (w1 := (wr.setCell ⟨go13, ((rd l1 x8_1) : Int).toNat, none⟩ (.bool true))) ?hg ?ho ?hn ?hr ?_; (case ho => rfl); (case hg => rfl); (case hn => rfl); (case hr => first | (go_simp; done) | (go_simp; rfl)); intro w15 hw; have hg : wr.grownBy w15 (some go13) := (by rw [hw]; exact HP14.2); have hp_ : Kd.R Kd.bool 4 w15 w.heap.size (fun _ => True) (.slice (some ⟨go13, 0, none⟩) x7_1.length co13) y216 := (by rw [hw, Ny216.out]; exact HP14.1); clear HP14; have n0_ := Aside0.mk (hp_); have n1_ := Aside0.mk ((by rw [hw]; exact below_set (HB.out) GB13.out : Below w.heap.size w w15)); clear HO_7; clear HB; have HO_7 := n0_; have HB := n1_; clear n0_ n1_; clear hg hw hp_))
          repeat (go_quiet (first | ((with_reducible refine gate_store (t := 4) (p := 29) rfl ?_); (try (rw [drewN_self wr]; generalize hq_ : World.drewN wr _ = wr; have n0_ := Aside0.mk (Kd.R_at hq_ HO_7.out); have n1_ := Aside0.mk (below_at hq_ HB.out); clear hq_ HO_7 HB; have HO_7 := n0_; have HB := n1_; clear n0_ n1_; (try (have HP14 := Kd.R_putg HO_7.out ((rd l1 x8_1) : Int) true)))); refine store_event (t := 4) (p := 29) (v := ?vo_w15) (w1 := (wr.setCell ⟨go13, ((rd l1 x8_1) : Int).toNat, none⟩ (.bool true))) ?hg ?ho ?hn ?hr ?_; (case ho => rfl); (case hg => rfl); (case hn => rfl); (case hr => first | (go_simp; done) | (go_simp; rfl)); intro w15 hw; have hg : wr.grownBy w15 (some go13) := (by rw [hw]; exact HP14.2); have hp_ : Kd.R Kd.bool 4 w15 w.heap.size (fun _ => True) (.slice (some ⟨go13, 0, none⟩) x7_1.length co13) y216 := (by rw [hw, Ny216.out]; exact HP14.1); clear HP14; have n0_ := Aside0.mk (hp_); have n1_ := Aside0.mk ((by rw [hw]; exact below_set (HB.out) GB13.out : Below w.heap.size w w15)); clear HO_7; clear HB; have HO_7 := n0_; have HB := n1_; clear n0_ n1_; clear hg hw hp_)); try go_wp2_with (first | ((with_reducible refine gate_store (t := 4) (p := 29) rfl ?_); (try (rw [drewN_self wr]; generalize hq_ : World.drewN wr _ = wr; have n0_ := Aside0.mk (Kd.R_at hq_ HO_7.out); have n1_ := Aside0.mk (below_at hq_ HB.out); clear hq_ HO_7 HB; have HO_7 := n0_; have HB := n1_; clear n0_ n1_; (try (have HP14 := Kd.R_putg HO_7.out ((rd l1 x8_1) : Int) true)))); refine store_event (t := 4) (p := 29) (v := ?vo_w15) (w1 := (wr.setCell ⟨go13, ((rd l1 x8_1) : Int).toNat, none⟩ (.bool true))) ?hg ?ho ?hn ?hr ?_; (case ho => rfl); (case hg => rfl); (case hn => rfl); (case hr => first | (go_simp; done) | (go_simp; rfl)); intro w15 hw; have hg : wr.grownBy w15 (some go13) := (by rw [hw]; exact HP14.2); have hp_ : Kd.R Kd.bool 4 w15 w.heap.size (fun _ => True) (.slice (some ⟨go13, 0, none⟩) x7_1.length co13) y216 := (by rw [hw, Ny216.out]; exact HP14.1); clear HP14; have n0_ := Aside0.mk (hp_); have n1_ := Aside0.mk ((by rw [hw]; exact below_set (HB.out) GB13.out : Below w.heap.size w w15)); clear HO_7; clear HB; have HO_7 := n0_; have HB := n1_; clear n0_ n1_; clear hg hw hp_)))
          go_roundg k1
          case measure => have := HK1.out; omega
          case rel => exact ⟨(y216), (wrap64 (x8_1 + 1)), t6_, H', ⟨t41_⟩, ⟨t25_⟩, ⟨t1_⟩⟩
         ·rw [if_neg c12] at H
          exact absurd H t44_
        ·rw [if_neg c11] at H
         exact absurd H t44_
       ·rw [if_neg c10] at H
        exact absurd H t44_
      ·rw [if_neg c9] at H
       have c9b0 : decide (x8_1 < (l1.length : Int)) = false := decide_eq_false c9
       clear c9
       have H' := Aside0.mk H
       clear H
       go_wp2
       repeat (go_quiet (fail); try go_wp2)
       go_loopg [9] k1 (fun kq v9 w' => ∃ (x7_2 : List Bool) (x9_2 : Int), v9 = .int .i64 x9_2 ∧ Aside0 (spec_l19Served.l1 kq l0 l2 x7_2 x9_2 = some r) ∧ Aside0 (kq ≤ k1) ∧ Aside0 (Kd.R Kd.bool 4 w' w.heap.size (fun _ => True) v213 x7_2) ∧ Aside0 (Below w.heap.size w w'))
       case atStart => exact ⟨(x7_1), (0), t6_, H', ⟨Nat.le_refl _⟩, ⟨t25_⟩, ⟨t1_⟩⟩
       case round =>
        clear H'
        try clear c1
        try clear p1
        try clear q1
        try clear hx1
        try clear c2
        try clear p2
        try clear q2
        try clear hx2
        try clear qi2
        try clear c4
        try clear c4b0
        try clear c4b1
        try clear c5
        try clear c5b0
        try clear c5b1
        try clear c6
        try clear c6b0
        try clear c6b1
        try clear p6
        try clear c9
        try clear c9b0
        try clear c10
        try clear c10b0
        try clear c11
        try clear c11b0
        try clear c12
        try clear c12b0
        try clear p13
        try clear q13
        try clear hx13
        try clear hf13
        try clear hx13_0
        try clear hx211_0
        try clear hx211_1
        try clear hx215_0
        try clear p13
        try clear p2
        try clear p211
        try clear p215
        try clear q13
        try clear q2
        try clear q211
        try clear q215
        obtain ⟨x7_2, x9_2, rfl, HA, HK2, HO_7, HB⟩ := hrel
        cases gk with
        | zero => exact absurd HA.out (by simp [spec_l19Served.l1])
        | succ k2 =>
         have H := HA.out
         clear HA
         simp only [spec_l19Served.l1] at H
         by_cases c16 : 0 < (l0.length : Int)
         ·rw [if_pos c16] at H
          have c16b0 : decide (0 < (l0.length : Int)) = true := decide_eq_true c16
          have c16b1 : decide (0 < l0.length) = true := decide_eq_true t28_
          clear c16
          by_cases c17 : x9_2 < (((rd_T32 l0 0).f0).length : Int)
          ·rw [if_pos c17] at H
           have c17b0 : decide (x9_2 < (((rd_T32 l0 0).f0).length : Int)) = true := decide_eq_true c17
           clear c17
           have H' := Aside0.mk H
           clear H
           have p217 : 0 ≤ (0 : Int) := t28_
           have q217 : 0 < (l0.length : Int) := of_decide_eq_true t3_
           obtain ⟨ad217, A217_0, c217_0, A217_1, c217_1, e217, hx217_0, hx217_1, hl217_0, hi217_0, hl217_1, hi217_1⟩ := at_T32 HR0.out 0 p217 q217
           obtain rfl : ad211 = ad217 := (by injection e217)
           have qi217 : (0 < l0.length) = True := eq_true t28_
           (try rw [za_] at hx217_0)
           (try rw [za_] at hx217_1)
           replace hx217_0 := hb_ HB hx217_0
           replace hx217_1 := hb_ HB hx217_1
           have HR217_0 := Aside0.mk hi217_0
           have HC217_0 := Aside0.mk hl217_0
           clear hi217_0 hl217_0
           have HR217_1 := Aside0.mk hi217_1
           have HC217_1 := Aside0.mk hl217_1
           clear hi217_1 hl217_1
           replace p217 := eq_true p217
           replace q217 := eq_true q217
           go_wp2
           repeat (go_quiet (fail); try go_wp2)
           go_loopg [10] k2 (fun kq v10 w' => ∃ (x7_3 : List Bool) (x10_3 : Int), v10 = .int .i64 x10_3 ∧ Aside0 (spec_l19Served.l2 kq l0 l2 x7_3 x9_2 x10_3 = some r) ∧ Aside0 (kq ≤ k2) ∧ Aside0 (Kd.R Kd.bool 4 w' w.heap.size (fun _ => True) v213 x7_3) ∧ Aside0 (Below w.heap.size w w'))
           case atStart => exact ⟨(x7_2), (0), t6_, H', ⟨Nat.le_refl _⟩, ⟨t25_⟩, ⟨t1_⟩⟩
           case round =>
            clear H'
            try clear c1
            try clear p1
            try clear q1
            try clear hx1
            try clear c2
            try clear p2
            try clear q2
            try clear hx2
            try clear qi2
            try clear c4
            try clear c4b0
            try clear c4b1
            try clear c5
            try clear c5b0
            try clear c5b1
            try clear c6
            try clear c6b0
            try clear c6b1
            try clear p6
            try clear c9
            try clear c9b0
            try clear c10
            try clear c10b0
            try clear c11
            try clear c11b0
            try clear c12
            try clear c12b0
            try clear p13
            try clear q13
            try clear hx13
            try clear hf13
            try clear c16
            try clear c16b0
            try clear c16b1
            try clear c17
            try clear c17b0
            try clear hx13_0
            try clear hx211_0
            try clear hx211_1
            try clear hx215_0
            try clear hx217_0
            try clear hx217_1
            try clear p1
            try clear p13
            try clear p2
            try clear p211
            try clear p215
            try clear p217
            try clear p6
            try clear q1
            try clear q13
            try clear q2
            try clear q211
            try clear q215
            try clear q217
            obtain ⟨x7_3, x10_3, rfl, HA, HK3, HO_7, HB⟩ := hrel
            cases gk with
            | zero => exact absurd HA.out (by simp [spec_l19Served.l2])
            | succ k3 =>
             have H := HA.out
             clear HA
             simp only [spec_l19Served.l2] at H
             by_cases c18 : 0 < (l0.length : Int)
             ·rw [if_pos c18] at H
              have c18b0 : decide (0 < (l0.length : Int)) = true := decide_eq_true c18
              have c18b1 : decide (0 < l0.length) = true := decide_eq_true t28_
              clear c18
              by_cases c19 : x10_3 < (((rd_T32 l0 0).f1).length : Int)
              ·rw [if_pos c19] at H
               have c19b0 : decide (x10_3 < (((rd_T32 l0 0).f1).length : Int)) = true := decide_eq_true c19
               clear c19
               by_cases c20 : 0 ≤ x10_3
               ·rw [if_pos c20] at H
                have c20b0 : decide (0 ≤ x10_3) = true := decide_eq_true c20
                clear c20
                replace H := Option.bind_eq_some_iff.mp H
                obtain ⟨t221, A210, H⟩ := H
                replace H : (if t221 = true then (spec_l19Served.l2 k3 l0 l2 x7_3 x9_2 (wrap64 (x10_3 + 1))) else (if 0 ≤ ((rd_T80 ((rd_T32 l0 0).f1) x10_3).f1) then (if ((rd_T80 ((rd_T32 l0 0).f1) x10_3).f1) < (x7_3.length : Int) then (if 0 ≤ ((rd_T80 ((rd_T32 l0 0).f1) x10_3).f2) then (if ((rd_T80 ((rd_T32 l0 0).f1) x10_3).f2) < (x7_3.length : Int) then (if ((rdOf false x7_3 ((rd_T80 ((rd_T32 l0 0).f1) x10_3).f1)) == (rdOf false x7_3 ((rd_T80 ((rd_T32 l0 0).f1) x10_3).f2))) = true then (spec_l19Served.l2 k3 l0 l2 x7_3 x9_2 (wrap64 (x10_3 + 1))) else (spec_l19Served.l2 k3 l0 l2 ((x7_3.set (((rd_T80 ((rd_T32 l0 0).f1) x10_3).f1) : Int).toNat true).set (((rd_T80 ((rd_T32 l0 0).f1) x10_3).f2) : Int).toNat true) x9_2 (wrap64 (x10_3 + 1)))) else (none)) else (none)) else (none)) else (none))) = some r := H
                have A21 := Aside0.mk A210
                clear A210
                by_cases c22 : t221 = true
                ·subst c22
                 have H1 : (spec_l19Served.l2 k3 l0 l2 x7_3 x9_2 (wrap64 (x10_3 + 1))) = some r := by rw [if_pos rfl] at H; exact H
                 clear H
                 have H := H1
                 clear H1
                 have H' := Aside0.mk H
                 clear H
                 have p218 : 0 ≤ (0 : Int) := t28_
                 have q218 : 0 < (l0.length : Int) := of_decide_eq_true t3_
                 obtain ⟨ad218, A218_0, c218_0, A218_1, c218_1, e218, hx218_0, hx218_1, hl218_0, hi218_0, hl218_1, hi218_1⟩ := at_T32 HR0.out 0 p218 q218
                 obtain rfl : ad211 = ad218 := (by injection e218)
                 have qi218 : (0 < l0.length) = True := eq_true t28_
                 (try rw [za_] at hx218_0)
                 (try rw [za_] at hx218_1)
                 replace hx218_0 := hb_ HB hx218_0
                 replace hx218_1 := hb_ HB hx218_1
                 have HR218_0 := Aside0.mk hi218_0
                 have HC218_0 := Aside0.mk hl218_0
                 clear hi218_0 hl218_0
                 have HR218_1 := Aside0.mk hi218_1
                 have HC218_1 := Aside0.mk hl218_1
                 clear hi218_1 hl218_1
                 replace p218 := eq_true p218
                 replace q218 := eq_true q218
                 have p219 : 0 ≤ (0 : Int) := t28_
                 have q219 : 0 < (l0.length : Int) := of_decide_eq_true t3_
                 obtain ⟨ad219, A219_0, c219_0, A219_1, c219_1, e219, hx219_0, hx219_1, hl219_0, hi219_0, hl219_1, hi219_1⟩ := at_T32 HR0.out 0 p219 q219
                 obtain rfl : ad211 = ad219 := (by injection e219)
                 have qi219 : (0 < l0.length) = True := eq_true t28_
                 (try rw [za_] at hx219_0)
                 (try rw [za_] at hx219_1)
                 replace hx219_0 := hb_ HB hx219_0
                 replace hx219_1 := hb_ HB hx219_1
                 have HR219_0 := Aside0.mk hi219_0
                 have HC219_0 := Aside0.mk hl219_0
                 clear hi219_0 hl219_0
                 have HR219_1 := Aside0.mk hi219_1
                 have HC219_1 := Aside0.mk hl219_1
                 clear hi219_1 hl219_1
                 replace p219 := eq_true p219
                 replace q219 := eq_true q219
                 have ea_ := Option.some.inj (hx218_0.symm.trans hx219_0)
                 injection ea_ with ea_ en_ ec_
                 subst ea_
                 subst ec_
                 clear en_
                 have ea_ := Option.some.inj (hx218_1.symm.trans hx219_1)
                 injection ea_ with ea_ en_ ec_
                 subst ea_
                 subst ec_
                 clear en_
                 have p220 : 0 ≤ (x10_3 : Int) := of_decide_eq_true t3_
                 have q220 : x10_3 < (((rd_T32 l0 0).f1).length : Int) := of_decide_eq_true t3_
                 obtain ⟨ad220, e220, hx220_0, hx220_1, hx220_2, hx220_3, hx220_4, hx220_5⟩ := at_T80 HR219_1.out x10_3 p220 q220
                 cases e220
                 replace hx220_0 := hb_ HB hx220_0
                 replace hx220_1 := hb_ HB hx220_1
                 replace hx220_2 := hb_ HB hx220_2
                 replace hx220_3 := hb_ HB hx220_3
                 replace hx220_4 := hb_ HB hx220_4
                 replace hx220_5 := hb_ HB hx220_5
                 replace p220 := eq_true p220
                 replace q220 := eq_true q220
                 go_wp2_with (first | (go_at_call 57; (with_reducible refine (spec_l00Has.calls k3 _ _ l2 x10_3 true _ ?side1 ?side2 A21.out).mono ?_); (case side1 => repeat (first | exact (Kd.C_below HR2.out HB.out) | (with_reducible refine Kd.C_alloc ?_ _) | (with_reducible refine Kd.C_drewN ?_ _) | (with_reducible refine Kd.C_drew ?_))); (case side2 => exact HC2.out); rintro e w' ⟨rfl, ⟨nd, rfl⟩⟩; (try exact dd_)))
                 repeat (go_quiet (first | (go_at_call 57; (with_reducible refine (spec_l00Has.calls k3 _ _ l2 x10_3 true _ ?side1 ?side2 A21.out).mono ?_); (case side1 => repeat (first | exact (Kd.C_below HR2.out HB.out) | (with_reducible refine Kd.C_alloc ?_ _) | (with_reducible refine Kd.C_drewN ?_ _) | (with_reducible refine Kd.C_drew ?_))); (case side2 => exact HC2.out); rintro e w' ⟨rfl, ⟨nd, rfl⟩⟩; (try exact dd_))); try go_wp2_with (first | (go_at_call 57; (with_reducible refine (spec_l00Has.calls k3 _ _ l2 x10_3 true _ ?side1 ?side2 A21.out).mono ?_); (case side1 => repeat (first | exact (Kd.C_below HR2.out HB.out) | (with_reducible refine Kd.C_alloc ?_ _) | (with_reducible refine Kd.C_drewN ?_ _) | (with_reducible refine Kd.C_drew ?_))); (case side2 => exact HC2.out); rintro e w' ⟨rfl, ⟨nd, rfl⟩⟩; (try exact dd_))))
                 go_roundg k3
                 case measure => have := HK1.out; have := HK2.out; have := HK3.out; omega
                 case rel => exact ⟨(x7_3), (wrap64 (x10_3 + 1)), t6_, H', ⟨(by have := HK1.out; have := HK2.out; have := HK3.out; omega)⟩, ⟨t25_⟩, ⟨t1_⟩⟩
                ·replace c22 := Bool.eq_false_iff.mpr c22
                 subst c22
                 have H1 : (if 0 ≤ ((rd_T80 ((rd_T32 l0 0).f1) x10_3).f1) then (if ((rd_T80 ((rd_T32 l0 0).f1) x10_3).f1) < (x7_3.length : Int) then (if 0 ≤ ((rd_T80 ((rd_T32 l0 0).f1) x10_3).f2) then (if ((rd_T80 ((rd_T32 l0 0).f1) x10_3).f2) < (x7_3.length : Int) then (if ((rdOf false x7_3 ((rd_T80 ((rd_T32 l0 0).f1) x10_3).f1)) == (rdOf false x7_3 ((rd_T80 ((rd_T32 l0 0).f1) x10_3).f2))) = true then (spec_l19Served.l2 k3 l0 l2 x7_3 x9_2 (wrap64 (x10_3 + 1))) else (spec_l19Served.l2 k3 l0 l2 ((x7_3.set (((rd_T80 ((rd_T32 l0 0).f1) x10_3).f1) : Int).toNat true).set (((rd_T80 ((rd_T32 l0 0).f1) x10_3).f2) : Int).toNat true) x9_2 (wrap64 (x10_3 + 1)))) else (none)) else (none)) else (none)) else (none)) = some r := by rw [if_neg (show ¬ (false = true) by decide)] at H; exact H
                 clear H
                 have H := H1
                 clear H1
                 by_cases c23 : 0 ≤ ((rd_T80 ((rd_T32 l0 0).f1) x10_3).f1)
                 ·rw [if_pos c23] at H
                  have c23b0 : decide (0 ≤ ((rd_T80 ((rd_T32 l0 0).f1) x10_3).f1)) = true := decide_eq_true c23
                  clear c23
                  by_cases c24 : ((rd_T80 ((rd_T32 l0 0).f1) x10_3).f1) < (x7_3.length : Int)
                  ·rw [if_pos c24] at H
                   have c24b0 : decide (((rd_T80 ((rd_T32 l0 0).f1) x10_3).f1) < (x7_3.length : Int)) = true := decide_eq_true c24
                   clear c24
                   by_cases c25 : 0 ≤ ((rd_T80 ((rd_T32 l0 0).f1) x10_3).f2)
                   ·rw [if_pos c25] at H
                    have c25b0 : decide (0 ≤ ((rd_T80 ((rd_T32 l0 0).f1) x10_3).f2)) = true := decide_eq_true c25
                    clear c25
                    by_cases c26 : ((rd_T80 ((rd_T32 l0 0).f1) x10_3).f2) < (x7_3.length : Int)
                    ·rw [if_pos c26] at H
                     have c26b0 : decide (((rd_T80 ((rd_T32 l0 0).f1) x10_3).f2) < (x7_3.length : Int)) = true := decide_eq_true c26
                     clear c26
                     by_cases c27 : ((rdOf false x7_3 ((rd_T80 ((rd_T32 l0 0).f1) x10_3).f1)) == (rdOf false x7_3 ((rd_T80 ((rd_T32 l0 0).f1) x10_3).f2))) = true
                     ·rw [if_pos c27] at H
                      have c27b0 : ((rdOf false x7_3 ((rd_T80 ((rd_T32 l0 0).f1) x10_3).f1)) == (rdOf false x7_3 ((rd_T80 ((rd_T32 l0 0).f1) x10_3).f2))) = true := c27
                      (try (have c27b1 : decide ((rdOf false x7_3 ((rd_T80 ((rd_T32 l0 0).f1) x10_3).f1)) = (rdOf false x7_3 ((rd_T80 ((rd_T32 l0 0).f1) x10_3).f2))) = true := by simpa using c27))
                      (try (have c27b2 : ((rdOf false x7_3 ((rd_T80 ((rd_T32 l0 0).f1) x10_3).f1)) == (rdOf false x7_3 ((rd_T80 ((rd_T32 l0 0).f1) x10_3).f2))) = true := by simpa using c27))
                      clear c27
                      have H' := Aside0.mk H
                      clear H
                      have p218 : 0 ≤ (0 : Int) := t28_
                      have q218 : 0 < (l0.length : Int) := of_decide_eq_true t3_
                      obtain ⟨ad218, A218_0, c218_0, A218_1, c218_1, e218, hx218_0, hx218_1, hl218_0, hi218_0, hl218_1, hi218_1⟩ := at_T32 HR0.out 0 p218 q218
                      obtain rfl : ad211 = ad218 := (by injection e218)
                      have qi218 : (0 < l0.length) = True := eq_true t28_
                      (try rw [za_] at hx218_0)
                      (try rw [za_] at hx218_1)
                      replace hx218_0 := hb_ HB hx218_0
                      replace hx218_1 := hb_ HB hx218_1
                      have HR218_0 := Aside0.mk hi218_0
                      have HC218_0 := Aside0.mk hl218_0
                      clear hi218_0 hl218_0
                      have HR218_1 := Aside0.mk hi218_1
                      have HC218_1 := Aside0.mk hl218_1
                      clear hi218_1 hl218_1
                      replace p218 := eq_true p218
                      replace q218 := eq_true q218
                      have p219 : 0 ≤ (0 : Int) := t28_
                      have q219 : 0 < (l0.length : Int) := of_decide_eq_true t3_
                      obtain ⟨ad219, A219_0, c219_0, A219_1, c219_1, e219, hx219_0, hx219_1, hl219_0, hi219_0, hl219_1, hi219_1⟩ := at_T32 HR0.out 0 p219 q219
                      obtain rfl : ad211 = ad219 := (by injection e219)
                      have qi219 : (0 < l0.length) = True := eq_true t28_
                      (try rw [za_] at hx219_0)
                      (try rw [za_] at hx219_1)
                      replace hx219_0 := hb_ HB hx219_0
                      replace hx219_1 := hb_ HB hx219_1
                      have HR219_0 := Aside0.mk hi219_0
                      have HC219_0 := Aside0.mk hl219_0
                      clear hi219_0 hl219_0
                      have HR219_1 := Aside0.mk hi219_1
                      have HC219_1 := Aside0.mk hl219_1
                      clear hi219_1 hl219_1
                      replace p219 := eq_true p219
                      replace q219 := eq_true q219
                      have ea_ := Option.some.inj (hx218_0.symm.trans hx219_0)
                      injection ea_ with ea_ en_ ec_
                      subst ea_
                      subst ec_
                      clear en_
                      have ea_ := Option.some.inj (hx218_1.symm.trans hx219_1)
                      injection ea_ with ea_ en_ ec_
                      subst ea_
                      subst ec_
                      clear en_
                      have p220 : 0 ≤ (x10_3 : Int) := of_decide_eq_true t3_
                      have q220 : x10_3 < (((rd_T32 l0 0).f1).length : Int) := of_decide_eq_true t3_
                      obtain ⟨ad220, e220, hx220_0, hx220_1, hx220_2, hx220_3, hx220_4, hx220_5⟩ := at_T80 HR219_1.out x10_3 p220 q220
                      cases e220
                      replace hx220_0 := hb_ HB hx220_0
                      replace hx220_1 := hb_ HB hx220_1
                      replace hx220_2 := hb_ HB hx220_2
                      replace hx220_3 := hb_ HB hx220_3
                      replace hx220_4 := hb_ HB hx220_4
                      replace hx220_5 := hb_ HB hx220_5
                      replace p220 := eq_true p220
                      replace q220 := eq_true q220
                      go_wp2_with (first | (go_at_call 57; (with_reducible refine (spec_l00Has.calls k3 _ _ l2 x10_3 false _ ?side1 ?side2 A21.out).mono ?_); (case side1 => repeat (first | exact (Kd.C_below HR2.out HB.out) | (with_reducible refine Kd.C_alloc ?_ _) | (with_reducible refine Kd.C_drewN ?_ _) | (with_reducible refine Kd.C_drew ?_))); (case side2 => exact HC2.out); rintro e w' ⟨rfl, ⟨nd, rfl⟩⟩; (try exact dd_); obtain ⟨Ao28, co28, eo28⟩ := Kd.R_slice HO_7.out; subst eo28; have p222 : 0 ≤ (((rd_T80 ((rd_T32 l0 0).f1) x10_3).f1) : Int) := of_decide_eq_true t3_; have q222 : ((rd_T80 ((rd_T32 l0 0).f1) x10_3).f1) < (x7_3.length : Int) := of_decide_eq_true t3_; obtain ⟨ad222, e222, hx222_0⟩ := Kd.at_bool (Kd.R_reads' HO_7.out).2.2 ((rd_T80 ((rd_T32 l0 0).f1) x10_3).f1) p222 q222; cases e222; replace p222 := eq_true p222; replace q222 := eq_true q222; have p223 : 0 ≤ (((rd_T80 ((rd_T32 l0 0).f1) x10_3).f2) : Int) := of_decide_eq_true t3_; have q223 : ((rd_T80 ((rd_T32 l0 0).f1) x10_3).f2) < (x7_3.length : Int) := of_decide_eq_true t3_; obtain ⟨ad223, e223, hx223_0⟩ := Kd.at_bool (Kd.R_reads' HO_7.out).2.2 ((rd_T80 ((rd_T32 l0 0).f1) x10_3).f2) p223 q223; obtain rfl : ad222 = ad223 := (by injection e223); replace p223 := eq_true p223; replace q223 := eq_true q223))
                      repeat (go_quiet (first | (go_at_call 57; (with_reducible refine (spec_l00Has.calls k3 _ _ l2 x10_3 false _ ?side1 ?side2 A21.out).mono ?_); (case side1 => repeat (first | exact (Kd.C_below HR2.out HB.out) | (with_reducible refine Kd.C_alloc ?_ _) | (with_reducible refine Kd.C_drewN ?_ _) | (with_reducible refine Kd.C_drew ?_))); (case side2 => exact HC2.out); rintro e w' ⟨rfl, ⟨nd, rfl⟩⟩; (try exact dd_); obtain ⟨Ao28, co28, eo28⟩ := Kd.R_slice HO_7.out; subst eo28; have p222 : 0 ≤ (((rd_T80 ((rd_T32 l0 0).f1) x10_3).f1) : Int) := of_decide_eq_true t3_; have q222 : ((rd_T80 ((rd_T32 l0 0).f1) x10_3).f1) < (x7_3.length : Int) := of_decide_eq_true t3_; obtain ⟨ad222, e222, hx222_0⟩ := Kd.at_bool (Kd.R_reads' HO_7.out).2.2 ((rd_T80 ((rd_T32 l0 0).f1) x10_3).f1) p222 q222; cases e222; replace p222 := eq_true p222; replace q222 := eq_true q222; have p223 : 0 ≤ (((rd_T80 ((rd_T32 l0 0).f1) x10_3).f2) : Int) := of_decide_eq_true t3_; have q223 : ((rd_T80 ((rd_T32 l0 0).f1) x10_3).f2) < (x7_3.length : Int) := of_decide_eq_true t3_; obtain ⟨ad223, e223, hx223_0⟩ := Kd.at_bool (Kd.R_reads' HO_7.out).2.2 ((rd_T80 ((rd_T32 l0 0).f1) x10_3).f2) p223 q223; obtain rfl : ad222 = ad223 := (by injection e223); replace p223 := eq_true p223; replace q223 := eq_true q223)); try go_wp2_with (first | (go_at_call 57; (with_reducible refine (spec_l00Has.calls k3 _ _ l2 x10_3 false _ ?side1 ?side2 A21.out).mono ?_); (case side1 => repeat (first | exact (Kd.C_below HR2.out HB.out) | (with_reducible refine Kd.C_alloc ?_ _) | (with_reducible refine Kd.C_drewN ?_ _) | (with_reducible refine Kd.C_drew ?_))); (case side2 => exact HC2.out); rintro e w' ⟨rfl, ⟨nd, rfl⟩⟩; (try exact dd_); obtain ⟨Ao28, co28, eo28⟩ := Kd.R_slice HO_7.out; subst eo28; have p222 : 0 ≤ (((rd_T80 ((rd_T32 l0 0).f1) x10_3).f1) : Int) := of_decide_eq_true t3_; have q222 : ((rd_T80 ((rd_T32 l0 0).f1) x10_3).f1) < (x7_3.length : Int) := of_decide_eq_true t3_; obtain ⟨ad222, e222, hx222_0⟩ := Kd.at_bool (Kd.R_reads' HO_7.out).2.2 ((rd_T80 ((rd_T32 l0 0).f1) x10_3).f1) p222 q222; cases e222; replace p222 := eq_true p222; replace q222 := eq_true q222; have p223 : 0 ≤ (((rd_T80 ((rd_T32 l0 0).f1) x10_3).f2) : Int) := of_decide_eq_true t3_; have q223 : ((rd_T80 ((rd_T32 l0 0).f1) x10_3).f2) < (x7_3.length : Int) := of_decide_eq_true t3_; obtain ⟨ad223, e223, hx223_0⟩ := Kd.at_bool (Kd.R_reads' HO_7.out).2.2 ((rd_T80 ((rd_T32 l0 0).f1) x10_3).f2) p223 q223; obtain rfl : ad222 = ad223 := (by injection e223); replace p223 := eq_true p223; replace q223 := eq_true q223)))
                      go_roundg k3
                      case measure => have := HK1.out; have := HK2.out; have := HK3.out; omega
                      case rel => exact ⟨(x7_3), (wrap64 (x10_3 + 1)), t6_, H', ⟨(by have := HK1.out; have := HK2.out; have := HK3.out; omega)⟩, ⟨t25_⟩, ⟨t1_⟩⟩
                     ·rw [if_neg c27] at H
                      have c27b0 : ((rdOf false x7_3 ((rd_T80 ((rd_T32 l0 0).f1) x10_3).f1)) == (rdOf false x7_3 ((rd_T80 ((rd_T32 l0 0).f1) x10_3).f2))) = false := by simpa using c27
                      (try (have c27b1 : decide ((rdOf false x7_3 ((rd_T80 ((rd_T32 l0 0).f1) x10_3).f1)) = (rdOf false x7_3 ((rd_T80 ((rd_T32 l0 0).f1) x10_3).f2))) = false := by simpa using c27))
                      (try (have c27b2 : ((rdOf false x7_3 ((rd_T80 ((rd_T32 l0 0).f1) x10_3).f1)) == (rdOf false x7_3 ((rd_T80 ((rd_T32 l0 0).f1) x10_3).f2))) = false := by simpa using c27))
                      (try (have c27b3 : ¬ ((rdOf false x7_3 ((rd_T80 ((rd_T32 l0 0).f1) x10_3).f1)) = (rdOf false x7_3 ((rd_T80 ((rd_T32 l0 0).f1) x10_3).f2))) := by simpa using c27))
                      clear c27
                      obtain ⟨y224, hy224⟩ : ∃ y_ : List Bool, y_ = (x7_3.set (((rd_T80 ((rd_T32 l0 0).f1) x10_3).f1) : Int).toNat true) := ⟨_, rfl⟩
                      replace H : (spec_l19Served.l2 k3 l0 l2 (y224.set (((rd_T80 ((rd_T32 l0 0).f1) x10_3).f2) : Int).toNat true) x9_2 (wrap64 (x10_3 + 1))) = some r := by first | (rw [hy224]; with_reducible exact H) | (have H2_ := (Option.bind_some _ _).symm.trans H; rw [hy224]; with_reducible exact H2_) | (have H2_ := (Option.bind_some _ _).symm.trans H; with_reducible exact H2_) | with_reducible exact H | (rw [hy224]; exact H) | exact H
                      have Ny224 := Aside0.mk hy224
                      clear hy224
                      obtain ⟨y226, hy226⟩ : ∃ y_ : List Bool, y_ = (y224.set (((rd_T80 ((rd_T32 l0 0).f1) x10_3).f2) : Int).toNat true) := ⟨_, rfl⟩
                      replace H : (spec_l19Served.l2 k3 l0 l2 y226 x9_2 (wrap64 (x10_3 + 1))) = some r := by first | (rw [hy226]; with_reducible exact H) | (have H2_ := (Option.bind_some _ _).symm.trans H; rw [hy226]; with_reducible exact H2_) | (have H2_ := (Option.bind_some _ _).symm.trans H; with_reducible exact H2_) | with_reducible exact H | (rw [hy226]; exact H) | exact H
                      have Ny226 := Aside0.mk hy226
                      clear hy226
                      have H' := Aside0.mk H
                      clear H
                      have p218 : 0 ≤ (0 : Int) := t28_
                      have q218 : 0 < (l0.length : Int) := of_decide_eq_true t3_
                      obtain ⟨ad218, A218_0, c218_0, A218_1, c218_1, e218, hx218_0, hx218_1, hl218_0, hi218_0, hl218_1, hi218_1⟩ := at_T32 HR0.out 0 p218 q218
                      obtain rfl : ad211 = ad218 := (by injection e218)
                      have qi218 : (0 < l0.length) = True := eq_true t28_
                      (try rw [za_] at hx218_0)
                      (try rw [za_] at hx218_1)
                      replace hx218_0 := hb_ HB hx218_0
                      replace hx218_1 := hb_ HB hx218_1
                      have HR218_0 := Aside0.mk hi218_0
                      have HC218_0 := Aside0.mk hl218_0
                      clear hi218_0 hl218_0
                      have HR218_1 := Aside0.mk hi218_1
                      have HC218_1 := Aside0.mk hl218_1
                      clear hi218_1 hl218_1
                      replace p218 := eq_true p218
                      replace q218 := eq_true q218
                      have p219 : 0 ≤ (0 : Int) := t28_
                      have q219 : 0 < (l0.length : Int) := of_decide_eq_true t3_
                      obtain ⟨ad219, A219_0, c219_0, A219_1, c219_1, e219, hx219_0, hx219_1, hl219_0, hi219_0, hl219_1, hi219_1⟩ := at_T32 HR0.out 0 p219 q219
                      obtain rfl : ad211 = ad219 := (by injection e219)
                      have qi219 : (0 < l0.length) = True := eq_true t28_
                      (try rw [za_] at hx219_0)
                      (try rw [za_] at hx219_1)
                      replace hx219_0 := hb_ HB hx219_0
                      replace hx219_1 := hb_ HB hx219_1
                      have HR219_0 := Aside0.mk hi219_0
                      have HC219_0 := Aside0.mk hl219_0
                      clear hi219_0 hl219_0
                      have HR219_1 := Aside0.mk hi219_1
                      have HC219_1 := Aside0.mk hl219_1
                      clear hi219_1 hl219_1
                      replace p219 := eq_true p219
                      replace q219 := eq_true q219
                      have ea_ := Option.some.inj (hx218_0.symm.trans hx219_0)
                      injection ea_ with ea_ en_ ec_
                      subst ea_
                      subst ec_
                      clear en_
                      have ea_ := Option.some.inj (hx218_1.symm.trans hx219_1)
                      injection ea_ with ea_ en_ ec_
                      subst ea_
                      subst ec_
                      clear en_
                      have p220 : 0 ≤ (x10_3 : Int) := of_decide_eq_true t3_
                      have q220 : x10_3 < (((rd_T32 l0 0).f1).length : Int) := of_decide_eq_true t3_
                      obtain ⟨ad220, e220, hx220_0, hx220_1, hx220_2, hx220_3, hx220_4, hx220_5⟩ := at_T80 HR219_1.out x10_3 p220 q220
                      cases e220
                      replace hx220_0 := hb_ HB hx220_0
                      replace hx220_1 := hb_ HB hx220_1
                      replace hx220_2 := hb_ HB hx220_2
                      replace hx220_3 := hb_ HB hx220_3
                      replace hx220_4 := hb_ HB hx220_4
                      replace hx220_5 := hb_ HB hx220_5
                      replace p220 := eq_true p220
                      replace q220 := eq_true q220
                      go_wp2_with (first | (go_at_call 57; (with_reducible refine (spec_l00Has.calls k3 _ _ l2 x10_3 false _ ?side1 ?side2 A21.out).mono ?_); (case side1 => repeat (first | exact (Kd.C_below HR2.out HB.out) | (with_reducible refine Kd.C_alloc ?_ _) | (with_reducible refine Kd.C_drewN ?_ _) | (with_reducible refine Kd.C_drew ?_))); (case side2 => exact HC2.out); rintro e w' ⟨rfl, ⟨nd, rfl⟩⟩; (try exact dd_); obtain ⟨Ao31, co31, eo31⟩ := Kd.R_slice HO_7.out; subst eo31; have p222 : 0 ≤ (((rd_T80 ((rd_T32 l0 0).f1) x10_3).f1) : Int) := of_decide_eq_true t3_; have q222 : ((rd_T80 ((rd_T32 l0 0).f1) x10_3).f1) < (x7_3.length : Int) := of_decide_eq_true t3_; obtain ⟨ad222, e222, hx222_0⟩ := Kd.at_bool (Kd.R_reads' HO_7.out).2.2 ((rd_T80 ((rd_T32 l0 0).f1) x10_3).f1) p222 q222; cases e222; replace p222 := eq_true p222; replace q222 := eq_true q222; have p223 : 0 ≤ (((rd_T80 ((rd_T32 l0 0).f1) x10_3).f2) : Int) := of_decide_eq_true t3_; have q223 : ((rd_T80 ((rd_T32 l0 0).f1) x10_3).f2) < (x7_3.length : Int) := of_decide_eq_true t3_; obtain ⟨ad223, e223, hx223_0⟩ := Kd.at_bool (Kd.R_reads' HO_7.out).2.2 ((rd_T80 ((rd_T32 l0 0).f1) x10_3).f2) p223 q223; obtain rfl : ad222 = ad223 := (by injection e223); replace p223 := eq_true p223; replace q223 := eq_true q223; have p29 : 0 ≤ (((rd_T80 ((rd_T32 l0 0).f1) x10_3).f1) : Int) := of_decide_eq_true t3_; have q29 : (((rd_T80 ((rd_T32 l0 0).f1) x10_3).f1) : Int) < ((x7_3.length : Int) : Int) := of_decide_eq_true t3_; obtain ⟨go29, co29, eo29, gb29, gl29, cl29, HG29⟩ := Kd.R_form HO_7.out t28_; (first | cases eo29 | (injection eo29 with ea_ en_ ec_; (first | subst ea_ | (injection ea_ with ea_; subst ea_)); subst ec_; clear en_)); have GB29 := Aside0.mk gb29; have GG29 := Aside0.mk HG29; clear gb29 gl29 HG29; (first | simp only [add_plain] at hx222_0 | skip); (first | simp only [add_plain] at hx223_0 | skip); obtain ⟨hx29_0, hf29_0⟩ := Kd.R_celln false HO_7.out (((rd_T80 ((rd_T32 l0 0).f1) x10_3).f1) : Int) p29 q29; replace p29 := eq_true p29; replace q29 := eq_true q29; obtain ⟨hy32_, hz32_⟩ := Kd.R_celln false HO_7.out (((rd_T80 ((rd_T32 l0 0).f1) x10_3).f1) : Int) (of_decide_eq_true t3_) (of_decide_eq_true t3_); have HP32 := Kd.R_putg HO_7.out (((rd_T80 ((rd_T32 l0 0).f1) x10_3).f1) : Int) true) | ((with_reducible refine gate_store (t := 4) (p := 79) rfl ?_); (try (rw [drewN_self wr]; generalize hq_ : World.drewN wr _ = wr; have n0_ := Aside0.mk (Kd.R_at hq_ HO_7.out); have n1_ := Aside0.mk (below_at hq_ HB.out); clear hq_ HO_7 HB; have HO_7 := n0_; have HB := n1_; clear n0_ n1_; (try (obtain ⟨hy32_, hz32_⟩ := Kd.R_celln false HO_7.out (((rd_T80 ((rd_T32 l0 0).f1) x10_3).f1) : Int) (of_decide_eq_true t3_) (of_decide_eq_true t3_))); (try (have HP32 := Kd.R_putg HO_7.out (((rd_T80 ((rd_T32 l0 0).f1) x10_3).f1) : Int) true)))); refine store_event (t := 4) (p := 79) (v := ?vo_w33) (w1 := (wr.setCell ⟨go29, (((rd_T80 ((rd_T32 l0 0).f1) x10_3).f1) : Int).toNat, none⟩ (.bool true))) ?hg ?ho ?hn ?hr ?_; (case ho => rfl); (case hg => rfl); (case hn => rfl); (case hr => first | (go_simp; done) | (go_simp; rfl)); intro w33 hw; have hg : wr.grownBy w33 (some go29) := (by rw [hw]; exact HP32.2); have hp_ : Kd.R Kd.bool 4 w33 w.heap.size (fun _ => True) (.slice (some ⟨go29, 0, none⟩) x7_3.length co31) y224 := (by rw [hw, Ny224.out]; exact HP32.1); clear HP32; have n0_ := Aside0.mk (hp_); have n1_ := Aside0.mk ((by rw [hw]; exact below_set (HB.out) GB29.out : Below w.heap.size w w33)); clear HO_7; clear HB; have HO_7 := n0_; have HB := n1_; clear n0_ n1_; clear hg hw hp_; have p225 : 0 ≤ (x10_3 : Int) := of_decide_eq_true t3_; have q225 : x10_3 < (((rd_T32 l0 0).f1).length : Int) := of_decide_eq_true t3_; obtain ⟨ad225, e225, hx225_0, hx225_1, hx225_2, hx225_3, hx225_4, hx225_5⟩ := at_T80 HR219_1.out x10_3 p225 q225; obtain rfl : ad220 = ad225 := (by injection e225); replace hx225_0 := (HB.out.cell (World.block_lt_of_cell? w _ hx225_0)).trans hx225_0; replace hx225_1 := (HB.out.cell (World.block_lt_of_cell? w _ hx225_1)).trans hx225_1; replace hx225_2 := (HB.out.cell (World.block_lt_of_cell? w _ hx225_2)).trans hx225_2; replace hx225_3 := (HB.out.cell (World.block_lt_of_cell? w _ hx225_3)).trans hx225_3; replace hx225_4 := (HB.out.cell (World.block_lt_of_cell? w _ hx225_4)).trans hx225_4; replace hx225_5 := (HB.out.cell (World.block_lt_of_cell? w _ hx225_5)).trans hx225_5; replace p225 := eq_true p225; replace q225 := eq_true q225; have p30 : 0 ≤ (((rd_T80 ((rd_T32 l0 0).f1) x10_3).f2) : Int) := of_decide_eq_true t3_; have q30 : (((rd_T80 ((rd_T32 l0 0).f1) x10_3).f2) : Int) < ((x7_3.length : Int) : Int) := of_decide_eq_true t3_; obtain ⟨hx30_0, hf30_0⟩ := Kd.R_celln false HO_7.out (((rd_T80 ((rd_T32 l0 0).f1) x10_3).f2) : Int) p30 q30; replace p30 := eq_true p30; replace q30 := eq_true q30; obtain ⟨hy34_, hz34_⟩ := Kd.R_celln false HO_7.out (((rd_T80 ((rd_T32 l0 0).f1) x10_3).f2) : Int) (of_decide_eq_true t3_) (of_decide_eq_true t3_); have HP34 := Kd.R_putg HO_7.out (((rd_T80 ((rd_T32 l0 0).f1) x10_3).f2) : Int) true) | ((with_reducible refine gate_store (t := 4) (p := 85) rfl ?_); (try (rw [drewN_self w33]; generalize hq_ : World.drewN w33 _ = w33; have n0_ := Aside0.mk (Kd.R_at hq_ HO_7.out); have n1_ := Aside0.mk (below_at hq_ HB.out); clear hq_ HO_7 HB; have HO_7 := n0_; have HB := n1_; clear n0_ n1_; (try (obtain ⟨hy34_, hz34_⟩ := Kd.R_celln false HO_7.out (((rd_T80 ((rd_T32 l0 0).f1) x10_3).f2) : Int) (of_decide_eq_true t3_) (of_decide_eq_true t3_))); (try (have HP34 := Kd.R_putg HO_7.out (((rd_T80 ((rd_T32 l0 0).f1) x10_3).f2) : Int) true)))); refine store_event (t := 4) (p := 85) (v := ?vo_w35) (w1 := (w33.setCell ⟨go29, (((rd_T80 ((rd_T32 l0 0).f1) x10_3).f2) : Int).toNat, none⟩ (.bool true))) ?hg ?ho ?hn ?hr ?_; (case ho => rfl); (case hg => rfl); (case hn => rfl); (case hr => first | (go_simp; done) | (go_simp; rfl)); intro w35 hw; have hg : w33.grownBy w35 (some go29) := (by rw [hw]; exact HP34.2); have hp_ : Kd.R Kd.bool 4 w35 w.heap.size (fun _ => True) (.slice (some ⟨go29, 0, none⟩) x7_3.length co31) y226 := (by rw [hw, Ny226.out]; exact HP34.1); clear HP34; have n0_ := Aside0.mk (hp_); have n1_ := Aside0.mk ((by rw [hw]; exact below_set (HB.out) GB29.out : Below w.heap.size w w35)); clear HO_7; clear HB; have HO_7 := n0_; have HB := n1_; clear n0_ n1_; clear hg hw hp_))
                      repeat (go_quiet (first | (go_at_call 57; (with_reducible refine (spec_l00Has.calls k3 _ _ l2 x10_3 false _ ?side1 ?side2 A21.out).mono ?_); (case side1 => repeat (first | exact (Kd.C_below HR2.out HB.out) | (with_reducible refine Kd.C_alloc ?_ _) | (with_reducible refine Kd.C_drewN ?_ _) | (with_reducible refine Kd.C_drew ?_))); (case side2 => exact HC2.out); rintro e w' ⟨rfl, ⟨nd, rfl⟩⟩; (try exact dd_); obtain ⟨Ao31, co31, eo31⟩ := Kd.R_slice HO_7.out; subst eo31; have p222 : 0 ≤ (((rd_T80 ((rd_T32 l0 0).f1) x10_3).f1) : Int) := of_decide_eq_true t3_; have q222 : ((rd_T80 ((rd_T32 l0 0).f1) x10_3).f1) < (x7_3.length : Int) := of_decide_eq_true t3_; obtain ⟨ad222, e222, hx222_0⟩ := Kd.at_bool (Kd.R_reads' HO_7.out).2.2 ((rd_T80 ((rd_T32 l0 0).f1) x10_3).f1) p222 q222; cases e222; replace p222 := eq_true p222; replace q222 := eq_true q222; have p223 : 0 ≤ (((rd_T80 ((rd_T32 l0 0).f1) x10_3).f2) : Int) := of_decide_eq_true t3_; have q223 : ((rd_T80 ((rd_T32 l0 0).f1) x10_3).f2) < (x7_3.length : Int) := of_decide_eq_true t3_; obtain ⟨ad223, e223, hx223_0⟩ := Kd.at_bool (Kd.R_reads' HO_7.out).2.2 ((rd_T80 ((rd_T32 l0 0).f1) x10_3).f2) p223 q223; obtain rfl : ad222 = ad223 := (by injection e223); replace p223 := eq_true p223; replace q223 := eq_true q223; have p29 : 0 ≤ (((rd_T80 ((rd_T32 l0 0).f1) x10_3).f1) : Int) := of_decide_eq_true t3_; have q29 : (((rd_T80 ((rd_T32 l0 0).f1) x10_3).f1) : Int) < ((x7_3.length : Int) : Int) := of_decide_eq_true t3_; obtain ⟨go29, co29, eo29, gb29, gl29, cl29, HG29⟩ := Kd.R_form HO_7.out t28_; (first | cases eo29 | (injection eo29 with ea_ en_ ec_; (first | subst ea_ | (injection ea_ with ea_; subst ea_)); subst ec_; clear en_)); have GB29 := Aside0.mk gb29; have GG29 := Aside0.mk HG29; clear gb29 gl29 HG29; (first | simp only [add_plain] at hx222_0 | skip); (first | simp only [add_plain] at hx223_0 | skip); obtain ⟨hx29_0, hf29_0⟩ := Kd.R_celln false HO_7.out (((rd_T80 ((rd_T32 l0 0).f1) x10_3).f1) : Int) p29 q29; replace p29 := eq_true p29; replace q29 := eq_true q29; obtain ⟨hy32_, hz32_⟩ := Kd.R_celln false HO_7.out (((rd_T80 ((rd_T32 l0 0).f1) x10_3).f1) : Int) (of_decide_eq_true t3_) (of_decide_eq_true t3_); have HP32 := Kd.R_putg HO_7.out (((rd_T80 ((rd_T32 l0 0).f1) x10_3).f1) : Int) true) | ((with_reducible refine gate_store (t := 4) (p := 79) rfl ?_); (try (rw [drewN_self wr]; generalize hq_ : World.drewN wr _ = wr; have n0_ := Aside0.mk (Kd.R_at hq_ HO_7.out); have n1_ := Aside0.mk (below_at hq_ HB.out); clear hq_ HO_7 HB; have HO_7 := n0_; have HB := n1_; clear n0_ n1_; (try (obtain ⟨hy32_, hz32_⟩ := Kd.R_celln false HO_7.out (((rd_T80 ((rd_T32 l0 0).f1) x10_3).f1) : Int) (of_decide_eq_true t3_) (of_decide_eq_true t3_))); (try (have HP32 := Kd.R_putg HO_7.out (((rd_T80 ((rd_T32 l0 0).f1) x10_3).f1) : Int) true)))); refine store_event (t := 4) (p := 79) (v := ?vo_w33) (w1 := (wr.setCell ⟨go29, (((rd_T80 ((rd_T32 l0 0).f1) x10_3).f1) : Int).toNat, none⟩ (.bool true))) ?hg ?ho ?hn ?hr ?_; (case ho => rfl); (case hg => rfl); (case hn => rfl); (case hr => first | (go_simp; done) | (go_simp; rfl)); intro w33 hw; have hg : wr.grownBy w33 (some go29) := (by rw [hw]; exact HP32.2); have hp_ : Kd.R Kd.bool 4 w33 w.heap.size (fun _ => True) (.slice (some ⟨go29, 0, none⟩) x7_3.length co31) y224 := (by rw [hw, Ny224.out]; exact HP32.1); clear HP32; have n0_ := Aside0.mk (hp_); have n1_ := Aside0.mk ((by rw [hw]; exact below_set (HB.out) GB29.out : Below w.heap.size w w33)); clear HO_7; clear HB; have HO_7 := n0_; have HB := n1_; clear n0_ n1_; clear hg hw hp_; have p225 : 0 ≤ (x10_3 : Int) := of_decide_eq_true t3_; have q225 : x10_3 < (((rd_T32 l0 0).f1).length : Int) := of_decide_eq_true t3_; obtain ⟨ad225, e225, hx225_0, hx225_1, hx225_2, hx225_3, hx225_4, hx225_5⟩ := at_T80 HR219_1.out x10_3 p225 q225; obtain rfl : ad220 = ad225 := (by injection e225); replace hx225_0 := (HB.out.cell (World.block_lt_of_cell? w _ hx225_0)).trans hx225_0; replace hx225_1 := (HB.out.cell (World.block_lt_of_cell? w _ hx225_1)).trans hx225_1; replace hx225_2 := (HB.out.cell (World.block_lt_of_cell? w _ hx225_2)).trans hx225_2; replace hx225_3 := (HB.out.cell (World.block_lt_of_cell? w _ hx225_3)).trans hx225_3; replace hx225_4 := (HB.out.cell (World.block_lt_of_cell? w _ hx225_4)).trans hx225_4; replace hx225_5 := (HB.out.cell (World.block_lt_of_cell? w _ hx225_5)).trans hx225_5; replace p225 := eq_true p225; replace q225 := eq_true q225; have p30 : 0 ≤ (((rd_T80 ((rd_T32 l0 0).f1) x10_3).f2) : Int) := of_decide_eq_true t3_; have q30 : (((rd_T80 ((rd_T32 l0 0).f1) x10_3).f2) : Int) < ((x7_3.length : Int) : Int) := of_decide_eq_true t3_; obtain ⟨hx30_0, hf30_0⟩ := Kd.R_celln false HO_7.out (((rd_T80 ((rd_T32 l0 0).f1) x10_3).f2) : Int) p30 q30; replace p30 := eq_true p30; replace q30 := eq_true q30; obtain ⟨hy34_, hz34_⟩ := Kd.R_celln false HO_7.out (((rd_T80 ((rd_T32 l0 0).f1) x10_3).f2) : Int) (of_decide_eq_true t3_) (of_decide_eq_true t3_); have HP34 := Kd.R_putg HO_7.out (((rd_T80 ((rd_T32 l0 0).f1) x10_3).f2) : Int) true) | ((with_reducible refine gate_store (t := 4) (p := 85) rfl ?_); (try (rw [drewN_self w33]; generalize hq_ : World.drewN w33 _ = w33; have n0_ := Aside0.mk (Kd.R_at hq_ HO_7.out); have n1_ := Aside0.mk (below_at hq_ HB.out); clear hq_ HO_7 HB; have HO_7 := n0_; have HB := n1_; clear n0_ n1_; (try (obtain ⟨hy34_, hz34_⟩ := Kd.R_celln false HO_7.out (((rd_T80 ((rd_T32 l0 0).f1) x10_3).f2) : Int) (of_decide_eq_true t3_) (of_decide_eq_true t3_))); (try (have HP34 := Kd.R_putg HO_7.out (((rd_T80 ((rd_T32 l0 0).f1) x10_3).f2) : Int) true)))); refine store_event (t := 4) (p := 85) (v := ?vo_w35) (w1 := (w33.setCell ⟨go29, (((rd_T80 ((rd_T32 l0 0).f1) x10_3).f2) : Int).toNat, none⟩ (.bool true))) ?hg ?ho ?hn ?hr ?_; (case ho => rfl); (case hg => rfl); (case hn => rfl); (case hr => first | (go_simp; done) | (go_simp; rfl)); intro w35 hw; have hg : w33.grownBy w35 (some go29) := (by rw [hw]; exact HP34.2); have hp_ : Kd.R Kd.bool 4 w35 w.heap.size (fun _ => True) (.slice (some ⟨go29, 0, none⟩) x7_3.length co31) y226 := (by rw [hw, Ny226.out]; exact HP34.1); clear HP34; have n0_ := Aside0.mk (hp_); have n1_ := Aside0.mk ((by rw [hw]; exact below_set (HB.out) GB29.out : Below w.heap.size w w35)); clear HO_7; clear HB; have HO_7 := n0_; have HB := n1_; clear n0_ n1_; clear hg hw hp_)); try go_wp2_with (first | (go_at_call 57; (with_reducible refine (spec_l00Has.calls k3 _ _ l2 x10_3 false _ ?side1 ?side2 A21.out).mono ?_); (case side1 => repeat (first | exact (Kd.C_below HR2.out HB.out) | (with_reducible refine Kd.C_alloc ?_ _) | (with_reducible refine Kd.C_drewN ?_ _) | (with_reducible refine Kd.C_drew ?_))); (case side2 => exact HC2.out); rintro e w' ⟨rfl, ⟨nd, rfl⟩⟩; (try exact dd_); obtain ⟨Ao31, co31, eo31⟩ := Kd.R_slice HO_7.out; subst eo31; have p222 : 0 ≤ (((rd_T80 ((rd_T32 l0 0).f1) x10_3).f1) : Int) := of_decide_eq_true t3_; have q222 : ((rd_T80 ((rd_T32 l0 0).f1) x10_3).f1) < (x7_3.length : Int) := of_decide_eq_true t3_; obtain ⟨ad222, e222, hx222_0⟩ := Kd.at_bool (Kd.R_reads' HO_7.out).2.2 ((rd_T80 ((rd_T32 l0 0).f1) x10_3).f1) p222 q222; cases e222; replace p222 := eq_true p222; replace q222 := eq_true q222; have p223 : 0 ≤ (((rd_T80 ((rd_T32 l0 0).f1) x10_3).f2) : Int) := of_decide_eq_true t3_; have q223 : ((rd_T80 ((rd_T32 l0 0).f1) x10_3).f2) < (x7_3.length : Int) := of_decide_eq_true t3_; obtain ⟨ad223, e223, hx223_0⟩ := Kd.at_bool (Kd.R_reads' HO_7.out).2.2 ((rd_T80 ((rd_T32 l0 0).f1) x10_3).f2) p223 q223; obtain rfl : ad222 = ad223 := (by injection e223); replace p223 := eq_true p223; replace q223 := eq_true q223; have p29 : 0 ≤ (((rd_T80 ((rd_T32 l0 0).f1) x10_3).f1) : Int) := of_decide_eq_true t3_; have q29 : (((rd_T80 ((rd_T32 l0 0).f1) x10_3).f1) : Int) < ((x7_3.length : Int) : Int) := of_decide_eq_true t3_; obtain ⟨go29, co29, eo29, gb29, gl29, cl29, HG29⟩ := Kd.R_form HO_7.out t28_; (first | cases eo29 | (injection eo29 with ea_ en_ ec_; (first | subst ea_ | (injection ea_ with ea_; subst ea_)); subst ec_; clear en_)); have GB29 := Aside0.mk gb29; have GG29 := Aside0.mk HG29; clear gb29 gl29 HG29; (first | simp only [add_plain] at hx222_0 | skip); (first | simp only [add_plain] at hx223_0 | skip); obtain ⟨hx29_0, hf29_0⟩ := Kd.R_celln false HO_7.out (((rd_T80 ((rd_T32 l0 0).f1) x10_3).f1) : Int) p29 q29; replace p29 := eq_true p29; replace q29 := eq_true q29; obtain ⟨hy32_, hz32_⟩ := Kd.R_celln false HO_7.out (((rd_T80 ((rd_T32 l0 0).f1) x10_3).f1) : Int) (of_decide_eq_true t3_) (of_decide_eq_true t3_); have HP32 := Kd.R_putg HO_7.out (((rd_T80 ((rd_T32 l0 0).f1) x10_3).f1) : Int) true) | ((with_reducible refine gate_store (t := 4) (p := 79) rfl ?_); (try (rw [drewN_self wr]; generalize hq_ : World.drewN wr _ = wr; have n0_ := Aside0.mk (Kd.R_at hq_ HO_7.out); have n1_ := Aside0.mk (below_at hq_ HB.out); clear hq_ HO_7 HB; have HO_7 := n0_; have HB := n1_; clear n0_ n1_; (try (obtain ⟨hy32_, hz32_⟩ := Kd.R_celln false HO_7.out (((rd_T80 ((rd_T32 l0 0).f1) x10_3).f1) : Int) (of_decide_eq_true t3_) (of_decide_eq_true t3_))); (try (have HP32 := Kd.R_putg HO_7.out (((rd_T80 ((rd_T32 l0 0).f1) x10_3).f1) : Int) true)))); refine store_event (t := 4) (p := 79) (v := ?vo_w33) (w1 := (wr.setCell ⟨go29, (((rd_T80 ((rd_T32 l0 0).f1) x10_3).f1) : Int).toNat, none⟩ (.bool true))) ?hg ?ho ?hn ?hr ?_; (case ho => rfl); (case hg => rfl); (case hn => rfl); (case hr => first | (go_simp; done) | (go_simp; rfl)); intro w33 hw; have hg : wr.grownBy w33 (some go29) := (by rw [hw]; exact HP32.2); have hp_ : Kd.R Kd.bool 4 w33 w.heap.size (fun _ => True) (.slice (some ⟨go29, 0, none⟩) x7_3.length co31) y224 := (by rw [hw, Ny224.out]; exact HP32.1); clear HP32; have n0_ := Aside0.mk (hp_); have n1_ := Aside0.mk ((by rw [hw]; exact below_set (HB.out) GB29.out : Below w.heap.size w w33)); clear HO_7; clear HB; have HO_7 := n0_; have HB := n1_; clear n0_ n1_; clear hg hw hp_; have p225 : 0 ≤ (x10_3 : Int) := of_decide_eq_true t3_; have q225 : x10_3 < (((rd_T32 l0 0).f1).length : Int) := of_decide_eq_true t3_; obtain ⟨ad225, e225, hx225_0, hx225_1, hx225_2, hx225_3, hx225_4, hx225_5⟩ := at_T80 HR219_1.out x10_3 p225 q225; obtain rfl : ad220 = ad225 := (by injection e225); replace hx225_0 := (HB.out.cell (World.block_lt_of_cell? w _ hx225_0)).trans hx225_0; replace hx225_1 := (HB.out.cell (World.block_lt_of_cell? w _ hx225_1)).trans hx225_1; replace hx225_2 := (HB.out.cell (World.block_lt_of_cell? w _ hx225_2)).trans hx225_2; replace hx225_3 := (HB.out.cell (World.block_lt_of_cell? w _ hx225_3)).trans hx225_3; replace hx225_4 := (HB.out.cell (World.block_lt_of_cell? w _ hx225_4)).trans hx225_4; replace hx225_5 := (HB.out.cell (World.block_lt_of_cell? w _ hx225_5)).trans hx225_5; replace p225 := eq_true p225; replace q225 := eq_true q225; have p30 : 0 ≤ (((rd_T80 ((rd_T32 l0 0).f1) x10_3).f2) : Int) := of_decide_eq_true t3_; have q30 : (((rd_T80 ((rd_T32 l0 0).f1) x10_3).f2) : Int) < ((x7_3.length : Int) : Int) := of_decide_eq_true t3_; obtain ⟨hx30_0, hf30_0⟩ := Kd.R_celln false HO_7.out (((rd_T80 ((rd_T32 l0 0).f1) x10_3).f2) : Int) p30 q30; replace p30 := eq_true p30; replace q30 := eq_true q30; obtain ⟨hy34_, hz34_⟩ := Kd.R_celln false HO_7.out (((rd_T80 ((rd_T32 l0 0).f1) x10_3).f2) : Int) (of_decide_eq_true t3_) (of_decide_eq_true t3_); have HP34 := Kd.R_putg HO_7.out (((rd_T80 ((rd_T32 l0 0).f1) x10_3).f2) : Int) true) | ((with_reducible refine gate_store (t := 4) (p := 85) rfl ?_); (try (rw [drewN_self w33]; generalize hq_ : World.drewN w33 _ = w33; have n0_ := Aside0.mk (Kd.R_at hq_ HO_7.out); have n1_ := Aside0.mk (below_at hq_ HB.out); clear hq_ HO_7 HB; have HO_7 := n0_; have HB := n1_; clear n0_ n1_; (try (obtain ⟨hy34_, hz34_⟩ := Kd.R_celln false HO_7.out (((rd_T80 ((rd_T32 l0 0).f1) x10_3).f2) : Int) (of_decide_eq_true t3_) (of_decide_eq_true t3_))); (try (have HP34 := Kd.R_putg HO_7.out (((rd_T80 ((rd_T32 l0 0).f1) x10_3).f2) : Int) true)))); refine store_event (t := 4) (p := 85) (v := ?vo_w35) (w1 := (w33.setCell ⟨go29, (((rd_T80 ((rd_T32 l0 0).f1) x10_3).f2) : Int).toNat, none⟩ (.bool true))) ?hg ?ho ?hn ?hr ?_; (case ho => rfl); (case hg => rfl); (case hn => rfl); (case hr => first | (go_simp; done) | (go_simp; rfl)); intro w35 hw; have hg : w33.grownBy w35 (some go29) := (by rw [hw]; exact HP34.2); have hp_ : Kd.R Kd.bool 4 w35 w.heap.size (fun _ => True) (.slice (some ⟨go29, 0, none⟩) x7_3.length co31) y226 := (by rw [hw, Ny226.out]; exact HP34.1); clear HP34; have n0_ := Aside0.mk (hp_); have n1_ := Aside0.mk ((by rw [hw]; exact below_set (HB.out) GB29.out : Below w.heap.size w w35)); clear HO_7; clear HB; have HO_7 := n0_; have HB := n1_; clear n0_ n1_; clear hg hw hp_)))
                      go_roundg k3
                      case measure => have := HK1.out; have := HK2.out; have := HK3.out; omega
                      case rel => exact ⟨(y226), (wrap64 (x10_3 + 1)), t6_, H', ⟨(by have := HK1.out; have := HK2.out; have := HK3.out; omega)⟩, ⟨t25_⟩, ⟨t1_⟩⟩
                    ·rw [if_neg c26] at H
                     exact absurd H t44_
                   ·rw [if_neg c25] at H
                    exact absurd H t44_
                  ·rw [if_neg c24] at H
                   exact absurd H t44_
                 ·rw [if_neg c23] at H
                  exact absurd H t44_
               ·rw [if_neg c20] at H
                exact absurd H t44_
              ·rw [if_neg c19] at H
               have c19b0 : decide (x10_3 < (((rd_T32 l0 0).f1).length : Int)) = false := decide_eq_false c19
               clear c19
               have H' := Aside0.mk H
               clear H
               have p218 : 0 ≤ (0 : Int) := t28_
               have q218 : 0 < (l0.length : Int) := of_decide_eq_true t3_
               obtain ⟨ad218, A218_0, c218_0, A218_1, c218_1, e218, hx218_0, hx218_1, hl218_0, hi218_0, hl218_1, hi218_1⟩ := at_T32 HR0.out 0 p218 q218
               obtain rfl : ad211 = ad218 := (by injection e218)
               have qi218 : (0 < l0.length) = True := eq_true t28_
               (try rw [za_] at hx218_0)
               (try rw [za_] at hx218_1)
               replace hx218_0 := hb_ HB hx218_0
               replace hx218_1 := hb_ HB hx218_1
               have HR218_0 := Aside0.mk hi218_0
               have HC218_0 := Aside0.mk hl218_0
               clear hi218_0 hl218_0
               have HR218_1 := Aside0.mk hi218_1
               have HC218_1 := Aside0.mk hl218_1
               clear hi218_1 hl218_1
               replace p218 := eq_true p218
               replace q218 := eq_true q218
               go_wp2
               repeat (go_quiet (fail); try go_wp2)
               go_roundg k3
               case measure => have := HK1.out; have := HK2.out; have := HK3.out; omega
               case rel => exact ⟨(x7_3), (wrap64 (x9_2 + 1)), t6_, H', ⟨(by have := HK1.out; have := HK2.out; have := HK3.out; omega)⟩, ⟨t25_⟩, ⟨t1_⟩⟩
             ·rw [if_neg c18] at H
              exact absurd H t44_
          ·rw [if_neg c17] at H
           have c17b0 : decide (x9_2 < (((rd_T32 l0 0).f0).length : Int)) = false := decide_eq_false c17
           clear c17
           obtain rfl := Option.some.inj H
           have p217 : 0 ≤ (0 : Int) := t28_
           have q217 : 0 < (l0.length : Int) := of_decide_eq_true t3_
           obtain ⟨ad217, A217_0, c217_0, A217_1, c217_1, e217, hx217_0, hx217_1, hl217_0, hi217_0, hl217_1, hi217_1⟩ := at_T32 HR0.out 0 p217 q217
           obtain rfl : ad211 = ad217 := (by injection e217)
           have qi217 : (0 < l0.length) = True := eq_true t28_
           (try rw [za_] at hx217_0)
           (try rw [za_] at hx217_1)
           replace hx217_0 := hb_ HB hx217_0
           replace hx217_1 := hb_ HB hx217_1
           have HR217_0 := Aside0.mk hi217_0
           have HC217_0 := Aside0.mk hl217_0
           clear hi217_0 hl217_0
           have HR217_1 := Aside0.mk hi217_1
           have HC217_1 := Aside0.mk hl217_1
           clear hi217_1 hl217_1
           replace p217 := eq_true p217
           replace q217 := eq_true q217
           go_wp2
           repeat (go_quiet (fail); try go_wp2)
           go_ret
           exact ⟨_, t26_, t25_, t1_⟩
         ·rw [if_neg c16] at H
          exact absurd H t44_
   ·rw [if_neg c6] at H
    exact absurd H t44_
  ·rw [if_neg c5] at H
   exact absurd H t44_
 ·rw [if_neg c4] at H
  exact absurd H t44_

/-! ### spec_l19Count: function 73 -/
def spec_l19Count.l0 : Nat → List Bool → Int → Int → Option (Int)
 | 0, _, _, _ => none
 | k + 1, x7, x8, x9 => if x9 < (x7.length : Int) then (if 0 ≤ x9 then (if rdOf false x7 x9 = true then (spec_l19Count.l0 k x7 (wrap64 (x8 + 1)) (wrap64 (x9 + 1))) else (spec_l19Count.l0 k x7 x8 (wrap64 (x9 + 1)))) else (none)) else (some x8)
def spec_l19Count.f (k : Nat) (l0 : List (S32)) (l1 : List Int) (l2 : List Int) : Option (Int) := (spec_l19Served.f k l0 l1 l2).bind fun t227 => (spec_l19Count.l0 k t227 0 0)
theorem spec_l19Count.mono_l : ∀ k, (∀ y0 y1 y2, LeO (spec_l19Count.l0 k y0 y1 y2) (spec_l19Count.l0 (k + 1) y0 y1 y2))
 | 0 => fun _ _ _ r h => by simp [spec_l19Count.l0] at h
 | k + 1 => by
  have ih0 := spec_l19Count.mono_l k
  ·intro y0 y1 y2
   unfold spec_l19Count.l0
   repeat' first
   | (with_reducible exact ih0 _ _ _)
   | (with_reducible exact spec_l19Served.mono _ _ _ _)
   | (with_reducible exact LeO.refl _)
   | (with_reducible exact LeO.none _)
   | (with_reducible refine LeO.ite ?_ ?_)
   | (with_reducible refine LeO.bind ?_ (fun _ => ?_))
   | exact ih0 _ _ _
   | exact spec_l19Served.mono _ _ _ _
   | exact LeO.none _
   | refine LeO.ite ?_ ?_
   | refine LeO.bind ?_ (fun _ => ?_)
theorem spec_l19Count.mono : ∀ a0 a1 a2 k, LeO (spec_l19Count.f k a0 a1 a2) (spec_l19Count.f (k + 1) a0 a1 a2) := by
 intro a0 a1 a2 k
 have ih0 := spec_l19Count.mono_l k
 unfold spec_l19Count.f
 repeat' first
   | (with_reducible exact ih0 _ _ _)
   | (with_reducible exact spec_l19Served.mono _ _ _ _)
   | (with_reducible exact LeO.refl _)
   | (with_reducible exact LeO.none _)
   | (with_reducible refine LeO.ite ?_ ?_)
   | (with_reducible refine LeO.bind ?_ (fun _ => ?_))
   | exact ih0 _ _ _
   | exact spec_l19Served.mono _ _ _ _
   | exact LeO.none _
   | refine LeO.ite ?_ ?_
   | refine LeO.bind ?_ (fun _ => ?_)
set_option maxHeartbeats 8000000 in
set_option maxRecDepth 100000 in
theorem spec_l19Count.calls (k : Nat) (A0 : Option Addr) (c0 : Nat) (l0 : List (S32)) (A1 : Option Addr) (c1 : Nat) (l1 : List Int) (A2 : Option Addr) (c2 : Nat) (l2 : List Int) (r : Int) (w : World) (hr0 : Kd.C k32 w A0 l0.length l0) (hc0 : l0.length ≤ c0) (hr1 : Kd.C (Kd.int .i64) w A1 l1.length l1) (hc1 : l1.length ≤ c1) (hr2 : Kd.C (Kd.int .i64) w A2 l2.length l2) (hc2 : l2.length ≤ c2) (h : spec_l19Count.f k l0 l1 l2 = some r) :
  Calls Try.prog 73 #[.pointer A0, .slice A1 l1.length c1, .slice A2 l2.length c2] w fun e w' => e = .returned (.int .i64 r) ∧ Below w.heap.size w w' := by
 have HR0 := Aside0.mk hr0
 have HC0 := Aside0.mk hc0
 clear hr0 hc0
 have HR1 := Aside0.mk hr1
 have HC1 := Aside0.mk hc1
 clear hr1 hc1
 have HR2 := Aside0.mk hr2
 have HC2 := Aside0.mk hc2
 clear hr2 hc2
 have HB := Aside0.mk (Below.refl w.heap.size w)
 have H : ((spec_l19Served.f k l0 l1 l2).bind fun t227 => (spec_l19Count.l0 k t227 0 0)) = some r := h
 clear h
 replace H := Option.bind_eq_some_iff.mp H
 obtain ⟨t227, A40, H⟩ := H
 replace H : (spec_l19Count.l0 k t227 0 0) = some r := H
 have A4 := Aside0.mk A40
 clear A40
 have H' := Aside0.mk H
 clear H
 go_enter Try.func73, Try.ntmps73
 go_wp2_with (first | ((with_reducible refine gate_callee (f := 65) rfl ?_); refine goesL_ (some 13) rfl rfl Try.func65 t14_ rfl #[.pointer A0, .slice A1 l1.length c1, .slice A2 l2.length c2] rfl t2_ ?_; (with_reducible refine (spec_l19Served.calls k _ c0 l0 _ _ l1 _ _ l2 t227 _ ?side1 ?side2 ?side3 ?side4 ?side5 ?side6 A4.out).mono ?_); (case side1 => repeat (first | exact HR0.out | (with_reducible refine Kd.C_alloc ?_ _) | (with_reducible refine Kd.C_drewN ?_ _) | (with_reducible refine Kd.C_drew ?_))); (case side2 => exact HC0.out); (case side3 => repeat (first | exact HR1.out | (with_reducible refine Kd.C_alloc ?_ _) | (with_reducible refine Kd.C_drewN ?_ _) | (with_reducible refine Kd.C_drew ?_))); (case side4 => exact HC1.out); (case side5 => repeat (first | exact HR2.out | (with_reducible refine Kd.C_alloc ?_ _) | (with_reducible refine Kd.C_drewN ?_ _) | (with_reducible refine Kd.C_drew ?_))); (case side6 => exact HC2.out); rintro e w5 ⟨v228, rfl, ho0, hb⟩; refine ⟨_, rfl, ?_⟩; have n0_ := Aside0.mk (Kd.R_lower ho0 (below_size t1_)); have n1_ := Aside0.mk (below_step t1_ hb); clear HB; have HO229 := n0_; have HB := n1_; clear n0_ n1_; (try clear hb); (try clear hb2); (try clear hk); (try clear hi); (try clear ho0)))
 go_loopg [8, 9] k (fun kq v8 v9 w' => ∃ (x8_1 : Int) (x9_1 : Int), v8 = .int .i64 x8_1 ∧ v9 = .int .i64 x9_1 ∧ Aside0 (spec_l19Count.l0 kq t227 x8_1 x9_1 = some r) ∧ Aside0 (kq ≤ k) ∧ Aside0 (Kd.R Kd.bool 4 w' w.heap.size (fun _ => True) v228 t227) ∧ Aside0 (Below w.heap.size w w'))
 case atStart => exact ⟨(0), (0), t6_, t6_, H', ⟨Nat.le_refl _⟩, ⟨(by (with_reducible repeat (first | apply Kd.R_alloc | apply Kd.R_drewN | apply Kd.R_drew)); exact HO229.out)⟩, ⟨t1_⟩⟩
 case round =>
  clear H'
  try clear c1
  try clear c2
  try clear p2
  obtain ⟨x8_1, x9_1, rfl, rfl, HA, HK1, HO_7, HB⟩ := hrel
  cases gk with
  | zero => exact absurd HA.out (by simp [spec_l19Count.l0])
  | succ k1 =>
   have H := HA.out
   clear HA
   simp only [spec_l19Count.l0] at H
   by_cases c6 : x9_1 < (t227.length : Int)
   ·rw [if_pos c6] at H
    have c6b0 : decide (x9_1 < (t227.length : Int)) = true := decide_eq_true c6
    clear c6
    by_cases c7 : 0 ≤ x9_1
    ·rw [if_pos c7] at H
     have c7b0 : decide (0 ≤ x9_1) = true := decide_eq_true c7
     clear c7
     obtain ⟨bq8, hbq8⟩ : ∃ b_ : Bool, b_ = (rdOf false t227 x9_1) := ⟨_, rfl⟩
     replace H : (if bq8 = true then (spec_l19Count.l0 k1 t227 (wrap64 (x8_1 + 1)) (wrap64 (x9_1 + 1))) else (spec_l19Count.l0 k1 t227 x8_1 (wrap64 (x9_1 + 1)))) = some r := by rw [← hbq8] at H; exact H
     have Nbq8 := Aside0.mk hbq8
     clear hbq8
     by_cases c9 : bq8 = true
     ·subst c9
      have H1 : (spec_l19Count.l0 k1 t227 (wrap64 (x8_1 + 1)) (wrap64 (x9_1 + 1))) = some r := by rw [if_pos rfl] at H; exact H
      clear H
      have H := H1
      clear H1
      have H' := Aside0.mk H
      clear H
      obtain ⟨Ao10, co10, eo10⟩ := Kd.R_slice HO_7.out
      subst eo10
      have p230 : 0 ≤ (x9_1 : Int) := of_decide_eq_true t3_
      have q230 : x9_1 < (t227.length : Int) := of_decide_eq_true t3_
      obtain ⟨ad230, e230, hx230_0⟩ := Kd.at_bool (Kd.R_reads' HO_7.out).2.2 x9_1 p230 q230
      (try rw [← Nbq8.out] at hx230_0)
      cases e230
      replace p230 := eq_true p230
      replace q230 := eq_true q230
      go_wp2
      go_roundg k1
      case measure => have := HK1.out; omega
      case rel => exact ⟨(wrap64 (x8_1 + 1)), (wrap64 (x9_1 + 1)), t6_, t6_, H', ⟨t41_⟩, ⟨t25_⟩, ⟨t1_⟩⟩
     ·replace c9 := Bool.eq_false_iff.mpr c9
      subst c9
      have H1 : (spec_l19Count.l0 k1 t227 x8_1 (wrap64 (x9_1 + 1))) = some r := by rw [if_neg (show ¬ (false = true) by decide)] at H; exact H
      clear H
      have H := H1
      clear H1
      have H' := Aside0.mk H
      clear H
      obtain ⟨Ao11, co11, eo11⟩ := Kd.R_slice HO_7.out
      subst eo11
      have p230 : 0 ≤ (x9_1 : Int) := of_decide_eq_true t3_
      have q230 : x9_1 < (t227.length : Int) := of_decide_eq_true t3_
      obtain ⟨ad230, e230, hx230_0⟩ := Kd.at_bool (Kd.R_reads' HO_7.out).2.2 x9_1 p230 q230
      (try rw [← Nbq8.out] at hx230_0)
      cases e230
      replace p230 := eq_true p230
      replace q230 := eq_true q230
      go_wp2
      go_roundg k1
      case measure => have := HK1.out; omega
      case rel => exact ⟨(x8_1), (wrap64 (x9_1 + 1)), t6_, t6_, H', ⟨t41_⟩, ⟨t25_⟩, ⟨t1_⟩⟩
    ·rw [if_neg c7] at H
     exact absurd H t44_
   ·rw [if_neg c6] at H
    have c6b0 : decide (x9_1 < (t227.length : Int)) = false := decide_eq_false c6
    clear c6
    obtain rfl := Option.some.inj H
    obtain ⟨Ao12, co12, eo12⟩ := Kd.R_slice HO_7.out
    subst eo12
    go_wp2
    go_ret
    exact ⟨t5_, t1_⟩

end Go.Proofs.Ytjelfhmgbhidnaa.PFnExactCriticalPipes
