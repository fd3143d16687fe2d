-- written by wip/xprint.py, a program of this session, for this claim; not trusted: Lean checks it.
import Derived.Test.YtpdgicpgjmibgaaPFnExactLastLevelsx0
import Derived.Test.YtpdgicpgjmibgaaPFnExactLastLevelsx1
import Derived.Test.YtpdgicpgjmibgaaPFnExactLastLevelsx2
namespace Go.Proofs.Ytpdgicpgjmibgaa.PFnExactLastLevels
open Go.RowKit Go.Proofs.YtpdgicpgjmibgaaW.PrintWords Go.Proofs.YtpdgicpgjmibgaaW.PrintLast Go.Proofs.YtpdgicpgjmibgaaW.PrintMore
attribute [local go_sem] max2_int min2_int max_two min_two max_three min_three max_four min_four   -- for this text's walks alone
set_option linter.unusedVariables false
set_option linter.unusedSimpArgs false

/-! ### spec_l14Last: function 47 -/
mutual
def spec_l14Last.l0 : Nat → List (S26) → List Int → Int → List Bool → Int → Option (List Bool)
  | 0, _, _, _, _, _ => none
  | k + 1, x0, x2, x3, x9, x10 => if x10 < (x2.length : Int) then (if 0 < (x0.length : Int) then (if 0 ≤ (wrap64 (((rd_T26 x0 0).f0) + 1)) then (if (wrap64 (((rd_T26 x0 0).f0) + 1) : Int).toNat ≤ 281474976710656 then (spec_l14Last.l1 k x0 x2 x3 x9 x10 (List.replicate (wrap64 (((rd_T26 x0 0).f0) + 1) : Int).toNat false) 0) else (none)) else (none)) else (none)) else (some x9)
def spec_l14Last.l1 : Nat → List (S26) → List Int → Int → List Bool → Int → List Bool → Int → Option (List Bool)
  | 0, _, _, _, _, _, _, _ => none
  | k + 1, x0, x2, x3, x9, x10, x11, x12 => if 0 < (x0.length : Int) then (if x12 ≤ ((rd_T26 x0 0).f0) then (spec_l14Last.l2 k x0 x2 x3 x9 x10 x11 x12 (wrap64 (-((rd_T26 x0 0).f1)))) else (spec_l14Last.l0 k x0 x2 x3 x11 (wrap64 (x10 + 1)))) else (none)
def spec_l14Last.l2 : Nat → List (S26) → List Int → Int → List Bool → Int → List Bool → Int → Int → Option (List Bool)
  | 0, _, _, _, _, _, _, _, _ => none
  | k + 1, x0, x2, x3, x9, x10, x11, x12, x13 => if 0 < (x0.length : Int) then (if x13 ≤ ((rd_T26 x0 0).f1) then (if 0 ≤ x12 then (if x12 < (x9.length : Int) then (spec_l14Last.j3 k x0 x2 x3 x9 x10 x11 x12 x13 (rdOf false x9 x12)) else (none)) else (none)) else (spec_l14Last.j3 k x0 x2 x3 x9 x10 x11 x12 x13 false)) else (none)
def spec_l14Last.j3 : Nat → List (S26) → List Int → Int → List Bool → Int → List Bool → Int → Int → Bool → Option (List Bool)
  | 0, _, _, _, _, _, _, _, _, _ => none
  | k + 1, x0, x2, x3, x9, x10, x11, x12, x13, x61 => if x61 = true then ((spec_l14After.f x0 x12 x13).bind fun bt147 => (if bt147.2 = true then (if 0 ≤ x10 then (if x10 < (x2.length : Int) then ((spec_l00In.f (wrap64 ((rd x2 x10) + x13)) 0 x3).bind fun t150 => (if t150 = true then (if 0 ≤ bt147.1 then (if bt147.1 < (x11.length : Int) then (spec_l14Last.l2 k x0 x2 x3 x9 x10 (x11.set (bt147.1 : Int).toNat true) x12 (wrap64 (x13 + 1))) else (none)) else (none)) else (spec_l14Last.l2 k x0 x2 x3 x9 x10 x11 x12 (wrap64 (x13 + 1))))) else (none)) else (none)) else (spec_l14Last.l2 k x0 x2 x3 x9 x10 x11 x12 (wrap64 (x13 + 1))))) else (spec_l14Last.l1 k x0 x2 x3 x9 x10 x11 (wrap64 (x12 + 1)))
end
def spec_l14Last.f (k : Nat) (l0 : List (S26)) (a1 : Int) (l2 : List Int) (a3 : Int) : Option (List Bool) := if 0 < (l0.length : Int) then (if 0 ≤ (wrap64 (((rd_T26 l0 0).f0) + 1)) then (if (wrap64 (((rd_T26 l0 0).f0) + 1) : Int).toNat ≤ 281474976710656 then ((some (List.replicate (wrap64 (((rd_T26 l0 0).f0) + 1) : Int).toNat false : List Bool)).bind fun y135 => (if 0 ≤ a1 then (if a1 < (y135.length : Int) then (spec_l14Last.l0 k l0 l2 a3 (y135.set (a1 : Int).toNat true) 0) else (none)) else (none))) else (none)) else (none)) else (none)
theorem spec_l14Last.mono_l : ∀ k, (∀ y0 y1 y2 y3 y4, LeO (spec_l14Last.l0 k y0 y1 y2 y3 y4) (spec_l14Last.l0 (k + 1) y0 y1 y2 y3 y4)) ∧ (∀ y0 y1 y2 y3 y4 y5 y6, LeO (spec_l14Last.l1 k y0 y1 y2 y3 y4 y5 y6) (spec_l14Last.l1 (k + 1) y0 y1 y2 y3 y4 y5 y6)) ∧ (∀ y0 y1 y2 y3 y4 y5 y6 y7, LeO (spec_l14Last.l2 k y0 y1 y2 y3 y4 y5 y6 y7) (spec_l14Last.l2 (k + 1) y0 y1 y2 y3 y4 y5 y6 y7)) ∧ (∀ y0 y1 y2 y3 y4 y5 y6 y7 y8, LeO (spec_l14Last.j3 k y0 y1 y2 y3 y4 y5 y6 y7 y8) (spec_l14Last.j3 (k + 1) y0 y1 y2 y3 y4 y5 y6 y7 y8))
  | 0 => ⟨fun _ _ _ _ _ r h => by simp [spec_l14Last.l0] at h, fun _ _ _ _ _ _ _ r h => by simp [spec_l14Last.l1] at h, fun _ _ _ _ _ _ _ _ r h => by simp [spec_l14Last.l2] at h, fun _ _ _ _ _ _ _ _ _ r h => by simp [spec_l14Last.j3] at h⟩
  | k + 1 => by
    obtain ⟨ih0, ih1, ih2, ih3⟩ := spec_l14Last.mono_l k
    refine ⟨?_, ?_, ?_, ?_⟩
    · intro y0 y1 y2 y3 y4
      unfold spec_l14Last.l0
      repeat' first
      | (with_reducible exact ih0 _ _ _ _ _)
      | (with_reducible exact ih1 _ _ _ _ _ _ _)
      | (with_reducible exact ih2 _ _ _ _ _ _ _ _)
      | (with_reducible exact ih3 _ _ _ _ _ _ _ _ _)
      | (with_reducible exact LeO.refl _)
      | (with_reducible exact LeO.none _)
      | (with_reducible refine LeO.ite ?_ ?_)
      | (with_reducible refine LeO.bind ?_ (fun _ => ?_))
      | exact ih0 _ _ _ _ _
      | exact ih1 _ _ _ _ _ _ _
      | exact ih2 _ _ _ _ _ _ _ _
      | exact ih3 _ _ _ _ _ _ _ _ _
      | exact LeO.none _
      | refine LeO.ite ?_ ?_
      | refine LeO.bind ?_ (fun _ => ?_)
    · intro y0 y1 y2 y3 y4 y5 y6
      unfold spec_l14Last.l1
      repeat' first
      | (with_reducible exact ih0 _ _ _ _ _)
      | (with_reducible exact ih1 _ _ _ _ _ _ _)
      | (with_reducible exact ih2 _ _ _ _ _ _ _ _)
      | (with_reducible exact ih3 _ _ _ _ _ _ _ _ _)
      | (with_reducible exact LeO.refl _)
      | (with_reducible exact LeO.none _)
      | (with_reducible refine LeO.ite ?_ ?_)
      | (with_reducible refine LeO.bind ?_ (fun _ => ?_))
      | exact ih0 _ _ _ _ _
      | exact ih1 _ _ _ _ _ _ _
      | exact ih2 _ _ _ _ _ _ _ _
      | exact ih3 _ _ _ _ _ _ _ _ _
      | exact LeO.none _
      | refine LeO.ite ?_ ?_
      | refine LeO.bind ?_ (fun _ => ?_)
    · intro y0 y1 y2 y3 y4 y5 y6 y7
      unfold spec_l14Last.l2
      repeat' first
      | (with_reducible exact ih0 _ _ _ _ _)
      | (with_reducible exact ih1 _ _ _ _ _ _ _)
      | (with_reducible exact ih2 _ _ _ _ _ _ _ _)
      | (with_reducible exact ih3 _ _ _ _ _ _ _ _ _)
      | (with_reducible exact LeO.refl _)
      | (with_reducible exact LeO.none _)
      | (with_reducible refine LeO.ite ?_ ?_)
      | (with_reducible refine LeO.bind ?_ (fun _ => ?_))
      | exact ih0 _ _ _ _ _
      | exact ih1 _ _ _ _ _ _ _
      | exact ih2 _ _ _ _ _ _ _ _
      | exact ih3 _ _ _ _ _ _ _ _ _
      | exact LeO.none _
      | refine LeO.ite ?_ ?_
      | refine LeO.bind ?_ (fun _ => ?_)
    · intro y0 y1 y2 y3 y4 y5 y6 y7 y8
      unfold spec_l14Last.j3
      repeat' first
      | (with_reducible exact ih0 _ _ _ _ _)
      | (with_reducible exact ih1 _ _ _ _ _ _ _)
      | (with_reducible exact ih2 _ _ _ _ _ _ _ _)
      | (with_reducible exact ih3 _ _ _ _ _ _ _ _ _)
      | (with_reducible exact LeO.refl _)
      | (with_reducible exact LeO.none _)
      | (with_reducible refine LeO.ite ?_ ?_)
      | (with_reducible refine LeO.bind ?_ (fun _ => ?_))
      | exact ih0 _ _ _ _ _
      | exact ih1 _ _ _ _ _ _ _
      | exact ih2 _ _ _ _ _ _ _ _
      | exact ih3 _ _ _ _ _ _ _ _ _
      | exact LeO.none _
      | refine LeO.ite ?_ ?_
      | refine LeO.bind ?_ (fun _ => ?_)
theorem spec_l14Last.mono : ∀ a0 a1 a2 a3 k, LeO (spec_l14Last.f k a0 a1 a2 a3) (spec_l14Last.f (k + 1) a0 a1 a2 a3) := by
  intro a0 a1 a2 a3 k
  obtain ⟨ih0, ih1, ih2, ih3⟩ := spec_l14Last.mono_l k
  unfold spec_l14Last.f
  repeat' first
      | (with_reducible exact ih0 _ _ _ _ _)
      | (with_reducible exact ih1 _ _ _ _ _ _ _)
      | (with_reducible exact ih2 _ _ _ _ _ _ _ _)
      | (with_reducible exact ih3 _ _ _ _ _ _ _ _ _)
      | (with_reducible exact LeO.refl _)
      | (with_reducible exact LeO.none _)
      | (with_reducible refine LeO.ite ?_ ?_)
      | (with_reducible refine LeO.bind ?_ (fun _ => ?_))
      | exact ih0 _ _ _ _ _
      | exact ih1 _ _ _ _ _ _ _
      | exact ih2 _ _ _ _ _ _ _ _
      | exact ih3 _ _ _ _ _ _ _ _ _
      | exact LeO.none _
      | refine LeO.ite ?_ ?_
      | refine LeO.bind ?_ (fun _ => ?_)
set_option maxHeartbeats 8000000 in
set_option maxRecDepth 100000 in
theorem spec_l14Last.calls (k : Nat) (A0 : Option Addr) (c0 : Nat) (l0 : List (S26)) (a1 : Int) (A2 : Option Addr) (c2 : Nat) (l2 : List Int) (a3 : Int) (r : List Bool) (w : World) (hr0 : Kd.C k26 w A0 l0.length l0) (hc0 : l0.length ≤ c0) (hr2 : Kd.C (Kd.int .i64) w A2 l2.length l2) (hc2 : l2.length ≤ c2) (h : spec_l14Last.f k l0 a1 l2 a3 = some r) :
    Calls Try.prog 47 #[.pointer A0, .int .i64 a1, .slice A2 l2.length c2, .int .i64 a3] w fun e w' => ∃ v0_ : Value, e = .returned (v0_) ∧ Kd.R Kd.bool 4 w' w.heap.size (fun _ => True) v0_ r ∧ Below w.heap.size w w' := by
  have HR0 := Aside0.mk hr0
  have HC0 := Aside0.mk hc0
  clear hr0 hc0
  have HR2 := Aside0.mk hr2
  have HC2 := Aside0.mk hc2
  clear hr2 hc2
  have HB := Aside0.mk (Below.refl w.heap.size w)
  have H : (if 0 < (l0.length : Int) then (if 0 ≤ (wrap64 (((rd_T26 l0 0).f0) + 1)) then (if (wrap64 (((rd_T26 l0 0).f0) + 1) : Int).toNat ≤ 281474976710656 then ((some (List.replicate (wrap64 (((rd_T26 l0 0).f0) + 1) : Int).toNat false : List Bool)).bind fun y135 => (if 0 ≤ a1 then (if a1 < (y135.length : Int) then (spec_l14Last.l0 k l0 l2 a3 (y135.set (a1 : Int).toNat true) 0) else (none)) else (none))) else (none)) else (none)) else (none)) = some r := h
  clear h
  by_cases c5 : 0 < (l0.length : Int)
  · rw [if_pos c5] at H
    have c5b0 : decide (0 < (l0.length : Int)) = true := decide_eq_true c5
    have c5b1 : decide (0 < l0.length) = true := decide_eq_true (by omega)
    clear c5
    obtain ⟨ji6, hji6⟩ : ∃ j_ : Int, (wrap64 (((rd_T26 l0 0).f0) + 1)) = j_ := ⟨_, rfl⟩
    replace H : (if 0 ≤ (ji6) then (if (ji6 : Int).toNat ≤ 281474976710656 then ((some (List.replicate (ji6 : Int).toNat false : List Bool)).bind fun y135 => (if 0 ≤ a1 then (if a1 < (y135.length : Int) then (spec_l14Last.l0 k l0 l2 a3 (y135.set (a1 : Int).toNat true) 0) else (none)) else (none))) else (none)) else (none)) = some r := by first | (rw [hji6] at H; exact H) | (simp only [hji6] at H ⊢; exact H)
    have hji6w : (IntKind.i64.wrap (((rd_T26 l0 0).f0) + 1)) = ji6 := (i64_w _).trans hji6
    by_cases c7 : 0 ≤ (ji6)
    · rw [if_pos c7] at H
      have c7b0 := eq_true c7
      have c7b1 : decide (0 ≤ (ji6)) = true := decide_eq_true c7
      clear c7
      by_cases c8 : (ji6 : Int).toNat ≤ 281474976710656
      · rw [if_pos c8] at H
        have c8b0 := eq_true c8
        have c8b1 : decide ((ji6 : Int).toNat ≤ 281474976710656) = true := decide_eq_true c8
        clear c8
        obtain ⟨y135, hy135⟩ : ∃ y_ : List Bool, y_ = (List.replicate (ji6 : Int).toNat false) := ⟨_, rfl⟩
        replace H : (if 0 ≤ a1 then (if a1 < (y135.length : Int) then (spec_l14Last.l0 k l0 l2 a3 (y135.set (a1 : Int).toNat true) 0) else (none)) else (none)) = some r := by first | (rw [hy135]; with_reducible exact H) | (have H2_ := (Option.bind_some _ _).symm.trans H; rw [hy135]; with_reducible exact H2_) | (have H2_ := (Option.bind_some _ _).symm.trans H; with_reducible exact H2_) | with_reducible exact H | (rw [hy135]; exact H) | exact H
        have Ny135 := Aside0.mk hy135
        clear hy135
        by_cases c9 : 0 ≤ a1
        · rw [if_pos c9] at H
          have c9b0 : decide (0 ≤ a1) = true := decide_eq_true c9
          clear c9
          by_cases c10 : a1 < (y135.length : Int)
          · rw [if_pos c10] at H
            have c10b0 : decide (a1 < (y135.length : Int)) = true := decide_eq_true c10
            clear c10
            obtain ⟨y138, hy138⟩ : ∃ y_ : List Bool, y_ = (y135.set (a1 : Int).toNat true) := ⟨_, rfl⟩
            replace H : (spec_l14Last.l0 k l0 l2 a3 y138 0) = some r := by first | (rw [hy138]; with_reducible exact H) | (have H2_ := (Option.bind_some _ _).symm.trans H; rw [hy138]; with_reducible exact H2_) | (have H2_ := (Option.bind_some _ _).symm.trans H; with_reducible exact H2_) | with_reducible exact H | (rw [hy138]; exact H) | exact H
            have Ny138 := Aside0.mk hy138
            clear hy138
            have H' := Aside0.mk H
            clear H
            have p134 : 0 ≤ (0 : Int) := (by omega)
            have q134 : 0 < (l0.length : Int) := of_decide_eq_true (by first | (with_reducible assumption) | assumption)
            obtain ⟨ad134, e134, hx134_0, hx134_1, hx134_2⟩ := at_T26 HR0.out 0 p134 q134
            cases e134
            have qi134 : (0 < l0.length) = True := eq_true (by omega)
            (try rw [show ((0 : Int)).toNat = 0 from rfl] at hx134_0)
            (try rw [show 0 * 3 = 0 from rfl] at hx134_0)
            (try rw [Addr.add_zero'] at hx134_0)
            (try rw [show ((0 : Int)).toNat = 0 from rfl] at hx134_1)
            (try rw [show 0 * 3 = 0 from rfl] at hx134_1)
            (try rw [Addr.add_zero'] at hx134_1)
            (try rw [show ((0 : Int)).toNat = 0 from rfl] at hx134_2)
            (try rw [show 0 * 3 = 0 from rfl] at hx134_2)
            (try rw [Addr.add_zero'] at hx134_2)
            replace p134 := eq_true p134
            replace q134 := eq_true q134
            go_enter Try.func47, Try.ntmps47
            go_wp2_with (first | ((with_reducible refine gate_dst (N := 21) rfl ?_); refine Kd.R_make Kd.bool _ 4 rfl (N := 21) rfl 65 _ _ rfl ji6 rfl rfl Try.underlying65 (.bool false) 1 info4 rfl (by decide) (by omega) false (ok := fun _ => True) (okp := fun _ => True) rfl (fun _ hk => hk) trivial (of_decide_eq_true (by first | (with_reducible assumption) | assumption)) (Nat.le_trans (Nat.mul_le_mul_right _ (of_decide_eq_true (by first | (with_reducible assumption) | assumption) : ji6.toNat ≤ 281474976710656)) (by omega)) (Below.refl _ _) (Nat.le_refl _) ?_; intro v136 w12 ho13 hb hg_ hnew_; clear hg_ hnew_; (first | rw [← Ny135.out] at ho13 | (simp only [Int.reduceToNat] at ho13; rw [← Ny135.out] at ho13)); have n0_ := Aside0.mk (Kd.R_lower ho13 (below_size (by repeat (first | (with_reducible first | exact HB.out | apply below_alloc | apply pw_below_drewN | apply below_drew1) | exact HB.out)))); have n1_ := Aside0.mk (below_step (by repeat (first | (with_reducible first | exact HB.out | apply below_alloc | apply pw_below_drewN | apply below_drew1) | exact HB.out)) hb); clear HB; have HO137 := n0_; have HB := n1_; clear n0_ n1_; clear hb ho13; have p11 : 0 ≤ (a1 : Int) := of_decide_eq_true (by first | (with_reducible assumption) | assumption); have q11 : (a1 : Int) < ((y135.length : Int) : Int) := of_decide_eq_true (by first | (with_reducible assumption) | assumption); obtain ⟨go11, co11, eo11, gb11, gl11, cl11, HG11⟩ := Kd.R_form HO137.out (by omega); (first | cases eo11 | (injection eo11 with ea_ en_ ec_; (first | subst ea_ | (injection ea_ with ea_; subst ea_)); subst ec_; clear en_)); have GB11 := Aside0.mk gb11; have GG11 := Aside0.mk HG11; clear gb11 gl11 HG11; obtain ⟨hx11_0, hf11_0⟩ := Kd.R_celln false HO137.out (a1 : Int) p11 q11; replace p11 := eq_true p11; replace q11 := eq_true q11; obtain ⟨hy14_, hz14_⟩ := Kd.R_celln false HO137.out (a1 : Int) (of_decide_eq_true (by first | (with_reducible assumption) | assumption)) (of_decide_eq_true (by first | (with_reducible assumption) | assumption)); have HP14 := Kd.R_putg HO137.out (a1 : Int) true) | ((with_reducible refine gate_store (t := 4) (p := 24) rfl ?_); refine store_event (t := 4) (p := 24) (v := ?vo_w15) (w1 := (w12.setCell ⟨go11, (a1 : Int).toNat, none⟩ (.bool true))) ?hg ?ho ?hn ?hr ?_; (case ho => rfl); (case hg => rfl); (case hn => rfl); (case hr => first | (go_simp; done) | (go_simp; rfl)); intro w15 hw; have hg : w12.grownBy w15 (some go11) := (by rw [hw]; exact HP14.2); have hp_ : Kd.R Kd.bool 4 w15 w.heap.size (fun _ => True) (.slice (some ⟨go11, 0, none⟩) y135.length co11) y138 := (by rw [hw, Ny138.out]; exact HP14.1); clear HP14; have n0_ := Aside0.mk (hp_); have n1_ := Aside0.mk ((by rw [hw]; exact below_set (HB.out) GB11.out : Below w.heap.size w w15)); clear HO137; clear HB; have HO137 := n0_; have HB := n1_; clear n0_ n1_; clear hg hw hp_))
            go_loopg [9, 10] k (fun kq v9 v10 w' => ∃ (x9_1 : List Bool) (x10_1 : Int), v10 = .int .i64 x10_1 ∧ Aside0 (spec_l14Last.l0 kq l0 l2 a3 x9_1 x10_1 = some r) ∧ Aside0 (kq ≤ k) ∧ Aside0 (Kd.R Kd.bool 4 w' w.heap.size (fun _ => True) v9 x9_1) ∧ Aside0 (Below w.heap.size w w'))
            case atStart => exact ⟨(y138), (0), (by first | rfl | (simp; done) | (simp [*]; done)), H', ⟨Nat.le_refl _⟩, ⟨by (with_reducible repeat (first | apply Kd.R_alloc | apply Kd.R_drewN | apply Kd.R_drew)); exact HO137.out⟩, ⟨by repeat (first | (with_reducible first | exact HB.out | apply below_alloc | apply pw_below_drewN | apply below_drew1) | exact HB.out)⟩⟩
            case round =>
              clear H'
              try clear c1
              try clear p1
              try clear q1
              try clear hx1
              try clear qi1
              try clear c2
              try clear p2
              try clear c4
              try clear c5
              try clear c5b0
              try clear c5b1
              try clear p6
              try clear c7
              try clear c7b0
              try clear c7b1
              try clear c8
              try clear c8b0
              try clear c8b1
              try clear c9
              try clear c9b0
              try clear c10
              try clear c10b0
              try clear p11
              try clear q11
              try clear hx11
              try clear hf11
              try clear p13
              try clear q13
              try clear hx13
              try clear qi13
              try clear hx11_0
              try clear hx134_0
              try clear hx134_1
              try clear hx134_2
              try clear p11
              try clear p134
              try clear q11
              try clear q134
              obtain ⟨x9_1, x10_1, rfl, HA, HK1, HO_9, HB⟩ := hrel
              cases gk with
              | zero => exact absurd HA.out (by simp [spec_l14Last.l0])
              | succ k1 =>
                have H := HA.out
                clear HA
                simp only [spec_l14Last.l0] at H
                by_cases c16 : x10_1 < (l2.length : Int)
                · rw [if_pos c16] at H
                  have c16b0 : decide (x10_1 < (l2.length : Int)) = true := decide_eq_true c16
                  clear c16
                  by_cases c17 : 0 < (l0.length : Int)
                  · rw [if_pos c17] at H
                    have c17b0 : decide (0 < (l0.length : Int)) = true := decide_eq_true c17
                    have c17b1 : decide (0 < l0.length) = true := decide_eq_true (by omega)
                    clear c17
                    obtain ⟨ji18, hji18⟩ : ∃ j_ : Int, (wrap64 (((rd_T26 l0 0).f0) + 1)) = j_ := ⟨_, rfl⟩
                    replace H : (if 0 ≤ (ji18) then (if (ji18 : Int).toNat ≤ 281474976710656 then (spec_l14Last.l1 k1 l0 l2 a3 x9_1 x10_1 (List.replicate (ji18 : Int).toNat false) 0) else (none)) else (none)) = some r := by first | (rw [hji18] at H; exact H) | (simp only [hji18] at H ⊢; exact H)
                    have hji18w : (IntKind.i64.wrap (((rd_T26 l0 0).f0) + 1)) = ji18 := (i64_w _).trans hji18
                    (try clear hji6w)
                    by_cases c19 : 0 ≤ (ji18)
                    · rw [if_pos c19] at H
                      have c19b0 := eq_true c19
                      have c19b1 : decide (0 ≤ (ji18)) = true := decide_eq_true c19
                      clear c19
                      by_cases c20 : (ji18 : Int).toNat ≤ 281474976710656
                      · rw [if_pos c20] at H
                        have c20b0 := eq_true c20
                        have c20b1 : decide ((ji18 : Int).toNat ≤ 281474976710656) = true := decide_eq_true c20
                        clear c20
                        obtain ⟨y140, hy140⟩ : ∃ y_ : List Bool, y_ = (List.replicate (ji18 : Int).toNat false) := ⟨_, rfl⟩
                        replace H : (spec_l14Last.l1 k1 l0 l2 a3 x9_1 x10_1 y140 0) = some r := by first | (rw [hy140]; with_reducible exact H) | (have H2_ := (Option.bind_some _ _).symm.trans H; rw [hy140]; with_reducible exact H2_) | (have H2_ := (Option.bind_some _ _).symm.trans H; with_reducible exact H2_) | with_reducible exact H | (rw [hy140]; exact H) | exact H
                        have Ny140 := Aside0.mk hy140
                        clear hy140
                        have H' := Aside0.mk H
                        clear H
                        have p139 : 0 ≤ (0 : Int) := (by omega)
                        have q139 : 0 < (l0.length : Int) := of_decide_eq_true (by first | (with_reducible assumption) | assumption)
                        obtain ⟨ad139, e139, hx139_0, hx139_1, hx139_2⟩ := at_T26 HR0.out 0 p139 q139
                        obtain rfl : ad134 = ad139 := (by injection e139)
                        have qi139 : (0 < l0.length) = True := eq_true (by omega)
                        (try rw [show ((0 : Int)).toNat = 0 from rfl] at hx139_0)
                        (try rw [show 0 * 3 = 0 from rfl] at hx139_0)
                        (try rw [Addr.add_zero'] at hx139_0)
                        (try rw [show ((0 : Int)).toNat = 0 from rfl] at hx139_1)
                        (try rw [show 0 * 3 = 0 from rfl] at hx139_1)
                        (try rw [Addr.add_zero'] at hx139_1)
                        (try rw [show ((0 : Int)).toNat = 0 from rfl] at hx139_2)
                        (try rw [show 0 * 3 = 0 from rfl] at hx139_2)
                        (try rw [Addr.add_zero'] at hx139_2)
                        replace hx139_0 := (HB.out.cell (World.block_lt_of_cell? w _ hx139_0)).trans hx139_0
                        replace hx139_1 := (HB.out.cell (World.block_lt_of_cell? w _ hx139_1)).trans hx139_1
                        replace hx139_2 := (HB.out.cell (World.block_lt_of_cell? w _ hx139_2)).trans hx139_2
                        replace p139 := eq_true p139
                        replace q139 := eq_true q139
                        go_wp2_with (first | ((with_reducible refine gate_dst (N := 36) rfl ?_); refine Kd.R_make Kd.bool _ 4 rfl (N := 36) rfl 65 _ _ rfl ji18 rfl rfl Try.underlying65 (.bool false) 1 info4 rfl (by decide) (by omega) false (ok := fun _ => True) (okp := fun _ => True) rfl (fun _ hk => hk) trivial (of_decide_eq_true (by first | (with_reducible assumption) | assumption)) (Nat.le_trans (Nat.mul_le_mul_right _ (of_decide_eq_true (by first | (with_reducible assumption) | assumption) : ji18.toNat ≤ 281474976710656)) (by omega)) (Below.refl _ _) (Nat.le_refl _) ?_; intro v141 w21 ho22 hb hg_ hnew_; clear hg_ hnew_; (first | rw [← Ny140.out] at ho22 | (simp only [Int.reduceToNat] at ho22; rw [← Ny140.out] at ho22)); have n0_ := Aside0.mk (Kd.R_elder' (by (with_reducible repeat (first | apply Kd.R_alloc | apply Kd.R_drewN | apply Kd.R_drew)); exact HO_9.out) (Kd.R_base ho22) hb); have n1_ := Aside0.mk (Kd.R_lower (Kd.R_new' ho22 (Kd.R_lt (by (with_reducible repeat (first | apply Kd.R_alloc | apply Kd.R_drewN | apply Kd.R_drew)); exact HO_9.out))) (below_size (by repeat (first | (with_reducible first | exact HB.out | apply below_alloc | apply pw_below_drewN | apply below_drew1) | exact HB.out)))); have n2_ := Aside0.mk (below_step (by repeat (first | (with_reducible first | exact HB.out | apply below_alloc | apply pw_below_drewN | apply below_drew1) | exact HB.out)) hb); clear HO_9; clear HB; have HO_9 := n0_; have HO142 := n1_; have HB := n2_; clear n0_ n1_ n2_; clear hb ho22))
                        go_loopg [12] k1 (fun kq v12 w' => ∃ (x11_2 : List Bool) (x12_2 : Int), v12 = .int .i64 x12_2 ∧ Aside0 (spec_l14Last.l1 kq l0 l2 a3 x9_1 x10_1 x11_2 x12_2 = some r) ∧ Aside0 (kq ≤ k1) ∧ Aside0 (Kd.R Kd.bool 4 w' w.heap.size (fun k_ => some k_ ≠ (v141 : Value).ownBlock) u9 x9_1) ∧ Aside0 (Kd.R Kd.bool 4 w' w.heap.size (fun k_ => some k_ ≠ (u9 : Value).ownBlock) v141 x11_2) ∧ Aside0 (Below w.heap.size w w'))
                        case atStart => exact ⟨(y140), (0), (by first | rfl | (simp; done) | (simp [*]; done)), H', ⟨Nat.le_refl _⟩, ⟨by (with_reducible repeat (first | apply Kd.R_alloc | apply Kd.R_drewN | apply Kd.R_drew)); exact Kd.R_mono HO_9.out (fun _ hk => hk.2)⟩, ⟨by (with_reducible repeat (first | apply Kd.R_alloc | apply Kd.R_drewN | apply Kd.R_drew)); exact Kd.R_mono HO142.out (fun _ hk => hk.2)⟩, ⟨by repeat (first | (with_reducible first | exact HB.out | apply below_alloc | apply pw_below_drewN | apply below_drew1) | exact HB.out)⟩⟩
                        case round =>
                          clear H'
                          try clear c1
                          try clear p1
                          try clear q1
                          try clear hx1
                          try clear qi1
                          try clear c2
                          try clear p2
                          try clear c4
                          try clear c5
                          try clear c5b0
                          try clear c5b1
                          try clear p6
                          try clear c7
                          try clear c7b0
                          try clear c7b1
                          try clear c8
                          try clear c8b0
                          try clear c8b1
                          try clear c9
                          try clear c9b0
                          try clear c10
                          try clear c10b0
                          try clear p11
                          try clear q11
                          try clear hx11
                          try clear hf11
                          try clear p13
                          try clear q13
                          try clear hx13
                          try clear qi13
                          try clear c16
                          try clear c16b0
                          try clear c17
                          try clear c17b0
                          try clear c17b1
                          try clear c19
                          try clear c19b0
                          try clear c19b1
                          try clear c20
                          try clear c20b0
                          try clear c20b1
                          try clear hx11_0
                          try clear hx134_0
                          try clear hx134_1
                          try clear hx134_2
                          try clear hx139_0
                          try clear hx139_1
                          try clear hx139_2
                          try clear p1
                          try clear p11
                          try clear p13
                          try clear p134
                          try clear p139
                          try clear p2
                          try clear p6
                          try clear q1
                          try clear q11
                          try clear q13
                          try clear q134
                          try clear q139
                          obtain ⟨x11_2, x12_2, rfl, HA, HK2, HO_9, HO_11, HB⟩ := hrel
                          cases gk with
                          | zero => exact absurd HA.out (by simp [spec_l14Last.l1])
                          | succ k2 =>
                            have H := HA.out
                            clear HA
                            simp only [spec_l14Last.l1] at H
                            by_cases c23 : 0 < (l0.length : Int)
                            · rw [if_pos c23] at H
                              have c23b0 : decide (0 < (l0.length : Int)) = true := decide_eq_true c23
                              have c23b1 : decide (0 < l0.length) = true := decide_eq_true (by omega)
                              clear c23
                              by_cases c24 : x12_2 ≤ ((rd_T26 l0 0).f0)
                              · rw [if_pos c24] at H
                                have c24b0 : decide (x12_2 ≤ ((rd_T26 l0 0).f0)) = true := decide_eq_true c24
                                clear c24
                                have H' := Aside0.mk H
                                clear H
                                have p143 : 0 ≤ (0 : Int) := (by omega)
                                have q143 : 0 < (l0.length : Int) := of_decide_eq_true (by first | (with_reducible assumption) | assumption)
                                obtain ⟨ad143, e143, hx143_0, hx143_1, hx143_2⟩ := at_T26 HR0.out 0 p143 q143
                                obtain rfl : ad134 = ad143 := (by injection e143)
                                have qi143 : (0 < l0.length) = True := eq_true (by omega)
                                (try rw [show ((0 : Int)).toNat = 0 from rfl] at hx143_0)
                                (try rw [show 0 * 3 = 0 from rfl] at hx143_0)
                                (try rw [Addr.add_zero'] at hx143_0)
                                (try rw [show ((0 : Int)).toNat = 0 from rfl] at hx143_1)
                                (try rw [show 0 * 3 = 0 from rfl] at hx143_1)
                                (try rw [Addr.add_zero'] at hx143_1)
                                (try rw [show ((0 : Int)).toNat = 0 from rfl] at hx143_2)
                                (try rw [show 0 * 3 = 0 from rfl] at hx143_2)
                                (try rw [Addr.add_zero'] at hx143_2)
                                replace hx143_0 := (HB.out.cell (World.block_lt_of_cell? w _ hx143_0)).trans hx143_0
                                replace hx143_1 := (HB.out.cell (World.block_lt_of_cell? w _ hx143_1)).trans hx143_1
                                replace hx143_2 := (HB.out.cell (World.block_lt_of_cell? w _ hx143_2)).trans hx143_2
                                replace p143 := eq_true p143
                                replace q143 := eq_true q143
                                have p144 : 0 ≤ (0 : Int) := (by omega)
                                have q144 : 0 < (l0.length : Int) := of_decide_eq_true (by first | (with_reducible assumption) | assumption)
                                obtain ⟨ad144, e144, hx144_0, hx144_1, hx144_2⟩ := at_T26 HR0.out 0 p144 q144
                                obtain rfl : ad134 = ad144 := (by injection e144)
                                have qi144 : (0 < l0.length) = True := eq_true (by omega)
                                (try rw [show ((0 : Int)).toNat = 0 from rfl] at hx144_0)
                                (try rw [show 0 * 3 = 0 from rfl] at hx144_0)
                                (try rw [Addr.add_zero'] at hx144_0)
                                (try rw [show ((0 : Int)).toNat = 0 from rfl] at hx144_1)
                                (try rw [show 0 * 3 = 0 from rfl] at hx144_1)
                                (try rw [Addr.add_zero'] at hx144_1)
                                (try rw [show ((0 : Int)).toNat = 0 from rfl] at hx144_2)
                                (try rw [show 0 * 3 = 0 from rfl] at hx144_2)
                                (try rw [Addr.add_zero'] at hx144_2)
                                replace hx144_0 := (HB.out.cell (World.block_lt_of_cell? w _ hx144_0)).trans hx144_0
                                replace hx144_1 := (HB.out.cell (World.block_lt_of_cell? w _ hx144_1)).trans hx144_1
                                replace hx144_2 := (HB.out.cell (World.block_lt_of_cell? w _ hx144_2)).trans hx144_2
                                replace p144 := eq_true p144
                                replace q144 := eq_true q144
                                go_wp2
                                go_loopg [13] k2 (fun kq v13 w' => ∃ (x11_3 : List Bool) (x13_3 : Int), v13 = .int .i64 x13_3 ∧ Aside0 (spec_l14Last.l2 kq l0 l2 a3 x9_1 x10_1 x11_3 x12_2 x13_3 = some r) ∧ Aside0 (kq ≤ k2) ∧ Aside0 (Kd.R Kd.bool 4 w' w.heap.size (fun k_ => some k_ ≠ (v141 : Value).ownBlock) u9 x9_1) ∧ Aside0 (Kd.R Kd.bool 4 w' w.heap.size (fun k_ => some k_ ≠ (u9 : Value).ownBlock) v141 x11_3) ∧ Aside0 (Below w.heap.size w w'))
                                case atStart => exact ⟨(x11_2), (wrap64 (-((rd_T26 l0 0).f1))), (by first | rfl | (simp; done) | (simp [*]; done)), H', ⟨Nat.le_refl _⟩, ⟨by (with_reducible repeat (first | apply Kd.R_alloc | apply Kd.R_drewN | apply Kd.R_drew)); exact HO_9.out⟩, ⟨by (with_reducible repeat (first | apply Kd.R_alloc | apply Kd.R_drewN | apply Kd.R_drew)); exact HO_11.out⟩, ⟨by repeat (first | (with_reducible first | exact HB.out | apply below_alloc | apply pw_below_drewN | apply below_drew1) | exact HB.out)⟩⟩
                                case round =>
                                  clear H'
                                  try clear c1
                                  try clear p1
                                  try clear q1
                                  try clear hx1
                                  try clear qi1
                                  try clear c2
                                  try clear p2
                                  try clear c4
                                  try clear c5
                                  try clear c5b0
                                  try clear c5b1
                                  try clear p6
                                  try clear c7
                                  try clear c7b0
                                  try clear c7b1
                                  try clear c8
                                  try clear c8b0
                                  try clear c8b1
                                  try clear c9
                                  try clear c9b0
                                  try clear c10
                                  try clear c10b0
                                  try clear p11
                                  try clear q11
                                  try clear hx11
                                  try clear hf11
                                  try clear p13
                                  try clear q13
                                  try clear hx13
                                  try clear qi13
                                  try clear p14
                                  try clear q14
                                  try clear hx14
                                  try clear qi14
                                  try clear c16
                                  try clear c16b0
                                  try clear c17
                                  try clear c17b0
                                  try clear c17b1
                                  try clear c19
                                  try clear c19b0
                                  try clear c19b1
                                  try clear c20
                                  try clear c20b0
                                  try clear c20b1
                                  try clear c23
                                  try clear c23b0
                                  try clear c23b1
                                  try clear c24
                                  try clear c24b0
                                  try clear hx11_0
                                  try clear hx134_0
                                  try clear hx134_1
                                  try clear hx134_2
                                  try clear hx139_0
                                  try clear hx139_1
                                  try clear hx139_2
                                  try clear hx143_0
                                  try clear hx143_1
                                  try clear hx143_2
                                  try clear hx144_0
                                  try clear hx144_1
                                  try clear hx144_2
                                  try clear p1
                                  try clear p11
                                  try clear p13
                                  try clear p134
                                  try clear p139
                                  try clear p143
                                  try clear p144
                                  try clear p2
                                  try clear p6
                                  try clear q1
                                  try clear q11
                                  try clear q13
                                  try clear q134
                                  try clear q139
                                  try clear q143
                                  try clear q144
                                  obtain ⟨x11_3, x13_3, rfl, HA, HK3, HO_9, HO_11, HB⟩ := hrel
                                  cases gk with
                                  | zero => exact absurd HA.out (by simp [spec_l14Last.l2])
                                  | succ k3 =>
                                    have H := HA.out
                                    clear HA
                                    simp only [spec_l14Last.l2] at H
                                    have HC25 := Aside0.mk H
                                    clear H
                                    go_upto_region 11 with (fail)
                                    go_cut [61] (fun v61 wc => ∃ (kq : Nat) (x61_24 : Bool), v61 = .bool x61_24 ∧ Aside0 (spec_l14Last.j3 kq l0 l2 a3 x9_1 x10_1 x11_3 x12_2 x13_3 x61_24 = some r) ∧ Aside0 (kq ≤ k3) ∧ Aside0 (Kd.R Kd.bool 4 wc w.heap.size (fun k_ => some k_ ≠ (v141 : Value).ownBlock) u9 x9_1) ∧ Aside0 (Kd.R Kd.bool 4 wc w.heap.size (fun k_ => some k_ ≠ (u9 : Value).ownBlock) v141 x11_3) ∧ Aside0 (Below w.heap.size w wc))
                                    case first =>
                                      have H := HC25.out
                                      clear HC25
                                      by_cases c26 : 0 < (l0.length : Int)
                                      · rw [if_pos c26] at H
                                        have c26b0 : decide (0 < (l0.length : Int)) = true := decide_eq_true c26
                                        have c26b1 : decide (0 < l0.length) = true := decide_eq_true (by omega)
                                        clear c26
                                        (first | rw [c26b0] | (simp only [i64_w, i32_w]; rw [c26b0]) | skip)
                                        by_cases c27 : x13_3 ≤ ((rd_T26 l0 0).f1)
                                        · rw [if_pos c27] at H
                                          have c27b0 : decide (x13_3 ≤ ((rd_T26 l0 0).f1)) = true := decide_eq_true c27
                                          clear c27
                                          by_cases c28 : 0 ≤ x12_2
                                          · rw [if_pos c28] at H
                                            have c28b0 : decide (0 ≤ x12_2) = true := decide_eq_true c28
                                            clear c28
                                            by_cases c29 : x12_2 < (x9_1.length : Int)
                                            · rw [if_pos c29] at H
                                              have c29b0 : decide (x12_2 < (x9_1.length : Int)) = true := decide_eq_true c29
                                              clear c29
                                              have H' := Aside0.mk H
                                              clear H
                                              have p145 : 0 ≤ (0 : Int) := (by omega)
                                              have q145 : 0 < (l0.length : Int) := of_decide_eq_true (by first | (with_reducible assumption) | assumption)
                                              obtain ⟨ad145, e145, hx145_0, hx145_1, hx145_2⟩ := at_T26 HR0.out 0 p145 q145
                                              obtain rfl : ad134 = ad145 := (by injection e145)
                                              have qi145 : (0 < l0.length) = True := eq_true (by omega)
                                              (try rw [show ((0 : Int)).toNat = 0 from rfl] at hx145_0)
                                              (try rw [show 0 * 3 = 0 from rfl] at hx145_0)
                                              (try rw [Addr.add_zero'] at hx145_0)
                                              (try rw [show ((0 : Int)).toNat = 0 from rfl] at hx145_1)
                                              (try rw [show 0 * 3 = 0 from rfl] at hx145_1)
                                              (try rw [Addr.add_zero'] at hx145_1)
                                              (try rw [show ((0 : Int)).toNat = 0 from rfl] at hx145_2)
                                              (try rw [show 0 * 3 = 0 from rfl] at hx145_2)
                                              (try rw [Addr.add_zero'] at hx145_2)
                                              replace hx145_0 := (HB.out.cell (World.block_lt_of_cell? w _ hx145_0)).trans hx145_0
                                              replace hx145_1 := (HB.out.cell (World.block_lt_of_cell? w _ hx145_1)).trans hx145_1
                                              replace hx145_2 := (HB.out.cell (World.block_lt_of_cell? w _ hx145_2)).trans hx145_2
                                              replace p145 := eq_true p145
                                              replace q145 := eq_true q145
                                              obtain ⟨Ao30, co30, eo30⟩ := Kd.R_slice HO_9.out
                                              subst eo30
                                              have p146 : 0 ≤ (x12_2 : Int) := of_decide_eq_true (by first | (with_reducible assumption) | assumption)
                                              have q146 : x12_2 < (x9_1.length : Int) := of_decide_eq_true (by first | (with_reducible assumption) | assumption)
                                              obtain ⟨ad146, e146, hx146_0⟩ := Kd.at_bool (Kd.R_reads' HO_9.out).2.2 x12_2 p146 q146
                                              cases e146
                                              replace p146 := eq_true p146
                                              replace q146 := eq_true q146
                                              go_wp2
                                              go_meet
                                              case rel => exact ⟨_, (rdOf false x9_1 x12_2), (by first | rfl | (simp; done) | (simp [*]; done)), H', ⟨by have := HK1.out; have := HK2.out; have := HK3.out; first | omega | exact Nat.le_refl _⟩, ⟨by (with_reducible repeat (first | apply Kd.R_alloc | apply Kd.R_drewN | apply Kd.R_drew)); exact HO_9.out⟩, ⟨by (with_reducible repeat (first | apply Kd.R_alloc | apply Kd.R_drewN | apply Kd.R_drew)); exact HO_11.out⟩, ⟨by repeat (first | (with_reducible first | exact HB.out | apply below_alloc | apply pw_below_drewN | apply below_drew1) | exact HB.out)⟩⟩
                                            · rw [if_neg c29] at H
                                              exact absurd H (by simp)
                                          · rw [if_neg c28] at H
                                            exact absurd H (by simp)
                                        · rw [if_neg c27] at H
                                          have c27b0 : decide (x13_3 ≤ ((rd_T26 l0 0).f1)) = false := decide_eq_false c27
                                          clear c27
                                          have H' := Aside0.mk H
                                          clear H
                                          have p145 : 0 ≤ (0 : Int) := (by omega)
                                          have q145 : 0 < (l0.length : Int) := of_decide_eq_true (by first | (with_reducible assumption) | assumption)
                                          obtain ⟨ad145, e145, hx145_0, hx145_1, hx145_2⟩ := at_T26 HR0.out 0 p145 q145
                                          obtain rfl : ad134 = ad145 := (by injection e145)
                                          have qi145 : (0 < l0.length) = True := eq_true (by omega)
                                          (try rw [show ((0 : Int)).toNat = 0 from rfl] at hx145_0)
                                          (try rw [show 0 * 3 = 0 from rfl] at hx145_0)
                                          (try rw [Addr.add_zero'] at hx145_0)
                                          (try rw [show ((0 : Int)).toNat = 0 from rfl] at hx145_1)
                                          (try rw [show 0 * 3 = 0 from rfl] at hx145_1)
                                          (try rw [Addr.add_zero'] at hx145_1)
                                          (try rw [show ((0 : Int)).toNat = 0 from rfl] at hx145_2)
                                          (try rw [show 0 * 3 = 0 from rfl] at hx145_2)
                                          (try rw [Addr.add_zero'] at hx145_2)
                                          replace hx145_0 := (HB.out.cell (World.block_lt_of_cell? w _ hx145_0)).trans hx145_0
                                          replace hx145_1 := (HB.out.cell (World.block_lt_of_cell? w _ hx145_1)).trans hx145_1
                                          replace hx145_2 := (HB.out.cell (World.block_lt_of_cell? w _ hx145_2)).trans hx145_2
                                          replace p145 := eq_true p145
                                          replace q145 := eq_true q145
                                          go_wp2
                                          go_meet
                                          case rel => exact ⟨_, (false), (by first | rfl | (simp; done) | (simp [*]; done)), H', ⟨by have := HK1.out; have := HK2.out; have := HK3.out; first | omega | exact Nat.le_refl _⟩, ⟨by (with_reducible repeat (first | apply Kd.R_alloc | apply Kd.R_drewN | apply Kd.R_drew)); exact HO_9.out⟩, ⟨by (with_reducible repeat (first | apply Kd.R_alloc | apply Kd.R_drewN | apply Kd.R_drew)); exact HO_11.out⟩, ⟨by repeat (first | (with_reducible first | exact HB.out | apply below_alloc | apply pw_below_drewN | apply below_drew1) | exact HB.out)⟩⟩
                                      · rw [if_neg c26] at H
                                        exact absurd H (by simp)
                                    case rest =>
                                      clear HC25
                                      try clear c1
                                      try clear p1
                                      try clear q1
                                      try clear hx1
                                      try clear qi1
                                      try clear c2
                                      try clear p2
                                      try clear c4
                                      try clear c5
                                      try clear c5b0
                                      try clear c5b1
                                      try clear p6
                                      try clear c7
                                      try clear c7b0
                                      try clear c7b1
                                      try clear c8
                                      try clear c8b0
                                      try clear c8b1
                                      try clear c9
                                      try clear c9b0
                                      try clear c10
                                      try clear c10b0
                                      try clear p11
                                      try clear q11
                                      try clear hx11
                                      try clear hf11
                                      try clear p13
                                      try clear q13
                                      try clear hx13
                                      try clear qi13
                                      try clear p14
                                      try clear q14
                                      try clear hx14
                                      try clear qi14
                                      try clear c16
                                      try clear c16b0
                                      try clear c17
                                      try clear c17b0
                                      try clear c17b1
                                      try clear c19
                                      try clear c19b0
                                      try clear c19b1
                                      try clear c20
                                      try clear c20b0
                                      try clear c20b1
                                      try clear c23
                                      try clear c23b0
                                      try clear c23b1
                                      try clear c24
                                      try clear c24b0
                                      try clear c26
                                      try clear c26b0
                                      try clear c26b1
                                      try clear c27
                                      try clear c27b0
                                      try clear c28
                                      try clear c28b0
                                      try clear c29
                                      try clear c29b0
                                      try clear hx11_0
                                      try clear hx134_0
                                      try clear hx134_1
                                      try clear hx134_2
                                      try clear hx139_0
                                      try clear hx139_1
                                      try clear hx139_2
                                      try clear hx143_0
                                      try clear hx143_1
                                      try clear hx143_2
                                      try clear hx144_0
                                      try clear hx144_1
                                      try clear hx144_2
                                      try clear hx145_0
                                      try clear hx145_1
                                      try clear hx145_2
                                      try clear hx146_0
                                      try clear p1
                                      try clear p11
                                      try clear p13
                                      try clear p134
                                      try clear p139
                                      try clear p14
                                      try clear p143
                                      try clear p144
                                      try clear p145
                                      try clear p146
                                      try clear p2
                                      try clear p6
                                      try clear q1
                                      try clear q11
                                      try clear q13
                                      try clear q134
                                      try clear q139
                                      try clear q14
                                      try clear q143
                                      try clear q144
                                      try clear q145
                                      try clear q146
                                      obtain ⟨kq, x61_24, rfl, HA, HJ24, HO_9, HO_11, HB⟩ := hcut
                                      cases kq with
                                      | zero => exact absurd HA.out (by simp [spec_l14Last.j3])
                                      | succ kj24 =>
                                        have H := HA.out
                                        clear HA
                                        simp only [spec_l14Last.j3] at H
                                        by_cases c31 : x61_24 = true
                                        · subst c31
                                          have H1 : ((spec_l14After.f l0 x12_2 x13_3).bind fun bt147 => (if bt147.2 = true then (if 0 ≤ x10_1 then (if x10_1 < (l2.length : Int) then ((spec_l00In.f (wrap64 ((rd l2 x10_1) + x13_3)) 0 a3).bind fun t150 => (if t150 = true then (if 0 ≤ bt147.1 then (if bt147.1 < (x11_3.length : Int) then (spec_l14Last.l2 kj24 l0 l2 a3 x9_1 x10_1 (x11_3.set (bt147.1 : Int).toNat true) x12_2 (wrap64 (x13_3 + 1))) else (none)) else (none)) else (spec_l14Last.l2 kj24 l0 l2 a3 x9_1 x10_1 x11_3 x12_2 (wrap64 (x13_3 + 1))))) else (none)) else (none)) else (spec_l14Last.l2 kj24 l0 l2 a3 x9_1 x10_1 x11_3 x12_2 (wrap64 (x13_3 + 1))))) = some r := by rw [if_pos rfl] at H; exact H
                                          clear H
                                          have H := H1
                                          clear H1
                                          replace H := Option.bind_eq_some_iff.mp H
                                          obtain ⟨⟨t147, t148⟩, A320, H⟩ := H
                                          replace H : (if t148 = true then (if 0 ≤ x10_1 then (if x10_1 < (l2.length : Int) then ((spec_l00In.f (wrap64 ((rd l2 x10_1) + x13_3)) 0 a3).bind fun t150 => (if t150 = true then (if 0 ≤ t147 then (if t147 < (x11_3.length : Int) then (spec_l14Last.l2 kj24 l0 l2 a3 x9_1 x10_1 (x11_3.set (t147 : Int).toNat true) x12_2 (wrap64 (x13_3 + 1))) else (none)) else (none)) else (spec_l14Last.l2 kj24 l0 l2 a3 x9_1 x10_1 x11_3 x12_2 (wrap64 (x13_3 + 1))))) else (none)) else (none)) else (spec_l14Last.l2 kj24 l0 l2 a3 x9_1 x10_1 x11_3 x12_2 (wrap64 (x13_3 + 1)))) = some r := H
                                          have A32 := Aside0.mk A320
                                          clear A320
                                          by_cases c33 : t148 = true
                                          · subst c33
                                            have H1 : (if 0 ≤ x10_1 then (if x10_1 < (l2.length : Int) then ((spec_l00In.f (wrap64 ((rd l2 x10_1) + x13_3)) 0 a3).bind fun t150 => (if t150 = true then (if 0 ≤ t147 then (if t147 < (x11_3.length : Int) then (spec_l14Last.l2 kj24 l0 l2 a3 x9_1 x10_1 (x11_3.set (t147 : Int).toNat true) x12_2 (wrap64 (x13_3 + 1))) else (none)) else (none)) else (spec_l14Last.l2 kj24 l0 l2 a3 x9_1 x10_1 x11_3 x12_2 (wrap64 (x13_3 + 1))))) else (none)) else (none)) = some r := by rw [if_pos rfl] at H; exact H
                                            clear H
                                            have H := H1
                                            clear H1
                                            by_cases c34 : 0 ≤ x10_1
                                            · rw [if_pos c34] at H
                                              have c34b0 : decide (0 ≤ x10_1) = true := decide_eq_true c34
                                              clear c34
                                              by_cases c35 : x10_1 < (l2.length : Int)
                                              · rw [if_pos c35] at H
                                                have c35b0 : decide (x10_1 < (l2.length : Int)) = true := decide_eq_true c35
                                                clear c35
                                                replace H := Option.bind_eq_some_iff.mp H
                                                obtain ⟨t150, A360, H⟩ := H
                                                replace H : (if t150 = true then (if 0 ≤ t147 then (if t147 < (x11_3.length : Int) then (spec_l14Last.l2 kj24 l0 l2 a3 x9_1 x10_1 (x11_3.set (t147 : Int).toNat true) x12_2 (wrap64 (x13_3 + 1))) else (none)) else (none)) else (spec_l14Last.l2 kj24 l0 l2 a3 x9_1 x10_1 x11_3 x12_2 (wrap64 (x13_3 + 1)))) = some r := H
                                                have A36 := Aside0.mk A360
                                                clear A360
                                                by_cases c37 : t150 = true
                                                · subst c37
                                                  have H1 : (if 0 ≤ t147 then (if t147 < (x11_3.length : Int) then (spec_l14Last.l2 kj24 l0 l2 a3 x9_1 x10_1 (x11_3.set (t147 : Int).toNat true) x12_2 (wrap64 (x13_3 + 1))) else (none)) else (none)) = some r := by rw [if_pos rfl] at H; exact H
                                                  clear H
                                                  have H := H1
                                                  clear H1
                                                  by_cases c38 : 0 ≤ t147
                                                  · rw [if_pos c38] at H
                                                    have c38b0 : decide (0 ≤ t147) = true := decide_eq_true c38
                                                    clear c38
                                                    by_cases c39 : t147 < (x11_3.length : Int)
                                                    · rw [if_pos c39] at H
                                                      have c39b0 : decide (t147 < (x11_3.length : Int)) = true := decide_eq_true c39
                                                      clear c39
                                                      obtain ⟨y151, hy151⟩ : ∃ y_ : List Bool, y_ = (x11_3.set (t147 : Int).toNat true) := ⟨_, rfl⟩
                                                      replace H : (spec_l14Last.l2 kj24 l0 l2 a3 x9_1 x10_1 y151 x12_2 (wrap64 (x13_3 + 1))) = some r := by first | (rw [hy151]; with_reducible exact H) | (have H2_ := (Option.bind_some _ _).symm.trans H; rw [hy151]; with_reducible exact H2_) | (have H2_ := (Option.bind_some _ _).symm.trans H; with_reducible exact H2_) | with_reducible exact H | (rw [hy151]; exact H) | exact H
                                                      have Ny151 := Aside0.mk hy151
                                                      clear hy151
                                                      have H' := Aside0.mk H
                                                      clear H
                                                      go_wp2_with (first | ((with_reducible refine gate_callee (f := 44) rfl ?_); refine goesL_ (some 68) rfl rfl Try.func44 (by kernel_rfl) rfl #[.pointer (some ad134), .int .i64 x12_2, .int .i64 x13_3] rfl (by (try simp only [List.map_toArray, List.map_cons, List.map_nil]); first | done | rfl | (simp only [List.length_drop, List.length_take]; rfl)) ?_; (with_reducible refine (spec_l14After.calls _ c0 l0 x12_2 x13_3 t147 true _ ?side1 ?side2 A32.out).mono ?_); (case side1 => repeat (first | exact (Kd.C_below HR0.out HB.out) | (with_reducible refine Kd.C_alloc ?_ _) | (with_reducible refine Kd.C_drewN ?_ _) | (with_reducible refine Kd.C_drew ?_))); (case side2 => exact HC0.out); rintro e w' ⟨rfl, ⟨nd, rfl⟩⟩; refine ⟨_, rfl, ?_⟩; (try (rw [drewN_self wc]; generalize hq_ : World.drewN wc _ = wc; have n0_ : Aside0 (Kd.R Kd.bool 4 wc w.heap.size (fun k_ => some k_ ≠ (u9 : Value).ownBlock) v141 x11_3) := ⟨by rw [← hq_]; exact (by (with_reducible repeat (first | apply Kd.R_alloc | apply Kd.R_drewN | apply Kd.R_drew)); exact HO_11.out)⟩; have n1_ : Aside0 (Kd.R Kd.bool 4 wc w.heap.size (fun k_ => some k_ ≠ (v141 : Value).ownBlock) u9 x9_1) := ⟨by rw [← hq_]; exact (by (with_reducible repeat (first | apply Kd.R_alloc | apply Kd.R_drewN | apply Kd.R_drew)); exact HO_9.out)⟩; have n2_ : Aside0 (Below w.heap.size w wc) := ⟨by rw [← hq_]; exact (by repeat (first | (with_reducible first | exact HB.out | apply below_alloc | apply pw_below_drewN | apply below_drew1) | exact HB.out))⟩; clear HO_11 HO_9 HB hq_; have HO_11 := n0_; have HO_9 := n1_; have HB := n2_; clear n0_ n1_ n2_)); have p149 : 0 ≤ (x10_1 : Int) := of_decide_eq_true (by first | (with_reducible assumption) | assumption); have q149 : x10_1 < (l2.length : Int) := of_decide_eq_true (by first | (with_reducible assumption) | assumption); obtain ⟨ad149, e149, hx149_0⟩ := Kd.at_int HR2.out x10_1 p149 q149; cases e149; replace hx149_0 := (HB.out.cell (World.block_lt_of_cell? w _ hx149_0)).trans hx149_0; replace p149 := eq_true p149; replace q149 := eq_true q149) | (go_at_call 32; (with_reducible refine (spec_l00In.calls (wrap64 ((rd l2 x10_1) + x13_3)) 0 a3 true _ A36.out).mono ?_); rintro e w' ⟨rfl, ⟨nd, rfl⟩⟩; (try (rw [drewN_self wc]; generalize hq_ : World.drewN wc _ = wc; have n0_ : Aside0 (Kd.R Kd.bool 4 wc w.heap.size (fun k_ => some k_ ≠ (u9 : Value).ownBlock) v141 x11_3) := ⟨by rw [← hq_]; exact (by (with_reducible repeat (first | apply Kd.R_alloc | apply Kd.R_drewN | apply Kd.R_drew)); exact HO_11.out)⟩; have n1_ : Aside0 (Kd.R Kd.bool 4 wc w.heap.size (fun k_ => some k_ ≠ (v141 : Value).ownBlock) u9 x9_1) := ⟨by rw [← hq_]; exact (by (with_reducible repeat (first | apply Kd.R_alloc | apply Kd.R_drewN | apply Kd.R_drew)); exact HO_9.out)⟩; have n2_ : Aside0 (Below w.heap.size w wc) := ⟨by rw [← hq_]; exact (by repeat (first | (with_reducible first | exact HB.out | apply below_alloc | apply pw_below_drewN | apply below_drew1) | exact HB.out))⟩; clear HO_11 HO_9 HB hq_; have HO_11 := n0_; have HO_9 := n1_; have HB := n2_; clear n0_ n1_ n2_)); have p40 : 0 ≤ (t147 : Int) := of_decide_eq_true (by first | (with_reducible assumption) | assumption); have q40 : (t147 : Int) < ((x11_3.length : Int) : Int) := of_decide_eq_true (by first | (with_reducible assumption) | assumption); obtain ⟨go40, co40, eo40, gb40, gl40, cl40, HG40⟩ := Kd.R_form HO_11.out (by omega); (first | cases eo40 | (injection eo40 with ea_ en_ ec_; (first | subst ea_ | (injection ea_ with ea_; subst ea_)); subst ec_; clear en_)); have GB40 := Aside0.mk gb40; have GG40 := Aside0.mk HG40; clear gb40 gl40 HG40; obtain ⟨hx40_0, hf40_0⟩ := Kd.R_celln false HO_11.out (t147 : Int) p40 q40; replace p40 := eq_true p40; replace q40 := eq_true q40; obtain ⟨hy41_, hz41_⟩ := Kd.R_celln false HO_11.out (t147 : Int) (of_decide_eq_true (by first | (with_reducible assumption) | assumption)) (of_decide_eq_true (by first | (with_reducible assumption) | assumption)); have HP41 := Kd.R_putg HO_11.out (t147 : Int) true) | ((with_reducible refine gate_store (t := 4) (p := 84) rfl ?_); refine store_event (t := 4) (p := 84) (v := ?vo_w42) (w1 := (wc.setCell ⟨go40, (t147 : Int).toNat, none⟩ (.bool true))) ?hg ?ho ?hn ?hr ?_; (case ho => rfl); (case hg => rfl); (case hn => rfl); (case hr => first | (go_simp; done) | (go_simp; rfl)); intro w42 hw; have hg : wc.grownBy w42 (some go40) := (by rw [hw]; exact HP41.2); have hp_ : Kd.R Kd.bool 4 w42 w.heap.size (fun k_ => some k_ ≠ (u9 : Value).ownBlock) (.slice (some ⟨go40, 0, none⟩) x11_3.length co40) y151 := (by rw [hw, Ny151.out]; exact HP41.1); clear HP41; have n0_ := Aside0.mk (Kd.R_after (v := (.slice (some ⟨go40, 0, none⟩) x11_3.length co40)) (v1 := (.slice (some ⟨go40, 0, none⟩) x11_3.length co40)) (ok := (fun _ => True)) (by (with_reducible repeat (first | apply Kd.R_alloc | apply Kd.R_drewN | apply Kd.R_drew)); exact Kd.R_mono HO_9.out (fun _ hk => ⟨trivial, hk⟩)) hg (.inl rfl)); have n1_ := Aside0.mk (hp_); have n2_ := Aside0.mk ((by rw [hw]; exact below_set (HB.out) GB40.out : Below w.heap.size w w42)); clear HO_9; clear HO_11; clear HB; have HO_9 := n0_; have HO_11 := n1_; have HB := n2_; clear n0_ n1_ n2_; clear hg hw hp_))
                                                      go_roundg kj24
                                                      case measure => have := HK1.out; have := HK2.out; have := HK3.out; have := HJ24.out; omega
                                                      case rel => exact ⟨(y151), (wrap64 (x13_3 + 1)), (by first | rfl | (simp; done) | (simp [*]; done)), H', ⟨by have := HK1.out; have := HK2.out; have := HK3.out; have := HJ24.out; omega⟩, ⟨by (with_reducible repeat (first | apply Kd.R_alloc | apply Kd.R_drewN | apply Kd.R_drew)); exact Kd.R_mono HO_9.out (fun _ hk => hk.2)⟩, ⟨by (with_reducible repeat (first | apply Kd.R_alloc | apply Kd.R_drewN | apply Kd.R_drew)); exact HO_11.out⟩, ⟨by repeat (first | (with_reducible first | exact HB.out | apply below_alloc | apply pw_below_drewN | apply below_drew1) | exact HB.out)⟩⟩
                                                    · rw [if_neg c39] at H
                                                      exact absurd H (by simp)
                                                  · rw [if_neg c38] at H
                                                    exact absurd H (by simp)
                                                · replace c37 := Bool.eq_false_iff.mpr c37
                                                  subst c37
                                                  have H1 : (spec_l14Last.l2 kj24 l0 l2 a3 x9_1 x10_1 x11_3 x12_2 (wrap64 (x13_3 + 1))) = some r := by rw [if_neg (show ¬ (false = true) by decide)] at H; exact H
                                                  clear H
                                                  have H := H1
                                                  clear H1
                                                  have H' := Aside0.mk H
                                                  clear H
                                                  go_wp2_with (first | ((with_reducible refine gate_callee (f := 44) rfl ?_); refine goesL_ (some 68) rfl rfl Try.func44 (by kernel_rfl) rfl #[.pointer (some ad134), .int .i64 x12_2, .int .i64 x13_3] rfl (by (try simp only [List.map_toArray, List.map_cons, List.map_nil]); first | done | rfl | (simp only [List.length_drop, List.length_take]; rfl)) ?_; (with_reducible refine (spec_l14After.calls _ c0 l0 x12_2 x13_3 t147 true _ ?side1 ?side2 A32.out).mono ?_); (case side1 => repeat (first | exact (Kd.C_below HR0.out HB.out) | (with_reducible refine Kd.C_alloc ?_ _) | (with_reducible refine Kd.C_drewN ?_ _) | (with_reducible refine Kd.C_drew ?_))); (case side2 => exact HC0.out); rintro e w' ⟨rfl, ⟨nd, rfl⟩⟩; refine ⟨_, rfl, ?_⟩; have p149 : 0 ≤ (x10_1 : Int) := of_decide_eq_true (by first | (with_reducible assumption) | assumption); have q149 : x10_1 < (l2.length : Int) := of_decide_eq_true (by first | (with_reducible assumption) | assumption); obtain ⟨ad149, e149, hx149_0⟩ := Kd.at_int HR2.out x10_1 p149 q149; cases e149; replace hx149_0 := (HB.out.cell (World.block_lt_of_cell? w _ hx149_0)).trans hx149_0; replace p149 := eq_true p149; replace q149 := eq_true q149) | (go_at_call 32; (with_reducible refine (spec_l00In.calls (wrap64 ((rd l2 x10_1) + x13_3)) 0 a3 false _ A36.out).mono ?_); rintro e w' ⟨rfl, ⟨nd, rfl⟩⟩))
                                                  go_roundg kj24
                                                  case measure => have := HK1.out; have := HK2.out; have := HK3.out; have := HJ24.out; omega
                                                  case rel => exact ⟨(x11_3), (wrap64 (x13_3 + 1)), (by first | rfl | (simp; done) | (simp [*]; done)), H', ⟨by have := HK1.out; have := HK2.out; have := HK3.out; have := HJ24.out; omega⟩, ⟨by (with_reducible repeat (first | apply Kd.R_alloc | apply Kd.R_drewN | apply Kd.R_drew)); exact HO_9.out⟩, ⟨by (with_reducible repeat (first | apply Kd.R_alloc | apply Kd.R_drewN | apply Kd.R_drew)); exact HO_11.out⟩, ⟨by repeat (first | (with_reducible first | exact HB.out | apply below_alloc | apply pw_below_drewN | apply below_drew1) | exact HB.out)⟩⟩
                                              · rw [if_neg c35] at H
                                                exact absurd H (by simp)
                                            · rw [if_neg c34] at H
                                              exact absurd H (by simp)
                                          · replace c33 := Bool.eq_false_iff.mpr c33
                                            subst c33
                                            have H1 : (spec_l14Last.l2 kj24 l0 l2 a3 x9_1 x10_1 x11_3 x12_2 (wrap64 (x13_3 + 1))) = some r := by rw [if_neg (show ¬ (false = true) by decide)] at H; exact H
                                            clear H
                                            have H := H1
                                            clear H1
                                            have H' := Aside0.mk H
                                            clear H
                                            go_wp2_with (first | ((with_reducible refine gate_callee (f := 44) rfl ?_); refine goesL_ (some 68) rfl rfl Try.func44 (by kernel_rfl) rfl #[.pointer (some ad134), .int .i64 x12_2, .int .i64 x13_3] rfl (by (try simp only [List.map_toArray, List.map_cons, List.map_nil]); first | done | rfl | (simp only [List.length_drop, List.length_take]; rfl)) ?_; (with_reducible refine (spec_l14After.calls _ c0 l0 x12_2 x13_3 t147 false _ ?side1 ?side2 A32.out).mono ?_); (case side1 => repeat (first | exact (Kd.C_below HR0.out HB.out) | (with_reducible refine Kd.C_alloc ?_ _) | (with_reducible refine Kd.C_drewN ?_ _) | (with_reducible refine Kd.C_drew ?_))); (case side2 => exact HC0.out); rintro e w' ⟨rfl, ⟨nd, rfl⟩⟩; refine ⟨_, rfl, ?_⟩))
                                            go_roundg kj24
                                            case measure => have := HK1.out; have := HK2.out; have := HK3.out; have := HJ24.out; omega
                                            case rel => exact ⟨(x11_3), (wrap64 (x13_3 + 1)), (by first | rfl | (simp; done) | (simp [*]; done)), H', ⟨by have := HK1.out; have := HK2.out; have := HK3.out; have := HJ24.out; omega⟩, ⟨by (with_reducible repeat (first | apply Kd.R_alloc | apply Kd.R_drewN | apply Kd.R_drew)); exact HO_9.out⟩, ⟨by (with_reducible repeat (first | apply Kd.R_alloc | apply Kd.R_drewN | apply Kd.R_drew)); exact HO_11.out⟩, ⟨by repeat (first | (with_reducible first | exact HB.out | apply below_alloc | apply pw_below_drewN | apply below_drew1) | exact HB.out)⟩⟩
                                        · replace c31 := Bool.eq_false_iff.mpr c31
                                          subst c31
                                          have H1 : (spec_l14Last.l1 kj24 l0 l2 a3 x9_1 x10_1 x11_3 (wrap64 (x12_2 + 1))) = some r := by rw [if_neg (show ¬ (false = true) by decide)] at H; exact H
                                          clear H
                                          have H := H1
                                          clear H1
                                          have H' := Aside0.mk H
                                          clear H
                                          go_wp2
                                          go_roundg kj24
                                          case measure => have := HK1.out; have := HK2.out; have := HK3.out; have := HJ24.out; omega
                                          case rel => exact ⟨(x11_3), (wrap64 (x12_2 + 1)), (by first | rfl | (simp; done) | (simp [*]; done)), H', ⟨by have := HK1.out; have := HK2.out; have := HK3.out; have := HJ24.out; omega⟩, ⟨by (with_reducible repeat (first | apply Kd.R_alloc | apply Kd.R_drewN | apply Kd.R_drew)); exact HO_9.out⟩, ⟨by (with_reducible repeat (first | apply Kd.R_alloc | apply Kd.R_drewN | apply Kd.R_drew)); exact HO_11.out⟩, ⟨by repeat (first | (with_reducible first | exact HB.out | apply below_alloc | apply pw_below_drewN | apply below_drew1) | exact HB.out)⟩⟩
                              · rw [if_neg c24] at H
                                have c24b0 : decide (x12_2 ≤ ((rd_T26 l0 0).f0)) = false := decide_eq_false c24
                                clear c24
                                have H' := Aside0.mk H
                                clear H
                                have p143 : 0 ≤ (0 : Int) := (by omega)
                                have q143 : 0 < (l0.length : Int) := of_decide_eq_true (by first | (with_reducible assumption) | assumption)
                                obtain ⟨ad143, e143, hx143_0, hx143_1, hx143_2⟩ := at_T26 HR0.out 0 p143 q143
                                obtain rfl : ad134 = ad143 := (by injection e143)
                                have qi143 : (0 < l0.length) = True := eq_true (by omega)
                                (try rw [show ((0 : Int)).toNat = 0 from rfl] at hx143_0)
                                (try rw [show 0 * 3 = 0 from rfl] at hx143_0)
                                (try rw [Addr.add_zero'] at hx143_0)
                                (try rw [show ((0 : Int)).toNat = 0 from rfl] at hx143_1)
                                (try rw [show 0 * 3 = 0 from rfl] at hx143_1)
                                (try rw [Addr.add_zero'] at hx143_1)
                                (try rw [show ((0 : Int)).toNat = 0 from rfl] at hx143_2)
                                (try rw [show 0 * 3 = 0 from rfl] at hx143_2)
                                (try rw [Addr.add_zero'] at hx143_2)
                                replace hx143_0 := (HB.out.cell (World.block_lt_of_cell? w _ hx143_0)).trans hx143_0
                                replace hx143_1 := (HB.out.cell (World.block_lt_of_cell? w _ hx143_1)).trans hx143_1
                                replace hx143_2 := (HB.out.cell (World.block_lt_of_cell? w _ hx143_2)).trans hx143_2
                                replace p143 := eq_true p143
                                replace q143 := eq_true q143
                                go_wp2
                                go_roundg k2
                                case measure => have := HK1.out; have := HK2.out; omega
                                case rel => exact ⟨(x11_2), (wrap64 (x10_1 + 1)), (by first | rfl | (simp; done) | (simp [*]; done)), H', ⟨by have := HK1.out; have := HK2.out; omega⟩, ⟨by (with_reducible repeat (first | apply Kd.R_alloc | apply Kd.R_drewN | apply Kd.R_drew)); exact Kd.R_mono HO_11.out (fun _ hk => trivial)⟩, ⟨by repeat (first | (with_reducible first | exact HB.out | apply below_alloc | apply pw_below_drewN | apply below_drew1) | exact HB.out)⟩⟩
                            · rw [if_neg c23] at H
                              exact absurd H (by simp)
                      · rw [if_neg c20] at H
                        exact absurd H (by simp)
                    · rw [if_neg c19] at H
                      exact absurd H (by simp)
                  · rw [if_neg c17] at H
                    exact absurd H (by simp)
                · rw [if_neg c16] at H
                  have c16b0 : decide (x10_1 < (l2.length : Int)) = false := decide_eq_false c16
                  clear c16
                  obtain rfl := Option.some.inj H
                  go_wp2
                  go_ret
                  exact ⟨_, by first | rfl | (simp [errW_none, errW_some] <;> rfl) | (simp only [← hji6]; first | rfl | (simp [errW_none, errW_some] <;> rfl)) | (simp [*, errW_none, errW_some] <;> rfl), by (with_reducible repeat (first | apply Kd.R_alloc | apply Kd.R_drewN | apply Kd.R_drew)); exact HO_9.out, by repeat (first | (with_reducible first | exact HB.out | apply below_alloc | apply pw_below_drewN | apply below_drew1) | exact HB.out)⟩
          · rw [if_neg c10] at H
            exact absurd H (by simp)
        · rw [if_neg c9] at H
          exact absurd H (by simp)
      · rw [if_neg c8] at H
        exact absurd H (by simp)
    · rw [if_neg c7] at H
      exact absurd H (by simp)
  · rw [if_neg c5] at H
    exact absurd H (by simp)

end Go.Proofs.Ytpdgicpgjmibgaa.PFnExactLastLevels
