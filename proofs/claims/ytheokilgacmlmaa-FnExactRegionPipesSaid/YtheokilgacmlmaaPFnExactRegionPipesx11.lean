-- written by wip/xprint.py, a program of this session, for this claim; not trusted: Lean checks it.
import Derived.Test.YtheokilgacmlmaaPFnExactRegionPipesx0
import Derived.Test.YtheokilgacmlmaaPFnExactRegionPipesx9
import Derived.Test.YtheokilgacmlmaaPFnExactRegionPipesx10
namespace Go.Proofs.Ytheokilgacmlmaa.PFnExactRegionPipes
open Go.RowKit Go.Proofs.YtheokilgacmlmaaW.PrintWords Go.Proofs.YtheokilgacmlmaaW.PrintLast Go.Proofs.YtheokilgacmlmaaW.PrintMore
attribute [local go_sem] leq_less_ max2_int min2_int max_two min_two max_three min_three max_four min_four   -- for this text's walks alone
set_option linter.unusedVariables false
set_option linter.unusedSimpArgs false

/-! ### spec_l18Region: function 58 -/
def spec_l18Region.f (k : Nat) (l0 : List (S33)) (l1 : List (S51)) (a2 : Int) : Option (List Bool × List Bool) := if 0 < (l0.length : Int) then (if 0 ≤ (((rd_T33 l0 0).f1).length : Int) then (if ((((rd_T33 l0 0).f1).length : Int) : Int).toNat ≤ 281474976710656 then ((some (List.replicate ((((rd_T33 l0 0).f1).length : Int) : Int).toNat false : List Bool)).bind fun y265 => (if 0 ≤ (((rd_T33 l0 0).f0).length : Int) then (if ((((rd_T33 l0 0).f0).length : Int) : Int).toNat ≤ 281474976710656 then (if 0 ≤ a2 then (if a2 < (y265.length : Int) then ((spec_l18All.f k (l1.length : Int)).bind fun t273 => ((spec_l18Spread.f k l0 l1 t273 (y265.set (a2 : Int).toNat true) (List.replicate ((((rd_T33 l0 0).f0).length : Int) : Int).toNat false)).bind fun bt276 => (some (bt276.1, bt276.2)))) else (none)) else (none)) else (none)) else (none))) else (none)) else (none)) else (none)
theorem spec_l18Region.mono : ∀ a0 a1 a2 k, LeO (spec_l18Region.f k a0 a1 a2) (spec_l18Region.f (k + 1) a0 a1 a2) := by
 intro a0 a1 a2 k; unfold spec_l18Region.f
 repeat' first
   | (with_reducible exact spec_l18All.mono _ _)
   | (with_reducible exact spec_l18Spread.mono _ _ _ _ _ _)
   | (with_reducible exact LeO.refl _)
   | (with_reducible exact LeO.none _)
   | (with_reducible refine LeO.ite ?_ ?_)
   | (with_reducible refine LeO.bind ?_ (fun _ => ?_))
   | exact spec_l18All.mono _ _
   | exact spec_l18Spread.mono _ _ _ _ _ _
   | exact LeO.none _
   | refine LeO.ite ?_ ?_
   | refine LeO.bind ?_ (fun _ => ?_)
set_option maxHeartbeats 8000000 in
set_option maxRecDepth 100000 in
theorem spec_l18Region.calls (k : Nat) (A0 : Option Addr) (c0 : Nat) (l0 : List (S33)) (A1 : Option Addr) (c1 : Nat) (l1 : List (S51)) (a2 : Int) (r1 : List Bool) (r2 : List Bool) (w : World) (hr0 : Kd.C k33 w A0 l0.length l0) (hc0 : l0.length ≤ c0) (hr1 : Kd.C k51 w A1 l1.length l1) (hc1 : l1.length ≤ c1) (h : spec_l18Region.f k l0 l1 a2 = some (r1, r2)) :
  Calls Try.prog 58 #[.pointer A0, .slice A1 l1.length c1, .int .i64 a2] w fun e w' => ∃ v0_ v1_ : Value, e = .returned (.tuple #[v0_, v1_]) ∧ Kd.R Kd.bool 4 w' w.heap.size (fun k_ => some k_ ≠ (v1_ : Value).ownBlock) v0_ r1 ∧ Kd.R Kd.bool 4 w' w.heap.size (fun k_ => some k_ ≠ (v0_ : Value).ownBlock) v1_ r2 ∧ Below w.heap.size w w' := by
 have HR0 := Aside0.mk hr0; have HC0 := Aside0.mk hc0; clear hr0 hc0; have HR1 := Aside0.mk hr1; have HC1 := Aside0.mk hc1; clear hr1 hc1; have HB := Aside0.mk (Below.refl w.heap.size w); have H : (if 0 < (l0.length : Int) then (if 0 ≤ (((rd_T33 l0 0).f1).length : Int) then (if ((((rd_T33 l0 0).f1).length : Int) : Int).toNat ≤ 281474976710656 then ((some (List.replicate ((((rd_T33 l0 0).f1).length : Int) : Int).toNat false : List Bool)).bind fun y265 => (if 0 ≤ (((rd_T33 l0 0).f0).length : Int) then (if ((((rd_T33 l0 0).f0).length : Int) : Int).toNat ≤ 281474976710656 then (if 0 ≤ a2 then (if a2 < (y265.length : Int) then ((spec_l18All.f k (l1.length : Int)).bind fun t273 => ((spec_l18Spread.f k l0 l1 t273 (y265.set (a2 : Int).toNat true) (List.replicate ((((rd_T33 l0 0).f0).length : Int) : Int).toNat false)).bind fun bt276 => (some (bt276.1, bt276.2)))) else (none)) else (none)) else (none)) else (none))) else (none)) else (none)) else (none)) = some (r1, r2) := h; clear h; by_cases c4 : 0 < (l0.length : Int)
 ·rw [if_pos c4] at H; have c4b0 : decide (0 < (l0.length : Int)) = true := decide_eq_true c4; have c4b1 : decide (0 < l0.length) = true := decide_eq_true t24_; clear c4; by_cases c5 : 0 ≤ (((rd_T33 l0 0).f1).length : Int)
  ·rw [if_pos c5] at H; have c5b0 := eq_true c5; have c5b1 : decide (0 ≤ (((rd_T33 l0 0).f1).length : Int)) = true := decide_eq_true c5; clear c5; by_cases c6 : ((((rd_T33 l0 0).f1).length : Int) : Int).toNat ≤ 281474976710656
   ·rw [if_pos c6] at H; have c6b0 := eq_true c6; have c6b1 : decide (((((rd_T33 l0 0).f1).length : Int) : Int).toNat ≤ 281474976710656) = true := decide_eq_true c6; clear c6; obtain ⟨y265, hy265⟩ : ∃ y_ : List Bool, y_ = (List.replicate ((((rd_T33 l0 0).f1).length : Int) : Int).toNat false) := ⟨_, rfl⟩; replace H : (if 0 ≤ (((rd_T33 l0 0).f0).length : Int) then (if ((((rd_T33 l0 0).f0).length : Int) : Int).toNat ≤ 281474976710656 then (if 0 ≤ a2 then (if a2 < (y265.length : Int) then ((spec_l18All.f k (l1.length : Int)).bind fun t273 => ((spec_l18Spread.f k l0 l1 t273 (y265.set (a2 : Int).toNat true) (List.replicate ((((rd_T33 l0 0).f0).length : Int) : Int).toNat false)).bind fun bt276 => (some (bt276.1, bt276.2)))) else (none)) else (none)) else (none)) else (none)) = some (r1, r2) := (by first | (rw [hy265]; with_reducible exact H) | (have H2_ := (Option.bind_some _ _).symm.trans H; rw [hy265]; with_reducible exact H2_) | (have H2_ := (Option.bind_some _ _).symm.trans H; with_reducible exact H2_) | with_reducible exact H | (rw [hy265]; exact H) | exact H); have Ny265 := Aside0.mk hy265; clear hy265; by_cases c7 : 0 ≤ (((rd_T33 l0 0).f0).length : Int)
    ·rw [if_pos c7] at H; have c7b0 := eq_true c7; have c7b1 : decide (0 ≤ (((rd_T33 l0 0).f0).length : Int)) = true := decide_eq_true c7; clear c7; by_cases c8 : ((((rd_T33 l0 0).f0).length : Int) : Int).toNat ≤ 281474976710656
     ·rw [if_pos c8] at H; have c8b0 := eq_true c8; have c8b1 : decide (((((rd_T33 l0 0).f0).length : Int) : Int).toNat ≤ 281474976710656) = true := decide_eq_true c8; clear c8; obtain ⟨y269, hy269⟩ : ∃ y_ : List Bool, y_ = (List.replicate ((((rd_T33 l0 0).f0).length : Int) : Int).toNat false) := ⟨_, rfl⟩; replace H : (if 0 ≤ a2 then (if a2 < (y265.length : Int) then ((spec_l18All.f k (l1.length : Int)).bind fun t273 => ((spec_l18Spread.f k l0 l1 t273 (y265.set (a2 : Int).toNat true) y269).bind fun bt276 => (some (bt276.1, bt276.2)))) else (none)) else (none)) = some (r1, r2) := (by first | (rw [hy269]; with_reducible exact H) | (have H2_ := (Option.bind_some _ _).symm.trans H; rw [hy269]; with_reducible exact H2_) | (have H2_ := (Option.bind_some _ _).symm.trans H; with_reducible exact H2_) | with_reducible exact H | (rw [hy269]; exact H) | exact H); have Ny269 := Aside0.mk hy269; clear hy269; by_cases c9 : 0 ≤ a2
      ·rw [if_pos c9] at H; have c9b0 : decide (0 ≤ a2) = true := decide_eq_true c9; clear c9; by_cases c10 : a2 < (y265.length : Int)
       ·rw [if_pos c10] at H; have c10b0 : decide (a2 < (y265.length : Int)) = true := decide_eq_true c10; clear c10; obtain ⟨y272, hy272⟩ : ∃ y_ : List Bool, y_ = (y265.set (a2 : Int).toNat true) := ⟨_, rfl⟩; replace H : ((spec_l18All.f k (l1.length : Int)).bind fun t273 => ((spec_l18Spread.f k l0 l1 t273 y272 y269).bind fun bt276 => (some (bt276.1, bt276.2)))) = some (r1, r2) := (by first | (rw [hy272]; with_reducible exact H) | (have H2_ := (Option.bind_some _ _).symm.trans H; rw [hy272]; with_reducible exact H2_) | (have H2_ := (Option.bind_some _ _).symm.trans H; with_reducible exact H2_) | with_reducible exact H | (rw [hy272]; exact H) | exact H); have Ny272 := Aside0.mk hy272; clear hy272; replace H := Option.bind_eq_some_iff.mp H; obtain ⟨t273, A120, H⟩ := H; have A12 := Aside0.mk A120; clear A120; replace H := Option.bind_eq_some_iff.mp H; obtain ⟨⟨t276, t277⟩, A130, H⟩ := H; replace H : (some (t276, t277)) = some (r1, r2) := H; have A13 := Aside0.mk A130; clear A130; simp only [Option.some.injEq, Prod.mk.injEq] at H; obtain ⟨rfl, rfl⟩ := H; have p264 : 0 ≤ (0 : Int) := t24_; have q264 : 0 < (l0.length : Int) := of_decide_eq_true t2_; obtain ⟨ad264, A264_0, c264_0, A264_1, c264_1, e264, hx264_0, hx264_1, hl264_0, hi264_0, hl264_1, hi264_1⟩ := at_T33 HR0.out 0 p264 q264; cases e264; have qi264 : (0 < l0.length) = True := eq_true t24_; (try rw [za_] at hx264_0); (try rw [za_] at hx264_1); have HR264_0 := Aside0.mk hi264_0; have HC264_0 := Aside0.mk hl264_0; clear hi264_0 hl264_0; have HR264_1 := Aside0.mk hi264_1; have HC264_1 := Aside0.mk hl264_1; clear hi264_1 hl264_1; replace p264 := eq_true p264; replace q264 := eq_true q264; go_enter Try.func58, Try.ntmps58; go_wp2_with (first | ((with_reducible refine gate_dst (N := 15) rfl ?_); refine Kd.R_make Kd.bool _ 4 rfl (N := 15) rfl 80 _ _ rfl (((rd_T33 l0 0).f1).length : Int) rfl rfl Try.underlying80 (.bool false) 1 info4 rfl t32_ t24_ false (ok := fun _ => True) (okp := fun _ => True) rfl (fun _ hk => hk) trivial (of_decide_eq_true t2_) (Nat.le_trans (Nat.mul_le_mul_right _ (of_decide_eq_true t2_ : (((rd_T33 l0 0).f1).length : Int).toNat ≤ 281474976710656)) t24_) (Below.refl _ _) (Nat.le_refl _) ?_; intro v266 w14 ho15 hb hg_ hnew_; clear hg_ hnew_; (first | rw [← Ny265.out] at ho15 | (simp only [Int.reduceToNat] at ho15; rw [← Ny265.out] at ho15)); have n0_ := Aside0.mk (Kd.R_lower ho15 (below_size t1_)); have n1_ := Aside0.mk (below_step t1_ hb); clear HB; have HO267 := n0_; have HB := n1_; clear n0_ n1_; clear hb ho15; have p268 : 0 ≤ (0 : Int) := t24_; have q268 : 0 < (l0.length : Int) := of_decide_eq_true t2_; obtain ⟨ad268, A268_0, c268_0, A268_1, c268_1, e268, hx268_0, hx268_1, hl268_0, hi268_0, hl268_1, hi268_1⟩ := at_T33 HR0.out 0 p268 q268; obtain rfl : ad264 = ad268 := (by injection e268); have qi268 : (0 < l0.length) = True := eq_true t24_; (try rw [show ((0 : Int)).toNat = 0 from rfl] at hx268_0); (try rw [show 0 * 2 = 0 from rfl] at hx268_0); (try rw [Addr.add_zero'] at hx268_0); (try rw [show ((0 : Int)).toNat = 0 from rfl] at hx268_1); (try rw [show 0 * 2 = 0 from rfl] at hx268_1); (try rw [Addr.add_zero'] at hx268_1); replace hx268_0 := (HB.out.cell (World.block_lt_of_cell? w _ hx268_0)).trans hx268_0; replace hx268_1 := (HB.out.cell (World.block_lt_of_cell? w _ hx268_1)).trans hx268_1; have HR268_0 := Aside0.mk hi268_0; have HC268_0 := Aside0.mk hl268_0; clear hi268_0 hl268_0; have HR268_1 := Aside0.mk hi268_1; have HC268_1 := Aside0.mk hl268_1; clear hi268_1 hl268_1; replace p268 := eq_true p268; replace q268 := eq_true q268) | ((with_reducible refine gate_dst (N := 21) rfl ?_); refine Kd.R_make Kd.bool _ 4 rfl (N := 21) rfl 80 _ _ rfl (((rd_T33 l0 0).f0).length : Int) rfl rfl Try.underlying80 (.bool false) 1 info4 rfl t32_ t24_ false (ok := fun _ => True) (okp := fun _ => True) rfl (fun _ hk => hk) trivial (of_decide_eq_true t2_) (Nat.le_trans (Nat.mul_le_mul_right _ (of_decide_eq_true t2_ : (((rd_T33 l0 0).f0).length : Int).toNat ≤ 281474976710656)) t24_) (Below.refl _ _) (Nat.le_refl _) ?_; intro v270 w16 ho17 hb hg_ hnew_; clear hg_ hnew_; (first | rw [← Ny269.out] at ho17 | (simp only [Int.reduceToNat] at ho17; rw [← Ny269.out] at ho17)); have n0_ := Aside0.mk (Kd.R_elder' (q2_ HO267.out) (Kd.R_base ho17) hb); have n1_ := Aside0.mk (Kd.R_lower (Kd.R_new' ho17 (Kd.R_lt (q2_ HO267.out))) (below_size t1_)); have n2_ := Aside0.mk (below_step t1_ hb); clear HO267; clear HB; have HO267 := n0_; have HO271 := n1_; have HB := n2_; clear n0_ n1_ n2_; clear hb ho17; have p11 : 0 ≤ (a2 : Int) := of_decide_eq_true t2_; have q11 : (a2 : Int) < ((y265.length : Int) : Int) := of_decide_eq_true t2_; obtain ⟨go11, co11, eo11, gb11, gl11, cl11, HG11⟩ := Kd.R_form HO267.out t24_; (first | cases eo11 | (injection eo11 with ea_ en_ ec_; (first | subst ea_ | (injection ea_ with ea_; subst ea_)); subst ec_; clear en_)); have GB11 := Aside0.mk gb11; have GG11 := Aside0.mk HG11; clear gb11 gl11 HG11; obtain ⟨hx11_0, hf11_0⟩ := Kd.R_celln false HO267.out (a2 : Int) p11 q11; replace p11 := eq_true p11; replace q11 := eq_true q11; have n_ := Aside0.mk (Kd.R_mono (ok' := (fun k_ => some k_ ≠ (v270 : Value).ownBlock)) HO267.out (fun k_ hk => hk.2)); clear HO267; have HO267 := n_; clear n_; obtain ⟨hy18_, hz18_⟩ := Kd.R_celln false HO267.out (a2 : Int) (of_decide_eq_true t2_) (of_decide_eq_true t2_); have HP18 := Kd.R_putg HO267.out (a2 : Int) true) | ((with_reducible refine gate_store (t := 4) (p := 24) rfl ?_); refine store_event (t := 4) (p := 24) (v := ?vo_w19) (w1 := (w16.setCell ⟨go11, (a2 : Int).toNat, none⟩ (.bool true))) ?hg ?ho ?hn ?hr ?_; (case ho => rfl); (case hg => rfl); (case hn => rfl); (case hr => first | (go_simp; done) | (go_simp; rfl)); intro w19 hw; have hg : w16.grownBy w19 (some go11) := (by rw [hw]; exact HP18.2); have hp_ : Kd.R Kd.bool 4 w19 w.heap.size (fun k_ => some k_ ≠ (v270 : Value).ownBlock) (.slice (some ⟨go11, 0, none⟩) y265.length co11) y272 := (by rw [hw, Ny272.out]; exact HP18.1); clear HP18; have n0_ := Aside0.mk (hp_); have n1_ := Aside0.mk (Kd.R_after (v := (.slice (some ⟨go11, 0, none⟩) y265.length co11)) (v1 := (.slice (some ⟨go11, 0, none⟩) y265.length co11)) (ok := (fun _ => True)) (q2_ HO271.out) hg (.inl rfl)); have n2_ := Aside0.mk ((by rw [hw]; exact below_set (HB.out) GB11.out : Below w.heap.size w w19)); clear HO267; clear HO271; clear HB; have HO267 := n0_; have HO271 := n1_; have HB := n2_; clear n0_ n1_ n2_; clear hg hw hp_) | ((with_reducible refine gate_callee (f := 74) rfl ?_); refine goesL_ (some 29) rfl rfl Try.func74 t13_ rfl #[.int .i64 (l1.length : Int)] rfl t3_ ?_; (with_reducible refine (spec_l18All.calls k (l1.length : Int) t273 _ A12.out).mono ?_); rintro e w20 ⟨v274, rfl, ho0, hb⟩; refine ⟨_, rfl, ?_⟩; have n0_ := Aside0.mk (Kd.R_elder' (q2_ HO267.out) (Kd.R_base ho0) hb); have n1_ := Aside0.mk (Kd.R_elder' (q2_ HO271.out) (Kd.R_base ho0) hb); have n2_ := Aside0.mk (Kd.R_lower (Kd.R_new' (Kd.R_new' ho0 (Kd.R_lt (q2_ HO267.out))) (Kd.R_lt (q2_ HO271.out))) (below_size t1_)); have n3_ := Aside0.mk (below_step t1_ hb); clear HO267; clear HO271; clear HB; have HO267 := n0_; have HO271 := n1_; have HO275 := n2_; have HB := n3_; clear n0_ n1_ n2_ n3_; (try clear hb); (try clear hb2); (try clear hk); (try clear hi); (try clear ho0); obtain ⟨Ao21, co21, eo21⟩ := Kd.R_slice HO275.out; subst eo21; obtain ⟨Ao22, co22, eo22⟩ := Kd.R_slice HO271.out; subst eo22) | ((with_reducible refine gate_callee (f := 66) rfl ?_); refine goesL_ (some 32) rfl rfl Try.func66 t13_ rfl #[.pointer (some ad264), .slice A1 l1.length c1, .slice Ao21 t273.length co21, .slice (some ⟨go11, 0, none⟩) y265.length co11, .slice Ao22 y269.length co22] rfl t3_ ?_; (with_reducible refine (spec_l18Spread.calls k _ c0 l0 _ _ l1 _ _ t273 (fun k_ => some k_ = (.slice (some ⟨go11, 0, none⟩) y265.length co11 : Value).ownBlock) (.slice (some ⟨go11, 0, none⟩) y265.length co11) y272 (fun k_ => some k_ = (.slice Ao22 y269.length co22 : Value).ownBlock) (.slice Ao22 y269.length co22) y269 t276 t277 w _ ?side1 ?side2 ?side3 ?side4 ?side5 ?side6 ?side7 ?side8 ?side9 ?side10 ?side11 A13.out).mono ?_); (case side1 => repeat (first | (with_reducible first | exact HB.out | apply below_alloc | apply pw_below_drewN | apply below_drew1) | exact HB.out)); (case side2 => exact Kd.C_kept_came k33_heap HR0.out t1_ (fun k_ hs_ => Or.elim hs_ (fun e_ => (fun e_ => Kd.R_base HO267.out k_ e_.symm) e_) (fun e_ => (fun e_ => Kd.R_base HO271.out k_ e_.symm) e_))); (case side3 => exact HC0.out); (case side4 => exact Kd.C_kept_came k51_heap HR1.out t1_ (fun k_ hs_ => Or.elim hs_ (fun e_ => (fun e_ => Kd.R_base HO267.out k_ e_.symm) e_) (fun e_ => (fun e_ => Kd.R_base HO271.out k_ e_.symm) e_))); (case side5 => exact HC1.out); (case side6 => exact Kd.C_kept_own (HO275.out) (fun k_ hk_ hs_ => Or.elim hs_ (fun e_ => (hk_.1.2) e_) (fun e_ => (hk_.2) e_))); (case side7 => exact (Kd.R_reads' HO275.out).2.1); (case side8 => exact Kd.R_tight rfl HO267.out); (case side9 => exact fun k_ e_ => (HO267.out.1 k_ e_.symm).1); (case side10 => exact Kd.R_tight rfl HO271.out); (case side11 => exact fun k_ e_ => (HO271.out.1 k_ e_.symm).1.2); rintro e w23 ⟨rfl, hy0, hy1, hb, hkp⟩; refine ⟨_, rfl, ?_⟩; have n0_ := Aside0.mk (Kd.R_reok rfl hy0 (fun k_ e_ => HO267.out.1 k_ e_)); have n1_ := Aside0.mk (Kd.R_reok rfl hy1 (fun k_ e_ => HO271.out.1 k_ e_)); have n2_ := Aside0.mk (Kd.R_mono (ok' := fun k_ => some k_ ≠ (.slice (some ⟨go11, 0, none⟩) y265.length co11 : Value).ownBlock ∧ some k_ ≠ (.slice Ao22 y269.length co22 : Value).ownBlock) (Kd.R_keptB (HO275.out) hkp (fun k_ hk_ hs_ => Or.elim hs_ (fun e_ => (hk_.1.2) e_) (fun e_ => (hk_.2) e_))) (fun k_ hk_ => ⟨hk_.1.1.2, hk_.1.2⟩)); have n3_ := Aside0.mk (hb); clear HO267; clear HO271; clear HO275; clear HB; have HO267 := n0_; have HO271 := n1_; have HO275 := n2_; have HB := n3_; clear n0_ n1_ n2_ n3_; (try clear hb); (try clear hkp); (try clear hy0); (try clear hy1))); go_ret2; exact ⟨_, _, t31_, (by (with_reducible repeat (first | apply Kd.R_alloc | apply Kd.R_drewN | apply Kd.R_drew)); exact Kd.R_mono HO267.out (fun _ hk => hk.1)), (by (with_reducible repeat (first | apply Kd.R_alloc | apply Kd.R_drewN | apply Kd.R_drew)); exact Kd.R_mono HO271.out (fun _ hk => hk.1.2)), t1_⟩
       ·rw [if_neg c10] at H; exact absurd H t54_
      ·rw [if_neg c9] at H; exact absurd H t54_
     ·rw [if_neg c8] at H; exact absurd H t54_
    ·rw [if_neg c7] at H; exact absurd H t54_
   ·rw [if_neg c6] at H; exact absurd H t54_
  ·rw [if_neg c5] at H; exact absurd H t54_
 ·rw [if_neg c4] at H; exact absurd H t54_

/-! ### spec_l18Indices: function 59 -/
def spec_l18Indices.l0 : Nat → List Bool → List Int → Int → Option (List Int)
 | 0, _, _, _ => none
 | k + 1, x0, x3, x4 => if x4 < (x0.length : Int) then (if 0 ≤ x4 then (if rdOf false x0 x4 = true then (if x3.length < 17592186044416 then (spec_l18Indices.l0 k x0 (x3 ++ [x4]) (wrap64 (x4 + 1))) else (none)) else (spec_l18Indices.l0 k x0 x3 (wrap64 (x4 + 1)))) else (none)) else (some x3)
def spec_l18Indices.f (k : Nat) (l0 : List Bool) : Option (List Int) := spec_l18Indices.l0 k l0 (([] : List Int)) 0
theorem spec_l18Indices.mono_l : ∀ k, (∀ y0 y1 y2, LeO (spec_l18Indices.l0 k y0 y1 y2) (spec_l18Indices.l0 (k + 1) y0 y1 y2))
 | 0 => fun _ _ _ r h => by simp [spec_l18Indices.l0] at h
 | k + 1 => by
  have ih0 := spec_l18Indices.mono_l k
  ·intro y0 y1 y2
   unfold spec_l18Indices.l0
   repeat' first
   | (with_reducible exact ih0 _ _ _)
   | (with_reducible exact LeO.refl _)
   | (with_reducible exact LeO.none _)
   | (with_reducible refine LeO.ite ?_ ?_)
   | (with_reducible refine LeO.bind ?_ (fun _ => ?_))
   | exact ih0 _ _ _
   | exact LeO.none _
   | refine LeO.ite ?_ ?_
   | refine LeO.bind ?_ (fun _ => ?_)
theorem spec_l18Indices.mono : ∀ a0 k, LeO (spec_l18Indices.f k a0) (spec_l18Indices.f (k + 1) a0) := by
 intro a0 k; have ih0 := spec_l18Indices.mono_l k; unfold spec_l18Indices.f
 repeat' first
   | (with_reducible exact ih0 _ _ _)
   | (with_reducible exact LeO.refl _)
   | (with_reducible exact LeO.none _)
   | (with_reducible refine LeO.ite ?_ ?_)
   | (with_reducible refine LeO.bind ?_ (fun _ => ?_))
   | exact ih0 _ _ _
   | exact LeO.none _
   | refine LeO.ite ?_ ?_
   | refine LeO.bind ?_ (fun _ => ?_)
set_option maxHeartbeats 8000000 in
set_option maxRecDepth 100000 in
theorem spec_l18Indices.calls (k : Nat) (A0 : Option Addr) (c0 : Nat) (l0 : List Bool) (r : List Int) (w : World) (hr0 : Kd.C Kd.bool w A0 l0.length l0) (hc0 : l0.length ≤ c0) (h : spec_l18Indices.f k l0 = some r) :
  Calls Try.prog 59 #[.slice A0 l0.length c0] w fun e w' => ∃ v0_ : Value, e = .returned (v0_) ∧ Kd.R (Kd.int .i64) 2 w' w.heap.size (fun _ => True) v0_ r ∧ Below w.heap.size w w' := by
 have HR0 := Aside0.mk hr0; have HC0 := Aside0.mk hc0; clear hr0 hc0; have HB := Aside0.mk (Below.refl w.heap.size w); have H : (spec_l18Indices.l0 k l0 (([] : List Int)) 0) = some r := h; clear h; obtain ⟨y278, hy278⟩ : ∃ y_ : List Int, y_ = (([] : List Int)) := ⟨_, rfl⟩; replace H : (spec_l18Indices.l0 k l0 y278 0) = some r := (by first | (rw [hy278]; with_reducible exact H) | (have H2_ := (Option.bind_some _ _).symm.trans H; rw [hy278]; with_reducible exact H2_) | (have H2_ := (Option.bind_some _ _).symm.trans H; with_reducible exact H2_) | with_reducible exact H | (rw [hy278]; exact H) | exact H); have Ny278 := Aside0.mk hy278; clear hy278; have H' := Aside0.mk H; clear H; go_enter Try.func59, Try.ntmps59; go_wp2_with (first | ((with_reducible refine gate_dst (N := 5) rfl ?_); refine Kd.R_lit (Kd.int .i64) _ 2 ?hg (N := 5) ?hd (xs := ([] : List Int)) (inner := []) (ok := fun _ => True) (okp := fun _ => True) ?hr ?hp (fun _ hk => hk) trivial (Below.refl _ _) (Nat.le_refl _) t54_ ?_; (case hd => rfl); (case hg => rfl); (case hr => first | (go_simp; done) | (go_simp; rfl)); (case hp => exact (Reps.none _ _)); intro v279 w2 ho3 hb hg_ hnew_; clear hg_ hnew_; (first | rw [← Ny278.out] at ho3 | (simp only [Int.reduceToNat] at ho3; rw [← Ny278.out] at ho3)); have n0_ := Aside0.mk (Kd.R_lower ho3 (below_size t1_)); have n1_ := Aside0.mk (below_step t1_ hb); clear HB; have HO280 := n0_; have HB := n1_; clear n0_ n1_; clear hb ho3)); go_loopg [3, 4] k (fun kq v3 v4 w' => ∃ (x3_1 : List Int) (x4_1 : Int), v4 = .int .i64 x4_1 ∧ Aside0 (spec_l18Indices.l0 kq l0 x3_1 x4_1 = some r) ∧ Aside0 (kq ≤ k) ∧ Aside0 (Kd.R (Kd.int .i64) 2 w' w.heap.size (fun _ => True) v3 x3_1) ∧ Aside0 (Below w.heap.size w w'))
 case atStart => exact ⟨(y278), (0), t7_, H', ⟨Nat.le_refl _⟩, ⟨(by (with_reducible repeat (first | apply Kd.R_alloc | apply Kd.R_drewN | apply Kd.R_drew)); exact HO280.out)⟩, ⟨t1_⟩⟩
 case round =>
  clear H'; (try clear p2); obtain ⟨x3_1, x4_1, rfl, HA, HK1, HO_3, HB⟩ := hrel; cases gk with
  | zero => exact absurd HA.out (by simp [spec_l18Indices.l0])
  | succ k1 =>
   have H := HA.out; clear HA; simp only [spec_l18Indices.l0] at H; by_cases c4 : x4_1 < (l0.length : Int)
   ·rw [if_pos c4] at H; have c4b0 : decide (x4_1 < (l0.length : Int)) = true := decide_eq_true c4; clear c4; by_cases c5 : 0 ≤ x4_1
    ·rw [if_pos c5] at H; have c5b0 : decide (0 ≤ x4_1) = true := decide_eq_true c5; clear c5; obtain ⟨bq6, hbq6⟩ : ∃ b_ : Bool, b_ = (rdOf false l0 x4_1) := ⟨_, rfl⟩; replace H : (if bq6 = true then (if x3_1.length < 17592186044416 then (spec_l18Indices.l0 k1 l0 (x3_1 ++ [x4_1]) (wrap64 (x4_1 + 1))) else (none)) else (spec_l18Indices.l0 k1 l0 x3_1 (wrap64 (x4_1 + 1)))) = some r := (by rw [← hbq6] at H; exact H); have Nbq6 := Aside0.mk hbq6; clear hbq6; by_cases c7 : bq6 = true
     ·subst c7; replace H := (if_pos rfl).symm.trans H; by_cases c8 : x3_1.length < 17592186044416
      ·rw [if_pos c8] at H; have LMc8 := Aside0.mk c8; clear c8; obtain ⟨y282, hy282⟩ : ∃ y_ : List Int, y_ = (x3_1 ++ [x4_1]) := ⟨_, rfl⟩; replace H : (spec_l18Indices.l0 k1 l0 y282 (wrap64 (x4_1 + 1))) = some r := (by first | (rw [hy282]; with_reducible exact H) | (have H2_ := (Option.bind_some _ _).symm.trans H; rw [hy282]; with_reducible exact H2_) | (have H2_ := (Option.bind_some _ _).symm.trans H; with_reducible exact H2_) | with_reducible exact H | (rw [hy282]; exact H) | exact H); have Ny282 := Aside0.mk hy282; clear hy282; have H' := Aside0.mk H; clear H; have p281 : 0 ≤ (x4_1 : Int) := of_decide_eq_true t2_; have q281 : x4_1 < (l0.length : Int) := of_decide_eq_true t2_; obtain ⟨ad281, e281, hx281_0⟩ := Kd.at_bool HR0.out x4_1 p281 q281; (try rw [← Nbq6.out] at hx281_0); cases e281; replace hx281_0 := hb_ HB hx281_0; replace p281 := eq_true p281; replace q281 := eq_true q281; go_wp2_with (first | ((with_reducible refine gate_builtin (b := .append) (xs := #[.tmp 16, .tmp 18]) rfl ?_); at_builtin; refine Kd.R_append (Kd.int .i64) (w0 := w) w.heap.size rfl (.tmp 16) (.tmp 18) 22 2 (.int .i64 0) 8 rfl Try.underlying22 info2 rfl t32_ t24_ u3 x3_1 x4_1 [.int .i64 x4_1] (fun _ => True) (fun _ => False) rfl rfl ?aP (fun _ hk => hk.elim) ?aF ?aO ?aB ?aS ?aL ?_; (case aP => exact rfl); (case aB => exact t1_); (case aF => exact (fun _ _ => trivial)); (case aO => exact (q2_ HO_3.out)); (case aS => exact (below_size t1_)); (case aL => have := LMc8.out; omega); intro v283 w9 ho hb hg hat; rw [← Ny282.out] at ho; have n0_ := Aside0.mk (hb); have n1_ := Aside0.mk (ho); clear HB; clear HO_3; have HB := n0_; have HO284 := n1_; clear n0_ n1_; clear ho hb hg hat)); go_roundg k1
       case measure => have := HK1.out; omega
       case rel => exact ⟨(y282), (wrap64 (x4_1 + 1)), t7_, H', ⟨t51_⟩, ⟨(by (with_reducible repeat (first | apply Kd.R_alloc | apply Kd.R_drewN | apply Kd.R_drew)); exact HO284.out)⟩, ⟨t1_⟩⟩
      ·rw [if_neg c8] at H; exact absurd H t54_
     ·replace c7 := Bool.eq_false_iff.mpr c7; subst c7; replace H := (if_neg (show ¬ (false = true) by decide)).symm.trans H; have H' := Aside0.mk H; clear H; have p281 : 0 ≤ (x4_1 : Int) := of_decide_eq_true t2_; have q281 : x4_1 < (l0.length : Int) := of_decide_eq_true t2_; obtain ⟨ad281, e281, hx281_0⟩ := Kd.at_bool HR0.out x4_1 p281 q281; (try rw [← Nbq6.out] at hx281_0); cases e281; replace hx281_0 := hb_ HB hx281_0; replace p281 := eq_true p281; replace q281 := eq_true q281; go_wp2; go_roundg k1
      case measure => have := HK1.out; omega
      case rel => exact ⟨(x3_1), (wrap64 (x4_1 + 1)), t7_, H', ⟨t51_⟩, ⟨t28_⟩, ⟨t1_⟩⟩
    ·rw [if_neg c5] at H; exact absurd H t54_
   ·rw [if_neg c4] at H; have c4b0 : decide (x4_1 < (l0.length : Int)) = false := decide_eq_false c4; clear c4; obtain rfl := Option.some.inj H; go_wp2; go_ret
    exact ⟨_, t31_, t28_, t1_⟩

/-! ### spec_RegionPipes: function 27 -/
def spec_RegionPipes.f (k : Nat) (l0_0 : List Int) (l0_1 : List (S100)) (l1 : List (S51)) (a2 : Int) : Option (List Int × Int) := (spec_l18Ask.f k [(⟨l0_0, l0_1⟩ : S33)] l1 a2).bind fun t286 => (if t286 = 0 then ((spec_l18Region.f k [(⟨l0_0, l0_1⟩ : S33)] l1 a2).bind fun bt287 => ((spec_l18Indices.f k bt287.1).bind fun t293 => (some (t293, 0)))) else (some (([] : List Int), t286)))
theorem spec_RegionPipes.mono : ∀ a0 a1 a2 a3 k, LeO (spec_RegionPipes.f k a0 a1 a2 a3) (spec_RegionPipes.f (k + 1) a0 a1 a2 a3) := by
 intro a0 a1 a2 a3 k; unfold spec_RegionPipes.f
 repeat' first
   | (with_reducible exact spec_l18Ask.mono _ _ _ _)
   | (with_reducible exact spec_l18Indices.mono _ _)
   | (with_reducible exact spec_l18Region.mono _ _ _ _)
   | (with_reducible exact LeO.refl _)
   | (with_reducible exact LeO.none _)
   | (with_reducible refine LeO.ite ?_ ?_)
   | (with_reducible refine LeO.bind ?_ (fun _ => ?_))
   | exact spec_l18Ask.mono _ _ _ _
   | exact spec_l18Indices.mono _ _
   | exact spec_l18Region.mono _ _ _ _
   | exact LeO.none _
   | refine LeO.ite ?_ ?_
   | refine LeO.bind ?_ (fun _ => ?_)
set_option maxHeartbeats 8000000 in
set_option maxRecDepth 100000 in
theorem spec_RegionPipes.calls (k : Nat) (A0_0 : Option Addr) (c0_0 : Nat) (l0_0 : List Int) (A0_1 : Option Addr) (c0_1 : Nat) (l0_1 : List (S100)) (A1 : Option Addr) (c1 : Nat) (l1 : List (S51)) (a2 : Int) (r1 : List Int) (r2 : Int) (w : World) (hr0_0 : Kd.C (Kd.int .i64) w A0_0 l0_0.length l0_0) (hc0_0 : l0_0.length ≤ c0_0) (hr0_1 : Kd.C k100 w A0_1 l0_1.length l0_1) (hc0_1 : l0_1.length ≤ c0_1) (hr1 : Kd.C k51 w A1 l1.length l1) (hc1 : l1.length ≤ c1) (h : spec_RegionPipes.f k l0_0 l0_1 l1 a2 = some (r1, r2)) :
  Calls Try.prog 27 #[.agg #[.slice A0_0 l0_0.length c0_0, .slice A0_1 l0_1.length c0_1], .slice A1 l1.length c1, .int .i64 a2] w fun e w' => ∃ v0_ : Value, e = .returned (.tuple #[v0_, .int .i64 r2]) ∧ Kd.R (Kd.int .i64) 2 w' w.heap.size (fun _ => True) v0_ r1 ∧ Below w.heap.size w w' := by
 have hu33 := Try.underlying33; have HR0_0 := Aside0.mk hr0_0; have HC0_0 := Aside0.mk hc0_0; clear hr0_0 hc0_0; have HR0_1 := Aside0.mk hr0_1; have HC0_1 := Aside0.mk hc0_1; clear hr0_1 hc0_1; have HR1 := Aside0.mk hr1; have HC1 := Aside0.mk hc1; clear hr1 hc1; have HB := Aside0.mk (Below.refl w.heap.size w); have H : ((spec_l18Ask.f k [(⟨l0_0, l0_1⟩ : S33)] l1 a2).bind fun t286 => (if t286 = 0 then ((spec_l18Region.f k [(⟨l0_0, l0_1⟩ : S33)] l1 a2).bind fun bt287 => ((spec_l18Indices.f k bt287.1).bind fun t293 => (some (t293, 0)))) else (some (([] : List Int), t286)))) = some (r1, r2) := h; clear h; replace H := Option.bind_eq_some_iff.mp H; obtain ⟨t286, A40, H⟩ := H; have A4 := Aside0.mk A40; clear A40; by_cases c5 : t286 = 0
 ·rw [if_pos c5] at H; have c5b0 : (t286 == 0) = true := beq_iff_eq.mpr c5; have c5b1 : (t286 != 0) = false := bne_eq_false_iff_eq.mpr c5; clear c5; replace H := Option.bind_eq_some_iff.mp H; obtain ⟨⟨t287, t288⟩, A60, H⟩ := H; replace H : ((spec_l18Indices.f k t287).bind fun t293 => (some (t293, 0))) = some (r1, r2) := H; have A6 := Aside0.mk A60; clear A60; replace H := Option.bind_eq_some_iff.mp H; obtain ⟨t293, A70, H⟩ := H; have A7 := Aside0.mk A70; clear A70; simp only [Option.some.injEq, Prod.mk.injEq] at H; obtain ⟨rfl, rfl⟩ := H; go_enter Try.func27, Try.ntmps27; go_wp2_with (first | ((with_reducible refine gate_dst (N := 3) rfl ?_); refine box_event ?hg (N := 3) ?hd (cs := #[.slice A0_0 l0_0.length c0_0, .slice A0_1 l0_1.length c0_1]) (t := 33) ?hr ?_; (case hd => rfl); (case hg => rfl); (case hr => first | (go_simp; done) | (go_simp; rfl)); intro gb285 hg w8 hbox hb; have n0_ := Aside0.mk (below_step t1_ hb); have n1_ := Aside0.mk (hbox); have n2_ := Aside0.mk ((by rw [hg]; exact (below_size t1_) : w.heap.size ≤ gb285)); have n3_ := Aside0.mk ((by rw [hg]; exact (below_size t1_) : w.heap.size ≤ gb285)); clear HB; have HB := n0_; have BK285 := n1_; have GW285 := n2_; have GE285 := n3_; clear n0_ n1_ n2_ n3_; clear hb hbox hg) | ((with_reducible refine gate_callee (f := 57) rfl ?_); refine goesL_ (some 13) rfl rfl Try.func57 t13_ rfl #[.pointer (some ⟨gb285, 0, none⟩), .slice A1 l1.length c1, .int .i64 a2] rfl t3_ ?_; (with_reducible refine (spec_l18Ask.calls k _ 1 [(⟨l0_0, l0_1⟩ : S33)] _ _ l1 a2 t286 _ ?side1 ?side2 ?side3 ?side4 A4.out).mono ?_); (case side1 => exact Kd.C_one (k33_mk _ (⟨l0_0, l0_1⟩ : S33) (by exact HC0_0.out) t70_ (by exact HC0_1.out) t69_) (cells_blk (cs := #[.slice A0_0 l0_0.length c0_0, .slice A0_1 l0_1.length c0_1]) (t := 33) (q1_ BK285.out))); (case side2 => exact Nat.le_refl _); (case side3 => exact qc_ (Kd.C_below HR1.out HB.out)); (case side4 => exact HC1.out); rintro e w9 ⟨rfl, hb⟩; refine ⟨_, rfl, ?_⟩; have n0_ := Aside0.mk (blk_below (g := gb285) (o := .cells #[.slice A0_0 l0_0.length c0_0, .slice A0_1 l0_1.length c0_1] 33 (0, 0)) (q1_ BK285.out) hb); have n1_ := Aside0.mk (below_step t25_ hb); clear BK285; clear HB; have BK285 := n0_; have HB := n1_; clear n0_ n1_; (try clear hb); (try clear hb2); (try clear hk); (try clear hi)) | ((with_reducible refine gate_callee (f := 58) rfl ?_); refine goesL_ (some 20) rfl rfl Try.func58 t13_ rfl #[.pointer (some ⟨gb285, 0, none⟩), .slice A1 l1.length c1, .int .i64 a2] rfl t3_ ?_; (with_reducible refine (spec_l18Region.calls k _ 1 [(⟨l0_0, l0_1⟩ : S33)] _ _ l1 a2 t287 t288 _ ?side1 ?side2 ?side3 ?side4 A6.out).mono ?_); (case side1 => exact Kd.C_one (k33_mk _ (⟨l0_0, l0_1⟩ : S33) (by exact HC0_0.out) t70_ (by exact HC0_1.out) t69_) (cells_blk (cs := #[.slice A0_0 l0_0.length c0_0, .slice A0_1 l0_1.length c0_1]) (t := 33) (q1_ BK285.out))); (case side2 => exact Nat.le_refl _); (case side3 => exact qc_ (Kd.C_below HR1.out HB.out)); (case side4 => exact HC1.out); rintro e w10 ⟨v289, v291, rfl, ho0, ho1, hb⟩; refine ⟨_, rfl, ?_⟩; have n0_ := Aside0.mk (Kd.R_lower ho0 (below_size t25_)); have n1_ := Aside0.mk (Kd.R_lower ho1 (below_size t25_)); have n2_ := Aside0.mk (blk_below (g := gb285) (o := .cells #[.slice A0_0 l0_0.length c0_0, .slice A0_1 l0_1.length c0_1] 33 (0, 0)) (q1_ BK285.out) hb); have n3_ := Aside0.mk (below_step t25_ hb); clear BK285; clear HB; have HO290 := n0_; have HO292 := n1_; have BK285 := n2_; have HB := n3_; clear n0_ n1_ n2_ n3_; (try clear hb); (try clear hb2); (try clear hk); (try clear hi); (try clear ho0); (try clear ho1); obtain ⟨Ao11, co11, eo11⟩ := Kd.R_slice HO290.out; subst eo11) | ((with_reducible refine gate_callee (f := 59) rfl ?_); refine goesL_ (some 24) rfl rfl Try.func59 t13_ rfl #[.slice Ao11 t287.length co11] rfl t3_ ?_; (with_reducible refine (spec_l18Indices.calls k _ _ t287 t293 _ ?side1 ?side2 A7.out).mono ?_); (case side1 => repeat (first | exact (Kd.R_reads' HO290.out).2.2 | (with_reducible refine Kd.C_alloc ?_ _) | (with_reducible refine Kd.C_drewN ?_ _) | (with_reducible refine Kd.C_drew ?_))); (case side2 => exact (Kd.R_reads' HO290.out).2.1); rintro e w12 ⟨v294, rfl, ho0, hb⟩; refine ⟨_, rfl, ?_⟩; have n0_ := Aside0.mk (Kd.R_below (q2_ HO290.out) hb); have n1_ := Aside0.mk (Kd.R_below (q2_ HO292.out) hb); have n2_ := Aside0.mk (Kd.R_lower ho0 (below_size t25_)); have n3_ := Aside0.mk (blk_below (g := gb285) (o := .cells #[.slice A0_0 l0_0.length c0_0, .slice A0_1 l0_1.length c0_1] 33 (0, 0)) (q1_ BK285.out) hb); have n4_ := Aside0.mk (below_step t25_ hb); clear HO290; clear HO292; clear BK285; clear HB; have HO290 := n0_; have HO292 := n1_; have HO295 := n2_; have BK285 := n3_; have HB := n4_; clear n0_ n1_ n2_ n3_ n4_; (try clear hb); (try clear hb2); (try clear hk); (try clear hi); (try clear ho0))); go_ret2; exact ⟨_, t31_, (by (with_reducible repeat (first | apply Kd.R_alloc | apply Kd.R_drewN | apply Kd.R_drew)); exact HO295.out), t25_⟩
 ·rw [if_neg c5] at H; have c5b0 : (t286 == 0) = false := beq_eq_false_iff_ne.mpr c5; have c5b1 : (t286 != 0) = true := bne_iff_ne.mpr c5; simp only [Option.some.injEq, Prod.mk.injEq] at H; obtain ⟨rfl, rfl⟩ := H; go_enter Try.func27, Try.ntmps27; go_wp2_with (first | ((with_reducible refine gate_dst (N := 3) rfl ?_); refine box_event ?hg (N := 3) ?hd (cs := #[.slice A0_0 l0_0.length c0_0, .slice A0_1 l0_1.length c0_1]) (t := 33) ?hr ?_; (case hd => rfl); (case hg => rfl); (case hr => first | (go_simp; done) | (go_simp; rfl)); intro gb285 hg w13 hbox hb; have n0_ := Aside0.mk (below_step t1_ hb); have n1_ := Aside0.mk (hbox); have n2_ := Aside0.mk ((by rw [hg]; exact (below_size t1_) : w.heap.size ≤ gb285)); have n3_ := Aside0.mk ((by rw [hg]; exact (below_size t1_) : w.heap.size ≤ gb285)); clear HB; have HB := n0_; have BK285 := n1_; have GW285 := n2_; have GE285 := n3_; clear n0_ n1_ n2_ n3_; clear hb hbox hg) | ((with_reducible refine gate_callee (f := 57) rfl ?_); refine goesL_ (some 13) rfl rfl Try.func57 t13_ rfl #[.pointer (some ⟨gb285, 0, none⟩), .slice A1 l1.length c1, .int .i64 a2] rfl t3_ ?_; (with_reducible refine (spec_l18Ask.calls k _ 1 [(⟨l0_0, l0_1⟩ : S33)] _ _ l1 a2 t286 _ ?side1 ?side2 ?side3 ?side4 A4.out).mono ?_); (case side1 => exact Kd.C_one (k33_mk _ (⟨l0_0, l0_1⟩ : S33) (by exact HC0_0.out) t70_ (by exact HC0_1.out) t69_) (cells_blk (cs := #[.slice A0_0 l0_0.length c0_0, .slice A0_1 l0_1.length c0_1]) (t := 33) (q1_ BK285.out))); (case side2 => exact Nat.le_refl _); (case side3 => exact qc_ (Kd.C_below HR1.out HB.out)); (case side4 => exact HC1.out); rintro e w14 ⟨rfl, hb⟩; refine ⟨_, rfl, ?_⟩; have n0_ := Aside0.mk (blk_below (g := gb285) (o := .cells #[.slice A0_0 l0_0.length c0_0, .slice A0_1 l0_1.length c0_1] 33 (0, 0)) (q1_ BK285.out) hb); have n1_ := Aside0.mk (below_step t25_ hb); clear BK285; clear HB; have BK285 := n0_; have HB := n1_; clear n0_ n1_; (try clear hb); (try clear hb2); (try clear hk); (try clear hi))); go_ret2; exact ⟨_, t31_, (by first | exact Kd.R_nil _ _ _ _ _ | exact Kd.N_nil _ _ _ _ _ | exact Kd.V_nil _ _ _ _ _ | exact Kd.Q_nil _ _ _ _ _ | exact Kd.S_nil _ _ _ _ _), t25_⟩

/-! ### impl_onlyNameBytes: function 106 -/
def impl_onlyNameBytes.l0 : Nat → ByteArray → Int → Int → Option (Bool)
 | 0, _, _, _ => none
 | k + 1, x0, x6, x7 => if x7 < x6 then (if 0 ≤ x7 then (if x7 < (x0.size : Int) then (if (bt x0 x7) < 97 then (if (bt x0 x7) < 48 then (some false) else (if (bt x0 x7) > 57 then (some false) else (impl_onlyNameBytes.l0 k x0 x6 (wrap64 (x7 + 1))))) else (if (bt x0 x7) > 122 then (if (bt x0 x7) < 48 then (some false) else (if (bt x0 x7) > 57 then (some false) else (impl_onlyNameBytes.l0 k x0 x6 (wrap64 (x7 + 1))))) else (impl_onlyNameBytes.l0 k x0 x6 (wrap64 (x7 + 1))))) else (none)) else (none)) else (some true)
def impl_onlyNameBytes.f (k : Nat) (a0 : ByteArray) : Option (Bool) := impl_onlyNameBytes.l0 k a0 (a0.size : Int) 0
theorem impl_onlyNameBytes.mono_l : ∀ k, (∀ y0 y1 y2, LeO (impl_onlyNameBytes.l0 k y0 y1 y2) (impl_onlyNameBytes.l0 (k + 1) y0 y1 y2))
 | 0 => fun _ _ _ r h => by simp [impl_onlyNameBytes.l0] at h
 | k + 1 => by
  have ih0 := impl_onlyNameBytes.mono_l k
  ·intro y0 y1 y2
   unfold impl_onlyNameBytes.l0
   repeat' first
   | (with_reducible exact ih0 _ _ _)
   | (with_reducible exact LeO.refl _)
   | (with_reducible exact LeO.none _)
   | (with_reducible refine LeO.ite ?_ ?_)
   | (with_reducible refine LeO.bind ?_ (fun _ => ?_))
   | exact ih0 _ _ _
   | exact LeO.none _
   | refine LeO.ite ?_ ?_
   | refine LeO.bind ?_ (fun _ => ?_)
theorem impl_onlyNameBytes.mono : ∀ a0 k, LeO (impl_onlyNameBytes.f k a0) (impl_onlyNameBytes.f (k + 1) a0) := by
 intro a0 k; have ih0 := impl_onlyNameBytes.mono_l k; unfold impl_onlyNameBytes.f
 repeat' first
   | (with_reducible exact ih0 _ _ _)
   | (with_reducible exact LeO.refl _)
   | (with_reducible exact LeO.none _)
   | (with_reducible refine LeO.ite ?_ ?_)
   | (with_reducible refine LeO.bind ?_ (fun _ => ?_))
   | exact ih0 _ _ _
   | exact LeO.none _
   | refine LeO.ite ?_ ?_
   | refine LeO.bind ?_ (fun _ => ?_)
set_option maxHeartbeats 8000000 in
set_option maxRecDepth 100000 in
theorem impl_onlyNameBytes.calls (k : Nat) (a0 : ByteArray) (r : Bool) (w : World) (h : impl_onlyNameBytes.f k a0 = some r) :
  Calls Try.prog 106 #[.string a0] w fun e w' => e = .returned (.bool r) ∧ Drawn0 w w' := by
 have H : (impl_onlyNameBytes.l0 k a0 (a0.size : Int) 0) = some r := h; clear h; have H' := Aside0.mk H; clear H; go_enter Try.func106, Try.ntmps106; go_wp2; go_loopg [7] k (fun kq v7 w' => ∃ (x7_1 : Int), v7 = .int .i64 x7_1 ∧ Aside0 (impl_onlyNameBytes.l0 kq a0 (a0.size : Int) x7_1 = some r) ∧ Aside0 (kq ≤ k) ∧ Drawn0 w w')
 case atStart => exact ⟨(0), t7_, H', ⟨Nat.le_refl _⟩, t15_⟩
 case round =>
  clear H'; (try clear c1); obtain ⟨x7_1, rfl, HA, HK1, ⟨m1, rfl⟩⟩ := hrel; cases gk with
  | zero => exact absurd HA.out (by simp [impl_onlyNameBytes.l0])
  | succ k1 =>
   have H := HA.out; clear HA; simp only [impl_onlyNameBytes.l0] at H; by_cases c2 : x7_1 < (a0.size : Int)
   ·rw [if_pos c2] at H; have c2b0 : decide (x7_1 < (a0.size : Int)) = true := decide_eq_true c2; clear c2; by_cases c3 : 0 ≤ x7_1
    ·rw [if_pos c3] at H; have c3b0 : decide (0 ≤ x7_1) = true := decide_eq_true c3; clear c3; by_cases c4 : x7_1 < (a0.size : Int)
     ·rw [if_pos c4] at H; have c4b0 : decide (x7_1 < (a0.size : Int)) = true := decide_eq_true c4; clear c4; by_cases c6 : (bt a0 x7_1) < 97
      ·rw [if_pos c6] at H; have c6b0 : decide ((bt a0 x7_1) < 97) = true := decide_eq_true c6; clear c6; by_cases c7 : (bt a0 x7_1) < 48
       ·rw [if_pos c7] at H; have c7b0 : decide ((bt a0 x7_1) < 48) = true := decide_eq_true c7; clear c7; obtain rfl := Option.some.inj H; have p5 : 0 ≤ (x7_1 : Int) := of_decide_eq_true t2_; have q5 : x7_1 < (a0.size : Int) := of_decide_eq_true t2_; have hx5 := bt_at a0 x7_1; replace p5 := eq_true p5; replace q5 := eq_true q5; go_wp2; go_ret
        exact ⟨t7_, t15_⟩
       ·rw [if_neg c7] at H; have c7b0 : decide ((bt a0 x7_1) < 48) = false := decide_eq_false c7; clear c7; by_cases c8 : (bt a0 x7_1) > 57
        ·rw [if_pos c8] at H; have c8b0 : decide (57 < (bt a0 x7_1)) = true := decide_eq_true c8; clear c8; obtain rfl := Option.some.inj H; have p5 : 0 ≤ (x7_1 : Int) := of_decide_eq_true t2_; have q5 : x7_1 < (a0.size : Int) := of_decide_eq_true t2_; have hx5 := bt_at a0 x7_1; replace p5 := eq_true p5; replace q5 := eq_true q5; go_wp2; go_ret
         exact ⟨t7_, t15_⟩
        ·rw [if_neg c8] at H; have c8b0 : decide (57 < (bt a0 x7_1)) = false := decide_eq_false c8; clear c8; have H' := Aside0.mk H; clear H; have p5 : 0 ≤ (x7_1 : Int) := of_decide_eq_true t2_; have q5 : x7_1 < (a0.size : Int) := of_decide_eq_true t2_; have hx5 := bt_at a0 x7_1; replace p5 := eq_true p5; replace q5 := eq_true q5; go_wp2; go_roundg k1
         case measure => have := HK1.out; omega
         case rel => exact ⟨(wrap64 (x7_1 + 1)), t7_, H', ⟨t51_⟩, t15_⟩
      ·rw [if_neg c6] at H; have c6b0 : decide ((bt a0 x7_1) < 97) = false := decide_eq_false c6; clear c6; by_cases c9 : (bt a0 x7_1) > 122
       ·rw [if_pos c9] at H; have c9b0 : decide (122 < (bt a0 x7_1)) = true := decide_eq_true c9; clear c9; by_cases c10 : (bt a0 x7_1) < 48
        ·rw [if_pos c10] at H; have c10b0 : decide ((bt a0 x7_1) < 48) = true := decide_eq_true c10; clear c10; obtain rfl := Option.some.inj H; have p5 : 0 ≤ (x7_1 : Int) := of_decide_eq_true t2_; have q5 : x7_1 < (a0.size : Int) := of_decide_eq_true t2_; have hx5 := bt_at a0 x7_1; replace p5 := eq_true p5; replace q5 := eq_true q5; go_wp2; go_ret
         exact ⟨t7_, t15_⟩
        ·rw [if_neg c10] at H; have c10b0 : decide ((bt a0 x7_1) < 48) = false := decide_eq_false c10; clear c10; by_cases c11 : (bt a0 x7_1) > 57
         ·rw [if_pos c11] at H; have c11b0 : decide (57 < (bt a0 x7_1)) = true := decide_eq_true c11; clear c11; obtain rfl := Option.some.inj H; have p5 : 0 ≤ (x7_1 : Int) := of_decide_eq_true t2_; have q5 : x7_1 < (a0.size : Int) := of_decide_eq_true t2_; have hx5 := bt_at a0 x7_1; replace p5 := eq_true p5; replace q5 := eq_true q5; go_wp2; go_ret
          exact ⟨t7_, t15_⟩
         ·rw [if_neg c11] at H; have c11b0 : decide (57 < (bt a0 x7_1)) = false := decide_eq_false c11; clear c11; have H' := Aside0.mk H; clear H; have p5 : 0 ≤ (x7_1 : Int) := of_decide_eq_true t2_; have q5 : x7_1 < (a0.size : Int) := of_decide_eq_true t2_; have hx5 := bt_at a0 x7_1; replace p5 := eq_true p5; replace q5 := eq_true q5; go_wp2; go_roundg k1
          case measure => have := HK1.out; omega
          case rel => exact ⟨(wrap64 (x7_1 + 1)), t7_, H', ⟨t51_⟩, t15_⟩
       ·rw [if_neg c9] at H; have c9b0 : decide (122 < (bt a0 x7_1)) = false := decide_eq_false c9; clear c9; have H' := Aside0.mk H; clear H; have p5 : 0 ≤ (x7_1 : Int) := of_decide_eq_true t2_; have q5 : x7_1 < (a0.size : Int) := of_decide_eq_true t2_; have hx5 := bt_at a0 x7_1; replace p5 := eq_true p5; replace q5 := eq_true q5; go_wp2; go_roundg k1
        case measure => have := HK1.out; omega
        case rel => exact ⟨(wrap64 (x7_1 + 1)), t7_, H', ⟨t51_⟩, t15_⟩
     ·rw [if_neg c4] at H; exact absurd H t54_
    ·rw [if_neg c3] at H; exact absurd H t54_
   ·rw [if_neg c2] at H; have c2b0 : decide (x7_1 < (a0.size : Int)) = false := decide_eq_false c2; clear c2; obtain rfl := Option.some.inj H; go_wp2; go_ret
    exact ⟨t7_, t15_⟩

/-! ### impl_IsName: function 76 -/
def impl_IsName.f (k : Nat) (a0 : ByteArray) : Option (Bool) := if (a0.size : Int) < 1 then (some false) else (if (a0.size : Int) > 10 then (some false) else (if 0 < (a0.size : Int) then (if (bt a0 0) < 97 then (some false) else (if (bt a0 0) > 122 then (some false) else ((impl_onlyNameBytes.f k a0).bind fun t296 => (some t296)))) else (none)))
theorem impl_IsName.mono : ∀ a0 k, LeO (impl_IsName.f k a0) (impl_IsName.f (k + 1) a0) := by
 intro a0 k; unfold impl_IsName.f
 repeat' first
   | (with_reducible exact impl_onlyNameBytes.mono _ _)
   | (with_reducible exact LeO.refl _)
   | (with_reducible exact LeO.none _)
   | (with_reducible refine LeO.ite ?_ ?_)
   | (with_reducible refine LeO.bind ?_ (fun _ => ?_))
   | exact impl_onlyNameBytes.mono _ _
   | exact LeO.none _
   | refine LeO.ite ?_ ?_
   | refine LeO.bind ?_ (fun _ => ?_)
set_option maxHeartbeats 8000000 in
set_option maxRecDepth 100000 in
theorem impl_IsName.calls (k : Nat) (a0 : ByteArray) (r : Bool) (w : World) (h : impl_IsName.f k a0 = some r) :
  Calls Try.prog 76 #[.string a0] w fun e w' => e = .returned (.bool r) ∧ Drawn0 w w' := by
 have H : (if (a0.size : Int) < 1 then (some false) else (if (a0.size : Int) > 10 then (some false) else (if 0 < (a0.size : Int) then (if (bt a0 0) < 97 then (some false) else (if (bt a0 0) > 122 then (some false) else ((impl_onlyNameBytes.f k a0).bind fun t296 => (some t296)))) else (none)))) = some r := h; clear h; by_cases c2 : (a0.size : Int) < 1
 ·rw [if_pos c2] at H; have c2b0 : decide ((a0.size : Int) < 1) = true := decide_eq_true c2; have c2b1 : decide (a0.size < 1) = true := decide_eq_true t24_; clear c2; obtain rfl := Option.some.inj H; go_enter Try.func76, Try.ntmps76; go_wp2; go_ret
  exact ⟨t7_, t15_⟩
 ·rw [if_neg c2] at H; have c2b0 : decide ((a0.size : Int) < 1) = false := decide_eq_false c2; have c2b1 : decide (a0.size < 1) = false := decide_eq_false t24_; clear c2; by_cases c3 : (a0.size : Int) > 10
  ·rw [if_pos c3] at H; have c3b0 : decide (10 < (a0.size : Int)) = true := decide_eq_true c3; have c3b1 : decide (10 < a0.size) = true := decide_eq_true t24_; clear c3; obtain rfl := Option.some.inj H; go_enter Try.func76, Try.ntmps76; go_wp2; go_ret
   exact ⟨t7_, t15_⟩
  ·rw [if_neg c3] at H; have c3b0 : decide (10 < (a0.size : Int)) = false := decide_eq_false c3; have c3b1 : decide (10 < a0.size) = false := decide_eq_false t24_; clear c3; by_cases c4 : 0 < (a0.size : Int)
   ·rw [if_pos c4] at H; have c4b0 : decide (0 < (a0.size : Int)) = true := decide_eq_true c4; have c4b1 : decide (0 < a0.size) = true := decide_eq_true t24_; clear c4; by_cases c6 : (bt a0 0) < 97
    ·rw [if_pos c6] at H; have c6b0 : decide ((bt a0 0) < 97) = true := decide_eq_true c6; clear c6; obtain rfl := Option.some.inj H; have p5 : 0 ≤ (0 : Int) := t24_; have q5 : 0 < a0.size := (by have : (0 : Int) < (a0.size : Int) := of_decide_eq_true t2_; omega); have hx5 : ∀ h : 0 < a0.size, ((a0[0]'h).toNat : Int) = bt a0 0 := bt_at a0 0; clear p5; have qi5 : (0 < (a0.size : Int)) = True := eq_true (of_decide_eq_true t2_); replace q5 := eq_true q5; go_enter Try.func76, Try.ntmps76; go_wp2; go_ret
     exact ⟨t7_, t15_⟩
    ·rw [if_neg c6] at H; have c6b0 : decide ((bt a0 0) < 97) = false := decide_eq_false c6; clear c6; by_cases c8 : (bt a0 0) > 122
     ·rw [if_pos c8] at H; have c8b0 : decide (122 < (bt a0 0)) = true := decide_eq_true c8; clear c8; obtain rfl := Option.some.inj H; have p5 : 0 ≤ (0 : Int) := t24_; have q5 : 0 < a0.size := (by have : (0 : Int) < (a0.size : Int) := of_decide_eq_true t2_; omega); have hx5 : ∀ h : 0 < a0.size, ((a0[0]'h).toNat : Int) = bt a0 0 := bt_at a0 0; clear p5; have qi5 : (0 < (a0.size : Int)) = True := eq_true (of_decide_eq_true t2_); replace q5 := eq_true q5; have p7 : 0 ≤ (0 : Int) := t24_; have q7 : 0 < a0.size := (by have : (0 : Int) < (a0.size : Int) := of_decide_eq_true t2_; omega); have hx7 : ∀ h : 0 < a0.size, ((a0[0]'h).toNat : Int) = bt a0 0 := bt_at a0 0; clear p7; have qi7 : (0 < (a0.size : Int)) = True := eq_true (of_decide_eq_true t2_); replace q7 := eq_true q7; go_enter Try.func76, Try.ntmps76; go_wp2; go_ret
      exact ⟨t7_, t15_⟩
     ·rw [if_neg c8] at H; have c8b0 : decide (122 < (bt a0 0)) = false := decide_eq_false c8; clear c8; replace H := Option.bind_eq_some_iff.mp H; obtain ⟨t296, A90, H⟩ := H; have A9 := Aside0.mk A90; clear A90; obtain rfl := Option.some.inj H; have p5 : 0 ≤ (0 : Int) := t24_; have q5 : 0 < a0.size := (by have : (0 : Int) < (a0.size : Int) := of_decide_eq_true t2_; omega); have hx5 : ∀ h : 0 < a0.size, ((a0[0]'h).toNat : Int) = bt a0 0 := bt_at a0 0; clear p5; have qi5 : (0 < (a0.size : Int)) = True := eq_true (of_decide_eq_true t2_); replace q5 := eq_true q5; have p7 : 0 ≤ (0 : Int) := t24_; have q7 : 0 < a0.size := (by have : (0 : Int) < (a0.size : Int) := of_decide_eq_true t2_; omega); have hx7 : ∀ h : 0 < a0.size, ((a0[0]'h).toNat : Int) = bt a0 0 := bt_at a0 0; clear p7; have qi7 : (0 < (a0.size : Int)) = True := eq_true (of_decide_eq_true t2_); replace q7 := eq_true q7; go_enter Try.func76, Try.ntmps76; go_wp2_with (first | ((with_reducible refine gate_callee (f := 106) rfl ?_); refine goesL_ (some 22) rfl rfl Try.func106 t13_ rfl #[.string a0] rfl t3_ ?_; (with_reducible refine (impl_onlyNameBytes.calls k a0 t296 _ A9.out).mono ?_); rintro e w' ⟨rfl, ⟨nd, rfl⟩⟩; refine ⟨_, rfl, ?_⟩)); go_ret
      exact ⟨t7_, t15_⟩
   ·rw [if_neg c4] at H; exact absurd H t54_

-- function 107 is told at each closure that it is handed

-- function 77 is told at each closure that it is handed

-- function 109 is told at each closure that it is handed

/-! ### impl_Network_pipeNamed_1: function 110 -/
def impl_Network_pipeNamed_1.f (a0_0 : ByteArray) (a0_1 : Int) (a0_2 : Int) (a0_3 : Int) (a0_4 : Int) (a0_5 : Int) (l1 : List ByteArray) : Option (Bool) := if 0 < (l1.length : Int) then (some (a0_0.toList == (rdOf ByteArray.empty l1 0).toList)) else (none)
set_option maxHeartbeats 8000000 in
set_option maxRecDepth 100000 in
theorem impl_Network_pipeNamed_1.calls (a0_0 : ByteArray) (a0_1 : Int) (a0_2 : Int) (a0_3 : Int) (a0_4 : Int) (a0_5 : Int) (A1 : Option Addr) (c1 : Nat) (l1 : List ByteArray) (r : Bool) (w : World) (hr1 : Kd.C Kd.string w A1 l1.length l1) (hc1 : l1.length ≤ c1) (h : impl_Network_pipeNamed_1.f a0_0 a0_1 a0_2 a0_3 a0_4 a0_5 l1 = some r) :
  Calls Try.prog 110 #[.agg #[.string a0_0, .int .i64 a0_1, .int .i64 a0_2, .int .i64 a0_3, .int .i64 a0_4, .int .i64 a0_5], .pointer A1] w fun e w' => e = .returned (.bool r) ∧ Below w.heap.size w w' := by
 have hu100 := Try.underlying100; have HR1 := Aside0.mk hr1; have HC1 := Aside0.mk hc1; clear hr1 hc1; have HB := Aside0.mk (Below.refl w.heap.size w); have H : (if 0 < (l1.length : Int) then (some (a0_0.toList == (rdOf ByteArray.empty l1 0).toList)) else (none)) = some r := h; clear h; by_cases c3 : 0 < (l1.length : Int)
 ·rw [if_pos c3] at H; have c3b0 : decide (0 < (l1.length : Int)) = true := decide_eq_true c3; have c3b1 : decide (0 < l1.length) = true := decide_eq_true t24_; clear c3; obtain rfl := Option.some.inj H; go_enter Try.func110, Try.ntmps110; go_wp2_with (first | ((with_reducible refine gate_dst (N := 2) rfl ?_); refine box_event ?hg (N := 2) ?hd (cs := #[.string a0_0, .int .i64 a0_1, .int .i64 a0_2, .int .i64 a0_3, .int .i64 a0_4, .int .i64 a0_5]) (t := 100) ?hr ?_; (case hd => rfl); (case hg => rfl); (case hr => first | (go_simp; done) | (go_simp; rfl)); intro gb297 hg w4 hbox hb; have n0_ := Aside0.mk (below_step t1_ hb); have n1_ := Aside0.mk (hbox); have n2_ := Aside0.mk ((by rw [hg]; exact (below_size t1_) : w.heap.size ≤ gb297)); have n3_ := Aside0.mk ((by rw [hg]; exact (below_size t1_) : w.heap.size ≤ gb297)); clear HB; have HB := n0_; have BK297 := n1_; have GW297 := n2_; have GE297 := n3_; clear n0_ n1_ n2_ n3_; clear hb hbox hg; have ⟨hcz5_0, hcz5_1, hcz5_2, hcz5_3, hcz5_4, hcz5_5, hfz5_0, hfz5_1, hfz5_2, hfz5_3, hfz5_4, hfz5_5⟩ := bc6_ BK297.out; have p298 : 0 ≤ (0 : Int) := t24_; have q298 : 0 < (l1.length : Int) := of_decide_eq_true t2_; obtain ⟨ad298, e298, hx298_0⟩ := Kd.at_string HR1.out 0 p298 q298; cases e298; have qi298 : (0 < l1.length) = True := eq_true t24_; (try rw [show ((0 : Int)).toNat = 0 from rfl] at hx298_0); (try rw [Addr.add_zero'] at hx298_0); replace hx298_0 := (HB.out.cell (World.block_lt_of_cell? w _ hx298_0)).trans hx298_0; replace p298 := eq_true p298; replace q298 := eq_true q298)); go_ret
  exact ⟨t4_, (by repeat (first | (with_reducible first | exact HB.out | apply below_alloc | apply pw_below_drewN | apply below_drew1 | refine below_set ?_ GE297.out) | exact HB.out))⟩
 ·rw [if_neg c3] at H; exact absurd H t54_

/-! ### impl_Pipe_c110: function 109 -/
def impl_Pipe_c110.l0 : Nat → List (S100) → Int → Int → List ByteArray → Option (Int)
 | 0, _, _, _, _ => none
 | k + 1, x0, x7, x8, x910 => if x8 < x7 then (if 0 ≤ x8 then (if x8 < (x0.length : Int) then ((impl_Network_pipeNamed_1.f ((rd_T100 x0 x8).f0) ((rd_T100 x0 x8).f1) ((rd_T100 x0 x8).f2) ((rd_T100 x0 x8).f3) ((rd_T100 x0 x8).f4) ((rd_T100 x0 x8).f5) x910).bind fun t302 => (if t302 = true then (some x8) else (impl_Pipe_c110.l0 k x0 x7 (wrap64 (x8 + 1)) x910))) else (none)) else (none)) else (some (-1))
def impl_Pipe_c110.f (k : Nat) (l0 : List (S100)) (l1_0 : List ByteArray) : Option (Int) := impl_Pipe_c110.l0 k l0 (l0.length : Int) 0 l1_0
theorem impl_Pipe_c110.mono_l : ∀ k, (∀ y0 y1 y2 y3, LeO (impl_Pipe_c110.l0 k y0 y1 y2 y3) (impl_Pipe_c110.l0 (k + 1) y0 y1 y2 y3))
 | 0 => fun _ _ _ _ r h => by simp [impl_Pipe_c110.l0] at h
 | k + 1 => by
  have ih0 := impl_Pipe_c110.mono_l k
  ·intro y0 y1 y2 y3
   unfold impl_Pipe_c110.l0
   repeat' first
   | (with_reducible exact ih0 _ _ _ _)
   | (with_reducible exact LeO.refl _)
   | (with_reducible exact LeO.none _)
   | (with_reducible refine LeO.ite ?_ ?_)
   | (with_reducible refine LeO.bind ?_ (fun _ => ?_))
   | exact ih0 _ _ _ _
   | exact LeO.none _
   | refine LeO.ite ?_ ?_
   | refine LeO.bind ?_ (fun _ => ?_)
theorem impl_Pipe_c110.mono : ∀ a0 a1 k, LeO (impl_Pipe_c110.f k a0 a1) (impl_Pipe_c110.f (k + 1) a0 a1) := by
 intro a0 a1 k; have ih0 := impl_Pipe_c110.mono_l k; unfold impl_Pipe_c110.f
 repeat' first
   | (with_reducible exact ih0 _ _ _ _)
   | (with_reducible exact LeO.refl _)
   | (with_reducible exact LeO.none _)
   | (with_reducible refine LeO.ite ?_ ?_)
   | (with_reducible refine LeO.bind ?_ (fun _ => ?_))
   | exact ih0 _ _ _ _
   | exact LeO.none _
   | refine LeO.ite ?_ ?_
   | refine LeO.bind ?_ (fun _ => ?_)
set_option maxHeartbeats 8000000 in
set_option maxRecDepth 100000 in
theorem impl_Pipe_c110.calls (k : Nat) (A0 : Option Addr) (c0 : Nat) (l0 : List (S100)) (A1_0 : Option Addr) (c1_0 : Nat) (l1_0 : List ByteArray) (r : Int) (w : World) (hr0 : Kd.C k100 w A0 l0.length l0) (hc0 : l0.length ≤ c0) (hr1_0 : Kd.C Kd.string w A1_0 l1_0.length l1_0) (hc1_0 : l1_0.length ≤ c1_0) (h : impl_Pipe_c110.f k l0 l1_0 = some r) :
  Calls Try.prog 109 #[.slice A0 l0.length c0, .func (.func 110) #[] #[.pointer A1_0]] w fun e w' => e = .returned (.int .i64 r) ∧ Below w.heap.size w w' := by
 have hu100 := Try.underlying100; have HR0 := Aside0.mk hr0; have HC0 := Aside0.mk hc0; clear hr0 hc0; have HR1_0 := Aside0.mk hr1_0; have HC1_0 := Aside0.mk hc1_0; clear hr1_0 hc1_0; have HB := Aside0.mk (Below.refl w.heap.size w); have H : (impl_Pipe_c110.l0 k l0 (l0.length : Int) 0 l1_0) = some r := h; clear h; have H' := Aside0.mk H; clear H; go_enter Try.func109, Try.ntmps109; go_wp2; go_loopg [8] k (fun kq v8 w' => ∃ (x8_1 : Int), v8 = .int .i64 x8_1 ∧ Aside0 (impl_Pipe_c110.l0 kq l0 (l0.length : Int) x8_1 l1_0 = some r) ∧ Aside0 (kq ≤ k) ∧ Aside0 (Below w.heap.size w w'))
 case atStart => exact ⟨(0), t7_, H', ⟨Nat.le_refl _⟩, ⟨t1_⟩⟩
 case round =>
  clear H'; (try clear c1); (try clear p2); obtain ⟨x8_1, rfl, HA, HK1, HB⟩ := hrel; cases gk with
  | zero => exact absurd HA.out (by simp [impl_Pipe_c110.l0])
  | succ k1 =>
   have H := HA.out; clear HA; simp only [impl_Pipe_c110.l0] at H; by_cases c3 : x8_1 < (l0.length : Int)
   ·rw [if_pos c3] at H; have c3b0 : decide (x8_1 < (l0.length : Int)) = true := decide_eq_true c3; clear c3; by_cases c4 : 0 ≤ x8_1
    ·rw [if_pos c4] at H; have c4b0 : decide (0 ≤ x8_1) = true := decide_eq_true c4; clear c4; by_cases c5 : x8_1 < (l0.length : Int)
     ·rw [if_pos c5] at H; have c5b0 : decide (x8_1 < (l0.length : Int)) = true := decide_eq_true c5; clear c5; replace H := Option.bind_eq_some_iff.mp H; obtain ⟨t302, A60, H⟩ := H; have A6 := Aside0.mk A60; clear A60; by_cases c7 : t302 = true
      ·subst c7; replace H := (if_pos rfl).symm.trans H; obtain rfl := Option.some.inj H; have p301 : 0 ≤ (x8_1 : Int) := of_decide_eq_true t2_; have q301 : x8_1 < (l0.length : Int) := of_decide_eq_true t2_; obtain ⟨ad301, e301, hx301_0, hx301_1, hx301_2, hx301_3, hx301_4, hx301_5⟩ := at_T100 HR0.out x8_1 p301 q301; cases e301; replace hx301_0 := hb_ HB hx301_0; replace hx301_1 := hb_ HB hx301_1; replace hx301_2 := hb_ HB hx301_2; replace hx301_3 := hb_ HB hx301_3; replace hx301_4 := hb_ HB hx301_4; replace hx301_5 := hb_ HB hx301_5; replace p301 := eq_true p301; replace q301 := eq_true q301; go_wp2_with (first | (go_at_call 110; (with_reducible refine (impl_Network_pipeNamed_1.calls ((rd_T100 l0 x8_1).f0) ((rd_T100 l0 x8_1).f1) ((rd_T100 l0 x8_1).f2) ((rd_T100 l0 x8_1).f3) ((rd_T100 l0 x8_1).f4) ((rd_T100 l0 x8_1).f5) _ c1_0 l1_0 true _ ?side1 ?side2 A6.out).mono ?_); (case side1 => exact qc_ (Kd.C_below HR1_0.out HB.out)); (case side2 => exact HC1_0.out); rintro e w8 ⟨rfl, hb⟩; have n0_ := Aside0.mk (below_step t1_ hb); clear HB; have HB := n0_; clear n0_; (try clear hb); (try clear hb2); (try clear hk); (try clear hi))); go_ret
       exact ⟨t4_, t1_⟩
      ·replace c7 := Bool.eq_false_iff.mpr c7; subst c7; replace H := (if_neg (show ¬ (false = true) by decide)).symm.trans H; have H' := Aside0.mk H; clear H; have p301 : 0 ≤ (x8_1 : Int) := of_decide_eq_true t2_; have q301 : x8_1 < (l0.length : Int) := of_decide_eq_true t2_; obtain ⟨ad301, e301, hx301_0, hx301_1, hx301_2, hx301_3, hx301_4, hx301_5⟩ := at_T100 HR0.out x8_1 p301 q301; cases e301; replace hx301_0 := hb_ HB hx301_0; replace hx301_1 := hb_ HB hx301_1; replace hx301_2 := hb_ HB hx301_2; replace hx301_3 := hb_ HB hx301_3; replace hx301_4 := hb_ HB hx301_4; replace hx301_5 := hb_ HB hx301_5; replace p301 := eq_true p301; replace q301 := eq_true q301; go_wp2_with (first | (go_at_call 110; (with_reducible refine (impl_Network_pipeNamed_1.calls ((rd_T100 l0 x8_1).f0) ((rd_T100 l0 x8_1).f1) ((rd_T100 l0 x8_1).f2) ((rd_T100 l0 x8_1).f3) ((rd_T100 l0 x8_1).f4) ((rd_T100 l0 x8_1).f5) _ c1_0 l1_0 false _ ?side1 ?side2 A6.out).mono ?_); (case side1 => exact qc_ (Kd.C_below HR1_0.out HB.out)); (case side2 => exact HC1_0.out); rintro e w9 ⟨rfl, hb⟩; have n0_ := Aside0.mk (below_step t1_ hb); clear HB; have HB := n0_; clear n0_; (try clear hb); (try clear hb2); (try clear hk); (try clear hi))); go_roundg k1
       case measure => have := HK1.out; omega
       case rel => exact ⟨(wrap64 (x8_1 + 1)), t7_, H', ⟨t51_⟩, ⟨t1_⟩⟩
     ·rw [if_neg c5] at H; exact absurd H t54_
    ·rw [if_neg c4] at H; exact absurd H t54_
   ·rw [if_neg c3] at H; have c3b0 : decide (x8_1 < (l0.length : Int)) = false := decide_eq_false c3; clear c3; obtain rfl := Option.some.inj H; go_wp2; go_ret
    exact ⟨t4_, t1_⟩

/-! ### impl_Network_pipeNamed: function 82 -/
def impl_Network_pipeNamed.f (k : Nat) (l0_0 : List Int) (l0_1 : List (S100)) (a1 : ByteArray) : Option (Int) := (impl_Pipe_c110.f k l0_1 [a1]).bind fun t305 => (some t305)
theorem impl_Network_pipeNamed.mono : ∀ a0 a1 a2 k, LeO (impl_Network_pipeNamed.f k a0 a1 a2) (impl_Network_pipeNamed.f (k + 1) a0 a1 a2) := by
 intro a0 a1 a2 k; unfold impl_Network_pipeNamed.f
 repeat' first
   | (with_reducible exact impl_Pipe_c110.mono _ _ _)
   | (with_reducible exact LeO.refl _)
   | (with_reducible exact LeO.none _)
   | (with_reducible refine LeO.ite ?_ ?_)
   | (with_reducible refine LeO.bind ?_ (fun _ => ?_))
   | exact impl_Pipe_c110.mono _ _ _
   | exact LeO.none _
   | refine LeO.ite ?_ ?_
   | refine LeO.bind ?_ (fun _ => ?_)
set_option maxHeartbeats 8000000 in
set_option maxRecDepth 100000 in
theorem impl_Network_pipeNamed.calls (k : Nat) (A0_0 : Option Addr) (c0_0 : Nat) (l0_0 : List Int) (A0_1 : Option Addr) (c0_1 : Nat) (l0_1 : List (S100)) (a1 : ByteArray) (r : Int) (w : World) (hr0_0 : Kd.C (Kd.int .i64) w A0_0 l0_0.length l0_0) (hc0_0 : l0_0.length ≤ c0_0) (hr0_1 : Kd.C k100 w A0_1 l0_1.length l0_1) (hc0_1 : l0_1.length ≤ c0_1) (h : impl_Network_pipeNamed.f k l0_0 l0_1 a1 = some r) :
  Calls Try.prog 82 #[.agg #[.slice A0_0 l0_0.length c0_0, .slice A0_1 l0_1.length c0_1], .string a1] w fun e w' => e = .returned (.int .i64 r) ∧ Below w.heap.size w w' := by
 have hu33 := Try.underlying33; have HR0_0 := Aside0.mk hr0_0; have HC0_0 := Aside0.mk hc0_0; clear hr0_0 hc0_0; have HR0_1 := Aside0.mk hr0_1; have HC0_1 := Aside0.mk hc0_1; clear hr0_1 hc0_1; have HB := Aside0.mk (Below.refl w.heap.size w); have H : ((impl_Pipe_c110.f k l0_1 [a1]).bind fun t305 => (some t305)) = some r := h; clear h; replace H := Option.bind_eq_some_iff.mp H; obtain ⟨t305, A30, H⟩ := H; have A3 := Aside0.mk A30; clear A30; obtain rfl := Option.some.inj H; go_enter Try.func82, Try.ntmps82; go_wp2_with (first | ((with_reducible refine gate_dst (N := 2) rfl ?_); refine box_event ?hg (N := 2) ?hd (cs := #[.slice A0_0 l0_0.length c0_0, .slice A0_1 l0_1.length c0_1]) (t := 33) ?hr ?_; (case hd => rfl); (case hg => rfl); (case hr => first | (go_simp; done) | (go_simp; rfl)); intro gb303 hg w4 hbox hb; have n0_ := Aside0.mk (below_step t1_ hb); have n1_ := Aside0.mk (hbox); have n2_ := Aside0.mk ((by rw [hg]; exact (below_size t1_) : w.heap.size ≤ gb303)); have n3_ := Aside0.mk ((by rw [hg]; exact (below_size t1_) : w.heap.size ≤ gb303)); clear HB; have HB := n0_; have BK303 := n1_; have GW303 := n2_; have GE303 := n3_; clear n0_ n1_ n2_ n3_; clear hb hbox hg) | ((with_reducible refine gate_dst (N := 3) rfl ?_); refine box_event ?hg (N := 3) ?hd (cs := #[.string a1]) (t := 9) ?hr ?_; (case hd => rfl); (case hg => rfl); (case hr => first | (go_simp; done) | (go_simp; rfl)); intro gb304 hg w5 hbox hb; have n0_ := Aside0.mk (blk_below (g := gb303) (o := .cells #[.slice A0_0 l0_0.length c0_0, .slice A0_1 l0_1.length c0_1] 33 (0, 0)) (q1_ BK303.out) hb); have n1_ := Aside0.mk (below_step t76_ hb); have n2_ := Aside0.mk (hbox); have n3_ := Aside0.mk ((by rw [hg]; exact (below_size t76_) : w.heap.size ≤ gb304)); have n4_ := Aside0.mk ((by rw [hg]; exact (below_size t76_) : w.heap.size ≤ gb304)); have n5_ := Aside0.mk ((by rw [hg]; exact Nat.ne_of_lt (blk_lt (g := gb303) (o := .cells #[.slice A0_0 l0_0.length c0_0, .slice A0_1 l0_1.length c0_1] 33 (0, 0)) (q1_ BK303.out)) : gb303 ≠ gb304)); have n6_ := Aside0.mk ((by rw [hg]; exact Nat.ne_of_gt (blk_lt (g := gb303) (o := .cells #[.slice A0_0 l0_0.length c0_0, .slice A0_1 l0_1.length c0_1] 33 (0, 0)) (q1_ BK303.out)) : gb304 ≠ gb303)); clear BK303; clear HB; have BK303 := n0_; have HB := n1_; have BK304 := n2_; have GW304 := n3_; have GE304 := n4_; have NB303_304 := n5_; have NB304_303 := n6_; clear n0_ n1_ n2_ n3_ n4_ n5_ n6_; clear hb hbox hg; have hnb6 := NB303_304.out; have hnc6 := NB304_303.out; have ⟨hcz7_0, hcz7_1, hfz7_0, hfz7_1⟩ := bc2_ BK303.out) | ((with_reducible refine gate_callee (f := 109) rfl ?_); refine goesL_ (some 8) rfl rfl Try.func109 t13_ rfl #[.slice A0_1 l0_1.length c0_1, .func (.func 110) #[] #[.pointer (some ⟨gb304, 0, none⟩)]] rfl t3_ ?_; (with_reducible refine (impl_Pipe_c110.calls k _ _ l0_1 _ 1 [a1] t305 _ ?side1 ?side2 ?side3 ?side4 A3.out).mono ?_); (case side1 => exact qc_ (Kd.C_below HR0_1.out HB.out)); (case side2 => exact HC0_1.out); (case side3 => exact Kd.C_one (d := Kd.string) (rfl) (cells_blk (cs := #[.string a1]) (t := 9) (q1_ BK304.out))); (case side4 => exact Nat.le_refl _); rintro e w8 ⟨rfl, hb⟩; refine ⟨_, rfl, ?_⟩; have n0_ := Aside0.mk (blk_below (g := gb303) (o := .cells #[.slice A0_0 l0_0.length c0_0, .slice A0_1 l0_1.length c0_1] 33 (0, 0)) (q1_ BK303.out) hb); have n1_ := Aside0.mk (blk_below (g := gb304) (o := .cells #[.string a1] 9 (0, 0)) (q1_ BK304.out) hb); have n2_ := Aside0.mk (below_step (by repeat (first | (with_reducible first | exact HB.out | apply below_alloc | apply pw_below_drewN | apply below_drew1 | refine below_set ?_ GE303.out | refine below_set ?_ GE304.out) | exact HB.out)) hb); clear BK303; clear BK304; clear HB; have BK303 := n0_; have BK304 := n1_; have HB := n2_; clear n0_ n1_ n2_; (try clear hb); (try clear hb2); (try clear hk); (try clear hi))); go_ret
 exact ⟨t4_, (by repeat (first | (with_reducible first | exact HB.out | apply below_alloc | apply pw_below_drewN | apply below_drew1 | refine below_set ?_ GE303.out | refine below_set ?_ GE304.out) | exact HB.out))⟩

end Go.Proofs.Ytheokilgacmlmaa.PFnExactRegionPipes
