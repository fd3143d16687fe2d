-- written by wip/xprint.py, a program of this session, for this claim; not trusted: Lean checks it.
import Derived.Test.YtheokilgacmlmaaPFnExactWorstRegionx0
import Derived.Test.YtheokilgacmlmaaPFnExactWorstRegionx9
namespace Go.Proofs.Ytheokilgacmlmaa.PFnExactWorstRegion
open Go.RowKit Go.Proofs.YtheokilgacmlmaaW.PrintWords Go.Proofs.YtheokilgacmlmaaW.PrintLast Go.Proofs.YtheokilgacmlmaaW.PrintMore
attribute [local go_sem] leq_less_ max2_int min2_int max_two min_two max_three min_three max_four min_four   -- for this text's walks alone
set_option linter.unusedVariables false
set_option linter.unusedSimpArgs false

/-! ### laws_toValveS: function 16 -/
def laws_toValveS.l0 : Nat → List (S69) → List (S51) → Int → Option ((List (S51)))
 | 0, _, _, _ => none
 | k + 1, x0, x3, x4 => if x4 < (x0.length : Int) then (if 0 ≤ x4 then ((laws_toValve.f ((rd_T69 x0 x4).f0) ((rd_T69 x0 x4).f1) ((rd_T69 x0 x4).f2)).bind fun bt254 => (if x4 < (x3.length : Int) then (laws_toValveS.l0 k x0 (x3.set (x4 : Int).toNat (⟨bt254.1, bt254.2.1, bt254.2.2⟩ : S51)) (wrap64 (x4 + 1))) else (none))) else (none)) else (some x3)
def laws_toValveS.f (k : Nat) (l0 : List (S69)) : Option ((List (S51))) := if 0 ≤ (l0.length : Int) then (if ((l0.length : Int) : Int).toNat ≤ 7036874417766 then (laws_toValveS.l0 k l0 (List.replicate ((l0.length : Int) : Int).toNat z51) 0) else (none)) else (none)
theorem laws_toValveS.mono_l : ∀ k, (∀ y0 y1 y2, LeO (laws_toValveS.l0 k y0 y1 y2) (laws_toValveS.l0 (k + 1) y0 y1 y2))
 | 0 => fun _ _ _ r h => by simp [laws_toValveS.l0] at h
 | k + 1 => by
  have ih0 := laws_toValveS.mono_l k
  ·intro y0 y1 y2
   unfold laws_toValveS.l0
   repeat' first
   | (with_reducible exact ih0 _ _ _)
   | (with_reducible exact LeO.refl _)
   | (with_reducible exact LeO.none _)
   | (with_reducible refine LeO.ite ?_ ?_)
   | (with_reducible refine LeO.bind ?_ (fun _ => ?_))
theorem laws_toValveS.mono : ∀ a0 k, LeO (laws_toValveS.f k a0) (laws_toValveS.f (k + 1) a0) := by
 intro a0 k; have ih0 := laws_toValveS.mono_l k; unfold laws_toValveS.f
 repeat' first
   | (with_reducible exact ih0 _ _ _)
   | (with_reducible exact LeO.refl _)
   | (with_reducible exact LeO.none _)
   | (with_reducible refine LeO.ite ?_ ?_)
   | (with_reducible refine LeO.bind ?_ (fun _ => ?_))
set_option maxHeartbeats 8000000 in
set_option maxRecDepth 100000 in
theorem laws_toValveS.calls (k : Nat) (A0 : Option Addr) (c0 : Nat) (l0 : List (S69)) (r : List (S51)) (w : World) (hr0 : Kd.C k69 w A0 l0.length l0) (hc0 : l0.length ≤ c0) (h : laws_toValveS.f k l0 = some r) :
  Calls Try.prog 16 #[.slice A0 l0.length c0] w fun e w' => ∃ v0_ : Value, e = .returned (v0_) ∧ Kd.R k51 51 w' w.heap.size (fun _ => True) v0_ r ∧ Below w.heap.size w w' := by
 have hu69 := Try.underlying69; have hu51 := Try.underlying51; have HR0 := a_ hr0; have HC0 := a_ hc0; clear hr0 hc0; have HB := a_ (Below.refl w.heap.size w); have H : (if 0 ≤ (l0.length : Int) then (if ((l0.length : Int) : Int).toNat ≤ 7036874417766 then (laws_toValveS.l0 k l0 (List.replicate ((l0.length : Int) : Int).toNat z51) 0) else (none)) else (none)) = some r := h; clear h; by_cases c2 : 0 ≤ (l0.length : Int)
 ·rw [if_pos c2] at H; have c2b0 := eq_true c2; have c2b1 : decide (0 ≤ (l0.length : Int)) = true := d1_ c2; clear c2; by_cases c3 : ((l0.length : Int) : Int).toNat ≤ 7036874417766
  ·rw [if_pos c3] at H; have c3b0 := eq_true c3; have c3b1 : decide (((l0.length : Int) : Int).toNat ≤ 7036874417766) = true := d1_ c3; clear c3; obtain ⟨y250, hy250⟩ : ∃ y_ : List (S51), y_ = (List.replicate ((l0.length : Int) : Int).toNat z51) := ⟨_, rfl⟩; replace H : (laws_toValveS.l0 k l0 y250 0) = some r := (by first | (rw [hy250]; with_reducible exact H) | (have H2_ := (Option.bind_some _ _).symm.trans H; rw [hy250]; with_reducible exact H2_) | (have H2_ := (Option.bind_some _ _).symm.trans H; with_reducible exact H2_) | with_reducible exact H | (rw [hy250]; exact H) | exact H); have Ny250 := a_ hy250; clear hy250; have H' := a_ H; clear H; go_enter Try.func16, Try.ntmps16; go_wp2_with (first | ((with_reducible refine gate_dst (N := 7) rfl ?_); refine Kd.R_make k51 _ 51 rfl (N := 7) rfl 35 _ _ rfl (l0.length : Int) rfl rfl Try.underlying35 (.agg #[(.string ⟨#[]⟩), (.string ⟨#[]⟩), (.bool false)]) 40 info51 rfl t39_ t24_ z51 (ok := fun _ => True) (okp := fun _ => True) (k51_mkM _ _ _ z51 ) (fun _ hk => hk) trivial (od_) (Nat.le_trans (Nat.mul_le_mul_right _ (od_ : (l0.length : Int).toNat ≤ 7036874417766)) t24_) (Below.refl _ _) (Nat.le_refl _) ?_; intro v251 w4 ho5 hb hg_ hnew_; clear hg_ hnew_; (first | rw [← Ny250.out] at ho5 | (simp only [Int.reduceToNat] at ho5; rw [← Ny250.out] at ho5)); have n0_ := a_ (Kd.R_lower ho5 (below_size t1_)); have n1_ := a_ (below_step t1_ hb); clear HB; have HO252 := n0_; have HB := n1_; clear n0_ n1_; clear hb ho5)); go_loopg [4] k (fun kq v4 w' => ∃ (x3_1 : List (S51)) (x4_1 : Int), v4 = .int .i64 x4_1 ∧ Aside0 (laws_toValveS.l0 kq l0 x3_1 x4_1 = some r) ∧ Aside0 (kq ≤ k) ∧ Aside0 (Kd.R k51 51 w' w.heap.size (fun _ => True) v251 x3_1) ∧ Aside0 (Below w.heap.size w w'))
   case atStart => exact ⟨(y250), (0), t4_, H', ⟨Nat.le_refl _⟩, ⟨(by (with_reducible repeat (first | apply Kd.R_alloc | apply Kd.R_drewN | apply Kd.R_drew)); exact HO252.out)⟩, ⟨t1_⟩⟩
   case round =>
    clear H'; (try clear c1); (try clear c2); (try clear c2b0); (try clear c2b1); (try clear p2); (try clear c3); (try clear c3b0); (try clear c3b1); obtain ⟨x3_1, x4_1, rfl, HA, HK1, HO_3, HB⟩ := hrel; cases gk with
    | zero => exact absurd HA.out (by simp [laws_toValveS.l0])
    | succ k1 =>
     have H := HA.out; clear HA; simp only [laws_toValveS.l0] at H; by_cases c6 : x4_1 < (l0.length : Int)
     ·rw [if_pos c6] at H; have c6b0 : decide (x4_1 < (l0.length : Int)) = true := d1_ c6; clear c6; by_cases c7 : 0 ≤ x4_1
      ·rw [if_pos c7] at H; have c7b0 : decide (0 ≤ x4_1) = true := d1_ c7; clear c7; replace H := be_ H; obtain ⟨⟨t254, t255, t256⟩, A80, H⟩ := H; replace H : (if x4_1 < (x3_1.length : Int) then (laws_toValveS.l0 k1 l0 (x3_1.set (x4_1 : Int).toNat (⟨t254, t255, t256⟩ : S51)) (wrap64 (x4_1 + 1))) else (none)) = some r := H; have A8 := a_ A80; clear A80; by_cases c9 : x4_1 < (x3_1.length : Int)
       ·rw [if_pos c9] at H; have c9b0 : decide (x4_1 < (x3_1.length : Int)) = true := d1_ c9; clear c9; obtain ⟨y257, hy257⟩ : ∃ y_ : List (S51), y_ = (x3_1.set (x4_1 : Int).toNat (⟨t254, t255, t256⟩ : S51)) := ⟨_, rfl⟩; replace H : (laws_toValveS.l0 k1 l0 y257 (wrap64 (x4_1 + 1))) = some r := (by first | (rw [hy257]; with_reducible exact H) | (have H2_ := (Option.bind_some _ _).symm.trans H; rw [hy257]; with_reducible exact H2_) | (have H2_ := (Option.bind_some _ _).symm.trans H; with_reducible exact H2_) | with_reducible exact H | (rw [hy257]; exact H) | exact H); have Ny257 := a_ hy257; clear hy257; have H' := a_ H; clear H; have p253 : 0 ≤ (x4_1 : Int) := od_; have q253 : x4_1 < (l0.length : Int) := od_; obtain ⟨ad253, e253, hx253_0, hx253_1, hx253_2⟩ := at_T69 HR0.out x4_1 p253 q253; cases e253; replace hx253_0 := hb_ HB hx253_0; replace hx253_1 := hb_ HB hx253_1; replace hx253_2 := hb_ HB hx253_2; replace p253 := eq_true p253; replace q253 := eq_true q253; go_wp2_with (first | ((with_reducible refine gate_callee (f := 53) rfl ?_); refine goesL_ (some 20) rfl rfl Try.func53 t13_ rfl #[.agg #[.string ((rd_T69 l0 x4_1).f0), .string ((rd_T69 l0 x4_1).f1), .bool ((rd_T69 l0 x4_1).f2)]] rfl t2_ ?_; (with_reducible refine (laws_toValve.calls ((rd_T69 l0 x4_1).f0) ((rd_T69 l0 x4_1).f1) ((rd_T69 l0 x4_1).f2) t254 t255 t256 _ A8.out).mono ?_); rintro e w11 ⟨rfl, hb⟩; refine ⟨_, rfl, ?_⟩; have n0_ := a_ (Kd.R_below (q2_ HO_3.out) hb); have n1_ := a_ (below_step t1_ hb); clear HO_3; clear HB; have HO_3 := n0_; have HB := n1_; clear n0_ n1_; (try clear hb); (try clear hb2); (try clear hk); (try clear hi); have p10 : 0 ≤ (x4_1 : Int) := od_; have q10 : (x4_1 : Int) < ((x3_1.length : Int) : Int) := od_; obtain ⟨go10, co10, eo10, gb10, gl10, cl10, HG10⟩ := Kd.R_form HO_3.out t24_; (first | cases eo10 | (injection eo10 with ea_ en_ ec_; (first | subst ea_ | (injection ea_ with ea_; subst ea_)); subst ec_; clear en_)); have GB10 := a_ gb10; have GG10 := a_ HG10; clear gb10 gl10 HG10; obtain ⟨ce10, hcl10, hM10, hcc10, hfr10⟩ := Kd.R_elem HO_3.out z51 (x4_1 : Int) p10 q10; obtain rfl := k51_openM hM10; have hx10_0 : w11.cell? ⟨go10, (x4_1 : Int).toNat * 3, none⟩ = some (.string ((rd_T51 x3_1 x4_1).f0)) := hcc10 0 _ rfl; have hx10_1 : w11.cell? ⟨go10, (x4_1 : Int).toNat * 3 + 1, none⟩ = some (.string ((rd_T51 x3_1 x4_1).f1)) := hcc10 1 _ rfl; have hx10_2 : w11.cell? ⟨go10, (x4_1 : Int).toNat * 3 + 2, none⟩ = some (.bool ((rd_T51 x3_1 x4_1).f2)) := hcc10 2 _ rfl; have hf10_0 : w11.frozen? ⟨go10, (x4_1 : Int).toNat * 3, none⟩ = false := hfr10 0; have hf10_1 : w11.frozen? ⟨go10, (x4_1 : Int).toNat * 3 + 1, none⟩ = false := hfr10 1; have hf10_2 : w11.frozen? ⟨go10, (x4_1 : Int).toNat * 3 + 2, none⟩ = false := hfr10 2; (clear hcl10 hcc10 hfr10; try clear hM10); replace p10 := eq_true p10; replace q10 := eq_true q10; have HX12 := a_ (show Kd.R k51 51 w11 w.heap.size (fun _ => True) (.slice (some ⟨go10, 0, none⟩) x3_1.length co10) x3_1 from (q2_ HO_3.out)); obtain ⟨ce12, hcl12, hM12, hcc12, hfr12⟩ := Kd.R_elem HX12.out z51 (x4_1 : Int) (od_) (by have h_ : (x4_1 : Int) < ((x3_1.length : Int) : Int) := od_; first | exact h_ | (have e_ := (Kd.R_reads' HO_3.out).1; omega) | simpa using h_); obtain rfl := k51_openM hM12; have HP12 := Kd.R_seg HX12.out (x4_1 : Int) (od_) (by have h_ : (x4_1 : Int) < ((x3_1.length : Int) : Int) := od_; first | exact h_ | (have e_ := (Kd.R_reads' HO_3.out).1; omega) | simpa using h_) (seg := [.string t254, .string t255, .bool t256]) (j := 0) hcl12 hcc12 (show 3 ≤ 3 from by decide) (x' := (⟨t254, t255, t256⟩ : S51)) (k51_mkM _ _ _ (⟨t254, t255, t256⟩ : S51) ) (fun _ hk => hk); have hx12_0 := hcc12 0 _ rfl; (try simp only [show (k51).sz = 3 from rfl, Nat.mul_one, Nat.add_zero] at hx12_0); have hf12_0 := hfr12 0; (try simp only [show (k51).sz = 3 from rfl, Nat.mul_one, Nat.add_zero] at hf12_0); have hx12_1 := hcc12 1 _ rfl; (try simp only [show (k51).sz = 3 from rfl, Nat.mul_one, Nat.add_zero] at hx12_1); have hf12_1 := hfr12 1; (try simp only [show (k51).sz = 3 from rfl, Nat.mul_one, Nat.add_zero] at hf12_1); have hx12_2 := hcc12 2 _ rfl; (try simp only [show (k51).sz = 3 from rfl, Nat.mul_one, Nat.add_zero] at hx12_2); have hf12_2 := hfr12 2; (try simp only [show (k51).sz = 3 from rfl, Nat.mul_one, Nat.add_zero] at hf12_2); (clear hcl12 hcc12 hfr12; try clear hM12)) | ((with_reducible refine gate_store (t := 51) (p := 21) rfl ?_); refine store_event (t := 51) (p := 21) (v := ?vo_w13) (w1 := (((w11.setCell ⟨go10, (x4_1 : Int).toNat * 3, none⟩ (.string t254)).setCell ⟨go10, (x4_1 : Int).toNat * 3 + 1, none⟩ (.string t255)).setCell ⟨go10, (x4_1 : Int).toNat * 3 + 2, none⟩ (.bool t256))) ?hg ?ho ?hn ?hr ?_; (case ho => rfl); (case hg => rfl); (case hn => rfl); (case hr => first | (go_simp; done) | (go_simp; rfl)); intro w13 hw; have hg : w11.grownBy w13 (some go10) := (by rw [hw]; exact HP12.2); have hp_ : Kd.R k51 51 w13 w.heap.size (fun _ => True) (.slice (some ⟨go10, 0, none⟩) x3_1.length co10) y257 := (by rw [hw, Ny257.out]; exact HP12.1); clear HP12; have n0_ := a_ (hp_); have n1_ := a_ ((by rw [hw]; exact below_set (below_set (below_set (HB.out) GB10.out) GB10.out) GB10.out : Below w.heap.size w w13)); clear HO_3; clear HB; have HO_3 := n0_; have HB := n1_; clear n0_ n1_; clear hg hw hp_)); go_roundg k1
        case measure => have := HK1.out; omega
        case rel => exact ⟨(y257), (wrap64 (x4_1 + 1)), t4_, H', ⟨t52_⟩, ⟨t27_⟩, ⟨t1_⟩⟩
       ·rw [if_neg c9] at H; exact absurd H t57_
      ·rw [if_neg c7] at H; exact absurd H t57_
     ·rw [if_neg c6] at H; have c6b0 : decide (x4_1 < (l0.length : Int)) = false := d2_ c6; clear c6; obtain rfl := Option.some.inj H; go_wp2; go_ret
      exact ⟨_, t54_, t27_, t1_⟩
  ·rw [if_neg c3] at H; exact absurd H t57_
 ·rw [if_neg c2] at H; exact absurd H t57_

/-! ### impl_onlyNameBytes: function 106 -/
def impl_onlyNameBytes.l0 : Nat → ByteArray → Int → Int → Option (Bool)
 | 0, _, _, _ => none
 | k + 1, x0, x6, x7 => if x7 < x6 then (if 0 ≤ x7 then (if x7 < (x0.size : Int) then (if (bt x0 x7) < 97 then (if (bt x0 x7) < 48 then (some false) else (if (bt x0 x7) > 57 then (some false) else (impl_onlyNameBytes.l0 k x0 x6 (wrap64 (x7 + 1))))) else (if (bt x0 x7) > 122 then (if (bt x0 x7) < 48 then (some false) else (if (bt x0 x7) > 57 then (some false) else (impl_onlyNameBytes.l0 k x0 x6 (wrap64 (x7 + 1))))) else (impl_onlyNameBytes.l0 k x0 x6 (wrap64 (x7 + 1))))) else (none)) else (none)) else (some true)
def impl_onlyNameBytes.f (k : Nat) (a0 : ByteArray) : Option (Bool) := impl_onlyNameBytes.l0 k a0 (a0.size : Int) 0
theorem impl_onlyNameBytes.mono_l : ∀ k, (∀ y0 y1 y2, LeO (impl_onlyNameBytes.l0 k y0 y1 y2) (impl_onlyNameBytes.l0 (k + 1) y0 y1 y2))
 | 0 => fun _ _ _ r h => by simp [impl_onlyNameBytes.l0] at h
 | k + 1 => by
  have ih0 := impl_onlyNameBytes.mono_l k
  ·intro y0 y1 y2
   unfold impl_onlyNameBytes.l0
   repeat' first
   | (with_reducible exact ih0 _ _ _)
   | (with_reducible exact LeO.refl _)
   | (with_reducible exact LeO.none _)
   | (with_reducible refine LeO.ite ?_ ?_)
   | (with_reducible refine LeO.bind ?_ (fun _ => ?_))
theorem impl_onlyNameBytes.mono : ∀ a0 k, LeO (impl_onlyNameBytes.f k a0) (impl_onlyNameBytes.f (k + 1) a0) := by
 intro a0 k; have ih0 := impl_onlyNameBytes.mono_l k; unfold impl_onlyNameBytes.f
 repeat' first
   | (with_reducible exact ih0 _ _ _)
   | (with_reducible exact LeO.refl _)
   | (with_reducible exact LeO.none _)
   | (with_reducible refine LeO.ite ?_ ?_)
   | (with_reducible refine LeO.bind ?_ (fun _ => ?_))
set_option maxHeartbeats 8000000 in
set_option maxRecDepth 100000 in
theorem impl_onlyNameBytes.calls (k : Nat) (a0 : ByteArray) (r : Bool) (w : World) (h : impl_onlyNameBytes.f k a0 = some r) :
  Calls Try.prog 106 #[.string a0] w fun e w' => e = .returned (.bool r) ∧ Drawn0 w w' := by
 have H : (impl_onlyNameBytes.l0 k a0 (a0.size : Int) 0) = some r := h; clear h; have H' := a_ H; clear H; go_enter Try.func106, Try.ntmps106; go_wp2; go_loopg [7] k (fun kq v7 w' => ∃ (x7_1 : Int), v7 = .int .i64 x7_1 ∧ Aside0 (impl_onlyNameBytes.l0 kq a0 (a0.size : Int) x7_1 = some r) ∧ Aside0 (kq ≤ k) ∧ Drawn0 w w')
 case atStart => exact ⟨(0), t4_, H', ⟨Nat.le_refl _⟩, t14_⟩
 case round =>
  clear H'; (try clear c1); obtain ⟨x7_1, rfl, HA, HK1, ⟨m1, rfl⟩⟩ := hrel; cases gk with
  | zero => exact absurd HA.out (by simp [impl_onlyNameBytes.l0])
  | succ k1 =>
   have H := HA.out; clear HA; simp only [impl_onlyNameBytes.l0] at H; by_cases c2 : x7_1 < (a0.size : Int)
   ·rw [if_pos c2] at H; have c2b0 : decide (x7_1 < (a0.size : Int)) = true := d1_ c2; clear c2; by_cases c3 : 0 ≤ x7_1
    ·rw [if_pos c3] at H; have c3b0 : decide (0 ≤ x7_1) = true := d1_ c3; clear c3; by_cases c4 : x7_1 < (a0.size : Int)
     ·rw [if_pos c4] at H; have c4b0 : decide (x7_1 < (a0.size : Int)) = true := d1_ c4; clear c4; by_cases c6 : (bt a0 x7_1) < 97
      ·rw [if_pos c6] at H; have c6b0 : decide ((bt a0 x7_1) < 97) = true := d1_ c6; clear c6; by_cases c7 : (bt a0 x7_1) < 48
       ·rw [if_pos c7] at H; have c7b0 : decide ((bt a0 x7_1) < 48) = true := d1_ c7; clear c7; obtain rfl := Option.some.inj H; have p5 : 0 ≤ (x7_1 : Int) := od_; have q5 : x7_1 < (a0.size : Int) := od_; have hx5 := bt_at a0 x7_1; replace p5 := eq_true p5; replace q5 := eq_true q5; go_wp2; go_ret
        exact ⟨t4_, t14_⟩
       ·rw [if_neg c7] at H; have c7b0 : decide ((bt a0 x7_1) < 48) = false := d2_ c7; clear c7; by_cases c8 : (bt a0 x7_1) > 57
        ·rw [if_pos c8] at H; have c8b0 : decide (57 < (bt a0 x7_1)) = true := d1_ c8; clear c8; obtain rfl := Option.some.inj H; have p5 : 0 ≤ (x7_1 : Int) := od_; have q5 : x7_1 < (a0.size : Int) := od_; have hx5 := bt_at a0 x7_1; replace p5 := eq_true p5; replace q5 := eq_true q5; go_wp2; go_ret
         exact ⟨t4_, t14_⟩
        ·rw [if_neg c8] at H; have c8b0 : decide (57 < (bt a0 x7_1)) = false := d2_ c8; clear c8; have H' := a_ H; clear H; have p5 : 0 ≤ (x7_1 : Int) := od_; have q5 : x7_1 < (a0.size : Int) := od_; have hx5 := bt_at a0 x7_1; replace p5 := eq_true p5; replace q5 := eq_true q5; go_wp2; go_roundg k1
         case measure => have := HK1.out; omega
         case rel => exact ⟨(wrap64 (x7_1 + 1)), t4_, H', ⟨t52_⟩, t14_⟩
      ·rw [if_neg c6] at H; have c6b0 : decide ((bt a0 x7_1) < 97) = false := d2_ c6; clear c6; by_cases c9 : (bt a0 x7_1) > 122
       ·rw [if_pos c9] at H; have c9b0 : decide (122 < (bt a0 x7_1)) = true := d1_ c9; clear c9; by_cases c10 : (bt a0 x7_1) < 48
        ·rw [if_pos c10] at H; have c10b0 : decide ((bt a0 x7_1) < 48) = true := d1_ c10; clear c10; obtain rfl := Option.some.inj H; have p5 : 0 ≤ (x7_1 : Int) := od_; have q5 : x7_1 < (a0.size : Int) := od_; have hx5 := bt_at a0 x7_1; replace p5 := eq_true p5; replace q5 := eq_true q5; go_wp2; go_ret
         exact ⟨t4_, t14_⟩
        ·rw [if_neg c10] at H; have c10b0 : decide ((bt a0 x7_1) < 48) = false := d2_ c10; clear c10; by_cases c11 : (bt a0 x7_1) > 57
         ·rw [if_pos c11] at H; have c11b0 : decide (57 < (bt a0 x7_1)) = true := d1_ c11; clear c11; obtain rfl := Option.some.inj H; have p5 : 0 ≤ (x7_1 : Int) := od_; have q5 : x7_1 < (a0.size : Int) := od_; have hx5 := bt_at a0 x7_1; replace p5 := eq_true p5; replace q5 := eq_true q5; go_wp2; go_ret
          exact ⟨t4_, t14_⟩
         ·rw [if_neg c11] at H; have c11b0 : decide (57 < (bt a0 x7_1)) = false := d2_ c11; clear c11; have H' := a_ H; clear H; have p5 : 0 ≤ (x7_1 : Int) := od_; have q5 : x7_1 < (a0.size : Int) := od_; have hx5 := bt_at a0 x7_1; replace p5 := eq_true p5; replace q5 := eq_true q5; go_wp2; go_roundg k1
          case measure => have := HK1.out; omega
          case rel => exact ⟨(wrap64 (x7_1 + 1)), t4_, H', ⟨t52_⟩, t14_⟩
       ·rw [if_neg c9] at H; have c9b0 : decide (122 < (bt a0 x7_1)) = false := d2_ c9; clear c9; have H' := a_ H; clear H; have p5 : 0 ≤ (x7_1 : Int) := od_; have q5 : x7_1 < (a0.size : Int) := od_; have hx5 := bt_at a0 x7_1; replace p5 := eq_true p5; replace q5 := eq_true q5; go_wp2; go_roundg k1
        case measure => have := HK1.out; omega
        case rel => exact ⟨(wrap64 (x7_1 + 1)), t4_, H', ⟨t52_⟩, t14_⟩
     ·rw [if_neg c4] at H; exact absurd H t57_
    ·rw [if_neg c3] at H; exact absurd H t57_
   ·rw [if_neg c2] at H; have c2b0 : decide (x7_1 < (a0.size : Int)) = false := d2_ c2; clear c2; obtain rfl := Option.some.inj H; go_wp2; go_ret
    exact ⟨t4_, t14_⟩

/-! ### impl_IsName: function 76 -/
def impl_IsName.f (k : Nat) (a0 : ByteArray) : Option (Bool) := if (a0.size : Int) < 1 then (some false) else (if (a0.size : Int) > 10 then (some false) else (if 0 < (a0.size : Int) then (if (bt a0 0) < 97 then (some false) else (if (bt a0 0) > 122 then (some false) else ((impl_onlyNameBytes.f k a0).bind fun t258 => (some t258)))) else (none)))
theorem impl_IsName.mono : ∀ a0 k, LeO (impl_IsName.f k a0) (impl_IsName.f (k + 1) a0) := by
 intro a0 k; unfold impl_IsName.f
 repeat' first
   | (with_reducible exact impl_onlyNameBytes.mono _ _)
   | (with_reducible exact LeO.refl _)
   | (with_reducible exact LeO.none _)
   | (with_reducible refine LeO.ite ?_ ?_)
   | (with_reducible refine LeO.bind ?_ (fun _ => ?_))
set_option maxHeartbeats 8000000 in
set_option maxRecDepth 100000 in
theorem impl_IsName.calls (k : Nat) (a0 : ByteArray) (r : Bool) (w : World) (h : impl_IsName.f k a0 = some r) :
  Calls Try.prog 76 #[.string a0] w fun e w' => e = .returned (.bool r) ∧ Drawn0 w w' := by
 have H : (if (a0.size : Int) < 1 then (some false) else (if (a0.size : Int) > 10 then (some false) else (if 0 < (a0.size : Int) then (if (bt a0 0) < 97 then (some false) else (if (bt a0 0) > 122 then (some false) else ((impl_onlyNameBytes.f k a0).bind fun t258 => (some t258)))) else (none)))) = some r := h; clear h; by_cases c2 : (a0.size : Int) < 1
 ·rw [if_pos c2] at H; have c2b0 : decide ((a0.size : Int) < 1) = true := d1_ c2; have c2b1 : decide (a0.size < 1) = true := decide_eq_true t24_; clear c2; obtain rfl := Option.some.inj H; go_enter Try.func76, Try.ntmps76; go_wp2; go_ret
  exact ⟨t4_, t14_⟩
 ·rw [if_neg c2] at H; have c2b0 : decide ((a0.size : Int) < 1) = false := d2_ c2; have c2b1 : decide (a0.size < 1) = false := decide_eq_false t24_; clear c2; by_cases c3 : (a0.size : Int) > 10
  ·rw [if_pos c3] at H; have c3b0 : decide (10 < (a0.size : Int)) = true := d1_ c3; have c3b1 : decide (10 < a0.size) = true := decide_eq_true t24_; clear c3; obtain rfl := Option.some.inj H; go_enter Try.func76, Try.ntmps76; go_wp2; go_ret
   exact ⟨t4_, t14_⟩
  ·rw [if_neg c3] at H; have c3b0 : decide (10 < (a0.size : Int)) = false := d2_ c3; have c3b1 : decide (10 < a0.size) = false := decide_eq_false t24_; clear c3; by_cases c4 : 0 < (a0.size : Int)
   ·rw [if_pos c4] at H; have c4b0 : decide (0 < (a0.size : Int)) = true := d1_ c4; have c4b1 : decide (0 < a0.size) = true := decide_eq_true t24_; clear c4; by_cases c6 : (bt a0 0) < 97
    ·rw [if_pos c6] at H; have c6b0 : decide ((bt a0 0) < 97) = true := d1_ c6; clear c6; obtain rfl := Option.some.inj H; have p5 : 0 ≤ (0 : Int) := t24_; have q5 : 0 < a0.size := (by have : (0 : Int) < (a0.size : Int) := od_; omega); have hx5 : ∀ h : 0 < a0.size, ((a0[0]'h).toNat : Int) = bt a0 0 := bt_at a0 0; clear p5; have qi5 : (0 < (a0.size : Int)) = True := eq_true (od_); replace q5 := eq_true q5; go_enter Try.func76, Try.ntmps76; go_wp2; go_ret
     exact ⟨t4_, t14_⟩
    ·rw [if_neg c6] at H; have c6b0 : decide ((bt a0 0) < 97) = false := d2_ c6; clear c6; by_cases c8 : (bt a0 0) > 122
     ·rw [if_pos c8] at H; have c8b0 : decide (122 < (bt a0 0)) = true := d1_ c8; clear c8; obtain rfl := Option.some.inj H; have p5 : 0 ≤ (0 : Int) := t24_; have q5 : 0 < a0.size := (by have : (0 : Int) < (a0.size : Int) := od_; omega); have hx5 : ∀ h : 0 < a0.size, ((a0[0]'h).toNat : Int) = bt a0 0 := bt_at a0 0; clear p5; have qi5 : (0 < (a0.size : Int)) = True := eq_true (od_); replace q5 := eq_true q5; have p7 : 0 ≤ (0 : Int) := t24_; have q7 : 0 < a0.size := (by have : (0 : Int) < (a0.size : Int) := od_; omega); have hx7 : ∀ h : 0 < a0.size, ((a0[0]'h).toNat : Int) = bt a0 0 := bt_at a0 0; clear p7; have qi7 : (0 < (a0.size : Int)) = True := eq_true (od_); replace q7 := eq_true q7; go_enter Try.func76, Try.ntmps76; go_wp2; go_ret
      exact ⟨t4_, t14_⟩
     ·rw [if_neg c8] at H; have c8b0 : decide (122 < (bt a0 0)) = false := d2_ c8; clear c8; replace H := be_ H; obtain ⟨t258, A90, H⟩ := H; have A9 := a_ A90; clear A90; obtain rfl := Option.some.inj H; have p5 : 0 ≤ (0 : Int) := t24_; have q5 : 0 < a0.size := (by have : (0 : Int) < (a0.size : Int) := od_; omega); have hx5 : ∀ h : 0 < a0.size, ((a0[0]'h).toNat : Int) = bt a0 0 := bt_at a0 0; clear p5; have qi5 : (0 < (a0.size : Int)) = True := eq_true (od_); replace q5 := eq_true q5; have p7 : 0 ≤ (0 : Int) := t24_; have q7 : 0 < a0.size := (by have : (0 : Int) < (a0.size : Int) := od_; omega); have hx7 : ∀ h : 0 < a0.size, ((a0[0]'h).toNat : Int) = bt a0 0 := bt_at a0 0; clear p7; have qi7 : (0 < (a0.size : Int)) = True := eq_true (od_); replace q7 := eq_true q7; go_enter Try.func76, Try.ntmps76; go_wp2_with (first | ((with_reducible refine gate_callee (f := 106) rfl ?_); refine goesL_ (some 22) rfl rfl Try.func106 t13_ rfl #[.string a0] rfl t2_ ?_; (with_reducible refine (impl_onlyNameBytes.calls k a0 t258 _ A9.out).mono ?_); rintro e w' ⟨rfl, ⟨nd, rfl⟩⟩; refine ⟨_, rfl, ?_⟩)); go_ret
      exact ⟨t4_, t14_⟩
   ·rw [if_neg c4] at H; exact absurd H t57_

-- function 107 is told at each closure that it is handed

-- function 77 is told at each closure that it is handed

-- function 109 is told at each closure that it is handed

/-! ### impl_Network_pipeNamed_1: function 110 -/
def impl_Network_pipeNamed_1.f (a0_0 : ByteArray) (a0_1 : Int) (a0_2 : Int) (a0_3 : Int) (a0_4 : Int) (a0_5 : Int) (l1 : List ByteArray) : Option (Bool) := if 0 < (l1.length : Int) then (some (a0_0.toList == (rdOf ByteArray.empty l1 0).toList)) else (none)
set_option maxHeartbeats 8000000 in
set_option maxRecDepth 100000 in
theorem impl_Network_pipeNamed_1.calls (a0_0 : ByteArray) (a0_1 : Int) (a0_2 : Int) (a0_3 : Int) (a0_4 : Int) (a0_5 : Int) (A1 : Option Addr) (c1 : Nat) (l1 : List ByteArray) (r : Bool) (w : World) (hr1 : Kd.C Kd.string w A1 l1.length l1) (hc1 : l1.length ≤ c1) (h : impl_Network_pipeNamed_1.f a0_0 a0_1 a0_2 a0_3 a0_4 a0_5 l1 = some r) :
  Calls Try.prog 110 #[.agg #[.string a0_0, .int .i64 a0_1, .int .i64 a0_2, .int .i64 a0_3, .int .i64 a0_4, .int .i64 a0_5], .pointer A1] w fun e w' => e = .returned (.bool r) ∧ Below w.heap.size w w' := by
 have hu100 := Try.underlying100; have HR1 := a_ hr1; have HC1 := a_ hc1; clear hr1 hc1; have HB := a_ (Below.refl w.heap.size w); have H : (if 0 < (l1.length : Int) then (some (a0_0.toList == (rdOf ByteArray.empty l1 0).toList)) else (none)) = some r := h; clear h; by_cases c3 : 0 < (l1.length : Int)
 ·rw [if_pos c3] at H; have c3b0 : decide (0 < (l1.length : Int)) = true := d1_ c3; have c3b1 : decide (0 < l1.length) = true := decide_eq_true t24_; clear c3; obtain rfl := Option.some.inj H; go_enter Try.func110, Try.ntmps110; go_wp2_with (first | ((with_reducible refine gate_dst (N := 2) rfl ?_); refine box_event ?hg (N := 2) ?hd (cs := #[.string a0_0, .int .i64 a0_1, .int .i64 a0_2, .int .i64 a0_3, .int .i64 a0_4, .int .i64 a0_5]) (t := 100) ?hr ?_; (case hd => rfl); (case hg => rfl); (case hr => first | (go_simp; done) | (go_simp; rfl)); intro gb259 hg w4 hbox hb; have n0_ := a_ (below_step t1_ hb); have n1_ := a_ (hbox); have n2_ := a_ ((by rw [hg]; exact (below_size t1_) : w.heap.size ≤ gb259)); have n3_ := a_ ((by rw [hg]; exact (below_size t1_) : w.heap.size ≤ gb259)); clear HB; have HB := n0_; have BK259 := n1_; have GW259 := n2_; have GE259 := n3_; clear n0_ n1_ n2_ n3_; clear hb hbox hg; have ⟨hcz5_0, hcz5_1, hcz5_2, hcz5_3, hcz5_4, hcz5_5, hfz5_0, hfz5_1, hfz5_2, hfz5_3, hfz5_4, hfz5_5⟩ := bc6_ BK259.out; have p260 : 0 ≤ (0 : Int) := t24_; have q260 : 0 < (l1.length : Int) := od_; obtain ⟨ad260, e260, hx260_0⟩ := Kd.at_string HR1.out 0 p260 q260; cases e260; have qi260 : (0 < l1.length) = True := eq_true t24_; (try rw [show ((0 : Int)).toNat = 0 from rfl] at hx260_0); (try rw [Addr.add_zero'] at hx260_0); replace hx260_0 := (HB.out.cell (World.block_lt_of_cell? w _ hx260_0)).trans hx260_0; replace p260 := eq_true p260; replace q260 := eq_true q260)); go_ret
  exact ⟨t3_, (by repeat (first | (with_reducible first | exact HB.out | apply below_alloc | apply pw_below_drewN | apply below_drew1 | refine below_set ?_ GE259.out) | exact HB.out))⟩
 ·rw [if_neg c3] at H; exact absurd H t57_

/-! ### impl_Pipe_c110: function 109 -/
def impl_Pipe_c110.l0 : Nat → List (S100) → Int → Int → List ByteArray → Option (Int)
 | 0, _, _, _, _ => none
 | k + 1, x0, x7, x8, x910 => if x8 < x7 then (if 0 ≤ x8 then (if x8 < (x0.length : Int) then ((impl_Network_pipeNamed_1.f ((rd_T100 x0 x8).f0) ((rd_T100 x0 x8).f1) ((rd_T100 x0 x8).f2) ((rd_T100 x0 x8).f3) ((rd_T100 x0 x8).f4) ((rd_T100 x0 x8).f5) x910).bind fun t264 => (if t264 = true then (some x8) else (impl_Pipe_c110.l0 k x0 x7 (wrap64 (x8 + 1)) x910))) else (none)) else (none)) else (some (-1))
def impl_Pipe_c110.f (k : Nat) (l0 : List (S100)) (l1_0 : List ByteArray) : Option (Int) := impl_Pipe_c110.l0 k l0 (l0.length : Int) 0 l1_0
theorem impl_Pipe_c110.mono_l : ∀ k, (∀ y0 y1 y2 y3, LeO (impl_Pipe_c110.l0 k y0 y1 y2 y3) (impl_Pipe_c110.l0 (k + 1) y0 y1 y2 y3))
 | 0 => fun _ _ _ _ r h => by simp [impl_Pipe_c110.l0] at h
 | k + 1 => by
  have ih0 := impl_Pipe_c110.mono_l k
  ·intro y0 y1 y2 y3
   unfold impl_Pipe_c110.l0
   repeat' first
   | (with_reducible exact ih0 _ _ _ _)
   | (with_reducible exact LeO.refl _)
   | (with_reducible exact LeO.none _)
   | (with_reducible refine LeO.ite ?_ ?_)
   | (with_reducible refine LeO.bind ?_ (fun _ => ?_))
theorem impl_Pipe_c110.mono : ∀ a0 a1 k, LeO (impl_Pipe_c110.f k a0 a1) (impl_Pipe_c110.f (k + 1) a0 a1) := by
 intro a0 a1 k; have ih0 := impl_Pipe_c110.mono_l k; unfold impl_Pipe_c110.f
 repeat' first
   | (with_reducible exact ih0 _ _ _ _)
   | (with_reducible exact LeO.refl _)
   | (with_reducible exact LeO.none _)
   | (with_reducible refine LeO.ite ?_ ?_)
   | (with_reducible refine LeO.bind ?_ (fun _ => ?_))
set_option maxHeartbeats 8000000 in
set_option maxRecDepth 100000 in
theorem impl_Pipe_c110.calls (k : Nat) (A0 : Option Addr) (c0 : Nat) (l0 : List (S100)) (A1_0 : Option Addr) (c1_0 : Nat) (l1_0 : List ByteArray) (r : Int) (w : World) (hr0 : Kd.C k100 w A0 l0.length l0) (hc0 : l0.length ≤ c0) (hr1_0 : Kd.C Kd.string w A1_0 l1_0.length l1_0) (hc1_0 : l1_0.length ≤ c1_0) (h : impl_Pipe_c110.f k l0 l1_0 = some r) :
  Calls Try.prog 109 #[.slice A0 l0.length c0, .func (.func 110) #[] #[.pointer A1_0]] w fun e w' => e = .returned (.int .i64 r) ∧ Below w.heap.size w w' := by
 have hu100 := Try.underlying100; have HR0 := a_ hr0; have HC0 := a_ hc0; clear hr0 hc0; have HR1_0 := a_ hr1_0; have HC1_0 := a_ hc1_0; clear hr1_0 hc1_0; have HB := a_ (Below.refl w.heap.size w); have H : (impl_Pipe_c110.l0 k l0 (l0.length : Int) 0 l1_0) = some r := h; clear h; have H' := a_ H; clear H; go_enter Try.func109, Try.ntmps109; go_wp2; go_loopg [8] k (fun kq v8 w' => ∃ (x8_1 : Int), v8 = .int .i64 x8_1 ∧ Aside0 (impl_Pipe_c110.l0 kq l0 (l0.length : Int) x8_1 l1_0 = some r) ∧ Aside0 (kq ≤ k) ∧ Aside0 (Below w.heap.size w w'))
 case atStart => exact ⟨(0), t4_, H', ⟨Nat.le_refl _⟩, ⟨t1_⟩⟩
 case round =>
  clear H'; (try clear c1); (try clear p2); obtain ⟨x8_1, rfl, HA, HK1, HB⟩ := hrel; cases gk with
  | zero => exact absurd HA.out (by simp [impl_Pipe_c110.l0])
  | succ k1 =>
   have H := HA.out; clear HA; simp only [impl_Pipe_c110.l0] at H; by_cases c3 : x8_1 < (l0.length : Int)
   ·rw [if_pos c3] at H; have c3b0 : decide (x8_1 < (l0.length : Int)) = true := d1_ c3; clear c3; by_cases c4 : 0 ≤ x8_1
    ·rw [if_pos c4] at H; have c4b0 : decide (0 ≤ x8_1) = true := d1_ c4; clear c4; by_cases c5 : x8_1 < (l0.length : Int)
     ·rw [if_pos c5] at H; have c5b0 : decide (x8_1 < (l0.length : Int)) = true := d1_ c5; clear c5; replace H := be_ H; obtain ⟨t264, A60, H⟩ := H; have A6 := a_ A60; clear A60; by_cases c7 : t264 = true
      ·subst c7; replace H := (if_pos rfl).symm.trans H; obtain rfl := Option.some.inj H; have p263 : 0 ≤ (x8_1 : Int) := od_; have q263 : x8_1 < (l0.length : Int) := od_; obtain ⟨ad263, e263, hx263_0, hx263_1, hx263_2, hx263_3, hx263_4, hx263_5⟩ := at_T100 HR0.out x8_1 p263 q263; cases e263; replace hx263_0 := hb_ HB hx263_0; replace hx263_1 := hb_ HB hx263_1; replace hx263_2 := hb_ HB hx263_2; replace hx263_3 := hb_ HB hx263_3; replace hx263_4 := hb_ HB hx263_4; replace hx263_5 := hb_ HB hx263_5; replace p263 := eq_true p263; replace q263 := eq_true q263; go_wp2_with (first | (go_at_call 110; (with_reducible refine (impl_Network_pipeNamed_1.calls ((rd_T100 l0 x8_1).f0) ((rd_T100 l0 x8_1).f1) ((rd_T100 l0 x8_1).f2) ((rd_T100 l0 x8_1).f3) ((rd_T100 l0 x8_1).f4) ((rd_T100 l0 x8_1).f5) _ c1_0 l1_0 true _ ?side1 ?side2 A6.out).mono ?_); (case side1 => exact qc_ (Kd.C_below HR1_0.out HB.out)); (case side2 => exact HC1_0.out); rintro e w8 ⟨rfl, hb⟩; have n0_ := a_ (below_step t1_ hb); clear HB; have HB := n0_; clear n0_; (try clear hb); (try clear hb2); (try clear hk); (try clear hi))); go_ret
       exact ⟨t3_, t1_⟩
      ·replace c7 := Bool.eq_false_iff.mpr c7; subst c7; replace H := (if_neg (show ¬ (false = true) by decide)).symm.trans H; have H' := a_ H; clear H; have p263 : 0 ≤ (x8_1 : Int) := od_; have q263 : x8_1 < (l0.length : Int) := od_; obtain ⟨ad263, e263, hx263_0, hx263_1, hx263_2, hx263_3, hx263_4, hx263_5⟩ := at_T100 HR0.out x8_1 p263 q263; cases e263; replace hx263_0 := hb_ HB hx263_0; replace hx263_1 := hb_ HB hx263_1; replace hx263_2 := hb_ HB hx263_2; replace hx263_3 := hb_ HB hx263_3; replace hx263_4 := hb_ HB hx263_4; replace hx263_5 := hb_ HB hx263_5; replace p263 := eq_true p263; replace q263 := eq_true q263; go_wp2_with (first | (go_at_call 110; (with_reducible refine (impl_Network_pipeNamed_1.calls ((rd_T100 l0 x8_1).f0) ((rd_T100 l0 x8_1).f1) ((rd_T100 l0 x8_1).f2) ((rd_T100 l0 x8_1).f3) ((rd_T100 l0 x8_1).f4) ((rd_T100 l0 x8_1).f5) _ c1_0 l1_0 false _ ?side1 ?side2 A6.out).mono ?_); (case side1 => exact qc_ (Kd.C_below HR1_0.out HB.out)); (case side2 => exact HC1_0.out); rintro e w9 ⟨rfl, hb⟩; have n0_ := a_ (below_step t1_ hb); clear HB; have HB := n0_; clear n0_; (try clear hb); (try clear hb2); (try clear hk); (try clear hi))); go_roundg k1
       case measure => have := HK1.out; omega
       case rel => exact ⟨(wrap64 (x8_1 + 1)), t4_, H', ⟨t52_⟩, ⟨t1_⟩⟩
     ·rw [if_neg c5] at H; exact absurd H t57_
    ·rw [if_neg c4] at H; exact absurd H t57_
   ·rw [if_neg c3] at H; have c3b0 : decide (x8_1 < (l0.length : Int)) = false := d2_ c3; clear c3; obtain rfl := Option.some.inj H; go_wp2; go_ret
    exact ⟨t3_, t1_⟩

/-! ### impl_Network_pipeNamed: function 82 -/
def impl_Network_pipeNamed.f (k : Nat) (l0_0 : List Int) (l0_1 : List (S100)) (a1 : ByteArray) : Option (Int) := (impl_Pipe_c110.f k l0_1 [a1]).bind fun t267 => (some t267)
theorem impl_Network_pipeNamed.mono : ∀ a0 a1 a2 k, LeO (impl_Network_pipeNamed.f k a0 a1 a2) (impl_Network_pipeNamed.f (k + 1) a0 a1 a2) := by
 intro a0 a1 a2 k; unfold impl_Network_pipeNamed.f
 repeat' first
   | (with_reducible exact impl_Pipe_c110.mono _ _ _)
   | (with_reducible exact LeO.refl _)
   | (with_reducible exact LeO.none _)
   | (with_reducible refine LeO.ite ?_ ?_)
   | (with_reducible refine LeO.bind ?_ (fun _ => ?_))
set_option maxHeartbeats 8000000 in
set_option maxRecDepth 100000 in
theorem impl_Network_pipeNamed.calls (k : Nat) (A0_0 : Option Addr) (c0_0 : Nat) (l0_0 : List Int) (A0_1 : Option Addr) (c0_1 : Nat) (l0_1 : List (S100)) (a1 : ByteArray) (r : Int) (w : World) (hr0_0 : Kd.C (Kd.int .i64) w A0_0 l0_0.length l0_0) (hc0_0 : l0_0.length ≤ c0_0) (hr0_1 : Kd.C k100 w A0_1 l0_1.length l0_1) (hc0_1 : l0_1.length ≤ c0_1) (h : impl_Network_pipeNamed.f k l0_0 l0_1 a1 = some r) :
  Calls Try.prog 82 #[.agg #[.slice A0_0 l0_0.length c0_0, .slice A0_1 l0_1.length c0_1], .string a1] w fun e w' => e = .returned (.int .i64 r) ∧ Below w.heap.size w w' := by
 have hu33 := Try.underlying33; have HR0_0 := a_ hr0_0; have HC0_0 := a_ hc0_0; clear hr0_0 hc0_0; have HR0_1 := a_ hr0_1; have HC0_1 := a_ hc0_1; clear hr0_1 hc0_1; have HB := a_ (Below.refl w.heap.size w); have H : ((impl_Pipe_c110.f k l0_1 [a1]).bind fun t267 => (some t267)) = some r := h; clear h; replace H := be_ H; obtain ⟨t267, A30, H⟩ := H; have A3 := a_ A30; clear A30; obtain rfl := Option.some.inj H; go_enter Try.func82, Try.ntmps82; go_wp2_with (first | ((with_reducible refine gate_dst (N := 2) rfl ?_); refine box_event ?hg (N := 2) ?hd (cs := #[.slice A0_0 l0_0.length c0_0, .slice A0_1 l0_1.length c0_1]) (t := 33) ?hr ?_; (case hd => rfl); (case hg => rfl); (case hr => first | (go_simp; done) | (go_simp; rfl)); intro gb265 hg w4 hbox hb; have n0_ := a_ (below_step t1_ hb); have n1_ := a_ (hbox); have n2_ := a_ ((by rw [hg]; exact (below_size t1_) : w.heap.size ≤ gb265)); have n3_ := a_ ((by rw [hg]; exact (below_size t1_) : w.heap.size ≤ gb265)); clear HB; have HB := n0_; have BK265 := n1_; have GW265 := n2_; have GE265 := n3_; clear n0_ n1_ n2_ n3_; clear hb hbox hg) | ((with_reducible refine gate_dst (N := 3) rfl ?_); refine box_event ?hg (N := 3) ?hd (cs := #[.string a1]) (t := 9) ?hr ?_; (case hd => rfl); (case hg => rfl); (case hr => first | (go_simp; done) | (go_simp; rfl)); intro gb266 hg w5 hbox hb; have n0_ := a_ (blk_below (g := gb265) (o := .cells #[.slice A0_0 l0_0.length c0_0, .slice A0_1 l0_1.length c0_1] 33 (0, 0)) (q1_ BK265.out) hb); have n1_ := a_ (below_step t70_ hb); have n2_ := a_ (hbox); have n3_ := a_ ((by rw [hg]; exact (below_size t70_) : w.heap.size ≤ gb266)); have n4_ := a_ ((by rw [hg]; exact (below_size t70_) : w.heap.size ≤ gb266)); have n5_ := a_ ((by rw [hg]; exact Nat.ne_of_lt (blk_lt (g := gb265) (o := .cells #[.slice A0_0 l0_0.length c0_0, .slice A0_1 l0_1.length c0_1] 33 (0, 0)) (q1_ BK265.out)) : gb265 ≠ gb266)); have n6_ := a_ ((by rw [hg]; exact Nat.ne_of_gt (blk_lt (g := gb265) (o := .cells #[.slice A0_0 l0_0.length c0_0, .slice A0_1 l0_1.length c0_1] 33 (0, 0)) (q1_ BK265.out)) : gb266 ≠ gb265)); clear BK265; clear HB; have BK265 := n0_; have HB := n1_; have BK266 := n2_; have GW266 := n3_; have GE266 := n4_; have NB265_266 := n5_; have NB266_265 := n6_; clear n0_ n1_ n2_ n3_ n4_ n5_ n6_; clear hb hbox hg; have hnb6 := NB265_266.out; have hnc6 := NB266_265.out; have ⟨hcz7_0, hcz7_1, hfz7_0, hfz7_1⟩ := bc2_ BK265.out) | ((with_reducible refine gate_callee (f := 109) rfl ?_); refine goesL_ (some 8) rfl rfl Try.func109 t13_ rfl #[.slice A0_1 l0_1.length c0_1, .func (.func 110) #[] #[.pointer (some ⟨gb266, 0, none⟩)]] rfl t2_ ?_; (with_reducible refine (impl_Pipe_c110.calls k _ _ l0_1 _ 1 [a1] t267 _ ?side1 ?side2 ?side3 ?side4 A3.out).mono ?_); (case side1 => exact qc_ (Kd.C_below HR0_1.out HB.out)); (case side2 => exact HC0_1.out); (case side3 => exact Kd.C_one (d := Kd.string) (rfl) (cells_blk (cs := #[.string a1]) (t := 9) (q1_ BK266.out))); (case side4 => exact Nat.le_refl _); rintro e w8 ⟨rfl, hb⟩; refine ⟨_, rfl, ?_⟩; have n0_ := a_ (blk_below (g := gb265) (o := .cells #[.slice A0_0 l0_0.length c0_0, .slice A0_1 l0_1.length c0_1] 33 (0, 0)) (q1_ BK265.out) hb); have n1_ := a_ (blk_below (g := gb266) (o := .cells #[.string a1] 9 (0, 0)) (q1_ BK266.out) hb); have n2_ := a_ (below_step (by repeat (first | (with_reducible first | exact HB.out | apply below_alloc | apply pw_below_drewN | apply below_drew1 | refine below_set ?_ GE265.out | refine below_set ?_ GE266.out) | exact HB.out)) hb); clear BK265; clear BK266; clear HB; have BK265 := n0_; have BK266 := n1_; have HB := n2_; clear n0_ n1_ n2_; (try clear hb); (try clear hb2); (try clear hk); (try clear hi))); go_ret
 exact ⟨t3_, (by repeat (first | (with_reducible first | exact HB.out | apply below_alloc | apply pw_below_drewN | apply below_drew1 | refine below_set ?_ GE265.out | refine below_set ?_ GE266.out) | exact HB.out))⟩

/-! ### slices_IndexFunc_int64_int64: function 127 -/
def slices_IndexFunc_int64_int64.idxP {α : Type} (p : α → Bool) (l : List α) : Int := if l.any p then (l.findIdx p : Int) else -1
theorem slices_IndexFunc_int64_int64.hit {α : Type} (p : α → Bool) (l : List α) (k : Nat) (d : α) (hk : k < l.length) (h : p (l.getD k d) = true) (hb : ∀ j, j < k → p (l.getD j d) = false) : slices_IndexFunc_int64_int64.idxP p l = k := by
  have e : l.getD k d = l[k] := (by rw [List.getD_eq_getElem?_getD, List.getElem?_eq_getElem hk]; rfl); have hany : l.any p = true := List.any_eq_true.2 ⟨l[k], List.getElem_mem hk, e ▸ h⟩; unfold slices_IndexFunc_int64_int64.idxP
  rw [if_pos hany, (List.findIdx_eq hk).2 ⟨e ▸ h, fun j hj => by have := hb j hj; rwa [List.getD_eq_getElem?_getD, List.getElem?_eq_getElem t24_] at this⟩]
theorem slices_IndexFunc_int64_int64.miss {α : Type} (p : α → Bool) (l : List α) (d : α) (hb : ∀ j, j < l.length → p (l.getD j d) = false) : slices_IndexFunc_int64_int64.idxP p l = -1 := by
  unfold slices_IndexFunc_int64_int64.idxP
  rw [if_neg]; intro h; obtain ⟨x, hx, hp⟩ := List.any_eq_true.1 h; obtain ⟨j, hj, rfl⟩ := List.mem_iff_getElem.1 hx; have := hb j hj; rw [List.getD_eq_getElem?_getD, List.getElem?_eq_getElem hj] at this; simp only [Option.getD_some] at this; rw [this] at hp; cases hp
theorem slices_IndexFunc_int64_int64.nonneg {α : Type} (p : α → Bool) (l : List α) : (0 ≤ slices_IndexFunc_int64_int64.idxP p l) ↔ l.any p = true := by
  unfold slices_IndexFunc_int64_int64.idxP
  split <;> simp_all <;> omega
set_option maxHeartbeats 1000000 in
theorem slices_IndexFunc_int64_int64.calls_any (p : Int → Bool) (g : Nat) (lb : Array Value) (eg : ∀ args w, (callFunc g args).run Try.prog w = .ok (.enter g args) w) (A0 : Option Addr) (c0 : Nat) (l0 : List Int) (w : World)
    (hp : ∀ (W : World) (x : Int), Below w.heap.size w W → Calls Try.prog g (#[.int .i64 x] ++ lb) W fun e w' => e = .returned (.bool (p x)) ∧ Below W.heap.size W w') (hr0 : Kd.C (Kd.int .i64) w A0 l0.length l0) :
    Calls Try.prog 127 #[.slice A0 l0.length c0, .func (.func g) #[] lb] w fun e w' => e = .returned (.int .i64 (slices_IndexFunc_int64_int64.idxP p l0)) ∧ Below w.heap.size w w' := by
  have HR0 := a_ hr0; have HP := a_ hp; have hbig : l0.length ≤ 9223372036854775807 := hr0.2.1; clear hr0 hp; go_enter Try.func127, Try.ntmps127; go_wp2; go_loopg [5, 8] l0.length (fun gg _ s8 wr => ∃ kk : Nat, kk ≤ l0.length ∧ l0.length - kk ≤ gg ∧ s8 = .int .i64 kk ∧ Aside0 (Below w.heap.size w wr) ∧ Aside0 (∀ j, j < kk → p (l0.getD j 0) = false))
  case atStart => exact ⟨0, Nat.zero_le _, t24_, rfl, ⟨Below.refl _ _⟩, ⟨fun j hj => absurd hj (Nat.not_lt_zero _)⟩⟩
  case round =>
    obtain ⟨kk, hkk, hg, rfl, HB, HA⟩ := hrel; by_cases hlt : kk < l0.length
    · have hltz : (kk : Int) < (l0.length : Int) := by omega
      obtain ⟨ad, e, hx⟩ := Kd.at_int HR0.out kk t24_ hltz; cases e; replace hx := (HB.out.cell (World.block_lt_of_cell? w _ hx)).trans hx; simp only [Int.toNat_natCast, rd] at hx; obtain ⟨y, hy⟩ : ∃ y, y = l0.getD kk 0 := ⟨_, rfl⟩; rw [← hy] at hx; have HY := a_ hy; clear hy; have hcall := fun W hb => HP.out W y hb; cases hq : p y with
      | true =>
        rw [hq] at hcall; have HC := a_ hcall; clear hcall; have HQ := a_ hq; clear hq; go_wp2_with (go_at_fn g; refine (HC.out _ HB.out).mono ?_; rintro e w' ⟨rfl, hb'⟩); go_ret
        refine ⟨?_, HB.out.trans (hb'.mono HB.out.size)⟩; rw [slices_IndexFunc_int64_int64.hit p l0 kk 0 hlt (by rw [← HY.out]; exact HQ.out) HA.out]; rfl
      | false =>
        rw [hq] at hcall; have HC := a_ hcall; clear hcall; have HQ := a_ hq; clear hq; go_wp2_with (go_at_fn g; refine (HC.out _ HB.out).mono ?_; rintro e w' ⟨rfl, hb'⟩); go_roundg (l0.length - (kk + 1))
        case measure => omega
        case rel =>
          refine ⟨kk + 1, t24_, t24_, (by go_num), ⟨HB.out.trans (hb'.mono HB.out.size)⟩, ⟨fun j hj => ?_⟩⟩; by_cases e : j = kk
          · subst e
            rw [← HY.out]; exact HQ.out
          · exact HA.out j t24_
    · have hltz : ¬ (kk : Int) < (l0.length : Int) := by omega
      have hkn : kk = l0.length := (by omega); have HK := a_ hkn; clear hkn; go_wp2; go_ret
      refine ⟨?_, HB.out⟩; rw [slices_IndexFunc_int64_int64.miss p l0 0 (fun j hj => HA.out j (by have := HK.out; omega))]; rfl

/-! ### slices_ContainsFunc_int64_int64: function 100 -/
set_option maxHeartbeats 1000000 in
theorem slices_ContainsFunc_int64_int64.calls_any (p : Int → Bool) (g : Nat) (lb : Array Value) (eg : ∀ args w, (callFunc g args).run Try.prog w = .ok (.enter g args) w) (A0 : Option Addr) (c0 : Nat) (l0 : List Int) (w : World)
    (hp : ∀ (W : World) (x : Int), Below w.heap.size w W → Calls Try.prog g (#[.int .i64 x] ++ lb) W fun e w' => e = .returned (.bool (p x)) ∧ Below W.heap.size W w') (hr0 : Kd.C (Kd.int .i64) w A0 l0.length l0) :
    Calls Try.prog 100 #[.slice A0 l0.length c0, .func (.func g) #[] lb] w fun e w' => e = .returned (.bool (l0.any p)) ∧ Below w.heap.size w w' := by
  have hcon := slices_IndexFunc_int64_int64.calls_any p g lb eg A0 c0 l0 w hp hr0; have hiff := a_ (slices_IndexFunc_int64_int64.nonneg p l0); generalize slices_IndexFunc_int64_int64.idxP p l0 = r at hcon hiff; clear hr0 hp; go_enter Try.func100, Try.ntmps100; go_wp2_with (go_at_call 127; refine hcon.mono ?_; rintro e w' ⟨rfl, hb⟩); go_ret
  refine ⟨?_, hb⟩; have h := hiff.out; by_cases h0 : 0 ≤ r
  · rw [h.1 h0]; simp [h0]
  · rw [Bool.eq_false_iff.mpr (fun e => h0 (h.2 e))]; simp [h0]

/-! ### impl_within: function 99 -/
def impl_within.f (a0 : Int) (a1 : Int) (a2 : Int) : Option (Bool) := if a0 ≥ a1 then (some (decide (a0 ≤ a2))) else (some false)
set_option maxHeartbeats 8000000 in
set_option maxRecDepth 100000 in
theorem impl_within.calls (a0 : Int) (a1 : Int) (a2 : Int) (r : Bool) (w : World) (h : impl_within.f a0 a1 a2 = some r) :
  Calls Try.prog 99 #[.int .i64 a0, .int .i64 a1, .int .i64 a2] w fun e w' => e = .returned (.bool r) ∧ Drawn0 w w' := by
 have H : (if a0 ≥ a1 then (some (decide (a0 ≤ a2))) else (some false)) = some r := h; clear h; by_cases c4 : a0 ≥ a1
 ·rw [if_pos c4] at H; have c4b0 : decide (a1 ≤ a0) = true := d1_ c4; clear c4; obtain rfl := Option.some.inj H; go_enter Try.func99, Try.ntmps99; go_wp2; go_ret
  exact ⟨t4_, t14_⟩
 ·rw [if_neg c4] at H; have c4b0 : decide (a1 ≤ a0) = false := d2_ c4; clear c4; obtain rfl := Option.some.inj H; go_enter Try.func99, Try.ntmps99; go_wp2; go_ret
  exact ⟨t4_, t14_⟩

/-! ### impl_allWithin_1: function 101 -/
set_option maxHeartbeats 1000000 in
theorem impl_allWithin_1.clos (x lo hi : Int) (g1 g2 : Nat) (w : World) (h1 : w.cell? ⟨g1, 0, none⟩ = some (.int .i64 lo)) (h2 : w.cell? ⟨g2, 0, none⟩ = some (.int .i64 hi)) :
    Calls Try.prog 101 #[.int .i64 x, .pointer (some ⟨g1, 0, none⟩), .pointer (some ⟨g2, 0, none⟩)] w fun e w' => e = .returned (.bool (!(decide (lo ≤ x ∧ x ≤ hi)))) ∧ Below w.heap.size w w' := by
  have hw := fun w => impl_within.calls x lo hi (decide (lo ≤ x ∧ x ≤ hi)) w (by unfold impl_within.f; split <;> simp <;> omega); generalize decide (lo ≤ x ∧ x ≤ hi) = b at hw ⊢; go_enter Try.func101, Try.ntmps101; go_wp2_with (go_at_call 99; refine (hw _).mono ?_; rintro e w' ⟨rfl, hd⟩); go_ret
  exact ⟨rfl, hd.below⟩

/-! ### impl_allWithin: function 68 -/
def impl_allWithin.f (l0 : List Int) (a1 : Int) (a2 : Int) : Option (Bool) := some (l0.all fun x => decide (a1 ≤ x ∧ x ≤ a2))
set_option maxHeartbeats 1000000 in
theorem impl_allWithin.calls (A0 : Option Addr) (c0 : Nat) (l0 : List Int) (a1 : Int) (a2 : Int) (r : Bool) (w : World) (hr0 : Kd.C (Kd.int .i64) w A0 l0.length l0) (hc0 : l0.length ≤ c0) (h : impl_allWithin.f l0 a1 a2 = some r) :
    Calls Try.prog 68 #[.slice A0 l0.length c0, .int .i64 a1, .int .i64 a2] w fun e w' => e = .returned (.bool r) ∧ Below w.heap.size w w' := by
  have hmf : ∀ (fn : Fn) (first cap : Array Value) (w : World), (Instr.makeFunc fn first cap).run Try.prog w = .ok (.func fn first cap) w := fun _ _ _ _ => rfl; have eg : ∀ args w, (callFunc 101 args).run Try.prog w = .ok (.enter 101 args) w := enters_of Try.func101 t13_ rfl; obtain rfl := Option.some.inj h; have hb2 : Below w.heap.size w ((w.alloc (.cells #[.int .i64 a1] 2)).alloc (.cells #[.int .i64 a2] 2)) := ((Below.refl _ w).alloc (Nat.le_refl _) _).alloc t57_ _; have hcon := slices_ContainsFunc_int64_int64.calls_any (fun x => !(decide (a1 ≤ x ∧ x ≤ a2))) 101 #[.pointer (some ⟨w.heap.size, 0, none⟩), .pointer (some ⟨w.heap.size + 1, 0, none⟩)] eg A0 c0 l0 ((w.alloc (.cells #[.int .i64 a1] 2)).alloc (.cells #[.int .i64 a2] 2))
    (fun W x hb => impl_allWithin_1.clos x a1 a2 _ _ W
      ((hb.cell (p := ⟨w.heap.size, 0, none⟩) (by simp; omega)).trans (by rw [World.cell?_alloc_lt _ _ _ t57_]; simp))
      ((hb.cell (p := ⟨w.heap.size + 1, 0, none⟩) t57_).trans t57_)) (Kd.C_below hr0 hb2)
  have hall : (!(l0.any fun x => !(decide (a1 ≤ x ∧ x ≤ a2)))) = (l0.all fun x => decide (a1 ≤ x ∧ x ≤ a2)) := by
    rw [List.not_any_eq_all_not]; simp
  rw [← hall]; generalize (l0.any fun x => !(decide (a1 ≤ x ∧ x ≤ a2))) = b at hcon ⊢; clear hall hr0 eg h; have HB2 := a_ hb2; clear hb2; go_enter Try.func68, Try.ntmps68; go_wp2_with (go_at_call 100; refine hcon.mono ?_; rintro e w' ⟨rfl, hb⟩); go_ret
  exact ⟨rfl, HB2.out.trans (hb.mono HB2.out.size)⟩

/-! ### impl_nodeOk: function 134 -/
def impl_nodeOk.f (a0 : Int) : Option (Bool) := (impl_within.f a0 0 15).bind fun t268 => (some t268)
set_option maxHeartbeats 8000000 in
set_option maxRecDepth 100000 in
theorem impl_nodeOk.calls (a0 : Int) (r : Bool) (w : World) (h : impl_nodeOk.f a0 = some r) :
  Calls Try.prog 134 #[.int .i64 a0] w fun e w' => e = .returned (.bool r) ∧ Drawn0 w w' := by
 have H : ((impl_within.f a0 0 15).bind fun t268 => (some t268)) = some r := h; clear h; replace H := be_ H; obtain ⟨t268, A20, H⟩ := H; have A2 := a_ A20; clear A20; obtain rfl := Option.some.inj H; go_enter Try.func134, Try.ntmps134; go_wp2_with (first | ((with_reducible refine gate_callee (f := 99) rfl ?_); refine goesL_ (some 4) rfl rfl Try.func99 t13_ rfl #[.int .i64 a0, .int .i64 0, .int .i64 15] rfl t2_ ?_; (with_reducible refine (impl_within.calls a0 0 15 t268 _ A2.out).mono ?_); rintro e w' ⟨rfl, ⟨nd, rfl⟩⟩; refine ⟨_, rfl, ?_⟩)); go_ret
 exact ⟨t4_, t14_⟩

end Go.Proofs.Ytheokilgacmlmaa.PFnExactWorstRegion
