-- written by wip/xprint.py, a program of this session, for this claim; not trusted: Lean checks it.
import Derived.Test.YtdhpmiocpjpabaaDoorPFnTariffsx0
import Derived.Test.YtdhpmiocpjpabaaDoorPFnTariffsx1
import Derived.Test.YtdhpmiocpjpabaaDoorPFnTariffsx2
namespace Go.Proofs.YtdhpmiocpjpabaaDoor.PFnTariffs
open Go.RowKit Go.Proofs.YtdhpmiocpjpabaaDoorW.PrintWords Go.Proofs.YtdhpmiocpjpabaaDoorW.PrintLast Go.Proofs.YtdhpmiocpjpabaaDoorW.PrintMore
attribute [local go_sem] leq_less_ max2_int min2_int max_two min_two max_three min_three max_four min_four   -- for this text's walks alone
set_option linter.unusedVariables false
set_option linter.unusedSimpArgs false

/-! ### impl_ValidTariff: function 24 -/
mutual
def impl_ValidTariff.j0 : Nat → Bool → ByteArray → Int → Int → List (List Int) → Option (Bool)
 | 0, _, _, _, _, _ => none
 | k + 1, x32, x160000, x160001, x160002, x160003 => if x32 = true then (some false) else (impl_ValidTariff.l0 k x160003 (x160003.length : Int) 0 x160000 x160001 x160002 x160003)
def impl_ValidTariff.l0 : Nat → List (List Int) → Int → Int → ByteArray → Int → Int → List (List Int) → Option (Bool)
 | 0, _, _, _, _, _, _, _ => none
 | k + 1, x34, x35, x36, x160000, x160001, x160002, x160003 => if x36 < x35 then (if 0 ≤ x36 then (if x36 < (x34.length : Int) then (if ((rd_L3 x34 x36).length : Int) = 2 then (if 0 < ((rd_L3 x34 x36).length : Int) then ((impl_within.f (rd (rd_L3 x34 x36) 0) 0 1000000).bind fun t165 => (if t165 = true then (if 1 < ((rd_L3 x34 x36).length : Int) then ((impl_within.f (rd (rd_L3 x34 x36) 1) 0 10000).bind fun t167 => (if t167 = true then (if x36 = 0 then (if (rd (rd_L3 x34 x36) 0) = 0 then (if x36 > 0 then (if 0 ≤ (wrap64 (x36 - 1)) then (if (wrap64 (x36 - 1)) < (x160003.length : Int) then (if 0 < ((rd_L3 x160003 (wrap64 (x36 - 1))).length : Int) then (impl_ValidTariff.j2 k x34 x35 x36 (decide ((rd (rd_L3 x34 x36) 0) ≤ (rd (rd_L3 x160003 (wrap64 (x36 - 1))) 0))) x160000 x160001 x160002 x160003) else (none)) else (none)) else (none)) else (impl_ValidTariff.j2 k x34 x35 x36 false x160000 x160001 x160002 x160003)) else (impl_ValidTariff.j2 k x34 x35 x36 true x160000 x160001 x160002 x160003)) else (if x36 > 0 then (if 0 ≤ (wrap64 (x36 - 1)) then (if (wrap64 (x36 - 1)) < (x160003.length : Int) then (if 0 < ((rd_L3 x160003 (wrap64 (x36 - 1))).length : Int) then (impl_ValidTariff.j2 k x34 x35 x36 (decide ((rd (rd_L3 x34 x36) 0) ≤ (rd (rd_L3 x160003 (wrap64 (x36 - 1))) 0))) x160000 x160001 x160002 x160003) else (none)) else (none)) else (none)) else (impl_ValidTariff.j2 k x34 x35 x36 false x160000 x160001 x160002 x160003))) else (impl_ValidTariff.j2 k x34 x35 x36 true x160000 x160001 x160002 x160003))) else (none)) else (impl_ValidTariff.j2 k x34 x35 x36 true x160000 x160001 x160002 x160003))) else (none)) else (impl_ValidTariff.j2 k x34 x35 x36 true x160000 x160001 x160002 x160003)) else (none)) else (none)) else (some true)
def impl_ValidTariff.j2 : Nat → List (List Int) → Int → Int → Bool → ByteArray → Int → Int → List (List Int) → Option (Bool)
 | 0, _, _, _, _, _, _, _, _ => none
 | k + 1, x34, x35, x36, x85, x160000, x160001, x160002, x160003 => if x85 = true then (some false) else (impl_ValidTariff.l0 k x34 x35 (wrap64 (x36 + 1)) x160000 x160001 x160002 x160003)
end
def impl_ValidTariff.f (k : Nat) (a0_0 : ByteArray) (a0_1 : Int) (a0_2 : Int) (l0_3 : List (List Int)) : Option (Bool) := (impl_IsName.f k a0_0).bind fun t160 => (if t160 = true then ((impl_within.f a0_1 0 1000000).bind fun t161 => (if t161 = true then ((impl_within.f a0_2 0 10000).bind fun t162 => (if t162 = true then (if (l0_3.length : Int) < 1 then (impl_ValidTariff.j0 k true a0_0 a0_1 a0_2 l0_3) else (impl_ValidTariff.j0 k (decide ((l0_3.length : Int) > 6)) a0_0 a0_1 a0_2 l0_3)) else (impl_ValidTariff.j0 k true a0_0 a0_1 a0_2 l0_3))) else (impl_ValidTariff.j0 k true a0_0 a0_1 a0_2 l0_3))) else (impl_ValidTariff.j0 k true a0_0 a0_1 a0_2 l0_3))
theorem impl_ValidTariff.mono_l : ∀ k, (∀ y0 y1 y2 y3 y4, LeO (impl_ValidTariff.j0 k y0 y1 y2 y3 y4) (impl_ValidTariff.j0 (k + 1) y0 y1 y2 y3 y4)) ∧ (∀ y0 y1 y2 y3 y4 y5 y6, LeO (impl_ValidTariff.l0 k y0 y1 y2 y3 y4 y5 y6) (impl_ValidTariff.l0 (k + 1) y0 y1 y2 y3 y4 y5 y6)) ∧ (∀ y0 y1 y2 y3 y4 y5 y6 y7, LeO (impl_ValidTariff.j2 k y0 y1 y2 y3 y4 y5 y6 y7) (impl_ValidTariff.j2 (k + 1) y0 y1 y2 y3 y4 y5 y6 y7))
 | 0 => ⟨fun _ _ _ _ _ r h => by simp [impl_ValidTariff.j0] at h, fun _ _ _ _ _ _ _ r h => by simp [impl_ValidTariff.l0] at h, fun _ _ _ _ _ _ _ _ r h => by simp [impl_ValidTariff.j2] at h⟩
 | k + 1 => by
  obtain ⟨ih0, ih1, ih2⟩ := impl_ValidTariff.mono_l k
  refine ⟨?_, ?_, ?_⟩
  ·intro y0 y1 y2 y3 y4
   unfold impl_ValidTariff.j0
   repeat' first
   | (with_reducible exact ih0 _ _ _ _ _)
   | (with_reducible exact ih1 _ _ _ _ _ _ _)
   | (with_reducible exact ih2 _ _ _ _ _ _ _ _)
   | (with_reducible exact impl_IsName.mono _ _)
   | (with_reducible exact LeO.refl _)
   | (with_reducible exact LeO.none _)
   | (with_reducible refine LeO.ite ?_ ?_)
   | (with_reducible refine LeO.bind ?_ (fun _ => ?_))
   | exact ih0 _ _ _ _ _
   | exact ih1 _ _ _ _ _ _ _
   | exact ih2 _ _ _ _ _ _ _ _
   | exact impl_IsName.mono _ _
   | exact LeO.none _
   | refine LeO.ite ?_ ?_
   | refine LeO.bind ?_ (fun _ => ?_)
  ·intro y0 y1 y2 y3 y4 y5 y6
   unfold impl_ValidTariff.l0
   repeat' first
   | (with_reducible exact ih0 _ _ _ _ _)
   | (with_reducible exact ih1 _ _ _ _ _ _ _)
   | (with_reducible exact ih2 _ _ _ _ _ _ _ _)
   | (with_reducible exact impl_IsName.mono _ _)
   | (with_reducible exact LeO.refl _)
   | (with_reducible exact LeO.none _)
   | (with_reducible refine LeO.ite ?_ ?_)
   | (with_reducible refine LeO.bind ?_ (fun _ => ?_))
   | exact ih0 _ _ _ _ _
   | exact ih1 _ _ _ _ _ _ _
   | exact ih2 _ _ _ _ _ _ _ _
   | exact impl_IsName.mono _ _
   | exact LeO.none _
   | refine LeO.ite ?_ ?_
   | refine LeO.bind ?_ (fun _ => ?_)
  ·intro y0 y1 y2 y3 y4 y5 y6 y7
   unfold impl_ValidTariff.j2
   repeat' first
   | (with_reducible exact ih0 _ _ _ _ _)
   | (with_reducible exact ih1 _ _ _ _ _ _ _)
   | (with_reducible exact ih2 _ _ _ _ _ _ _ _)
   | (with_reducible exact impl_IsName.mono _ _)
   | (with_reducible exact LeO.refl _)
   | (with_reducible exact LeO.none _)
   | (with_reducible refine LeO.ite ?_ ?_)
   | (with_reducible refine LeO.bind ?_ (fun _ => ?_))
   | exact ih0 _ _ _ _ _
   | exact ih1 _ _ _ _ _ _ _
   | exact ih2 _ _ _ _ _ _ _ _
   | exact impl_IsName.mono _ _
   | exact LeO.none _
   | refine LeO.ite ?_ ?_
   | refine LeO.bind ?_ (fun _ => ?_)
theorem impl_ValidTariff.mono : ∀ a0 a1 a2 a3 k, LeO (impl_ValidTariff.f k a0 a1 a2 a3) (impl_ValidTariff.f (k + 1) a0 a1 a2 a3) := by
 intro a0 a1 a2 a3 k
 obtain ⟨ih0, ih1, ih2⟩ := impl_ValidTariff.mono_l k
 unfold impl_ValidTariff.f
 repeat' first
   | (with_reducible exact ih0 _ _ _ _ _)
   | (with_reducible exact ih1 _ _ _ _ _ _ _)
   | (with_reducible exact ih2 _ _ _ _ _ _ _ _)
   | (with_reducible exact impl_IsName.mono _ _)
   | (with_reducible exact LeO.refl _)
   | (with_reducible exact LeO.none _)
   | (with_reducible refine LeO.ite ?_ ?_)
   | (with_reducible refine LeO.bind ?_ (fun _ => ?_))
   | exact ih0 _ _ _ _ _
   | exact ih1 _ _ _ _ _ _ _
   | exact ih2 _ _ _ _ _ _ _ _
   | exact impl_IsName.mono _ _
   | exact LeO.none _
   | refine LeO.ite ?_ ?_
   | refine LeO.bind ?_ (fun _ => ?_)
def impl_ValidTariff.T6 : Bool × List (List Nat × List Nat) := (true, [([], []), ([0], [0]), ([1], [1]), ([2], [2]), ([3], [3]), ([4, 3], [3, 4]), ([5, 3], [3, 5]), ([6, 3, 3], [3, 6]), ([7, 3], [3, 7]), ([3, 8], [3, 8]), ([9, 7], [9]), ([10], [10]), ([11, 10], [10, 11]), ([12, 10], [10, 12]), ([13, 10, 10], [10, 13]), ([14, 10], [10, 14]), ([10, 15], [10, 15]), ([16, 14], [16]), ([17], [17]), ([18, 17], [17, 18]), ([19, 17, 17], [17, 19]), ([20], [20]), ([21, 20], [20, 21]), ([22, 20], [20, 22]), ([23, 20], [20, 23]), ([20, 24, 17], [17, 20, 24]), ([17, 25], [17, 25]), ([26, 20], [26]), ([27], [27]), ([28, 27], [27, 28]), ([29, 27, 27], [27, 29]), ([30], [30]), ([31, 30], [30, 31]), ([32, 30], [30, 32]), ([30], [30]), ([34, 30], [30, 34]), ([30], [30]), ([36, 30], [30, 36]), ([35, 37, 30], [30, 35, 37]), ([38, 30], [30, 38]), ([39, 30], [30, 39]), ([40, 30], [30, 40]), ([33, 41, 30], [30, 33, 41]), ([30, 42, 27], [27, 30, 42]), ([27, 43], [27, 43])])
def impl_ValidTariff.B6 : List Nat := [0, 1, 3, 7, 15, 31, 63, 127, 255, 511, 1023, 2047, 4095, 8191, 16383, 32767, 65535, 131071, 262143, 524287, 1048575, 2097151, 4194303, 8388607, 16777215, 33554431, 67108863, 134217727, 268435455, 536870911, 1073741823, 2147483647, 4294967295, 8589934591, 2147483647, 19327352831, 2147483647, 70866960383, 259845521407, 534723428351, 1084479242239, 2183990870015, 4398046511103, 8796093022207, 17592186044415]
theorem impl_ValidTariff.tab6 : rtab .any (opsOf Tryd.f24 6) = impl_ValidTariff.T6 := by kernel_rfl
theorem impl_ValidTariff.bits6 : waitsOk impl_ValidTariff.T6.2 impl_ValidTariff.B6 = true := by kernel_rfl
set_option maxHeartbeats 8000000 in
set_option maxRecDepth 100000 in
theorem impl_ValidTariff.calls (k : Nat) (a0_0 : ByteArray) (a0_1 : Int) (a0_2 : Int) (A0_3 : Option Addr) (c0_3 : Nat) (l0_3 : List (List Int)) (r : Bool) (w : World) (hr0_3 : Kd.C (Kd.slice 2 (Kd.int .i64)) w A0_3 l0_3.length l0_3) (hc0_3 : l0_3.length ≤ c0_3) (h : impl_ValidTariff.f k a0_0 a0_1 a0_2 l0_3 = some r) :
  Calls Tryd.prog 24 #[.agg #[.string a0_0, .int .i64 a0_1, .int .i64 a0_2, .slice A0_3 l0_3.length c0_3]] w fun e w' => e = .returned (.bool r) ∧ Below w.heap.size w w' := by
 have hu26 := Tryd.underlying26
 have HR0_3 := Aside0.mk hr0_3
 have HC0_3 := Aside0.mk hc0_3
 clear hr0_3 hc0_3
 have HB := Aside0.mk (Below.refl w.heap.size w)
 have H : ((impl_IsName.f k a0_0).bind fun t160 => (if t160 = true then ((impl_within.f a0_1 0 1000000).bind fun t161 => (if t161 = true then ((impl_within.f a0_2 0 10000).bind fun t162 => (if t162 = true then (if (l0_3.length : Int) < 1 then (impl_ValidTariff.j0 k true a0_0 a0_1 a0_2 l0_3) else (impl_ValidTariff.j0 k (decide ((l0_3.length : Int) > 6)) a0_0 a0_1 a0_2 l0_3)) else (impl_ValidTariff.j0 k true a0_0 a0_1 a0_2 l0_3))) else (impl_ValidTariff.j0 k true a0_0 a0_1 a0_2 l0_3))) else (impl_ValidTariff.j0 k true a0_0 a0_1 a0_2 l0_3))) = some r := h
 clear h
 have HC2 := Aside0.mk H
 clear H
 go_enter Tryd.func24, Tryd.ntmps24
 go_upto_region 1 with (first | ((with_reducible refine gate_dst (N := 1) rfl ?_); (try (refine gate_guard (by rfl) ?_; dsimp only)); refine box_event ?hg (N := 1) ?hd (cs := #[.string a0_0, .int .i64 a0_1, .int .i64 a0_2, .slice A0_3 l0_3.length c0_3]) (t := 26) ?hr ?_; (case hd => rfl); (case hg => rfl); (case hr => first | (go_simp; done) | (go_simp; rfl)); intro gb159 hg w3 hbox hb; have n0_ := Aside0.mk (below_step (by repeat (first | (with_reducible first | exact HB.out | apply below_alloc | apply pw_below_drewN | apply below_drew1) | exact HB.out)) hb); have n1_ := Aside0.mk (hbox); have n2_ := Aside0.mk ((by rw [hg]; exact (below_size (by repeat (first | (with_reducible first | exact HB.out | apply below_alloc | apply pw_below_drewN | apply below_drew1) | exact HB.out))) : w.heap.size ≤ gb159)); have n3_ := Aside0.mk ((by rw [hg]; exact (below_size (by repeat (first | (with_reducible first | exact HB.out | apply below_alloc | apply pw_below_drewN | apply below_drew1) | exact HB.out))) : w.heap.size ≤ gb159)); clear HB; have HB := n0_; have BK159 := n1_; have GW159 := n2_; have GE159 := n3_; clear n0_ n1_ n2_ n3_; clear hb hbox hg))
 (try simp only [Act.put, List.setIfInBounds_toArray, List.set_cons_zero, List.set_cons_succ])
 go_cut [32] (fun v32 wc => ∃ (kq : Nat) (x32_1 : Bool), v32 = .bool x32_1 ∧ Aside0 (impl_ValidTariff.j0 kq x32_1 a0_0 a0_1 a0_2 l0_3 = some r) ∧ Aside0 (kq ≤ k) ∧ Aside0 (wc.heap[gb159]? = some (.cells #[.string a0_0, .int .i64 a0_1, .int .i64 a0_2, (.slice A0_3 l0_3.length c0_3)] 26 (0, 0))) ∧ Aside0 (Below w.heap.size w wc))
 case first =>
  have H := HC2.out
  clear HC2
  replace H := Option.bind_eq_some_iff.mp H
  obtain ⟨t160, A40, H⟩ := H
  replace H : (if t160 = true then ((impl_within.f a0_1 0 1000000).bind fun t161 => (if t161 = true then ((impl_within.f a0_2 0 10000).bind fun t162 => (if t162 = true then (if (l0_3.length : Int) < 1 then (impl_ValidTariff.j0 k true a0_0 a0_1 a0_2 l0_3) else (impl_ValidTariff.j0 k (decide ((l0_3.length : Int) > 6)) a0_0 a0_1 a0_2 l0_3)) else (impl_ValidTariff.j0 k true a0_0 a0_1 a0_2 l0_3))) else (impl_ValidTariff.j0 k true a0_0 a0_1 a0_2 l0_3))) else (impl_ValidTariff.j0 k true a0_0 a0_1 a0_2 l0_3)) = some r := H
  have A4 := Aside0.mk A40
  clear A40
  by_cases c5 : t160 = true
  ·subst c5
   have H1 : ((impl_within.f a0_1 0 1000000).bind fun t161 => (if t161 = true then ((impl_within.f a0_2 0 10000).bind fun t162 => (if t162 = true then (if (l0_3.length : Int) < 1 then (impl_ValidTariff.j0 k true a0_0 a0_1 a0_2 l0_3) else (impl_ValidTariff.j0 k (decide ((l0_3.length : Int) > 6)) a0_0 a0_1 a0_2 l0_3)) else (impl_ValidTariff.j0 k true a0_0 a0_1 a0_2 l0_3))) else (impl_ValidTariff.j0 k true a0_0 a0_1 a0_2 l0_3))) = some r := by rw [if_pos rfl] at H; exact H
   clear H
   have H := H1
   clear H1
   replace H := Option.bind_eq_some_iff.mp H
   obtain ⟨t161, A60, H⟩ := H
   replace H : (if t161 = true then ((impl_within.f a0_2 0 10000).bind fun t162 => (if t162 = true then (if (l0_3.length : Int) < 1 then (impl_ValidTariff.j0 k true a0_0 a0_1 a0_2 l0_3) else (impl_ValidTariff.j0 k (decide ((l0_3.length : Int) > 6)) a0_0 a0_1 a0_2 l0_3)) else (impl_ValidTariff.j0 k true a0_0 a0_1 a0_2 l0_3))) else (impl_ValidTariff.j0 k true a0_0 a0_1 a0_2 l0_3)) = some r := H
   have A6 := Aside0.mk A60
   clear A60
   by_cases c7 : t161 = true
   ·subst c7
    have H1 : ((impl_within.f a0_2 0 10000).bind fun t162 => (if t162 = true then (if (l0_3.length : Int) < 1 then (impl_ValidTariff.j0 k true a0_0 a0_1 a0_2 l0_3) else (impl_ValidTariff.j0 k (decide ((l0_3.length : Int) > 6)) a0_0 a0_1 a0_2 l0_3)) else (impl_ValidTariff.j0 k true a0_0 a0_1 a0_2 l0_3))) = some r := by rw [if_pos rfl] at H; exact H
    clear H
    have H := H1
    clear H1
    replace H := Option.bind_eq_some_iff.mp H
    obtain ⟨t162, A80, H⟩ := H
    replace H : (if t162 = true then (if (l0_3.length : Int) < 1 then (impl_ValidTariff.j0 k true a0_0 a0_1 a0_2 l0_3) else (impl_ValidTariff.j0 k (decide ((l0_3.length : Int) > 6)) a0_0 a0_1 a0_2 l0_3)) else (impl_ValidTariff.j0 k true a0_0 a0_1 a0_2 l0_3)) = some r := H
    have A8 := Aside0.mk A80
    clear A80
    by_cases c9 : t162 = true
    ·subst c9
     have H1 : (if (l0_3.length : Int) < 1 then (impl_ValidTariff.j0 k true a0_0 a0_1 a0_2 l0_3) else (impl_ValidTariff.j0 k (decide ((l0_3.length : Int) > 6)) a0_0 a0_1 a0_2 l0_3)) = some r := by rw [if_pos rfl] at H; exact H
     clear H
     have H := H1
     clear H1
     by_cases c10 : (l0_3.length : Int) < 1
     ·rw [if_pos c10] at H
      have c10b0 : decide ((l0_3.length : Int) < 1) = true := decide_eq_true c10
      have c10b1 : decide (l0_3.length < 1) = true := decide_eq_true (by omega)
      clear c10
      (first | rw [c10b0] | (simp only [i64_w, i32_w]; rw [c10b0]) | skip)
      have H' := Aside0.mk H
      clear H
      have hcz11_0 : w3.cell? ⟨gb159, 0, none⟩ = some (.string a0_0) := (blk_cell BK159.out 0).trans rfl
      have hcz11_1 : w3.cell? ⟨gb159, 1, none⟩ = some (.int .i64 a0_1) := (blk_cell BK159.out 1).trans rfl
      have hcz11_2 : w3.cell? ⟨gb159, 2, none⟩ = some (.int .i64 a0_2) := (blk_cell BK159.out 2).trans rfl
      have hcz11_3 : w3.cell? ⟨gb159, 3, none⟩ = some (.slice A0_3 l0_3.length c0_3) := (blk_cell BK159.out 3).trans rfl
      have hfz11_0 := blk_frozen BK159.out 0
      have hfz11_1 := blk_frozen BK159.out 1
      have hfz11_2 := blk_frozen BK159.out 2
      have hfz11_3 := blk_frozen BK159.out 3
      go_wp2_with (first | ((with_reducible refine gate_callee (f := 41) rfl ?_); refine goesL_ (some 7) rfl rfl Tryd.func41 (by kernel_rfl) rfl #[.string a0_0] rfl (by (try simp only [List.map_toArray, List.map_cons, List.map_nil]); first | done | rfl | (simp only [List.length_drop, List.length_take]; rfl)) ?_; (with_reducible refine (impl_IsName.calls k a0_0 true _ A4.out).mono ?_); rintro e w' ⟨rfl, ⟨nd, rfl⟩⟩; refine ⟨_, rfl, ?_⟩) | (go_at_call 28; (with_reducible refine (impl_within.calls a0_1 0 1000000 true _ A6.out).mono ?_); rintro e w' ⟨rfl, ⟨nd, rfl⟩⟩) | (go_at_call 28; (with_reducible refine (impl_within.calls a0_2 0 10000 true _ A8.out).mono ?_); rintro e w' ⟨rfl, ⟨nd, rfl⟩⟩))
      go_meet
      case rel => exact ⟨_, (true), (by first | rfl | (simp; done) | (simp [*]; done)), H', ⟨by first | omega | exact Nat.le_refl _⟩, ⟨by (with_reducible repeat (first | refine blk_drewN ?_ _ | refine blk_drew ?_ | refine blk_alloc ?_ _)); exact BK159.out⟩, ⟨by repeat (first | (with_reducible first | exact HB.out | apply below_alloc | apply pw_below_drewN | apply below_drew1 | refine below_set ?_ GE159.out) | exact HB.out)⟩⟩
     ·rw [if_neg c10] at H
      have c10b0 : decide ((l0_3.length : Int) < 1) = false := decide_eq_false c10
      have c10b1 : decide (l0_3.length < 1) = false := decide_eq_false (by omega)
      clear c10
      (first | rw [c10b0] | (simp only [i64_w, i32_w]; rw [c10b0]) | skip)
      have H' := Aside0.mk H
      clear H
      have hcz12_0 : w3.cell? ⟨gb159, 0, none⟩ = some (.string a0_0) := (blk_cell BK159.out 0).trans rfl
      have hcz12_1 : w3.cell? ⟨gb159, 1, none⟩ = some (.int .i64 a0_1) := (blk_cell BK159.out 1).trans rfl
      have hcz12_2 : w3.cell? ⟨gb159, 2, none⟩ = some (.int .i64 a0_2) := (blk_cell BK159.out 2).trans rfl
      have hcz12_3 : w3.cell? ⟨gb159, 3, none⟩ = some (.slice A0_3 l0_3.length c0_3) := (blk_cell BK159.out 3).trans rfl
      have hfz12_0 := blk_frozen BK159.out 0
      have hfz12_1 := blk_frozen BK159.out 1
      have hfz12_2 := blk_frozen BK159.out 2
      have hfz12_3 := blk_frozen BK159.out 3
      go_wp2_with (first | ((with_reducible refine gate_callee (f := 41) rfl ?_); refine goesL_ (some 7) rfl rfl Tryd.func41 (by kernel_rfl) rfl #[.string a0_0] rfl (by (try simp only [List.map_toArray, List.map_cons, List.map_nil]); first | done | rfl | (simp only [List.length_drop, List.length_take]; rfl)) ?_; (with_reducible refine (impl_IsName.calls k a0_0 true _ A4.out).mono ?_); rintro e w' ⟨rfl, ⟨nd, rfl⟩⟩; refine ⟨_, rfl, ?_⟩) | (go_at_call 28; (with_reducible refine (impl_within.calls a0_1 0 1000000 true _ A6.out).mono ?_); rintro e w' ⟨rfl, ⟨nd, rfl⟩⟩) | (go_at_call 28; (with_reducible refine (impl_within.calls a0_2 0 10000 true _ A8.out).mono ?_); rintro e w' ⟨rfl, ⟨nd, rfl⟩⟩))
      go_meet
      case rel => exact ⟨_, (decide ((l0_3.length : Int) > 6)), (by first | rfl | (simp; done) | (simp [*]; done)), H', ⟨by first | omega | exact Nat.le_refl _⟩, ⟨by (with_reducible repeat (first | refine blk_drewN ?_ _ | refine blk_drew ?_ | refine blk_alloc ?_ _)); exact BK159.out⟩, ⟨by repeat (first | (with_reducible first | exact HB.out | apply below_alloc | apply pw_below_drewN | apply below_drew1 | refine below_set ?_ GE159.out) | exact HB.out)⟩⟩
    ·replace c9 := Bool.eq_false_iff.mpr c9
     subst c9
     have H1 : (impl_ValidTariff.j0 k true a0_0 a0_1 a0_2 l0_3) = some r := by rw [if_neg (show ¬ (false = true) by decide)] at H; exact H
     clear H
     have H := H1
     clear H1
     have H' := Aside0.mk H
     clear H
     have hcz13_0 : w3.cell? ⟨gb159, 0, none⟩ = some (.string a0_0) := (blk_cell BK159.out 0).trans rfl
     have hcz13_1 : w3.cell? ⟨gb159, 1, none⟩ = some (.int .i64 a0_1) := (blk_cell BK159.out 1).trans rfl
     have hcz13_2 : w3.cell? ⟨gb159, 2, none⟩ = some (.int .i64 a0_2) := (blk_cell BK159.out 2).trans rfl
     have hcz13_3 : w3.cell? ⟨gb159, 3, none⟩ = some (.slice A0_3 l0_3.length c0_3) := (blk_cell BK159.out 3).trans rfl
     have hfz13_0 := blk_frozen BK159.out 0
     have hfz13_1 := blk_frozen BK159.out 1
     have hfz13_2 := blk_frozen BK159.out 2
     have hfz13_3 := blk_frozen BK159.out 3
     go_wp2_with (first | ((with_reducible refine gate_callee (f := 41) rfl ?_); refine goesL_ (some 7) rfl rfl Tryd.func41 (by kernel_rfl) rfl #[.string a0_0] rfl (by (try simp only [List.map_toArray, List.map_cons, List.map_nil]); first | done | rfl | (simp only [List.length_drop, List.length_take]; rfl)) ?_; (with_reducible refine (impl_IsName.calls k a0_0 true _ A4.out).mono ?_); rintro e w' ⟨rfl, ⟨nd, rfl⟩⟩; refine ⟨_, rfl, ?_⟩) | (go_at_call 28; (with_reducible refine (impl_within.calls a0_1 0 1000000 true _ A6.out).mono ?_); rintro e w' ⟨rfl, ⟨nd, rfl⟩⟩) | (go_at_call 28; (with_reducible refine (impl_within.calls a0_2 0 10000 false _ A8.out).mono ?_); rintro e w' ⟨rfl, ⟨nd, rfl⟩⟩))
     go_meet
     case rel => exact ⟨_, (true), (by first | rfl | (simp; done) | (simp [*]; done)), H', ⟨by first | omega | exact Nat.le_refl _⟩, ⟨by (with_reducible repeat (first | refine blk_drewN ?_ _ | refine blk_drew ?_ | refine blk_alloc ?_ _)); exact BK159.out⟩, ⟨by repeat (first | (with_reducible first | exact HB.out | apply below_alloc | apply pw_below_drewN | apply below_drew1 | refine below_set ?_ GE159.out) | exact HB.out)⟩⟩
   ·replace c7 := Bool.eq_false_iff.mpr c7
    subst c7
    have H1 : (impl_ValidTariff.j0 k true a0_0 a0_1 a0_2 l0_3) = some r := by rw [if_neg (show ¬ (false = true) by decide)] at H; exact H
    clear H
    have H := H1
    clear H1
    have H' := Aside0.mk H
    clear H
    have hcz14_0 : w3.cell? ⟨gb159, 0, none⟩ = some (.string a0_0) := (blk_cell BK159.out 0).trans rfl
    have hcz14_1 : w3.cell? ⟨gb159, 1, none⟩ = some (.int .i64 a0_1) := (blk_cell BK159.out 1).trans rfl
    have hcz14_2 : w3.cell? ⟨gb159, 2, none⟩ = some (.int .i64 a0_2) := (blk_cell BK159.out 2).trans rfl
    have hcz14_3 : w3.cell? ⟨gb159, 3, none⟩ = some (.slice A0_3 l0_3.length c0_3) := (blk_cell BK159.out 3).trans rfl
    have hfz14_0 := blk_frozen BK159.out 0
    have hfz14_1 := blk_frozen BK159.out 1
    have hfz14_2 := blk_frozen BK159.out 2
    have hfz14_3 := blk_frozen BK159.out 3
    go_wp2_with (first | ((with_reducible refine gate_callee (f := 41) rfl ?_); refine goesL_ (some 7) rfl rfl Tryd.func41 (by kernel_rfl) rfl #[.string a0_0] rfl (by (try simp only [List.map_toArray, List.map_cons, List.map_nil]); first | done | rfl | (simp only [List.length_drop, List.length_take]; rfl)) ?_; (with_reducible refine (impl_IsName.calls k a0_0 true _ A4.out).mono ?_); rintro e w' ⟨rfl, ⟨nd, rfl⟩⟩; refine ⟨_, rfl, ?_⟩) | (go_at_call 28; (with_reducible refine (impl_within.calls a0_1 0 1000000 false _ A6.out).mono ?_); rintro e w' ⟨rfl, ⟨nd, rfl⟩⟩))
    go_meet
    case rel => exact ⟨_, (true), (by first | rfl | (simp; done) | (simp [*]; done)), H', ⟨by first | omega | exact Nat.le_refl _⟩, ⟨by (with_reducible repeat (first | refine blk_drewN ?_ _ | refine blk_drew ?_ | refine blk_alloc ?_ _)); exact BK159.out⟩, ⟨by repeat (first | (with_reducible first | exact HB.out | apply below_alloc | apply pw_below_drewN | apply below_drew1 | refine below_set ?_ GE159.out) | exact HB.out)⟩⟩
  ·replace c5 := Bool.eq_false_iff.mpr c5
   subst c5
   have H1 : (impl_ValidTariff.j0 k true a0_0 a0_1 a0_2 l0_3) = some r := by rw [if_neg (show ¬ (false = true) by decide)] at H; exact H
   clear H
   have H := H1
   clear H1
   have H' := Aside0.mk H
   clear H
   have hcz15_0 : w3.cell? ⟨gb159, 0, none⟩ = some (.string a0_0) := (blk_cell BK159.out 0).trans rfl
   have hcz15_1 : w3.cell? ⟨gb159, 1, none⟩ = some (.int .i64 a0_1) := (blk_cell BK159.out 1).trans rfl
   have hcz15_2 : w3.cell? ⟨gb159, 2, none⟩ = some (.int .i64 a0_2) := (blk_cell BK159.out 2).trans rfl
   have hcz15_3 : w3.cell? ⟨gb159, 3, none⟩ = some (.slice A0_3 l0_3.length c0_3) := (blk_cell BK159.out 3).trans rfl
   have hfz15_0 := blk_frozen BK159.out 0
   have hfz15_1 := blk_frozen BK159.out 1
   have hfz15_2 := blk_frozen BK159.out 2
   have hfz15_3 := blk_frozen BK159.out 3
   go_wp2_with (first | ((with_reducible refine gate_callee (f := 41) rfl ?_); refine goesL_ (some 7) rfl rfl Tryd.func41 (by kernel_rfl) rfl #[.string a0_0] rfl (by (try simp only [List.map_toArray, List.map_cons, List.map_nil]); first | done | rfl | (simp only [List.length_drop, List.length_take]; rfl)) ?_; (with_reducible refine (impl_IsName.calls k a0_0 false _ A4.out).mono ?_); rintro e w' ⟨rfl, ⟨nd, rfl⟩⟩; refine ⟨_, rfl, ?_⟩))
   go_meet
   case rel => exact ⟨_, (true), (by first | rfl | (simp; done) | (simp [*]; done)), H', ⟨by first | omega | exact Nat.le_refl _⟩, ⟨by (with_reducible repeat (first | refine blk_drewN ?_ _ | refine blk_drew ?_ | refine blk_alloc ?_ _)); exact BK159.out⟩, ⟨by repeat (first | (with_reducible first | exact HB.out | apply below_alloc | apply pw_below_drewN | apply below_drew1 | refine below_set ?_ GE159.out) | exact HB.out)⟩⟩
 case rest =>
  clear HC2
  try clear c1
  try clear c2
  try clear p2
  try clear c4
  try clear c5
  try clear c7
  try clear c9
  try clear c10
  try clear c10b0
  try clear c10b1
  try clear hcz11_0
  try clear hcz11_1
  try clear hcz11_2
  try clear hcz11_3
  try clear hcz12_0
  try clear hcz12_1
  try clear hcz12_2
  try clear hcz12_3
  try clear hcz13_0
  try clear hcz13_1
  try clear hcz13_2
  try clear hcz13_3
  try clear hcz14_0
  try clear hcz14_1
  try clear hcz14_2
  try clear hcz14_3
  try clear hcz15_0
  try clear hcz15_1
  try clear hcz15_2
  try clear hcz15_3
  try clear hfz11_0
  try clear hfz11_1
  try clear hfz11_2
  try clear hfz11_3
  try clear hfz12_0
  try clear hfz12_1
  try clear hfz12_2
  try clear hfz12_3
  try clear hfz13_0
  try clear hfz13_1
  try clear hfz13_2
  try clear hfz13_3
  try clear hfz14_0
  try clear hfz14_1
  try clear hfz14_2
  try clear hfz14_3
  try clear hfz15_0
  try clear hfz15_1
  try clear hfz15_2
  try clear hfz15_3
  obtain ⟨kq, x32_1, rfl, HA, HJ1, BK159, HB⟩ := hcut
  cases kq with
  | zero => exact absurd HA.out (by simp [impl_ValidTariff.j0])
  | succ kj1 =>
   have H := HA.out
   clear HA
   simp only [impl_ValidTariff.j0] at H
   by_cases c16 : x32_1 = true
   ·subst c16
    have H1 : (some false) = some r := by rw [if_pos rfl] at H; exact H
    clear H
    have H := H1
    clear H1
    obtain rfl := Option.some.inj H
    go_wp2
    go_ret
    exact ⟨by first | rfl | (rw [Int.tdiv_eq_ediv_of_nonneg (by omega)]; rfl) | (simp [errW_none, errW_some] <;> rfl) | (simp [*, errW_none, errW_some] <;> rfl), by repeat (first | (with_reducible first | exact HB.out | apply below_alloc | apply pw_below_drewN | apply below_drew1 | refine below_set ?_ GE159.out) | exact HB.out)⟩
   ·replace c16 := Bool.eq_false_iff.mpr c16
    subst c16
    have H1 : (impl_ValidTariff.l0 kj1 l0_3 (l0_3.length : Int) 0 a0_0 a0_1 a0_2 l0_3) = some r := by rw [if_neg (show ¬ (false = true) by decide)] at H; exact H
    clear H
    have H := H1
    clear H1
    have H' := Aside0.mk H
    clear H
    have hcz17_0 : wc.cell? ⟨gb159, 0, none⟩ = some (.string a0_0) := (blk_cell BK159.out 0).trans rfl
    have hcz17_1 : wc.cell? ⟨gb159, 1, none⟩ = some (.int .i64 a0_1) := (blk_cell BK159.out 1).trans rfl
    have hcz17_2 : wc.cell? ⟨gb159, 2, none⟩ = some (.int .i64 a0_2) := (blk_cell BK159.out 2).trans rfl
    have hcz17_3 : wc.cell? ⟨gb159, 3, none⟩ = some (.slice A0_3 l0_3.length c0_3) := (blk_cell BK159.out 3).trans rfl
    have hfz17_0 := blk_frozen BK159.out 0
    have hfz17_1 := blk_frozen BK159.out 1
    have hfz17_2 := blk_frozen BK159.out 2
    have hfz17_3 := blk_frozen BK159.out 3
    go_wp2
    go_loopg [36] kj1 (fun kq v36 w' => ∃ (x36_2 : Int), v36 = .int .i64 x36_2 ∧ Aside0 (impl_ValidTariff.l0 kq l0_3 (l0_3.length : Int) x36_2 a0_0 a0_1 a0_2 l0_3 = some r) ∧ Aside0 (kq ≤ kj1) ∧ Aside0 (w'.heap[gb159]? = some (.cells #[.string a0_0, .int .i64 a0_1, .int .i64 a0_2, (.slice A0_3 l0_3.length c0_3)] 26 (0, 0))) ∧ Aside0 (Below w.heap.size w w'))
    case atStart => exact ⟨(0), (by first | rfl | (simp; done) | (simp [*]; done)), H', ⟨Nat.le_refl _⟩, ⟨by (with_reducible repeat (first | refine blk_drewN ?_ _ | refine blk_drew ?_ | refine blk_alloc ?_ _)); exact BK159.out⟩, ⟨by repeat (first | (with_reducible first | exact HB.out | apply below_alloc | apply pw_below_drewN | apply below_drew1 | refine below_set ?_ GE159.out) | exact HB.out)⟩⟩
    case round =>
     clear H'
     try clear c1
     try clear c2
     try clear p2
     try clear c4
     try clear c5
     try clear c7
     try clear c9
     try clear c10
     try clear c10b0
     try clear c10b1
     try clear c16
     try clear hcz11_0
     try clear hcz11_1
     try clear hcz11_2
     try clear hcz11_3
     try clear hcz12_0
     try clear hcz12_1
     try clear hcz12_2
     try clear hcz12_3
     try clear hcz13_0
     try clear hcz13_1
     try clear hcz13_2
     try clear hcz13_3
     try clear hcz14_0
     try clear hcz14_1
     try clear hcz14_2
     try clear hcz14_3
     try clear hcz15_0
     try clear hcz15_1
     try clear hcz15_2
     try clear hcz15_3
     try clear hcz17_0
     try clear hcz17_1
     try clear hcz17_2
     try clear hcz17_3
     try clear hfz11_0
     try clear hfz11_1
     try clear hfz11_2
     try clear hfz11_3
     try clear hfz12_0
     try clear hfz12_1
     try clear hfz12_2
     try clear hfz12_3
     try clear hfz13_0
     try clear hfz13_1
     try clear hfz13_2
     try clear hfz13_3
     try clear hfz14_0
     try clear hfz14_1
     try clear hfz14_2
     try clear hfz14_3
     try clear hfz15_0
     try clear hfz15_1
     try clear hfz15_2
     try clear hfz15_3
     try clear hfz17_0
     try clear hfz17_1
     try clear hfz17_2
     try clear hfz17_3
     try clear p2
     obtain ⟨x36_2, rfl, HA, HK2, BK159, HB⟩ := hrel
     cases gk with
     | zero => exact absurd HA.out (by simp [impl_ValidTariff.l0])
     | succ k2 =>
      have H := HA.out
      clear HA
      simp only [impl_ValidTariff.l0] at H
      by_cases c18 : x36_2 < (l0_3.length : Int)
      ·rw [if_pos c18] at H
       have c18b0 : decide (x36_2 < (l0_3.length : Int)) = true := decide_eq_true c18
       clear c18
       by_cases c19 : 0 ≤ x36_2
       ·rw [if_pos c19] at H
        have c19b0 : decide (0 ≤ x36_2) = true := decide_eq_true c19
        clear c19
        by_cases c20 : x36_2 < (l0_3.length : Int)
        ·rw [if_pos c20] at H
         have c20b0 : decide (x36_2 < (l0_3.length : Int)) = true := decide_eq_true c20
         clear c20
         have HC21 := Aside0.mk H
         clear H
         have p163 : 0 ≤ (x36_2 : Int) := of_decide_eq_true (by first | (with_reducible assumption) | assumption)
         have q163 : x36_2 < (l0_3.length : Int) := of_decide_eq_true (by first | (with_reducible assumption) | assumption)
         obtain ⟨ad163, A163_0, c163_0, e163, hx163_0, hl163_0, hi163_0⟩ := at_L3 HR0_3.out x36_2 p163 q163
         cases e163
         replace hx163_0 := (HB.out.cell (World.block_lt_of_cell? w _ hx163_0)).trans hx163_0
         have HR163_0 := Aside0.mk hi163_0
         have HC163_0 := Aside0.mk hl163_0
         clear hi163_0 hl163_0
         replace p163 := eq_true p163
         replace q163 := eq_true q163
         go_upto_region 6 with (fail)
         go_cut [85] (fun v85 wc => ∃ (kq : Nat) (x85_20 : Bool), v85 = .bool x85_20 ∧ Aside0 (impl_ValidTariff.j2 kq l0_3 (l0_3.length : Int) x36_2 x85_20 a0_0 a0_1 a0_2 l0_3 = some r) ∧ Aside0 (kq ≤ k2) ∧ Aside0 (wc.heap[gb159]? = some (.cells #[.string a0_0, .int .i64 a0_1, .int .i64 a0_2, (.slice (some ad163) l0_3.length c0_3)] 26 (0, 0))) ∧ Aside0 (Below w.heap.size w wc))
         case first =>
          have H := HC21.out
          clear HC21
          by_cases c22 : ((rd_L3 l0_3 x36_2).length : Int) = 2
          ·rw [if_pos c22] at H
           have c22b0 : (((rd_L3 l0_3 x36_2).length : Int) == 2) = true := beq_iff_eq.mpr c22
           have c22b1 : (((rd_L3 l0_3 x36_2).length : Int) != 2) = false := bne_eq_false_iff_eq.mpr c22
           clear c22
           (first | rw [c22b0] | (simp only [i64_w, i32_w]; rw [c22b0]) | skip)
           by_cases c23 : 0 < ((rd_L3 l0_3 x36_2).length : Int)
           ·rw [if_pos c23] at H
            have c23b0 : decide (0 < ((rd_L3 l0_3 x36_2).length : Int)) = true := decide_eq_true c23
            have c23b1 : decide (0 < (rd_L3 l0_3 x36_2).length) = true := decide_eq_true (by omega)
            clear c23
            replace H := Option.bind_eq_some_iff.mp H
            obtain ⟨t165, A240, H⟩ := H
            replace H : (if t165 = true then (if 1 < ((rd_L3 l0_3 x36_2).length : Int) then ((impl_within.f (rd (rd_L3 l0_3 x36_2) 1) 0 10000).bind fun t167 => (if t167 = true then (if x36_2 = 0 then (if (rd (rd_L3 l0_3 x36_2) 0) = 0 then (if x36_2 > 0 then (if 0 ≤ (wrap64 (x36_2 - 1)) then (if (wrap64 (x36_2 - 1)) < (l0_3.length : Int) then (if 0 < ((rd_L3 l0_3 (wrap64 (x36_2 - 1))).length : Int) then (impl_ValidTariff.j2 k2 l0_3 (l0_3.length : Int) x36_2 (decide ((rd (rd_L3 l0_3 x36_2) 0) ≤ (rd (rd_L3 l0_3 (wrap64 (x36_2 - 1))) 0))) a0_0 a0_1 a0_2 l0_3) else (none)) else (none)) else (none)) else (impl_ValidTariff.j2 k2 l0_3 (l0_3.length : Int) x36_2 false a0_0 a0_1 a0_2 l0_3)) else (impl_ValidTariff.j2 k2 l0_3 (l0_3.length : Int) x36_2 true a0_0 a0_1 a0_2 l0_3)) else (if x36_2 > 0 then (if 0 ≤ (wrap64 (x36_2 - 1)) then (if (wrap64 (x36_2 - 1)) < (l0_3.length : Int) then (if 0 < ((rd_L3 l0_3 (wrap64 (x36_2 - 1))).length : Int) then (impl_ValidTariff.j2 k2 l0_3 (l0_3.length : Int) x36_2 (decide ((rd (rd_L3 l0_3 x36_2) 0) ≤ (rd (rd_L3 l0_3 (wrap64 (x36_2 - 1))) 0))) a0_0 a0_1 a0_2 l0_3) else (none)) else (none)) else (none)) else (impl_ValidTariff.j2 k2 l0_3 (l0_3.length : Int) x36_2 false a0_0 a0_1 a0_2 l0_3))) else (impl_ValidTariff.j2 k2 l0_3 (l0_3.length : Int) x36_2 true a0_0 a0_1 a0_2 l0_3))) else (none)) else (impl_ValidTariff.j2 k2 l0_3 (l0_3.length : Int) x36_2 true a0_0 a0_1 a0_2 l0_3)) = some r := H
            have A24 := Aside0.mk A240
            clear A240
            by_cases c25 : t165 = true
            ·subst c25
             have H1 : (if 1 < ((rd_L3 l0_3 x36_2).length : Int) then ((impl_within.f (rd (rd_L3 l0_3 x36_2) 1) 0 10000).bind fun t167 => (if t167 = true then (if x36_2 = 0 then (if (rd (rd_L3 l0_3 x36_2) 0) = 0 then (if x36_2 > 0 then (if 0 ≤ (wrap64 (x36_2 - 1)) then (if (wrap64 (x36_2 - 1)) < (l0_3.length : Int) then (if 0 < ((rd_L3 l0_3 (wrap64 (x36_2 - 1))).length : Int) then (impl_ValidTariff.j2 k2 l0_3 (l0_3.length : Int) x36_2 (decide ((rd (rd_L3 l0_3 x36_2) 0) ≤ (rd (rd_L3 l0_3 (wrap64 (x36_2 - 1))) 0))) a0_0 a0_1 a0_2 l0_3) else (none)) else (none)) else (none)) else (impl_ValidTariff.j2 k2 l0_3 (l0_3.length : Int) x36_2 false a0_0 a0_1 a0_2 l0_3)) else (impl_ValidTariff.j2 k2 l0_3 (l0_3.length : Int) x36_2 true a0_0 a0_1 a0_2 l0_3)) else (if x36_2 > 0 then (if 0 ≤ (wrap64 (x36_2 - 1)) then (if (wrap64 (x36_2 - 1)) < (l0_3.length : Int) then (if 0 < ((rd_L3 l0_3 (wrap64 (x36_2 - 1))).length : Int) then (impl_ValidTariff.j2 k2 l0_3 (l0_3.length : Int) x36_2 (decide ((rd (rd_L3 l0_3 x36_2) 0) ≤ (rd (rd_L3 l0_3 (wrap64 (x36_2 - 1))) 0))) a0_0 a0_1 a0_2 l0_3) else (none)) else (none)) else (none)) else (impl_ValidTariff.j2 k2 l0_3 (l0_3.length : Int) x36_2 false a0_0 a0_1 a0_2 l0_3))) else (impl_ValidTariff.j2 k2 l0_3 (l0_3.length : Int) x36_2 true a0_0 a0_1 a0_2 l0_3))) else (none)) = some r := by rw [if_pos rfl] at H; exact H
             clear H
             have H := H1
             clear H1
             by_cases c26 : 1 < ((rd_L3 l0_3 x36_2).length : Int)
             ·rw [if_pos c26] at H
              have c26b0 : decide (1 < ((rd_L3 l0_3 x36_2).length : Int)) = true := decide_eq_true c26
              have c26b1 : decide (1 < (rd_L3 l0_3 x36_2).length) = true := decide_eq_true (by omega)
              clear c26
              replace H := Option.bind_eq_some_iff.mp H
              obtain ⟨t167, A270, H⟩ := H
              replace H : (if t167 = true then (if x36_2 = 0 then (if (rd (rd_L3 l0_3 x36_2) 0) = 0 then (if x36_2 > 0 then (if 0 ≤ (wrap64 (x36_2 - 1)) then (if (wrap64 (x36_2 - 1)) < (l0_3.length : Int) then (if 0 < ((rd_L3 l0_3 (wrap64 (x36_2 - 1))).length : Int) then (impl_ValidTariff.j2 k2 l0_3 (l0_3.length : Int) x36_2 (decide ((rd (rd_L3 l0_3 x36_2) 0) ≤ (rd (rd_L3 l0_3 (wrap64 (x36_2 - 1))) 0))) a0_0 a0_1 a0_2 l0_3) else (none)) else (none)) else (none)) else (impl_ValidTariff.j2 k2 l0_3 (l0_3.length : Int) x36_2 false a0_0 a0_1 a0_2 l0_3)) else (impl_ValidTariff.j2 k2 l0_3 (l0_3.length : Int) x36_2 true a0_0 a0_1 a0_2 l0_3)) else (if x36_2 > 0 then (if 0 ≤ (wrap64 (x36_2 - 1)) then (if (wrap64 (x36_2 - 1)) < (l0_3.length : Int) then (if 0 < ((rd_L3 l0_3 (wrap64 (x36_2 - 1))).length : Int) then (impl_ValidTariff.j2 k2 l0_3 (l0_3.length : Int) x36_2 (decide ((rd (rd_L3 l0_3 x36_2) 0) ≤ (rd (rd_L3 l0_3 (wrap64 (x36_2 - 1))) 0))) a0_0 a0_1 a0_2 l0_3) else (none)) else (none)) else (none)) else (impl_ValidTariff.j2 k2 l0_3 (l0_3.length : Int) x36_2 false a0_0 a0_1 a0_2 l0_3))) else (impl_ValidTariff.j2 k2 l0_3 (l0_3.length : Int) x36_2 true a0_0 a0_1 a0_2 l0_3)) = some r := H
              have A27 := Aside0.mk A270
              clear A270
              by_cases c28 : t167 = true
              ·subst c28
               have H1 : (if x36_2 = 0 then (if (rd (rd_L3 l0_3 x36_2) 0) = 0 then (if x36_2 > 0 then (if 0 ≤ (wrap64 (x36_2 - 1)) then (if (wrap64 (x36_2 - 1)) < (l0_3.length : Int) then (if 0 < ((rd_L3 l0_3 (wrap64 (x36_2 - 1))).length : Int) then (impl_ValidTariff.j2 k2 l0_3 (l0_3.length : Int) x36_2 (decide ((rd (rd_L3 l0_3 x36_2) 0) ≤ (rd (rd_L3 l0_3 (wrap64 (x36_2 - 1))) 0))) a0_0 a0_1 a0_2 l0_3) else (none)) else (none)) else (none)) else (impl_ValidTariff.j2 k2 l0_3 (l0_3.length : Int) x36_2 false a0_0 a0_1 a0_2 l0_3)) else (impl_ValidTariff.j2 k2 l0_3 (l0_3.length : Int) x36_2 true a0_0 a0_1 a0_2 l0_3)) else (if x36_2 > 0 then (if 0 ≤ (wrap64 (x36_2 - 1)) then (if (wrap64 (x36_2 - 1)) < (l0_3.length : Int) then (if 0 < ((rd_L3 l0_3 (wrap64 (x36_2 - 1))).length : Int) then (impl_ValidTariff.j2 k2 l0_3 (l0_3.length : Int) x36_2 (decide ((rd (rd_L3 l0_3 x36_2) 0) ≤ (rd (rd_L3 l0_3 (wrap64 (x36_2 - 1))) 0))) a0_0 a0_1 a0_2 l0_3) else (none)) else (none)) else (none)) else (impl_ValidTariff.j2 k2 l0_3 (l0_3.length : Int) x36_2 false a0_0 a0_1 a0_2 l0_3))) = some r := by rw [if_pos rfl] at H; exact H
               clear H
               have H := H1
               clear H1
               by_cases c29 : x36_2 = 0
               ·rw [if_pos c29] at H
                have c29b0 : (x36_2 == 0) = true := beq_iff_eq.mpr c29
                have c29b1 : (x36_2 != 0) = false := bne_eq_false_iff_eq.mpr c29
                clear c29
                by_cases c30 : (rd (rd_L3 l0_3 x36_2) 0) = 0
                ·rw [if_pos c30] at H
                 have c30b0 : ((rd (rd_L3 l0_3 x36_2) 0) == 0) = true := beq_iff_eq.mpr c30
                 have c30b1 : ((rd (rd_L3 l0_3 x36_2) 0) != 0) = false := bne_eq_false_iff_eq.mpr c30
                 clear c30
                 by_cases c31 : x36_2 > 0
                 ·rw [if_pos c31] at H
                  have c31b0 : decide (0 < x36_2) = true := decide_eq_true c31
                  clear c31
                  obtain ⟨ji32, hji32⟩ : ∃ j_ : Int, (wrap64 (x36_2 - 1)) = j_ := ⟨_, rfl⟩
                  replace H : (if 0 ≤ (ji32) then (if (ji32) < (l0_3.length : Int) then (if 0 < ((rd_L3 l0_3 (ji32)).length : Int) then (impl_ValidTariff.j2 k2 l0_3 (l0_3.length : Int) x36_2 (decide ((rd (rd_L3 l0_3 x36_2) 0) ≤ (rd (rd_L3 l0_3 (ji32)) 0))) a0_0 a0_1 a0_2 l0_3) else (none)) else (none)) else (none)) = some r := by first | (rw [hji32] at H; exact H) | (simp only [hji32] at H ⊢; exact H)
                  (try rw [hji32] at A24)
                  (try rw [hji32] at A27)
                  have hji32w : (IntKind.i64.wrap (x36_2 - 1)) = ji32 := (i64_w _).trans hji32
                  by_cases c33 : 0 ≤ (ji32)
                  ·rw [if_pos c33] at H
                   have c33b0 : decide (0 ≤ (ji32)) = true := decide_eq_true c33
                   clear c33
                   by_cases c34 : (ji32) < (l0_3.length : Int)
                   ·rw [if_pos c34] at H
                    have c34b0 : decide ((ji32) < (l0_3.length : Int)) = true := decide_eq_true c34
                    clear c34
                    by_cases c35 : 0 < ((rd_L3 l0_3 (ji32)).length : Int)
                    ·rw [if_pos c35] at H
                     have c35b0 : decide (0 < ((rd_L3 l0_3 (ji32)).length : Int)) = true := decide_eq_true c35
                     have c35b1 : decide (0 < (rd_L3 l0_3 (ji32)).length) = true := decide_eq_true (by omega)
                     clear c35
                     have H' := Aside0.mk H
                     clear H
                     try go_wp2
                     have n0_ := Aside0.mk (blk_drew BK159.out)
                     have n1_ := Aside0.mk (below_drew1 HB.out)
                     clear BK159
                     clear HB
                     have BK159 := n0_
                     have HB := n1_
                     clear n0_ n1_
                     have p164 : 0 ≤ (0 : Int) := (by omega)
                     have q164 : 0 < ((rd_L3 l0_3 x36_2).length : Int) := of_decide_eq_true (by first | (with_reducible assumption) | assumption)
                     obtain ⟨ad164, e164, hx164_0⟩ := Kd.at_int HR163_0.out 0 p164 q164
                     have hw164_0 := hx164_0
                     (try rw [show ((0 : Int)).toNat = 0 from rfl] at hw164_0)
                     (try rw [show 0 * 1 = 0 from rfl] at hw164_0)
                     (try rw [Addr.add_zero'] at hw164_0)
                     cases e164
                     have qi164 : (0 < (rd_L3 l0_3 x36_2).length) = True := eq_true (by omega)
                     (try rw [show ((0 : Int)).toNat = 0 from rfl] at hx164_0)
                     (try rw [Addr.add_zero'] at hx164_0)
                     replace hx164_0 := (HB.out.cell (World.block_lt_of_cell? w _ hx164_0)).trans hx164_0
                     replace p164 := eq_true p164
                     replace q164 := eq_true q164
                     have p166 : 0 ≤ (1 : Int) := (by omega)
                     have q166 : 1 < ((rd_L3 l0_3 x36_2).length : Int) := of_decide_eq_true (by first | (with_reducible assumption) | assumption)
                     obtain ⟨ad166, e166, hx166_0⟩ := Kd.at_int HR163_0.out 1 p166 q166
                     have hw166_0 := hx166_0
                     (try rw [show ((1 : Int)).toNat = 1 from rfl] at hw166_0)
                     (try rw [show 1 * 1 = 1 from rfl] at hw166_0)
                     (try simp only [Nat.reduceMul, Nat.reduceEqDiff, Go.Addr.add, ↓reduceIte] at hw166_0)
                     obtain rfl : ad164 = ad166 := (by injection e166)
                     (try simp only [show (1 : Int).toNat = 1 from rfl, Nat.reduceMul, Nat.reduceEqDiff, Go.Addr.add, ↓reduceIte] at hx166_0)
                     have qi166 : (1 < (rd_L3 l0_3 x36_2).length) = True := eq_true (by omega)
                     (try rw [show ((1 : Int)).toNat = 1 from rfl] at hx166_0)
                     replace hx166_0 := (HB.out.cell (World.block_lt_of_cell? w _ hx166_0)).trans hx166_0
                     replace p166 := eq_true p166
                     replace q166 := eq_true q166
                     have p168 : 0 ≤ (0 : Int) := (by omega)
                     have q168 : 0 < ((rd_L3 l0_3 x36_2).length : Int) := of_decide_eq_true (by first | (with_reducible assumption) | assumption)
                     obtain ⟨ad168, e168, hx168_0⟩ := Kd.at_int HR163_0.out 0 p168 q168
                     have hw168_0 := hx168_0
                     (try rw [show ((0 : Int)).toNat = 0 from rfl] at hw168_0)
                     (try rw [show 0 * 1 = 0 from rfl] at hw168_0)
                     (try rw [Addr.add_zero'] at hw168_0)
                     obtain rfl : ad164 = ad168 := (by injection e168)
                     have qi168 : (0 < (rd_L3 l0_3 x36_2).length) = True := eq_true (by omega)
                     (try rw [show ((0 : Int)).toNat = 0 from rfl] at hx168_0)
                     (try rw [Addr.add_zero'] at hx168_0)
                     replace hx168_0 := (HB.out.cell (World.block_lt_of_cell? w _ hx168_0)).trans hx168_0
                     replace p168 := eq_true p168
                     replace q168 := eq_true q168
                     have p169 : 0 ≤ (0 : Int) := (by omega)
                     have q169 : 0 < ((rd_L3 l0_3 x36_2).length : Int) := of_decide_eq_true (by first | (with_reducible assumption) | assumption)
                     obtain ⟨ad169, e169, hx169_0⟩ := Kd.at_int HR163_0.out 0 p169 q169
                     have hw169_0 := hx169_0
                     (try rw [show ((0 : Int)).toNat = 0 from rfl] at hw169_0)
                     (try rw [show 0 * 1 = 0 from rfl] at hw169_0)
                     (try rw [Addr.add_zero'] at hw169_0)
                     obtain rfl : ad164 = ad169 := (by injection e169)
                     have qi169 : (0 < (rd_L3 l0_3 x36_2).length) = True := eq_true (by omega)
                     (try rw [show ((0 : Int)).toNat = 0 from rfl] at hx169_0)
                     (try rw [Addr.add_zero'] at hx169_0)
                     replace hx169_0 := (HB.out.cell (World.block_lt_of_cell? w _ hx169_0)).trans hx169_0
                     replace p169 := eq_true p169
                     replace q169 := eq_true q169
                     have p170 : 0 ≤ ((ji32) : Int) := of_decide_eq_true (by first | (with_reducible assumption) | assumption)
                     have q170 : (ji32) < (l0_3.length : Int) := of_decide_eq_true (by first | (with_reducible assumption) | assumption)
                     obtain ⟨ad170, A170_0, c170_0, e170, hx170_0, hl170_0, hi170_0⟩ := at_L3 HR0_3.out (ji32) p170 q170
                     have hw170_0 := hx170_0
                     obtain rfl : ad163 = ad170 := (by injection e170)
                     replace hx170_0 := (HB.out.cell (World.block_lt_of_cell? w _ hx170_0)).trans hx170_0
                     have HR170_0 := Aside0.mk hi170_0
                     have HC170_0 := Aside0.mk hl170_0
                     clear hi170_0 hl170_0
                     replace p170 := eq_true p170
                     replace q170 := eq_true q170
                     have p171 : 0 ≤ (0 : Int) := (by omega)
                     have q171 : 0 < ((rd_L3 l0_3 (ji32)).length : Int) := of_decide_eq_true (by first | (with_reducible assumption) | assumption)
                     obtain ⟨ad171, e171, hx171_0⟩ := Kd.at_int HR170_0.out 0 p171 q171
                     have hw171_0 := hx171_0
                     (try rw [show ((0 : Int)).toNat = 0 from rfl] at hw171_0)
                     (try rw [show 0 * 1 = 0 from rfl] at hw171_0)
                     (try rw [Addr.add_zero'] at hw171_0)
                     cases e171
                     have qi171 : (0 < (rd_L3 l0_3 (ji32)).length) = True := eq_true (by omega)
                     (try rw [show ((0 : Int)).toNat = 0 from rfl] at hx171_0)
                     (try rw [Addr.add_zero'] at hx171_0)
                     replace hx171_0 := (HB.out.cell (World.block_lt_of_cell? w _ hx171_0)).trans hx171_0
                     replace p171 := eq_true p171
                     replace q171 := eq_true q171
                     refine start_ (n := 45) (S := fun w' => w'.cell? ⟨gb159, 0, none⟩ = some (.string a0_0) ∧ w'.cell? ⟨gb159, 1, none⟩ = some (.int .i64 a0_1) ∧ w'.cell? ⟨gb159, 2, none⟩ = some (.int .i64 a0_2) ∧ w'.cell? ⟨gb159, 3, none⟩ = some (.slice (some ad163) l0_3.length c0_3) ∧ w'.cell? ad164 = some (.int .i64 (rd (rd_L3 l0_3 x36_2) 0)) ∧ w'.cell? ⟨ad164.block, ad164.off + 1, none⟩ = some (.int .i64 (rd (rd_L3 l0_3 x36_2) 1)) ∧ w'.cell? ad164 = some (.int .i64 (rd (rd_L3 l0_3 x36_2) 0)) ∧ w'.cell? ad164 = some (.int .i64 (rd (rd_L3 l0_3 x36_2) 0)) ∧ w'.cell? (ad163.add ((ji32)).toNat) = some (.slice (some ad171) (rd_L3 l0_3 (ji32)).length c170_0) ∧ w'.cell? ad171 = some (.int .i64 (rd (rd_L3 l0_3 (ji32)) 0))) (ds := []) (tf 0 45) (by kernel_rfl) rfl rfl ⟨(blk_cell BK159.out 0).trans rfl, (blk_cell BK159.out 1).trans rfl, (blk_cell BK159.out 2).trans rfl, (blk_cell BK159.out 3).trans rfl, ((HB.out.cell (World.block_lt_of_cell? w _ hw164_0)).trans hw164_0), ((HB.out.cell (World.block_lt_of_cell? w _ hw166_0)).trans hw166_0), ((HB.out.cell (World.block_lt_of_cell? w _ hw168_0)).trans hw168_0), ((HB.out.cell (World.block_lt_of_cell? w _ hw169_0)).trans hw169_0), ((HB.out.cell (World.block_lt_of_cell? w _ hw170_0)).trans hw170_0), ((HB.out.cell (World.block_lt_of_cell? w _ hw171_0)).trans hw171_0)⟩ (fun hHeld => ?_); refine with_tabW impl_ValidTariff.tab6 impl_ValidTariff.bits6 (fun HT_ HW_ => ?_)
                     generalize wr.drew = w36 at BK159 HB HR170_0 hx164_0 hx166_0 hx168_0 hx169_0 hx170_0 hx171_0 hHeld ⊢
                     refine px 0 (some 41) (tf 1 45) HT_ ?_
                     refine px 1 (some 42) (tf 2 45) HT_ ?_
                     refine px 2 (some 43) (tf 3 45) HT_ ?_
                     refine px 3 (some 44) (tf 4 45) HT_ ?_
                     refine px 4 (some 45) (tf 5 45) HT_ ?_
                     refine px 5 (some 46) (tf 6 45) HT_ ?_
                     refine tx (v := ?_) 6 (some 47) (tf 7 45) HT_ HW_ hHeld ?_ ?_
                     rotate_left; (· rintro w' ⟨s0, s1, s2, s3, s4, s5, s6, s7, s8, s9⟩; go_simp; with_reducible rfl)
                     refine one_ (i := 7) (N := some 48) (tf 8 45) rfl rfl (one_of HT_.out (by kernel_rfl)) (by decide) (fun K hK => ?_)
                     refine goes_ Tryd.func28 (by kernel_rfl) rfl #[.int .i64 (rd (rd_L3 l0_3 x36_2) 0), .int .i64 0, .int .i64 1000000] (by rfl) rfl rfl (by (try simp only [List.map_toArray, List.map_cons, List.map_nil]); first | done | rfl | (simp only [List.length_drop, List.length_take]; rfl)) ?_
                     with_reducible refine (impl_within.calls (rd (rd_L3 l0_3 x36_2) 0) 0 1000000 true _ A24.out).mono ?_
                     rintro e w' ⟨rfl, ⟨nd, rfl⟩⟩
                     refine ⟨_, rfl, ?_⟩
                     refine hK.out _ _ ⟨(blk_cell BK159.out 0).trans rfl, (blk_cell BK159.out 1).trans rfl, (blk_cell BK159.out 2).trans rfl, (blk_cell BK159.out 3).trans rfl, ((HB.out.cell (World.block_lt_of_cell? w _ hw164_0)).trans hw164_0), ((HB.out.cell (World.block_lt_of_cell? w _ hw166_0)).trans hw166_0), ((HB.out.cell (World.block_lt_of_cell? w _ hw168_0)).trans hw168_0), ((HB.out.cell (World.block_lt_of_cell? w _ hw169_0)).trans hw169_0), ((HB.out.cell (World.block_lt_of_cell? w _ hw170_0)).trans hw170_0), ((HB.out.cell (World.block_lt_of_cell? w _ hw171_0)).trans hw171_0)⟩ (fun hHeld => ?_)
                     clear hK K
                     refine norm_ (a' := ?_) ?_ ?_
                     rotate_left
                     ·show Act.put _ (some 48) _ = _
                      simp only [Act.put, List.setIfInBounds_toArray, List.set_cons_zero, List.set_cons_succ, i64_w, i32_w]
                      rfl
                     refine px 8 (some 49) (tf 9 45) HT_ ?_
                     refine px 9 (some 50) (tf 10 45) HT_ ?_
                     refine px 10 (some 51) (tf 11 45) HT_ ?_
                     refine px 11 (some 52) (tf 12 45) HT_ ?_
                     refine px 12 (some 53) (tf 13 45) HT_ ?_
                     refine tx (v := ?_) 13 (some 54) (tf 14 45) HT_ HW_ hHeld ?_ ?_
                     rotate_left; (· rintro w' ⟨s0, s1, s2, s3, s4, s5, s6, s7, s8, s9⟩; go_simp; with_reducible rfl)
                     refine one_ (i := 14) (N := some 55) (tf 15 45) rfl rfl (one_of HT_.out (by kernel_rfl)) (by decide) (fun K hK => ?_)
                     refine goes_ Tryd.func28 (by kernel_rfl) rfl #[.int .i64 (rd (rd_L3 l0_3 x36_2) 1), .int .i64 0, .int .i64 10000] (by rfl) rfl rfl (by (try simp only [List.map_toArray, List.map_cons, List.map_nil]); first | done | rfl | (simp only [List.length_drop, List.length_take]; rfl)) ?_
                     with_reducible refine (impl_within.calls (rd (rd_L3 l0_3 x36_2) 1) 0 10000 true _ A27.out).mono ?_
                     rintro e w' ⟨rfl, ⟨nd, rfl⟩⟩
                     refine ⟨_, rfl, ?_⟩
                     refine hK.out _ _ ⟨(blk_cell BK159.out 0).trans rfl, (blk_cell BK159.out 1).trans rfl, (blk_cell BK159.out 2).trans rfl, (blk_cell BK159.out 3).trans rfl, ((HB.out.cell (World.block_lt_of_cell? w _ hw164_0)).trans hw164_0), ((HB.out.cell (World.block_lt_of_cell? w _ hw166_0)).trans hw166_0), ((HB.out.cell (World.block_lt_of_cell? w _ hw168_0)).trans hw168_0), ((HB.out.cell (World.block_lt_of_cell? w _ hw169_0)).trans hw169_0), ((HB.out.cell (World.block_lt_of_cell? w _ hw170_0)).trans hw170_0), ((HB.out.cell (World.block_lt_of_cell? w _ hw171_0)).trans hw171_0)⟩ (fun hHeld => ?_)
                     clear hK K
                     refine norm_ (a' := ?_) ?_ ?_
                     rotate_left
                     ·show Act.put _ (some 55) _ = _
                      simp only [Act.put, List.setIfInBounds_toArray, List.set_cons_zero, List.set_cons_succ, i64_w, i32_w]
                      rfl
                     refine px 15 (some 56) (tf 16 45) HT_ ?_
                     refine px 16 (some 57) (tf 17 45) HT_ ?_
                     refine px 17 (some 58) (tf 18 45) HT_ ?_
                     refine px 18 (some 59) (tf 19 45) HT_ ?_
                     refine px 19 (some 60) (tf 20 45) HT_ ?_
                     refine px 20 (some 61) (tf 21 45) HT_ ?_
                     refine px 21 (some 62) (tf 22 45) HT_ ?_
                     refine px 22 (some 63) (tf 23 45) HT_ ?_
                     refine tx (v := ?_) 23 (some 64) (tf 24 45) HT_ HW_ hHeld ?_ ?_
                     rotate_left; (· rintro w' ⟨s0, s1, s2, s3, s4, s5, s6, s7, s8, s9⟩; go_simp; with_reducible rfl)
                     refine px 24 (some 65) (tf 25 45) HT_ ?_
                     refine px 25 (some 66) (tf 26 45) HT_ ?_
                     refine px 26 (some 67) (tf 27 45) HT_ ?_
                     refine px 27 (some 68) (tf 28 45) HT_ ?_
                     refine px 28 (some 69) (tf 29 45) HT_ ?_
                     refine px 29 (some 70) (tf 30 45) HT_ ?_
                     refine px 30 (some 71) (tf 31 45) HT_ ?_
                     refine px 31 (some 72) (tf 32 45) HT_ ?_
                     refine px 32 (some 73) (tf 33 45) HT_ ?_
                     refine px 34 (some 75) (tb 45 25769803775) HT_ ?_
                     refine px 36 (some 77) (tb 45 94489280511) HT_ ?_
                     refine px 37 (some 78) (tb 45 231928233983) HT_ ?_
                     refine tx (v := ?_) 33 (some 74) (tb 45 240518168575) HT_ HW_ hHeld ?_ ?_
                     rotate_left; (· rintro w' ⟨s0, s1, s2, s3, s4, s5, s6, s7, s8, s9⟩; go_simp; with_reducible rfl)
                     refine tx (v := ?_) 35 (some 76) (tf 38 45) HT_ HW_ hHeld ?_ ?_
                     rotate_left; (· rintro w' ⟨s0, s1, s2, s3, s4, s5, s6, s7, s8, s9⟩; go_simp; with_reducible rfl)
                     refine px 38 (some 79) (tf 39 45) HT_ ?_
                     refine tx (v := ?_) 39 (some 80) (tf 40 45) HT_ HW_ hHeld ?_ ?_
                     rotate_left; (· rintro w' ⟨s0, s1, s2, s3, s4, s5, s6, s7, s8, s9⟩; go_simp; with_reducible rfl)
                     refine px 40 (some 81) (tf 41 45) HT_ ?_
                     refine tx (v := ?_) 41 (some 82) (tf 42 45) HT_ HW_ hHeld ?_ ?_
                     rotate_left; (· rintro w' ⟨s0, s1, s2, s3, s4, s5, s6, s7, s8, s9⟩; go_simp; with_reducible rfl)
                     refine px 42 (some 83) (tf 43 45) HT_ ?_
                     refine px 43 (some 84) (tf 44 45) HT_ ?_
                     refine px 44 (some 85) (tf 45 45) HT_ ?_
                     refine done_ (done_of HT_.out (by kernel_rfl)) ?_
                     try go_wp2
                     go_meet
                     case rel => exact ⟨_, (decide ((rd (rd_L3 l0_3 x36_2) 0) ≤ (rd (rd_L3 l0_3 (ji32)) 0))), (by first | rfl | (simp; done) | (simp only [← hji32] <;> (first | rfl | simp)) | (simp [*]; done)), H', ⟨by have := HJ1.out; have := HK2.out; first | omega | exact Nat.le_refl _⟩, ⟨by (with_reducible repeat (first | refine blk_drewN ?_ _ | refine blk_drew ?_ | refine blk_alloc ?_ _)); exact BK159.out⟩, ⟨by repeat (first | (with_reducible first | exact HB.out | apply below_alloc | apply pw_below_drewN | apply below_drew1 | refine below_set ?_ GE159.out) | exact HB.out)⟩⟩
                    ·rw [if_neg c35] at H
                     exact absurd H (by simp)
                   ·rw [if_neg c34] at H
                    exact absurd H (by simp)
                  ·rw [if_neg c33] at H
                   exact absurd H (by simp)
                 ·rw [if_neg c31] at H
                  have c31b0 : decide (0 < x36_2) = false := decide_eq_false c31
                  clear c31
                  have H' := Aside0.mk H
                  clear H
                  try go_wp2
                  have n0_ := Aside0.mk (blk_drew BK159.out)
                  have n1_ := Aside0.mk (below_drew1 HB.out)
                  clear BK159
                  clear HB
                  have BK159 := n0_
                  have HB := n1_
                  clear n0_ n1_
                  have p164 : 0 ≤ (0 : Int) := (by omega)
                  have q164 : 0 < ((rd_L3 l0_3 x36_2).length : Int) := of_decide_eq_true (by first | (with_reducible assumption) | assumption)
                  obtain ⟨ad164, e164, hx164_0⟩ := Kd.at_int HR163_0.out 0 p164 q164
                  have hw164_0 := hx164_0
                  (try rw [show ((0 : Int)).toNat = 0 from rfl] at hw164_0)
                  (try rw [show 0 * 1 = 0 from rfl] at hw164_0)
                  (try rw [Addr.add_zero'] at hw164_0)
                  cases e164
                  have qi164 : (0 < (rd_L3 l0_3 x36_2).length) = True := eq_true (by omega)
                  (try rw [show ((0 : Int)).toNat = 0 from rfl] at hx164_0)
                  (try rw [Addr.add_zero'] at hx164_0)
                  replace hx164_0 := (HB.out.cell (World.block_lt_of_cell? w _ hx164_0)).trans hx164_0
                  replace p164 := eq_true p164
                  replace q164 := eq_true q164
                  have p166 : 0 ≤ (1 : Int) := (by omega)
                  have q166 : 1 < ((rd_L3 l0_3 x36_2).length : Int) := of_decide_eq_true (by first | (with_reducible assumption) | assumption)
                  obtain ⟨ad166, e166, hx166_0⟩ := Kd.at_int HR163_0.out 1 p166 q166
                  have hw166_0 := hx166_0
                  (try rw [show ((1 : Int)).toNat = 1 from rfl] at hw166_0)
                  (try rw [show 1 * 1 = 1 from rfl] at hw166_0)
                  (try simp only [Nat.reduceMul, Nat.reduceEqDiff, Go.Addr.add, ↓reduceIte] at hw166_0)
                  obtain rfl : ad164 = ad166 := (by injection e166)
                  (try simp only [show (1 : Int).toNat = 1 from rfl, Nat.reduceMul, Nat.reduceEqDiff, Go.Addr.add, ↓reduceIte] at hx166_0)
                  have qi166 : (1 < (rd_L3 l0_3 x36_2).length) = True := eq_true (by omega)
                  (try rw [show ((1 : Int)).toNat = 1 from rfl] at hx166_0)
                  replace hx166_0 := (HB.out.cell (World.block_lt_of_cell? w _ hx166_0)).trans hx166_0
                  replace p166 := eq_true p166
                  replace q166 := eq_true q166
                  have p168 : 0 ≤ (0 : Int) := (by omega)
                  have q168 : 0 < ((rd_L3 l0_3 x36_2).length : Int) := of_decide_eq_true (by first | (with_reducible assumption) | assumption)
                  obtain ⟨ad168, e168, hx168_0⟩ := Kd.at_int HR163_0.out 0 p168 q168
                  have hw168_0 := hx168_0
                  (try rw [show ((0 : Int)).toNat = 0 from rfl] at hw168_0)
                  (try rw [show 0 * 1 = 0 from rfl] at hw168_0)
                  (try rw [Addr.add_zero'] at hw168_0)
                  obtain rfl : ad164 = ad168 := (by injection e168)
                  have qi168 : (0 < (rd_L3 l0_3 x36_2).length) = True := eq_true (by omega)
                  (try rw [show ((0 : Int)).toNat = 0 from rfl] at hx168_0)
                  (try rw [Addr.add_zero'] at hx168_0)
                  replace hx168_0 := (HB.out.cell (World.block_lt_of_cell? w _ hx168_0)).trans hx168_0
                  replace p168 := eq_true p168
                  replace q168 := eq_true q168
                  refine start_ (n := 45) (S := fun w' => w'.cell? ad164 = some (.int .i64 (rd (rd_L3 l0_3 x36_2) 0)) ∧ w'.cell? ⟨ad164.block, ad164.off + 1, none⟩ = some (.int .i64 (rd (rd_L3 l0_3 x36_2) 1)) ∧ w'.cell? ad164 = some (.int .i64 (rd (rd_L3 l0_3 x36_2) 0))) (ds := []) (tf 0 45) (by kernel_rfl) rfl rfl ⟨((HB.out.cell (World.block_lt_of_cell? w _ hw164_0)).trans hw164_0), ((HB.out.cell (World.block_lt_of_cell? w _ hw166_0)).trans hw166_0), ((HB.out.cell (World.block_lt_of_cell? w _ hw168_0)).trans hw168_0)⟩ (fun hHeld => ?_); refine with_tabW impl_ValidTariff.tab6 impl_ValidTariff.bits6 (fun HT_ HW_ => ?_)
                  generalize wr.drew = w37 at BK159 HB hx164_0 hx166_0 hx168_0 hHeld ⊢
                  refine px 0 (some 41) (tf 1 45) HT_ ?_
                  refine px 1 (some 42) (tf 2 45) HT_ ?_
                  refine px 2 (some 43) (tf 3 45) HT_ ?_
                  refine px 3 (some 44) (tf 4 45) HT_ ?_
                  refine px 4 (some 45) (tf 5 45) HT_ ?_
                  refine px 5 (some 46) (tf 6 45) HT_ ?_
                  refine tx (v := ?_) 6 (some 47) (tf 7 45) HT_ HW_ hHeld ?_ ?_
                  rotate_left; (· rintro w' ⟨s0, s1, s2⟩; go_simp; with_reducible rfl)
                  refine one_ (i := 7) (N := some 48) (tf 8 45) rfl rfl (one_of HT_.out (by kernel_rfl)) (by decide) (fun K hK => ?_)
                  refine goes_ Tryd.func28 (by kernel_rfl) rfl #[.int .i64 (rd (rd_L3 l0_3 x36_2) 0), .int .i64 0, .int .i64 1000000] (by rfl) rfl rfl (by (try simp only [List.map_toArray, List.map_cons, List.map_nil]); first | done | rfl | (simp only [List.length_drop, List.length_take]; rfl)) ?_
                  with_reducible refine (impl_within.calls (rd (rd_L3 l0_3 x36_2) 0) 0 1000000 true _ A24.out).mono ?_
                  rintro e w' ⟨rfl, ⟨nd, rfl⟩⟩
                  refine ⟨_, rfl, ?_⟩
                  refine hK.out _ _ ⟨((HB.out.cell (World.block_lt_of_cell? w _ hw164_0)).trans hw164_0), ((HB.out.cell (World.block_lt_of_cell? w _ hw166_0)).trans hw166_0), ((HB.out.cell (World.block_lt_of_cell? w _ hw168_0)).trans hw168_0)⟩ (fun hHeld => ?_)
                  clear hK K
                  refine norm_ (a' := ?_) ?_ ?_
                  rotate_left
                  ·show Act.put _ (some 48) _ = _
                   simp only [Act.put, List.setIfInBounds_toArray, List.set_cons_zero, List.set_cons_succ, i64_w, i32_w]
                   rfl
                  refine px 8 (some 49) (tf 9 45) HT_ ?_
                  refine px 9 (some 50) (tf 10 45) HT_ ?_
                  refine px 10 (some 51) (tf 11 45) HT_ ?_
                  refine px 11 (some 52) (tf 12 45) HT_ ?_
                  refine px 12 (some 53) (tf 13 45) HT_ ?_
                  refine tx (v := ?_) 13 (some 54) (tf 14 45) HT_ HW_ hHeld ?_ ?_
                  rotate_left; (· rintro w' ⟨s0, s1, s2⟩; go_simp; with_reducible rfl)
                  refine one_ (i := 14) (N := some 55) (tf 15 45) rfl rfl (one_of HT_.out (by kernel_rfl)) (by decide) (fun K hK => ?_)
                  refine goes_ Tryd.func28 (by kernel_rfl) rfl #[.int .i64 (rd (rd_L3 l0_3 x36_2) 1), .int .i64 0, .int .i64 10000] (by rfl) rfl rfl (by (try simp only [List.map_toArray, List.map_cons, List.map_nil]); first | done | rfl | (simp only [List.length_drop, List.length_take]; rfl)) ?_
                  with_reducible refine (impl_within.calls (rd (rd_L3 l0_3 x36_2) 1) 0 10000 true _ A27.out).mono ?_
                  rintro e w' ⟨rfl, ⟨nd, rfl⟩⟩
                  refine ⟨_, rfl, ?_⟩
                  refine hK.out _ _ ⟨((HB.out.cell (World.block_lt_of_cell? w _ hw164_0)).trans hw164_0), ((HB.out.cell (World.block_lt_of_cell? w _ hw166_0)).trans hw166_0), ((HB.out.cell (World.block_lt_of_cell? w _ hw168_0)).trans hw168_0)⟩ (fun hHeld => ?_)
                  clear hK K
                  refine norm_ (a' := ?_) ?_ ?_
                  rotate_left
                  ·show Act.put _ (some 55) _ = _
                   simp only [Act.put, List.setIfInBounds_toArray, List.set_cons_zero, List.set_cons_succ, i64_w, i32_w]
                   rfl
                  refine px 15 (some 56) (tf 16 45) HT_ ?_
                  refine px 16 (some 57) (tf 17 45) HT_ ?_
                  refine px 17 (some 58) (tf 18 45) HT_ ?_
                  refine px 18 (some 59) (tf 19 45) HT_ ?_
                  refine px 19 (some 60) (tf 20 45) HT_ ?_
                  refine px 20 (some 61) (tf 21 45) HT_ ?_
                  refine px 21 (some 62) (tf 22 45) HT_ ?_
                  refine px 22 (some 63) (tf 23 45) HT_ ?_
                  refine tx (v := ?_) 23 (some 64) (tf 24 45) HT_ HW_ hHeld ?_ ?_
                  rotate_left; (· rintro w' ⟨s0, s1, s2⟩; go_simp; with_reducible rfl)
                  refine px 24 (some 65) (tf 25 45) HT_ ?_
                  refine px 25 (some 66) (tf 26 45) HT_ ?_
                  refine px 26 (some 67) (tf 27 45) HT_ ?_
                  refine px 27 (some 68) (tf 28 45) HT_ ?_
                  refine px 28 (some 69) (tf 29 45) HT_ ?_
                  refine px 29 (some 70) (tf 30 45) HT_ ?_
                  refine px 30 (some 71) (tf 31 45) HT_ ?_
                  refine sx 31 (some 72) (tf 32 45) HT_ ?_
                  refine sx 32 (some 73) (tf 33 45) HT_ ?_
                  refine sx 33 (some 74) (tf 34 45) HT_ ?_
                  refine sx 34 (some 75) (tf 35 45) HT_ ?_
                  refine sx 35 (some 76) (tf 36 45) HT_ ?_
                  refine sx 36 (some 77) (tf 37 45) HT_ ?_
                  refine sx 37 (some 78) (tf 38 45) HT_ ?_
                  refine sx 38 (some 79) (tf 39 45) HT_ ?_
                  refine sx 39 (some 80) (tf 40 45) HT_ ?_
                  refine sx 40 (some 81) (tf 41 45) HT_ ?_
                  refine sx 41 (some 82) (tf 42 45) HT_ ?_
                  refine sx 42 (some 83) (tf 43 45) HT_ ?_
                  refine px 43 (some 84) (tf 44 45) HT_ ?_
                  refine px 44 (some 85) (tf 45 45) HT_ ?_
                  refine done_ (done_of HT_.out (by kernel_rfl)) ?_
                  try go_wp2
                  go_meet
                  case rel => exact ⟨_, (false), (by first | rfl | (simp; done) | (simp [*]; done)), H', ⟨by have := HJ1.out; have := HK2.out; first | omega | exact Nat.le_refl _⟩, ⟨by (with_reducible repeat (first | refine blk_drewN ?_ _ | refine blk_drew ?_ | refine blk_alloc ?_ _)); exact BK159.out⟩, ⟨by repeat (first | (with_reducible first | exact HB.out | apply below_alloc | apply pw_below_drewN | apply below_drew1 | refine below_set ?_ GE159.out) | exact HB.out)⟩⟩
                ·rw [if_neg c30] at H
                 have c30b0 : ((rd (rd_L3 l0_3 x36_2) 0) == 0) = false := beq_eq_false_iff_ne.mpr c30
                 have c30b1 : ((rd (rd_L3 l0_3 x36_2) 0) != 0) = true := bne_iff_ne.mpr c30
                 have H' := Aside0.mk H
                 clear H
                 try go_wp2
                 have n0_ := Aside0.mk (blk_drew BK159.out)
                 have n1_ := Aside0.mk (below_drew1 HB.out)
                 clear BK159
                 clear HB
                 have BK159 := n0_
                 have HB := n1_
                 clear n0_ n1_
                 have p164 : 0 ≤ (0 : Int) := (by omega)
                 have q164 : 0 < ((rd_L3 l0_3 x36_2).length : Int) := of_decide_eq_true (by first | (with_reducible assumption) | assumption)
                 obtain ⟨ad164, e164, hx164_0⟩ := Kd.at_int HR163_0.out 0 p164 q164
                 have hw164_0 := hx164_0
                 (try rw [show ((0 : Int)).toNat = 0 from rfl] at hw164_0)
                 (try rw [show 0 * 1 = 0 from rfl] at hw164_0)
                 (try rw [Addr.add_zero'] at hw164_0)
                 cases e164
                 have qi164 : (0 < (rd_L3 l0_3 x36_2).length) = True := eq_true (by omega)
                 (try rw [show ((0 : Int)).toNat = 0 from rfl] at hx164_0)
                 (try rw [Addr.add_zero'] at hx164_0)
                 replace hx164_0 := (HB.out.cell (World.block_lt_of_cell? w _ hx164_0)).trans hx164_0
                 replace p164 := eq_true p164
                 replace q164 := eq_true q164
                 have p166 : 0 ≤ (1 : Int) := (by omega)
                 have q166 : 1 < ((rd_L3 l0_3 x36_2).length : Int) := of_decide_eq_true (by first | (with_reducible assumption) | assumption)
                 obtain ⟨ad166, e166, hx166_0⟩ := Kd.at_int HR163_0.out 1 p166 q166
                 have hw166_0 := hx166_0
                 (try rw [show ((1 : Int)).toNat = 1 from rfl] at hw166_0)
                 (try rw [show 1 * 1 = 1 from rfl] at hw166_0)
                 (try simp only [Nat.reduceMul, Nat.reduceEqDiff, Go.Addr.add, ↓reduceIte] at hw166_0)
                 obtain rfl : ad164 = ad166 := (by injection e166)
                 (try simp only [show (1 : Int).toNat = 1 from rfl, Nat.reduceMul, Nat.reduceEqDiff, Go.Addr.add, ↓reduceIte] at hx166_0)
                 have qi166 : (1 < (rd_L3 l0_3 x36_2).length) = True := eq_true (by omega)
                 (try rw [show ((1 : Int)).toNat = 1 from rfl] at hx166_0)
                 replace hx166_0 := (HB.out.cell (World.block_lt_of_cell? w _ hx166_0)).trans hx166_0
                 replace p166 := eq_true p166
                 replace q166 := eq_true q166
                 have p168 : 0 ≤ (0 : Int) := (by omega)
                 have q168 : 0 < ((rd_L3 l0_3 x36_2).length : Int) := of_decide_eq_true (by first | (with_reducible assumption) | assumption)
                 obtain ⟨ad168, e168, hx168_0⟩ := Kd.at_int HR163_0.out 0 p168 q168
                 have hw168_0 := hx168_0
                 (try rw [show ((0 : Int)).toNat = 0 from rfl] at hw168_0)
                 (try rw [show 0 * 1 = 0 from rfl] at hw168_0)
                 (try rw [Addr.add_zero'] at hw168_0)
                 obtain rfl : ad164 = ad168 := (by injection e168)
                 have qi168 : (0 < (rd_L3 l0_3 x36_2).length) = True := eq_true (by omega)
                 (try rw [show ((0 : Int)).toNat = 0 from rfl] at hx168_0)
                 (try rw [Addr.add_zero'] at hx168_0)
                 replace hx168_0 := (HB.out.cell (World.block_lt_of_cell? w _ hx168_0)).trans hx168_0
                 replace p168 := eq_true p168
                 replace q168 := eq_true q168
                 refine start_ (n := 45) (S := fun w' => w'.cell? ad164 = some (.int .i64 (rd (rd_L3 l0_3 x36_2) 0)) ∧ w'.cell? ⟨ad164.block, ad164.off + 1, none⟩ = some (.int .i64 (rd (rd_L3 l0_3 x36_2) 1)) ∧ w'.cell? ad164 = some (.int .i64 (rd (rd_L3 l0_3 x36_2) 0))) (ds := []) (tf 0 45) (by kernel_rfl) rfl rfl ⟨((HB.out.cell (World.block_lt_of_cell? w _ hw164_0)).trans hw164_0), ((HB.out.cell (World.block_lt_of_cell? w _ hw166_0)).trans hw166_0), ((HB.out.cell (World.block_lt_of_cell? w _ hw168_0)).trans hw168_0)⟩ (fun hHeld => ?_); refine with_tabW impl_ValidTariff.tab6 impl_ValidTariff.bits6 (fun HT_ HW_ => ?_)
                 generalize wr.drew = w38 at BK159 HB hx164_0 hx166_0 hx168_0 hHeld ⊢
                 refine px 0 (some 41) (tf 1 45) HT_ ?_
                 refine px 1 (some 42) (tf 2 45) HT_ ?_
                 refine px 2 (some 43) (tf 3 45) HT_ ?_
                 refine px 3 (some 44) (tf 4 45) HT_ ?_
                 refine px 4 (some 45) (tf 5 45) HT_ ?_
                 refine px 5 (some 46) (tf 6 45) HT_ ?_
                 refine tx (v := ?_) 6 (some 47) (tf 7 45) HT_ HW_ hHeld ?_ ?_
                 rotate_left; (· rintro w' ⟨s0, s1, s2⟩; go_simp; with_reducible rfl)
                 refine one_ (i := 7) (N := some 48) (tf 8 45) rfl rfl (one_of HT_.out (by kernel_rfl)) (by decide) (fun K hK => ?_)
                 refine goes_ Tryd.func28 (by kernel_rfl) rfl #[.int .i64 (rd (rd_L3 l0_3 x36_2) 0), .int .i64 0, .int .i64 1000000] (by rfl) rfl rfl (by (try simp only [List.map_toArray, List.map_cons, List.map_nil]); first | done | rfl | (simp only [List.length_drop, List.length_take]; rfl)) ?_
                 with_reducible refine (impl_within.calls (rd (rd_L3 l0_3 x36_2) 0) 0 1000000 true _ A24.out).mono ?_
                 rintro e w' ⟨rfl, ⟨nd, rfl⟩⟩
                 refine ⟨_, rfl, ?_⟩
                 refine hK.out _ _ ⟨((HB.out.cell (World.block_lt_of_cell? w _ hw164_0)).trans hw164_0), ((HB.out.cell (World.block_lt_of_cell? w _ hw166_0)).trans hw166_0), ((HB.out.cell (World.block_lt_of_cell? w _ hw168_0)).trans hw168_0)⟩ (fun hHeld => ?_)
                 clear hK K
                 refine norm_ (a' := ?_) ?_ ?_
                 rotate_left
                 ·show Act.put _ (some 48) _ = _
                  simp only [Act.put, List.setIfInBounds_toArray, List.set_cons_zero, List.set_cons_succ, i64_w, i32_w]
                  rfl
                 refine px 8 (some 49) (tf 9 45) HT_ ?_
                 refine px 9 (some 50) (tf 10 45) HT_ ?_
                 refine px 10 (some 51) (tf 11 45) HT_ ?_
                 refine px 11 (some 52) (tf 12 45) HT_ ?_
                 refine px 12 (some 53) (tf 13 45) HT_ ?_
                 refine tx (v := ?_) 13 (some 54) (tf 14 45) HT_ HW_ hHeld ?_ ?_
                 rotate_left; (· rintro w' ⟨s0, s1, s2⟩; go_simp; with_reducible rfl)
                 refine one_ (i := 14) (N := some 55) (tf 15 45) rfl rfl (one_of HT_.out (by kernel_rfl)) (by decide) (fun K hK => ?_)
                 refine goes_ Tryd.func28 (by kernel_rfl) rfl #[.int .i64 (rd (rd_L3 l0_3 x36_2) 1), .int .i64 0, .int .i64 10000] (by rfl) rfl rfl (by (try simp only [List.map_toArray, List.map_cons, List.map_nil]); first | done | rfl | (simp only [List.length_drop, List.length_take]; rfl)) ?_
                 with_reducible refine (impl_within.calls (rd (rd_L3 l0_3 x36_2) 1) 0 10000 true _ A27.out).mono ?_
                 rintro e w' ⟨rfl, ⟨nd, rfl⟩⟩
                 refine ⟨_, rfl, ?_⟩
                 refine hK.out _ _ ⟨((HB.out.cell (World.block_lt_of_cell? w _ hw164_0)).trans hw164_0), ((HB.out.cell (World.block_lt_of_cell? w _ hw166_0)).trans hw166_0), ((HB.out.cell (World.block_lt_of_cell? w _ hw168_0)).trans hw168_0)⟩ (fun hHeld => ?_)
                 clear hK K
                 refine norm_ (a' := ?_) ?_ ?_
                 rotate_left
                 ·show Act.put _ (some 55) _ = _
                  simp only [Act.put, List.setIfInBounds_toArray, List.set_cons_zero, List.set_cons_succ, i64_w, i32_w]
                  rfl
                 refine px 15 (some 56) (tf 16 45) HT_ ?_
                 refine px 16 (some 57) (tf 17 45) HT_ ?_
                 refine px 17 (some 58) (tf 18 45) HT_ ?_
                 refine px 18 (some 59) (tf 19 45) HT_ ?_
                 refine px 19 (some 60) (tf 20 45) HT_ ?_
                 refine px 20 (some 61) (tf 21 45) HT_ ?_
                 refine px 21 (some 62) (tf 22 45) HT_ ?_
                 refine px 22 (some 63) (tf 23 45) HT_ ?_
                 refine tx (v := ?_) 23 (some 64) (tf 24 45) HT_ HW_ hHeld ?_ ?_
                 rotate_left; (· rintro w' ⟨s0, s1, s2⟩; go_simp; with_reducible rfl)
                 refine px 24 (some 65) (tf 25 45) HT_ ?_
                 refine px 25 (some 66) (tf 26 45) HT_ ?_
                 refine px 26 (some 67) (tf 27 45) HT_ ?_
                 refine px 27 (some 68) (tf 28 45) HT_ ?_
                 refine sx 28 (some 69) (tf 29 45) HT_ ?_
                 refine sx 29 (some 70) (tf 30 45) HT_ ?_
                 refine sx 30 (some 71) (tf 31 45) HT_ ?_
                 refine sx 31 (some 72) (tf 32 45) HT_ ?_
                 refine sx 32 (some 73) (tf 33 45) HT_ ?_
                 refine sx 33 (some 74) (tf 34 45) HT_ ?_
                 refine sx 34 (some 75) (tf 35 45) HT_ ?_
                 refine sx 35 (some 76) (tf 36 45) HT_ ?_
                 refine sx 36 (some 77) (tf 37 45) HT_ ?_
                 refine sx 37 (some 78) (tf 38 45) HT_ ?_
                 refine sx 38 (some 79) (tf 39 45) HT_ ?_
                 refine sx 39 (some 80) (tf 40 45) HT_ ?_
                 refine sx 40 (some 81) (tf 41 45) HT_ ?_
                 refine sx 41 (some 82) (tf 42 45) HT_ ?_
                 refine sx 42 (some 83) (tf 43 45) HT_ ?_
                 refine sx 43 (some 84) (tf 44 45) HT_ ?_
                 refine px 44 (some 85) (tf 45 45) HT_ ?_
                 refine done_ (done_of HT_.out (by kernel_rfl)) ?_
                 try go_wp2
                 go_meet
                 case rel => exact ⟨_, (true), (by first | rfl | (simp; done) | (simp [*]; done)), H', ⟨by have := HJ1.out; have := HK2.out; first | omega | exact Nat.le_refl _⟩, ⟨by (with_reducible repeat (first | refine blk_drewN ?_ _ | refine blk_drew ?_ | refine blk_alloc ?_ _)); exact BK159.out⟩, ⟨by repeat (first | (with_reducible first | exact HB.out | apply below_alloc | apply pw_below_drewN | apply below_drew1 | refine below_set ?_ GE159.out) | exact HB.out)⟩⟩
               ·rw [if_neg c29] at H
                have c29b0 : (x36_2 == 0) = false := beq_eq_false_iff_ne.mpr c29
                have c29b1 : (x36_2 != 0) = true := bne_iff_ne.mpr c29
                by_cases c39 : x36_2 > 0
                ·rw [if_pos c39] at H
                 have c39b0 : decide (0 < x36_2) = true := decide_eq_true c39
                 clear c39
                 obtain ⟨ji40, hji40⟩ : ∃ j_ : Int, (wrap64 (x36_2 - 1)) = j_ := ⟨_, rfl⟩
                 replace H : (if 0 ≤ (ji40) then (if (ji40) < (l0_3.length : Int) then (if 0 < ((rd_L3 l0_3 (ji40)).length : Int) then (impl_ValidTariff.j2 k2 l0_3 (l0_3.length : Int) x36_2 (decide ((rd (rd_L3 l0_3 x36_2) 0) ≤ (rd (rd_L3 l0_3 (ji40)) 0))) a0_0 a0_1 a0_2 l0_3) else (none)) else (none)) else (none)) = some r := by first | (rw [hji40] at H; exact H) | (simp only [hji40] at H ⊢; exact H)
                 (try rw [hji40] at A24)
                 (try rw [hji40] at A27)
                 have hji40w : (IntKind.i64.wrap (x36_2 - 1)) = ji40 := (i64_w _).trans hji40
                 (try clear hji32w)
                 by_cases c41 : 0 ≤ (ji40)
                 ·rw [if_pos c41] at H
                  have c41b0 : decide (0 ≤ (ji40)) = true := decide_eq_true c41
                  clear c41
                  by_cases c42 : (ji40) < (l0_3.length : Int)
                  ·rw [if_pos c42] at H
                   have c42b0 : decide ((ji40) < (l0_3.length : Int)) = true := decide_eq_true c42
                   clear c42
                   by_cases c43 : 0 < ((rd_L3 l0_3 (ji40)).length : Int)
                   ·rw [if_pos c43] at H
                    have c43b0 : decide (0 < ((rd_L3 l0_3 (ji40)).length : Int)) = true := decide_eq_true c43
                    have c43b1 : decide (0 < (rd_L3 l0_3 (ji40)).length) = true := decide_eq_true (by omega)
                    clear c43
                    have H' := Aside0.mk H
                    clear H
                    try go_wp2
                    have n0_ := Aside0.mk (blk_drew BK159.out)
                    have n1_ := Aside0.mk (below_drew1 HB.out)
                    clear BK159
                    clear HB
                    have BK159 := n0_
                    have HB := n1_
                    clear n0_ n1_
                    have p164 : 0 ≤ (0 : Int) := (by omega)
                    have q164 : 0 < ((rd_L3 l0_3 x36_2).length : Int) := of_decide_eq_true (by first | (with_reducible assumption) | assumption)
                    obtain ⟨ad164, e164, hx164_0⟩ := Kd.at_int HR163_0.out 0 p164 q164
                    have hw164_0 := hx164_0
                    (try rw [show ((0 : Int)).toNat = 0 from rfl] at hw164_0)
                    (try rw [show 0 * 1 = 0 from rfl] at hw164_0)
                    (try rw [Addr.add_zero'] at hw164_0)
                    cases e164
                    have qi164 : (0 < (rd_L3 l0_3 x36_2).length) = True := eq_true (by omega)
                    (try rw [show ((0 : Int)).toNat = 0 from rfl] at hx164_0)
                    (try rw [Addr.add_zero'] at hx164_0)
                    replace hx164_0 := (HB.out.cell (World.block_lt_of_cell? w _ hx164_0)).trans hx164_0
                    replace p164 := eq_true p164
                    replace q164 := eq_true q164
                    have p166 : 0 ≤ (1 : Int) := (by omega)
                    have q166 : 1 < ((rd_L3 l0_3 x36_2).length : Int) := of_decide_eq_true (by first | (with_reducible assumption) | assumption)
                    obtain ⟨ad166, e166, hx166_0⟩ := Kd.at_int HR163_0.out 1 p166 q166
                    have hw166_0 := hx166_0
                    (try rw [show ((1 : Int)).toNat = 1 from rfl] at hw166_0)
                    (try rw [show 1 * 1 = 1 from rfl] at hw166_0)
                    (try simp only [Nat.reduceMul, Nat.reduceEqDiff, Go.Addr.add, ↓reduceIte] at hw166_0)
                    obtain rfl : ad164 = ad166 := (by injection e166)
                    (try simp only [show (1 : Int).toNat = 1 from rfl, Nat.reduceMul, Nat.reduceEqDiff, Go.Addr.add, ↓reduceIte] at hx166_0)
                    have qi166 : (1 < (rd_L3 l0_3 x36_2).length) = True := eq_true (by omega)
                    (try rw [show ((1 : Int)).toNat = 1 from rfl] at hx166_0)
                    replace hx166_0 := (HB.out.cell (World.block_lt_of_cell? w _ hx166_0)).trans hx166_0
                    replace p166 := eq_true p166
                    replace q166 := eq_true q166
                    have p172 : 0 ≤ (0 : Int) := (by omega)
                    have q172 : 0 < ((rd_L3 l0_3 x36_2).length : Int) := of_decide_eq_true (by first | (with_reducible assumption) | assumption)
                    obtain ⟨ad172, e172, hx172_0⟩ := Kd.at_int HR163_0.out 0 p172 q172
                    have hw172_0 := hx172_0
                    (try rw [show ((0 : Int)).toNat = 0 from rfl] at hw172_0)
                    (try rw [show 0 * 1 = 0 from rfl] at hw172_0)
                    (try rw [Addr.add_zero'] at hw172_0)
                    obtain rfl : ad164 = ad172 := (by injection e172)
                    have qi172 : (0 < (rd_L3 l0_3 x36_2).length) = True := eq_true (by omega)
                    (try rw [show ((0 : Int)).toNat = 0 from rfl] at hx172_0)
                    (try rw [Addr.add_zero'] at hx172_0)
                    replace hx172_0 := (HB.out.cell (World.block_lt_of_cell? w _ hx172_0)).trans hx172_0
                    replace p172 := eq_true p172
                    replace q172 := eq_true q172
                    have p173 : 0 ≤ ((ji40) : Int) := of_decide_eq_true (by first | (with_reducible assumption) | assumption)
                    have q173 : (ji40) < (l0_3.length : Int) := of_decide_eq_true (by first | (with_reducible assumption) | assumption)
                    obtain ⟨ad173, A173_0, c173_0, e173, hx173_0, hl173_0, hi173_0⟩ := at_L3 HR0_3.out (ji40) p173 q173
                    have hw173_0 := hx173_0
                    obtain rfl : ad163 = ad173 := (by injection e173)
                    replace hx173_0 := (HB.out.cell (World.block_lt_of_cell? w _ hx173_0)).trans hx173_0
                    have HR173_0 := Aside0.mk hi173_0
                    have HC173_0 := Aside0.mk hl173_0
                    clear hi173_0 hl173_0
                    replace p173 := eq_true p173
                    replace q173 := eq_true q173
                    have p174 : 0 ≤ (0 : Int) := (by omega)
                    have q174 : 0 < ((rd_L3 l0_3 (ji40)).length : Int) := of_decide_eq_true (by first | (with_reducible assumption) | assumption)
                    obtain ⟨ad174, e174, hx174_0⟩ := Kd.at_int HR173_0.out 0 p174 q174
                    have hw174_0 := hx174_0
                    (try rw [show ((0 : Int)).toNat = 0 from rfl] at hw174_0)
                    (try rw [show 0 * 1 = 0 from rfl] at hw174_0)
                    (try rw [Addr.add_zero'] at hw174_0)
                    cases e174
                    have qi174 : (0 < (rd_L3 l0_3 (ji40)).length) = True := eq_true (by omega)
                    (try rw [show ((0 : Int)).toNat = 0 from rfl] at hx174_0)
                    (try rw [Addr.add_zero'] at hx174_0)
                    replace hx174_0 := (HB.out.cell (World.block_lt_of_cell? w _ hx174_0)).trans hx174_0
                    replace p174 := eq_true p174
                    replace q174 := eq_true q174
                    refine start_ (n := 45) (S := fun w' => w'.cell? ⟨gb159, 0, none⟩ = some (.string a0_0) ∧ w'.cell? ⟨gb159, 1, none⟩ = some (.int .i64 a0_1) ∧ w'.cell? ⟨gb159, 2, none⟩ = some (.int .i64 a0_2) ∧ w'.cell? ⟨gb159, 3, none⟩ = some (.slice (some ad163) l0_3.length c0_3) ∧ w'.cell? ad164 = some (.int .i64 (rd (rd_L3 l0_3 x36_2) 0)) ∧ w'.cell? ⟨ad164.block, ad164.off + 1, none⟩ = some (.int .i64 (rd (rd_L3 l0_3 x36_2) 1)) ∧ w'.cell? ad164 = some (.int .i64 (rd (rd_L3 l0_3 x36_2) 0)) ∧ w'.cell? (ad163.add ((ji40)).toNat) = some (.slice (some ad174) (rd_L3 l0_3 (ji40)).length c173_0) ∧ w'.cell? ad174 = some (.int .i64 (rd (rd_L3 l0_3 (ji40)) 0))) (ds := []) (tf 0 45) (by kernel_rfl) rfl rfl ⟨(blk_cell BK159.out 0).trans rfl, (blk_cell BK159.out 1).trans rfl, (blk_cell BK159.out 2).trans rfl, (blk_cell BK159.out 3).trans rfl, ((HB.out.cell (World.block_lt_of_cell? w _ hw164_0)).trans hw164_0), ((HB.out.cell (World.block_lt_of_cell? w _ hw166_0)).trans hw166_0), ((HB.out.cell (World.block_lt_of_cell? w _ hw172_0)).trans hw172_0), ((HB.out.cell (World.block_lt_of_cell? w _ hw173_0)).trans hw173_0), ((HB.out.cell (World.block_lt_of_cell? w _ hw174_0)).trans hw174_0)⟩ (fun hHeld => ?_); refine with_tabW impl_ValidTariff.tab6 impl_ValidTariff.bits6 (fun HT_ HW_ => ?_)
                    generalize wr.drew = w44 at BK159 HB HR173_0 hx164_0 hx166_0 hx172_0 hx173_0 hx174_0 hHeld ⊢
                    refine px 0 (some 41) (tf 1 45) HT_ ?_
                    refine px 1 (some 42) (tf 2 45) HT_ ?_
                    refine px 2 (some 43) (tf 3 45) HT_ ?_
                    refine px 3 (some 44) (tf 4 45) HT_ ?_
                    refine px 4 (some 45) (tf 5 45) HT_ ?_
                    refine px 5 (some 46) (tf 6 45) HT_ ?_
                    refine tx (v := ?_) 6 (some 47) (tf 7 45) HT_ HW_ hHeld ?_ ?_
                    rotate_left; (· rintro w' ⟨s0, s1, s2, s3, s4, s5, s6, s7, s8⟩; go_simp; with_reducible rfl)
                    refine one_ (i := 7) (N := some 48) (tf 8 45) rfl rfl (one_of HT_.out (by kernel_rfl)) (by decide) (fun K hK => ?_)
                    refine goes_ Tryd.func28 (by kernel_rfl) rfl #[.int .i64 (rd (rd_L3 l0_3 x36_2) 0), .int .i64 0, .int .i64 1000000] (by rfl) rfl rfl (by (try simp only [List.map_toArray, List.map_cons, List.map_nil]); first | done | rfl | (simp only [List.length_drop, List.length_take]; rfl)) ?_
                    with_reducible refine (impl_within.calls (rd (rd_L3 l0_3 x36_2) 0) 0 1000000 true _ A24.out).mono ?_
                    rintro e w' ⟨rfl, ⟨nd, rfl⟩⟩
                    refine ⟨_, rfl, ?_⟩
                    refine hK.out _ _ ⟨(blk_cell BK159.out 0).trans rfl, (blk_cell BK159.out 1).trans rfl, (blk_cell BK159.out 2).trans rfl, (blk_cell BK159.out 3).trans rfl, ((HB.out.cell (World.block_lt_of_cell? w _ hw164_0)).trans hw164_0), ((HB.out.cell (World.block_lt_of_cell? w _ hw166_0)).trans hw166_0), ((HB.out.cell (World.block_lt_of_cell? w _ hw172_0)).trans hw172_0), ((HB.out.cell (World.block_lt_of_cell? w _ hw173_0)).trans hw173_0), ((HB.out.cell (World.block_lt_of_cell? w _ hw174_0)).trans hw174_0)⟩ (fun hHeld => ?_)
                    clear hK K
                    refine norm_ (a' := ?_) ?_ ?_
                    rotate_left
                    ·show Act.put _ (some 48) _ = _
                     simp only [Act.put, List.setIfInBounds_toArray, List.set_cons_zero, List.set_cons_succ, i64_w, i32_w]
                     rfl
                    refine px 8 (some 49) (tf 9 45) HT_ ?_
                    refine px 9 (some 50) (tf 10 45) HT_ ?_
                    refine px 10 (some 51) (tf 11 45) HT_ ?_
                    refine px 11 (some 52) (tf 12 45) HT_ ?_
                    refine px 12 (some 53) (tf 13 45) HT_ ?_
                    refine tx (v := ?_) 13 (some 54) (tf 14 45) HT_ HW_ hHeld ?_ ?_
                    rotate_left; (· rintro w' ⟨s0, s1, s2, s3, s4, s5, s6, s7, s8⟩; go_simp; with_reducible rfl)
                    refine one_ (i := 14) (N := some 55) (tf 15 45) rfl rfl (one_of HT_.out (by kernel_rfl)) (by decide) (fun K hK => ?_)
                    refine goes_ Tryd.func28 (by kernel_rfl) rfl #[.int .i64 (rd (rd_L3 l0_3 x36_2) 1), .int .i64 0, .int .i64 10000] (by rfl) rfl rfl (by (try simp only [List.map_toArray, List.map_cons, List.map_nil]); first | done | rfl | (simp only [List.length_drop, List.length_take]; rfl)) ?_
                    with_reducible refine (impl_within.calls (rd (rd_L3 l0_3 x36_2) 1) 0 10000 true _ A27.out).mono ?_
                    rintro e w' ⟨rfl, ⟨nd, rfl⟩⟩
                    refine ⟨_, rfl, ?_⟩
                    refine hK.out _ _ ⟨(blk_cell BK159.out 0).trans rfl, (blk_cell BK159.out 1).trans rfl, (blk_cell BK159.out 2).trans rfl, (blk_cell BK159.out 3).trans rfl, ((HB.out.cell (World.block_lt_of_cell? w _ hw164_0)).trans hw164_0), ((HB.out.cell (World.block_lt_of_cell? w _ hw166_0)).trans hw166_0), ((HB.out.cell (World.block_lt_of_cell? w _ hw172_0)).trans hw172_0), ((HB.out.cell (World.block_lt_of_cell? w _ hw173_0)).trans hw173_0), ((HB.out.cell (World.block_lt_of_cell? w _ hw174_0)).trans hw174_0)⟩ (fun hHeld => ?_)
                    clear hK K
                    refine norm_ (a' := ?_) ?_ ?_
                    rotate_left
                    ·show Act.put _ (some 55) _ = _
                     simp only [Act.put, List.setIfInBounds_toArray, List.set_cons_zero, List.set_cons_succ, i64_w, i32_w]
                     rfl
                    refine px 15 (some 56) (tf 16 45) HT_ ?_
                    refine px 16 (some 57) (tf 17 45) HT_ ?_
                    refine px 17 (some 58) (tf 18 45) HT_ ?_
                    refine px 18 (some 59) (tf 19 45) HT_ ?_
                    refine px 19 (some 60) (tf 20 45) HT_ ?_
                    refine px 20 (some 61) (tf 21 45) HT_ ?_
                    refine sx 21 (some 62) (tf 22 45) HT_ ?_
                    refine sx 22 (some 63) (tf 23 45) HT_ ?_
                    refine sx 23 (some 64) (tf 24 45) HT_ ?_
                    refine sx 24 (some 65) (tf 25 45) HT_ ?_
                    refine px 25 (some 66) (tf 26 45) HT_ ?_
                    refine px 26 (some 67) (tf 27 45) HT_ ?_
                    refine px 27 (some 68) (tf 28 45) HT_ ?_
                    refine px 28 (some 69) (tf 29 45) HT_ ?_
                    refine px 29 (some 70) (tf 30 45) HT_ ?_
                    refine px 30 (some 71) (tf 31 45) HT_ ?_
                    refine px 31 (some 72) (tf 32 45) HT_ ?_
                    refine px 32 (some 73) (tf 33 45) HT_ ?_
                    refine px 34 (some 75) (tb 45 25769803775) HT_ ?_
                    refine px 36 (some 77) (tb 45 94489280511) HT_ ?_
                    refine px 37 (some 78) (tb 45 231928233983) HT_ ?_
                    refine tx (v := ?_) 33 (some 74) (tb 45 240518168575) HT_ HW_ hHeld ?_ ?_
                    rotate_left; (· rintro w' ⟨s0, s1, s2, s3, s4, s5, s6, s7, s8⟩; go_simp; with_reducible rfl)
                    refine tx (v := ?_) 35 (some 76) (tf 38 45) HT_ HW_ hHeld ?_ ?_
                    rotate_left; (· rintro w' ⟨s0, s1, s2, s3, s4, s5, s6, s7, s8⟩; go_simp; with_reducible rfl)
                    refine px 38 (some 79) (tf 39 45) HT_ ?_
                    refine tx (v := ?_) 39 (some 80) (tf 40 45) HT_ HW_ hHeld ?_ ?_
                    rotate_left; (· rintro w' ⟨s0, s1, s2, s3, s4, s5, s6, s7, s8⟩; go_simp; with_reducible rfl)
                    refine px 40 (some 81) (tf 41 45) HT_ ?_
                    refine tx (v := ?_) 41 (some 82) (tf 42 45) HT_ HW_ hHeld ?_ ?_
                    rotate_left; (· rintro w' ⟨s0, s1, s2, s3, s4, s5, s6, s7, s8⟩; go_simp; with_reducible rfl)
                    refine px 42 (some 83) (tf 43 45) HT_ ?_
                    refine px 43 (some 84) (tf 44 45) HT_ ?_
                    refine px 44 (some 85) (tf 45 45) HT_ ?_
                    refine done_ (done_of HT_.out (by kernel_rfl)) ?_
                    try go_wp2
                    go_meet
                    case rel => exact ⟨_, (decide ((rd (rd_L3 l0_3 x36_2) 0) ≤ (rd (rd_L3 l0_3 (ji40)) 0))), (by first | rfl | (simp; done) | (simp only [← hji40] <;> (first | rfl | simp)) | (simp [*]; done)), H', ⟨by have := HJ1.out; have := HK2.out; first | omega | exact Nat.le_refl _⟩, ⟨by (with_reducible repeat (first | refine blk_drewN ?_ _ | refine blk_drew ?_ | refine blk_alloc ?_ _)); exact BK159.out⟩, ⟨by repeat (first | (with_reducible first | exact HB.out | apply below_alloc | apply pw_below_drewN | apply below_drew1 | refine below_set ?_ GE159.out) | exact HB.out)⟩⟩
                   ·rw [if_neg c43] at H
                    exact absurd H (by simp)
                  ·rw [if_neg c42] at H
                   exact absurd H (by simp)
                 ·rw [if_neg c41] at H
                  exact absurd H (by simp)
                ·rw [if_neg c39] at H
                 have c39b0 : decide (0 < x36_2) = false := decide_eq_false c39
                 clear c39
                 have H' := Aside0.mk H
                 clear H
                 try go_wp2
                 have n0_ := Aside0.mk (blk_drew BK159.out)
                 have n1_ := Aside0.mk (below_drew1 HB.out)
                 clear BK159
                 clear HB
                 have BK159 := n0_
                 have HB := n1_
                 clear n0_ n1_
                 have p164 : 0 ≤ (0 : Int) := (by omega)
                 have q164 : 0 < ((rd_L3 l0_3 x36_2).length : Int) := of_decide_eq_true (by first | (with_reducible assumption) | assumption)
                 obtain ⟨ad164, e164, hx164_0⟩ := Kd.at_int HR163_0.out 0 p164 q164
                 have hw164_0 := hx164_0
                 (try rw [show ((0 : Int)).toNat = 0 from rfl] at hw164_0)
                 (try rw [show 0 * 1 = 0 from rfl] at hw164_0)
                 (try rw [Addr.add_zero'] at hw164_0)
                 cases e164
                 have qi164 : (0 < (rd_L3 l0_3 x36_2).length) = True := eq_true (by omega)
                 (try rw [show ((0 : Int)).toNat = 0 from rfl] at hx164_0)
                 (try rw [Addr.add_zero'] at hx164_0)
                 replace hx164_0 := (HB.out.cell (World.block_lt_of_cell? w _ hx164_0)).trans hx164_0
                 replace p164 := eq_true p164
                 replace q164 := eq_true q164
                 have p166 : 0 ≤ (1 : Int) := (by omega)
                 have q166 : 1 < ((rd_L3 l0_3 x36_2).length : Int) := of_decide_eq_true (by first | (with_reducible assumption) | assumption)
                 obtain ⟨ad166, e166, hx166_0⟩ := Kd.at_int HR163_0.out 1 p166 q166
                 have hw166_0 := hx166_0
                 (try rw [show ((1 : Int)).toNat = 1 from rfl] at hw166_0)
                 (try rw [show 1 * 1 = 1 from rfl] at hw166_0)
                 (try simp only [Nat.reduceMul, Nat.reduceEqDiff, Go.Addr.add, ↓reduceIte] at hw166_0)
                 obtain rfl : ad164 = ad166 := (by injection e166)
                 (try simp only [show (1 : Int).toNat = 1 from rfl, Nat.reduceMul, Nat.reduceEqDiff, Go.Addr.add, ↓reduceIte] at hx166_0)
                 have qi166 : (1 < (rd_L3 l0_3 x36_2).length) = True := eq_true (by omega)
                 (try rw [show ((1 : Int)).toNat = 1 from rfl] at hx166_0)
                 replace hx166_0 := (HB.out.cell (World.block_lt_of_cell? w _ hx166_0)).trans hx166_0
                 replace p166 := eq_true p166
                 replace q166 := eq_true q166
                 refine start_ (n := 45) (S := fun w' => w'.cell? ad164 = some (.int .i64 (rd (rd_L3 l0_3 x36_2) 0)) ∧ w'.cell? ⟨ad164.block, ad164.off + 1, none⟩ = some (.int .i64 (rd (rd_L3 l0_3 x36_2) 1))) (ds := []) (tf 0 45) (by kernel_rfl) rfl rfl ⟨((HB.out.cell (World.block_lt_of_cell? w _ hw164_0)).trans hw164_0), ((HB.out.cell (World.block_lt_of_cell? w _ hw166_0)).trans hw166_0)⟩ (fun hHeld => ?_); refine with_tabW impl_ValidTariff.tab6 impl_ValidTariff.bits6 (fun HT_ HW_ => ?_)
                 generalize wr.drew = w45 at BK159 HB hx164_0 hx166_0 hHeld ⊢
                 refine px 0 (some 41) (tf 1 45) HT_ ?_
                 refine px 1 (some 42) (tf 2 45) HT_ ?_
                 refine px 2 (some 43) (tf 3 45) HT_ ?_
                 refine px 3 (some 44) (tf 4 45) HT_ ?_
                 refine px 4 (some 45) (tf 5 45) HT_ ?_
                 refine px 5 (some 46) (tf 6 45) HT_ ?_
                 refine tx (v := ?_) 6 (some 47) (tf 7 45) HT_ HW_ hHeld ?_ ?_
                 rotate_left; (· rintro w' ⟨s0, s1⟩; go_simp; with_reducible rfl)
                 refine one_ (i := 7) (N := some 48) (tf 8 45) rfl rfl (one_of HT_.out (by kernel_rfl)) (by decide) (fun K hK => ?_)
                 refine goes_ Tryd.func28 (by kernel_rfl) rfl #[.int .i64 (rd (rd_L3 l0_3 x36_2) 0), .int .i64 0, .int .i64 1000000] (by rfl) rfl rfl (by (try simp only [List.map_toArray, List.map_cons, List.map_nil]); first | done | rfl | (simp only [List.length_drop, List.length_take]; rfl)) ?_
                 with_reducible refine (impl_within.calls (rd (rd_L3 l0_3 x36_2) 0) 0 1000000 true _ A24.out).mono ?_
                 rintro e w' ⟨rfl, ⟨nd, rfl⟩⟩
                 refine ⟨_, rfl, ?_⟩
                 refine hK.out _ _ ⟨((HB.out.cell (World.block_lt_of_cell? w _ hw164_0)).trans hw164_0), ((HB.out.cell (World.block_lt_of_cell? w _ hw166_0)).trans hw166_0)⟩ (fun hHeld => ?_)
                 clear hK K
                 refine norm_ (a' := ?_) ?_ ?_
                 rotate_left
                 ·show Act.put _ (some 48) _ = _
                  simp only [Act.put, List.setIfInBounds_toArray, List.set_cons_zero, List.set_cons_succ, i64_w, i32_w]
                  rfl
                 refine px 8 (some 49) (tf 9 45) HT_ ?_
                 refine px 9 (some 50) (tf 10 45) HT_ ?_
                 refine px 10 (some 51) (tf 11 45) HT_ ?_
                 refine px 11 (some 52) (tf 12 45) HT_ ?_
                 refine px 12 (some 53) (tf 13 45) HT_ ?_
                 refine tx (v := ?_) 13 (some 54) (tf 14 45) HT_ HW_ hHeld ?_ ?_
                 rotate_left; (· rintro w' ⟨s0, s1⟩; go_simp; with_reducible rfl)
                 refine one_ (i := 14) (N := some 55) (tf 15 45) rfl rfl (one_of HT_.out (by kernel_rfl)) (by decide) (fun K hK => ?_)
                 refine goes_ Tryd.func28 (by kernel_rfl) rfl #[.int .i64 (rd (rd_L3 l0_3 x36_2) 1), .int .i64 0, .int .i64 10000] (by rfl) rfl rfl (by (try simp only [List.map_toArray, List.map_cons, List.map_nil]); first | done | rfl | (simp only [List.length_drop, List.length_take]; rfl)) ?_
                 with_reducible refine (impl_within.calls (rd (rd_L3 l0_3 x36_2) 1) 0 10000 true _ A27.out).mono ?_
                 rintro e w' ⟨rfl, ⟨nd, rfl⟩⟩
                 refine ⟨_, rfl, ?_⟩
                 refine hK.out _ _ ⟨((HB.out.cell (World.block_lt_of_cell? w _ hw164_0)).trans hw164_0), ((HB.out.cell (World.block_lt_of_cell? w _ hw166_0)).trans hw166_0)⟩ (fun hHeld => ?_)
                 clear hK K
                 refine norm_ (a' := ?_) ?_ ?_
                 rotate_left
                 ·show Act.put _ (some 55) _ = _
                  simp only [Act.put, List.setIfInBounds_toArray, List.set_cons_zero, List.set_cons_succ, i64_w, i32_w]
                  rfl
                 refine px 15 (some 56) (tf 16 45) HT_ ?_
                 refine px 16 (some 57) (tf 17 45) HT_ ?_
                 refine px 17 (some 58) (tf 18 45) HT_ ?_
                 refine px 18 (some 59) (tf 19 45) HT_ ?_
                 refine px 19 (some 60) (tf 20 45) HT_ ?_
                 refine px 20 (some 61) (tf 21 45) HT_ ?_
                 refine sx 21 (some 62) (tf 22 45) HT_ ?_
                 refine sx 22 (some 63) (tf 23 45) HT_ ?_
                 refine sx 23 (some 64) (tf 24 45) HT_ ?_
                 refine sx 24 (some 65) (tf 25 45) HT_ ?_
                 refine px 25 (some 66) (tf 26 45) HT_ ?_
                 refine px 26 (some 67) (tf 27 45) HT_ ?_
                 refine px 27 (some 68) (tf 28 45) HT_ ?_
                 refine px 28 (some 69) (tf 29 45) HT_ ?_
                 refine px 29 (some 70) (tf 30 45) HT_ ?_
                 refine px 30 (some 71) (tf 31 45) HT_ ?_
                 refine sx 31 (some 72) (tf 32 45) HT_ ?_
                 refine sx 32 (some 73) (tf 33 45) HT_ ?_
                 refine sx 33 (some 74) (tf 34 45) HT_ ?_
                 refine sx 34 (some 75) (tf 35 45) HT_ ?_
                 refine sx 35 (some 76) (tf 36 45) HT_ ?_
                 refine sx 36 (some 77) (tf 37 45) HT_ ?_
                 refine sx 37 (some 78) (tf 38 45) HT_ ?_
                 refine sx 38 (some 79) (tf 39 45) HT_ ?_
                 refine sx 39 (some 80) (tf 40 45) HT_ ?_
                 refine sx 40 (some 81) (tf 41 45) HT_ ?_
                 refine sx 41 (some 82) (tf 42 45) HT_ ?_
                 refine sx 42 (some 83) (tf 43 45) HT_ ?_
                 refine px 43 (some 84) (tf 44 45) HT_ ?_
                 refine px 44 (some 85) (tf 45 45) HT_ ?_
                 refine done_ (done_of HT_.out (by kernel_rfl)) ?_
                 try go_wp2
                 go_meet
                 case rel => exact ⟨_, (false), (by first | rfl | (simp; done) | (simp [*]; done)), H', ⟨by have := HJ1.out; have := HK2.out; first | omega | exact Nat.le_refl _⟩, ⟨by (with_reducible repeat (first | refine blk_drewN ?_ _ | refine blk_drew ?_ | refine blk_alloc ?_ _)); exact BK159.out⟩, ⟨by repeat (first | (with_reducible first | exact HB.out | apply below_alloc | apply pw_below_drewN | apply below_drew1 | refine below_set ?_ GE159.out) | exact HB.out)⟩⟩
              ·replace c28 := Bool.eq_false_iff.mpr c28
               subst c28
               have H1 : (impl_ValidTariff.j2 k2 l0_3 (l0_3.length : Int) x36_2 true a0_0 a0_1 a0_2 l0_3) = some r := by rw [if_neg (show ¬ (false = true) by decide)] at H; exact H
               clear H
               have H := H1
               clear H1
               have H' := Aside0.mk H
               clear H
               try go_wp2
               have n0_ := Aside0.mk (blk_drew BK159.out)
               have n1_ := Aside0.mk (below_drew1 HB.out)
               clear BK159
               clear HB
               have BK159 := n0_
               have HB := n1_
               clear n0_ n1_
               have p164 : 0 ≤ (0 : Int) := (by omega)
               have q164 : 0 < ((rd_L3 l0_3 x36_2).length : Int) := of_decide_eq_true (by first | (with_reducible assumption) | assumption)
               obtain ⟨ad164, e164, hx164_0⟩ := Kd.at_int HR163_0.out 0 p164 q164
               have hw164_0 := hx164_0
               (try rw [show ((0 : Int)).toNat = 0 from rfl] at hw164_0)
               (try rw [show 0 * 1 = 0 from rfl] at hw164_0)
               (try rw [Addr.add_zero'] at hw164_0)
               cases e164
               have qi164 : (0 < (rd_L3 l0_3 x36_2).length) = True := eq_true (by omega)
               (try rw [show ((0 : Int)).toNat = 0 from rfl] at hx164_0)
               (try rw [Addr.add_zero'] at hx164_0)
               replace hx164_0 := (HB.out.cell (World.block_lt_of_cell? w _ hx164_0)).trans hx164_0
               replace p164 := eq_true p164
               replace q164 := eq_true q164
               have p166 : 0 ≤ (1 : Int) := (by omega)
               have q166 : 1 < ((rd_L3 l0_3 x36_2).length : Int) := of_decide_eq_true (by first | (with_reducible assumption) | assumption)
               obtain ⟨ad166, e166, hx166_0⟩ := Kd.at_int HR163_0.out 1 p166 q166
               have hw166_0 := hx166_0
               (try rw [show ((1 : Int)).toNat = 1 from rfl] at hw166_0)
               (try rw [show 1 * 1 = 1 from rfl] at hw166_0)
               (try simp only [Nat.reduceMul, Nat.reduceEqDiff, Go.Addr.add, ↓reduceIte] at hw166_0)
               obtain rfl : ad164 = ad166 := (by injection e166)
               (try simp only [show (1 : Int).toNat = 1 from rfl, Nat.reduceMul, Nat.reduceEqDiff, Go.Addr.add, ↓reduceIte] at hx166_0)
               have qi166 : (1 < (rd_L3 l0_3 x36_2).length) = True := eq_true (by omega)
               (try rw [show ((1 : Int)).toNat = 1 from rfl] at hx166_0)
               replace hx166_0 := (HB.out.cell (World.block_lt_of_cell? w _ hx166_0)).trans hx166_0
               replace p166 := eq_true p166
               replace q166 := eq_true q166
               refine start_ (n := 45) (S := fun w' => w'.cell? ad164 = some (.int .i64 (rd (rd_L3 l0_3 x36_2) 0)) ∧ w'.cell? ⟨ad164.block, ad164.off + 1, none⟩ = some (.int .i64 (rd (rd_L3 l0_3 x36_2) 1))) (ds := []) (tf 0 45) (by kernel_rfl) rfl rfl ⟨((HB.out.cell (World.block_lt_of_cell? w _ hw164_0)).trans hw164_0), ((HB.out.cell (World.block_lt_of_cell? w _ hw166_0)).trans hw166_0)⟩ (fun hHeld => ?_); refine with_tabW impl_ValidTariff.tab6 impl_ValidTariff.bits6 (fun HT_ HW_ => ?_)
               generalize wr.drew = w46 at BK159 HB hx164_0 hx166_0 hHeld ⊢
               refine px 0 (some 41) (tf 1 45) HT_ ?_
               refine px 1 (some 42) (tf 2 45) HT_ ?_
               refine px 2 (some 43) (tf 3 45) HT_ ?_
               refine px 3 (some 44) (tf 4 45) HT_ ?_
               refine px 4 (some 45) (tf 5 45) HT_ ?_
               refine px 5 (some 46) (tf 6 45) HT_ ?_
               refine tx (v := ?_) 6 (some 47) (tf 7 45) HT_ HW_ hHeld ?_ ?_
               rotate_left; (· rintro w' ⟨s0, s1⟩; go_simp; with_reducible rfl)
               refine one_ (i := 7) (N := some 48) (tf 8 45) rfl rfl (one_of HT_.out (by kernel_rfl)) (by decide) (fun K hK => ?_)
               refine goes_ Tryd.func28 (by kernel_rfl) rfl #[.int .i64 (rd (rd_L3 l0_3 x36_2) 0), .int .i64 0, .int .i64 1000000] (by rfl) rfl rfl (by (try simp only [List.map_toArray, List.map_cons, List.map_nil]); first | done | rfl | (simp only [List.length_drop, List.length_take]; rfl)) ?_
               with_reducible refine (impl_within.calls (rd (rd_L3 l0_3 x36_2) 0) 0 1000000 true _ A24.out).mono ?_
               rintro e w' ⟨rfl, ⟨nd, rfl⟩⟩
               refine ⟨_, rfl, ?_⟩
               refine hK.out _ _ ⟨((HB.out.cell (World.block_lt_of_cell? w _ hw164_0)).trans hw164_0), ((HB.out.cell (World.block_lt_of_cell? w _ hw166_0)).trans hw166_0)⟩ (fun hHeld => ?_)
               clear hK K
               refine norm_ (a' := ?_) ?_ ?_
               rotate_left
               ·show Act.put _ (some 48) _ = _
                simp only [Act.put, List.setIfInBounds_toArray, List.set_cons_zero, List.set_cons_succ, i64_w, i32_w]
                rfl
               refine px 8 (some 49) (tf 9 45) HT_ ?_
               refine px 9 (some 50) (tf 10 45) HT_ ?_
               refine px 10 (some 51) (tf 11 45) HT_ ?_
               refine px 11 (some 52) (tf 12 45) HT_ ?_
               refine px 12 (some 53) (tf 13 45) HT_ ?_
               refine tx (v := ?_) 13 (some 54) (tf 14 45) HT_ HW_ hHeld ?_ ?_
               rotate_left; (· rintro w' ⟨s0, s1⟩; go_simp; with_reducible rfl)
               refine one_ (i := 14) (N := some 55) (tf 15 45) rfl rfl (one_of HT_.out (by kernel_rfl)) (by decide) (fun K hK => ?_)
               refine goes_ Tryd.func28 (by kernel_rfl) rfl #[.int .i64 (rd (rd_L3 l0_3 x36_2) 1), .int .i64 0, .int .i64 10000] (by rfl) rfl rfl (by (try simp only [List.map_toArray, List.map_cons, List.map_nil]); first | done | rfl | (simp only [List.length_drop, List.length_take]; rfl)) ?_
               with_reducible refine (impl_within.calls (rd (rd_L3 l0_3 x36_2) 1) 0 10000 false _ A27.out).mono ?_
               rintro e w' ⟨rfl, ⟨nd, rfl⟩⟩
               refine ⟨_, rfl, ?_⟩
               refine hK.out _ _ ⟨((HB.out.cell (World.block_lt_of_cell? w _ hw164_0)).trans hw164_0), ((HB.out.cell (World.block_lt_of_cell? w _ hw166_0)).trans hw166_0)⟩ (fun hHeld => ?_)
               clear hK K
               refine norm_ (a' := ?_) ?_ ?_
               rotate_left
               ·show Act.put _ (some 55) _ = _
                simp only [Act.put, List.setIfInBounds_toArray, List.set_cons_zero, List.set_cons_succ, i64_w, i32_w]
                rfl
               refine px 15 (some 56) (tf 16 45) HT_ ?_
               refine px 16 (some 57) (tf 17 45) HT_ ?_
               refine px 17 (some 58) (tf 18 45) HT_ ?_
               refine sx 18 (some 59) (tf 19 45) HT_ ?_
               refine sx 19 (some 60) (tf 20 45) HT_ ?_
               refine sx 20 (some 61) (tf 21 45) HT_ ?_
               refine sx 21 (some 62) (tf 22 45) HT_ ?_
               refine sx 22 (some 63) (tf 23 45) HT_ ?_
               refine sx 23 (some 64) (tf 24 45) HT_ ?_
               refine sx 24 (some 65) (tf 25 45) HT_ ?_
               refine sx 25 (some 66) (tf 26 45) HT_ ?_
               refine px 26 (some 67) (tf 27 45) HT_ ?_
               refine px 27 (some 68) (tf 28 45) HT_ ?_
               refine sx 28 (some 69) (tf 29 45) HT_ ?_
               refine sx 29 (some 70) (tf 30 45) HT_ ?_
               refine sx 30 (some 71) (tf 31 45) HT_ ?_
               refine sx 31 (some 72) (tf 32 45) HT_ ?_
               refine sx 32 (some 73) (tf 33 45) HT_ ?_
               refine sx 33 (some 74) (tf 34 45) HT_ ?_
               refine sx 34 (some 75) (tf 35 45) HT_ ?_
               refine sx 35 (some 76) (tf 36 45) HT_ ?_
               refine sx 36 (some 77) (tf 37 45) HT_ ?_
               refine sx 37 (some 78) (tf 38 45) HT_ ?_
               refine sx 38 (some 79) (tf 39 45) HT_ ?_
               refine sx 39 (some 80) (tf 40 45) HT_ ?_
               refine sx 40 (some 81) (tf 41 45) HT_ ?_
               refine sx 41 (some 82) (tf 42 45) HT_ ?_
               refine sx 42 (some 83) (tf 43 45) HT_ ?_
               refine sx 43 (some 84) (tf 44 45) HT_ ?_
               refine px 44 (some 85) (tf 45 45) HT_ ?_
               refine done_ (done_of HT_.out (by kernel_rfl)) ?_
               try go_wp2
               go_meet
               case rel => exact ⟨_, (true), (by first | rfl | (simp; done) | (simp [*]; done)), H', ⟨by have := HJ1.out; have := HK2.out; first | omega | exact Nat.le_refl _⟩, ⟨by (with_reducible repeat (first | refine blk_drewN ?_ _ | refine blk_drew ?_ | refine blk_alloc ?_ _)); exact BK159.out⟩, ⟨by repeat (first | (with_reducible first | exact HB.out | apply below_alloc | apply pw_below_drewN | apply below_drew1 | refine below_set ?_ GE159.out) | exact HB.out)⟩⟩
             ·rw [if_neg c26] at H
              exact absurd H (by simp)
            ·replace c25 := Bool.eq_false_iff.mpr c25
             subst c25
             have H1 : (impl_ValidTariff.j2 k2 l0_3 (l0_3.length : Int) x36_2 true a0_0 a0_1 a0_2 l0_3) = some r := by rw [if_neg (show ¬ (false = true) by decide)] at H; exact H
             clear H
             have H := H1
             clear H1
             have H' := Aside0.mk H
             clear H
             try go_wp2
             have n0_ := Aside0.mk (blk_drew BK159.out)
             have n1_ := Aside0.mk (below_drew1 HB.out)
             clear BK159
             clear HB
             have BK159 := n0_
             have HB := n1_
             clear n0_ n1_
             have p164 : 0 ≤ (0 : Int) := (by omega)
             have q164 : 0 < ((rd_L3 l0_3 x36_2).length : Int) := of_decide_eq_true (by first | (with_reducible assumption) | assumption)
             obtain ⟨ad164, e164, hx164_0⟩ := Kd.at_int HR163_0.out 0 p164 q164
             have hw164_0 := hx164_0
             (try rw [show ((0 : Int)).toNat = 0 from rfl] at hw164_0)
             (try rw [show 0 * 1 = 0 from rfl] at hw164_0)
             (try rw [Addr.add_zero'] at hw164_0)
             cases e164
             have qi164 : (0 < (rd_L3 l0_3 x36_2).length) = True := eq_true (by omega)
             (try rw [show ((0 : Int)).toNat = 0 from rfl] at hx164_0)
             (try rw [Addr.add_zero'] at hx164_0)
             replace hx164_0 := (HB.out.cell (World.block_lt_of_cell? w _ hx164_0)).trans hx164_0
             replace p164 := eq_true p164
             replace q164 := eq_true q164
             refine start_ (n := 45) (S := fun w' => w'.cell? ad164 = some (.int .i64 (rd (rd_L3 l0_3 x36_2) 0))) (ds := []) (tf 0 45) (by kernel_rfl) rfl rfl (((HB.out.cell (World.block_lt_of_cell? w _ hw164_0)).trans hw164_0)) (fun hHeld => ?_); refine with_tabW impl_ValidTariff.tab6 impl_ValidTariff.bits6 (fun HT_ HW_ => ?_)
             generalize wr.drew = w47 at BK159 HB hx164_0 hHeld ⊢
             refine px 0 (some 41) (tf 1 45) HT_ ?_
             refine px 1 (some 42) (tf 2 45) HT_ ?_
             refine px 2 (some 43) (tf 3 45) HT_ ?_
             refine px 3 (some 44) (tf 4 45) HT_ ?_
             refine px 4 (some 45) (tf 5 45) HT_ ?_
             refine px 5 (some 46) (tf 6 45) HT_ ?_
             refine take_ (i := 6) (N := some 47) (v := ?_) (a' := ?_) (tf 7 45) rfl rfl (take_ofW HT_.out HW_.out (by kernel_rfl)) (fun _ _ _ h => h) (Or.inl ⟨by rfl, ?_⟩) hHeld ?_ ?_
             rotate_left
             ·intro w' s0
              go_simp
              with_reducible rfl
             rotate_left; (· simp only [Act.put, List.setIfInBounds_toArray, List.set_cons_zero, List.set_cons_succ, i64_w, i32_w]; rfl)
             refine one_ (i := 7) (N := some 48) (tf 8 45) rfl rfl (one_of HT_.out (by kernel_rfl)) (by decide) (fun K hK => ?_)
             refine goes_ Tryd.func28 (by kernel_rfl) rfl #[.int .i64 (rd (rd_L3 l0_3 x36_2) 0), .int .i64 0, .int .i64 1000000] (by rfl) rfl rfl (by (try simp only [List.map_toArray, List.map_cons, List.map_nil]); first | done | rfl | (simp only [List.length_drop, List.length_take]; rfl)) ?_
             with_reducible refine (impl_within.calls (rd (rd_L3 l0_3 x36_2) 0) 0 1000000 false _ A24.out).mono ?_
             rintro e w' ⟨rfl, ⟨nd, rfl⟩⟩
             refine ⟨_, rfl, ?_⟩
             refine hK.out _ _ (((HB.out.cell (World.block_lt_of_cell? w _ hw164_0)).trans hw164_0)) (fun hHeld => ?_)
             clear hK K
             refine norm_ (a' := ?_) ?_ ?_
             rotate_left
             ·show Act.put _ (some 48) _ = _
              simp only [Act.put, List.setIfInBounds_toArray, List.set_cons_zero, List.set_cons_succ, i64_w, i32_w]
              rfl
             refine px 8 (some 49) (tf 9 45) HT_ ?_
             refine px 9 (some 50) (tf 10 45) HT_ ?_
             refine px 10 (some 51) (tf 11 45) HT_ ?_
             refine sx 11 (some 52) (tf 12 45) HT_ ?_
             refine sx 12 (some 53) (tf 13 45) HT_ ?_
             refine sx 13 (some 54) (tf 14 45) HT_ ?_
             refine sx 14 (some 55) (tf 15 45) HT_ ?_
             refine sx 15 (some 56) (tf 16 45) HT_ ?_
             refine px 16 (some 57) (tf 17 45) HT_ ?_
             refine px 17 (some 58) (tf 18 45) HT_ ?_
             refine sx 18 (some 59) (tf 19 45) HT_ ?_
             refine sx 19 (some 60) (tf 20 45) HT_ ?_
             refine sx 20 (some 61) (tf 21 45) HT_ ?_
             refine sx 21 (some 62) (tf 22 45) HT_ ?_
             refine sx 22 (some 63) (tf 23 45) HT_ ?_
             refine sx 23 (some 64) (tf 24 45) HT_ ?_
             refine sx 24 (some 65) (tf 25 45) HT_ ?_
             refine sx 25 (some 66) (tf 26 45) HT_ ?_
             refine px 26 (some 67) (tf 27 45) HT_ ?_
             refine px 27 (some 68) (tf 28 45) HT_ ?_
             refine sx 28 (some 69) (tf 29 45) HT_ ?_
             refine sx 29 (some 70) (tf 30 45) HT_ ?_
             refine sx 30 (some 71) (tf 31 45) HT_ ?_
             refine sx 31 (some 72) (tf 32 45) HT_ ?_
             refine sx 32 (some 73) (tf 33 45) HT_ ?_
             refine sx 33 (some 74) (tf 34 45) HT_ ?_
             refine sx 34 (some 75) (tf 35 45) HT_ ?_
             refine sx 35 (some 76) (tf 36 45) HT_ ?_
             refine sx 36 (some 77) (tf 37 45) HT_ ?_
             refine sx 37 (some 78) (tf 38 45) HT_ ?_
             refine sx 38 (some 79) (tf 39 45) HT_ ?_
             refine sx 39 (some 80) (tf 40 45) HT_ ?_
             refine sx 40 (some 81) (tf 41 45) HT_ ?_
             refine sx 41 (some 82) (tf 42 45) HT_ ?_
             refine sx 42 (some 83) (tf 43 45) HT_ ?_
             refine sx 43 (some 84) (tf 44 45) HT_ ?_
             refine px 44 (some 85) (tf 45 45) HT_ ?_
             refine done_ (done_of HT_.out (by kernel_rfl)) ?_
             try go_wp2
             go_meet
             case rel => exact ⟨_, (true), (by first | rfl | (simp; done) | (simp [*]; done)), H', ⟨by have := HJ1.out; have := HK2.out; first | omega | exact Nat.le_refl _⟩, ⟨by (with_reducible repeat (first | refine blk_drewN ?_ _ | refine blk_drew ?_ | refine blk_alloc ?_ _)); exact BK159.out⟩, ⟨by repeat (first | (with_reducible first | exact HB.out | apply below_alloc | apply pw_below_drewN | apply below_drew1 | refine below_set ?_ GE159.out) | exact HB.out)⟩⟩
           ·rw [if_neg c23] at H
            exact absurd H (by simp)
          ·rw [if_neg c22] at H
           have c22b0 : (((rd_L3 l0_3 x36_2).length : Int) == 2) = false := beq_eq_false_iff_ne.mpr c22
           have c22b1 : (((rd_L3 l0_3 x36_2).length : Int) != 2) = true := bne_iff_ne.mpr c22
           (first | rw [c22b0] | (simp only [i64_w, i32_w]; rw [c22b0]) | skip)
           have H' := Aside0.mk H
           clear H
           try go_wp2
           have n0_ := Aside0.mk (blk_drew BK159.out)
           have n1_ := Aside0.mk (below_drew1 HB.out)
           clear BK159
           clear HB
           have BK159 := n0_
           have HB := n1_
           clear n0_ n1_
           refine start_ (n := 45) (S := fun w' => True) (ds := []) (tf 0 45) (by kernel_rfl) rfl rfl trivial (fun hHeld => ?_); refine with_tabW impl_ValidTariff.tab6 impl_ValidTariff.bits6 (fun HT_ HW_ => ?_)
           generalize wr.drew = w48 at BK159 HB hHeld ⊢
           refine px 0 (some 41) (tf 1 45) HT_ ?_
           refine px 1 (some 42) (tf 2 45) HT_ ?_
           refine px 2 (some 43) (tf 3 45) HT_ ?_
           refine px 3 (some 44) (tf 4 45) HT_ ?_
           refine sx 4 (some 45) (tf 5 45) HT_ ?_
           refine sx 5 (some 46) (tf 6 45) HT_ ?_
           refine sx 6 (some 47) (tf 7 45) HT_ ?_
           refine sx 7 (some 48) (tf 8 45) HT_ ?_
           refine sx 8 (some 49) (tf 9 45) HT_ ?_
           refine px 9 (some 50) (tf 10 45) HT_ ?_
           refine px 10 (some 51) (tf 11 45) HT_ ?_
           refine sx 11 (some 52) (tf 12 45) HT_ ?_
           refine sx 12 (some 53) (tf 13 45) HT_ ?_
           refine sx 13 (some 54) (tf 14 45) HT_ ?_
           refine sx 14 (some 55) (tf 15 45) HT_ ?_
           refine sx 15 (some 56) (tf 16 45) HT_ ?_
           refine px 16 (some 57) (tf 17 45) HT_ ?_
           refine px 17 (some 58) (tf 18 45) HT_ ?_
           refine sx 18 (some 59) (tf 19 45) HT_ ?_
           refine sx 19 (some 60) (tf 20 45) HT_ ?_
           refine sx 20 (some 61) (tf 21 45) HT_ ?_
           refine sx 21 (some 62) (tf 22 45) HT_ ?_
           refine sx 22 (some 63) (tf 23 45) HT_ ?_
           refine sx 23 (some 64) (tf 24 45) HT_ ?_
           refine sx 24 (some 65) (tf 25 45) HT_ ?_
           refine sx 25 (some 66) (tf 26 45) HT_ ?_
           refine px 26 (some 67) (tf 27 45) HT_ ?_
           refine px 27 (some 68) (tf 28 45) HT_ ?_
           refine sx 28 (some 69) (tf 29 45) HT_ ?_
           refine sx 29 (some 70) (tf 30 45) HT_ ?_
           refine sx 30 (some 71) (tf 31 45) HT_ ?_
           refine sx 31 (some 72) (tf 32 45) HT_ ?_
           refine sx 32 (some 73) (tf 33 45) HT_ ?_
           refine sx 33 (some 74) (tf 34 45) HT_ ?_
           refine sx 34 (some 75) (tf 35 45) HT_ ?_
           refine sx 35 (some 76) (tf 36 45) HT_ ?_
           refine sx 36 (some 77) (tf 37 45) HT_ ?_
           refine sx 37 (some 78) (tf 38 45) HT_ ?_
           refine sx 38 (some 79) (tf 39 45) HT_ ?_
           refine sx 39 (some 80) (tf 40 45) HT_ ?_
           refine sx 40 (some 81) (tf 41 45) HT_ ?_
           refine sx 41 (some 82) (tf 42 45) HT_ ?_
           refine sx 42 (some 83) (tf 43 45) HT_ ?_
           refine sx 43 (some 84) (tf 44 45) HT_ ?_
           refine px 44 (some 85) (tf 45 45) HT_ ?_
           refine done_ (done_of HT_.out (by kernel_rfl)) ?_
           try go_wp2
           go_meet
           case rel => exact ⟨_, (true), (by first | rfl | (simp; done) | (simp [*]; done)), H', ⟨by have := HJ1.out; have := HK2.out; first | omega | exact Nat.le_refl _⟩, ⟨by (with_reducible repeat (first | refine blk_drewN ?_ _ | refine blk_drew ?_ | refine blk_alloc ?_ _)); exact BK159.out⟩, ⟨by repeat (first | (with_reducible first | exact HB.out | apply below_alloc | apply pw_below_drewN | apply below_drew1 | refine below_set ?_ GE159.out) | exact HB.out)⟩⟩
         case rest =>
          clear HC21
          try clear p1
          try clear q1
          try clear hx1
          try clear qi1
          try clear c2
          try clear p2
          try clear p16
          try clear q16
          try clear hx16
          try clear qi16
          try clear c22
          try clear c22b0
          try clear c22b1
          try clear c23
          try clear c25
          try clear c26
          try clear c28
          try clear hx164_0
          try clear p164
          try clear q164
          obtain ⟨kq, x85_20, rfl, HA, HJ20, BK159, HB⟩ := hcut
          cases kq with
          | zero => exact absurd HA.out (by simp [impl_ValidTariff.j2])
          | succ kj20 =>
           have H := HA.out
           clear HA
           simp only [impl_ValidTariff.j2] at H
           by_cases c49 : x85_20 = true
           ·subst c49
            have H1 : (some false) = some r := by rw [if_pos rfl] at H; exact H
            clear H
            have H := H1
            clear H1
            obtain rfl := Option.some.inj H
            go_wp2
            go_ret
            exact ⟨by first | rfl | (rw [Int.tdiv_eq_ediv_of_nonneg (by omega)]; rfl) | (simp [errW_none, errW_some] <;> rfl) | (simp [*, errW_none, errW_some] <;> rfl), by repeat (first | (with_reducible first | exact HB.out | apply below_alloc | apply pw_below_drewN | apply below_drew1 | refine below_set ?_ GE159.out) | exact HB.out)⟩
           ·replace c49 := Bool.eq_false_iff.mpr c49
            subst c49
            have H1 : (impl_ValidTariff.l0 kj20 l0_3 (l0_3.length : Int) (wrap64 (x36_2 + 1)) a0_0 a0_1 a0_2 l0_3) = some r := by rw [if_neg (show ¬ (false = true) by decide)] at H; exact H
            clear H
            have H := H1
            clear H1
            have H' := Aside0.mk H
            clear H
            go_wp2
            go_roundg kj20
            case measure => have := HJ1.out; have := HK2.out; have := HJ20.out; omega
            case rel => exact ⟨(wrap64 (x36_2 + 1)), (by first | rfl | (simp; done) | (simp [*]; done)), H', ⟨by have := HJ1.out; have := HK2.out; have := HJ20.out; omega⟩, ⟨by (with_reducible repeat (first | refine blk_drewN ?_ _ | refine blk_drew ?_ | refine blk_alloc ?_ _)); exact BK159.out⟩, ⟨by repeat (first | (with_reducible first | exact HB.out | apply below_alloc | apply pw_below_drewN | apply below_drew1 | refine below_set ?_ GE159.out) | exact HB.out)⟩⟩
        ·rw [if_neg c20] at H
         exact absurd H (by simp)
       ·rw [if_neg c19] at H
        exact absurd H (by simp)
      ·rw [if_neg c18] at H
       have c18b0 : decide (x36_2 < (l0_3.length : Int)) = false := decide_eq_false c18
       clear c18
       obtain rfl := Option.some.inj H
       go_wp2
       go_ret
       exact ⟨by first | rfl | (rw [Int.tdiv_eq_ediv_of_nonneg (by omega)]; rfl) | (simp [errW_none, errW_some] <;> rfl) | (simp [*, errW_none, errW_some] <;> rfl), by repeat (first | (with_reducible first | exact HB.out | apply below_alloc | apply pw_below_drewN | apply below_drew1 | refine below_set ?_ GE159.out) | exact HB.out)⟩

end Go.Proofs.YtdhpmiocpjpabaaDoor.PFnTariffs
