-- written by wip/xprint.py, a program of this session, for this claim; not trusted: Lean checks it.
import Derived.Test.YtdhpmiocpjpabaaDoorPFnTariffsx0
import Derived.Test.YtdhpmiocpjpabaaDoorPFnTariffsx4
import Derived.Test.YtdhpmiocpjpabaaDoorPFnTariffsx5
import Derived.Test.YtdhpmiocpjpabaaDoorPFnTariffsx6
namespace Go.Proofs.YtdhpmiocpjpabaaDoor.PFnTariffs
open Go.RowKit Go.Proofs.YtdhpmiocpjpabaaDoorW.PrintWords Go.Proofs.YtdhpmiocpjpabaaDoorW.PrintLast Go.Proofs.YtdhpmiocpjpabaaDoorW.PrintMore
attribute [local go_sem] leq_less_ max2_int min2_int max_two min_two max_three min_three max_four min_four   -- for this text's walks alone
set_option linter.unusedVariables false
set_option linter.unusedSimpArgs false

/-! ### impl_ReadTariff: function 11 -/
def impl_ReadTariff.l0 : Nat → ByteArray → Bool → Bool → List ByteArray → Int → Int → ByteArray → Int → Int → List (List Int) → Option (ByteArray × Int × Int × (List (List Int)) × Bool)
 | 0, _, _, _, _, _, _, _, _, _, _ => none
 | k + 1, x0, x9, x11, x53, x54, x55, x240000, x240001, x240002, x240003 => if x55 < x54 then (if 0 ≤ x55 then (if x55 < (x53.length : Int) then ((strings_Cut.f (rdOf ByteArray.empty x53 x55) (⟨#[58]⟩ : ByteArray)).bind fun bt246 => ((impl_ReadDecimal.f bt246.1).bind fun bt249 => ((impl_ReadDecimal.f bt246.2.1).bind fun bt251 => (if bt249.2 = true then (if bt251.2 = true then (if x240003.length < 5864062014805 then (impl_ReadTariff.l0 k x0 x9 x11 x53 x54 (wrap64 (x55 + 1)) x240000 x240001 x240002 (x240003 ++ [(([bt249.1, bt251.1] : List Int))])) else (none)) else (some ((⟨#[]⟩ : ByteArray), 0, 0, ([] : List (List Int)), false))) else (some ((⟨#[]⟩ : ByteArray), 0, 0, ([] : List (List Int)), false)))))) else (none)) else (none)) else (if x9 = true then (if x11 = true then ((impl_TariffText.f k x240000 x240001 x240002 x240003).bind fun t244 => (if t244.toList = x0.toList then (some (x240000, x240001, x240002, x240003, true)) else (some ((⟨#[]⟩ : ByteArray), 0, 0, ([] : List (List Int)), false)))) else (some ((⟨#[]⟩ : ByteArray), 0, 0, ([] : List (List Int)), false))) else (some ((⟨#[]⟩ : ByteArray), 0, 0, ([] : List (List Int)), false)))
def impl_ReadTariff.f (k : Nat) (a0 : ByteArray) : Option (ByteArray × Int × Int × (List (List Int)) × Bool) := (strings_SplitN.f a0 (⟨#[32]⟩ : ByteArray) 9).bind fun t227 => (if (t227.length : Int) < 2 then (some ((⟨#[]⟩ : ByteArray), 0, 0, ([] : List (List Int)), false)) else (if 1 < (t227.length : Int) then ((strings_Cut.f (rdOf ByteArray.empty t227 1) (⟨#[43]⟩ : ByteArray)).bind fun bt231 => ((impl_ReadDecimal.f bt231.1).bind fun bt234 => ((impl_ReadDecimal.f bt231.2.1).bind fun bt236 => (if 0 < (t227.length : Int) then (if 2 ≤ (t227.length : Int) then ((some (t227.drop 2 : List ByteArray)).bind fun y240 => (impl_ReadTariff.l0 k a0 bt234.2 bt236.2 y240 (y240.length : Int) 0 (rdOf ByteArray.empty t227 0) bt234.1 bt236.1 ([] : List (List Int)))) else (none)) else (none))))) else (none)))
theorem impl_ReadTariff.mono_l : ∀ k, (∀ y0 y1 y2 y3 y4 y5 y6 y7 y8 y9, LeO (impl_ReadTariff.l0 k y0 y1 y2 y3 y4 y5 y6 y7 y8 y9) (impl_ReadTariff.l0 (k + 1) y0 y1 y2 y3 y4 y5 y6 y7 y8 y9))
 | 0 => fun _ _ _ _ _ _ _ _ _ _ r h => by simp [impl_ReadTariff.l0] at h
 | k + 1 => by
  have ih0 := impl_ReadTariff.mono_l k
  ·intro y0 y1 y2 y3 y4 y5 y6 y7 y8 y9
   unfold impl_ReadTariff.l0
   repeat' first
   | (with_reducible exact ih0 _ _ _ _ _ _ _ _ _ _)
   | (with_reducible exact impl_TariffText.mono _ _ _ _ _)
   | (with_reducible exact LeO.refl _)
   | (with_reducible exact LeO.none _)
   | (with_reducible refine LeO.ite ?_ ?_)
   | (with_reducible refine LeO.bind ?_ (fun _ => ?_))
   | exact ih0 _ _ _ _ _ _ _ _ _ _
   | exact impl_TariffText.mono _ _ _ _ _
   | exact LeO.none _
   | refine LeO.ite ?_ ?_
   | refine LeO.bind ?_ (fun _ => ?_)
theorem impl_ReadTariff.mono : ∀ a0 k, LeO (impl_ReadTariff.f k a0) (impl_ReadTariff.f (k + 1) a0) := by
 intro a0 k
 have ih0 := impl_ReadTariff.mono_l k
 unfold impl_ReadTariff.f
 repeat' first
   | (with_reducible exact ih0 _ _ _ _ _ _ _ _ _ _)
   | (with_reducible exact impl_TariffText.mono _ _ _ _ _)
   | (with_reducible exact LeO.refl _)
   | (with_reducible exact LeO.none _)
   | (with_reducible refine LeO.ite ?_ ?_)
   | (with_reducible refine LeO.bind ?_ (fun _ => ?_))
   | exact ih0 _ _ _ _ _ _ _ _ _ _
   | exact impl_TariffText.mono _ _ _ _ _
   | exact LeO.none _
   | refine LeO.ite ?_ ?_
   | refine LeO.bind ?_ (fun _ => ?_)
theorem impl_ReadTariff.cell {w w' : World} {a : Addr} {g : Nat} {o : Obj} (h0 : w.heap[g]? = some o) (h1 : w'.heap[g]? = some o) (ha : a.block = g) : w'.cell? a = w.cell? a := by
  unfold World.cell?
  rw [ha, h0, h1]
theorem impl_ReadTariff.row {e base n : Nat} {w : World} {ok : Nat → Prop} {a : Addr} {c : Nat} {xs : List ByteArray} (h : Kd.R Kd.string e w base ok (.slice (some a) n c) xs) : ∃ g cur, a = ⟨g, 0, none⟩ ∧ w.heap[g]? = some (.cells cur e (0, 0)) := by
  obtain ⟨_, h | ⟨g, cap, cur, e1, _, e2, _⟩⟩ := Kd.own_of_R h
  · cases h.1
  · injection e1 with e3
    injection e3 with e4
    exact ⟨g, cur, e4, e2⟩
set_option maxHeartbeats 8000000 in
set_option maxRecDepth 100000 in
theorem impl_ReadTariff.calls (k : Nat) (a0 : ByteArray) (r1 : ByteArray) (r2 : Int) (r3 : Int) (r4 : List (List Int)) (r5 : Bool) (w : World) (h : impl_ReadTariff.f k a0 = some (r1, r2, r3, r4, r5)) (hT_ : Tab_ w) :
  Calls Tryd.prog 11 #[.string a0] w fun e w' => ∃ v3_ : Value, e = .returned (.tuple #[.agg #[.string r1, .int .i64 r2, .int .i64 r3, v3_], .bool r5]) ∧ Kd.S (Kd.slice 2 (Kd.int .i64)) 40 w' w.heap.size (fun _ => True) v3_ r4 ∧ Below w.heap.size w w' := by
 have hu26 := Tryd.underlying26
 have HB := Aside0.mk (Below.refl w.heap.size w)
 have H : ((strings_SplitN.f a0 (⟨#[32]⟩ : ByteArray) 9).bind fun t227 => (if (t227.length : Int) < 2 then (some ((⟨#[]⟩ : ByteArray), 0, 0, ([] : List (List Int)), false)) else (if 1 < (t227.length : Int) then ((strings_Cut.f (rdOf ByteArray.empty t227 1) (⟨#[43]⟩ : ByteArray)).bind fun bt231 => ((impl_ReadDecimal.f bt231.1).bind fun bt234 => ((impl_ReadDecimal.f bt231.2.1).bind fun bt236 => (if 0 < (t227.length : Int) then (if 2 ≤ (t227.length : Int) then ((some (t227.drop 2 : List ByteArray)).bind fun y240 => (impl_ReadTariff.l0 k a0 bt234.2 bt236.2 y240 (y240.length : Int) 0 (rdOf ByteArray.empty t227 0) bt234.1 bt236.1 ([] : List (List Int)))) else (none)) else (none))))) else (none)))) = some (r1, r2, r3, r4, r5) := h
 clear h
 replace H := Option.bind_eq_some_iff.mp H
 obtain ⟨t227, A20, H⟩ := H
 replace H : (if (t227.length : Int) < 2 then (some ((⟨#[]⟩ : ByteArray), 0, 0, ([] : List (List Int)), false)) else (if 1 < (t227.length : Int) then ((strings_Cut.f (rdOf ByteArray.empty t227 1) (⟨#[43]⟩ : ByteArray)).bind fun bt231 => ((impl_ReadDecimal.f bt231.1).bind fun bt234 => ((impl_ReadDecimal.f bt231.2.1).bind fun bt236 => (if 0 < (t227.length : Int) then (if 2 ≤ (t227.length : Int) then ((some (t227.drop 2 : List ByteArray)).bind fun y240 => (impl_ReadTariff.l0 k a0 bt234.2 bt236.2 y240 (y240.length : Int) 0 (rdOf ByteArray.empty t227 0) bt234.1 bt236.1 ([] : List (List Int)))) else (none)) else (none))))) else (none))) = some (r1, r2, r3, r4, r5) := H
 have A2 := Aside0.mk A20
 clear A20
 by_cases c3 : (t227.length : Int) < 2
 ·rw [if_pos c3] at H
  have c3b0 : decide ((t227.length : Int) < 2) = true := decide_eq_true c3
  have c3b1 : decide (t227.length < 2) = true := decide_eq_true (by omega)
  clear c3
  simp only [Option.some.injEq, Prod.mk.injEq] at H
  obtain ⟨rfl, rfl, rfl, rfl, rfl⟩ := H
  go_enter Tryd.func11, Tryd.ntmps11
  go_wp2_with (first | ((with_reducible refine gate_dst (N := 2) rfl ?_); refine box_event ?hg (N := 2) ?hd (cs := #[.string (⟨#[]⟩ : ByteArray), .int .i64 0, .int .i64 0, .slice none 0 0]) (t := 26) ?hr ?_; (case hd => rfl); (case hg => rfl); (case hr => first | (go_simp; done) | (go_simp; rfl)); intro gb226 hg w4 hbox hb; have n0_ := Aside0.mk (below_step (by repeat (first | (with_reducible first | exact HB.out | apply below_alloc | apply pw_below_drewN | apply below_drew1) | exact HB.out)) hb); have n1_ := Aside0.mk (hbox); have n2_ := Aside0.mk ((by rw [hg]; exact (below_size (by repeat (first | (with_reducible first | exact HB.out | apply below_alloc | apply pw_below_drewN | apply below_drew1) | exact HB.out))) : w.heap.size ≤ gb226)); have n3_ := Aside0.mk ((by rw [hg]; exact (below_size (by repeat (first | (with_reducible first | exact HB.out | apply below_alloc | apply pw_below_drewN | apply below_drew1) | exact HB.out))) : w.heap.size ≤ gb226)); clear HB; have HB := n0_; have BK226 := n1_; have GW226 := n2_; have GE226 := n3_; clear n0_ n1_ n2_ n3_; clear hb hbox hg) | ((with_reducible refine gate_callee (f := 21) rfl ?_); refine goesL_ (some 23) rfl rfl Tryd.func21 (by kernel_rfl) rfl #[.string a0, .string (⟨#[32]⟩ : ByteArray), .int .i64 9] rfl (by (try simp only [List.map_toArray, List.map_cons, List.map_nil]); first | done | rfl | (simp only [List.length_drop, List.length_take]; rfl)) ?_; (with_reducible refine (strings_SplitN.calls a0 (⟨#[32]⟩ : ByteArray) 9 t227 _ A2.out).mono ?_); rintro e w5 ⟨v228, rfl, ho0, hb⟩; refine ⟨_, rfl, ?_⟩; have n0_ := Aside0.mk (Kd.R_lower ho0 (below_size (by repeat (first | (with_reducible first | exact HB.out | apply below_alloc | apply pw_below_drewN | apply below_drew1 | refine below_set ?_ GE226.out) | exact HB.out)))); have n1_ := Aside0.mk (blk_below (g := gb226) (o := .cells #[.string (⟨#[]⟩ : ByteArray), .int .i64 0, .int .i64 0, .slice none 0 0] 26 (0, 0)) (by (with_reducible repeat (first | refine blk_drewN ?_ _ | refine blk_drew ?_ | refine blk_alloc ?_ _)); exact BK226.out) hb); have n2_ := Aside0.mk (below_step (by repeat (first | (with_reducible first | exact HB.out | apply below_alloc | apply pw_below_drewN | apply below_drew1 | refine below_set ?_ GE226.out) | exact HB.out)) hb); clear BK226; clear HB; have HO229 := n0_; have BK226 := n1_; have HB := n2_; clear n0_ n1_ n2_; (try clear hb); (try clear hb2); (try clear hk); (try clear hi); (try clear ho0); obtain ⟨Ao6, co6, eo6⟩ := Kd.R_slice HO229.out; subst eo6; have hcz7_0 : w5.cell? ⟨gb226, 0, none⟩ = some (.string (⟨#[]⟩ : ByteArray)) := (blk_cell BK226.out 0).trans rfl; have hcz7_1 : w5.cell? ⟨gb226, 1, none⟩ = some (.int .i64 0) := (blk_cell BK226.out 1).trans rfl; have hcz7_2 : w5.cell? ⟨gb226, 2, none⟩ = some (.int .i64 0) := (blk_cell BK226.out 2).trans rfl; have hcz7_3 : w5.cell? ⟨gb226, 3, none⟩ = some (.slice none 0 0) := (blk_cell BK226.out 3).trans rfl; have hfz7_0 := blk_frozen BK226.out 0; have hfz7_1 := blk_frozen BK226.out 1; have hfz7_2 := blk_frozen BK226.out 2; have hfz7_3 := blk_frozen BK226.out 3))
  refine bodyPost_ret (results_ct rfl _ _ gb226 26 #[.string (⟨#[]⟩ : ByteArray), .int .i64 0, .int .i64 0, .slice none 0 0] (0, 0) _ rfl (by (with_reducible repeat (first | refine blk_drewN ?_ _ | refine blk_drew ?_ | refine blk_alloc ?_ _)); refine blk_put (cs := #[.string (⟨#[]⟩ : ByteArray), .int .i64 0, .int .i64 0, .slice none 0 0]) ?_ 3 _ rfl; (with_reducible repeat (first | refine blk_drewN ?_ _ | refine blk_drew ?_ | refine blk_alloc ?_ _)); refine blk_put (cs := #[.string (⟨#[]⟩ : ByteArray), .int .i64 0, .int .i64 0, .slice none 0 0]) ?_ 2 _ rfl; (with_reducible repeat (first | refine blk_drewN ?_ _ | refine blk_drew ?_ | refine blk_alloc ?_ _)); refine blk_put (cs := #[.string (⟨#[]⟩ : ByteArray), .int .i64 0, .int .i64 0, .slice none 0 0]) ?_ 1 _ rfl; (with_reducible repeat (first | refine blk_drewN ?_ _ | refine blk_drew ?_ | refine blk_alloc ?_ _)); refine blk_put (cs := #[.string (⟨#[]⟩ : ByteArray), .int .i64 0, .int .i64 0, .slice none 0 0]) ?_ 0 _ rfl; (with_reducible repeat (first | refine blk_drewN ?_ _ | refine blk_drew ?_ | refine blk_alloc ?_ _)); exact BK226.out) Tryd.underlying26 rfl (by kernel_rfl)) rfl ?_
  exact ⟨_, by first | rfl | (simp [errW_none, errW_some] <;> rfl) | (simp [*, errW_none, errW_some] <;> rfl), by first | exact Kd.S_nil _ _ _ _ _ | exact Kd.N_nil _ _ _ _ _ | exact Kd.V_nil _ _ _ _ _ | exact Kd.Q_nil _ _ _ _ _ | exact Kd.R_nil _ _ _ _ _, by repeat (first | (with_reducible first | exact HB.out | apply below_alloc | apply pw_below_drewN | apply below_drew1 | refine below_set ?_ GE226.out) | exact HB.out)⟩
 ·rw [if_neg c3] at H
  have c3b0 : decide ((t227.length : Int) < 2) = false := decide_eq_false c3
  have c3b1 : decide (t227.length < 2) = false := decide_eq_false (by omega)
  clear c3
  by_cases c8 : 1 < (t227.length : Int)
  ·rw [if_pos c8] at H
   have c8b0 : decide (1 < (t227.length : Int)) = true := decide_eq_true c8
   have c8b1 : decide (1 < t227.length) = true := decide_eq_true (by omega)
   clear c8
   replace H := Option.bind_eq_some_iff.mp H
   obtain ⟨⟨t231, t232, t233⟩, A90, H⟩ := H
   replace H : ((impl_ReadDecimal.f t231).bind fun bt234 => ((impl_ReadDecimal.f t232).bind fun bt236 => (if 0 < (t227.length : Int) then (if 2 ≤ (t227.length : Int) then ((some (t227.drop 2 : List ByteArray)).bind fun y240 => (impl_ReadTariff.l0 k a0 bt234.2 bt236.2 y240 (y240.length : Int) 0 (rdOf ByteArray.empty t227 0) bt234.1 bt236.1 ([] : List (List Int)))) else (none)) else (none)))) = some (r1, r2, r3, r4, r5) := H
   have A9 := Aside0.mk A90
   clear A90
   replace H := Option.bind_eq_some_iff.mp H
   obtain ⟨⟨t234, t235⟩, A100, H⟩ := H
   replace H : ((impl_ReadDecimal.f t232).bind fun bt236 => (if 0 < (t227.length : Int) then (if 2 ≤ (t227.length : Int) then ((some (t227.drop 2 : List ByteArray)).bind fun y240 => (impl_ReadTariff.l0 k a0 t235 bt236.2 y240 (y240.length : Int) 0 (rdOf ByteArray.empty t227 0) t234 bt236.1 ([] : List (List Int)))) else (none)) else (none))) = some (r1, r2, r3, r4, r5) := H
   have A10 := Aside0.mk A100
   clear A100
   replace H := Option.bind_eq_some_iff.mp H
   obtain ⟨⟨t236, t237⟩, A110, H⟩ := H
   replace H : (if 0 < (t227.length : Int) then (if 2 ≤ (t227.length : Int) then ((some (t227.drop 2 : List ByteArray)).bind fun y240 => (impl_ReadTariff.l0 k a0 t235 t237 y240 (y240.length : Int) 0 (rdOf ByteArray.empty t227 0) t234 t236 ([] : List (List Int)))) else (none)) else (none)) = some (r1, r2, r3, r4, r5) := H
   have A11 := Aside0.mk A110
   clear A110
   by_cases c12 : 0 < (t227.length : Int)
   ·rw [if_pos c12] at H
    have c12b0 : decide (0 < (t227.length : Int)) = true := decide_eq_true c12
    have c12b1 : decide (0 < t227.length) = true := decide_eq_true (by omega)
    clear c12
    by_cases c13 : 2 ≤ (t227.length : Int)
    ·rw [if_pos c13] at H
     have c13b0 := eq_true c13
     have c13b1 : decide (2 ≤ (t227.length : Int)) = true := decide_eq_true c13
     clear c13
     obtain ⟨y240, hy240⟩ : ∃ y_ : List ByteArray, y_ = (t227.drop 2) := ⟨_, rfl⟩
     replace H : (impl_ReadTariff.l0 k a0 t235 t237 y240 (y240.length : Int) 0 (rdOf ByteArray.empty t227 0) t234 t236 ([] : List (List Int))) = some (r1, r2, r3, r4, r5) := by first | (rw [hy240]; with_reducible exact H) | (have H2_ := (Option.bind_some _ _).symm.trans H; rw [hy240]; with_reducible exact H2_) | (have H2_ := (Option.bind_some _ _).symm.trans H; with_reducible exact H2_) | with_reducible exact H | (rw [hy240]; exact H) | exact H
     have Ny240 := Aside0.mk hy240
     clear hy240
     have H' := Aside0.mk H
     clear H
     go_enter Tryd.func11, Tryd.ntmps11
     go_wp2_with (first | ((with_reducible refine gate_dst (N := 2) rfl ?_); refine box_event ?hg (N := 2) ?hd (cs := #[.string (⟨#[]⟩ : ByteArray), .int .i64 0, .int .i64 0, .slice none 0 0]) (t := 26) ?hr ?_; (case hd => rfl); (case hg => rfl); (case hr => first | (go_simp; done) | (go_simp; rfl)); intro gb226 hg w14 hbox hb; have n0_ := Aside0.mk (below_step (by repeat (first | (with_reducible first | exact HB.out | apply below_alloc | apply pw_below_drewN | apply below_drew1) | exact HB.out)) hb); have n1_ := Aside0.mk (hbox); have n2_ := Aside0.mk ((by rw [hg]; exact (below_size (by repeat (first | (with_reducible first | exact HB.out | apply below_alloc | apply pw_below_drewN | apply below_drew1) | exact HB.out))) : w.heap.size ≤ gb226)); have n3_ := Aside0.mk ((by rw [hg]; exact (below_size (by repeat (first | (with_reducible first | exact HB.out | apply below_alloc | apply pw_below_drewN | apply below_drew1) | exact HB.out))) : w.heap.size ≤ gb226)); clear HB; have HB := n0_; have BK226 := n1_; have GW226 := n2_; have GE226 := n3_; clear n0_ n1_ n2_ n3_; clear hb hbox hg) | ((with_reducible refine gate_callee (f := 21) rfl ?_); refine goesL_ (some 23) rfl rfl Tryd.func21 (by kernel_rfl) rfl #[.string a0, .string (⟨#[32]⟩ : ByteArray), .int .i64 9] rfl (by (try simp only [List.map_toArray, List.map_cons, List.map_nil]); first | done | rfl | (simp only [List.length_drop, List.length_take]; rfl)) ?_; (with_reducible refine (strings_SplitN.calls a0 (⟨#[32]⟩ : ByteArray) 9 t227 _ A2.out).mono ?_); rintro e w15 ⟨v228, rfl, ho0, hb⟩; refine ⟨_, rfl, ?_⟩; have n0_ := Aside0.mk (Kd.R_lower ho0 (below_size (by repeat (first | (with_reducible first | exact HB.out | apply below_alloc | apply pw_below_drewN | apply below_drew1 | refine below_set ?_ GE226.out) | exact HB.out)))); have n1_ := Aside0.mk (blk_below (g := gb226) (o := .cells #[.string (⟨#[]⟩ : ByteArray), .int .i64 0, .int .i64 0, .slice none 0 0] 26 (0, 0)) (by (with_reducible repeat (first | refine blk_drewN ?_ _ | refine blk_drew ?_ | refine blk_alloc ?_ _)); exact BK226.out) hb); have n2_ := Aside0.mk (below_step (by repeat (first | (with_reducible first | exact HB.out | apply below_alloc | apply pw_below_drewN | apply below_drew1 | refine below_set ?_ GE226.out) | exact HB.out)) hb); clear BK226; clear HB; have HO229 := n0_; have BK226 := n1_; have HB := n2_; clear n0_ n1_ n2_; (try clear hb); (try clear hb2); (try clear hk); (try clear hi); (try clear ho0); obtain ⟨Ao16, co16, eo16⟩ := Kd.R_slice HO229.out; subst eo16; have p230 : 0 ≤ (1 : Int) := (by omega); have q230 : 1 < (t227.length : Int) := of_decide_eq_true (by first | (with_reducible assumption) | assumption); obtain ⟨ad230, e230, hx230_0⟩ := Kd.at_string (Kd.R_reads' HO229.out).2.2 1 p230 q230; cases e230; (try simp only [show (1 : Int).toNat = 1 from rfl, Nat.reduceMul, Nat.reduceEqDiff, Go.Addr.add, ↓reduceIte] at hx230_0); have qi230 : (1 < t227.length) = True := eq_true (by omega); (try rw [show ((1 : Int)).toNat = 1 from rfl] at hx230_0); replace p230 := eq_true p230; replace q230 := eq_true q230) | ((with_reducible refine gate_callee (f := 22) rfl ?_); refine goesL_ (some 32) rfl rfl Tryd.func22 (by kernel_rfl) rfl #[.string (rdOf ByteArray.empty t227 1), .string (⟨#[43]⟩ : ByteArray)] rfl (by (try simp only [List.map_toArray, List.map_cons, List.map_nil]); first | done | rfl | (simp only [List.length_drop, List.length_take]; rfl)) ?_; (with_reducible refine (strings_Cut.calls (rdOf ByteArray.empty t227 1) (⟨#[43]⟩ : ByteArray) t231 t232 t233 _ A9.out).mono ?_); rintro e w' ⟨rfl, ⟨nd, rfl⟩⟩; refine ⟨_, rfl, ?_⟩; (try (rw [drewN_self w15]; generalize hq_ : World.drewN w15 _ = w15; have n0_ : Aside0 (Kd.R Kd.string 9 w15 w.heap.size (fun _ => True) (.slice (some ad230) t227.length co16) t227) := ⟨by rw [← hq_]; exact (by (with_reducible repeat (first | apply Kd.R_alloc | apply Kd.R_drewN | apply Kd.R_drew)); exact HO229.out)⟩; have n1_ : Aside0 (w15.heap[gb226]? = some (.cells #[.string (⟨#[]⟩ : ByteArray), .int .i64 0, .int .i64 0, .slice none 0 0] 26 (0, 0))) := ⟨by rw [← hq_]; exact (by (with_reducible repeat (first | refine blk_drewN ?_ _ | refine blk_drew ?_ | refine blk_alloc ?_ _)); exact BK226.out)⟩; have n2_ : Aside0 (Below w.heap.size w w15) := ⟨by rw [← hq_]; exact (by repeat (first | (with_reducible first | exact HB.out | apply below_alloc | apply pw_below_drewN | apply below_drew1 | refine below_set ?_ GE226.out) | exact HB.out))⟩; clear HO229 BK226 HB hq_; have HO229 := n0_; have BK226 := n1_; have HB := n2_; clear n0_ n1_ n2_))) | ((with_reducible refine gate_callee (f := 23) rfl ?_); refine goesL_ (some 38) rfl rfl Tryd.func23 (by kernel_rfl) rfl #[.string t231] rfl (by (try simp only [List.map_toArray, List.map_cons, List.map_nil]); first | done | rfl | (simp only [List.length_drop, List.length_take]; rfl)) ?_; (with_reducible refine (impl_ReadDecimal.calls t231 t234 t235 _ A10.out ?T_).mono ?_); (case T_ => exact tab_ hT_ (by repeat (first | (with_reducible first | exact HB.out | apply below_alloc | apply pw_below_drewN | apply below_drew1 | refine below_set ?_ GE226.out) | exact HB.out))); rintro e w17 ⟨rfl, hb⟩; refine ⟨_, rfl, ?_⟩; have n0_ := Aside0.mk (Kd.R_below (by (with_reducible repeat (first | apply Kd.R_alloc | apply Kd.R_drewN | apply Kd.R_drew)); exact HO229.out) hb); have n1_ := Aside0.mk (blk_below (g := gb226) (o := .cells #[.string (⟨#[]⟩ : ByteArray), .int .i64 0, .int .i64 0, .slice none 0 0] 26 (0, 0)) (by (with_reducible repeat (first | refine blk_drewN ?_ _ | refine blk_drew ?_ | refine blk_alloc ?_ _)); exact BK226.out) hb); have n2_ := Aside0.mk (below_step (by repeat (first | (with_reducible first | exact HB.out | apply below_alloc | apply pw_below_drewN | apply below_drew1 | refine below_set ?_ GE226.out) | exact HB.out)) hb); clear HO229; clear BK226; clear HB; have HO229 := n0_; have BK226 := n1_; have HB := n2_; clear n0_ n1_ n2_; (try clear hb); (try clear hb2); (try clear hk); (try clear hi)) | ((with_reducible refine gate_callee (f := 23) rfl ?_); refine goesL_ (some 43) rfl rfl Tryd.func23 (by kernel_rfl) rfl #[.string t232] rfl (by (try simp only [List.map_toArray, List.map_cons, List.map_nil]); first | done | rfl | (simp only [List.length_drop, List.length_take]; rfl)) ?_; (with_reducible refine (impl_ReadDecimal.calls t232 t236 t237 _ A11.out ?T_).mono ?_); (case T_ => exact tab_ hT_ (by repeat (first | (with_reducible first | exact HB.out | apply below_alloc | apply pw_below_drewN | apply below_drew1 | refine below_set ?_ GE226.out) | exact HB.out))); rintro e w18 ⟨rfl, hb⟩; refine ⟨_, rfl, ?_⟩; have n0_ := Aside0.mk (Kd.R_below (by (with_reducible repeat (first | apply Kd.R_alloc | apply Kd.R_drewN | apply Kd.R_drew)); exact HO229.out) hb); have n1_ := Aside0.mk (blk_below (g := gb226) (o := .cells #[.string (⟨#[]⟩ : ByteArray), .int .i64 0, .int .i64 0, .slice none 0 0] 26 (0, 0)) (by (with_reducible repeat (first | refine blk_drewN ?_ _ | refine blk_drew ?_ | refine blk_alloc ?_ _)); exact BK226.out) hb); have n2_ := Aside0.mk (below_step (by repeat (first | (with_reducible first | exact HB.out | apply below_alloc | apply pw_below_drewN | apply below_drew1 | refine below_set ?_ GE226.out) | exact HB.out)) hb); clear HO229; clear BK226; clear HB; have HO229 := n0_; have BK226 := n1_; have HB := n2_; clear n0_ n1_ n2_; (try clear hb); (try clear hb2); (try clear hk); (try clear hi); have p238 : 0 ≤ (0 : Int) := (by omega); have q238 : 0 < (t227.length : Int) := of_decide_eq_true (by first | (with_reducible assumption) | assumption); obtain ⟨ad238, e238, hx238_0⟩ := Kd.at_string (Kd.R_reads' HO229.out).2.2 0 p238 q238; obtain rfl : ad230 = ad238 := (by injection e238); have qi238 : (0 < t227.length) = True := eq_true (by omega); (try rw [show ((0 : Int)).toNat = 0 from rfl] at hx238_0); (try rw [Addr.add_zero'] at hx238_0); replace p238 := eq_true p238; replace q238 := eq_true q238) | ((with_reducible refine gate_dst (N := 12) rfl ?_); refine box_event ?hg (N := 12) ?hd (cs := #[.string (⟨#[]⟩ : ByteArray), .int .i64 0, .int .i64 0, .slice none 0 0]) (t := 26) ?hr ?_; (case hd => rfl); (case hg => rfl); (case hr => first | (go_simp; done) | (go_simp; rfl)); intro gb239 hg w19 hbox hb; have n0_ := Aside0.mk (Kd.R_below (by (with_reducible repeat (first | apply Kd.R_alloc | apply Kd.R_drewN | apply Kd.R_drew)); exact HO229.out) hb); have n1_ := Aside0.mk (blk_below (g := gb226) (o := .cells #[.string (⟨#[]⟩ : ByteArray), .int .i64 0, .int .i64 0, .slice none 0 0] 26 (0, 0)) (by (with_reducible repeat (first | refine blk_drewN ?_ _ | refine blk_drew ?_ | refine blk_alloc ?_ _)); exact BK226.out) hb); have n2_ := Aside0.mk (below_step (by repeat (first | (with_reducible first | exact HB.out | apply below_alloc | apply pw_below_drewN | apply below_drew1 | refine below_set ?_ GE226.out) | exact HB.out)) hb); have n3_ := Aside0.mk (hbox); have n4_ := Aside0.mk ((by rw [hg]; exact (below_size (by repeat (first | (with_reducible first | exact HB.out | apply below_alloc | apply pw_below_drewN | apply below_drew1 | refine below_set ?_ GE226.out) | exact HB.out))) : w.heap.size ≤ gb239)); have n5_ := Aside0.mk ((by rw [hg]; exact (below_size (by repeat (first | (with_reducible first | exact HB.out | apply below_alloc | apply pw_below_drewN | apply below_drew1 | refine below_set ?_ GE226.out) | exact HB.out))) : w.heap.size ≤ gb239)); have n6_ := Aside0.mk ((by rw [hg]; exact Nat.ne_of_lt (blk_lt (g := gb226) (o := .cells #[.string (⟨#[]⟩ : ByteArray), .int .i64 0, .int .i64 0, .slice none 0 0] 26 (0, 0)) (by (with_reducible repeat (first | refine blk_drewN ?_ _ | refine blk_drew ?_ | refine blk_alloc ?_ _)); exact BK226.out)) : gb226 ≠ gb239)); have n7_ := Aside0.mk ((by rw [hg]; exact Nat.ne_of_gt (blk_lt (g := gb226) (o := .cells #[.string (⟨#[]⟩ : ByteArray), .int .i64 0, .int .i64 0, .slice none 0 0] 26 (0, 0)) (by (with_reducible repeat (first | refine blk_drewN ?_ _ | refine blk_drew ?_ | refine blk_alloc ?_ _)); exact BK226.out)) : gb239 ≠ gb226)); clear HO229; clear BK226; clear HB; have HO229 := n0_; have BK226 := n1_; have HB := n2_; have BK239 := n3_; have GW239 := n4_; have GE239 := n5_; have NB226_239 := n6_; have NB239_226 := n7_; clear n0_ n1_ n2_ n3_ n4_ n5_ n6_ n7_; clear hb hbox hg; have hnb20 := NB239_226.out; have hnc20 := NB226_239.out; have hcz21_0 : w19.cell? ⟨gb239, 0, none⟩ = some (.string (⟨#[]⟩ : ByteArray)) := (blk_cell BK239.out 0).trans rfl; have hcz21_1 : w19.cell? ⟨gb239, 1, none⟩ = some (.int .i64 0) := (blk_cell BK239.out 1).trans rfl; have hcz21_2 : w19.cell? ⟨gb239, 2, none⟩ = some (.int .i64 0) := (blk_cell BK239.out 2).trans rfl; have hcz21_3 : w19.cell? ⟨gb239, 3, none⟩ = some (.slice none 0 0) := (blk_cell BK239.out 3).trans rfl; have hfz21_0 := blk_frozen BK239.out 0; have hfz21_1 := blk_frozen BK239.out 1; have hfz21_2 := blk_frozen BK239.out 2; have hfz21_3 := blk_frozen BK239.out 3) | ((with_reducible refine gate_store (t := 26) (p := 12) rfl ?_); refine store_event (t := 26) (p := 12) (v := ?vo_w22) (w1 := ((((w19.setCell ⟨gb239, 0, none⟩ (.string (rdOf ByteArray.empty t227 0))).setCell ⟨gb239, 1, none⟩ (.int .i64 t234)).setCell ⟨gb239, 2, none⟩ (.int .i64 t236)).setCell ⟨gb239, 3, none⟩ (.slice none 0 0))) ?hg ?ho ?hn ?hr ?_; (case ho => rfl); (case hg => rfl); (case hn => rfl); (case hr => first | (go_simp; done) | (go_simp; rfl)); intro w22 hw; have n0_ : Aside0 (Kd.R Kd.string 9 w22 w.heap.size (fun _ => True) (.slice (some ad230) t227.length co16) t227) := ⟨(by rw [hw]; exact (by (with_reducible repeat (first | apply Kd.R_alloc | apply Kd.R_drewN | apply Kd.R_drew)); exact Kd.R_mono (Kd.R_far (p := ⟨gb239, 3, none⟩) (Kd.R_far (p := ⟨gb239, 2, none⟩) (Kd.R_far (p := ⟨gb239, 1, none⟩) (Kd.R_far (p := ⟨gb239, 0, none⟩) (Kd.R_types HO229.out BK239.out (by decide)) (fun _ hk => hk.2) (.string (rdOf ByteArray.empty t227 0))) (fun _ hk => hk.2) (.int .i64 t234)) (fun _ hk => hk.2) (.int .i64 t236)) (fun _ hk => hk.2) (.slice none 0 0)) (fun _ hk => trivial)))⟩; have n1_ : Aside0 (w22.heap[gb226]? = some (.cells #[.string (⟨#[]⟩ : ByteArray), .int .i64 0, .int .i64 0, .slice none 0 0] 26 (0, 0))) := ⟨(by rw [hw]; exact (by (with_reducible repeat (first | refine blk_drewN ?_ _ | refine blk_drew ?_ | refine blk_alloc ?_ _)); refine blk_far ?_ NB226_239.out _; (with_reducible repeat (first | refine blk_drewN ?_ _ | refine blk_drew ?_ | refine blk_alloc ?_ _)); refine blk_far ?_ NB226_239.out _; (with_reducible repeat (first | refine blk_drewN ?_ _ | refine blk_drew ?_ | refine blk_alloc ?_ _)); refine blk_far ?_ NB226_239.out _; (with_reducible repeat (first | refine blk_drewN ?_ _ | refine blk_drew ?_ | refine blk_alloc ?_ _)); refine blk_far ?_ NB226_239.out _; (with_reducible repeat (first | refine blk_drewN ?_ _ | refine blk_drew ?_ | refine blk_alloc ?_ _)); exact BK226.out))⟩; have n2_ : Aside0 (w22.heap[gb239]? = some (.cells #[.string (rdOf ByteArray.empty t227 0), .int .i64 t234, .int .i64 t236, .slice none 0 0] 26 (0, 0))) := ⟨(by rw [hw]; exact (by (with_reducible repeat (first | refine blk_drewN ?_ _ | refine blk_drew ?_ | refine blk_alloc ?_ _)); refine blk_put (cs := #[.string (rdOf ByteArray.empty t227 0), .int .i64 t234, .int .i64 t236, .slice none 0 0]) ?_ 3 _ rfl; (with_reducible repeat (first | refine blk_drewN ?_ _ | refine blk_drew ?_ | refine blk_alloc ?_ _)); refine blk_put (cs := #[.string (rdOf ByteArray.empty t227 0), .int .i64 t234, .int .i64 0, .slice none 0 0]) ?_ 2 _ rfl; (with_reducible repeat (first | refine blk_drewN ?_ _ | refine blk_drew ?_ | refine blk_alloc ?_ _)); refine blk_put (cs := #[.string (rdOf ByteArray.empty t227 0), .int .i64 0, .int .i64 0, .slice none 0 0]) ?_ 1 _ rfl; (with_reducible repeat (first | refine blk_drewN ?_ _ | refine blk_drew ?_ | refine blk_alloc ?_ _)); refine blk_put (cs := #[.string (⟨#[]⟩ : ByteArray), .int .i64 0, .int .i64 0, .slice none 0 0]) ?_ 0 _ rfl; (with_reducible repeat (first | refine blk_drewN ?_ _ | refine blk_drew ?_ | refine blk_alloc ?_ _)); exact BK239.out))⟩; have n3_ : Aside0 (Below w.heap.size w w22) := ⟨(by rw [hw]; exact (by repeat (first | (with_reducible first | exact HB.out | apply below_alloc | apply pw_below_drewN | apply below_drew1 | refine below_set ?_ GE226.out | refine below_set ?_ GE239.out) | exact HB.out)))⟩; clear hw; clear HO229; clear BK226; clear BK239; clear HB; have HO229 := n0_; have BK226 := n1_; have BK239 := n2_; have HB := n3_; clear n0_ n1_ n2_ n3_; have q23 : (2 : Int) ≤ ((t227.length : Int) : Int) := of_decide_eq_true (by first | (with_reducible assumption) | assumption); obtain ⟨i023, hi023, _, hsz23, _⟩ := info_parts info9; have hroom23 : t227.length ≤ co16 := (Kd.R_reads' HO229.out).2.1; have hC23 : Kd.C Kd.string _ (some ad230) t227.length t227 := (Kd.R_reads' HO229.out).2.2; have hcut23 := cut_from (P := Tryd.prog) 41 9 .i64 Tryd.underlying41 hi023 1 hsz23 (some ad230) t227.length co16 2 (by omega) q23; have hr23 := Kd.C_drop (m := (2 : Int).toNat) (c := co16) hC23 (by omega) hroom23; obtain ⟨A23, hA23⟩ : ∃ A_, A_ = (if co16 = (2 : Int).toNat then (some ad230) else ((some ad230) : Option Addr).map (·.add ((2 : Int).toNat * 1))) := ⟨_, rfl⟩; obtain ⟨c23, hc23⟩ : ∃ c_, c_ = co16 - (2 : Int).toNat := ⟨_, rfl⟩; have hy23 : y240.length = t227.length - (2 : Int).toNat := (by rw [Ny240.out, List.length_drop] <;> omega); rw [show (t227).drop (2 : Int).toNat = y240 from Ny240.out.symm] at hr23; replace hr23 : Kd.C Kd.string _ A23 y240.length y240 := (by rw [hA23]; exact hr23); rw [← hy23, ← hA23, ← hc23] at hcut23; have HR243 := Aside0.mk hr23; have HC243 := Aside0.mk (show y240.length ≤ c23 from by rw [hy23, hc23]; exact Nat.sub_le_sub_right hroom23 _); clear hr23 hC23 hroom23 hi023 hsz23 hc23; have KY23 := Aside0.mk hy23; have KA23 := Aside0.mk hA23; clear hy23 hA23; have KL23 := Aside0.mk (show 2 ≤ t227.length from by omega); replace q23 := eq_true q23))
     obtain ⟨gR_, curR_, eR_, hR_⟩ := impl_ReadTariff.row HO229.out
     cases eR_
     have BKR := Aside0.mk hR_
     have BKR0 := Aside0.mk hR_
     have NBR := Aside0.mk (show gR_ ≠ gb239 from fun e_ => by have h_ := BKR.out; rw [e_, BK239.out] at h_; injection h_ with h_; injection h_ with _ h_ _; exact absurd h_ (by decide))
     clear hR_
     go_loopg [55] k (fun kq v55 w' => ∃ (x55_1 : Int) (x227000_1 : ByteArray) (x227001_1 : Int) (x227002_1 : Int) (x240003_1 : List (List Int)) (u240003 : Value), v55 = .int .i64 x55_1 ∧ Aside0 (impl_ReadTariff.l0 kq a0 t235 t237 y240 (y240.length : Int) x55_1 (rdOf ByteArray.empty t227 0) t234 t236 x240003_1 = some (r1, r2, r3, r4, r5)) ∧ Aside0 (kq ≤ k) ∧ Aside0 (Kd.S (Kd.slice 2 (Kd.int .i64)) 40 w' w.heap.size (fun _ => True) u240003 x240003_1) ∧ Aside0 (w'.heap[gb226]? = some (.cells #[.string x227000_1, .int .i64 x227001_1, .int .i64 x227002_1, (.slice none 0 0)] 26 (0, 0))) ∧ Aside0 (w'.heap[gb239]? = some (.cells #[.string (rdOf ByteArray.empty t227 0), .int .i64 t234, .int .i64 t236, u240003] 26 (0, 0))) ∧ Aside0 (Below w.heap.size w w') ∧ Aside0 (w'.heap[gR_]? = some (.cells curR_ 9 (0, 0))))
     case atStart => exact ⟨(0), ((⟨#[]⟩ : ByteArray)), (0), (0), (([] : List (List Int))), (.slice none 0 0), (by first | rfl | (simp; done) | (simp [*]; done)), H', ⟨Nat.le_refl _⟩, ⟨by first | exact Kd.S_nil _ _ _ _ _ | exact Kd.N_nil _ _ _ _ _ | exact Kd.V_nil _ _ _ _ _ | exact Kd.Q_nil _ _ _ _ _ | exact Kd.R_nil _ _ _ _ _⟩, ⟨by (with_reducible repeat (first | refine blk_drewN ?_ _ | refine blk_drew ?_ | refine blk_alloc ?_ _)); exact BK226.out⟩, ⟨by (with_reducible repeat (first | refine blk_drewN ?_ _ | refine blk_drew ?_ | refine blk_alloc ?_ _)); exact BK239.out⟩, ⟨by repeat (first | (with_reducible first | exact HB.out | apply below_alloc | apply pw_below_drewN | apply below_drew1 | refine below_set ?_ GE226.out | refine below_set ?_ GE239.out) | exact HB.out)⟩, BKR⟩
     case round =>
      clear H'
      try clear c1
      try clear c2
      try clear p2
      try clear q2
      try clear hx2
      try clear qi2
      try clear c3
      try clear c3b0
      try clear c3b1
      try clear c8
      try clear c8b0
      try clear c8b1
      try clear c11
      try clear c12
      try clear c12b0
      try clear c12b1
      try clear c13
      try clear c13b0
      try clear c13b1
      try clear c20
      try clear c21
      try clear c22
      try clear c23
      try clear p23
      try clear q23
      try clear hx23
      try clear qi23
      try clear hcz21_0
      try clear hcz21_1
      try clear hcz21_2
      try clear hcz21_3
      try clear hcz7_0
      try clear hcz7_1
      try clear hcz7_2
      try clear hcz7_3
      try clear hfz21_0
      try clear hfz21_1
      try clear hfz21_2
      try clear hfz21_3
      try clear hfz7_0
      try clear hfz7_1
      try clear hfz7_2
      try clear hfz7_3
      try clear hx230_0
      try clear hx238_0
      try clear p230
      try clear p238
      try clear q23
      try clear q230
      try clear q238
      obtain ⟨x55_1, x227000_1, x227001_1, x227002_1, x240003_1, u240003, rfl, HA, HK1, HO_240003, BK226, BK239, HB, BKR⟩ := hrel
      cases gk with
      | zero => exact absurd HA.out (by simp [impl_ReadTariff.l0])
      | succ k1 =>
       have H := HA.out
       clear HA
       simp only [impl_ReadTariff.l0] at H
       by_cases c24 : x55_1 < (y240.length : Int)
       ·rw [if_pos c24] at H
        have c24b0 : decide (x55_1 < (y240.length : Int)) = true := decide_eq_true c24
        clear c24
        by_cases c25 : 0 ≤ x55_1
        ·rw [if_pos c25] at H
         have c25b0 : decide (0 ≤ x55_1) = true := decide_eq_true c25
         clear c25
         by_cases c26 : x55_1 < (y240.length : Int)
         ·rw [if_pos c26] at H
          have c26b0 : decide (x55_1 < (y240.length : Int)) = true := decide_eq_true c26
          clear c26
          replace H := Option.bind_eq_some_iff.mp H
          obtain ⟨⟨t246, t247, t248⟩, A270, H⟩ := H
          replace H : ((impl_ReadDecimal.f t246).bind fun bt249 => ((impl_ReadDecimal.f t247).bind fun bt251 => (if bt249.2 = true then (if bt251.2 = true then (if x240003_1.length < 5864062014805 then (impl_ReadTariff.l0 k1 a0 t235 t237 y240 (y240.length : Int) (wrap64 (x55_1 + 1)) (rdOf ByteArray.empty t227 0) t234 t236 (x240003_1 ++ [(([bt249.1, bt251.1] : List Int))])) else (none)) else (some ((⟨#[]⟩ : ByteArray), 0, 0, ([] : List (List Int)), false))) else (some ((⟨#[]⟩ : ByteArray), 0, 0, ([] : List (List Int)), false))))) = some (r1, r2, r3, r4, r5) := H
          have A27 := Aside0.mk A270
          clear A270
          replace H := Option.bind_eq_some_iff.mp H
          obtain ⟨⟨t249, t250⟩, A280, H⟩ := H
          replace H : ((impl_ReadDecimal.f t247).bind fun bt251 => (if t250 = true then (if bt251.2 = true then (if x240003_1.length < 5864062014805 then (impl_ReadTariff.l0 k1 a0 t235 t237 y240 (y240.length : Int) (wrap64 (x55_1 + 1)) (rdOf ByteArray.empty t227 0) t234 t236 (x240003_1 ++ [(([t249, bt251.1] : List Int))])) else (none)) else (some ((⟨#[]⟩ : ByteArray), 0, 0, ([] : List (List Int)), false))) else (some ((⟨#[]⟩ : ByteArray), 0, 0, ([] : List (List Int)), false)))) = some (r1, r2, r3, r4, r5) := H
          have A28 := Aside0.mk A280
          clear A280
          replace H := Option.bind_eq_some_iff.mp H
          obtain ⟨⟨t251, t252⟩, A290, H⟩ := H
          replace H : (if t250 = true then (if t252 = true then (if x240003_1.length < 5864062014805 then (impl_ReadTariff.l0 k1 a0 t235 t237 y240 (y240.length : Int) (wrap64 (x55_1 + 1)) (rdOf ByteArray.empty t227 0) t234 t236 (x240003_1 ++ [(([t249, t251] : List Int))])) else (none)) else (some ((⟨#[]⟩ : ByteArray), 0, 0, ([] : List (List Int)), false))) else (some ((⟨#[]⟩ : ByteArray), 0, 0, ([] : List (List Int)), false))) = some (r1, r2, r3, r4, r5) := H
          have A29 := Aside0.mk A290
          clear A290
          by_cases c30 : t250 = true
          ·subst c30
           have H1 : (if t252 = true then (if x240003_1.length < 5864062014805 then (impl_ReadTariff.l0 k1 a0 t235 t237 y240 (y240.length : Int) (wrap64 (x55_1 + 1)) (rdOf ByteArray.empty t227 0) t234 t236 (x240003_1 ++ [(([t249, t251] : List Int))])) else (none)) else (some ((⟨#[]⟩ : ByteArray), 0, 0, ([] : List (List Int)), false))) = some (r1, r2, r3, r4, r5) := by rw [if_pos rfl] at H; exact H
           clear H
           have H := H1
           clear H1
           by_cases c31 : t252 = true
           ·subst c31
            have H1 : (if x240003_1.length < 5864062014805 then (impl_ReadTariff.l0 k1 a0 t235 t237 y240 (y240.length : Int) (wrap64 (x55_1 + 1)) (rdOf ByteArray.empty t227 0) t234 t236 (x240003_1 ++ [(([t249, t251] : List Int))])) else (none)) = some (r1, r2, r3, r4, r5) := by rw [if_pos rfl] at H; exact H
            clear H
            have H := H1
            clear H1
            obtain ⟨y253, hy253⟩ : ∃ y_ : List Int, y_ = (([t249, t251] : List Int)) := ⟨_, rfl⟩
            replace H : (if x240003_1.length < 5864062014805 then (impl_ReadTariff.l0 k1 a0 t235 t237 y240 (y240.length : Int) (wrap64 (x55_1 + 1)) (rdOf ByteArray.empty t227 0) t234 t236 (x240003_1 ++ [y253])) else (none)) = some (r1, r2, r3, r4, r5) := by first | (rw [hy253]; with_reducible exact H) | (have H2_ := (Option.bind_some _ _).symm.trans H; rw [hy253]; with_reducible exact H2_) | (have H2_ := (Option.bind_some _ _).symm.trans H; with_reducible exact H2_) | with_reducible exact H | (rw [hy253]; exact H) | exact H
            have Ny253 := Aside0.mk hy253
            clear hy253
            by_cases c32 : x240003_1.length < 5864062014805
            ·rw [if_pos c32] at H
             have LMc32 := Aside0.mk c32
             clear c32
             obtain ⟨y256, hy256⟩ : ∃ y_ : List (List Int), y_ = (x240003_1 ++ [y253]) := ⟨_, rfl⟩
             replace H : (impl_ReadTariff.l0 k1 a0 t235 t237 y240 (y240.length : Int) (wrap64 (x55_1 + 1)) (rdOf ByteArray.empty t227 0) t234 t236 y256) = some (r1, r2, r3, r4, r5) := by first | (rw [hy256]; with_reducible exact H) | (have H2_ := (Option.bind_some _ _).symm.trans H; rw [hy256]; with_reducible exact H2_) | (have H2_ := (Option.bind_some _ _).symm.trans H; with_reducible exact H2_) | with_reducible exact H | (rw [hy256]; exact H) | exact H
             have Ny256 := Aside0.mk hy256
             clear hy256
             have H' := Aside0.mk H
             clear H
             have p245 : 0 ≤ (x55_1 : Int) := of_decide_eq_true (by first | (with_reducible assumption) | assumption)
             have q245 : x55_1 < (y240.length : Int) := of_decide_eq_true (by first | (with_reducible assumption) | assumption)
             obtain ⟨ad245, e245, hx245_0⟩ := Kd.at_string HR243.out x55_1 p245 q245
             cases e245
             replace hx245_0 := (impl_ReadTariff.cell BKR0.out BKR.out (by have hk_ := KA23.out; rw [add_block]; split at hk_ <;> (injection hk_ with hk_; rw [hk_]; first | done | rfl | exact add_block _ _))).trans hx245_0
             replace p245 := eq_true p245
             replace q245 := eq_true q245
             go_wp2_with (first | ((with_reducible refine gate_callee (f := 22) rfl ?_); refine goesL_ (some 61) rfl rfl Tryd.func22 (by kernel_rfl) rfl #[.string (rdOf ByteArray.empty y240 x55_1), .string (⟨#[58]⟩ : ByteArray)] rfl (by (try simp only [List.map_toArray, List.map_cons, List.map_nil]); first | done | rfl | (simp only [List.length_drop, List.length_take]; rfl)) ?_; (with_reducible refine (strings_Cut.calls (rdOf ByteArray.empty y240 x55_1) (⟨#[58]⟩ : ByteArray) t246 t247 t248 _ A27.out).mono ?_); rintro e w' ⟨rfl, ⟨nd, rfl⟩⟩; refine ⟨_, rfl, ?_⟩; (try (rw [drewN_self wr]; generalize hq_ : World.drewN wr _ = wr; have n0_ : Aside0 (Kd.S (Kd.slice 2 (Kd.int .i64)) 40 wr w.heap.size (fun _ => True) u240003 x240003_1) := ⟨by rw [← hq_]; exact (by (with_reducible repeat (first | apply Kd.S_alloc | apply Kd.S_drewN | apply Kd.S_drew)); exact HO_240003.out)⟩; have n1_ : Aside0 (wr.heap[gb226]? = some (.cells #[.string x227000_1, .int .i64 x227001_1, .int .i64 x227002_1, .slice none 0 0] 26 (0, 0))) := ⟨by rw [← hq_]; exact (by (with_reducible repeat (first | refine blk_drewN ?_ _ | refine blk_drew ?_ | refine blk_alloc ?_ _)); exact BK226.out)⟩; have BKR : Aside0 (wr.heap[gR_]? = some (.cells curR_ 9 (0, 0))) := ⟨by rw [← hq_]; exact (by (with_reducible repeat (first | refine blk_drewN ?_ _ | refine blk_drew ?_ | refine blk_alloc ?_ _)); exact BKR.out)⟩; have n2_ : Aside0 (wr.heap[gb239]? = some (.cells #[.string (rdOf ByteArray.empty t227 0), .int .i64 t234, .int .i64 t236, u240003] 26 (0, 0))) := ⟨by rw [← hq_]; exact (by (with_reducible repeat (first | refine blk_drewN ?_ _ | refine blk_drew ?_ | refine blk_alloc ?_ _)); exact BK239.out)⟩; have n3_ : Aside0 (Below w.heap.size w wr) := ⟨by rw [← hq_]; exact (by repeat (first | (with_reducible first | exact HB.out | apply below_alloc | apply pw_below_drewN | apply below_drew1 | refine below_set ?_ GE226.out | refine below_set ?_ GE239.out) | exact HB.out))⟩; clear HO_240003 BK226 BK239 HB hq_; have HO_240003 := n0_; have BK226 := n1_; have BK239 := n2_; have HB := n3_; clear n0_ n1_ n2_ n3_))) | ((with_reducible refine gate_callee (f := 23) rfl ?_); refine goesL_ (some 67) rfl rfl Tryd.func23 (by kernel_rfl) rfl #[.string t246] rfl (by (try simp only [List.map_toArray, List.map_cons, List.map_nil]); first | done | rfl | (simp only [List.length_drop, List.length_take]; rfl)) ?_; (with_reducible refine (impl_ReadDecimal.calls t246 t249 true _ A28.out ?T_).mono ?_); (case T_ => exact tab_ hT_ (by repeat (first | (with_reducible first | exact HB.out | apply below_alloc | apply pw_below_drewN | apply below_drew1 | refine below_set ?_ GE226.out | refine below_set ?_ GE239.out) | exact HB.out))); rintro e w33 ⟨rfl, hb⟩; refine ⟨_, rfl, ?_⟩; have n0_ := Aside0.mk (Kd.S_below (by (with_reducible repeat (first | apply Kd.S_alloc | apply Kd.S_drewN | apply Kd.S_drew)); exact HO_240003.out) hb); have n1_ := Aside0.mk (blk_below (g := gb226) (o := .cells #[.string x227000_1, .int .i64 x227001_1, .int .i64 x227002_1, .slice none 0 0] 26 (0, 0)) (by (with_reducible repeat (first | refine blk_drewN ?_ _ | refine blk_drew ?_ | refine blk_alloc ?_ _)); exact BK226.out) hb); have BKR := Aside0.mk (blk_below (g := gR_) (o := .cells curR_ 9 (0, 0)) (by (with_reducible repeat (first | refine blk_drewN ?_ _ | refine blk_drew ?_ | refine blk_alloc ?_ _)); exact BKR.out) hb); have n2_ := Aside0.mk (blk_below (g := gb239) (o := .cells #[.string (rdOf ByteArray.empty t227 0), .int .i64 t234, .int .i64 t236, u240003] 26 (0, 0)) (by (with_reducible repeat (first | refine blk_drewN ?_ _ | refine blk_drew ?_ | refine blk_alloc ?_ _)); exact BK239.out) hb); have n3_ := Aside0.mk (below_step (by repeat (first | (with_reducible first | exact HB.out | apply below_alloc | apply pw_below_drewN | apply below_drew1 | refine below_set ?_ GE226.out | refine below_set ?_ GE239.out) | exact HB.out)) hb); clear HO_240003; clear BK226; clear BK239; clear HB; have HO_240003 := n0_; have BK226 := n1_; have BK239 := n2_; have HB := n3_; clear n0_ n1_ n2_ n3_; (try clear hb); (try clear hb2); (try clear hk); (try clear hi)) | ((with_reducible refine gate_callee (f := 23) rfl ?_); refine goesL_ (some 72) rfl rfl Tryd.func23 (by kernel_rfl) rfl #[.string t247] rfl (by (try simp only [List.map_toArray, List.map_cons, List.map_nil]); first | done | rfl | (simp only [List.length_drop, List.length_take]; rfl)) ?_; (with_reducible refine (impl_ReadDecimal.calls t247 t251 true _ A29.out ?T_).mono ?_); (case T_ => exact tab_ hT_ (by repeat (first | (with_reducible first | exact HB.out | apply below_alloc | apply pw_below_drewN | apply below_drew1 | refine below_set ?_ GE226.out | refine below_set ?_ GE239.out) | exact HB.out))); rintro e w34 ⟨rfl, hb⟩; refine ⟨_, rfl, ?_⟩; have n0_ := Aside0.mk (Kd.S_below (by (with_reducible repeat (first | apply Kd.S_alloc | apply Kd.S_drewN | apply Kd.S_drew)); exact HO_240003.out) hb); have n1_ := Aside0.mk (blk_below (g := gb226) (o := .cells #[.string x227000_1, .int .i64 x227001_1, .int .i64 x227002_1, .slice none 0 0] 26 (0, 0)) (by (with_reducible repeat (first | refine blk_drewN ?_ _ | refine blk_drew ?_ | refine blk_alloc ?_ _)); exact BK226.out) hb); have BKR := Aside0.mk (blk_below (g := gR_) (o := .cells curR_ 9 (0, 0)) (by (with_reducible repeat (first | refine blk_drewN ?_ _ | refine blk_drew ?_ | refine blk_alloc ?_ _)); exact BKR.out) hb); have n2_ := Aside0.mk (blk_below (g := gb239) (o := .cells #[.string (rdOf ByteArray.empty t227 0), .int .i64 t234, .int .i64 t236, u240003] 26 (0, 0)) (by (with_reducible repeat (first | refine blk_drewN ?_ _ | refine blk_drew ?_ | refine blk_alloc ?_ _)); exact BK239.out) hb); have n3_ := Aside0.mk (below_step (by repeat (first | (with_reducible first | exact HB.out | apply below_alloc | apply pw_below_drewN | apply below_drew1 | refine below_set ?_ GE226.out | refine below_set ?_ GE239.out) | exact HB.out)) hb); clear HO_240003; clear BK226; clear BK239; clear HB; have HO_240003 := n0_; have BK226 := n1_; have BK239 := n2_; have HB := n3_; clear n0_ n1_ n2_ n3_; (try clear hb); (try clear hb2); (try clear hk); (try clear hi); have hnb35 := NB239_226.out; have hnc35 := NB226_239.out; have hcz36_0 : w34.cell? ⟨gb239, 0, none⟩ = some (.string (rdOf ByteArray.empty t227 0)) := (blk_cell BK239.out 0).trans rfl; have hcz36_1 : w34.cell? ⟨gb239, 1, none⟩ = some (.int .i64 t234) := (blk_cell BK239.out 1).trans rfl; have hcz36_2 : w34.cell? ⟨gb239, 2, none⟩ = some (.int .i64 t236) := (blk_cell BK239.out 2).trans rfl; have hcz36_3 : w34.cell? ⟨gb239, 3, none⟩ = some (u240003) := (blk_cell BK239.out 3).trans rfl; have hfz36_0 := blk_frozen BK239.out 0; have hfz36_1 := blk_frozen BK239.out 1; have hfz36_2 := blk_frozen BK239.out 2; have hfz36_3 := blk_frozen BK239.out 3) | ((with_reducible refine gate_dst (N := 86) rfl ?_); refine Kd.R_lit (Kd.int .i64) _ 2 ?hg (N := 86) ?hd (xs := ([t249, t251] : List Int)) (inner := [.int .i64 t249, .int .i64 t251]) (ok := fun _ => True) (okp := fun _ => True) ?hr ?hp (fun _ hk => hk) trivial (Below.refl _ _) (Nat.le_refl _) (by simp) ?_; (case hd => rfl); (case hg => rfl); (case hr => first | (go_simp; done) | (go_simp; rfl)); (case hp => exact (Reps.one (show Kd.M (Kd.int .i64) _ _ _ t249 [.int .i64 t249] from rfl) (Reps.one (show Kd.M (Kd.int .i64) _ _ _ t251 [.int .i64 t251] from rfl) (Reps.none _ _)))); intro v254 w37 ho38 hb hg_ hnew_; clear hg_ hnew_; (first | rw [← Ny253.out] at ho38 | (simp only [Int.reduceToNat] at ho38; rw [← Ny253.out] at ho38)); have n0_ := Aside0.mk (Kd.S_elder' (by (with_reducible repeat (first | apply Kd.S_alloc | apply Kd.S_drewN | apply Kd.S_drew)); exact HO_240003.out) (Kd.R_base ho38) hb); have n1_ := Aside0.mk (Kd.R_lower ho38 (below_size (by repeat (first | (with_reducible first | exact HB.out | apply below_alloc | apply pw_below_drewN | apply below_drew1 | refine below_set ?_ GE226.out | refine below_set ?_ GE239.out) | exact HB.out)))); have n2_ := Aside0.mk (blk_below (g := gb226) (o := .cells #[.string x227000_1, .int .i64 x227001_1, .int .i64 x227002_1, .slice none 0 0] 26 (0, 0)) (by (with_reducible repeat (first | refine blk_drewN ?_ _ | refine blk_drew ?_ | refine blk_alloc ?_ _)); exact BK226.out) hb); have BKR := Aside0.mk (blk_below (g := gR_) (o := .cells curR_ 9 (0, 0)) (by (with_reducible repeat (first | refine blk_drewN ?_ _ | refine blk_drew ?_ | refine blk_alloc ?_ _)); exact BKR.out) hb); have n3_ := Aside0.mk (blk_below (g := gb239) (o := .cells #[.string (rdOf ByteArray.empty t227 0), .int .i64 t234, .int .i64 t236, u240003] 26 (0, 0)) (by (with_reducible repeat (first | refine blk_drewN ?_ _ | refine blk_drew ?_ | refine blk_alloc ?_ _)); exact BK239.out) hb); have n4_ := Aside0.mk (below_step (by repeat (first | (with_reducible first | exact HB.out | apply below_alloc | apply pw_below_drewN | apply below_drew1 | refine below_set ?_ GE226.out | refine below_set ?_ GE239.out) | exact HB.out)) hb); clear HO_240003; clear BK226; clear BK239; clear HB; have HO_240003 := n0_; have HO255 := n1_; have BK226 := n2_; have BK239 := n3_; have HB := n4_; clear n0_ n1_ n2_ n3_ n4_; clear hb ho38; obtain ⟨Ao40, co40, eo40⟩ := Kd.R_slice HO255.out; subst eo40) | ((with_reducible refine gate_builtin (b := .append) (xs := #[.tmp 83, .tmp 87]) rfl ?_); at_builtin; refine Kd.S_append (Kd.slice 2 (Kd.int .i64)) (w0 := w) w.heap.size rfl (.tmp 83) (.tmp 87) 24 40 (.slice none 0 0) 24 rfl Tryd.underlying24 info40 rfl (by decide) (by omega) u240003 x240003_1 y253 [.slice Ao40 y253.length co40] (fun _ => True) (fun k_ => some k_ = (.slice Ao40 y253.length co40 : Value).ownBlock) rfl rfl ?aP (fun k_ hk_ => ((Kd.R_mono (ok' := fun k_ => ((fun _ => True)) k_ ∧ some k_ ≠ (u240003 : Value).ownBlock) (Kd.R_apart' (HO255.out) (Kd.S_typed HO_240003.out) (by decide)) (fun k_ hk => ⟨trivial, hk.2⟩))).1 k_ hk_.symm) ?aF ?aO ?aB ?aS ?aL ?_; (case aP => exact Kd.M_row (Kd.R_mono (Kd.R_tight rfl (Kd.R_mono (ok' := fun k_ => ((fun _ => True)) k_ ∧ some k_ ≠ (u240003 : Value).ownBlock) (Kd.R_apart' (HO255.out) (Kd.S_typed HO_240003.out) (by decide)) (fun k_ hk => ⟨trivial, hk.2⟩))) (fun _ h_ => h_))); (case aB => exact (by repeat (first | (with_reducible first | exact HB.out | apply below_alloc | apply pw_below_drewN | apply below_drew1 | refine below_set ?_ GE226.out | refine below_set ?_ GE239.out) | exact HB.out))); (case aF => exact (fun _ _ => trivial)); (case aO => exact (by (with_reducible repeat (first | apply Kd.S_alloc | apply Kd.S_drewN | apply Kd.S_drew)); exact Kd.S_mono HO_240003.out (fun k_ hk => ⟨trivial, fun e_ => hk.2 e_⟩))); (case aS => exact (below_size (by repeat (first | (with_reducible first | exact HB.out | apply below_alloc | apply pw_below_drewN | apply below_drew1 | refine below_set ?_ GE226.out | refine below_set ?_ GE239.out) | exact HB.out)))); (case aL => have := LMc32.out; omega); intro v257 w39 ho hb hg hat; rw [← Ny256.out] at ho; have n0_ := Aside0.mk (blk_grown (g := gb226) (o := .cells #[.string x227000_1, .int .i64 x227001_1, .int .i64 x227002_1, .slice none 0 0] 26 (0, 0)) (by (with_reducible repeat (first | refine blk_drewN ?_ _ | refine blk_drew ?_ | refine blk_alloc ?_ _)); exact BK226.out) hg (Kd.S_ne HO_240003.out BK226.out (by decide))); have BKR := Aside0.mk (blk_grown (g := gR_) (o := .cells curR_ 9 (0, 0)) (by (with_reducible repeat (first | refine blk_drewN ?_ _ | refine blk_drew ?_ | refine blk_alloc ?_ _)); exact BKR.out) hg (Kd.S_ne HO_240003.out BKR.out (by decide))); have n1_ := Aside0.mk (blk_grown (g := gb239) (o := .cells #[.string (rdOf ByteArray.empty t227 0), .int .i64 t234, .int .i64 t236, u240003] 26 (0, 0)) (by (with_reducible repeat (first | refine blk_drewN ?_ _ | refine blk_drew ?_ | refine blk_alloc ?_ _)); exact BK239.out) hg (Kd.S_ne HO_240003.out BK239.out (by decide))); have n2_ := Aside0.mk (hb); have n3_ := Aside0.mk (ho); clear BK226; clear BK239; clear HB; clear HO_240003; clear HO255; have BK226 := n0_; have BK239 := n1_; have HB := n2_; have HO258 := n3_; clear n0_ n1_ n2_ n3_; clear ho hb hg hat; obtain ⟨Ao41, co41, eo41⟩ := Kd.S_slice HO258.out; subst eo41; have hcz42_0 : w39.cell? ⟨gb239, 0, none⟩ = some (.string (rdOf ByteArray.empty t227 0)) := (blk_cell BK239.out 0).trans rfl; have hcz42_1 : w39.cell? ⟨gb239, 1, none⟩ = some (.int .i64 t234) := (blk_cell BK239.out 1).trans rfl; have hcz42_2 : w39.cell? ⟨gb239, 2, none⟩ = some (.int .i64 t236) := (blk_cell BK239.out 2).trans rfl; have hcz42_3 : w39.cell? ⟨gb239, 3, none⟩ = some (u240003) := (blk_cell BK239.out 3).trans rfl; have hfz42_0 := blk_frozen BK239.out 0; have hfz42_1 := blk_frozen BK239.out 1; have hfz42_2 := blk_frozen BK239.out 2; have hfz42_3 := blk_frozen BK239.out 3))
             go_roundg k1
             case measure => have := HK1.out; omega
             case rel => exact ⟨(wrap64 (x55_1 + 1)), (x227000_1), (x227001_1), (x227002_1), (y256), (.slice Ao41 y256.length co41), (by first | rfl | (simp; done) | (simp [*]; done)), H', ⟨by have := HK1.out; omega⟩, ⟨by (with_reducible repeat (first | apply Kd.S_alloc | apply Kd.S_drewN | apply Kd.S_drew)); exact Kd.S_mono (Kd.S_far (p := ⟨gb239, 3, none⟩) (Kd.S_types HO258.out BK239.out (by decide)) (fun _ hk => hk.2) (.slice Ao41 y256.length co41)) (fun _ hk => trivial)⟩, ⟨by (with_reducible repeat (first | refine blk_drewN ?_ _ | refine blk_drew ?_ | refine blk_alloc ?_ _)); refine blk_far ?_ NB226_239.out _; (with_reducible repeat (first | refine blk_drewN ?_ _ | refine blk_drew ?_ | refine blk_alloc ?_ _)); exact BK226.out⟩, ⟨by (with_reducible repeat (first | refine blk_drewN ?_ _ | refine blk_drew ?_ | refine blk_alloc ?_ _)); refine blk_put (cs := #[.string (rdOf ByteArray.empty t227 0), .int .i64 t234, .int .i64 t236, u240003]) ?_ 3 _ rfl; (with_reducible repeat (first | refine blk_drewN ?_ _ | refine blk_drew ?_ | refine blk_alloc ?_ _)); exact BK239.out⟩, ⟨by repeat (first | (with_reducible first | exact HB.out | apply below_alloc | apply pw_below_drewN | apply below_drew1 | refine below_set ?_ GE226.out | refine below_set ?_ GE239.out) | exact HB.out)⟩, ⟨by (with_reducible repeat (first | refine blk_drewN ?_ _ | refine blk_drew ?_ | refine blk_alloc ?_ _)); refine blk_far ?_ NBR.out _; (with_reducible repeat (first | refine blk_drewN ?_ _ | refine blk_drew ?_ | refine blk_alloc ?_ _)); exact BKR.out⟩⟩
            ·rw [if_neg c32] at H
             exact absurd H (by simp)
           ·replace c31 := Bool.eq_false_iff.mpr c31
            subst c31
            have H1 : (some ((⟨#[]⟩ : ByteArray), 0, 0, ([] : List (List Int)), false)) = some (r1, r2, r3, r4, r5) := by rw [if_neg (show ¬ (false = true) by decide)] at H; exact H
            clear H
            have H := H1
            clear H1
            simp only [Option.some.injEq, Prod.mk.injEq] at H
            obtain ⟨rfl, rfl, rfl, rfl, rfl⟩ := H
            have p245 : 0 ≤ (x55_1 : Int) := of_decide_eq_true (by first | (with_reducible assumption) | assumption)
            have q245 : x55_1 < (y240.length : Int) := of_decide_eq_true (by first | (with_reducible assumption) | assumption)
            obtain ⟨ad245, e245, hx245_0⟩ := Kd.at_string HR243.out x55_1 p245 q245
            cases e245
            replace hx245_0 := (impl_ReadTariff.cell BKR0.out BKR.out (by have hk_ := KA23.out; rw [add_block]; split at hk_ <;> (injection hk_ with hk_; rw [hk_]; first | done | rfl | exact add_block _ _))).trans hx245_0
            replace p245 := eq_true p245
            replace q245 := eq_true q245
            go_wp2_with (first | ((with_reducible refine gate_callee (f := 22) rfl ?_); refine goesL_ (some 61) rfl rfl Tryd.func22 (by kernel_rfl) rfl #[.string (rdOf ByteArray.empty y240 x55_1), .string (⟨#[58]⟩ : ByteArray)] rfl (by (try simp only [List.map_toArray, List.map_cons, List.map_nil]); first | done | rfl | (simp only [List.length_drop, List.length_take]; rfl)) ?_; (with_reducible refine (strings_Cut.calls (rdOf ByteArray.empty y240 x55_1) (⟨#[58]⟩ : ByteArray) t246 t247 t248 _ A27.out).mono ?_); rintro e w' ⟨rfl, ⟨nd, rfl⟩⟩; refine ⟨_, rfl, ?_⟩; (try (rw [drewN_self wr]; generalize hq_ : World.drewN wr _ = wr; have n0_ : Aside0 (Kd.S (Kd.slice 2 (Kd.int .i64)) 40 wr w.heap.size (fun _ => True) u240003 x240003_1) := ⟨by rw [← hq_]; exact (by (with_reducible repeat (first | apply Kd.S_alloc | apply Kd.S_drewN | apply Kd.S_drew)); exact HO_240003.out)⟩; have n1_ : Aside0 (wr.heap[gb226]? = some (.cells #[.string x227000_1, .int .i64 x227001_1, .int .i64 x227002_1, .slice none 0 0] 26 (0, 0))) := ⟨by rw [← hq_]; exact (by (with_reducible repeat (first | refine blk_drewN ?_ _ | refine blk_drew ?_ | refine blk_alloc ?_ _)); exact BK226.out)⟩; have n2_ : Aside0 (wr.heap[gb239]? = some (.cells #[.string (rdOf ByteArray.empty t227 0), .int .i64 t234, .int .i64 t236, u240003] 26 (0, 0))) := ⟨by rw [← hq_]; exact (by (with_reducible repeat (first | refine blk_drewN ?_ _ | refine blk_drew ?_ | refine blk_alloc ?_ _)); exact BK239.out)⟩; have n3_ : Aside0 (Below w.heap.size w wr) := ⟨by rw [← hq_]; exact (by repeat (first | (with_reducible first | exact HB.out | apply below_alloc | apply pw_below_drewN | apply below_drew1 | refine below_set ?_ GE226.out | refine below_set ?_ GE239.out) | exact HB.out))⟩; clear HO_240003 BK226 BK239 HB hq_; have HO_240003 := n0_; have BK226 := n1_; have BK239 := n2_; have HB := n3_; clear n0_ n1_ n2_ n3_))) | ((with_reducible refine gate_callee (f := 23) rfl ?_); refine goesL_ (some 67) rfl rfl Tryd.func23 (by kernel_rfl) rfl #[.string t246] rfl (by (try simp only [List.map_toArray, List.map_cons, List.map_nil]); first | done | rfl | (simp only [List.length_drop, List.length_take]; rfl)) ?_; (with_reducible refine (impl_ReadDecimal.calls t246 t249 true _ A28.out ?T_).mono ?_); (case T_ => exact tab_ hT_ (by repeat (first | (with_reducible first | exact HB.out | apply below_alloc | apply pw_below_drewN | apply below_drew1 | refine below_set ?_ GE226.out | refine below_set ?_ GE239.out) | exact HB.out))); rintro e w43 ⟨rfl, hb⟩; refine ⟨_, rfl, ?_⟩; have n0_ := Aside0.mk (Kd.S_below (by (with_reducible repeat (first | apply Kd.S_alloc | apply Kd.S_drewN | apply Kd.S_drew)); exact HO_240003.out) hb); have n1_ := Aside0.mk (blk_below (g := gb226) (o := .cells #[.string x227000_1, .int .i64 x227001_1, .int .i64 x227002_1, .slice none 0 0] 26 (0, 0)) (by (with_reducible repeat (first | refine blk_drewN ?_ _ | refine blk_drew ?_ | refine blk_alloc ?_ _)); exact BK226.out) hb); have n2_ := Aside0.mk (blk_below (g := gb239) (o := .cells #[.string (rdOf ByteArray.empty t227 0), .int .i64 t234, .int .i64 t236, u240003] 26 (0, 0)) (by (with_reducible repeat (first | refine blk_drewN ?_ _ | refine blk_drew ?_ | refine blk_alloc ?_ _)); exact BK239.out) hb); have n3_ := Aside0.mk (below_step (by repeat (first | (with_reducible first | exact HB.out | apply below_alloc | apply pw_below_drewN | apply below_drew1 | refine below_set ?_ GE226.out | refine below_set ?_ GE239.out) | exact HB.out)) hb); clear HO_240003; clear BK226; clear BK239; clear HB; have HO_240003 := n0_; have BK226 := n1_; have BK239 := n2_; have HB := n3_; clear n0_ n1_ n2_ n3_; (try clear hb); (try clear hb2); (try clear hk); (try clear hi)) | ((with_reducible refine gate_callee (f := 23) rfl ?_); refine goesL_ (some 72) rfl rfl Tryd.func23 (by kernel_rfl) rfl #[.string t247] rfl (by (try simp only [List.map_toArray, List.map_cons, List.map_nil]); first | done | rfl | (simp only [List.length_drop, List.length_take]; rfl)) ?_; (with_reducible refine (impl_ReadDecimal.calls t247 t251 false _ A29.out ?T_).mono ?_); (case T_ => exact tab_ hT_ (by repeat (first | (with_reducible first | exact HB.out | apply below_alloc | apply pw_below_drewN | apply below_drew1 | refine below_set ?_ GE226.out | refine below_set ?_ GE239.out) | exact HB.out))); rintro e w44 ⟨rfl, hb⟩; refine ⟨_, rfl, ?_⟩; have n0_ := Aside0.mk (Kd.S_below (by (with_reducible repeat (first | apply Kd.S_alloc | apply Kd.S_drewN | apply Kd.S_drew)); exact HO_240003.out) hb); have n1_ := Aside0.mk (blk_below (g := gb226) (o := .cells #[.string x227000_1, .int .i64 x227001_1, .int .i64 x227002_1, .slice none 0 0] 26 (0, 0)) (by (with_reducible repeat (first | refine blk_drewN ?_ _ | refine blk_drew ?_ | refine blk_alloc ?_ _)); exact BK226.out) hb); have n2_ := Aside0.mk (blk_below (g := gb239) (o := .cells #[.string (rdOf ByteArray.empty t227 0), .int .i64 t234, .int .i64 t236, u240003] 26 (0, 0)) (by (with_reducible repeat (first | refine blk_drewN ?_ _ | refine blk_drew ?_ | refine blk_alloc ?_ _)); exact BK239.out) hb); have n3_ := Aside0.mk (below_step (by repeat (first | (with_reducible first | exact HB.out | apply below_alloc | apply pw_below_drewN | apply below_drew1 | refine below_set ?_ GE226.out | refine below_set ?_ GE239.out) | exact HB.out)) hb); clear HO_240003; clear BK226; clear BK239; clear HB; have HO_240003 := n0_; have BK226 := n1_; have BK239 := n2_; have HB := n3_; clear n0_ n1_ n2_ n3_; (try clear hb); (try clear hb2); (try clear hk); (try clear hi); have hnb45 := NB226_239.out; have hnc45 := NB239_226.out; have hcz46_0 : w44.cell? ⟨gb226, 0, none⟩ = some (.string x227000_1) := (blk_cell BK226.out 0).trans rfl; have hcz46_1 : w44.cell? ⟨gb226, 1, none⟩ = some (.int .i64 x227001_1) := (blk_cell BK226.out 1).trans rfl; have hcz46_2 : w44.cell? ⟨gb226, 2, none⟩ = some (.int .i64 x227002_1) := (blk_cell BK226.out 2).trans rfl; have hcz46_3 : w44.cell? ⟨gb226, 3, none⟩ = some (.slice none 0 0) := (blk_cell BK226.out 3).trans rfl; have hfz46_0 := blk_frozen BK226.out 0; have hfz46_1 := blk_frozen BK226.out 1; have hfz46_2 := blk_frozen BK226.out 2; have hfz46_3 := blk_frozen BK226.out 3))
            refine bodyPost_ret (results_ct rfl _ _ gb226 26 #[.string (⟨#[]⟩ : ByteArray), .int .i64 0, .int .i64 0, .slice none 0 0] (0, 0) _ rfl (by (with_reducible repeat (first | refine blk_drewN ?_ _ | refine blk_drew ?_ | refine blk_alloc ?_ _)); refine blk_put (cs := #[.string (⟨#[]⟩ : ByteArray), .int .i64 0, .int .i64 0, .slice none 0 0]) ?_ 3 _ rfl; (with_reducible repeat (first | refine blk_drewN ?_ _ | refine blk_drew ?_ | refine blk_alloc ?_ _)); refine blk_put (cs := #[.string (⟨#[]⟩ : ByteArray), .int .i64 0, .int .i64 x227002_1, .slice none 0 0]) ?_ 2 _ rfl; (with_reducible repeat (first | refine blk_drewN ?_ _ | refine blk_drew ?_ | refine blk_alloc ?_ _)); refine blk_put (cs := #[.string (⟨#[]⟩ : ByteArray), .int .i64 x227001_1, .int .i64 x227002_1, .slice none 0 0]) ?_ 1 _ rfl; (with_reducible repeat (first | refine blk_drewN ?_ _ | refine blk_drew ?_ | refine blk_alloc ?_ _)); refine blk_put (cs := #[.string x227000_1, .int .i64 x227001_1, .int .i64 x227002_1, .slice none 0 0]) ?_ 0 _ rfl; (with_reducible repeat (first | refine blk_drewN ?_ _ | refine blk_drew ?_ | refine blk_alloc ?_ _)); exact BK226.out) Tryd.underlying26 rfl (by kernel_rfl)) rfl ?_
            exact ⟨_, by first | rfl | (simp [errW_none, errW_some] <;> rfl) | (simp [*, errW_none, errW_some] <;> rfl), by first | exact Kd.S_nil _ _ _ _ _ | exact Kd.N_nil _ _ _ _ _ | exact Kd.V_nil _ _ _ _ _ | exact Kd.Q_nil _ _ _ _ _ | exact Kd.R_nil _ _ _ _ _, by repeat (first | (with_reducible first | exact HB.out | apply below_alloc | apply pw_below_drewN | apply below_drew1 | refine below_set ?_ GE226.out | refine below_set ?_ GE239.out) | exact HB.out)⟩
          ·replace c30 := Bool.eq_false_iff.mpr c30
           subst c30
           have H1 : (some ((⟨#[]⟩ : ByteArray), 0, 0, ([] : List (List Int)), false)) = some (r1, r2, r3, r4, r5) := by rw [if_neg (show ¬ (false = true) by decide)] at H; exact H
           clear H
           have H := H1
           clear H1
           simp only [Option.some.injEq, Prod.mk.injEq] at H
           obtain ⟨rfl, rfl, rfl, rfl, rfl⟩ := H
           have p245 : 0 ≤ (x55_1 : Int) := of_decide_eq_true (by first | (with_reducible assumption) | assumption)
           have q245 : x55_1 < (y240.length : Int) := of_decide_eq_true (by first | (with_reducible assumption) | assumption)
           obtain ⟨ad245, e245, hx245_0⟩ := Kd.at_string HR243.out x55_1 p245 q245
           cases e245
           replace hx245_0 := (impl_ReadTariff.cell BKR0.out BKR.out (by have hk_ := KA23.out; rw [add_block]; split at hk_ <;> (injection hk_ with hk_; rw [hk_]; first | done | rfl | exact add_block _ _))).trans hx245_0
           replace p245 := eq_true p245
           replace q245 := eq_true q245
           go_wp2_with (first | ((with_reducible refine gate_callee (f := 22) rfl ?_); refine goesL_ (some 61) rfl rfl Tryd.func22 (by kernel_rfl) rfl #[.string (rdOf ByteArray.empty y240 x55_1), .string (⟨#[58]⟩ : ByteArray)] rfl (by (try simp only [List.map_toArray, List.map_cons, List.map_nil]); first | done | rfl | (simp only [List.length_drop, List.length_take]; rfl)) ?_; (with_reducible refine (strings_Cut.calls (rdOf ByteArray.empty y240 x55_1) (⟨#[58]⟩ : ByteArray) t246 t247 t248 _ A27.out).mono ?_); rintro e w' ⟨rfl, ⟨nd, rfl⟩⟩; refine ⟨_, rfl, ?_⟩; (try (rw [drewN_self wr]; generalize hq_ : World.drewN wr _ = wr; have n0_ : Aside0 (Kd.S (Kd.slice 2 (Kd.int .i64)) 40 wr w.heap.size (fun _ => True) u240003 x240003_1) := ⟨by rw [← hq_]; exact (by (with_reducible repeat (first | apply Kd.S_alloc | apply Kd.S_drewN | apply Kd.S_drew)); exact HO_240003.out)⟩; have n1_ : Aside0 (wr.heap[gb226]? = some (.cells #[.string x227000_1, .int .i64 x227001_1, .int .i64 x227002_1, .slice none 0 0] 26 (0, 0))) := ⟨by rw [← hq_]; exact (by (with_reducible repeat (first | refine blk_drewN ?_ _ | refine blk_drew ?_ | refine blk_alloc ?_ _)); exact BK226.out)⟩; have n2_ : Aside0 (wr.heap[gb239]? = some (.cells #[.string (rdOf ByteArray.empty t227 0), .int .i64 t234, .int .i64 t236, u240003] 26 (0, 0))) := ⟨by rw [← hq_]; exact (by (with_reducible repeat (first | refine blk_drewN ?_ _ | refine blk_drew ?_ | refine blk_alloc ?_ _)); exact BK239.out)⟩; have n3_ : Aside0 (Below w.heap.size w wr) := ⟨by rw [← hq_]; exact (by repeat (first | (with_reducible first | exact HB.out | apply below_alloc | apply pw_below_drewN | apply below_drew1 | refine below_set ?_ GE226.out | refine below_set ?_ GE239.out) | exact HB.out))⟩; clear HO_240003 BK226 BK239 HB hq_; have HO_240003 := n0_; have BK226 := n1_; have BK239 := n2_; have HB := n3_; clear n0_ n1_ n2_ n3_))) | ((with_reducible refine gate_callee (f := 23) rfl ?_); refine goesL_ (some 67) rfl rfl Tryd.func23 (by kernel_rfl) rfl #[.string t246] rfl (by (try simp only [List.map_toArray, List.map_cons, List.map_nil]); first | done | rfl | (simp only [List.length_drop, List.length_take]; rfl)) ?_; (with_reducible refine (impl_ReadDecimal.calls t246 t249 false _ A28.out ?T_).mono ?_); (case T_ => exact tab_ hT_ (by repeat (first | (with_reducible first | exact HB.out | apply below_alloc | apply pw_below_drewN | apply below_drew1 | refine below_set ?_ GE226.out | refine below_set ?_ GE239.out) | exact HB.out))); rintro e w47 ⟨rfl, hb⟩; refine ⟨_, rfl, ?_⟩; have n0_ := Aside0.mk (Kd.S_below (by (with_reducible repeat (first | apply Kd.S_alloc | apply Kd.S_drewN | apply Kd.S_drew)); exact HO_240003.out) hb); have n1_ := Aside0.mk (blk_below (g := gb226) (o := .cells #[.string x227000_1, .int .i64 x227001_1, .int .i64 x227002_1, .slice none 0 0] 26 (0, 0)) (by (with_reducible repeat (first | refine blk_drewN ?_ _ | refine blk_drew ?_ | refine blk_alloc ?_ _)); exact BK226.out) hb); have n2_ := Aside0.mk (blk_below (g := gb239) (o := .cells #[.string (rdOf ByteArray.empty t227 0), .int .i64 t234, .int .i64 t236, u240003] 26 (0, 0)) (by (with_reducible repeat (first | refine blk_drewN ?_ _ | refine blk_drew ?_ | refine blk_alloc ?_ _)); exact BK239.out) hb); have n3_ := Aside0.mk (below_step (by repeat (first | (with_reducible first | exact HB.out | apply below_alloc | apply pw_below_drewN | apply below_drew1 | refine below_set ?_ GE226.out | refine below_set ?_ GE239.out) | exact HB.out)) hb); clear HO_240003; clear BK226; clear BK239; clear HB; have HO_240003 := n0_; have BK226 := n1_; have BK239 := n2_; have HB := n3_; clear n0_ n1_ n2_ n3_; (try clear hb); (try clear hb2); (try clear hk); (try clear hi)) | ((with_reducible refine gate_callee (f := 23) rfl ?_); refine goesL_ (some 72) rfl rfl Tryd.func23 (by kernel_rfl) rfl #[.string t247] rfl (by (try simp only [List.map_toArray, List.map_cons, List.map_nil]); first | done | rfl | (simp only [List.length_drop, List.length_take]; rfl)) ?_; (with_reducible refine (impl_ReadDecimal.calls t247 t251 t252 _ A29.out ?T_).mono ?_); (case T_ => exact tab_ hT_ (by repeat (first | (with_reducible first | exact HB.out | apply below_alloc | apply pw_below_drewN | apply below_drew1 | refine below_set ?_ GE226.out | refine below_set ?_ GE239.out) | exact HB.out))); rintro e w48 ⟨rfl, hb⟩; refine ⟨_, rfl, ?_⟩; have n0_ := Aside0.mk (Kd.S_below (by (with_reducible repeat (first | apply Kd.S_alloc | apply Kd.S_drewN | apply Kd.S_drew)); exact HO_240003.out) hb); have n1_ := Aside0.mk (blk_below (g := gb226) (o := .cells #[.string x227000_1, .int .i64 x227001_1, .int .i64 x227002_1, .slice none 0 0] 26 (0, 0)) (by (with_reducible repeat (first | refine blk_drewN ?_ _ | refine blk_drew ?_ | refine blk_alloc ?_ _)); exact BK226.out) hb); have n2_ := Aside0.mk (blk_below (g := gb239) (o := .cells #[.string (rdOf ByteArray.empty t227 0), .int .i64 t234, .int .i64 t236, u240003] 26 (0, 0)) (by (with_reducible repeat (first | refine blk_drewN ?_ _ | refine blk_drew ?_ | refine blk_alloc ?_ _)); exact BK239.out) hb); have n3_ := Aside0.mk (below_step (by repeat (first | (with_reducible first | exact HB.out | apply below_alloc | apply pw_below_drewN | apply below_drew1 | refine below_set ?_ GE226.out | refine below_set ?_ GE239.out) | exact HB.out)) hb); clear HO_240003; clear BK226; clear BK239; clear HB; have HO_240003 := n0_; have BK226 := n1_; have BK239 := n2_; have HB := n3_; clear n0_ n1_ n2_ n3_; (try clear hb); (try clear hb2); (try clear hk); (try clear hi); have hnb49 := NB226_239.out; have hnc49 := NB239_226.out; have hcz50_0 : w48.cell? ⟨gb226, 0, none⟩ = some (.string x227000_1) := (blk_cell BK226.out 0).trans rfl; have hcz50_1 : w48.cell? ⟨gb226, 1, none⟩ = some (.int .i64 x227001_1) := (blk_cell BK226.out 1).trans rfl; have hcz50_2 : w48.cell? ⟨gb226, 2, none⟩ = some (.int .i64 x227002_1) := (blk_cell BK226.out 2).trans rfl; have hcz50_3 : w48.cell? ⟨gb226, 3, none⟩ = some (.slice none 0 0) := (blk_cell BK226.out 3).trans rfl; have hfz50_0 := blk_frozen BK226.out 0; have hfz50_1 := blk_frozen BK226.out 1; have hfz50_2 := blk_frozen BK226.out 2; have hfz50_3 := blk_frozen BK226.out 3))
           refine bodyPost_ret (results_ct rfl _ _ gb226 26 #[.string (⟨#[]⟩ : ByteArray), .int .i64 0, .int .i64 0, .slice none 0 0] (0, 0) _ rfl (by (with_reducible repeat (first | refine blk_drewN ?_ _ | refine blk_drew ?_ | refine blk_alloc ?_ _)); refine blk_put (cs := #[.string (⟨#[]⟩ : ByteArray), .int .i64 0, .int .i64 0, .slice none 0 0]) ?_ 3 _ rfl; (with_reducible repeat (first | refine blk_drewN ?_ _ | refine blk_drew ?_ | refine blk_alloc ?_ _)); refine blk_put (cs := #[.string (⟨#[]⟩ : ByteArray), .int .i64 0, .int .i64 x227002_1, .slice none 0 0]) ?_ 2 _ rfl; (with_reducible repeat (first | refine blk_drewN ?_ _ | refine blk_drew ?_ | refine blk_alloc ?_ _)); refine blk_put (cs := #[.string (⟨#[]⟩ : ByteArray), .int .i64 x227001_1, .int .i64 x227002_1, .slice none 0 0]) ?_ 1 _ rfl; (with_reducible repeat (first | refine blk_drewN ?_ _ | refine blk_drew ?_ | refine blk_alloc ?_ _)); refine blk_put (cs := #[.string x227000_1, .int .i64 x227001_1, .int .i64 x227002_1, .slice none 0 0]) ?_ 0 _ rfl; (with_reducible repeat (first | refine blk_drewN ?_ _ | refine blk_drew ?_ | refine blk_alloc ?_ _)); exact BK226.out) Tryd.underlying26 rfl (by kernel_rfl)) rfl ?_
           exact ⟨_, by first | rfl | (simp [errW_none, errW_some] <;> rfl) | (simp [*, errW_none, errW_some] <;> rfl), by first | exact Kd.S_nil _ _ _ _ _ | exact Kd.N_nil _ _ _ _ _ | exact Kd.V_nil _ _ _ _ _ | exact Kd.Q_nil _ _ _ _ _ | exact Kd.R_nil _ _ _ _ _, by repeat (first | (with_reducible first | exact HB.out | apply below_alloc | apply pw_below_drewN | apply below_drew1 | refine below_set ?_ GE226.out | refine below_set ?_ GE239.out) | exact HB.out)⟩
         ·rw [if_neg c26] at H
          exact absurd H (by simp)
        ·rw [if_neg c25] at H
         exact absurd H (by simp)
       ·rw [if_neg c24] at H
        have c24b0 : decide (x55_1 < (y240.length : Int)) = false := decide_eq_false c24
        clear c24
        by_cases c51 : t235 = true
        ·subst c51
         have H1 : (if t237 = true then ((impl_TariffText.f k1 (rdOf ByteArray.empty t227 0) t234 t236 x240003_1).bind fun t244 => (if t244.toList = a0.toList then (some ((rdOf ByteArray.empty t227 0), t234, t236, x240003_1, true)) else (some ((⟨#[]⟩ : ByteArray), 0, 0, ([] : List (List Int)), false)))) else (some ((⟨#[]⟩ : ByteArray), 0, 0, ([] : List (List Int)), false))) = some (r1, r2, r3, r4, r5) := by rw [if_pos rfl] at H; exact H
         clear H
         have H := H1
         clear H1
         by_cases c52 : t237 = true
         ·subst c52
          have H1 : ((impl_TariffText.f k1 (rdOf ByteArray.empty t227 0) t234 t236 x240003_1).bind fun t244 => (if t244.toList = a0.toList then (some ((rdOf ByteArray.empty t227 0), t234, t236, x240003_1, true)) else (some ((⟨#[]⟩ : ByteArray), 0, 0, ([] : List (List Int)), false)))) = some (r1, r2, r3, r4, r5) := by rw [if_pos rfl] at H; exact H
          clear H
          have H := H1
          clear H1
          replace H := Option.bind_eq_some_iff.mp H
          obtain ⟨t244, A530, H⟩ := H
          replace H : (if t244.toList = a0.toList then (some ((rdOf ByteArray.empty t227 0), t234, t236, x240003_1, true)) else (some ((⟨#[]⟩ : ByteArray), 0, 0, ([] : List (List Int)), false))) = some (r1, r2, r3, r4, r5) := H
          have A53 := Aside0.mk A530
          clear A530
          by_cases c54 : t244.toList = a0.toList
          ·rw [if_pos c54] at H
           have c54b0 : (t244.toList == a0.toList) = true := beq_iff_eq.mpr c54
           have c54b1 : (t244.toList != a0.toList) = false := bne_eq_false_iff_eq.mpr c54
           clear c54
           simp only [Option.some.injEq, Prod.mk.injEq] at H
           obtain ⟨rfl, rfl, rfl, rfl, rfl⟩ := H
           have hnb55 := NB239_226.out
           have hnc55 := NB226_239.out
           have hcz56_0 : wr.cell? ⟨gb239, 0, none⟩ = some (.string (rdOf ByteArray.empty t227 0)) := (blk_cell BK239.out 0).trans rfl
           have hcz56_1 : wr.cell? ⟨gb239, 1, none⟩ = some (.int .i64 t234) := (blk_cell BK239.out 1).trans rfl
           have hcz56_2 : wr.cell? ⟨gb239, 2, none⟩ = some (.int .i64 t236) := (blk_cell BK239.out 2).trans rfl
           have hcz56_3 : wr.cell? ⟨gb239, 3, none⟩ = some (u240003) := (blk_cell BK239.out 3).trans rfl
           have hfz56_0 := blk_frozen BK239.out 0
           have hfz56_1 := blk_frozen BK239.out 1
           have hfz56_2 := blk_frozen BK239.out 2
           have hfz56_3 := blk_frozen BK239.out 3
           obtain ⟨Ao57, co57, eo57⟩ := Kd.S_slice HO_240003.out
           subst eo57
           go_wp2_with (first | (go_at_call 12; (with_reducible refine (impl_TariffText.calls k1 (rdOf ByteArray.empty t227 0) t234 t236 _ _ x240003_1 t244 _ ?side1 ?side2 A53.out ?T_).mono ?_); (case T_ => exact tab_ hT_ (by repeat (first | (with_reducible first | exact HB.out | apply below_alloc | apply pw_below_drewN | apply below_drew1 | refine below_set ?_ GE226.out | refine below_set ?_ GE239.out) | exact HB.out))); (case side1 => repeat (first | exact (Kd.S_reads' HO_240003.out).2.2 | (with_reducible refine Kd.C_alloc ?_ _) | (with_reducible refine Kd.C_drewN ?_ _) | (with_reducible refine Kd.C_drew ?_))); (case side2 => exact (Kd.S_reads' HO_240003.out).2.1); rintro e w58 ⟨rfl, hb⟩; have n0_ := Aside0.mk (Kd.S_below (by (with_reducible repeat (first | apply Kd.S_alloc | apply Kd.S_drewN | apply Kd.S_drew)); exact HO_240003.out) hb); have n1_ := Aside0.mk (blk_below (g := gb226) (o := .cells #[.string x227000_1, .int .i64 x227001_1, .int .i64 x227002_1, .slice none 0 0] 26 (0, 0)) (by (with_reducible repeat (first | refine blk_drewN ?_ _ | refine blk_drew ?_ | refine blk_alloc ?_ _)); exact BK226.out) hb); have n2_ := Aside0.mk (blk_below (g := gb239) (o := .cells #[.string (rdOf ByteArray.empty t227 0), .int .i64 t234, .int .i64 t236, .slice Ao57 x240003_1.length co57] 26 (0, 0)) (by (with_reducible repeat (first | refine blk_drewN ?_ _ | refine blk_drew ?_ | refine blk_alloc ?_ _)); exact BK239.out) hb); have n3_ := Aside0.mk (below_step (by repeat (first | (with_reducible first | exact HB.out | apply below_alloc | apply pw_below_drewN | apply below_drew1 | refine below_set ?_ GE226.out | refine below_set ?_ GE239.out) | exact HB.out)) hb); clear HO_240003; clear BK226; clear BK239; clear HB; have HO_240003 := n0_; have BK226 := n1_; have BK239 := n2_; have HB := n3_; clear n0_ n1_ n2_ n3_; (try clear hb); (try clear hb2); (try clear hk); (try clear hi); have hcz59_0 : w58.cell? ⟨gb239, 0, none⟩ = some (.string (rdOf ByteArray.empty t227 0)) := (blk_cell BK239.out 0).trans rfl; have hcz59_1 : w58.cell? ⟨gb239, 1, none⟩ = some (.int .i64 t234) := (blk_cell BK239.out 1).trans rfl; have hcz59_2 : w58.cell? ⟨gb239, 2, none⟩ = some (.int .i64 t236) := (blk_cell BK239.out 2).trans rfl; have hcz59_3 : w58.cell? ⟨gb239, 3, none⟩ = some (.slice Ao57 x240003_1.length co57) := (blk_cell BK239.out 3).trans rfl; have hfz59_0 := blk_frozen BK239.out 0; have hfz59_1 := blk_frozen BK239.out 1; have hfz59_2 := blk_frozen BK239.out 2; have hfz59_3 := blk_frozen BK239.out 3; have hcz60_0 : w58.cell? ⟨gb226, 0, none⟩ = some (.string x227000_1) := (blk_cell BK226.out 0).trans rfl; have hcz60_1 : w58.cell? ⟨gb226, 1, none⟩ = some (.int .i64 x227001_1) := (blk_cell BK226.out 1).trans rfl; have hcz60_2 : w58.cell? ⟨gb226, 2, none⟩ = some (.int .i64 x227002_1) := (blk_cell BK226.out 2).trans rfl; have hcz60_3 : w58.cell? ⟨gb226, 3, none⟩ = some (.slice none 0 0) := (blk_cell BK226.out 3).trans rfl; have hfz60_0 := blk_frozen BK226.out 0; have hfz60_1 := blk_frozen BK226.out 1; have hfz60_2 := blk_frozen BK226.out 2; have hfz60_3 := blk_frozen BK226.out 3))
           refine bodyPost_ret (results_ct rfl _ _ gb226 26 #[.string (rdOf ByteArray.empty t227 0), .int .i64 t234, .int .i64 t236, .slice Ao57 x240003_1.length co57] (0, 0) _ rfl (by (with_reducible repeat (first | refine blk_drewN ?_ _ | refine blk_drew ?_ | refine blk_alloc ?_ _)); refine blk_put (cs := #[.string (rdOf ByteArray.empty t227 0), .int .i64 t234, .int .i64 t236, .slice none 0 0]) ?_ 3 _ rfl; (with_reducible repeat (first | refine blk_drewN ?_ _ | refine blk_drew ?_ | refine blk_alloc ?_ _)); refine blk_put (cs := #[.string (rdOf ByteArray.empty t227 0), .int .i64 t234, .int .i64 x227002_1, .slice none 0 0]) ?_ 2 _ rfl; (with_reducible repeat (first | refine blk_drewN ?_ _ | refine blk_drew ?_ | refine blk_alloc ?_ _)); refine blk_put (cs := #[.string (rdOf ByteArray.empty t227 0), .int .i64 x227001_1, .int .i64 x227002_1, .slice none 0 0]) ?_ 1 _ rfl; (with_reducible repeat (first | refine blk_drewN ?_ _ | refine blk_drew ?_ | refine blk_alloc ?_ _)); refine blk_put (cs := #[.string x227000_1, .int .i64 x227001_1, .int .i64 x227002_1, .slice none 0 0]) ?_ 0 _ rfl; (with_reducible repeat (first | refine blk_drewN ?_ _ | refine blk_drew ?_ | refine blk_alloc ?_ _)); exact BK226.out) Tryd.underlying26 rfl (by kernel_rfl)) rfl ?_
           exact ⟨_, by first | rfl | (simp [errW_none, errW_some] <;> rfl) | (simp [*, errW_none, errW_some] <;> rfl), by (with_reducible repeat (first | apply Kd.S_alloc | apply Kd.S_drewN | apply Kd.S_drew)); exact Kd.S_mono (Kd.S_far (p := ⟨gb226, 3, none⟩) (Kd.S_far (p := ⟨gb226, 2, none⟩) (Kd.S_far (p := ⟨gb226, 1, none⟩) (Kd.S_far (p := ⟨gb226, 0, none⟩) (Kd.S_types HO_240003.out BK226.out (by decide)) (fun _ hk => hk.2) (.string (rdOf ByteArray.empty t227 0))) (fun _ hk => hk.2) (.int .i64 t234)) (fun _ hk => hk.2) (.int .i64 t236)) (fun _ hk => hk.2) (.slice Ao57 x240003_1.length co57)) (fun _ hk => trivial), by repeat (first | (with_reducible first | exact HB.out | apply below_alloc | apply pw_below_drewN | apply below_drew1 | refine below_set ?_ GE226.out | refine below_set ?_ GE239.out) | exact HB.out)⟩
          ·rw [if_neg c54] at H
           have c54b0 : (t244.toList == a0.toList) = false := beq_eq_false_iff_ne.mpr c54
           have c54b1 : (t244.toList != a0.toList) = true := bne_iff_ne.mpr c54
           simp only [Option.some.injEq, Prod.mk.injEq] at H
           obtain ⟨rfl, rfl, rfl, rfl, rfl⟩ := H
           have hnb61 := NB239_226.out
           have hnc61 := NB226_239.out
           have hcz62_0 : wr.cell? ⟨gb239, 0, none⟩ = some (.string (rdOf ByteArray.empty t227 0)) := (blk_cell BK239.out 0).trans rfl
           have hcz62_1 : wr.cell? ⟨gb239, 1, none⟩ = some (.int .i64 t234) := (blk_cell BK239.out 1).trans rfl
           have hcz62_2 : wr.cell? ⟨gb239, 2, none⟩ = some (.int .i64 t236) := (blk_cell BK239.out 2).trans rfl
           have hcz62_3 : wr.cell? ⟨gb239, 3, none⟩ = some (u240003) := (blk_cell BK239.out 3).trans rfl
           have hfz62_0 := blk_frozen BK239.out 0
           have hfz62_1 := blk_frozen BK239.out 1
           have hfz62_2 := blk_frozen BK239.out 2
           have hfz62_3 := blk_frozen BK239.out 3
           obtain ⟨Ao63, co63, eo63⟩ := Kd.S_slice HO_240003.out
           subst eo63
           go_wp2_with (first | (go_at_call 12; (with_reducible refine (impl_TariffText.calls k1 (rdOf ByteArray.empty t227 0) t234 t236 _ _ x240003_1 t244 _ ?side1 ?side2 A53.out ?T_).mono ?_); (case T_ => exact tab_ hT_ (by repeat (first | (with_reducible first | exact HB.out | apply below_alloc | apply pw_below_drewN | apply below_drew1 | refine below_set ?_ GE226.out | refine below_set ?_ GE239.out) | exact HB.out))); (case side1 => repeat (first | exact (Kd.S_reads' HO_240003.out).2.2 | (with_reducible refine Kd.C_alloc ?_ _) | (with_reducible refine Kd.C_drewN ?_ _) | (with_reducible refine Kd.C_drew ?_))); (case side2 => exact (Kd.S_reads' HO_240003.out).2.1); rintro e w64 ⟨rfl, hb⟩; have n0_ := Aside0.mk (Kd.S_below (by (with_reducible repeat (first | apply Kd.S_alloc | apply Kd.S_drewN | apply Kd.S_drew)); exact HO_240003.out) hb); have n1_ := Aside0.mk (blk_below (g := gb226) (o := .cells #[.string x227000_1, .int .i64 x227001_1, .int .i64 x227002_1, .slice none 0 0] 26 (0, 0)) (by (with_reducible repeat (first | refine blk_drewN ?_ _ | refine blk_drew ?_ | refine blk_alloc ?_ _)); exact BK226.out) hb); have n2_ := Aside0.mk (blk_below (g := gb239) (o := .cells #[.string (rdOf ByteArray.empty t227 0), .int .i64 t234, .int .i64 t236, .slice Ao63 x240003_1.length co63] 26 (0, 0)) (by (with_reducible repeat (first | refine blk_drewN ?_ _ | refine blk_drew ?_ | refine blk_alloc ?_ _)); exact BK239.out) hb); have n3_ := Aside0.mk (below_step (by repeat (first | (with_reducible first | exact HB.out | apply below_alloc | apply pw_below_drewN | apply below_drew1 | refine below_set ?_ GE226.out | refine below_set ?_ GE239.out) | exact HB.out)) hb); clear HO_240003; clear BK226; clear BK239; clear HB; have HO_240003 := n0_; have BK226 := n1_; have BK239 := n2_; have HB := n3_; clear n0_ n1_ n2_ n3_; (try clear hb); (try clear hb2); (try clear hk); (try clear hi); have hcz65_0 : w64.cell? ⟨gb226, 0, none⟩ = some (.string x227000_1) := (blk_cell BK226.out 0).trans rfl; have hcz65_1 : w64.cell? ⟨gb226, 1, none⟩ = some (.int .i64 x227001_1) := (blk_cell BK226.out 1).trans rfl; have hcz65_2 : w64.cell? ⟨gb226, 2, none⟩ = some (.int .i64 x227002_1) := (blk_cell BK226.out 2).trans rfl; have hcz65_3 : w64.cell? ⟨gb226, 3, none⟩ = some (.slice none 0 0) := (blk_cell BK226.out 3).trans rfl; have hfz65_0 := blk_frozen BK226.out 0; have hfz65_1 := blk_frozen BK226.out 1; have hfz65_2 := blk_frozen BK226.out 2; have hfz65_3 := blk_frozen BK226.out 3))
           refine bodyPost_ret (results_ct rfl _ _ gb226 26 #[.string (⟨#[]⟩ : ByteArray), .int .i64 0, .int .i64 0, .slice none 0 0] (0, 0) _ rfl (by (with_reducible repeat (first | refine blk_drewN ?_ _ | refine blk_drew ?_ | refine blk_alloc ?_ _)); refine blk_put (cs := #[.string (⟨#[]⟩ : ByteArray), .int .i64 0, .int .i64 0, .slice none 0 0]) ?_ 3 _ rfl; (with_reducible repeat (first | refine blk_drewN ?_ _ | refine blk_drew ?_ | refine blk_alloc ?_ _)); refine blk_put (cs := #[.string (⟨#[]⟩ : ByteArray), .int .i64 0, .int .i64 x227002_1, .slice none 0 0]) ?_ 2 _ rfl; (with_reducible repeat (first | refine blk_drewN ?_ _ | refine blk_drew ?_ | refine blk_alloc ?_ _)); refine blk_put (cs := #[.string (⟨#[]⟩ : ByteArray), .int .i64 x227001_1, .int .i64 x227002_1, .slice none 0 0]) ?_ 1 _ rfl; (with_reducible repeat (first | refine blk_drewN ?_ _ | refine blk_drew ?_ | refine blk_alloc ?_ _)); refine blk_put (cs := #[.string x227000_1, .int .i64 x227001_1, .int .i64 x227002_1, .slice none 0 0]) ?_ 0 _ rfl; (with_reducible repeat (first | refine blk_drewN ?_ _ | refine blk_drew ?_ | refine blk_alloc ?_ _)); exact BK226.out) Tryd.underlying26 rfl (by kernel_rfl)) rfl ?_
           exact ⟨_, by first | rfl | (simp [errW_none, errW_some] <;> rfl) | (simp [*, errW_none, errW_some] <;> rfl), by first | exact Kd.S_nil _ _ _ _ _ | exact Kd.N_nil _ _ _ _ _ | exact Kd.V_nil _ _ _ _ _ | exact Kd.Q_nil _ _ _ _ _ | exact Kd.R_nil _ _ _ _ _, by repeat (first | (with_reducible first | exact HB.out | apply below_alloc | apply pw_below_drewN | apply below_drew1 | refine below_set ?_ GE226.out | refine below_set ?_ GE239.out) | exact HB.out)⟩
         ·replace c52 := Bool.eq_false_iff.mpr c52
          subst c52
          have H1 : (some ((⟨#[]⟩ : ByteArray), 0, 0, ([] : List (List Int)), false)) = some (r1, r2, r3, r4, r5) := by rw [if_neg (show ¬ (false = true) by decide)] at H; exact H
          clear H
          have H := H1
          clear H1
          simp only [Option.some.injEq, Prod.mk.injEq] at H
          obtain ⟨rfl, rfl, rfl, rfl, rfl⟩ := H
          have hnb66 := NB226_239.out
          have hnc66 := NB239_226.out
          have hcz67_0 : wr.cell? ⟨gb226, 0, none⟩ = some (.string x227000_1) := (blk_cell BK226.out 0).trans rfl
          have hcz67_1 : wr.cell? ⟨gb226, 1, none⟩ = some (.int .i64 x227001_1) := (blk_cell BK226.out 1).trans rfl
          have hcz67_2 : wr.cell? ⟨gb226, 2, none⟩ = some (.int .i64 x227002_1) := (blk_cell BK226.out 2).trans rfl
          have hcz67_3 : wr.cell? ⟨gb226, 3, none⟩ = some (.slice none 0 0) := (blk_cell BK226.out 3).trans rfl
          have hfz67_0 := blk_frozen BK226.out 0
          have hfz67_1 := blk_frozen BK226.out 1
          have hfz67_2 := blk_frozen BK226.out 2
          have hfz67_3 := blk_frozen BK226.out 3
          go_wp2
          refine bodyPost_ret (results_ct rfl _ _ gb226 26 #[.string (⟨#[]⟩ : ByteArray), .int .i64 0, .int .i64 0, .slice none 0 0] (0, 0) _ rfl (by (with_reducible repeat (first | refine blk_drewN ?_ _ | refine blk_drew ?_ | refine blk_alloc ?_ _)); refine blk_put (cs := #[.string (⟨#[]⟩ : ByteArray), .int .i64 0, .int .i64 0, .slice none 0 0]) ?_ 3 _ rfl; (with_reducible repeat (first | refine blk_drewN ?_ _ | refine blk_drew ?_ | refine blk_alloc ?_ _)); refine blk_put (cs := #[.string (⟨#[]⟩ : ByteArray), .int .i64 0, .int .i64 x227002_1, .slice none 0 0]) ?_ 2 _ rfl; (with_reducible repeat (first | refine blk_drewN ?_ _ | refine blk_drew ?_ | refine blk_alloc ?_ _)); refine blk_put (cs := #[.string (⟨#[]⟩ : ByteArray), .int .i64 x227001_1, .int .i64 x227002_1, .slice none 0 0]) ?_ 1 _ rfl; (with_reducible repeat (first | refine blk_drewN ?_ _ | refine blk_drew ?_ | refine blk_alloc ?_ _)); refine blk_put (cs := #[.string x227000_1, .int .i64 x227001_1, .int .i64 x227002_1, .slice none 0 0]) ?_ 0 _ rfl; (with_reducible repeat (first | refine blk_drewN ?_ _ | refine blk_drew ?_ | refine blk_alloc ?_ _)); exact BK226.out) Tryd.underlying26 rfl (by kernel_rfl)) rfl ?_
          exact ⟨_, by first | rfl | (simp [errW_none, errW_some] <;> rfl) | (simp [*, errW_none, errW_some] <;> rfl), by first | exact Kd.S_nil _ _ _ _ _ | exact Kd.N_nil _ _ _ _ _ | exact Kd.V_nil _ _ _ _ _ | exact Kd.Q_nil _ _ _ _ _ | exact Kd.R_nil _ _ _ _ _, by repeat (first | (with_reducible first | exact HB.out | apply below_alloc | apply pw_below_drewN | apply below_drew1 | refine below_set ?_ GE226.out | refine below_set ?_ GE239.out) | exact HB.out)⟩
        ·replace c51 := Bool.eq_false_iff.mpr c51
         subst c51
         have H1 : (some ((⟨#[]⟩ : ByteArray), 0, 0, ([] : List (List Int)), false)) = some (r1, r2, r3, r4, r5) := by rw [if_neg (show ¬ (false = true) by decide)] at H; exact H
         clear H
         have H := H1
         clear H1
         simp only [Option.some.injEq, Prod.mk.injEq] at H
         obtain ⟨rfl, rfl, rfl, rfl, rfl⟩ := H
         have hnb68 := NB226_239.out
         have hnc68 := NB239_226.out
         have hcz69_0 : wr.cell? ⟨gb226, 0, none⟩ = some (.string x227000_1) := (blk_cell BK226.out 0).trans rfl
         have hcz69_1 : wr.cell? ⟨gb226, 1, none⟩ = some (.int .i64 x227001_1) := (blk_cell BK226.out 1).trans rfl
         have hcz69_2 : wr.cell? ⟨gb226, 2, none⟩ = some (.int .i64 x227002_1) := (blk_cell BK226.out 2).trans rfl
         have hcz69_3 : wr.cell? ⟨gb226, 3, none⟩ = some (.slice none 0 0) := (blk_cell BK226.out 3).trans rfl
         have hfz69_0 := blk_frozen BK226.out 0
         have hfz69_1 := blk_frozen BK226.out 1
         have hfz69_2 := blk_frozen BK226.out 2
         have hfz69_3 := blk_frozen BK226.out 3
         go_wp2
         refine bodyPost_ret (results_ct rfl _ _ gb226 26 #[.string (⟨#[]⟩ : ByteArray), .int .i64 0, .int .i64 0, .slice none 0 0] (0, 0) _ rfl (by (with_reducible repeat (first | refine blk_drewN ?_ _ | refine blk_drew ?_ | refine blk_alloc ?_ _)); refine blk_put (cs := #[.string (⟨#[]⟩ : ByteArray), .int .i64 0, .int .i64 0, .slice none 0 0]) ?_ 3 _ rfl; (with_reducible repeat (first | refine blk_drewN ?_ _ | refine blk_drew ?_ | refine blk_alloc ?_ _)); refine blk_put (cs := #[.string (⟨#[]⟩ : ByteArray), .int .i64 0, .int .i64 x227002_1, .slice none 0 0]) ?_ 2 _ rfl; (with_reducible repeat (first | refine blk_drewN ?_ _ | refine blk_drew ?_ | refine blk_alloc ?_ _)); refine blk_put (cs := #[.string (⟨#[]⟩ : ByteArray), .int .i64 x227001_1, .int .i64 x227002_1, .slice none 0 0]) ?_ 1 _ rfl; (with_reducible repeat (first | refine blk_drewN ?_ _ | refine blk_drew ?_ | refine blk_alloc ?_ _)); refine blk_put (cs := #[.string x227000_1, .int .i64 x227001_1, .int .i64 x227002_1, .slice none 0 0]) ?_ 0 _ rfl; (with_reducible repeat (first | refine blk_drewN ?_ _ | refine blk_drew ?_ | refine blk_alloc ?_ _)); exact BK226.out) Tryd.underlying26 rfl (by kernel_rfl)) rfl ?_
         exact ⟨_, by first | rfl | (simp [errW_none, errW_some] <;> rfl) | (simp [*, errW_none, errW_some] <;> rfl), by first | exact Kd.S_nil _ _ _ _ _ | exact Kd.N_nil _ _ _ _ _ | exact Kd.V_nil _ _ _ _ _ | exact Kd.Q_nil _ _ _ _ _ | exact Kd.R_nil _ _ _ _ _, by repeat (first | (with_reducible first | exact HB.out | apply below_alloc | apply pw_below_drewN | apply below_drew1 | refine below_set ?_ GE226.out | refine below_set ?_ GE239.out) | exact HB.out)⟩
    ·rw [if_neg c13] at H
     exact absurd H (by simp)
   ·rw [if_neg c12] at H
    exact absurd H (by simp)
  ·rw [if_neg c8] at H
   exact absurd H (by simp)

/-! ### spec_l00In: function 26 -/
def spec_l00In.f (a0 : Int) (a1 : Int) (a2 : Int) : Option (Bool) := if a0 ≥ a1 then (some (decide (a0 ≤ a2))) else (some false)
set_option maxHeartbeats 8000000 in
set_option maxRecDepth 100000 in
theorem spec_l00In.calls (a0 : Int) (a1 : Int) (a2 : Int) (r : Bool) (w : World) (h : spec_l00In.f a0 a1 a2 = some r) :
  Calls Tryd.prog 26 #[.int .i64 a0, .int .i64 a1, .int .i64 a2] w fun e w' => e = .returned (.bool r) ∧ Drawn0 w w' := by
 have H : (if a0 ≥ a1 then (some (decide (a0 ≤ a2))) else (some false)) = some r := h
 clear h
 by_cases c4 : a0 ≥ a1
 ·rw [if_pos c4] at H
  have c4b0 : decide (a1 ≤ a0) = true := decide_eq_true c4
  clear c4
  obtain rfl := Option.some.inj H
  go_enter Tryd.func26, Tryd.ntmps26
  go_wp2
  go_ret
  exact ⟨by first | rfl | (simp; done) | (simp [*]; done), by repeat (first | exact Drawn0.refl _ | apply Drawn0.step)⟩
 ·rw [if_neg c4] at H
  have c4b0 : decide (a1 ≤ a0) = false := decide_eq_false c4
  clear c4
  obtain rfl := Option.some.inj H
  go_enter Tryd.func26, Tryd.ntmps26
  go_wp2
  go_ret
  exact ⟨by first | rfl | (simp; done) | (simp [*]; done), by repeat (first | exact Drawn0.refl _ | apply Drawn0.step)⟩

/-! ### spec_l01Div: function 27 -/
def spec_l01Div.f (a0 : Int) (a1 : Int) : Option (Int) := if a1 < 0 then (if (wrap64 (-a0)) < 0 then (if (wrap64 (2 * (wrap64 (-a1)))) = 0 then (none) else (some (wrap64 (-(wrap64 (Int.tdiv (wrap64 ((wrap64 (-a1)) - (wrap64 (2 * (wrap64 (-a0)))))) (wrap64 (2 * (wrap64 (-a1)))))))))) else (if (wrap64 (2 * (wrap64 (-a1)))) = 0 then (none) else (some (wrap64 (Int.tdiv (wrap64 ((wrap64 (2 * (wrap64 (-a0)))) + (wrap64 (-a1)))) (wrap64 (2 * (wrap64 (-a1))))))))) else (if a0 < 0 then (if (wrap64 (2 * a1)) = 0 then (none) else (some (wrap64 (-(wrap64 (Int.tdiv (wrap64 (a1 - (wrap64 (2 * a0)))) (wrap64 (2 * a1)))))))) else (if (wrap64 (2 * a1)) = 0 then (none) else (some (wrap64 (Int.tdiv (wrap64 ((wrap64 (2 * a0)) + a1)) (wrap64 (2 * a1)))))))
set_option maxHeartbeats 8000000 in
set_option maxRecDepth 100000 in
theorem spec_l01Div.calls (a0 : Int) (a1 : Int) (r : Int) (w : World) (h : spec_l01Div.f a0 a1 = some r) :
  Calls Tryd.prog 27 #[.int .i64 a0, .int .i64 a1] w fun e w' => e = .returned (.int .i64 r) ∧ Drawn0 w w' := by
 have H : (if a1 < 0 then (if (wrap64 (-a0)) < 0 then (if (wrap64 (2 * (wrap64 (-a1)))) = 0 then (none) else (some (wrap64 (-(wrap64 (Int.tdiv (wrap64 ((wrap64 (-a1)) - (wrap64 (2 * (wrap64 (-a0)))))) (wrap64 (2 * (wrap64 (-a1)))))))))) else (if (wrap64 (2 * (wrap64 (-a1)))) = 0 then (none) else (some (wrap64 (Int.tdiv (wrap64 ((wrap64 (2 * (wrap64 (-a0)))) + (wrap64 (-a1)))) (wrap64 (2 * (wrap64 (-a1))))))))) else (if a0 < 0 then (if (wrap64 (2 * a1)) = 0 then (none) else (some (wrap64 (-(wrap64 (Int.tdiv (wrap64 (a1 - (wrap64 (2 * a0)))) (wrap64 (2 * a1)))))))) else (if (wrap64 (2 * a1)) = 0 then (none) else (some (wrap64 (Int.tdiv (wrap64 ((wrap64 (2 * a0)) + a1)) (wrap64 (2 * a1)))))))) = some r := h
 clear h
 by_cases c3 : a1 < 0
 ·rw [if_pos c3] at H
  have c3b0 : decide (a1 < 0) = true := decide_eq_true c3
  clear c3
  by_cases c4 : (wrap64 (-a0)) < 0
  ·rw [if_pos c4] at H
   have c4b0 : decide ((wrap64 (-a0)) < 0) = true := decide_eq_true c4
   clear c4
   by_cases c5 : (wrap64 (2 * (wrap64 (-a1)))) = 0
   ·rw [if_pos c5] at H
    exact absurd H (by simp)
   ·rw [if_neg c5] at H
    have c5b0 : ((wrap64 (2 * (wrap64 (-a1)))) == 0) = false := beq_eq_false_iff_ne.mpr c5
    have c5b1 : ((wrap64 (2 * (wrap64 (-a1)))) != 0) = true := bne_iff_ne.mpr c5
    obtain rfl := Option.some.inj H
    go_enter Tryd.func27, Tryd.ntmps27
    go_wp2
    go_ret
    exact ⟨by first | rfl | (simp; done) | (simp [*]; done), by repeat (first | exact Drawn0.refl _ | apply Drawn0.step)⟩
  ·rw [if_neg c4] at H
   have c4b0 : decide ((wrap64 (-a0)) < 0) = false := decide_eq_false c4
   clear c4
   by_cases c6 : (wrap64 (2 * (wrap64 (-a1)))) = 0
   ·rw [if_pos c6] at H
    exact absurd H (by simp)
   ·rw [if_neg c6] at H
    have c6b0 : ((wrap64 (2 * (wrap64 (-a1)))) == 0) = false := beq_eq_false_iff_ne.mpr c6
    have c6b1 : ((wrap64 (2 * (wrap64 (-a1)))) != 0) = true := bne_iff_ne.mpr c6
    obtain rfl := Option.some.inj H
    go_enter Tryd.func27, Tryd.ntmps27
    go_wp2
    go_ret
    exact ⟨by first | rfl | (simp; done) | (simp [*]; done), by repeat (first | exact Drawn0.refl _ | apply Drawn0.step)⟩
 ·rw [if_neg c3] at H
  have c3b0 : decide (a1 < 0) = false := decide_eq_false c3
  clear c3
  by_cases c7 : a0 < 0
  ·rw [if_pos c7] at H
   have c7b0 : decide (a0 < 0) = true := decide_eq_true c7
   clear c7
   by_cases c8 : (wrap64 (2 * a1)) = 0
   ·rw [if_pos c8] at H
    exact absurd H (by simp)
   ·rw [if_neg c8] at H
    have c8b0 : ((wrap64 (2 * a1)) == 0) = false := beq_eq_false_iff_ne.mpr c8
    have c8b1 : ((wrap64 (2 * a1)) != 0) = true := bne_iff_ne.mpr c8
    obtain rfl := Option.some.inj H
    go_enter Tryd.func27, Tryd.ntmps27
    go_wp2
    go_ret
    exact ⟨by first | rfl | (simp; done) | (simp [*]; done), by repeat (first | exact Drawn0.refl _ | apply Drawn0.step)⟩
  ·rw [if_neg c7] at H
   have c7b0 : decide (a0 < 0) = false := decide_eq_false c7
   clear c7
   by_cases c9 : (wrap64 (2 * a1)) = 0
   ·rw [if_pos c9] at H
    exact absurd H (by simp)
   ·rw [if_neg c9] at H
    have c9b0 : ((wrap64 (2 * a1)) == 0) = false := beq_eq_false_iff_ne.mpr c9
    have c9b1 : ((wrap64 (2 * a1)) != 0) = true := bne_iff_ne.mpr c9
    obtain rfl := Option.some.inj H
    go_enter Tryd.func27, Tryd.ntmps27
    go_wp2
    go_ret
    exact ⟨by first | rfl | (simp; done) | (simp [*]; done), by repeat (first | exact Drawn0.refl _ | apply Drawn0.step)⟩

/-! ### spec_DivRound: function 13 -/
def spec_DivRound.f (a0 : Int) (a1 : Int) : Option (Int) := if a1 = 0 then (some 0) else ((spec_l00In.f a0 (-1000000000000) 1000000000000).bind fun t259 => (if t259 = true then ((spec_l00In.f a1 (-1000000000000) 1000000000000).bind fun t260 => (if t260 = true then ((spec_l01Div.f a0 a1).bind fun t261 => (some t261)) else (some 0))) else (some 0)))
set_option maxHeartbeats 8000000 in
set_option maxRecDepth 100000 in
theorem spec_DivRound.calls (a0 : Int) (a1 : Int) (r : Int) (w : World) (h : spec_DivRound.f a0 a1 = some r) :
  Calls Tryd.prog 13 #[.int .i64 a0, .int .i64 a1] w fun e w' => e = .returned (.int .i64 r) ∧ Drawn0 w w' := by
 have H : (if a1 = 0 then (some 0) else ((spec_l00In.f a0 (-1000000000000) 1000000000000).bind fun t259 => (if t259 = true then ((spec_l00In.f a1 (-1000000000000) 1000000000000).bind fun t260 => (if t260 = true then ((spec_l01Div.f a0 a1).bind fun t261 => (some t261)) else (some 0))) else (some 0)))) = some r := h
 clear h
 by_cases c3 : a1 = 0
 ·rw [if_pos c3] at H
  have c3b0 : (a1 == 0) = true := beq_iff_eq.mpr c3
  have c3b1 : (a1 != 0) = false := bne_eq_false_iff_eq.mpr c3
  clear c3
  obtain rfl := Option.some.inj H
  go_enter Tryd.func13, Tryd.ntmps13
  go_wp2
  go_ret
  exact ⟨by first | rfl | (simp; done) | (simp [*]; done), by repeat (first | exact Drawn0.refl _ | apply Drawn0.step)⟩
 ·rw [if_neg c3] at H
  have c3b0 : (a1 == 0) = false := beq_eq_false_iff_ne.mpr c3
  have c3b1 : (a1 != 0) = true := bne_iff_ne.mpr c3
  replace H := Option.bind_eq_some_iff.mp H
  obtain ⟨t259, A40, H⟩ := H
  replace H : (if t259 = true then ((spec_l00In.f a1 (-1000000000000) 1000000000000).bind fun t260 => (if t260 = true then ((spec_l01Div.f a0 a1).bind fun t261 => (some t261)) else (some 0))) else (some 0)) = some r := H
  have A4 := Aside0.mk A40
  clear A40
  by_cases c5 : t259 = true
  ·subst c5
   have H1 : ((spec_l00In.f a1 (-1000000000000) 1000000000000).bind fun t260 => (if t260 = true then ((spec_l01Div.f a0 a1).bind fun t261 => (some t261)) else (some 0))) = some r := by rw [if_pos rfl] at H; exact H
   clear H
   have H := H1
   clear H1
   replace H := Option.bind_eq_some_iff.mp H
   obtain ⟨t260, A60, H⟩ := H
   replace H : (if t260 = true then ((spec_l01Div.f a0 a1).bind fun t261 => (some t261)) else (some 0)) = some r := H
   have A6 := Aside0.mk A60
   clear A60
   by_cases c7 : t260 = true
   ·subst c7
    have H1 : ((spec_l01Div.f a0 a1).bind fun t261 => (some t261)) = some r := by rw [if_pos rfl] at H; exact H
    clear H
    have H := H1
    clear H1
    replace H := Option.bind_eq_some_iff.mp H
    obtain ⟨t261, A80, H⟩ := H
    replace H : (some t261) = some r := H
    have A8 := Aside0.mk A80
    clear A80
    obtain rfl := Option.some.inj H
    go_enter Tryd.func13, Tryd.ntmps13
    go_wp2_with (first | (go_at_call 26; (with_reducible refine (spec_l00In.calls a0 (-1000000000000) 1000000000000 true _ A4.out).mono ?_); rintro e w' ⟨rfl, ⟨nd, rfl⟩⟩) | (go_at_call 26; (with_reducible refine (spec_l00In.calls a1 (-1000000000000) 1000000000000 true _ A6.out).mono ?_); rintro e w' ⟨rfl, ⟨nd, rfl⟩⟩) | ((with_reducible refine gate_callee (f := 27) rfl ?_); refine goesL_ (some 19) rfl rfl Tryd.func27 (by kernel_rfl) rfl #[.int .i64 a0, .int .i64 a1] rfl (by (try simp only [List.map_toArray, List.map_cons, List.map_nil]); first | done | rfl | (simp only [List.length_drop, List.length_take]; rfl)) ?_; (with_reducible refine (spec_l01Div.calls a0 a1 t261 _ A8.out).mono ?_); rintro e w' ⟨rfl, ⟨nd, rfl⟩⟩; refine ⟨_, rfl, ?_⟩))
    go_ret
    exact ⟨by first | rfl | (simp; done) | (simp [*]; done), by repeat (first | exact Drawn0.refl _ | apply Drawn0.step)⟩
   ·replace c7 := Bool.eq_false_iff.mpr c7
    subst c7
    have H1 : (some 0) = some r := by rw [if_neg (show ¬ (false = true) by decide)] at H; exact H
    clear H
    have H := H1
    clear H1
    obtain rfl := Option.some.inj H
    go_enter Tryd.func13, Tryd.ntmps13
    go_wp2_with (first | (go_at_call 26; (with_reducible refine (spec_l00In.calls a0 (-1000000000000) 1000000000000 true _ A4.out).mono ?_); rintro e w' ⟨rfl, ⟨nd, rfl⟩⟩) | (go_at_call 26; (with_reducible refine (spec_l00In.calls a1 (-1000000000000) 1000000000000 false _ A6.out).mono ?_); rintro e w' ⟨rfl, ⟨nd, rfl⟩⟩))
    go_ret
    exact ⟨by first | rfl | (simp; done) | (simp [*]; done), by repeat (first | exact Drawn0.refl _ | apply Drawn0.step)⟩
  ·replace c5 := Bool.eq_false_iff.mpr c5
   subst c5
   have H1 : (some 0) = some r := by rw [if_neg (show ¬ (false = true) by decide)] at H; exact H
   clear H
   have H := H1
   clear H1
   obtain rfl := Option.some.inj H
   go_enter Tryd.func13, Tryd.ntmps13
   go_wp2_with (first | (go_at_call 26; (with_reducible refine (spec_l00In.calls a0 (-1000000000000) 1000000000000 false _ A4.out).mono ?_); rintro e w' ⟨rfl, ⟨nd, rfl⟩⟩))
   go_ret
   exact ⟨by first | rfl | (simp; done) | (simp [*]; done), by repeat (first | exact Drawn0.refl _ | apply Drawn0.step)⟩

set_option maxHeartbeats 2000000 in
theorem sort_Search.gen (p : Int → Option Bool) (g : Nat) (lb : Array Value) (eg : ∀ args w, (callFunc g args).run Tryd.prog w = .ok (.enter g args) w) (k : Nat) (n : Int) (r : Int) (w : World)
    (hp : ∀ (W : World) (y : Int) (b : Bool), Below w.heap.size w W → p y = some b → Calls Tryd.prog g (#[.int .i64 y] ++ lb) W fun e w' => e = .returned (.bool b) ∧ Below W.heap.size W w') (hn : n ≤ 2305843009213693952) (h : searchO p k 0 n = some r) :
    Calls Tryd.prog 43 #[.int .i64 n, .func (.func g) #[] lb] w fun e w' => e = .returned (.int .i64 r) ∧ Below w.heap.size w w' := by
  have HP := Aside0.mk hp
  have HF := Aside0.mk h
  clear hp h
  go_enter Tryd.func43, Tryd.ntmps43
  go_wp2
  go_loopg [5, 6] k (fun gg s5 s6 wr => ∃ i j : Int, 0 ≤ i ∧ j ≤ 2305843009213693952 ∧ s5 = .int .i64 i ∧ s6 = .int .i64 j ∧ Aside0 (Below w.heap.size w wr) ∧ Aside0 (searchO p gg i j = some r))
  case atStart => exact ⟨0, n, by omega, hn, rfl, rfl, ⟨Below.refl _ _⟩, HF⟩
  case round =>
    obtain ⟨i, j, hi, hj, rfl, rfl, HB, HA⟩ := hrel
    cases gk with
    | zero => exact absurd HA.out (by simp [searchO])
    | succ k1 =>
      have h := HA.out
      simp only [searchO] at h
      by_cases hij : i < j
      · rw [if_pos hij] at h
        obtain ⟨b, hb, h⟩ := Option.bind_eq_some_iff.1 h
        have hcall := HP.out _ _ b HB.out hb
        have HI := Aside0.mk (And.intro (show i ≤ (i + j) / 2 by omega) (show (i + j) / 2 < j by omega))
        have HC := Aside0.mk hcall
        clear hcall hb HA
        cases b with
        | true =>
          have h1 : searchO p k1 i ((i + j) / 2) = some r := by simpa using h
          have HQ := Aside0.mk h1
          clear h h1
          go_wp2_with (go_at_fn g; refine (HC.out).mono ?_; rintro e w' ⟨rfl, hb'⟩)
          go_roundg k1
          case measure => omega
          case rel => exact ⟨i, (i + j) / 2, hi, by have := HI.out.2; omega, rfl, rfl, ⟨HB.out.trans (hb'.mono HB.out.size)⟩, HQ⟩
        | false =>
          have h1 : searchO p k1 ((i + j) / 2 + 1) j = some r := by simpa using h
          have HQ := Aside0.mk h1
          clear h h1
          go_wp2_with (go_at_fn g; refine (HC.out).mono ?_; rintro e w' ⟨rfl, hb'⟩)
          go_roundg k1
          case measure => omega
          case rel => exact ⟨(i + j) / 2 + 1, j, by have := HI.out.1; omega, hj, by first | rfl | go_num, rfl, ⟨HB.out.trans (hb'.mono HB.out.size)⟩, HQ⟩
      · rw [if_neg hij] at h
        have HQ := Aside0.mk (Option.some.inj h)
        clear h HA
        go_wp2
        go_ret
        exact ⟨by rw [← HQ.out]; rfl, HB.out⟩

-- function 44 is told with the one that holds it

set_option maxHeartbeats 1000000 in
theorem impl_firstIn.one (g : Nat) (lb : Array Value) (eg : ∀ args w, (callFunc g args).run Tryd.prog w = .ok (.enter g args) w) (B1 B2 : Nat) (i low : Int) (b : Bool) (W : World)
    (h1 : W.cell? ⟨B1, 0, none⟩ = some (.func (.func g) #[] lb)) (h2 : W.cell? ⟨B2, 0, none⟩ = some (.int .i64 low)) (hc : Calls Tryd.prog g (#[.int .i64 (wrap64 (low + i))] ++ lb) W fun e w' => e = .returned (.bool b) ∧ Below W.heap.size W w') :
    Calls Tryd.prog 44 (#[.int .i64 i] ++ #[.pointer (some ⟨B1, 0, none⟩), .pointer (some ⟨B2, 0, none⟩)]) W fun e w' => e = .returned (.bool b) ∧ Below W.heap.size W w' := by
  show Calls Tryd.prog 44 #[.int .i64 i, .pointer (some ⟨B1, 0, none⟩), .pointer (some ⟨B2, 0, none⟩)] W _
  go_enter Tryd.func44, Tryd.ntmps44
  go_wp2_with (go_at_fn g; refine hc.mono ?_; rintro e w' ⟨rfl, hb⟩)
  go_ret
  exact ⟨rfl, hb⟩
set_option maxHeartbeats 1000000 in
theorem impl_firstIn.gen (p : Int → Option Bool) (g : Nat) (lb : Array Value) (eg : ∀ args w, (callFunc g args).run Tryd.prog w = .ok (.enter g args) w) (k : Nat) (low high r1 : Int) (r2 : Bool) (w : World)
    (hp : ∀ (W : World) (y : Int) (b : Bool), Below w.heap.size w W → p y = some b → Calls Tryd.prog g (#[.int .i64 y] ++ lb) W fun e w' => e = .returned (.bool b) ∧ Below W.heap.size W w') (h : firstO p k low high = some (r1, r2)) :
    Calls Tryd.prog 29 #[.int .i64 low, .int .i64 high, .func (.func g) #[] lb] w fun e w' => e = .returned (.tuple #[.int .i64 r1, .bool r2]) ∧ Below w.heap.size w w' := by
  unfold firstO at h
  by_cases hm : wrap64 (wrap64 (high - low) + 1) ≤ 2305843009213693952
  · rw [if_pos hm] at h
    obtain ⟨q, hq, h⟩ := Option.bind_eq_some_iff.1 h
    have h := Option.some.inj h
    obtain ⟨rfl, rfl⟩ := Prod.mk.inj h
    clear h
    have hb2 : Below w.heap.size w ((w.alloc (.cells #[.int .i64 low] 2)).alloc (.cells #[.func (.func g) #[] lb] 51)) := ((Below.refl _ w).alloc (Nat.le_refl _) _).alloc (by simp) _
    have hc1 : ((w.alloc (.cells #[.int .i64 low] 2)).alloc (.cells #[.func (.func g) #[] lb] 51)).cell? ⟨w.heap.size + 1, 0, none⟩ = some (.func (.func g) #[] lb) := by simp
    have hc2 : ((w.alloc (.cells #[.int .i64 low] 2)).alloc (.cells #[.func (.func g) #[] lb] 51)).cell? ⟨w.heap.size, 0, none⟩ = some (.int .i64 low) := by rw [World.cell?_alloc_lt _ _ _ (by simp)]; simp
    have hcon := sort_Search.gen (fun i => p (wrap64 (low + i))) 44 #[.pointer (some ⟨w.heap.size + 1, 0, none⟩), .pointer (some ⟨w.heap.size, 0, none⟩)] (enters_of Tryd.func44 (by kernel_rfl) rfl) k _ q ((w.alloc (.cells #[.int .i64 low] 2)).alloc (.cells #[.func (.func g) #[] lb] 51))
      (fun W y b hb hpy => impl_firstIn.one g lb eg _ _ y low b W ((hb.cell (p := ⟨w.heap.size + 1, 0, none⟩) (by simp)).trans hc1) ((hb.cell (p := ⟨w.heap.size, 0, none⟩) (by simp; omega)).trans hc2) (hp W _ b (hb2.trans (hb.mono hb2.size)) hpy)) hm hq
    have HQ := Aside0.mk hq
    have HP := Aside0.mk hp
    have HB2 := Aside0.mk hb2
    have HC2 := Aside0.mk hc2
    have HM := Aside0.mk hm
    clear hq hp hb2 hc1 hc2 hm
    go_enter Tryd.func29, Tryd.ntmps29
    go_wp2_with (go_at_call 43; refine hcon.mono ?_; rintro e w' ⟨rfl, hb⟩; have hx := (hb.cell (p := ⟨w.heap.size, 0, none⟩) (by simp; omega)).trans HC2.out)
    go_ret2
    exact ⟨by first | rfl | (simp; done) | (simp [*]; done), HB2.out.trans (hb.mono HB2.out.size)⟩
  · rw [if_neg hm] at h; cases h

/-! ### impl_HeatWithin_1: function 30 -/
def impl_HeatWithin_1.f (k : Nat) (a0 : Int) (l1 : List (S26)) (l2 : List Int) (l3 : List Int) : Option (Bool) := if 0 < (l1.length : Int) then (if 0 < (l2.length : Int) then ((impl_Tariff_bill.f k ((rd_T26 l1 0).f0) ((rd_T26 l1 0).f1) ((rd_T26 l1 0).f2) ((rd_T26 l1 0).f3) a0 (rd l2 0)).bind fun t264 => (if 0 < (l3.length : Int) then (some (decide (t264 > (rd l3 0)))) else (none))) else (none)) else (none)
theorem impl_HeatWithin_1.mono : ∀ a0 a1 a2 a3 k, LeO (impl_HeatWithin_1.f k a0 a1 a2 a3) (impl_HeatWithin_1.f (k + 1) a0 a1 a2 a3) := by
 intro a0 a1 a2 a3 k
 unfold impl_HeatWithin_1.f
 repeat' first
   | (with_reducible exact impl_Tariff_bill.mono _ _ _ _ _ _ _)
   | (with_reducible exact LeO.refl _)
   | (with_reducible exact LeO.none _)
   | (with_reducible refine LeO.ite ?_ ?_)
   | (with_reducible refine LeO.bind ?_ (fun _ => ?_))
   | exact impl_Tariff_bill.mono _ _ _ _ _ _ _
   | exact LeO.none _
   | refine LeO.ite ?_ ?_
   | refine LeO.bind ?_ (fun _ => ?_)
set_option maxHeartbeats 8000000 in
set_option maxRecDepth 100000 in
theorem impl_HeatWithin_1.calls (k : Nat) (a0 : Int) (A1 : Option Addr) (c1 : Nat) (l1 : List (S26)) (A2 : Option Addr) (c2 : Nat) (l2 : List Int) (A3 : Option Addr) (c3 : Nat) (l3 : List Int) (r : Bool) (w : World) (hr1 : Kd.C k26 w A1 l1.length l1) (hc1 : l1.length ≤ c1) (hr2 : Kd.C (Kd.int .i64) w A2 l2.length l2) (hc2 : l2.length ≤ c2) (hr3 : Kd.C (Kd.int .i64) w A3 l3.length l3) (hc3 : l3.length ≤ c3) (h : impl_HeatWithin_1.f k a0 l1 l2 l3 = some r) :
  Calls Tryd.prog 30 #[.int .i64 a0, .pointer A1, .pointer A2, .pointer A3] w fun e w' => e = .returned (.bool r) ∧ Below w.heap.size w w' := by
 have hu26 := Tryd.underlying26
 have HR1 := Aside0.mk hr1
 have HC1 := Aside0.mk hc1
 clear hr1 hc1
 have HR2 := Aside0.mk hr2
 have HC2 := Aside0.mk hc2
 clear hr2 hc2
 have HR3 := Aside0.mk hr3
 have HC3 := Aside0.mk hc3
 clear hr3 hc3
 have HB := Aside0.mk (Below.refl w.heap.size w)
 have H : (if 0 < (l1.length : Int) then (if 0 < (l2.length : Int) then ((impl_Tariff_bill.f k ((rd_T26 l1 0).f0) ((rd_T26 l1 0).f1) ((rd_T26 l1 0).f2) ((rd_T26 l1 0).f3) a0 (rd l2 0)).bind fun t264 => (if 0 < (l3.length : Int) then (some (decide (t264 > (rd l3 0)))) else (none))) else (none)) else (none)) = some r := h
 clear h
 by_cases c5 : 0 < (l1.length : Int)
 ·rw [if_pos c5] at H
  have c5b0 : decide (0 < (l1.length : Int)) = true := decide_eq_true c5
  have c5b1 : decide (0 < l1.length) = true := decide_eq_true (by omega)
  clear c5
  by_cases c6 : 0 < (l2.length : Int)
  ·rw [if_pos c6] at H
   have c6b0 : decide (0 < (l2.length : Int)) = true := decide_eq_true c6
   have c6b1 : decide (0 < l2.length) = true := decide_eq_true (by omega)
   clear c6
   replace H := Option.bind_eq_some_iff.mp H
   obtain ⟨t264, A70, H⟩ := H
   replace H : (if 0 < (l3.length : Int) then (some (decide (t264 > (rd l3 0)))) else (none)) = some r := H
   have A7 := Aside0.mk A70
   clear A70
   by_cases c8 : 0 < (l3.length : Int)
   ·rw [if_pos c8] at H
    have c8b0 : decide (0 < (l3.length : Int)) = true := decide_eq_true c8
    have c8b1 : decide (0 < l3.length) = true := decide_eq_true (by omega)
    clear c8
    obtain rfl := Option.some.inj H
    go_enter Tryd.func30, Tryd.ntmps30
    try go_wp2
    have n0_ := Aside0.mk (below_drew1 HB.out)
    clear HB
    have HB := n0_
    clear n0_
    have p262 : 0 ≤ (0 : Int) := (by omega)
    have q262 : 0 < (l1.length : Int) := of_decide_eq_true (by first | (with_reducible assumption) | assumption)
    obtain ⟨ad262, A262_3, c262_3, e262, hx262_0, hx262_1, hx262_2, hx262_3, hl262_3, hi262_3⟩ := at_T26 HR1.out 0 p262 q262
    have hw262_3 := hx262_3
    (try rw [show ((0 : Int)).toNat = 0 from rfl] at hw262_3)
    (try rw [show 0 * 4 = 0 from rfl] at hw262_3)
    (try rw [Addr.add_zero'] at hw262_3)
    have hw262_2 := hx262_2
    (try rw [show ((0 : Int)).toNat = 0 from rfl] at hw262_2)
    (try rw [show 0 * 4 = 0 from rfl] at hw262_2)
    (try rw [Addr.add_zero'] at hw262_2)
    have hw262_1 := hx262_1
    (try rw [show ((0 : Int)).toNat = 0 from rfl] at hw262_1)
    (try rw [show 0 * 4 = 0 from rfl] at hw262_1)
    (try rw [Addr.add_zero'] at hw262_1)
    have hw262_0 := hx262_0
    (try rw [show ((0 : Int)).toNat = 0 from rfl] at hw262_0)
    (try rw [show 0 * 4 = 0 from rfl] at hw262_0)
    (try rw [Addr.add_zero'] at hw262_0)
    cases e262
    have qi262 : (0 < l1.length) = True := eq_true (by omega)
    (try rw [show ((0 : Int)).toNat = 0 from rfl] at hx262_0)
    (try rw [show 0 * 4 = 0 from rfl] at hx262_0)
    (try rw [Addr.add_zero'] at hx262_0)
    (try rw [show ((0 : Int)).toNat = 0 from rfl] at hx262_1)
    (try rw [show 0 * 4 = 0 from rfl] at hx262_1)
    (try rw [Addr.add_zero'] at hx262_1)
    (try rw [show ((0 : Int)).toNat = 0 from rfl] at hx262_2)
    (try rw [show 0 * 4 = 0 from rfl] at hx262_2)
    (try rw [Addr.add_zero'] at hx262_2)
    (try rw [show ((0 : Int)).toNat = 0 from rfl] at hx262_3)
    (try rw [show 0 * 4 = 0 from rfl] at hx262_3)
    (try rw [Addr.add_zero'] at hx262_3)
    replace hx262_0 := (HB.out.cell (World.block_lt_of_cell? w _ hx262_0)).trans hx262_0
    replace hx262_1 := (HB.out.cell (World.block_lt_of_cell? w _ hx262_1)).trans hx262_1
    replace hx262_2 := (HB.out.cell (World.block_lt_of_cell? w _ hx262_2)).trans hx262_2
    replace hx262_3 := (HB.out.cell (World.block_lt_of_cell? w _ hx262_3)).trans hx262_3
    have HR262_3 := Aside0.mk hi262_3
    have HC262_3 := Aside0.mk hl262_3
    clear hi262_3 hl262_3
    replace p262 := eq_true p262
    replace q262 := eq_true q262
    have p263 : 0 ≤ (0 : Int) := (by omega)
    have q263 : 0 < (l2.length : Int) := of_decide_eq_true (by first | (with_reducible assumption) | assumption)
    obtain ⟨ad263, e263, hx263_0⟩ := Kd.at_int HR2.out 0 p263 q263
    have hw263_0 := hx263_0
    (try rw [show ((0 : Int)).toNat = 0 from rfl] at hw263_0)
    (try rw [show 0 * 1 = 0 from rfl] at hw263_0)
    (try rw [Addr.add_zero'] at hw263_0)
    cases e263
    have qi263 : (0 < l2.length) = True := eq_true (by omega)
    (try rw [show ((0 : Int)).toNat = 0 from rfl] at hx263_0)
    (try rw [Addr.add_zero'] at hx263_0)
    replace hx263_0 := (HB.out.cell (World.block_lt_of_cell? w _ hx263_0)).trans hx263_0
    replace p263 := eq_true p263
    replace q263 := eq_true q263
    have p265 : 0 ≤ (0 : Int) := (by omega)
    have q265 : 0 < (l3.length : Int) := of_decide_eq_true (by first | (with_reducible assumption) | assumption)
    obtain ⟨ad265, e265, hx265_0⟩ := Kd.at_int HR3.out 0 p265 q265
    have hw265_0 := hx265_0
    (try rw [show ((0 : Int)).toNat = 0 from rfl] at hw265_0)
    (try rw [show 0 * 1 = 0 from rfl] at hw265_0)
    (try rw [Addr.add_zero'] at hw265_0)
    cases e265
    have qi265 : (0 < l3.length) = True := eq_true (by omega)
    (try rw [show ((0 : Int)).toNat = 0 from rfl] at hx265_0)
    (try rw [Addr.add_zero'] at hx265_0)
    replace hx265_0 := (HB.out.cell (World.block_lt_of_cell? w _ hx265_0)).trans hx265_0
    replace p265 := eq_true p265
    replace q265 := eq_true q265
    refine start_ (n := 7) (S := fun w' => w'.cell? ad262 = some (.string ((rd_T26 l1 0).f0)) ∧ w'.cell? ⟨ad262.block, ad262.off + 1, none⟩ = some (.int .i64 ((rd_T26 l1 0).f1)) ∧ w'.cell? ⟨ad262.block, ad262.off + 2, none⟩ = some (.int .i64 ((rd_T26 l1 0).f2)) ∧ w'.cell? ⟨ad262.block, ad262.off + 3, none⟩ = some (.slice A262_3 ((rd_T26 l1 0).f3).length c262_3) ∧ w'.cell? ad263 = some (.int .i64 (rd l2 0)) ∧ w'.cell? ad265 = some (.int .i64 (rd l3 0))) (ds := []) #[false, false, false, false, false, false, false] (by kernel_rfl) rfl rfl ⟨((HB.out.cell (World.block_lt_of_cell? w _ hw262_0)).trans hw262_0), ((HB.out.cell (World.block_lt_of_cell? w _ hw262_1)).trans hw262_1), ((HB.out.cell (World.block_lt_of_cell? w _ hw262_2)).trans hw262_2), ((HB.out.cell (World.block_lt_of_cell? w _ hw262_3)).trans hw262_3), ((HB.out.cell (World.block_lt_of_cell? w _ hw263_0)).trans hw263_0), ((HB.out.cell (World.block_lt_of_cell? w _ hw265_0)).trans hw265_0)⟩ (fun hHeld => ?_)
    generalize w.drew = w9 at HB HR262_3 hx262_0 hx262_1 hx262_2 hx262_3 hx263_0 hx265_0 hHeld ⊢
    refine pure_ (i := 1) (N := some 7) (v := ?_) (a' := ?_) #[false, true, false, false, false, false, false] rfl rfl (by kernel_rfl) (fun _ _ _ h => h) (Or.inl ⟨by rfl, ?_⟩) ?_ ?_
    rotate_left; (· intro w'; go_simp; with_reducible rfl); rotate_left; (· simp only [Act.put, List.setIfInBounds_toArray, List.set_cons_zero, List.set_cons_succ, i64_w, i32_w]; rfl)
    refine take_ (i := 0) (N := some 6) (v := ?_) (a' := ?_) #[true, true, false, false, false, false, false] rfl rfl (by kernel_rfl) (fun _ _ _ h => h) (Or.inl ⟨by rfl, ?_⟩) hHeld ?_ ?_
    rotate_left
    ·rintro w' ⟨s0, s1, s2, s3, s4, s5⟩
     go_simp
     with_reducible rfl
    rotate_left; (· simp only [Act.put, List.setIfInBounds_toArray, List.set_cons_zero, List.set_cons_succ, i64_w, i32_w]; rfl)
    refine take_ (i := 2) (N := some 8) (v := ?_) (a' := ?_) #[true, true, true, false, false, false, false] rfl rfl (by kernel_rfl) (fun _ _ _ h => h) (Or.inl ⟨by rfl, ?_⟩) hHeld ?_ ?_
    rotate_left
    ·rintro w' ⟨s0, s1, s2, s3, s4, s5⟩
     go_simp
     with_reducible rfl
    rotate_left; (· simp only [Act.put, List.setIfInBounds_toArray, List.set_cons_zero, List.set_cons_succ, i64_w, i32_w]; rfl)
    refine take_ (i := 4) (N := some 10) (v := ?_) (a' := ?_) #[true, true, true, false, true, false, false] rfl rfl (by kernel_rfl) (fun _ _ _ h => h) (Or.inl ⟨by rfl, ?_⟩) hHeld ?_ ?_
    rotate_left
    ·rintro w' ⟨s0, s1, s2, s3, s4, s5⟩
     go_simp
     with_reducible rfl
    rotate_left; (· simp only [Act.put, List.setIfInBounds_toArray, List.set_cons_zero, List.set_cons_succ, i64_w, i32_w]; rfl)
    refine one_ (i := 3) (N := some 9) #[true, true, true, true, true, false, false] rfl rfl (by kernel_rfl) (by decide) (fun K hK => ?_)
    refine goes_ Tryd.func19 (by kernel_rfl) rfl #[.agg #[.string ((rd_T26 l1 0).f0), .int .i64 ((rd_T26 l1 0).f1), .int .i64 ((rd_T26 l1 0).f2), .slice A262_3 ((rd_T26 l1 0).f3).length c262_3], .int .i64 a0, .int .i64 (rd l2 0)] (by rfl) rfl rfl (by (try simp only [List.map_toArray, List.map_cons, List.map_nil]); first | done | rfl | (simp only [List.length_drop, List.length_take]; rfl)) ?_
    with_reducible refine (impl_Tariff_bill.calls k ((rd_T26 l1 0).f0) ((rd_T26 l1 0).f1) ((rd_T26 l1 0).f2) _ _ ((rd_T26 l1 0).f3) a0 (rd l2 0) t264 _ ?side1 ?side2 A7.out).mono ?_
    (case side1 => repeat (first | exact (Kd.C_below HR262_3.out HB.out) | (with_reducible refine Kd.C_alloc ?_ _) | (with_reducible refine Kd.C_drewN ?_ _) | (with_reducible refine Kd.C_drew ?_)))
    (case side2 => exact HC262_3.out)
    rintro e w10 ⟨rfl, hb⟩
    refine ⟨_, rfl, ?_⟩
    have n0_ := Aside0.mk (below_step (by repeat (first | (with_reducible first | exact HB.out | apply below_alloc | apply pw_below_drewN | apply below_drew1) | exact HB.out)) hb)
    clear HB
    have HB := n0_
    clear n0_
    (try clear hb)
    (try clear hb2)
    (try clear hk)
    (try clear hi)
    refine hK.out _ _ ⟨((HB.out.cell (World.block_lt_of_cell? w _ hw262_0)).trans hw262_0), ((HB.out.cell (World.block_lt_of_cell? w _ hw262_1)).trans hw262_1), ((HB.out.cell (World.block_lt_of_cell? w _ hw262_2)).trans hw262_2), ((HB.out.cell (World.block_lt_of_cell? w _ hw262_3)).trans hw262_3), ((HB.out.cell (World.block_lt_of_cell? w _ hw263_0)).trans hw263_0), ((HB.out.cell (World.block_lt_of_cell? w _ hw265_0)).trans hw265_0)⟩ (fun hHeld => ?_)
    clear hK K
    refine norm_ (a' := ?_) ?_ ?_
    rotate_left
    ·show Act.put _ (some 9) _ = _
     simp only [Act.put, List.setIfInBounds_toArray, List.set_cons_zero, List.set_cons_succ, i64_w, i32_w]
     rfl
    refine pure_ (i := 5) (N := some 11) (v := ?_) (a' := ?_) #[true, true, true, true, true, true, false] rfl rfl (by kernel_rfl) (fun _ _ _ h => h) (Or.inl ⟨by rfl, ?_⟩) ?_ ?_
    rotate_left; (· intro w'; go_simp; with_reducible rfl); rotate_left; (· simp only [Act.put, List.setIfInBounds_toArray, List.set_cons_zero, List.set_cons_succ, i64_w, i32_w]; rfl)
    refine pure_ (i := 6) (N := some 5) (v := ?_) (a' := ?_) #[true, true, true, true, true, true, true] rfl rfl (by kernel_rfl) (fun _ _ _ h => h) (Or.inl ⟨by rfl, ?_⟩) ?_ ?_
    rotate_left; (· intro w'; go_simp; with_reducible rfl); rotate_left; (· simp only [Act.put, List.setIfInBounds_toArray, List.set_cons_zero, List.set_cons_succ, i64_w, i32_w]; rfl)
    refine done_ (by kernel_rfl) ?_
    try go_wp2
    go_ret
    exact ⟨by first | rfl | (rw [Int.tdiv_eq_ediv_of_nonneg (by omega)]; rfl) | (simp [errW_none, errW_some] <;> rfl) | (simp [*, errW_none, errW_some] <;> rfl), by repeat (first | (with_reducible first | exact HB.out | apply below_alloc | apply pw_below_drewN | apply below_drew1) | exact HB.out)⟩
   ·rw [if_neg c8] at H
    exact absurd H (by simp)
  ·rw [if_neg c6] at H
   exact absurd H (by simp)
 ·rw [if_neg c5] at H
  exact absurd H (by simp)

/-! ### impl_orNotFound: function 31 -/
def impl_orNotFound.f (a0 : Int) (a1 : Bool) : Option (Int × Int) := if a1 = true then (some (a0, 0)) else (some (0, 3))
set_option maxHeartbeats 8000000 in
set_option maxRecDepth 100000 in
theorem impl_orNotFound.calls (a0 : Int) (a1 : Bool) (r1 : Int) (r2 : Int) (w : World) (h : impl_orNotFound.f a0 a1 = some (r1, r2)) :
  Calls Tryd.prog 31 #[.int .i64 a0, .bool a1] w fun e w' => e = .returned (.tuple #[.int .i64 r1, .int .i64 r2]) ∧ Drawn0 w w' := by
 have H : (if a1 = true then (some (a0, 0)) else (some (0, 3))) = some (r1, r2) := h
 clear h
 by_cases c3 : a1 = true
 ·subst c3
  have H1 : (some (a0, 0)) = some (r1, r2) := by rw [if_pos rfl] at H; exact H
  clear H
  have H := H1
  clear H1
  simp only [Option.some.injEq, Prod.mk.injEq] at H
  obtain ⟨rfl, rfl⟩ := H
  go_enter Tryd.func31, Tryd.ntmps31
  go_wp2
  go_ret2
  exact ⟨by first | rfl | (simp; done) | (simp [*]; done), by repeat (first | exact Drawn0.refl _ | apply Drawn0.step)⟩
 ·replace c3 := Bool.eq_false_iff.mpr c3
  subst c3
  have H1 : (some (0, 3)) = some (r1, r2) := by rw [if_neg (show ¬ (false = true) by decide)] at H; exact H
  clear H
  have H := H1
  clear H1
  simp only [Option.some.injEq, Prod.mk.injEq] at H
  obtain ⟨rfl, rfl⟩ := H
  go_enter Tryd.func31, Tryd.ntmps31
  go_wp2
  go_ret2
  exact ⟨by first | rfl | (simp; done) | (simp [*]; done), by repeat (first | exact Drawn0.refl _ | apply Drawn0.step)⟩

/-! ### impl_firstIn_c30: function 29 -/
def impl_firstIn_c30.f (k : Nat) (a0 : Int) (a1 : Int) (l2_0 : List (S26)) (l2_1 : List Int) (l2_2 : List Int) : Option (Int × Bool) := firstO (fun y => impl_HeatWithin_1.f k y l2_0 l2_1 l2_2) k a0 a1
theorem impl_firstIn_c30.mono : ∀ (a0 : Int) (a1 : Int) (l2_0 : List (S26)) (l2_1 : List Int) (l2_2 : List Int) (k : Nat), LeO (impl_firstIn_c30.f k a0 a1 l2_0 l2_1 l2_2) (impl_firstIn_c30.f (k + 1) a0 a1 l2_0 l2_1 l2_2) := fun a0 a1 l2_0 l2_1 l2_2 k => firstO_mono (fun y => impl_HeatWithin_1.mono y l2_0 l2_1 l2_2 k) k a0 a1
set_option maxHeartbeats 1000000 in
theorem impl_firstIn_c30.calls (k : Nat) (a0 : Int) (a1 : Int) (A2_0 : Option Addr) (c2_0 : Nat) (l2_0 : List (S26)) (A2_1 : Option Addr) (c2_1 : Nat) (l2_1 : List Int) (A2_2 : Option Addr) (c2_2 : Nat) (l2_2 : List Int) (r1 : Int) (r2 : Bool) (w : World) (hr2_0 : Kd.C k26 w A2_0 l2_0.length l2_0) (hc2_0 : l2_0.length ≤ c2_0) (hr2_1 : Kd.C (Kd.int .i64) w A2_1 l2_1.length l2_1) (hc2_1 : l2_1.length ≤ c2_1) (hr2_2 : Kd.C (Kd.int .i64) w A2_2 l2_2.length l2_2) (hc2_2 : l2_2.length ≤ c2_2) (h : impl_firstIn_c30.f k a0 a1 l2_0 l2_1 l2_2 = some (r1, r2)) :
    Calls Tryd.prog 29 #[.int .i64 a0, .int .i64 a1, .func (.func 30) #[] #[.pointer A2_0, .pointer A2_1, .pointer A2_2]] w fun e w' => e = .returned (.tuple #[.int .i64 r1, .bool r2]) ∧ Below w.heap.size w w' :=
  impl_firstIn.gen (fun y => impl_HeatWithin_1.f k y l2_0 l2_1 l2_2) 30 #[.pointer A2_0, .pointer A2_1, .pointer A2_2] (enters_of Tryd.func30 (by kernel_rfl) rfl) k a0 a1 r1 r2 w (fun W y b hb hq => (impl_HeatWithin_1.calls k y A2_0 c2_0 l2_0 A2_1 c2_1 l2_1 A2_2 c2_2 l2_2 b W (Kd.C_below hr2_0 hb) hc2_0 (Kd.C_below hr2_1 hb) hc2_1 (Kd.C_below hr2_2 hb) hc2_2 hq).mono (fun e w' h => ⟨h.1, h.2⟩)) h

end Go.Proofs.YtdhpmiocpjpabaaDoor.PFnTariffs
