-- written by wip/xprint.py, a program of this session, for this claim; not trusted: Lean checks it.
import Derived.Test.YtdiboljniaolfaaDoorRows
import Derived.Test.YtdiboljniaolfaaDoorPFnExactTariffTextx8
import Derived.Test.YtdiboljniaolfaaDoorPureFnExactTariffText
import Derived.WalkKit
import Derived.ProofKit
import Derived.OpenShut
import Derived.ShutString
import Derived.ChangeOld
import Derived.Below
import Derived.SizedLaws
import Derived.Test.YtdiboljniaolfaaDoorTie
import Derived.Test.YtdiboljniaolfaaDoorCards
import Derived.LaidMore
import Derived.Stop.LaidErr
import Derived.Lay
import Derived.SevenTiedAt
import Derived.Stop.Joined
import Derived.Deep.Slices
import Derived.Deep.Fields
import Derived.ChangeSame
import Derived.Lib.SmallJoins
namespace Go.Proofs.YtdiboljniaolfaaDoor.fnExactTariffText
open Go.ChangeShapes Go.WideShapes Go.ChangeAt Go.RowKit Go.Proofs.YtdiboljniaolfaaDoorW.PrintWords Go.Proofs.YtdiboljniaolfaaDoor.PFnExactTariffText
open Go.ChangeMaps (open_string shut_string)
set_option linter.unusedVariables false
theorem own : ownKnob Tryd.prog.godebug = none := by kernel_rfl
theorem laidOut : laidOutB Tryd.prog = true := by kernel_rfl
/-- Whatever reads as data at type t is a Lean value of kind d. -/
structure Opens {α : Type} (P : Program) (t : TypeId) (d : Kd α) (wf : α → Prop) : Prop where
  sz : d.sz = P.cellsOf t
  op : ∀ {H : Type} {enc : TypeId × Value → H} {w : World} {base : Nat} {spare : Nat → Bool} {held : Bool} {fuel : Nat} {cs : List Value} {x : DataW H × List MemPlace}, DataW.trod enc P w base spare held fuel t cs = some x → ∃ a : α, d.K w a cs ∧ wf a
theorem Opens.field {α : Type} {P : Program} {t : TypeId} {d : Kd α} {wf : α → Prop} (o : Opens P t d wf) (h1 : d.sz = 1) {H : Type} {enc : TypeId × Value → H} {w : World} {base : Nat} {spare : Nat → Bool} {held : Bool} {n off j : Nat} {l : List Value} {ys : List (DataW H × List MemPlace)} {c : Value}
    (hf : DataW.trod enc P w base spare held n t ((l.drop off).take (P.cellsOf t)) = ys[j]?) (hj : j < ys.length) (hc : l[off]? = some c) : ∃ a, d.K w a [c] ∧ wf a := by
  rw [List.getElem?_eq_getElem hj, ← o.sz, h1] at hf
  have hl := (List.getElem?_eq_some_iff.1 hc).1
  have hv := (List.getElem?_eq_some_iff.1 hc).2
  rw [List.drop_eq_getElem_cons hl, hv] at hf
  exact o.op hf
theorem Opens.int {P : Program} {t : TypeId} {k : IntKind} {wf : Int → Prop} (hw : ∀ n, (Lit.int k n).wf = true → wf n) (ht : P.underlying t = some (.int k)) (hc : P.cellsOf t = 1) : Opens P t (Kd.int k) wf :=
  ⟨hc.symm, fun h => by obtain ⟨n, rfl, _, h1⟩ := DataW.trod_int ht h; exact ⟨n, rfl, hw n h1⟩⟩
theorem Opens.bool {P : Program} {t : TypeId} {wf : Bool → Prop} (hw : ∀ n, wf n) (ht : P.underlying t = some .bool) (hc : P.cellsOf t = 1) : Opens P t Kd.bool wf :=
  ⟨hc.symm, fun h => by obtain ⟨n, rfl, _⟩ := DataW.trod_bool ht h; exact ⟨n, rfl, hw n⟩⟩
theorem Opens.string {P : Program} {t : TypeId} {wf : ByteArray → Prop} (hw : ∀ n : ByteArray, n.size ≤ maxLen → wf n) (ht : P.underlying t = some .string) (hc : P.cellsOf t = 1) : Opens P t Kd.string wf :=
  ⟨hc.symm, fun h => by obtain ⟨n, rfl, _, h1⟩ := DataW.trod_string ht h; exact ⟨n, rfl, hw n h1⟩⟩
theorem list_of {α : Type} {R : Nat → α → Prop} {n : Nat} (h : ∀ i, i < n → ∃ a, R i a) : ∃ l : List α, l.length = n ∧ ∀ i a, l[i]? = some a → R i a := by
  induction n with
  | zero => exact ⟨[], rfl, fun i a' h => by simp at h⟩
  | succ q ih =>
    obtain ⟨l, hl, hx⟩ := ih (fun i hi => h i (by omega))
    obtain ⟨a', hc⟩ := h q (by omega)
    refine ⟨l ++ [a'], by simp [hl], fun i b hb => ?_⟩
    rcases Nat.lt_or_ge i l.length with hi | hi
    · rw [List.getElem?_append_left hi] at hb
      exact hx i b hb
    · have hi' : i = l.length := by
        have := (List.getElem?_eq_some_iff.1 hb).1
        simp at this
        omega
      subst hi'
      have e : a' = b := by simpa using hb
      subst e
      rw [hl]
      exact hc
theorem Opens.slice {α : Type} {P : Program} {t e : TypeId} {d : Kd α} {wf : α → Prop} (ht : P.underlying t = some (.slice e)) (hc : P.cellsOf t = 1) (o : Opens P e d wf) : Opens P t (Kd.slice e d) (fun l => l.length ≤ 9223372036854775807 ∧ ∀ x_ ∈ l, wf x_) := by
  refine ⟨hc.symm, fun {H enc w base spare held fuel cs x} h => ?_⟩
  rcases Go.Deep.open_slice ht h with ⟨rfl, _⟩ | ⟨a, len, cap, m, n, D, Pl, rfl, _, hl, hm, hmm, _, hi⟩
  · exact ⟨[], ⟨none, 0, rfl, Nat.le_refl _, rfl, by simp, fun h => absurd h (by simp)⟩, by simp, fun x hx => by cases hx⟩
  · have hle : len ≤ m := by rw [hmm]; split <;> omega
    have h1 : ∀ i, i < len → ∃ (a' : α), wf a' ∧ ∃ c : List Value, c.length = d.sz ∧ d.K w a' c ∧ ∀ j u, c[j]? = some u → w.cell? (a.add (i * d.sz + j)) = some u := by
      intro i hil
      obtain ⟨cs', hcs, ht'⟩ := hi i (by omega)
      obtain ⟨_, hcl, hat⟩ := World.cells?_some hcs
      obtain ⟨a', hK, hw⟩ := o.op ht'
      refine ⟨a', hw, cs', hcl.trans o.sz.symm, hK, fun j u hu => ?_⟩
      have hj := (List.getElem?_eq_some_iff.1 hu).1
      have := hat j (by omega)
      rw [← o.sz, Go.Deep.add_add] at this
      rw [this, hu]
    have h2 := list_of h1
    obtain ⟨l, hll, hx⟩ := h2
    refine ⟨l, ⟨some a, cap, by rw [hll], by omega, rfl, by simp only [maxLen] at hm; omega, fun _ => ⟨a, rfl, fun j p hj => ?_⟩⟩, ?_, fun x hx' => ?_⟩
    · obtain ⟨_, c, h3, h4, h5⟩ := hx j p hj
      exact ⟨c, h3, h4, h5⟩
    · simp only [maxLen] at hm; omega
    · obtain ⟨j, hj⟩ := List.mem_iff_getElem?.1 hx'
      exact (hx j x hj).1
theorem list1 {α : Type} {cs : List α} (h : cs.length = 1) : ∃ c0, cs = [c0] := by match cs, h with | [c0], _ => exact ⟨c0, rfl⟩
theorem list2 {α : Type} {cs : List α} (h : cs.length = 2) : ∃ c0 c1, cs = [c0, c1] := by match cs, h with | [c0, c1], _ => exact ⟨c0, c1, rfl⟩
theorem list3 {α : Type} {cs : List α} (h : cs.length = 3) : ∃ c0 c1 c2, cs = [c0, c1, c2] := by match cs, h with | [c0, c1, c2], _ => exact ⟨c0, c1, c2, rfl⟩
theorem list4 {α : Type} {cs : List α} (h : cs.length = 4) : ∃ c0 c1 c2 c3, cs = [c0, c1, c2, c3] := by match cs, h with | [c0, c1, c2, c3], _ => exact ⟨c0, c1, c2, c3, rfl⟩
theorem list5 {α : Type} {cs : List α} (h : cs.length = 5) : ∃ c0 c1 c2 c3 c4, cs = [c0, c1, c2, c3, c4] := by match cs, h with | [c0, c1, c2, c3, c4], _ => exact ⟨c0, c1, c2, c3, c4, rfl⟩
theorem list6 {α : Type} {cs : List α} (h : cs.length = 6) : ∃ c0 c1 c2 c3 c4 c5, cs = [c0, c1, c2, c3, c4, c5] := by match cs, h with | [c0, c1, c2, c3, c4, c5], _ => exact ⟨c0, c1, c2, c3, c4, c5, rfl⟩
theorem agg_of_cells {cs : Array Value} {l : List Value} (h : (Value.cells (.agg cs)).toList = l) : Value.agg cs = .agg l.toArray := by
  subst h; simp [Value.cells]

theorem op9 : Opens Tryd.prog 9 Kd.string wfZ := Opens.string (fun _ h => h) Tryd.underlying9 (by kernel_rfl)
theorem op2 : Opens Tryd.prog 2 (Kd.int .i64) wfIi64 := Opens.int (fun _ h => h) Tryd.underlying2 (by kernel_rfl)
theorem op38 : Opens Tryd.prog 38 (Kd.slice 2 (Kd.int .i64)) wfLIi64 := Opens.slice Tryd.underlying38 (by kernel_rfl) op2
theorem op22 : Opens Tryd.prog 22 (Kd.slice 38 (Kd.slice 2 (Kd.int .i64))) wfLLIi64 := Opens.slice Tryd.underlying22 (by kernel_rfl) op38
theorem op24 : Opens Tryd.prog 24 k24 wfT24 := by
  refine ⟨by kernel_rfl, fun {H enc w base spare held fuel cs x} h => ?_⟩
  obtain ⟨ys, n, _, _, hl, hlen, hf⟩ := DataW.trod_struct Tryd.underlying24 h
  obtain ⟨c0, c1, c2, c3, rfl⟩ := list4 (hl.trans (show Tryd.prog.cellsOf 24 = 4 by kernel_rfl))
  obtain ⟨a0, g0, q0⟩ := op9.field rfl (hf 0 _ rfl) (by rw [hlen]; decide) (show _ = some c0 from rfl)
  obtain ⟨a1, g1, q1⟩ := op2.field rfl (hf 1 _ rfl) (by rw [hlen]; decide) (show _ = some c1 from rfl)
  obtain ⟨a2, g2, q2⟩ := op2.field rfl (hf 2 _ rfl) (by rw [hlen]; decide) (show _ = some c2 from rfl)
  obtain ⟨a3, g3, q3⟩ := op22.field rfl (hf 3 _ rfl) (by rw [hlen]; decide) (show _ = some c3 from rfl)
  exact ⟨⟨a0, a1, a2, a3⟩, ⟨[c0], [c1, c2, c3], rfl, g0, ⟨[c1], [c2, c3], rfl, g1, ⟨[c2], [c3], rfl, g2, g3⟩⟩⟩, ⟨q0, q1, q2, q3⟩⟩
set_option maxRecDepth 100000 in
theorem tab_of {W : World} (hL : laidMetH Tryd.prog Rows.fnExactTariffTextRow.laid W) : PFnExactTariffText.Tab_ W := by
  rw [MakeChecks.laidMetH_plain _ _ _ (by kernel_rfl)] at hL
  exact Lib.tabIs_of_head (g := 0) (t := 57) (e := 50) (n := 20) (by kernel_rfl) (by kernel_rfl) (by kernel_rfl) (by kernel_rfl) (by kernel_rfl) (by kernel_rfl) (show laidMet Tryd.prog (("internal/strconv.uint64pow10", Lib.tabData .u64 Lib.pow10Tab) :: _) W from hL.tail.tail)
set_option maxRecDepth 100000 in
theorem lifted (os : Os) (started : os.Started) (H : Type) (enc : TypeId × Value → H) :
    ReturnsInHanded {} Tryd.checked os 3 .any (fun w args => (Rows.fnExactTariffTextSpec.pre enc Tryd.prog Tryd.f3 Rows.fnExactTariffTextRow.domain false w args ∧ laidMetH Tryd.prog Rows.fnExactTariffTextRow.laid w) ∧ sizedMet enc Tryd.prog Tryd.f3 (OpenSpec.ofChange Rows.fnExactTariffTextSpec) false w args)
      (Rows.fnExactTariffTextSpec.post enc Tryd.prog Tryd.f3 false true false false) := by
  refine returnsInHanded_of_change_and (C := Tryd.checked) (X := fun w _ => laidMetH Tryd.prog Rows.fnExactTariffTextRow.laid w) (fun _ _ _ hh h => h.of_heap hh) own started (by kernel_rfl) Tryd.func3
    (ChangeSpec.witness_shaped (enc := enc) (C := Tryd.checked) (os := os) (X := fun w _ => laidMetH Tryd.prog Rows.fnExactTariffTextRow.laid w) false (World.laidAll Tryd.prog os Rows.fnExactTariffTextRow.laid) #[.agg #[.string ByteArray.empty, .int .i64 0, .int .i64 0, .slice none 0 0]] 8 (World.laidAll_os _ _ _)
      (World.shaped_of_ZipB (by kernel_rfl) (by kernel_rfl)) (by kernel_rfl) (by kernel_rfl) (by kernel_rfl)
      (by rw [MakeChecks.laidMetH_plain _ _ _ (by kernel_rfl)]; exact laidMet_laidAll _ (by kernel_rfl) (by kernel_rfl))) ?_
  intro W base args ds gs before hval0 hW hcnd hsz0 hL _
  have hval : ∀ (j : Nat) t v, Tryd.f3.params[j]? = some t → args[j]? = some v → Value.okWide Tryd.prog W .any base t v := hval0
  have hW' := hW
  obtain ⟨p, q, hA0, hV, rfl, hfz, hnd⟩ := hW
  have hA : DataW.TrodAll enc Tryd.prog W 0 (fun _ => true) true Tryd.f3.params.toList args.toList ds p := hA0
  rw [Tryd.params3] at hA hval
  obtain ⟨v0, vs0, d0, ds0, p0, q0, hargs, rfl, rfl, h0, r0⟩ := trodAll_cons hA
  obtain ⟨rfl, rfl, rfl⟩ := trodAll_nil r0
  obtain rfl : args = #[v0] := by cases args; simp_all
  obtain ⟨rfl, rfl⟩ := trodVars_none hV
  have k0 := h0
  have lt0 : ∀ x ∈ p0, x.block < W.heap.size := by obtain ⟨m, hm⟩ := k0; exact DataW.trod_lt m _ _ _ hm
  obtain ⟨fu0, hf0⟩ := h0
  obtain ⟨x0, hK0, hw0⟩ := op24.op hf0
  obtain ⟨A0_3, c0_3, _, rfl, -, hl0_3, hr0_3⟩ : ∃ (A0_3 : Option Addr) (c0_3 : Nat) (u_ : Unit), v0 = .agg #[.string x0.f0, .int .i64 x0.f1, .int .i64 x0.f2, .slice A0_3 x0.f3.length c0_3] ∧ True ∧ x0.f3.length ≤ c0_3 ∧ Kd.C (Kd.slice 2 (Kd.int .i64)) W A0_3 x0.f3.length x0.f3 := by
    obtain ⟨cs_, rfl, _⟩ := okWide_struct Tryd.underlying24 (hval 0 24 v0 rfl rfl)
    obtain ⟨A3, c3, e_, l3, g3⟩ := k24_open hK0
    exact ⟨A3, c3, (), (by simpa [Value.cells] using agg_of_cells e_), trivial, l3, g3⟩
  obtain ⟨kk, hp⟩ := Pure.FnExactTariffText x0 hw0
  refine (PFnExactTariffText.laws_FnExactTariffText.calls kk x0.f0 x0.f1 x0.f2 A0_3 c0_3 x0.f3 true W hr0_3 hl0_3 hp (tab_of hL)).mono fun e W' ⟨he, bel0⟩ => ?_
  have bel : Below W.heap.size W W' := bel0
  subst he
  exact ⟨_, rfl, _, _, _, [], _, [], hW', trodAll_mk1 (shut_bool Tryd.underlying4 _), (trodAll_cons_mk (Below.trod laidOut (by kernel_rfl) (of_decide_eq_true (by kernel_rfl)) k0 bel lt0) trodAll_mk0), rfl, bel.frame _, fun h => by cases h⟩
theorem over : Rows.fnExactTariffTextRow.holds Tryd.pinned (OpenSpec.ofChange Rows.fnExactTariffTextSpec) :=
  OpenClaim.holds_of_wide 3 Tryd.f3 rfl rfl rfl rfl rfl rfl rfl ⟨rfl, rfl, rfl, rfl, rfl⟩ rfl rfl rfl rfl rfl (by kernel_rfl) Tryd.func3 (by kernel_rfl)
    (of_decide_eq_true (by kernel_rfl)) (by unfold Func.isWrapper; first | (rw [if_pos (by decide +kernel)]; kernel_rfl) | (rw [if_neg (by decide +kernel)]; exact ⟨rfl, rfl⟩))
    (fun os started H enc _ => lifted os started H enc)
theorem proved : Rows.FnExactTariffTextSaid := over
#print axioms proved
end Go.Proofs.YtdiboljniaolfaaDoor.fnExactTariffText
namespace Go.Proofs.YtdiboljniaolfaaDoor
open Go
/-- The row's card, tied to the program's text. -/
theorem fnExactTariffText_holds : Rows.FnExactTariffTextCardSaid :=
  Claim7.holds_tied_plain_at .later [] [.data, .data, .data] true (true, "84e05c6d02e80004786e8df0ce1332d11044af8ac3fb0ad051337e165727f16a") false fnExactTariffText.proved (fun _ h => by cases h) (by kernel_rfl) (fun _ h => by cases h) fnExactTariffText_row_tie rfl ⟨rfl, rfl⟩ (by kernel_rfl) rfl
    (fun f fn hf hfn => by
      obtain rfl : f = 3 := Option.some.inj ((show Tryd.prog.funcNamed "loop.example/g01011/laws.FnExactTariffText" = some 3 by kernel_rfl).symm.trans hf) |>.symm
      obtain rfl : fn = Tryd.f3 := (Option.some.inj (Tryd.func3.symm.trans hfn)).symm
      exact ⟨by kernel_rfl, fun j t ht => by
        rw [Tryd.params3] at ht
        have hm : t ∈ [24] := by simpa using Array.mem_of_getElem? ht
        have hall : ([24].all fun u => !Tryd.prog.wantsStandIn u) = true := by kernel_rfl
        exact (show Tryd.prog.wantsStandIn t = false by simpa using List.all_eq_true.1 hall t hm)⟩)
    (by kernel_rfl)
end Go.Proofs.YtdiboljniaolfaaDoor
