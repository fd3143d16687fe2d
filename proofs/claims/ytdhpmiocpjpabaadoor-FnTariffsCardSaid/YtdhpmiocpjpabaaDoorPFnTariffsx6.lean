-- written by wip/xprint.py, a program of this session, for this claim; not trusted: Lean checks it.
import Derived.Shelf.Strconv.ErrVarParseInt
import Derived.Shelf.Strings.Prefix
import Derived.WalkSmall
import Derived.Shelf.Strings.Split
import Derived.Shelf.Strings.Search2
import Derived.Shelf.Strings.Search3
import Derived.Shelf.Strings.Count
import Derived.Lib.SplitLaws
import Derived.Test.YtdhpmiocpjpabaaDoorPFnTariffsx0
import Derived.Test.YtdhpmiocpjpabaaDoorPFnTariffsx5
namespace Go.Proofs.YtdhpmiocpjpabaaDoor.PFnTariffs
open Go.RowKit Go.Proofs.YtdhpmiocpjpabaaDoorW.PrintWords Go.Proofs.YtdhpmiocpjpabaaDoorW.PrintLast Go.Proofs.YtdhpmiocpjpabaaDoorW.PrintMore
attribute [local go_sem] leq_less_ max2_int min2_int max_two min_two max_three min_three max_four min_four   -- for this text's walks alone
set_option linter.unusedVariables false
set_option linter.unusedSimpArgs false

/-! ### stringslite_Index: function 54 -/
def lsplitn__ren : Go.Shelf.Ren := ⟨fun | 147 => 21 | 221 => 37 | 268 => 51 | 138 => 52 | 143 => 53 | 195 => 63 | 197 => 64 | 218 => 65 | 219 => 54 | 260 => 82 | 217 => 66 | 225 => 67 | 224 => 68 | 267 => 69 | 266 => 83 | 314 => 84 | n => n, fun | 9 => 9 | 3 => 3 | 31 => 41 | 4 => 4 | 0 => 0 | 105 => 77 | 21 => 21 | 5 => 5 | 46 => 75 | 119 => 107 | 139 => 110 | 138 => 109 | 146 => 96 | 51 => 95 | n => n, fun | 1 => 0 | 3 => 4 | 4 => 5 | n => n⟩
theorem lsplitn_ : Go.Proofs.Lays.n147 Tryd.prog lsplitn__ren := {
  mixed := by kernel_rfl
  f138 := Tryd.func52.trans (congrArg some (by kernel_rfl))
  f143 := Tryd.func53.trans (congrArg some (by kernel_rfl))
  f147 := Tryd.func21.trans (congrArg some (by kernel_rfl))
  f195 := Tryd.func63.trans (congrArg some (by kernel_rfl))
  f197 := Tryd.func64.trans (congrArg some (by kernel_rfl))
  f217 := Tryd.func66.trans (congrArg some (by kernel_rfl))
  f218 := Tryd.func65.trans (congrArg some (by kernel_rfl))
  f219 := Tryd.func54.trans (congrArg some (by kernel_rfl))
  f221 := Tryd.func37.trans (congrArg some (by kernel_rfl))
  f224 := Tryd.func68.trans (congrArg some (by kernel_rfl))
  f225 := Tryd.func67.trans (congrArg some (by kernel_rfl))
  f260 := Tryd.func82.trans (congrArg some (by kernel_rfl))
  f266 := Tryd.func83.trans (congrArg some (by kernel_rfl))
  f267 := Tryd.func69.trans (congrArg some (by kernel_rfl))
  f268 := Tryd.func51.trans (congrArg some (by kernel_rfl))
  f314 := Tryd.func84.trans (congrArg some (by kernel_rfl))
  t0 := Tryd.underlying0
  a0 := Tryd.isAgg0
  z0 := Tryd.sizeOf0
  v0 := Tryd.zeroValue0
  t3 := Tryd.underlying3
  a3 := Tryd.isAgg3
  z3 := Tryd.sizeOf3
  v3 := Tryd.zeroValue3
  t4 := Tryd.underlying4
  a4 := Tryd.isAgg4
  z4 := Tryd.sizeOf4
  v4 := Tryd.zeroValue4
  t5 := Tryd.underlying5
  a5 := Tryd.isAgg5
  z5 := Tryd.sizeOf5
  v5 := Tryd.zeroValue5
  t9 := Tryd.underlying9
  a9 := Tryd.isAgg9
  z9 := Tryd.sizeOf9
  v9 := Tryd.zeroValue9
  t21 := Tryd.underlying21
  a21 := Tryd.isAgg21
  z21 := Tryd.sizeOf21
  v21 := Tryd.zeroValue21
  t31 := Tryd.underlying41
  a31 := Tryd.isAgg41
  z31 := Tryd.sizeOf41
  v31 := Tryd.zeroValue41
  t46 := Tryd.underlying75
  a46 := Tryd.isAgg75
  z46 := Tryd.sizeOf75
  v46 := Tryd.zeroValue75
  t51 := Tryd.underlying95
  a51 := Tryd.isAgg95
  z51 := Tryd.sizeOf95
  v51 := Tryd.zeroValue95
  t105 := Tryd.underlying77
  a105 := Tryd.isAgg77
  z105 := Tryd.sizeOf77
  v105 := Tryd.zeroValue77
  t119 := Tryd.underlying107
  a119 := Tryd.isAgg107
  z119 := Tryd.sizeOf107
  t138 := Tryd.underlying109
  a138 := Tryd.isAgg109
  z138 := Tryd.sizeOf109
  v138 := Tryd.zeroValue109
  t139 := Tryd.underlying110
  a139 := Tryd.isAgg110
  z139 := Tryd.sizeOf110
  v139 := Tryd.zeroValue110
  t146 := Tryd.underlying96
  a146 := Tryd.isAgg96
  z146 := Tryd.sizeOf96
  v146 := Tryd.zeroValue96
  g1 := by kernel_rfl
  g3 := by kernel_rfl
  g4 := by kernel_rfl }

/-- internal/stringslite.Index of one byte. -/
def stringslite_Index.f (a0 : ByteArray) (a1 : ByteArray) : Option Int := match a1.data.toList with
  | [c] => some (Lib.indexByte a0.data.toList c)
  | _ => none
theorem stringslite_Index.calls (a0 : ByteArray) (a1 : ByteArray) (r : Int) (w : World) (h : stringslite_Index.f a0 a1 = some r) :
    Calls Tryd.prog 54 #[.string a0, .string a1] w fun e w' => e = .returned (.int .i64 r) ∧ Drawn0 w w' := by
  obtain ⟨⟨l⟩⟩ := a1
  unfold stringslite_Index.f at h
  match l, h with
  | [c], h =>
    obtain rfl := Option.some.inj h
    exact (Any.stringslite_Index_one { lsplitn_ with } a0 c w).mono fun e w' hw => ⟨hw.1, by rw [hw.2]; exact Drawn0.refl _⟩
  | [], h => cases h
  | _ :: _ :: _, h => cases h

-- function 53 is told with the one that calls it

-- function 65 is told with the one that calls it

-- function 52 is told with the one that calls it

-- function 37 is told with the one that calls it

/-! ### strings_SplitN: function 21 -/

/-- strings.SplitN at one byte, into some pieces at most. -/
def strings_SplitN.f (a0 : ByteArray) (a1 : ByteArray) (a2 : Int) : Option (List ByteArray) := if a1.toList = [32] ∧ a2 = 9 ∧ a0.size < 4294967281 then some (Lib.splitB ⟨#[32]⟩ 0 (min 9 (a0.size + 1) - 1) a0) else none
theorem strings_SplitN.hi9 : (Tryd.prog.info? (lsplitn__ren.t 9)).map (fun i => (i.zero, i.size, i.bytes)) = some (some (.string ByteArray.empty), 1, 16) := by kernel_rfl
theorem strings_SplitN.gen (s : ByteArray) (w : World) (hs : s.size < 4294967281) (N : Nat) (hN : N = min 9 (s.size + 1)) : Calls Tryd.prog 37 #[.string s, .string ⟨#[32]⟩, .int .i64 ((0 : Nat) : Int), .int .i64 9] w fun e w' => e = .returned (.slice (some ⟨w.heap.size, 0, none⟩) (Lib.splitB ⟨#[32]⟩ 0 (N - 1) s).length N) ∧ w' = w.alloc (.cells (Lib.cellsOf (Lib.splitB ⟨#[32]⟩ 0 (N - 1) s) N) 9) :=
  Any.strings_genSplit_core { lsplitn_ with } strings_SplitN.hi9 s ⟨#[32]⟩ 0 9 N w hs (by decide) (Nat.zero_le _) (fun x c _ => (Any.strings_Index_one { lsplitn_ with } x 32 _).mono (fun e w' h => ⟨h.1.trans (by rw [show Lib.indexB x ⟨#[32]⟩ = Lib.indexByte x.data.toList 32 from Lib.index_one _ _]), h.2⟩)) ((Any.strings_Count_one { lsplitn_ with } s 32 w).mono (fun e w' h => ⟨h.1.trans (by rw [show Lib.countB s ⟨#[32]⟩ = Lib.countByte s.data.toList 32 from Lib.count_one _ _]), h.2⟩)) (by decide) (by decide) (by rw [if_neg (by decide)]; omega)
set_option maxHeartbeats 2000000 in
theorem strings_SplitN.calls (a0 : ByteArray) (a1 : ByteArray) (a2 : Int) (r : List ByteArray) (w : World) (h : strings_SplitN.f a0 a1 a2 = some r) :
    Calls Tryd.prog 21 #[.string a0, .string a1, .int .i64 a2] w fun e w' => ∃ v0_ : Value, e = .returned (v0_) ∧ Kd.R Kd.string 9 w' w.heap.size (fun _ => True) v0_ r ∧ Below w.heap.size w w' := by
  unfold strings_SplitN.f at h
  by_cases hcc : a1.toList = [32] ∧ a2 = 9 ∧ a0.size < 4294967281
  · rw [if_pos hcc] at h
    obtain rfl := Option.some.inj h
    clear h
    obtain ⟨h1, rfl, hs⟩ := hcc
    obtain rfl : a1 = ⟨#[32]⟩ := by
      obtain ⟨⟨l⟩⟩ := a1
      rw [Lib.toList_data] at h1
      have : l = [32] := h1
      rw [this]
    obtain ⟨N, hN⟩ : ∃ N, N = min 9 (a0.size + 1) := ⟨_, rfl⟩
    have c := strings_SplitN.gen a0 w hs N hN
    rw [← hN]
    have hlen := Lib.splitB_length_le ⟨#[32]⟩ 0 (N - 1) a0
    have hN1 : 1 ≤ N := by omega
    have hN9 : N ≤ 9 := by omega
    clear hN
    generalize Lib.splitB ⟨#[32]⟩ 0 (N - 1) a0 = L at c hlen ⊢
    have hle : L.length ≤ N := by omega
    have hfin : Kd.R Kd.string 9 (w.alloc (.cells (Lib.cellsOf L N) 9)) w.heap.size (fun _ => True) (.slice (some ⟨w.heap.size, 0, none⟩) L.length N) L ∧ Below w.heap.size w (w.alloc (.cells (Lib.cellsOf L N) 9)) := by
      refine ⟨Kd.R_of_own ?_ (fun _ _ => trivial), below_alloc (Below.refl _ _) _⟩
      exact ⟨by simp [encs], Or.inr ⟨w.heap.size, N, _, rfl, Nat.le_refl _, (by show (w.heap.push _)[w.heap.size]? = _; exact Array.getElem?_push_size), hle, by unfold maxLen; omega, by rw [Lib.cellsOf_size hle]; simp, by simp [encs, Lib.cellsOf]⟩⟩
    clear hlen hle
    go_enter Tryd.func21, Tryd.ntmps21
    go_wp2_with (go_at_call 37; refine c.mono ?_; rintro e w' ⟨rfl, hw⟩; rw [hw])
    go_ret
    exact ⟨_, rfl, hfin.1, hfin.2⟩
  · rw [if_neg hcc] at h
    cases h

/-! ### stringslite_Cut: function 38 -/
def stringslite_Cut.f (a0 : ByteArray) (a1 : ByteArray) : Option (ByteArray × ByteArray × Bool) := (stringslite_Index.f a0 a1).bind fun t219 => (if t219 ≥ 0 then (if 0 ≤ t219 then (if t219 ≤ (a0.size : Int) then (if 0 ≤ (wrap64 (t219 + (a1.size : Int))) then (if (wrap64 (t219 + (a1.size : Int))) ≤ (a0.size : Int) then (some (a0.extract 0 (t219 : Int).toNat, a0.extract ((wrap64 (t219 + (a1.size : Int))) : Int).toNat a0.size, true)) else (none)) else (none)) else (none)) else (none)) else (some (a0, (⟨#[]⟩ : ByteArray), false)))
set_option maxHeartbeats 8000000 in
set_option maxRecDepth 100000 in
theorem stringslite_Cut.calls (a0 : ByteArray) (a1 : ByteArray) (r1 : ByteArray) (r2 : ByteArray) (r3 : Bool) (w : World) (h : stringslite_Cut.f a0 a1 = some (r1, r2, r3)) :
  Calls Tryd.prog 38 #[.string a0, .string a1] w fun e w' => e = .returned (.tuple #[.string r1, .string r2, .bool r3]) ∧ Drawn0 w w' := by
 have H : ((stringslite_Index.f a0 a1).bind fun t219 => (if t219 ≥ 0 then (if 0 ≤ t219 then (if t219 ≤ (a0.size : Int) then (if 0 ≤ (wrap64 (t219 + (a1.size : Int))) then (if (wrap64 (t219 + (a1.size : Int))) ≤ (a0.size : Int) then (some (a0.extract 0 (t219 : Int).toNat, a0.extract ((wrap64 (t219 + (a1.size : Int))) : Int).toNat a0.size, true)) else (none)) else (none)) else (none)) else (none)) else (some (a0, (⟨#[]⟩ : ByteArray), false)))) = some (r1, r2, r3) := h
 clear h
 replace H := Option.bind_eq_some_iff.mp H
 obtain ⟨t219, A30, H⟩ := H
 replace H : (if t219 ≥ 0 then (if 0 ≤ t219 then (if t219 ≤ (a0.size : Int) then (if 0 ≤ (wrap64 (t219 + (a1.size : Int))) then (if (wrap64 (t219 + (a1.size : Int))) ≤ (a0.size : Int) then (some (a0.extract 0 (t219 : Int).toNat, a0.extract ((wrap64 (t219 + (a1.size : Int))) : Int).toNat a0.size, true)) else (none)) else (none)) else (none)) else (none)) else (some (a0, (⟨#[]⟩ : ByteArray), false))) = some (r1, r2, r3) := H
 have A3 := Aside0.mk A30
 clear A30
 by_cases c4 : t219 ≥ 0
 ·rw [if_pos c4] at H
  have c4b0 : decide (0 ≤ t219) = true := decide_eq_true c4
  clear c4
  by_cases c5 : 0 ≤ t219
  ·rw [if_pos c5] at H
   have c5b0 := eq_true c5
   have c5b1 : decide (0 ≤ t219) = true := decide_eq_true c5
   clear c5
   by_cases c6 : t219 ≤ (a0.size : Int)
   ·rw [if_pos c6] at H
    have c6b0 := eq_true c6
    have c6b1 : decide (t219 ≤ (a0.size : Int)) = true := decide_eq_true c6
    clear c6
    obtain ⟨ji7, hji7⟩ : ∃ j_ : Int, (wrap64 (t219 + (a1.size : Int))) = j_ := ⟨_, rfl⟩
    replace H : (if 0 ≤ (ji7) then (if (ji7) ≤ (a0.size : Int) then (some (a0.extract 0 (t219 : Int).toNat, a0.extract ((ji7) : Int).toNat a0.size, true)) else (none)) else (none)) = some (r1, r2, r3) := by first | (rw [hji7] at H; exact H) | (simp only [hji7] at H ⊢; exact H)
    (try rw [hji7] at A3)
    have hji7w : (IntKind.i64.wrap (t219 + (a1.size : Int))) = ji7 := (i64_w _).trans hji7
    by_cases c8 : 0 ≤ (ji7)
    ·rw [if_pos c8] at H
     have c8b0 := eq_true c8
     have c8b1 : decide (0 ≤ (ji7)) = true := decide_eq_true c8
     clear c8
     by_cases c9 : (ji7) ≤ (a0.size : Int)
     ·rw [if_pos c9] at H
      have c9b0 := eq_true c9
      have c9b1 : decide ((ji7) ≤ (a0.size : Int)) = true := decide_eq_true c9
      clear c9
      simp only [Option.some.injEq, Prod.mk.injEq] at H
      obtain ⟨rfl, rfl, rfl⟩ := H
      go_enter Tryd.func38, Tryd.ntmps38
      go_wp2_with (first | (go_at_call 54; (with_reducible refine (stringslite_Index.calls a0 a1 t219 _ A3.out).mono ?_); rintro e w' ⟨rfl, ⟨nd, rfl⟩⟩; (try first | exact ⟨rfl, _, World.drewN_drewN _ _ _⟩ | exact ⟨rfl, _, Eq.trans (World.drewN_drewN _ _ _) (congrArg (World.drewN _) (Nat.add_assoc _ _ _))⟩)))
      repeat (go_quiet (first | (go_at_call 54; (with_reducible refine (stringslite_Index.calls a0 a1 t219 _ A3.out).mono ?_); rintro e w' ⟨rfl, ⟨nd, rfl⟩⟩; (try first | exact ⟨rfl, _, World.drewN_drewN _ _ _⟩ | exact ⟨rfl, _, Eq.trans (World.drewN_drewN _ _ _) (congrArg (World.drewN _) (Nat.add_assoc _ _ _))⟩))); try go_wp2_with (first | (go_at_call 54; (with_reducible refine (stringslite_Index.calls a0 a1 t219 _ A3.out).mono ?_); rintro e w' ⟨rfl, ⟨nd, rfl⟩⟩; (try first | exact ⟨rfl, _, World.drewN_drewN _ _ _⟩ | exact ⟨rfl, _, Eq.trans (World.drewN_drewN _ _ _) (congrArg (World.drewN _) (Nat.add_assoc _ _ _))⟩))))
      go_ret3
      exact ⟨by first | rfl | (simp; done) | (simp only [← hji7] <;> (first | rfl | simp)) | (simp [*]; done), by repeat (first | exact Drawn0.refl _ | apply Drawn0.step)⟩
     ·rw [if_neg c9] at H
      exact absurd H (by simp)
    ·rw [if_neg c8] at H
     exact absurd H (by simp)
   ·rw [if_neg c6] at H
    exact absurd H (by simp)
  ·rw [if_neg c5] at H
   exact absurd H (by simp)
 ·rw [if_neg c4] at H
  have c4b0 : decide (0 ≤ t219) = false := decide_eq_false c4
  clear c4
  simp only [Option.some.injEq, Prod.mk.injEq] at H
  obtain ⟨rfl, rfl, rfl⟩ := H
  go_enter Tryd.func38, Tryd.ntmps38
  go_wp2_with (first | (go_at_call 54; (with_reducible refine (stringslite_Index.calls a0 a1 t219 _ A3.out).mono ?_); rintro e w' ⟨rfl, ⟨nd, rfl⟩⟩; (try first | exact ⟨rfl, _, World.drewN_drewN _ _ _⟩ | exact ⟨rfl, _, Eq.trans (World.drewN_drewN _ _ _) (congrArg (World.drewN _) (Nat.add_assoc _ _ _))⟩)))
  repeat (go_quiet (first | (go_at_call 54; (with_reducible refine (stringslite_Index.calls a0 a1 t219 _ A3.out).mono ?_); rintro e w' ⟨rfl, ⟨nd, rfl⟩⟩; (try first | exact ⟨rfl, _, World.drewN_drewN _ _ _⟩ | exact ⟨rfl, _, Eq.trans (World.drewN_drewN _ _ _) (congrArg (World.drewN _) (Nat.add_assoc _ _ _))⟩))); try go_wp2_with (first | (go_at_call 54; (with_reducible refine (stringslite_Index.calls a0 a1 t219 _ A3.out).mono ?_); rintro e w' ⟨rfl, ⟨nd, rfl⟩⟩; (try first | exact ⟨rfl, _, World.drewN_drewN _ _ _⟩ | exact ⟨rfl, _, Eq.trans (World.drewN_drewN _ _ _) (congrArg (World.drewN _) (Nat.add_assoc _ _ _))⟩))))
  go_ret3
  exact ⟨by first | rfl | (simp; done) | (simp [*]; done), by repeat (first | exact Drawn0.refl _ | apply Drawn0.step)⟩

/-! ### strings_Cut: function 22 -/
def strings_Cut.f (a0 : ByteArray) (a1 : ByteArray) : Option (ByteArray × ByteArray × Bool) := (stringslite_Cut.f a0 a1).bind fun bt220 => (some (bt220.1, bt220.2.1, bt220.2.2))
set_option maxHeartbeats 8000000 in
set_option maxRecDepth 100000 in
theorem strings_Cut.calls (a0 : ByteArray) (a1 : ByteArray) (r1 : ByteArray) (r2 : ByteArray) (r3 : Bool) (w : World) (h : strings_Cut.f a0 a1 = some (r1, r2, r3)) :
  Calls Tryd.prog 22 #[.string a0, .string a1] w fun e w' => e = .returned (.tuple #[.string r1, .string r2, .bool r3]) ∧ Drawn0 w w' := by
 have H : ((stringslite_Cut.f a0 a1).bind fun bt220 => (some (bt220.1, bt220.2.1, bt220.2.2))) = some (r1, r2, r3) := h
 clear h
 replace H := Option.bind_eq_some_iff.mp H
 obtain ⟨⟨t220, t221, t222⟩, A30, H⟩ := H
 replace H : (some (t220, t221, t222)) = some (r1, r2, r3) := H
 have A3 := Aside0.mk A30
 clear A30
 simp only [Option.some.injEq, Prod.mk.injEq] at H
 obtain ⟨rfl, rfl, rfl⟩ := H
 go_enter Tryd.func22, Tryd.ntmps22
 go_wp2_with (first | ((with_reducible refine gate_callee (f := 38) rfl ?_); refine goesL_ (some 9) rfl rfl Tryd.func38 (by kernel_rfl) rfl #[.string a0, .string a1] rfl (by (try simp only [List.map_toArray, List.map_cons, List.map_nil]); first | done | rfl | (simp only [List.length_drop, List.length_take]; rfl)) ?_; (with_reducible refine (stringslite_Cut.calls a0 a1 t220 t221 t222 _ A3.out).mono ?_); rintro e w' ⟨rfl, ⟨nd, rfl⟩⟩; refine ⟨_, rfl, ?_⟩))
 go_ret3
 exact ⟨by first | rfl | (simp; done) | (simp [*]; done), by repeat (first | exact Drawn0.refl _ | apply Drawn0.step)⟩

-- function 85 is told with the one that calls it

-- function 86 is told with the one that calls it

-- function 70 is told with the one that calls it

-- function 55 is told with the one that calls it

-- function 87 is told with the one that calls it

-- NOT PRINTED: function 71 (strconv_syntaxError)

-- NOT PRINTED: function 72 (strconv_rangeError)

-- function 88 is told with the one that calls it

-- function 95 is told with the one that calls it

-- function 89 is told with the one that calls it

-- NOT PRINTED: function 73 (strconv_baseError)

-- NOT PRINTED: function 74 (strconv_bitSizeError)

-- function 56 is told with the one that calls it

-- function 39 is told with the one that calls it

-- function 75 is told with the one that calls it

-- function 57 is told with the one that calls it

-- function 40 is told with the one that calls it

/-! ### impl_ReadDecimal: function 23 -/
def lpint__ren : Go.Shelf.Ren := ⟨fun | 174 => 39 | 247 => 55 | 245 => 56 | 287 => 70 | 279 => 71 | 280 => 72 | 281 => 73 | 282 => 74 | 321 => 85 | 322 => 86 | 316 => 87 | 171 => 89 | 205 => 88 | 243 => 95 | 246 => 59 | 283 => 76 | 284 => 77 | 285 => 78 | 286 => 79 | 129 => 91 | 317 => 90 | 318 => 92 | 319 => 93 | 320 => 94 | 337 => 96 | 338 => 97 | n => n, fun | 9 => 9 | 3 => 3 | 2 => 2 | 75 => 61 | 85 => 62 | 4 => 4 | 167 => 81 | 5 => 5 | 53 => 55 | 175 => 82 | 46 => 75 | 168 => 84 | 37 => 22 | 0 => 0 | 210 => 101 | 21 => 21 | 127 => 111 | 145 => 114 | 143 => 112 | 171 => 89 | 173 => 92 | 212 => 104 | 51 => 95 | 20 => 20 | 213 => 105 | 232 => 116 | 233 => 117 | 80 => 118 | n => n, fun | 15 => 1 | 16 => 2 | 17 => 3 | 18 => 6 | 19 => 7 | n => n⟩
theorem lpint_ : Go.Proofs.LaysC.n174 Tryd.prog lpint__ren := {
  mixed := by kernel_rfl
  f129 := Tryd.func91.trans (congrArg some (by kernel_rfl))
  f171 := Tryd.func89.trans (congrArg some (by kernel_rfl))
  f174 := Tryd.func39.trans (congrArg some (by kernel_rfl))
  f205 := Tryd.func88.trans (congrArg some (by kernel_rfl))
  f243 := Tryd.func95.trans (congrArg some (by kernel_rfl))
  f245 := Tryd.func56.trans (congrArg some (by kernel_rfl))
  f246 := Tryd.func59.trans (congrArg some (by kernel_rfl))
  f247 := Tryd.func55.trans (congrArg some (by kernel_rfl))
  f279 := Tryd.func71.trans (congrArg some (by kernel_rfl))
  f280 := Tryd.func72.trans (congrArg some (by kernel_rfl))
  f281 := Tryd.func73.trans (congrArg some (by kernel_rfl))
  f282 := Tryd.func74.trans (congrArg some (by kernel_rfl))
  f283 := Tryd.func76.trans (congrArg some (by kernel_rfl))
  f284 := Tryd.func77.trans (congrArg some (by kernel_rfl))
  f285 := Tryd.func78.trans (congrArg some (by kernel_rfl))
  f286 := Tryd.func79.trans (congrArg some (by kernel_rfl))
  f287 := Tryd.func70.trans (congrArg some (by kernel_rfl))
  f316 := Tryd.func87.trans (congrArg some (by kernel_rfl))
  f317 := Tryd.func90.trans (congrArg some (by kernel_rfl))
  f318 := Tryd.func92.trans (congrArg some (by kernel_rfl))
  f319 := Tryd.func93.trans (congrArg some (by kernel_rfl))
  f320 := Tryd.func94.trans (congrArg some (by kernel_rfl))
  f321 := Tryd.func85.trans (congrArg some (by kernel_rfl))
  f322 := Tryd.func86.trans (congrArg some (by kernel_rfl))
  f337 := Tryd.func96.trans (congrArg some (by kernel_rfl))
  f338 := Tryd.func97.trans (congrArg some (by kernel_rfl))
  t0 := Tryd.underlying0
  a0 := Tryd.isAgg0
  z0 := Tryd.sizeOf0
  v0 := Tryd.zeroValue0
  t2 := Tryd.underlying2
  a2 := Tryd.isAgg2
  z2 := Tryd.sizeOf2
  v2 := Tryd.zeroValue2
  t3 := Tryd.underlying3
  a3 := Tryd.isAgg3
  z3 := Tryd.sizeOf3
  v3 := Tryd.zeroValue3
  t4 := Tryd.underlying4
  a4 := Tryd.isAgg4
  z4 := Tryd.sizeOf4
  v4 := Tryd.zeroValue4
  t5 := Tryd.underlying5
  a5 := Tryd.isAgg5
  z5 := Tryd.sizeOf5
  v5 := Tryd.zeroValue5
  t9 := Tryd.underlying9
  a9 := Tryd.isAgg9
  z9 := Tryd.sizeOf9
  v9 := Tryd.zeroValue9
  t20 := Tryd.underlying20
  a20 := Tryd.isAgg20
  z20 := Tryd.sizeOf20
  v20 := Tryd.zeroValue20
  t21 := Tryd.underlying21
  a21 := Tryd.isAgg21
  z21 := Tryd.sizeOf21
  v21 := Tryd.zeroValue21
  t37 := Tryd.underlying22
  a37 := Tryd.isAgg22
  z37 := Tryd.sizeOf22
  v37 := Tryd.zeroValue22
  t46 := Tryd.underlying75
  a46 := Tryd.isAgg75
  z46 := Tryd.sizeOf75
  v46 := Tryd.zeroValue75
  t51 := Tryd.underlying95
  a51 := Tryd.isAgg95
  z51 := Tryd.sizeOf95
  v51 := Tryd.zeroValue95
  t53 := Tryd.underlying55
  a53 := Tryd.isAgg55
  z53 := Tryd.sizeOf55
  v53 := Tryd.zeroValue55
  t75 := Tryd.underlying61
  a75 := Tryd.isAgg61
  z75 := Tryd.sizeOf61
  v75 := Tryd.zeroValue61
  t85 := Tryd.underlying62
  a85 := Tryd.isAgg62
  z85 := Tryd.sizeOf62
  v85 := Tryd.zeroValue62
  t127 := Tryd.underlying111
  a127 := Tryd.isAgg111
  z127 := Tryd.sizeOf111
  v127 := Tryd.zeroValue111
  t143 := Tryd.underlying112
  a143 := Tryd.isAgg112
  z143 := Tryd.sizeOf112
  v143 := Tryd.zeroValue112
  t145 := Tryd.underlying114
  a145 := Tryd.isAgg114
  z145 := Tryd.sizeOf114
  v145 := Tryd.zeroValue114
  t167 := Tryd.underlying81
  a167 := Tryd.isAgg81
  z167 := Tryd.sizeOf81
  v167 := Tryd.zeroValue81
  t168 := Tryd.underlying84
  a168 := Tryd.isAgg84
  z168 := Tryd.sizeOf84
  v168 := Tryd.zeroValue84
  t171 := Tryd.underlying89
  a171 := Tryd.isAgg89
  z171 := Tryd.sizeOf89
  v171 := Tryd.zeroValue89
  t173 := Tryd.underlying92
  a173 := Tryd.isAgg92
  z173 := Tryd.sizeOf92
  v173 := Tryd.zeroValue92
  t175 := Tryd.underlying82
  a175 := Tryd.isAgg82
  z175 := Tryd.sizeOf82
  v175 := Tryd.zeroValue82
  t210 := Tryd.underlying101
  a210 := Tryd.isAgg101
  z210 := Tryd.sizeOf101
  v210 := Tryd.zeroValue101
  t212 := Tryd.underlying104
  a212 := Tryd.isAgg104
  z212 := Tryd.sizeOf104
  v212 := Tryd.zeroValue104
  t213 := Tryd.underlying105
  a213 := Tryd.isAgg105
  z213 := Tryd.sizeOf105
  t232 := Tryd.underlying116
  a232 := Tryd.isAgg116
  z232 := Tryd.sizeOf116
  v232 := Tryd.zeroValue116
  t233 := Tryd.underlying117
  a233 := Tryd.isAgg117
  z233 := Tryd.sizeOf117
  v233 := Tryd.zeroValue117
  g15 := by kernel_rfl
  g16 := by kernel_rfl
  g17 := by kernel_rfl
  g18 := by kernel_rfl
  g19 := by kernel_rfl
  t80 := Tryd.underlying118
  a80 := Tryd.isAgg118
  z80 := Tryd.sizeOf118
  v80 := Tryd.zeroValue118
  i0 := by kernel_rfl
  i2 := by kernel_rfl
  i3 := by kernel_rfl
  i4 := by kernel_rfl
  i5 := by kernel_rfl
  i9 := by kernel_rfl
  i20 := by kernel_rfl
  i21 := by kernel_rfl
  i37 := by kernel_rfl
  i46 := by kernel_rfl
  i51 := by kernel_rfl
  i53 := by kernel_rfl
  i75 := by kernel_rfl
  i80 := by kernel_rfl
  i85 := by kernel_rfl
  i127 := by kernel_rfl
  i143 := by kernel_rfl
  i145 := by kernel_rfl
  i167 := by kernel_rfl
  i168 := by kernel_rfl
  i171 := by kernel_rfl
  i173 := by kernel_rfl
  i175 := by kernel_rfl
  i210 := by kernel_rfl
  i212 := by kernel_rfl
  i232 := by kernel_rfl
  i233 := by kernel_rfl
  m15 := by kernel_rfl
  m16 := by kernel_rfl
  m17 := by kernel_rfl
  m18 := by kernel_rfl
  m19 := by kernel_rfl
  c0 := by kernel_rfl
  c2 := by kernel_rfl
  c3 := by kernel_rfl
  c4 := by kernel_rfl
  c5 := by kernel_rfl
  c9 := by kernel_rfl
  c20 := by kernel_rfl
  c21 := by kernel_rfl
  c37 := by kernel_rfl
  c46 := by kernel_rfl
  c51 := by kernel_rfl
  c53 := by kernel_rfl
  c75 := by kernel_rfl
  c80 := by kernel_rfl
  c85 := by kernel_rfl
  c127 := by kernel_rfl
  c143 := by kernel_rfl
  c145 := by kernel_rfl
  c167 := by kernel_rfl
  c168 := by kernel_rfl
  c171 := by kernel_rfl
  c173 := by kernel_rfl
  c175 := by kernel_rfl
  c210 := by kernel_rfl
  c212 := by kernel_rfl
  c213 := by kernel_rfl
  c232 := by kernel_rfl
  c233 := by kernel_rfl }
def ltrimp__ren : Go.Shelf.Ren := ⟨fun | 101 => 40 | 208 => 57 | 206 => 75 | n => n, fun | 9 => 9 | 4 => 4 | 3 => 3 | n => n, fun | n => n⟩
theorem ltrimp_ : Go.Proofs.Lays.n101 Tryd.prog ltrimp__ren := {
  mixed := by kernel_rfl
  f101 := Tryd.func40.trans (congrArg some (by kernel_rfl))
  f206 := Tryd.func75.trans (congrArg some (by kernel_rfl))
  f208 := Tryd.func57.trans (congrArg some (by kernel_rfl))
  t3 := Tryd.underlying3
  a3 := Tryd.isAgg3
  z3 := Tryd.sizeOf3
  v3 := Tryd.zeroValue3
  t4 := Tryd.underlying4
  a4 := Tryd.isAgg4
  z4 := Tryd.sizeOf4
  v4 := Tryd.zeroValue4
  t9 := Tryd.underlying9
  a9 := Tryd.isAgg9
  z9 := Tryd.sizeOf9
  v9 := Tryd.zeroValue9 }

/-- impl.ReadDecimal: strconv.ParseInt at base 10 for an int64, the length behind a sign, and the number's own text. -/
def impl_ReadDecimal.f (a0 : ByteArray) : Option (Int × Bool) := if a0.size ≤ 281474976710656 then
    match Lib.parseIntB 64 a0.data.toList with
    | .ok v => if 18 < (Lib.trimPrefix a0.data.toList [45]).length then some (0, false) else (impl_Decimal.f v).bind fun t => if t.toList == a0.toList then some (v, true) else some (0, false)
    | _ => some (0, false)
  else none
set_option maxHeartbeats 4000000 in
theorem impl_ReadDecimal.calls (a0 : ByteArray) (r1 : Int) (r2 : Bool) (w : World) (h : impl_ReadDecimal.f a0 = some (r1, r2)) (hT_ : Tab_ w) :
    Calls Tryd.prog 23 #[.string a0] w fun e w' => e = .returned (.tuple #[.int .i64 r1, .bool r2]) ∧ Below w.heap.size w w' := by
  unfold impl_ReadDecimal.f at h
  by_cases hlim : a0.size ≤ 281474976710656
  · rw [if_pos hlim] at h
    rcases hP : Lib.parseIntB 64 a0.data.toList with v | _ | _
    · skip
      rw [hP] at h
      simp only at h
      have cp : Calls Tryd.prog 39 #[.string a0, .int .i64 10, .int .i64 64] w fun e w' => e = .returned (.tuple #[.int .i64 v, .nilIface]) ∧ Below w.heap.size w w' := (Any.strconv_ParseInt_10_at64_ok lpint_ a0 (by omega) v hP w).mono fun e w' hw => ⟨hw.1, by
        rcases hw.2 with rfl | ⟨t, rfl⟩
        · exact Below.refl _ _
        · exact Lib.bytesWorld_below _ _ _⟩
      have ct : ∀ W, Calls Tryd.prog 40 #[.string a0, .string ⟨#[45]⟩] W fun e w' => e = .returned (.string ⟨(Lib.trimPrefix a0.data.toList [45]).toArray⟩) ∧ w' = W := fun W => Any.strings_TrimPrefix ltrimp_ a0 ⟨#[45]⟩ W
      have hz : (⟨(Lib.trimPrefix a0.data.toList [45]).toArray⟩ : ByteArray).size = (Lib.trimPrefix a0.data.toList [45]).length := by simp [ByteArray.size]
      rw [← hz] at h
      generalize (⟨(Lib.trimPrefix a0.data.toList [45]).toArray⟩ : ByteArray) = u at h ct
      clear hz hP
      by_cases hl : 18 < u.size
      · rw [if_pos hl] at h
        obtain ⟨rfl, rfl⟩ := Prod.mk.inj (Option.some.inj h)
        have hl' : (18 : Int) < (u.size : Int) := by omega
        clear h
        go_enter Tryd.func23, Tryd.ntmps23
        go_wp2_with (go_at_call 39; refine cp.mono ?_; rintro e W1 ⟨rfl, hb⟩)
        go_wp2_with (go_at_call 40; refine (ct _).mono ?_; rintro e W2 ⟨rfl, hw⟩; rw [hw])
        go_ret2
        exact ⟨rfl, hb⟩
      · rw [if_neg hl] at h
        have hl' : ¬ (18 : Int) < (u.size : Int) := by omega
        cases hD : impl_Decimal.f v with
        | none => rw [hD] at h; cases h
        | some t =>
          rw [hD, Option.bind_some] at h
          by_cases he : (t.toList == a0.toList) = true
          · rw [if_pos he] at h
            obtain ⟨rfl, rfl⟩ := Prod.mk.inj (Option.some.inj h)
            clear h
            go_enter Tryd.func23, Tryd.ntmps23
            go_wp2_with (go_at_call 39; refine cp.mono ?_; rintro e W1 ⟨rfl, hb⟩)
            go_wp2_with (go_at_call 40; refine (ct _).mono ?_; rintro e W2 ⟨rfl, hw⟩; rw [hw])
            go_wp2_with (go_at_call 25; refine (impl_Decimal.calls v t _ hD (tab_ hT_ hb)).mono ?_; rintro e W3 ⟨rfl, hb3⟩)
            go_ret2
            exact ⟨rfl, hb.trans (hb3.mono hb.size)⟩
          · rw [if_neg he] at h
            obtain ⟨rfl, rfl⟩ := Prod.mk.inj (Option.some.inj h)
            clear h
            go_enter Tryd.func23, Tryd.ntmps23
            go_wp2_with (go_at_call 39; refine cp.mono ?_; rintro e W1 ⟨rfl, hb⟩)
            go_wp2_with (go_at_call 40; refine (ct _).mono ?_; rintro e W2 ⟨rfl, hw⟩; rw [hw])
            go_wp2_with (go_at_call 25; refine (impl_Decimal.calls v t _ hD (tab_ hT_ hb)).mono ?_; rintro e W3 ⟨rfl, hb3⟩)
            go_ret2
            exact ⟨rfl, hb.trans (hb3.mono hb.size)⟩
    · skip
      rw [hP] at h
      simp only at h
      obtain ⟨rfl, rfl⟩ := Prod.mk.inj (Option.some.inj h)
      clear h
      obtain ⟨_, ⟨tp, p, hv⟩, _⟩ := hT_
      have cp := Any.strconv_ParseInt_10_at64_syntax_var lpint_ a0 hlim hP tp p w hv
      clear hP hv
      go_enter Tryd.func23, Tryd.ntmps23
      go_wp2_with (go_at_call 39; refine cp.mono ?_; rintro e W1 ⟨N, rfl, _, _, hb⟩)
      go_ret2
      exact ⟨rfl, hb⟩
    · skip
      rw [hP] at h
      simp only at h
      obtain ⟨rfl, rfl⟩ := Prod.mk.inj (Option.some.inj h)
      clear h
      obtain ⟨_, _, ⟨tp, p, hv⟩⟩ := hT_
      have cp := Any.strconv_ParseInt_10_at64_range_var lpint_ a0 hlim hP tp p w hv
      clear hP hv
      generalize Lib.intSat 64 a0.data.toList = sat at cp
      go_enter Tryd.func23, Tryd.ntmps23
      go_wp2_with (go_at_call 39; refine cp.mono ?_; rintro e W1 ⟨N, rfl, _, _, hb⟩)
      go_ret2
      exact ⟨rfl, hb⟩
  · rw [if_neg hlim] at h
    cases h

end Go.Proofs.YtdhpmiocpjpabaaDoor.PFnTariffs
