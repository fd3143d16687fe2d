-- written by wip/xprint.py, a program of this session, for this claim; not trusted: Lean checks it.
import Derived.Shelf.Strconv.ErrVarParseInt
import Derived.Shelf.Strings.Prefix
import Derived.WalkSmall
import Derived.Test.YtkgohpmheohnmaaGreatDoorPFnStoragex0
import Derived.Test.YtkgohpmheohnmaaGreatDoorPFnStoragex5
namespace Go.Proofs.YtkgohpmheohnmaaGreatDoor.PFnStorage
open Go.RowKit Go.Proofs.YtkgohpmheohnmaaGreatDoorW.PrintWords Go.Proofs.YtkgohpmheohnmaaGreatDoorW.PrintLast Go.Proofs.YtkgohpmheohnmaaGreatDoorW.PrintMore
attribute [local go_sem] leq_less_ max2_int min2_int max_two min_two max_three min_three max_four min_four   -- for this text's walks alone
set_option linter.unusedVariables false
set_option linter.unusedSimpArgs false

/-! ### impl_ReadDecimal: function 49 -/
def lpint__ren : Go.Shelf.Ren := ⟨fun | 174 => 56 | 247 => 64 | 245 => 65 | 287 => 77 | 279 => 78 | 280 => 79 | 281 => 80 | 282 => 81 | 321 => 93 | 322 => 94 | 316 => 95 | 171 => 97 | 205 => 96 | 243 => 102 | 246 => 58 | 283 => 67 | 284 => 68 | 285 => 69 | 286 => 70 | 129 => 84 | 317 => 83 | 318 => 85 | 319 => 86 | 320 => 87 | 337 => 98 | 338 => 99 | n => n, fun | 9 => 9 | 3 => 3 | 2 => 2 | 75 => 88 | 85 => 95 | 4 => 4 | 167 => 115 | 5 => 5 | 53 => 67 | 175 => 116 | 46 => 92 | 168 => 118 | 37 => 22 | 0 => 0 | 210 => 133 | 21 => 21 | 127 => 98 | 145 => 144 | 143 => 142 | 171 => 103 | 173 => 106 | 212 => 124 | 51 => 125 | 20 => 20 | 213 => 126 | 232 => 145 | 233 => 146 | 80 => 91 | n => n, fun | 15 => 2 | 16 => 3 | 17 => 0 | 18 => 6 | 19 => 7 | n => n⟩
theorem lpint_ : Go.Proofs.LaysC.n174 Tryz.prog lpint__ren := {
  mixed := by kernel_rfl
  f129 := Tryz.func84.trans (congrArg some t13_)
  f171 := Tryz.func97.trans (congrArg some t13_)
  f174 := Tryz.func56.trans (congrArg some t13_)
  f205 := Tryz.func96.trans (congrArg some t13_)
  f243 := Tryz.func102.trans (congrArg some t13_)
  f245 := Tryz.func65.trans (congrArg some t13_)
  f246 := Tryz.func58.trans (congrArg some t13_)
  f247 := Tryz.func64.trans (congrArg some t13_)
  f279 := Tryz.func78.trans (congrArg some t13_)
  f280 := Tryz.func79.trans (congrArg some t13_)
  f281 := Tryz.func80.trans (congrArg some t13_)
  f282 := Tryz.func81.trans (congrArg some t13_)
  f283 := Tryz.func67.trans (congrArg some t13_)
  f284 := Tryz.func68.trans (congrArg some t13_)
  f285 := Tryz.func69.trans (congrArg some t13_)
  f286 := Tryz.func70.trans (congrArg some t13_)
  f287 := Tryz.func77.trans (congrArg some t13_)
  f316 := Tryz.func95.trans (congrArg some t13_)
  f317 := Tryz.func83.trans (congrArg some t13_)
  f318 := Tryz.func85.trans (congrArg some t13_)
  f319 := Tryz.func86.trans (congrArg some t13_)
  f320 := Tryz.func87.trans (congrArg some t13_)
  f321 := Tryz.func93.trans (congrArg some t13_)
  f322 := Tryz.func94.trans (congrArg some t13_)
  f337 := Tryz.func98.trans (congrArg some t13_)
  f338 := Tryz.func99.trans (congrArg some t13_)
  t0 := Tryz.underlying0
  a0 := Tryz.isAgg0
  z0 := Tryz.sizeOf0
  v0 := Tryz.zeroValue0
  t2 := Tryz.underlying2
  a2 := Tryz.isAgg2
  z2 := Tryz.sizeOf2
  v2 := Tryz.zeroValue2
  t3 := Tryz.underlying3
  a3 := Tryz.isAgg3
  z3 := Tryz.sizeOf3
  v3 := Tryz.zeroValue3
  t4 := Tryz.underlying4
  a4 := Tryz.isAgg4
  z4 := Tryz.sizeOf4
  v4 := Tryz.zeroValue4
  t5 := Tryz.underlying5
  a5 := Tryz.isAgg5
  z5 := Tryz.sizeOf5
  v5 := Tryz.zeroValue5
  t9 := Tryz.underlying9
  a9 := Tryz.isAgg9
  z9 := Tryz.sizeOf9
  v9 := Tryz.zeroValue9
  t20 := Tryz.underlying20
  a20 := Tryz.isAgg20
  z20 := Tryz.sizeOf20
  v20 := Tryz.zeroValue20
  t21 := Tryz.underlying21
  a21 := Tryz.isAgg21
  z21 := Tryz.sizeOf21
  v21 := Tryz.zeroValue21
  t37 := Tryz.underlying22
  a37 := Tryz.isAgg22
  z37 := Tryz.sizeOf22
  v37 := Tryz.zeroValue22
  t46 := Tryz.underlying92
  a46 := Tryz.isAgg92
  z46 := Tryz.sizeOf92
  v46 := Tryz.zeroValue92
  t51 := Tryz.underlying125
  a51 := Tryz.isAgg125
  z51 := Tryz.sizeOf125
  v51 := Tryz.zeroValue125
  t53 := Tryz.underlying67
  a53 := Tryz.isAgg67
  z53 := Tryz.sizeOf67
  v53 := Tryz.zeroValue67
  t75 := Tryz.underlying88
  a75 := Tryz.isAgg88
  z75 := Tryz.sizeOf88
  v75 := Tryz.zeroValue88
  t85 := Tryz.underlying95
  a85 := Tryz.isAgg95
  z85 := Tryz.sizeOf95
  v85 := Tryz.zeroValue95
  t127 := Tryz.underlying98
  a127 := Tryz.isAgg98
  z127 := Tryz.sizeOf98
  v127 := Tryz.zeroValue98
  t143 := Tryz.underlying142
  a143 := Tryz.isAgg142
  z143 := Tryz.sizeOf142
  v143 := Tryz.zeroValue142
  t145 := Tryz.underlying144
  a145 := Tryz.isAgg144
  z145 := Tryz.sizeOf144
  v145 := Tryz.zeroValue144
  t167 := Tryz.underlying115
  a167 := Tryz.isAgg115
  z167 := Tryz.sizeOf115
  v167 := Tryz.zeroValue115
  t168 := Tryz.underlying118
  a168 := Tryz.isAgg118
  z168 := Tryz.sizeOf118
  v168 := Tryz.zeroValue118
  t171 := Tryz.underlying103
  a171 := Tryz.isAgg103
  z171 := Tryz.sizeOf103
  v171 := Tryz.zeroValue103
  t173 := Tryz.underlying106
  a173 := Tryz.isAgg106
  z173 := Tryz.sizeOf106
  v173 := Tryz.zeroValue106
  t175 := Tryz.underlying116
  a175 := Tryz.isAgg116
  z175 := Tryz.sizeOf116
  v175 := Tryz.zeroValue116
  t210 := Tryz.underlying133
  a210 := Tryz.isAgg133
  z210 := Tryz.sizeOf133
  v210 := Tryz.zeroValue133
  t212 := Tryz.underlying124
  a212 := Tryz.isAgg124
  z212 := Tryz.sizeOf124
  v212 := Tryz.zeroValue124
  t213 := Tryz.underlying126
  a213 := Tryz.isAgg126
  z213 := Tryz.sizeOf126
  t232 := Tryz.underlying145
  a232 := Tryz.isAgg145
  z232 := Tryz.sizeOf145
  v232 := Tryz.zeroValue145
  t233 := Tryz.underlying146
  a233 := Tryz.isAgg146
  z233 := Tryz.sizeOf146
  v233 := Tryz.zeroValue146
  g15 := by kernel_rfl
  g16 := by kernel_rfl
  g17 := by kernel_rfl
  g18 := by kernel_rfl
  g19 := by kernel_rfl
  t80 := Tryz.underlying91
  a80 := Tryz.isAgg91
  z80 := Tryz.sizeOf91
  v80 := Tryz.zeroValue91
  i0 := by kernel_rfl
  i2 := by kernel_rfl
  i3 := by kernel_rfl
  i4 := by kernel_rfl
  i5 := by kernel_rfl
  i9 := by kernel_rfl
  i20 := by kernel_rfl
  i21 := by kernel_rfl
  i37 := by kernel_rfl
  i46 := by kernel_rfl
  i51 := by kernel_rfl
  i53 := by kernel_rfl
  i75 := by kernel_rfl
  i80 := by kernel_rfl
  i85 := by kernel_rfl
  i127 := by kernel_rfl
  i143 := by kernel_rfl
  i145 := by kernel_rfl
  i167 := by kernel_rfl
  i168 := by kernel_rfl
  i171 := by kernel_rfl
  i173 := by kernel_rfl
  i175 := by kernel_rfl
  i210 := by kernel_rfl
  i212 := by kernel_rfl
  i232 := by kernel_rfl
  i233 := by kernel_rfl
  m15 := by kernel_rfl
  m16 := by kernel_rfl
  m17 := by kernel_rfl
  m18 := by kernel_rfl
  m19 := by kernel_rfl
  c0 := by kernel_rfl
  c2 := by kernel_rfl
  c3 := by kernel_rfl
  c4 := by kernel_rfl
  c5 := by kernel_rfl
  c9 := by kernel_rfl
  c20 := by kernel_rfl
  c21 := by kernel_rfl
  c37 := by kernel_rfl
  c46 := by kernel_rfl
  c51 := by kernel_rfl
  c53 := by kernel_rfl
  c75 := by kernel_rfl
  c80 := by kernel_rfl
  c85 := by kernel_rfl
  c127 := by kernel_rfl
  c143 := by kernel_rfl
  c145 := by kernel_rfl
  c167 := by kernel_rfl
  c168 := by kernel_rfl
  c171 := by kernel_rfl
  c173 := by kernel_rfl
  c175 := by kernel_rfl
  c210 := by kernel_rfl
  c212 := by kernel_rfl
  c213 := by kernel_rfl
  c232 := by kernel_rfl
  c233 := by kernel_rfl }
def ltrimp__ren : Go.Shelf.Ren := ⟨fun | 101 => 57 | 208 => 66 | 206 => 82 | n => n, fun | 9 => 9 | 4 => 4 | 3 => 3 | n => n, fun | n => n⟩
theorem ltrimp_ : Go.Proofs.Lays.n101 Tryz.prog ltrimp__ren := {
  mixed := by kernel_rfl
  f101 := Tryz.func57.trans (congrArg some t13_)
  f206 := Tryz.func82.trans (congrArg some t13_)
  f208 := Tryz.func66.trans (congrArg some t13_)
  t3 := Tryz.underlying3
  a3 := Tryz.isAgg3
  z3 := Tryz.sizeOf3
  v3 := Tryz.zeroValue3
  t4 := Tryz.underlying4
  a4 := Tryz.isAgg4
  z4 := Tryz.sizeOf4
  v4 := Tryz.zeroValue4
  t9 := Tryz.underlying9
  a9 := Tryz.isAgg9
  z9 := Tryz.sizeOf9
  v9 := Tryz.zeroValue9 }

/-- impl.ReadDecimal: strconv.ParseInt at base 10 for an int64, the length behind a sign, and the number's own text. -/
def impl_ReadDecimal.f (a0 : ByteArray) : Option (Int × Bool) := if a0.size ≤ 281474976710656 then
    match Lib.parseIntB 64 a0.data.toList with
    | .ok v => if 18 < (Lib.trimPrefix a0.data.toList [45]).length then some (0, false) else (impl_Decimal.f v).bind fun t => if t.toList == a0.toList then some (v, true) else some (0, false)
    | _ => some (0, false)
  else none
set_option maxHeartbeats 4000000 in
theorem impl_ReadDecimal.calls (a0 : ByteArray) (r1 : Int) (r2 : Bool) (w : World) (h : impl_ReadDecimal.f a0 = some (r1, r2)) (hT_ : Tab_ w) :
    Calls Tryz.prog 49 #[.string a0] w fun e w' => e = .returned (.tuple #[.int .i64 r1, .bool r2]) ∧ Below w.heap.size w w' := by
  unfold impl_ReadDecimal.f at h
  by_cases hlim : a0.size ≤ 281474976710656
  · rw [if_pos hlim] at h
    rcases hP : Lib.parseIntB 64 a0.data.toList with v | _ | _
    · skip
      rw [hP] at h; simp only at h; have cp : Calls Tryz.prog 56 #[.string a0, .int .i64 10, .int .i64 64] w fun e w' => e = .returned (.tuple #[.int .i64 v, .nilIface]) ∧ Below w.heap.size w w' := (Any.strconv_ParseInt_10_at64_ok lpint_ a0 t48_ v hP w).mono fun e w' hw => ⟨hw.1, by
        rcases hw.2 with rfl | ⟨t, rfl⟩
        · exact Below.refl _ _
        · exact Lib.bytesWorld_below _ _ _⟩
      have ct : ∀ W, Calls Tryz.prog 57 #[.string a0, .string ⟨#[45]⟩] W fun e w' => e = .returned (.string ⟨(Lib.trimPrefix a0.data.toList [45]).toArray⟩) ∧ w' = W := fun W => Any.strings_TrimPrefix ltrimp_ a0 ⟨#[45]⟩ W; have hz : (⟨(Lib.trimPrefix a0.data.toList [45]).toArray⟩ : ByteArray).size = (Lib.trimPrefix a0.data.toList [45]).length := (by simp [ByteArray.size]); rw [← hz] at h; generalize (⟨(Lib.trimPrefix a0.data.toList [45]).toArray⟩ : ByteArray) = u at h ct; clear hz hP; by_cases hl : 18 < u.size
      · rw [if_pos hl] at h
        obtain ⟨rfl, rfl⟩ := Prod.mk.inj (Option.some.inj h); have hl' : (18 : Int) < (u.size : Int) := (by omega); clear h; go_enter Tryz.func49, Tryz.ntmps49; go_wp2_with (go_at_call 56; refine cp.mono ?_; rintro e W1 ⟨rfl, hb⟩); go_wp2_with (go_at_call 57; refine (ct _).mono ?_; rintro e W2 ⟨rfl, hw⟩; rw [hw]); go_ret2; exact ⟨rfl, hb⟩
      · rw [if_neg hl] at h
        have hl' : ¬ (18 : Int) < (u.size : Int) := (by omega); cases hD : impl_Decimal.f v with
        | none => rw [hD] at h; cases h
        | some t =>
          rw [hD, Option.bind_some] at h; by_cases he : (t.toList == a0.toList) = true
          · rw [if_pos he] at h
            obtain ⟨rfl, rfl⟩ := Prod.mk.inj (Option.some.inj h); clear h; go_enter Tryz.func49, Tryz.ntmps49; go_wp2_with (go_at_call 56; refine cp.mono ?_; rintro e W1 ⟨rfl, hb⟩); go_wp2_with (go_at_call 57; refine (ct _).mono ?_; rintro e W2 ⟨rfl, hw⟩; rw [hw]); go_wp2_with (go_at_call 41; refine (impl_Decimal.calls v t _ hD (tab_ hT_ hb)).mono ?_; rintro e W3 ⟨rfl, hb3⟩); go_ret2; exact ⟨rfl, hb.trans (hb3.mono hb.size)⟩
          · rw [if_neg he] at h
            obtain ⟨rfl, rfl⟩ := Prod.mk.inj (Option.some.inj h); clear h; go_enter Tryz.func49, Tryz.ntmps49; go_wp2_with (go_at_call 56; refine cp.mono ?_; rintro e W1 ⟨rfl, hb⟩); go_wp2_with (go_at_call 57; refine (ct _).mono ?_; rintro e W2 ⟨rfl, hw⟩; rw [hw]); go_wp2_with (go_at_call 41; refine (impl_Decimal.calls v t _ hD (tab_ hT_ hb)).mono ?_; rintro e W3 ⟨rfl, hb3⟩); go_ret2; exact ⟨rfl, hb.trans (hb3.mono hb.size)⟩
    · skip
      rw [hP] at h; simp only at h; obtain ⟨rfl, rfl⟩ := Prod.mk.inj (Option.some.inj h); clear h; obtain ⟨_, ⟨tp, p, hv⟩, _⟩ := hT_; have cp := Any.strconv_ParseInt_10_at64_syntax_var lpint_ a0 hlim hP tp p w hv; clear hP hv; go_enter Tryz.func49, Tryz.ntmps49; go_wp2_with (go_at_call 56; refine cp.mono ?_; rintro e W1 ⟨N, rfl, _, _, hb⟩); go_ret2; exact ⟨rfl, hb⟩
    · skip
      rw [hP] at h; simp only at h; obtain ⟨rfl, rfl⟩ := Prod.mk.inj (Option.some.inj h); clear h; obtain ⟨_, _, ⟨tp, p, hv⟩⟩ := hT_; have cp := Any.strconv_ParseInt_10_at64_range_var lpint_ a0 hlim hP tp p w hv; clear hP hv; generalize Lib.intSat 64 a0.data.toList = sat at cp; go_enter Tryz.func49, Tryz.ntmps49; go_wp2_with (go_at_call 56; refine cp.mono ?_; rintro e W1 ⟨N, rfl, _, _, hb⟩); go_ret2; exact ⟨rfl, hb⟩
  · rw [if_neg hlim] at h
    cases h

/-! ### impl_ReadList: function 40 -/
def impl_ReadList.l0 : Nat → ByteArray → List Int → List ByteArray → Int → Int → Option (List Int × Bool)
 | 0, _, _, _, _, _ => none
 | k + 1, x0, x4, x12, x13, x14 => if x14 < x13 then (if 0 ≤ x14 then (if x14 < (x12.length : Int) then ((impl_ReadDecimal.f (rdOf ByteArray.empty x12 x14)).bind fun bt307 => (if bt307.2 = true then (if x4.length < 17592186044416 then (impl_ReadList.l0 k x0 (x4 ++ [bt307.1]) x12 x13 (wrap64 (x14 + 1))) else (none)) else (some (([] : List Int), false)))) else (none)) else (none)) else ((impl_ListText.f k x4).bind fun t312 => (if t312.toList = x0.toList then (some (x4, true)) else (some (([] : List Int), false))))
def impl_ReadList.f (k : Nat) (a0 : ByteArray) : Option (List Int × Bool) := if a0.toList = ([45] : List UInt8) then (some (([] : List Int), true)) else ((strings_SplitN.f a0 (⟨#[44]⟩ : ByteArray) 65).bind fun t303 => (impl_ReadList.l0 k a0 ([] : List Int) t303 (t303.length : Int) 0))
theorem impl_ReadList.mono_l : ∀ k, (∀ y0 y1 y2 y3 y4, LeO (impl_ReadList.l0 k y0 y1 y2 y3 y4) (impl_ReadList.l0 (k + 1) y0 y1 y2 y3 y4))
 | 0 => fun _ _ _ _ _ r h => by simp [impl_ReadList.l0] at h
 | k + 1 => by
  have ih0 := impl_ReadList.mono_l k
  ·intro y0 y1 y2 y3 y4
   unfold impl_ReadList.l0
   repeat' first
   | (with_reducible exact ih0 _ _ _ _ _)
   | (with_reducible exact impl_ListText.mono _ _)
   | (with_reducible exact LeO.refl _)
   | (with_reducible exact LeO.none _)
   | (with_reducible refine LeO.ite ?_ ?_)
   | (with_reducible refine LeO.bind ?_ (fun _ => ?_))
theorem impl_ReadList.mono : ∀ a0 k, LeO (impl_ReadList.f k a0) (impl_ReadList.f (k + 1) a0) := by
 intro a0 k; have ih0 := impl_ReadList.mono_l k; unfold impl_ReadList.f
 repeat' first
   | (with_reducible exact ih0 _ _ _ _ _)
   | (with_reducible exact impl_ListText.mono _ _)
   | (with_reducible exact LeO.refl _)
   | (with_reducible exact LeO.none _)
   | (with_reducible refine LeO.ite ?_ ?_)
   | (with_reducible refine LeO.bind ?_ (fun _ => ?_))
set_option maxHeartbeats 8000000 in
set_option maxRecDepth 100000 in
theorem impl_ReadList.calls (k : Nat) (a0 : ByteArray) (r1 : List Int) (r2 : Bool) (w : World) (h : impl_ReadList.f k a0 = some (r1, r2)) (hT_ : Tab_ w) :
  Calls Tryz.prog 40 #[.string a0] w fun e w' => ∃ v0_ : Value, e = .returned (.tuple #[v0_, .bool r2]) ∧ Kd.R (Kd.int .i64) 2 w' w.heap.size (fun _ => True) v0_ r1 ∧ Below w.heap.size w w' := by
 have HB := a_ (Below.refl w.heap.size w); have H : (if a0.toList = ([45] : List UInt8) then (some (([] : List Int), true)) else ((strings_SplitN.f a0 (⟨#[44]⟩ : ByteArray) 65).bind fun t303 => (impl_ReadList.l0 k a0 ([] : List Int) t303 (t303.length : Int) 0))) = some (r1, r2) := h; clear h; by_cases c2 : a0.toList = ([45] : List UInt8)
 ·rw [if_pos c2] at H; have c2b0 : (a0.toList == ([45] : List UInt8)) = true := b1_ c2; have c2b1 : (a0.toList != ([45] : List UInt8)) = false := b4_ c2; clear c2; simp only [Option.some.injEq, Prod.mk.injEq] at H; obtain ⟨rfl, rfl⟩ := H; go_enter Tryz.func40, Tryz.ntmps40; go_wp2; go_ret2; exact ⟨_, t24_, t31_, t1_⟩
 ·rw [if_neg c2] at H; have c2b0 : (a0.toList == ([45] : List UInt8)) = false := b2_ c2; have c2b1 : (a0.toList != ([45] : List UInt8)) = true := b3_ c2; replace H := be_ H; obtain ⟨t303, A30, H⟩ := H; have A3 := a_ A30; clear A30; have H' := a_ H; clear H; go_enter Tryz.func40, Tryz.ntmps40; go_wp2_with (first | ((with_reducible refine gate_callee (f := 48) rfl ?_); refine goesL_ (some 12) rfl rfl Tryz.func48 t13_ rfl #[.string a0, .string (⟨#[44]⟩ : ByteArray), .int .i64 65] rfl t2_ ?_; (with_reducible refine (strings_SplitN.calls a0 (⟨#[44]⟩ : ByteArray) 65 t303 _ A3.out).mono ?_); rintro e w4 ⟨v304, rfl, ho0, hb⟩; refine ⟨_, rfl, ?_⟩; have n0_ := a_ (Kd.R_lower ho0 (below_size t1_)); have n1_ := a_ (below_step t1_ hb); clear HB; have HO305 := n0_; have HB := n1_; clear n0_ n1_; (try clear hb); (try clear hb2); (try clear hk); (try clear hi); (try clear ho0); obtain ⟨Ao5, co5, eo5⟩ := Kd.R_slice HO305.out; subst eo5)); go_loopg [4, 14] k (fun kq v4 v14 w' => ∃ (x4_1 : List Int) (x14_1 : Int), v14 = .int .i64 x14_1 ∧ Aside0 (impl_ReadList.l0 kq a0 x4_1 t303 (t303.length : Int) x14_1 = some (r1, r2)) ∧ Aside0 (kq ≤ k) ∧ Aside0 (Kd.R (Kd.int .i64) 2 w' w.heap.size (fun _ => True) v4 x4_1) ∧ Aside0 (Kd.R Kd.string 9 w' w.heap.size (fun _ => True) (.slice Ao5 t303.length co5) t303) ∧ Aside0 (Below w.heap.size w w'))
  case atStart => exact ⟨(([] : List Int)), (0), t14_, H', ⟨Nat.le_refl _⟩, ⟨t31_⟩, ⟨(by (with_reducible repeat (first | apply Kd.R_alloc | apply Kd.R_drewN | apply Kd.R_drew)); exact HO305.out)⟩, ⟨t1_⟩⟩
  case round =>
   clear H'; (try clear c2); (try clear c2b0); (try clear c2b1); (try clear p2); (try clear c4); obtain ⟨x4_1, x14_1, rfl, HA, HK1, HO_4, HO_12, HB⟩ := hrel; cases gk with
   | zero => exact absurd HA.out (by simp [impl_ReadList.l0])
   | succ k1 =>
    have H := HA.out; clear HA; simp only [impl_ReadList.l0] at H; by_cases c6 : x14_1 < (t303.length : Int)
    ·rw [if_pos c6] at H; have c6b0 : decide (x14_1 < (t303.length : Int)) = true := d1_ c6; clear c6; by_cases c7 : 0 ≤ x14_1
     ·rw [if_pos c7] at H; have c7b0 : decide (0 ≤ x14_1) = true := d1_ c7; clear c7; by_cases c8 : x14_1 < (t303.length : Int)
      ·rw [if_pos c8] at H; have c8b0 : decide (x14_1 < (t303.length : Int)) = true := d1_ c8; clear c8; replace H := be_ H; obtain ⟨⟨t307, t308⟩, A90, H⟩ := H; replace H : (if t308 = true then (if x4_1.length < 17592186044416 then (impl_ReadList.l0 k1 a0 (x4_1 ++ [t307]) t303 (t303.length : Int) (wrap64 (x14_1 + 1))) else (none)) else (some (([] : List Int), false))) = some (r1, r2) := H; have A9 := a_ A90; clear A90; by_cases c10 : t308 = true
       ·subst c10; replace H := (if_pos rfl).symm.trans H; by_cases c11 : x4_1.length < 17592186044416
        ·rw [if_pos c11] at H; have LMc11 := a_ c11; clear c11; obtain ⟨y309, hy309⟩ : ∃ y_ : List Int, y_ = (x4_1 ++ [t307]) := ⟨_, rfl⟩; replace H : (impl_ReadList.l0 k1 a0 y309 t303 (t303.length : Int) (wrap64 (x14_1 + 1))) = some (r1, r2) := (by first | (rw [hy309]; with_reducible exact H) | (have H2_ := (Option.bind_some _ _).symm.trans H; rw [hy309]; with_reducible exact H2_) | (have H2_ := (Option.bind_some _ _).symm.trans H; with_reducible exact H2_) | with_reducible exact H | (rw [hy309]; exact H) | exact H); have Ny309 := a_ hy309; clear hy309; have H' := a_ H; clear H; have p306 : 0 ≤ (x14_1 : Int) := od_; have q306 : x14_1 < (t303.length : Int) := od_; obtain ⟨ad306, e306, hx306_0⟩ := Kd.at_string (Kd.R_reads' HO_12.out).2.2 x14_1 p306 q306; cases e306; replace p306 := eq_true p306; replace q306 := eq_true q306; go_wp2_with (first | ((with_reducible refine gate_callee (f := 49) rfl ?_); refine goesL_ (some 20) rfl rfl Tryz.func49 t13_ rfl #[.string (rdOf ByteArray.empty t303 x14_1)] rfl t2_ ?_; (with_reducible refine (impl_ReadDecimal.calls (rdOf ByteArray.empty t303 x14_1) t307 true _ A9.out ?T_).mono ?_); (case T_ => exact tab_ hT_ t1_); rintro e w12 ⟨rfl, hb⟩; refine ⟨_, rfl, ?_⟩; have n0_ := a_ (Kd.R_below (q2_ HO_4.out) hb); have n1_ := a_ (Kd.R_below (q2_ HO_12.out) hb); have n2_ := a_ (below_step t1_ hb); clear HO_4; clear HO_12; clear HB; have HO_4 := n0_; have HO_12 := n1_; have HB := n2_; clear n0_ n1_ n2_; (try clear hb); (try clear hb2); (try clear hk); (try clear hi)) | ((with_reducible refine gate_builtin (b := .append) (xs := #[.tmp 25, .tmp 27]) rfl ?_); at_builtin; refine Kd.R_append (Kd.int .i64) (w0 := w) w.heap.size rfl (.tmp 25) (.tmp 27) 26 2 (.int .i64 0) 8 rfl Tryz.underlying26 info2 rfl t47_ t48_ u4 x4_1 t307 [.int .i64 t307] (fun _ => True) (fun _ => False) rfl rfl ?aP (fun _ hk => hk.elim) ?aF ?aO ?aB ?aS ?aL ?_; (case aP => exact rfl); (case aB => exact t1_); (case aF => exact (fun _ _ => trivial)); (case aO => exact (q2_ HO_4.out)); (case aS => exact (below_size t1_)); (case aL => have := LMc11.out; omega); intro v310 w13 ho hb hg hat; rw [← Ny309.out] at ho; have n0_ := a_ (Kd.R_over' (q2_ HO_12.out) (Kd.R_typed (q2_ HO_4.out)) t47_ hg); have n1_ := a_ (hb); have n2_ := a_ (ho); clear HO_12; clear HB; clear HO_4; have HO_12 := n0_; have HB := n1_; have HO311 := n2_; clear n0_ n1_ n2_; clear ho hb hg hat)); go_roundg k1
         case measure => have := HK1.out; omega
         case rel => exact ⟨(y309), (wrap64 (x14_1 + 1)), t14_, H', ⟨(by have := HK1.out; omega)⟩, ⟨(by (with_reducible repeat (first | apply Kd.R_alloc | apply Kd.R_drewN | apply Kd.R_drew)); exact HO311.out)⟩, ⟨(by (with_reducible repeat (first | apply Kd.R_alloc | apply Kd.R_drewN | apply Kd.R_drew)); exact HO_12.out)⟩, ⟨t1_⟩⟩
        ·rw [if_neg c11] at H; exact absurd H t57_
       ·replace c10 := Bool.eq_false_iff.mpr c10; subst c10; replace H := (if_neg (show ¬ (false = true) by decide)).symm.trans H; simp only [Option.some.injEq, Prod.mk.injEq] at H; obtain ⟨rfl, rfl⟩ := H; have p306 : 0 ≤ (x14_1 : Int) := od_; have q306 : x14_1 < (t303.length : Int) := od_; obtain ⟨ad306, e306, hx306_0⟩ := Kd.at_string (Kd.R_reads' HO_12.out).2.2 x14_1 p306 q306; cases e306; replace p306 := eq_true p306; replace q306 := eq_true q306; go_wp2_with (first | ((with_reducible refine gate_callee (f := 49) rfl ?_); refine goesL_ (some 20) rfl rfl Tryz.func49 t13_ rfl #[.string (rdOf ByteArray.empty t303 x14_1)] rfl t2_ ?_; (with_reducible refine (impl_ReadDecimal.calls (rdOf ByteArray.empty t303 x14_1) t307 false _ A9.out ?T_).mono ?_); (case T_ => exact tab_ hT_ t1_); rintro e w14 ⟨rfl, hb⟩; refine ⟨_, rfl, ?_⟩; have n0_ := a_ (Kd.R_below (q2_ HO_4.out) hb); have n1_ := a_ (Kd.R_below (q2_ HO_12.out) hb); have n2_ := a_ (below_step t1_ hb); clear HO_4; clear HO_12; clear HB; have HO_4 := n0_; have HO_12 := n1_; have HB := n2_; clear n0_ n1_ n2_; (try clear hb); (try clear hb2); (try clear hk); (try clear hi))); go_ret2; exact ⟨_, t24_, t31_, t1_⟩
      ·rw [if_neg c8] at H; exact absurd H t57_
     ·rw [if_neg c7] at H; exact absurd H t57_
    ·rw [if_neg c6] at H; have c6b0 : decide (x14_1 < (t303.length : Int)) = false := d2_ c6; clear c6; replace H := be_ H; obtain ⟨t312, A150, H⟩ := H; have A15 := a_ A150; clear A150; by_cases c16 : t312.toList = a0.toList
     ·rw [if_pos c16] at H; have c16b0 : (t312.toList == a0.toList) = true := b1_ c16; have c16b1 : (t312.toList != a0.toList) = false := b4_ c16; clear c16; simp only [Option.some.injEq, Prod.mk.injEq] at H; obtain ⟨rfl, rfl⟩ := H; obtain ⟨Ao17, co17, eo17⟩ := Kd.R_slice HO_4.out; subst eo17; go_wp2_with (first | ((with_reducible refine gate_callee (f := 23) rfl ?_); refine goesL_ (some 31) rfl rfl Tryz.func23 t13_ rfl #[.slice Ao17 x4_1.length co17] rfl t2_ ?_; (with_reducible refine (impl_ListText.calls k1 _ _ x4_1 t312 _ ?side1 ?side2 A15.out ?T_).mono ?_); (case T_ => exact tab_ hT_ t1_); (case side1 => repeat (first | exact (Kd.R_reads' HO_4.out).2.2 | (with_reducible refine Kd.C_alloc ?_ _) | (with_reducible refine Kd.C_drewN ?_ _) | (with_reducible refine Kd.C_drew ?_))); (case side2 => exact (Kd.R_reads' HO_4.out).2.1); rintro e w18 ⟨rfl, hb⟩; refine ⟨_, rfl, ?_⟩; have n0_ := a_ (Kd.R_below (q2_ HO_4.out) hb); have n1_ := a_ (Kd.R_below (q2_ HO_12.out) hb); have n2_ := a_ (below_step t1_ hb); clear HO_4; clear HO_12; clear HB; have HO_4 := n0_; have HO_12 := n1_; have HB := n2_; clear n0_ n1_ n2_; (try clear hb); (try clear hb2); (try clear hk); (try clear hi))); go_ret2; exact ⟨_, t24_, (by (with_reducible repeat (first | apply Kd.R_alloc | apply Kd.R_drewN | apply Kd.R_drew)); exact HO_4.out), t1_⟩
     ·rw [if_neg c16] at H; have c16b0 : (t312.toList == a0.toList) = false := b2_ c16; have c16b1 : (t312.toList != a0.toList) = true := b3_ c16; simp only [Option.some.injEq, Prod.mk.injEq] at H; obtain ⟨rfl, rfl⟩ := H; obtain ⟨Ao19, co19, eo19⟩ := Kd.R_slice HO_4.out; subst eo19; go_wp2_with (first | ((with_reducible refine gate_callee (f := 23) rfl ?_); refine goesL_ (some 31) rfl rfl Tryz.func23 t13_ rfl #[.slice Ao19 x4_1.length co19] rfl t2_ ?_; (with_reducible refine (impl_ListText.calls k1 _ _ x4_1 t312 _ ?side1 ?side2 A15.out ?T_).mono ?_); (case T_ => exact tab_ hT_ t1_); (case side1 => repeat (first | exact (Kd.R_reads' HO_4.out).2.2 | (with_reducible refine Kd.C_alloc ?_ _) | (with_reducible refine Kd.C_drewN ?_ _) | (with_reducible refine Kd.C_drew ?_))); (case side2 => exact (Kd.R_reads' HO_4.out).2.1); rintro e w20 ⟨rfl, hb⟩; refine ⟨_, rfl, ?_⟩; have n0_ := a_ (Kd.R_below (q2_ HO_4.out) hb); have n1_ := a_ (Kd.R_below (q2_ HO_12.out) hb); have n2_ := a_ (below_step t1_ hb); clear HO_4; clear HO_12; clear HB; have HO_4 := n0_; have HO_12 := n1_; have HB := n2_; clear n0_ n1_ n2_; (try clear hb); (try clear hb2); (try clear hk); (try clear hi))); go_ret2; exact ⟨_, t24_, t31_, t1_⟩

/-! ### impl_readNumbers: function 22 -/
def impl_readNumbers.f (k : Nat) (a0 : ByteArray) (a1 : Int) : Option (List Int × Bool) := (impl_ReadList.f k a0).bind fun bt313 => (if bt313.2 = true then (if (bt313.1.length : Int) = a1 then (some (bt313.1, true)) else (if 0 ≤ a1 then (if (a1 : Int).toNat ≤ 35184372088832 then (some ((List.replicate (a1 : Int).toNat 0), false)) else (none)) else (none))) else (if 0 ≤ a1 then (if (a1 : Int).toNat ≤ 35184372088832 then (some ((List.replicate (a1 : Int).toNat 0), false)) else (none)) else (none)))
theorem impl_readNumbers.mono : ∀ a0 a1 k, LeO (impl_readNumbers.f k a0 a1) (impl_readNumbers.f (k + 1) a0 a1) := by
 intro a0 a1 k; unfold impl_readNumbers.f
 repeat' first
   | (with_reducible exact impl_ReadList.mono _ _)
   | (with_reducible exact LeO.refl _)
   | (with_reducible exact LeO.none _)
   | (with_reducible refine LeO.ite ?_ ?_)
   | (with_reducible refine LeO.bind ?_ (fun _ => ?_))
set_option maxHeartbeats 8000000 in
set_option maxRecDepth 100000 in
theorem impl_readNumbers.calls (k : Nat) (a0 : ByteArray) (a1 : Int) (r1 : List Int) (r2 : Bool) (w : World) (h : impl_readNumbers.f k a0 a1 = some (r1, r2)) (hT_ : Tab_ w) :
  Calls Tryz.prog 22 #[.string a0, .int .i64 a1] w fun e w' => ∃ v0_ : Value, e = .returned (.tuple #[v0_, .bool r2]) ∧ Kd.R (Kd.int .i64) 2 w' w.heap.size (fun _ => True) v0_ r1 ∧ Below w.heap.size w w' := by
 have HB := a_ (Below.refl w.heap.size w); have H : ((impl_ReadList.f k a0).bind fun bt313 => (if bt313.2 = true then (if (bt313.1.length : Int) = a1 then (some (bt313.1, true)) else (if 0 ≤ a1 then (if (a1 : Int).toNat ≤ 35184372088832 then (some ((List.replicate (a1 : Int).toNat 0), false)) else (none)) else (none))) else (if 0 ≤ a1 then (if (a1 : Int).toNat ≤ 35184372088832 then (some ((List.replicate (a1 : Int).toNat 0), false)) else (none)) else (none)))) = some (r1, r2) := h; clear h; replace H := be_ H; obtain ⟨⟨t313, t314⟩, A30, H⟩ := H; replace H : (if t314 = true then (if (t313.length : Int) = a1 then (some (t313, true)) else (if 0 ≤ a1 then (if (a1 : Int).toNat ≤ 35184372088832 then (some ((List.replicate (a1 : Int).toNat 0), false)) else (none)) else (none))) else (if 0 ≤ a1 then (if (a1 : Int).toNat ≤ 35184372088832 then (some ((List.replicate (a1 : Int).toNat 0), false)) else (none)) else (none))) = some (r1, r2) := H; have A3 := a_ A30; clear A30; by_cases c4 : t314 = true
 ·subst c4; replace H := (if_pos rfl).symm.trans H; by_cases c5 : (t313.length : Int) = a1
  ·rw [if_pos c5] at H; have c5b0 : ((t313.length : Int) == a1) = true := b1_ c5; have c5b1 : ((t313.length : Int) != a1) = false := b4_ c5; clear c5; simp only [Option.some.injEq, Prod.mk.injEq] at H; obtain ⟨rfl, rfl⟩ := H; go_enter Tryz.func22, Tryz.ntmps22; go_wp2_with (first | ((with_reducible refine gate_callee (f := 40) rfl ?_); refine goesL_ (some 10) rfl rfl Tryz.func40 t13_ rfl #[.string a0] rfl t2_ ?_; (with_reducible refine (impl_ReadList.calls k a0 t313 true _ A3.out ?T_).mono ?_); (case T_ => exact tab_ hT_ t1_); rintro e w6 ⟨v315, rfl, ho0, hb⟩; refine ⟨_, rfl, ?_⟩; have n0_ := a_ (Kd.R_lower ho0 (below_size t1_)); have n1_ := a_ (below_step t1_ hb); clear HB; have HO316 := n0_; have HB := n1_; clear n0_ n1_; (try clear hb); (try clear hb2); (try clear hk); (try clear hi); (try clear ho0); obtain ⟨Ao7, co7, eo7⟩ := Kd.R_slice HO316.out; subst eo7)); go_ret2; exact ⟨_, t24_, (by (with_reducible repeat (first | apply Kd.R_alloc | apply Kd.R_drewN | apply Kd.R_drew)); exact HO316.out), t1_⟩
  ·rw [if_neg c5] at H; have c5b0 : ((t313.length : Int) == a1) = false := b2_ c5; have c5b1 : ((t313.length : Int) != a1) = true := b3_ c5; by_cases c8 : 0 ≤ a1
   ·rw [if_pos c8] at H; have c8b0 := eq_true c8; have c8b1 : decide (0 ≤ a1) = true := d1_ c8; clear c8; by_cases c9 : (a1 : Int).toNat ≤ 35184372088832
    ·rw [if_pos c9] at H; have c9b0 := eq_true c9; have c9b1 : decide ((a1 : Int).toNat ≤ 35184372088832) = true := d1_ c9; clear c9; obtain ⟨y317, hy317⟩ : ∃ y_ : List Int, y_ = (List.replicate (a1 : Int).toNat 0) := ⟨_, rfl⟩; replace H : (some (y317, false)) = some (r1, r2) := (by first | (rw [hy317]; with_reducible exact H) | (have H2_ := (Option.bind_some _ _).symm.trans H; rw [hy317]; with_reducible exact H2_) | (have H2_ := (Option.bind_some _ _).symm.trans H; with_reducible exact H2_) | with_reducible exact H | (rw [hy317]; exact H) | exact H); have Ny317 := a_ hy317; clear hy317; simp only [Option.some.injEq, Prod.mk.injEq] at H; obtain ⟨rfl, rfl⟩ := H; go_enter Tryz.func22, Tryz.ntmps22; go_wp2_with (first | ((with_reducible refine gate_callee (f := 40) rfl ?_); refine goesL_ (some 10) rfl rfl Tryz.func40 t13_ rfl #[.string a0] rfl t2_ ?_; (with_reducible refine (impl_ReadList.calls k a0 t313 true _ A3.out ?T_).mono ?_); (case T_ => exact tab_ hT_ t1_); rintro e w10 ⟨v315, rfl, ho0, hb⟩; refine ⟨_, rfl, ?_⟩; have n0_ := a_ (Kd.R_lower ho0 (below_size t1_)); have n1_ := a_ (below_step t1_ hb); clear HB; have HO316 := n0_; have HB := n1_; clear n0_ n1_; (try clear hb); (try clear hb2); (try clear hk); (try clear hi); (try clear ho0); obtain ⟨Ao11, co11, eo11⟩ := Kd.R_slice HO316.out; subst eo11) | ((with_reducible refine gate_dst (N := 22) rfl ?_); (try (refine gate_guard (by rfl) ?_; dsimp only)); refine Kd.R_make (Kd.int .i64) _ 2 rfl (N := 22) rfl 26 _ _ rfl a1 rfl rfl Tryz.underlying26 (.int .i64 0) 8 info2 rfl t47_ t48_ 0 (ok := fun _ => True) (okp := fun _ => True) rfl (fun _ hk => hk) trivial (od_) (Nat.le_trans (Nat.mul_le_mul_right _ (od_ : a1.toNat ≤ 35184372088832)) t48_) (Below.refl _ _) (Nat.le_refl _) ?_; intro v318 w12 ho13 hb hg_ hnew_; clear hg_ hnew_; (first | rw [← Ny317.out] at ho13 | (simp only [Int.reduceToNat] at ho13; rw [← Ny317.out] at ho13)); have n0_ := a_ (Kd.R_elder' (q2_ HO316.out) (Kd.R_base ho13) hb); have n1_ := a_ (Kd.R_lower (Kd.R_new' ho13 (Kd.R_lt (q2_ HO316.out))) (below_size t1_)); have n2_ := a_ (below_step t1_ hb); clear HO316; clear HB; have HO316 := n0_; have HO319 := n1_; have HB := n2_; clear n0_ n1_ n2_; clear hb ho13)); go_ret2; exact ⟨_, t24_, (by (with_reducible repeat (first | apply Kd.R_alloc | apply Kd.R_drewN | apply Kd.R_drew)); exact Kd.R_mono HO319.out (fun _ hk => trivial)), t1_⟩
    ·rw [if_neg c9] at H; exact absurd H t57_
   ·rw [if_neg c8] at H; exact absurd H t57_
 ·replace c4 := Bool.eq_false_iff.mpr c4; subst c4; replace H := (if_neg (show ¬ (false = true) by decide)).symm.trans H; by_cases c14 : 0 ≤ a1
  ·rw [if_pos c14] at H; have c14b0 := eq_true c14; have c14b1 : decide (0 ≤ a1) = true := d1_ c14; clear c14; by_cases c15 : (a1 : Int).toNat ≤ 35184372088832
   ·rw [if_pos c15] at H; have c15b0 := eq_true c15; have c15b1 : decide ((a1 : Int).toNat ≤ 35184372088832) = true := d1_ c15; clear c15; obtain ⟨y320, hy320⟩ : ∃ y_ : List Int, y_ = (List.replicate (a1 : Int).toNat 0) := ⟨_, rfl⟩; replace H : (some (y320, false)) = some (r1, r2) := (by first | (rw [hy320]; with_reducible exact H) | (have H2_ := (Option.bind_some _ _).symm.trans H; rw [hy320]; with_reducible exact H2_) | (have H2_ := (Option.bind_some _ _).symm.trans H; with_reducible exact H2_) | with_reducible exact H | (rw [hy320]; exact H) | exact H); have Ny320 := a_ hy320; clear hy320; simp only [Option.some.injEq, Prod.mk.injEq] at H; obtain ⟨rfl, rfl⟩ := H; go_enter Tryz.func22, Tryz.ntmps22; go_wp2_with (first | ((with_reducible refine gate_callee (f := 40) rfl ?_); refine goesL_ (some 10) rfl rfl Tryz.func40 t13_ rfl #[.string a0] rfl t2_ ?_; (with_reducible refine (impl_ReadList.calls k a0 t313 false _ A3.out ?T_).mono ?_); (case T_ => exact tab_ hT_ t1_); rintro e w16 ⟨v315, rfl, ho0, hb⟩; refine ⟨_, rfl, ?_⟩; have n0_ := a_ (Kd.R_lower ho0 (below_size t1_)); have n1_ := a_ (below_step t1_ hb); clear HB; have HO316 := n0_; have HB := n1_; clear n0_ n1_; (try clear hb); (try clear hb2); (try clear hk); (try clear hi); (try clear ho0)) | ((with_reducible refine gate_dst (N := 22) rfl ?_); (try (refine gate_guard (by rfl) ?_; dsimp only)); refine Kd.R_make (Kd.int .i64) _ 2 rfl (N := 22) rfl 26 _ _ rfl a1 rfl rfl Tryz.underlying26 (.int .i64 0) 8 info2 rfl t47_ t48_ 0 (ok := fun _ => True) (okp := fun _ => True) rfl (fun _ hk => hk) trivial (od_) (Nat.le_trans (Nat.mul_le_mul_right _ (od_ : a1.toNat ≤ 35184372088832)) t48_) (Below.refl _ _) (Nat.le_refl _) ?_; intro v321 w17 ho18 hb hg_ hnew_; clear hg_ hnew_; (first | rw [← Ny320.out] at ho18 | (simp only [Int.reduceToNat] at ho18; rw [← Ny320.out] at ho18)); have n0_ := a_ (Kd.R_elder' (q2_ HO316.out) (Kd.R_base ho18) hb); have n1_ := a_ (Kd.R_lower (Kd.R_new' ho18 (Kd.R_lt (q2_ HO316.out))) (below_size t1_)); have n2_ := a_ (below_step t1_ hb); clear HO316; clear HB; have HO316 := n0_; have HO322 := n1_; have HB := n2_; clear n0_ n1_ n2_; clear hb ho18)); go_ret2; exact ⟨_, t24_, (by (with_reducible repeat (first | apply Kd.R_alloc | apply Kd.R_drewN | apply Kd.R_drew)); exact Kd.R_mono HO322.out (fun _ hk => trivial)), t1_⟩
   ·rw [if_neg c15] at H; exact absurd H t57_
  ·rw [if_neg c14] at H; exact absurd H t57_

end Go.Proofs.YtkgohpmheohnmaaGreatDoor.PFnStorage
