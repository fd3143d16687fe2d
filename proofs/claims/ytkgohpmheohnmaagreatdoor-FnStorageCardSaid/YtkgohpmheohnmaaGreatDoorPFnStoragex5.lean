-- written by wip/xprint.py, a program of this session, for this claim; not trusted: Lean checks it.
import Derived.Shelf.Strconv.Itoa4
import Derived.Lib.AppendIntMem
import Derived.WalkSmall
import Derived.Shelf.Strings.OnBuilder
import Derived.Lib.Join
import Derived.Shelf.Strings.Split
import Derived.Shelf.Strings.Search2
import Derived.Shelf.Strings.Search3
import Derived.Shelf.Strings.Count
import Derived.Lib.SplitLaws
import Derived.Test.YtkgohpmheohnmaaGreatDoorPFnStoragex0
import Derived.Test.YtkgohpmheohnmaaGreatDoorPFnStoragex3
namespace Go.Proofs.YtkgohpmheohnmaaGreatDoor.PFnStorage
open Go.RowKit Go.Proofs.YtkgohpmheohnmaaGreatDoorW.PrintWords Go.Proofs.YtkgohpmheohnmaaGreatDoorW.PrintLast Go.Proofs.YtkgohpmheohnmaaGreatDoorW.PrintMore
attribute [local go_sem] leq_less_ max2_int min2_int max_two min_two max_three min_three max_four min_four   -- for this text's walks alone
set_option linter.unusedVariables false
set_option linter.unusedSimpArgs false

/-! ### strconv_FormatInt_50: function 50 -/
def litoa__ren : Go.Shelf.Ren := ⟨fun | 173 => 50 | 246 => 58 | 283 => 67 | 284 => 68 | 285 => 69 | 286 => 70 | 129 => 84 | 317 => 83 | 318 => 85 | 319 => 86 | 320 => 87 | 337 => 98 | 338 => 99 | n => n, fun | 2 => 2 | 3 => 3 | 9 => 9 | 4 => 4 | 171 => 103 | 0 => 0 | 53 => 67 | 37 => 22 | 5 => 5 | 173 => 106 | 212 => 124 | 51 => 125 | 20 => 20 | 213 => 126 | 46 => 92 | 232 => 145 | 233 => 146 | n => n, fun | 17 => 0 | 18 => 6 | 19 => 7 | n => n⟩
theorem litoa_ : Go.Proofs.LaysM.n173 Tryz.prog litoa__ren := {
  mixed := by kernel_rfl
  f129 := Tryz.func84.trans (congrArg some t13_)
  f173 := Tryz.func50.trans (congrArg some t13_)
  f246 := Tryz.func58.trans (congrArg some t13_)
  f283 := Tryz.func67.trans (congrArg some t13_)
  f284 := Tryz.func68.trans (congrArg some t13_)
  f285 := Tryz.func69.trans (congrArg some t13_)
  f286 := Tryz.func70.trans (congrArg some t13_)
  f317 := Tryz.func83.trans (congrArg some t13_)
  f318 := Tryz.func85.trans (congrArg some t13_)
  f319 := Tryz.func86.trans (congrArg some t13_)
  f320 := Tryz.func87.trans (congrArg some t13_)
  f337 := Tryz.func98.trans (congrArg some t13_)
  f338 := Tryz.func99.trans (congrArg some t13_)
  t0 := Tryz.underlying0
  a0 := Tryz.isAgg0
  z0 := Tryz.sizeOf0
  v0 := Tryz.zeroValue0
  t2 := Tryz.underlying2
  a2 := Tryz.isAgg2
  z2 := Tryz.sizeOf2
  v2 := Tryz.zeroValue2
  t3 := Tryz.underlying3
  a3 := Tryz.isAgg3
  z3 := Tryz.sizeOf3
  v3 := Tryz.zeroValue3
  t4 := Tryz.underlying4
  a4 := Tryz.isAgg4
  z4 := Tryz.sizeOf4
  v4 := Tryz.zeroValue4
  t5 := Tryz.underlying5
  a5 := Tryz.isAgg5
  z5 := Tryz.sizeOf5
  v5 := Tryz.zeroValue5
  t9 := Tryz.underlying9
  a9 := Tryz.isAgg9
  z9 := Tryz.sizeOf9
  v9 := Tryz.zeroValue9
  t20 := Tryz.underlying20
  a20 := Tryz.isAgg20
  z20 := Tryz.sizeOf20
  v20 := Tryz.zeroValue20
  t37 := Tryz.underlying22
  a37 := Tryz.isAgg22
  z37 := Tryz.sizeOf22
  v37 := Tryz.zeroValue22
  t46 := Tryz.underlying92
  a46 := Tryz.isAgg92
  z46 := Tryz.sizeOf92
  v46 := Tryz.zeroValue92
  t51 := Tryz.underlying125
  a51 := Tryz.isAgg125
  z51 := Tryz.sizeOf125
  v51 := Tryz.zeroValue125
  t53 := Tryz.underlying67
  a53 := Tryz.isAgg67
  z53 := Tryz.sizeOf67
  v53 := Tryz.zeroValue67
  t171 := Tryz.underlying103
  a171 := Tryz.isAgg103
  z171 := Tryz.sizeOf103
  v171 := Tryz.zeroValue103
  t173 := Tryz.underlying106
  a173 := Tryz.isAgg106
  z173 := Tryz.sizeOf106
  v173 := Tryz.zeroValue106
  t212 := Tryz.underlying124
  a212 := Tryz.isAgg124
  z212 := Tryz.sizeOf124
  v212 := Tryz.zeroValue124
  t213 := Tryz.underlying126
  a213 := Tryz.isAgg126
  z213 := Tryz.sizeOf126
  t232 := Tryz.underlying145
  a232 := Tryz.isAgg145
  z232 := Tryz.sizeOf145
  v232 := Tryz.zeroValue145
  t233 := Tryz.underlying146
  a233 := Tryz.isAgg146
  z233 := Tryz.sizeOf146
  v233 := Tryz.zeroValue146
  g17 := by kernel_rfl
  g18 := by kernel_rfl
  g19 := by kernel_rfl
  i0 := by kernel_rfl
  i2 := by kernel_rfl
  i3 := by kernel_rfl
  i4 := by kernel_rfl
  i5 := by kernel_rfl
  i9 := by kernel_rfl
  i20 := by kernel_rfl
  i37 := by kernel_rfl
  i46 := by kernel_rfl
  i51 := by kernel_rfl
  i53 := by kernel_rfl
  i171 := by kernel_rfl
  i173 := by kernel_rfl
  i212 := by kernel_rfl
  i232 := by kernel_rfl
  i233 := by kernel_rfl
  m17 := by kernel_rfl
  m18 := by kernel_rfl
  m19 := by kernel_rfl }

/-- The table of the powers of ten lies as start-up lays it. -/
def Tab_ (w : World) : Prop := Lib.TabIs Tryz.prog w "internal/strconv.uint64pow10" .u64 Lib.pow10Tab ∧ (∃ t p, w.var? Tryz.prog "strconv.ErrSyntax" = some #[.iface t p]) ∧ (∃ t p, w.var? Tryz.prog "strconv.ErrRange" = some #[.iface t p])
theorem var_ {n : String} {g : Nat} (hg : Tryz.prog.globalNamed n = some g) {cs : Array Value} {w w' : World} (h : w.var? Tryz.prog n = some cs) (hb : Below w.heap.size w w') : w'.var? Tryz.prog n = some cs := by
  refine var?_below hb hg ?_ h; unfold World.var? at h
  simp only [hg, Option.bind_some] at h; rcases Nat.lt_or_ge g w.heap.size with hl | hl
  · exact hl
  · rw [Array.getElem?_eq_none hl] at h; cases h
theorem tab_ {w w' : World} (h : Tab_ w) (hb : Below w.heap.size w w') : Tab_ w' :=
  ⟨Lib.tabBelow_of_tabIs h.1 w' hb, h.2.1.imp fun t h => h.imp fun p h => var_ (g := 2) t13_ h hb, h.2.2.imp fun t h => h.imp fun p h => var_ (g := 3) t13_ h hb⟩
/-- strconv.FormatInt at base 10. -/
def strconv_FormatInt_50.f (a0 : Int) (a1 : Int) : Option ByteArray := if a1 = 10 ∧ -9223372036854775808 ≤ a0 ∧ a0 ≤ 9223372036854775807 then some ⟨(Lib.itoa a0).toArray⟩ else none
theorem strconv_FormatInt_50.calls (a0 : Int) (a1 : Int) (r : ByteArray) (w : World) (h : strconv_FormatInt_50.f a0 a1 = some r) (hT_ : Tab_ w) :
    Calls Tryz.prog 50 #[.int .i64 a0, .int .i64 a1] w fun e w' => e = .returned (.string r) ∧ Below w.heap.size w w' := by
  unfold strconv_FormatInt_50.f at h
  by_cases hcc : a1 = 10 ∧ -9223372036854775808 ≤ a0 ∧ a0 ≤ 9223372036854775807
  · rw [if_pos hcc] at h
    obtain rfl := Option.some.inj h; clear h; obtain ⟨rfl, h0, h1⟩ := hcc; refine Calls.mono (Any.strconv_FormatInt_10 litoa_ a0 h0 h1 w hT_.1) ?_; rintro e w' ⟨rfl, k, os, rfl⟩; exact ⟨rfl, Lib.below_grow _ _ (Nat.le_refl _) k os⟩
  · rw [if_neg hcc] at h
    cases h

/-! ### impl_Decimal: function 41 -/
def impl_Decimal.f (a0 : Int) : Option (ByteArray) := (strconv_FormatInt_50.f a0 10).bind fun t276 => (some t276)
set_option maxHeartbeats 8000000 in
set_option maxRecDepth 100000 in
theorem impl_Decimal.calls (a0 : Int) (r : ByteArray) (w : World) (h : impl_Decimal.f a0 = some r) (hT_ : Tab_ w) :
  Calls Tryz.prog 41 #[.int .i64 a0] w fun e w' => e = .returned (.string r) ∧ Below w.heap.size w w' := by
 have HB := a_ (Below.refl w.heap.size w); have H : ((strconv_FormatInt_50.f a0 10).bind fun t276 => (some t276)) = some r := h; clear h; replace H := be_ H; obtain ⟨t276, A20, H⟩ := H; have A2 := a_ A20; clear A20; obtain rfl := Option.some.inj H; go_enter Tryz.func41, Tryz.ntmps41; go_wp2_with (first | ((with_reducible refine gate_callee (f := 50) rfl ?_); refine goesL_ (some 4) rfl rfl Tryz.func50 t13_ rfl #[.int .i64 a0, .int .i64 10] rfl t2_ ?_; (with_reducible refine (strconv_FormatInt_50.calls a0 10 t276 _ A2.out ?T_).mono ?_); (case T_ => exact tab_ hT_ t1_); rintro e w3 ⟨rfl, hb⟩; refine ⟨_, rfl, ?_⟩; have n0_ := a_ (below_step t1_ hb); clear HB; have HB := n0_; clear n0_; (try clear hb); (try clear hb2); (try clear hk); (try clear hi))); go_ret
 exact ⟨t5_, t1_⟩

-- NOT PRINTED: function 71 (abi_NoEscape)

-- NOT PRINTED: function 59 (strings_Builder_copyCheck)

-- function 72 is told with the one that calls it

-- NOT PRINTED: function 60 (strings_Builder_grow)

-- NOT PRINTED: function 51 (strings_Builder_Grow)

-- NOT PRINTED: function 52 (strings_Builder_WriteString)

-- NOT PRINTED: function 53 (strings_Builder_String)

/-! ### strings_Join: function 42 -/
def ljoin__ren : Go.Shelf.Ren := ⟨fun | 156 => 42 | 165 => 51 | 166 => 52 | 169 => 53 | 240 => 59 | 241 => 60 | 276 => 71 | 277 => 72 | n => n, fun | 31 => 75 | 9 => 9 | 3 => 3 | 4 => 4 | 0 => 0 | 20 => 20 | 72 => 85 | 76 => 89 | 70 => 83 | 37 => 22 | 75 => 88 | 127 => 98 | 164 => 108 | 5 => 5 | 80 => 91 | n => n, fun | n => n⟩
theorem ljoin_ : Go.Proofs.Lays.n156 Tryz.prog ljoin__ren := {
  mixed := by kernel_rfl
  f156 := Tryz.func42.trans (congrArg some t13_)
  f165 := Tryz.func51.trans (congrArg some t13_)
  f166 := Tryz.func52.trans (congrArg some t13_)
  f169 := Tryz.func53.trans (congrArg some t13_)
  f240 := Tryz.func59.trans (congrArg some t13_)
  f241 := Tryz.func60.trans (congrArg some t13_)
  f276 := Tryz.func71.trans (congrArg some t13_)
  f277 := Tryz.func72.trans (congrArg some t13_)
  t0 := Tryz.underlying0
  a0 := Tryz.isAgg0
  z0 := Tryz.sizeOf0
  v0 := Tryz.zeroValue0
  t3 := Tryz.underlying3
  a3 := Tryz.isAgg3
  z3 := Tryz.sizeOf3
  v3 := Tryz.zeroValue3
  t4 := Tryz.underlying4
  a4 := Tryz.isAgg4
  z4 := Tryz.sizeOf4
  v4 := Tryz.zeroValue4
  t9 := Tryz.underlying9
  a9 := Tryz.isAgg9
  z9 := Tryz.sizeOf9
  v9 := Tryz.zeroValue9
  t20 := Tryz.underlying20
  a20 := Tryz.isAgg20
  z20 := Tryz.sizeOf20
  v20 := Tryz.zeroValue20
  t31 := Tryz.underlying75
  a31 := Tryz.isAgg75
  z31 := Tryz.sizeOf75
  v31 := Tryz.zeroValue75
  t37 := Tryz.underlying22
  a37 := Tryz.isAgg22
  z37 := Tryz.sizeOf22
  v37 := Tryz.zeroValue22
  t70 := Tryz.underlying83
  a70 := Tryz.isAgg83
  z70 := Tryz.sizeOf83
  v70 := Tryz.zeroValue83
  t72 := Tryz.underlying85
  a72 := Tryz.isAgg85
  z72 := Tryz.sizeOf85
  v72 := Tryz.zeroValue85
  t75 := Tryz.underlying88
  a75 := Tryz.isAgg88
  z75 := Tryz.sizeOf88
  v75 := Tryz.zeroValue88
  t76 := Tryz.underlying89
  a76 := Tryz.isAgg89
  z76 := Tryz.sizeOf89
  v76 := Tryz.zeroValue89
  t127 := Tryz.underlying98
  a127 := Tryz.isAgg98
  z127 := Tryz.sizeOf98
  v127 := Tryz.zeroValue98
  t164 := Tryz.underlying108
  a164 := Tryz.isAgg108
  z164 := Tryz.sizeOf108
  v164 := Tryz.zeroValue108 }

theorem ljoin_extra : Builder.Extra Tryz.prog ljoin__ren where
  sizeBuilder := by kernel_rfl
  liesBuilder := by kernel_rfl
  t5 := Tryz.underlying5
  a5 := Tryz.isAgg5
  z5 := Tryz.sizeOf5
  v5 := Tryz.zeroValue5
  infoByte := by kernel_rfl
  cellsByte := by kernel_rfl
  sizeByte := by kernel_rfl
  neB5 := by decide
/-- An own row begins at its block's first cell. -/
theorem spot_ {e base n : Nat} {w : World} {ok : Nat → Prop} {A : Option Addr} {c : Nat} {xs : List ByteArray} (h : Kd.R Kd.string e w base ok (.slice A n c) xs) : ∀ a, A = some a → ∃ g, a = ⟨g, 0, none⟩ := by
  intro a ha; subst ha; obtain ⟨_, h | ⟨g, cap, cur, e1, _, e2, _⟩⟩ := Kd.own_of_R h
  · cases h.1
  · injection e1 with e3
    injection e3 with e4; exact ⟨g, e4⟩
/-- strings.Join. -/
def strings_Join.f (a0 : List ByteArray) (a1 : ByteArray) : Option ByteArray := if a0.length ≤ 100000 ∧ (Lib.join (a0.map (·.data.toList)) a1.data.toList).length ≤ 140737488355328 then some ⟨(Lib.join (a0.map (·.data.toList)) a1.data.toList).toArray⟩ else none
theorem strings_Join.calls (A0 : Option Addr) (c0 : Nat) (l0 : List ByteArray) (a1 : ByteArray) (r : ByteArray) (w : World) (hr0 : Kd.C Kd.string w A0 l0.length l0) (hc0 : l0.length ≤ c0) (h : strings_Join.f l0 a1 = some r) (hA_ : ∀ a, A0 = some a → ∃ g, a = ⟨g, 0, none⟩) :
    Calls Tryz.prog 42 #[.slice A0 l0.length c0, .string a1] w fun e w' => e = .returned (.string r) ∧ Below w.heap.size w w' := by
  unfold strings_Join.f at h
  by_cases hcc : l0.length ≤ 100000 ∧ (Lib.join (l0.map (·.data.toList)) a1.data.toList).length ≤ 140737488355328
  · rw [if_pos hcc] at h
    obtain rfl := Option.some.inj h; clear h; match l0, hr0, hc0, hcc with
    | [], _, _, _ => exact (Any.strings_Join_none ljoin_ ljoin_extra A0 c0 a1 w).mono fun e w' hw => ⟨hw.1, hw.2 ▸ Below.refl _ _⟩
    | x :: l, hr0, hc0, hcc =>
      have at_ : ∀ (j : Nat) y, (x :: l)[j]? = some y → ∃ ad, A0 = some ad ∧ w.cell? (ad.add j) = some (.string y) := by
        intro j y hj; obtain ⟨hjl, hy⟩ := List.getElem?_eq_some_iff.1 hj; obtain ⟨ad, e1, e2⟩ := Kd.at_string hr0 (j : Int) t48_ t48_; have e3 : rdOf ByteArray.empty (x :: l) (j : Int) = y := by
          unfold rdOf
          rw [Int.toNat_natCast, List.getD_eq_getElem?_getD, hj]; rfl
        rw [e3, Int.toNat_natCast] at e2; exact ⟨ad, e1, e2⟩
      obtain ⟨ad, e1, e2⟩ := at_ 0 x rfl; obtain ⟨g, e3⟩ := hA_ ad e1; subst e3; subst e1; refine (Any.strings_Join ljoin_ ljoin_extra g 0 c0 (x :: l) a1 w (fun j y hj => ?_) ?_ t48_ hc0 hcc.2)
      · obtain ⟨ad, e4, e5⟩ := at_ j y hj
        injection e4 with e4; subst e4; unfold Addr.add at e5
        by_cases hj0 : j = 0
        · subst hj0
          exact e5
        · rw [if_neg hj0] at e5
          exact e5
      · have := World.block_lt_of_cell? w _ e2
        rw [add_block] at this; exact this
  · rw [if_neg hcc] at h
    cases h

/-! ### impl_ListText: function 23 -/
def impl_ListText.l0 : Nat → List ByteArray → List Int → Int → Int → Option (ByteArray)
 | 0, _, _, _, _ => none
 | k + 1, x3, x15, x16, x17 => if x17 < x16 then (if 0 ≤ x17 then (if x17 < (x15.length : Int) then ((impl_within.f (rd x15 x17) (-1000000000000) 1000000000000).bind fun t286 => (if t286 = true then ((impl_Decimal.f (rd x15 x17)).bind fun t287 => (if x3.length < 8796093022208 then (impl_ListText.l0 k (x3 ++ [t287]) x15 x16 (wrap64 (x17 + 1))) else (none))) else (some (⟨#[]⟩ : ByteArray)))) else (none)) else (none)) else ((strings_Join.f x3 (⟨#[44]⟩ : ByteArray)).bind fun t284 => (some t284))
def impl_ListText.f (k : Nat) (l0 : List Int) : Option (ByteArray) := if (l0.length : Int) > 64 then (some (⟨#[]⟩ : ByteArray)) else (if (l0.length : Int) = 0 then (some (⟨#[45]⟩ : ByteArray)) else (if 0 ≤ (l0.length : Int) then (if ((l0.length : Int) : Int).toNat ≤ 17592186044416 then (impl_ListText.l0 k (List.replicate 0 (⟨#[]⟩ : ByteArray)) l0 (l0.length : Int) 0) else (none)) else (none)))
theorem impl_ListText.mono_l : ∀ k, (∀ y0 y1 y2 y3, LeO (impl_ListText.l0 k y0 y1 y2 y3) (impl_ListText.l0 (k + 1) y0 y1 y2 y3))
 | 0 => fun _ _ _ _ r h => by simp [impl_ListText.l0] at h
 | k + 1 => by
  have ih0 := impl_ListText.mono_l k
  ·intro y0 y1 y2 y3
   unfold impl_ListText.l0
   repeat' first
   | (with_reducible exact ih0 _ _ _ _)
   | (with_reducible exact LeO.refl _)
   | (with_reducible exact LeO.none _)
   | (with_reducible refine LeO.ite ?_ ?_)
   | (with_reducible refine LeO.bind ?_ (fun _ => ?_))
theorem impl_ListText.mono : ∀ a0 k, LeO (impl_ListText.f k a0) (impl_ListText.f (k + 1) a0) := by
 intro a0 k; have ih0 := impl_ListText.mono_l k; unfold impl_ListText.f
 repeat' first
   | (with_reducible exact ih0 _ _ _ _)
   | (with_reducible exact LeO.refl _)
   | (with_reducible exact LeO.none _)
   | (with_reducible refine LeO.ite ?_ ?_)
   | (with_reducible refine LeO.bind ?_ (fun _ => ?_))
set_option maxHeartbeats 8000000 in
set_option maxRecDepth 100000 in
theorem impl_ListText.calls (k : Nat) (A0 : Option Addr) (c0 : Nat) (l0 : List Int) (r : ByteArray) (w : World) (hr0 : Kd.C (Kd.int .i64) w A0 l0.length l0) (hc0 : l0.length ≤ c0) (h : impl_ListText.f k l0 = some r) (hT_ : Tab_ w) :
  Calls Tryz.prog 23 #[.slice A0 l0.length c0] w fun e w' => e = .returned (.string r) ∧ Below w.heap.size w w' := by
 have HR0 := a_ hr0; have HC0 := a_ hc0; clear hr0 hc0; have HB := a_ (Below.refl w.heap.size w); have H : (if (l0.length : Int) > 64 then (some (⟨#[]⟩ : ByteArray)) else (if (l0.length : Int) = 0 then (some (⟨#[45]⟩ : ByteArray)) else (if 0 ≤ (l0.length : Int) then (if ((l0.length : Int) : Int).toNat ≤ 17592186044416 then (impl_ListText.l0 k (List.replicate 0 (⟨#[]⟩ : ByteArray)) l0 (l0.length : Int) 0) else (none)) else (none)))) = some r := h; clear h; by_cases c2 : (l0.length : Int) > 64
 ·rw [if_pos c2] at H; have c2b0 : decide (64 < (l0.length : Int)) = true := d1_ c2; have c2b1 : decide (64 < l0.length) = true := decide_eq_true t48_; clear c2; obtain rfl := Option.some.inj H; go_enter Tryz.func23, Tryz.ntmps23; go_wp2; go_ret
  exact ⟨t5_, t1_⟩
 ·rw [if_neg c2] at H; have c2b0 : decide (64 < (l0.length : Int)) = false := d2_ c2; have c2b1 : decide (64 < l0.length) = false := decide_eq_false t48_; clear c2; by_cases c3 : (l0.length : Int) = 0
  ·rw [if_pos c3] at H; have c3b0 : ((l0.length : Int) == 0) = true := b1_ c3; have c3b1 : ((l0.length : Int) != 0) = false := b4_ c3; clear c3; obtain rfl := Option.some.inj H; go_enter Tryz.func23, Tryz.ntmps23; go_wp2; go_ret
   exact ⟨t5_, t1_⟩
  ·rw [if_neg c3] at H; have c3b0 : ((l0.length : Int) == 0) = false := b2_ c3; have c3b1 : ((l0.length : Int) != 0) = true := b3_ c3; have c3b2 : ¬ (l0 = []) := fun h_ => c3 (by rw [h_]; rfl); by_cases c4 : 0 ≤ (l0.length : Int)
   ·rw [if_pos c4] at H; have c4b0 := eq_true c4; have c4b1 : decide (0 ≤ (l0.length : Int)) = true := d1_ c4; clear c4; by_cases c5 : ((l0.length : Int) : Int).toNat ≤ 17592186044416
    ·rw [if_pos c5] at H; have c5b0 := eq_true c5; have c5b1 : decide (((l0.length : Int) : Int).toNat ≤ 17592186044416) = true := d1_ c5; clear c5; obtain ⟨y281, hy281⟩ : ∃ y_ : List ByteArray, y_ = (List.replicate 0 (⟨#[]⟩ : ByteArray)) := ⟨_, rfl⟩; replace H : (impl_ListText.l0 k y281 l0 (l0.length : Int) 0) = some r := (by first | (rw [hy281]; with_reducible exact H) | (have H2_ := (Option.bind_some _ _).symm.trans H; rw [hy281]; with_reducible exact H2_) | (have H2_ := (Option.bind_some _ _).symm.trans H; with_reducible exact H2_) | with_reducible exact H | (rw [hy281]; exact H) | exact H); have Ny281 := a_ hy281; clear hy281; have H' := a_ H; clear H; go_enter Tryz.func23, Tryz.ntmps23; go_wp2_with (first | ((with_reducible refine gate_dst (N := 14) rfl ?_); refine R_make0_ Kd.string _ 9 rfl (N := 14) rfl 75 _ _ rfl (l0.length : Int) rfl rfl Tryz.underlying75 (.string ⟨#[]⟩) 16 info9 rfl t47_ t48_ (⟨#[]⟩ : ByteArray) (ok := fun _ => True) (okp := fun _ => True) rfl (fun _ hk => hk) trivial (od_) (Nat.le_trans (Nat.mul_le_mul_right _ (od_ : ((l0.length : Int) : Int).toNat ≤ 17592186044416)) t48_) (Below.refl _ _) (Nat.le_refl _) ?_; intro v282 w6 ho7 hb hg_ hnew_; clear hg_ hnew_; (first | rw [← Ny281.out] at ho7 | (simp only [Int.reduceToNat] at ho7; rw [← Ny281.out] at ho7)); have n0_ := a_ (Kd.R_lower ho7 (below_size t1_)); have n1_ := a_ (below_step t1_ hb); clear HB; have HO283 := n0_; have HB := n1_; clear n0_ n1_; clear hb ho7)); go_loopg [3, 17] k (fun kq v3 v17 w' => ∃ (x3_1 : List ByteArray) (x17_1 : Int), v17 = .int .i64 x17_1 ∧ Aside0 (impl_ListText.l0 kq x3_1 l0 (l0.length : Int) x17_1 = some r) ∧ Aside0 (kq ≤ k) ∧ Aside0 (Kd.R Kd.string 9 w' w.heap.size (fun _ => True) v3 x3_1) ∧ Aside0 (Below w.heap.size w w'))
     case atStart => exact ⟨(y281), (0), t14_, H', ⟨Nat.le_refl _⟩, ⟨(by (with_reducible repeat (first | apply Kd.R_alloc | apply Kd.R_drewN | apply Kd.R_drew)); exact HO283.out)⟩, ⟨t1_⟩⟩
     case round =>
      clear H'; (try clear c2); (try clear c2b0); (try clear c2b1); (try clear p2); (try clear c3); (try clear c3b0); (try clear c3b1); (try clear c3b2); (try clear c4); (try clear c4b0); (try clear c4b1); (try clear c5); (try clear c5b0); (try clear c5b1); obtain ⟨x3_1, x17_1, rfl, HA, HK1, HO_3, HB⟩ := hrel; cases gk with
      | zero => exact absurd HA.out (by simp [impl_ListText.l0])
      | succ k1 =>
       have H := HA.out; clear HA; simp only [impl_ListText.l0] at H; by_cases c8 : x17_1 < (l0.length : Int)
       ·rw [if_pos c8] at H; have c8b0 : decide (x17_1 < (l0.length : Int)) = true := d1_ c8; clear c8; by_cases c9 : 0 ≤ x17_1
        ·rw [if_pos c9] at H; have c9b0 : decide (0 ≤ x17_1) = true := d1_ c9; clear c9; by_cases c10 : x17_1 < (l0.length : Int)
         ·rw [if_pos c10] at H; have c10b0 : decide (x17_1 < (l0.length : Int)) = true := d1_ c10; clear c10; replace H := be_ H; obtain ⟨t286, A110, H⟩ := H; have A11 := a_ A110; clear A110; by_cases c12 : t286 = true
          ·subst c12; replace H := (if_pos rfl).symm.trans H; replace H := be_ H; obtain ⟨t287, A130, H⟩ := H; have A13 := a_ A130; clear A130; by_cases c14 : x3_1.length < 8796093022208
           ·rw [if_pos c14] at H; have LMc14 := a_ c14; clear c14; obtain ⟨y288, hy288⟩ : ∃ y_ : List ByteArray, y_ = (x3_1 ++ [t287]) := ⟨_, rfl⟩; replace H : (impl_ListText.l0 k1 y288 l0 (l0.length : Int) (wrap64 (x17_1 + 1))) = some r := (by first | (rw [hy288]; with_reducible exact H) | (have H2_ := (Option.bind_some _ _).symm.trans H; rw [hy288]; with_reducible exact H2_) | (have H2_ := (Option.bind_some _ _).symm.trans H; with_reducible exact H2_) | with_reducible exact H | (rw [hy288]; exact H) | exact H); have Ny288 := a_ hy288; clear hy288; have H' := a_ H; clear H; have p285 : 0 ≤ (x17_1 : Int) := od_; have q285 : x17_1 < (l0.length : Int) := od_; obtain ⟨ad285, e285, hx285_0⟩ := Kd.at_int HR0.out x17_1 p285 q285; cases e285; replace hx285_0 := (HB.out.cell (World.block_lt_of_cell? w _ hx285_0)).trans hx285_0; replace p285 := eq_true p285; replace q285 := eq_true q285; go_wp2_with (first | ((with_reducible refine gate_callee (f := 19) rfl ?_); refine goesL_ (some 22) rfl rfl Tryz.func19 t13_ rfl #[.int .i64 (rd l0 x17_1), .int .i64 (-1000000000000), .int .i64 1000000000000] rfl t2_ ?_; (with_reducible refine (impl_within.calls (rd l0 x17_1) (-1000000000000) 1000000000000 true _ A11.out).mono ?_); rintro e w' ⟨rfl, ⟨nd, rfl⟩⟩; refine ⟨_, rfl, ?_⟩) | ((with_reducible refine gate_callee (f := 41) rfl ?_); refine goesL_ (some 26) rfl rfl Tryz.func41 t13_ rfl #[.int .i64 (rd l0 x17_1)] rfl t2_ ?_; (with_reducible refine (impl_Decimal.calls (rd l0 x17_1) t287 _ A13.out ?T_).mono ?_); (case T_ => exact tab_ hT_ t1_); rintro e w15 ⟨rfl, hb⟩; refine ⟨_, rfl, ?_⟩; have n0_ := a_ (Kd.R_below (q2_ HO_3.out) hb); have n1_ := a_ (below_step t1_ hb); clear HO_3; clear HB; have HO_3 := n0_; have HB := n1_; clear n0_ n1_; (try clear hb); (try clear hb2); (try clear hk); (try clear hi)) | ((with_reducible refine gate_builtin (b := .append) (xs := #[.tmp 24, .tmp 27]) rfl ?_); at_builtin; refine Kd.R_append Kd.string (w0 := w) w.heap.size rfl (.tmp 24) (.tmp 27) 75 9 (.string ⟨#[]⟩) 16 rfl Tryz.underlying75 info9 rfl t47_ t48_ u3 x3_1 t287 [.string t287] (fun _ => True) (fun _ => False) rfl rfl ?aP (fun _ hk => hk.elim) ?aF ?aO ?aB ?aS ?aL ?_; (case aP => exact rfl); (case aB => exact t1_); (case aF => exact (fun _ _ => trivial)); (case aO => exact (q2_ HO_3.out)); (case aS => exact (below_size t1_)); (case aL => have := LMc14.out; omega); intro v289 w16 ho hb hg hat; rw [← Ny288.out] at ho; have n0_ := a_ (hb); have n1_ := a_ (ho); clear HB; clear HO_3; have HB := n0_; have HO290 := n1_; clear n0_ n1_; clear ho hb hg hat)); go_roundg k1
            case measure => have := HK1.out; omega
            case rel => exact ⟨(y288), (wrap64 (x17_1 + 1)), t14_, H', ⟨(by have := HK1.out; omega)⟩, ⟨(by (with_reducible repeat (first | apply Kd.R_alloc | apply Kd.R_drewN | apply Kd.R_drew)); exact HO290.out)⟩, ⟨t1_⟩⟩
           ·rw [if_neg c14] at H; exact absurd H t57_
          ·replace c12 := Bool.eq_false_iff.mpr c12; subst c12; replace H := (if_neg (show ¬ (false = true) by decide)).symm.trans H; obtain rfl := Option.some.inj H; have p285 : 0 ≤ (x17_1 : Int) := od_; have q285 : x17_1 < (l0.length : Int) := od_; obtain ⟨ad285, e285, hx285_0⟩ := Kd.at_int HR0.out x17_1 p285 q285; cases e285; replace hx285_0 := (HB.out.cell (World.block_lt_of_cell? w _ hx285_0)).trans hx285_0; replace p285 := eq_true p285; replace q285 := eq_true q285; go_wp2_with (first | ((with_reducible refine gate_callee (f := 19) rfl ?_); refine goesL_ (some 22) rfl rfl Tryz.func19 t13_ rfl #[.int .i64 (rd l0 x17_1), .int .i64 (-1000000000000), .int .i64 1000000000000] rfl t2_ ?_; (with_reducible refine (impl_within.calls (rd l0 x17_1) (-1000000000000) 1000000000000 false _ A11.out).mono ?_); rintro e w' ⟨rfl, ⟨nd, rfl⟩⟩; refine ⟨_, rfl, ?_⟩)); go_ret
           exact ⟨t5_, t1_⟩
         ·rw [if_neg c10] at H; exact absurd H t57_
        ·rw [if_neg c9] at H; exact absurd H t57_
       ·rw [if_neg c8] at H; have c8b0 : decide (x17_1 < (l0.length : Int)) = false := d2_ c8; clear c8; replace H := be_ H; obtain ⟨t284, A170, H⟩ := H; have A17 := a_ A170; clear A170; obtain rfl := Option.some.inj H; obtain ⟨Ao18, co18, eo18⟩ := Kd.R_slice HO_3.out; subst eo18; go_wp2_with (first | ((with_reducible refine gate_callee (f := 42) rfl ?_); refine goesL_ (some 31) rfl rfl Tryz.func42 t13_ rfl #[.slice Ao18 x3_1.length co18, .string (⟨#[44]⟩ : ByteArray)] rfl t2_ ?_; (with_reducible refine (strings_Join.calls _ _ x3_1 (⟨#[44]⟩ : ByteArray) t284 _ ?side1 ?side2 A17.out ?A_).mono ?_); (case A_ => exact spot_ HO_3.out); (case side1 => repeat (first | exact (Kd.R_reads' HO_3.out).2.2 | (with_reducible refine Kd.C_alloc ?_ _) | (with_reducible refine Kd.C_drewN ?_ _) | (with_reducible refine Kd.C_drew ?_))); (case side2 => exact (Kd.R_reads' HO_3.out).2.1); rintro e w19 ⟨rfl, hb⟩; refine ⟨_, rfl, ?_⟩; have n0_ := a_ (Kd.R_below (q2_ HO_3.out) hb); have n1_ := a_ (below_step t1_ hb); clear HO_3; clear HB; have HO_3 := n0_; have HB := n1_; clear n0_ n1_; (try clear hb); (try clear hb2); (try clear hk); (try clear hi))); go_ret
        exact ⟨t5_, t1_⟩
    ·rw [if_neg c5] at H; exact absurd H t57_
   ·rw [if_neg c4] at H; exact absurd H t57_

/-! ### impl_TankText: function 9 -/
def impl_TankText.f (k : Nat) (a0_0 : Int) (a0_1 : Int) (a0_2 : Int) : Option (ByteArray) := (impl_ValidTank.f a0_0 a0_1 a0_2).bind fun t292 => (if t292 = true then ((impl_ListText.f k (([a0_0, a0_1, a0_2] : List Int))).bind fun t296 => (some t296)) else (some (⟨#[]⟩ : ByteArray)))
theorem impl_TankText.mono : ∀ a0 a1 a2 k, LeO (impl_TankText.f k a0 a1 a2) (impl_TankText.f (k + 1) a0 a1 a2) := by
 intro a0 a1 a2 k; unfold impl_TankText.f
 repeat' first
   | (with_reducible exact impl_ListText.mono _ _)
   | (with_reducible exact LeO.refl _)
   | (with_reducible exact LeO.none _)
   | (with_reducible refine LeO.ite ?_ ?_)
   | (with_reducible refine LeO.bind ?_ (fun _ => ?_))
set_option maxHeartbeats 8000000 in
set_option maxRecDepth 100000 in
theorem impl_TankText.calls (k : Nat) (a0_0 : Int) (a0_1 : Int) (a0_2 : Int) (r : ByteArray) (w : World) (h : impl_TankText.f k a0_0 a0_1 a0_2 = some r) (hT_ : Tab_ w) :
  Calls Tryz.prog 9 #[.agg #[.int .i64 a0_0, .int .i64 a0_1, .int .i64 a0_2]] w fun e w' => e = .returned (.string r) ∧ Below w.heap.size w w' := by
 have hu25 := Tryz.underlying25; have HB := a_ (Below.refl w.heap.size w); have H : ((impl_ValidTank.f a0_0 a0_1 a0_2).bind fun t292 => (if t292 = true then ((impl_ListText.f k (([a0_0, a0_1, a0_2] : List Int))).bind fun t296 => (some t296)) else (some (⟨#[]⟩ : ByteArray)))) = some r := h; clear h; replace H := be_ H; obtain ⟨t292, A20, H⟩ := H; have A2 := a_ A20; clear A20; by_cases c3 : t292 = true
 ·subst c3; replace H := (if_pos rfl).symm.trans H; obtain ⟨y293, hy293⟩ : ∃ y_ : List Int, y_ = (([a0_0, a0_1, a0_2] : List Int)) := ⟨_, rfl⟩; replace H : ((impl_ListText.f k y293).bind fun t296 => (some t296)) = some r := (by first | (rw [hy293]; with_reducible exact H) | (have H2_ := (Option.bind_some _ _).symm.trans H; rw [hy293]; with_reducible exact H2_) | (have H2_ := (Option.bind_some _ _).symm.trans H; with_reducible exact H2_) | with_reducible exact H | (rw [hy293]; exact H) | exact H); have Ny293 := a_ hy293; clear hy293; replace H := be_ H; obtain ⟨t296, A40, H⟩ := H; have A4 := a_ A40; clear A40; obtain rfl := Option.some.inj H; go_enter Tryz.func9, Tryz.ntmps9; go_wp2_with (first | ((with_reducible refine gate_dst (N := 1) rfl ?_); refine box_event ?hg (N := 1) ?hd (cs := #[.int .i64 a0_0, .int .i64 a0_1, .int .i64 a0_2]) (t := 25) ?hr ?_; (case hd => rfl); (case hg => rfl); (case hr => first | (go_simp; done) | (go_simp; rfl)); intro gb291 hg w5 hbox hb; have n0_ := a_ (below_step t1_ hb); have n1_ := a_ (hbox); have n2_ := a_ ((by rw [hg]; exact (below_size t1_) : w.heap.size ≤ gb291)); have n3_ := a_ ((by rw [hg]; exact (below_size t1_) : w.heap.size ≤ gb291)); clear HB; have HB := n0_; have BK291 := n1_; have GW291 := n2_; have GE291 := n3_; clear n0_ n1_ n2_ n3_; clear hb hbox hg; have ⟨hcz6_0, hcz6_1, hcz6_2, hfz6_0, hfz6_1, hfz6_2⟩ := bc3_ BK291.out) | ((with_reducible refine gate_callee (f := 18) rfl ?_); refine goesL_ (some 4) rfl rfl Tryz.func18 t13_ rfl #[.agg #[.int .i64 a0_0, .int .i64 a0_1, .int .i64 a0_2]] rfl t2_ ?_; (with_reducible refine (impl_ValidTank.calls a0_0 a0_1 a0_2 true _ A2.out).mono ?_); rintro e w7 ⟨rfl, hb⟩; refine ⟨_, rfl, ?_⟩; have n0_ := a_ (blk_below (g := gb291) (o := .cells #[.int .i64 a0_0, .int .i64 a0_1, .int .i64 a0_2] 25 (0, 0)) (q1_ BK291.out) hb); have n1_ := a_ (below_step t46_ hb); clear BK291; clear HB; have BK291 := n0_; have HB := n1_; clear n0_ n1_; (try clear hb); (try clear hb2); (try clear hk); (try clear hi); have ⟨hcz8_0, hcz8_1, hcz8_2, hfz8_0, hfz8_1, hfz8_2⟩ := bc3_ BK291.out) | ((with_reducible refine gate_dst (N := 12) rfl ?_); refine Kd.R_lit (Kd.int .i64) _ 2 ?hg (N := 12) ?hd (xs := ([a0_0, a0_1, a0_2] : List Int)) (inner := [.int .i64 a0_0, .int .i64 a0_1, .int .i64 a0_2]) (ok := fun _ => True) (okp := fun _ => True) ?hr ?hp (fun _ hk => hk) trivial (Below.refl _ _) (Nat.le_refl _) t57_ ?_; (case hd => rfl); (case hg => rfl); (case hr => first | (go_simp; done) | (go_simp; rfl)); (case hp => exact (Reps.one (show Kd.M (Kd.int .i64) _ _ _ a0_0 [.int .i64 a0_0] from rfl) (Reps.one (show Kd.M (Kd.int .i64) _ _ _ a0_1 [.int .i64 a0_1] from rfl) (Reps.one (show Kd.M (Kd.int .i64) _ _ _ a0_2 [.int .i64 a0_2] from rfl) (Reps.none _ _))))); intro v294 w9 ho10 hb hg_ hnew_; clear hg_ hnew_; (first | rw [← Ny293.out] at ho10 | (simp only [Int.reduceToNat] at ho10; rw [← Ny293.out] at ho10)); have n0_ := a_ (Kd.R_lower ho10 (below_size t46_)); have n1_ := a_ (blk_below (g := gb291) (o := .cells #[.int .i64 a0_0, .int .i64 a0_1, .int .i64 a0_2] 25 (0, 0)) (q1_ BK291.out) hb); have n2_ := a_ (below_step t46_ hb); clear BK291; clear HB; have HO295 := n0_; have BK291 := n1_; have HB := n2_; clear n0_ n1_ n2_; clear hb ho10; obtain ⟨Ao11, co11, eo11⟩ := Kd.R_slice HO295.out; subst eo11) | ((with_reducible refine gate_callee (f := 23) rfl ?_); refine goesL_ (some 13) rfl rfl Tryz.func23 t13_ rfl #[.slice Ao11 y293.length co11] rfl t2_ ?_; (with_reducible refine (impl_ListText.calls k _ _ y293 t296 _ ?side1 ?side2 A4.out ?T_).mono ?_); (case T_ => exact tab_ hT_ t46_); (case side1 => repeat (first | exact (Kd.R_reads' HO295.out).2.2 | (with_reducible refine Kd.C_alloc ?_ _) | (with_reducible refine Kd.C_drewN ?_ _) | (with_reducible refine Kd.C_drew ?_))); (case side2 => exact (Kd.R_reads' HO295.out).2.1); rintro e w12 ⟨rfl, hb⟩; refine ⟨_, rfl, ?_⟩; have n0_ := a_ (Kd.R_below (q2_ HO295.out) hb); have n1_ := a_ (blk_below (g := gb291) (o := .cells #[.int .i64 a0_0, .int .i64 a0_1, .int .i64 a0_2] 25 (0, 0)) (q1_ BK291.out) hb); have n2_ := a_ (below_step t46_ hb); clear HO295; clear BK291; clear HB; have HO295 := n0_; have BK291 := n1_; have HB := n2_; clear n0_ n1_ n2_; (try clear hb); (try clear hb2); (try clear hk); (try clear hi))); go_ret
  exact ⟨t5_, t46_⟩
 ·replace c3 := Bool.eq_false_iff.mpr c3; subst c3; replace H := (if_neg (show ¬ (false = true) by decide)).symm.trans H; obtain rfl := Option.some.inj H; go_enter Tryz.func9, Tryz.ntmps9; go_wp2_with (first | ((with_reducible refine gate_dst (N := 1) rfl ?_); refine box_event ?hg (N := 1) ?hd (cs := #[.int .i64 a0_0, .int .i64 a0_1, .int .i64 a0_2]) (t := 25) ?hr ?_; (case hd => rfl); (case hg => rfl); (case hr => first | (go_simp; done) | (go_simp; rfl)); intro gb291 hg w13 hbox hb; have n0_ := a_ (below_step t1_ hb); have n1_ := a_ (hbox); have n2_ := a_ ((by rw [hg]; exact (below_size t1_) : w.heap.size ≤ gb291)); have n3_ := a_ ((by rw [hg]; exact (below_size t1_) : w.heap.size ≤ gb291)); clear HB; have HB := n0_; have BK291 := n1_; have GW291 := n2_; have GE291 := n3_; clear n0_ n1_ n2_ n3_; clear hb hbox hg; have ⟨hcz14_0, hcz14_1, hcz14_2, hfz14_0, hfz14_1, hfz14_2⟩ := bc3_ BK291.out) | ((with_reducible refine gate_callee (f := 18) rfl ?_); refine goesL_ (some 4) rfl rfl Tryz.func18 t13_ rfl #[.agg #[.int .i64 a0_0, .int .i64 a0_1, .int .i64 a0_2]] rfl t2_ ?_; (with_reducible refine (impl_ValidTank.calls a0_0 a0_1 a0_2 false _ A2.out).mono ?_); rintro e w15 ⟨rfl, hb⟩; refine ⟨_, rfl, ?_⟩; have n0_ := a_ (blk_below (g := gb291) (o := .cells #[.int .i64 a0_0, .int .i64 a0_1, .int .i64 a0_2] 25 (0, 0)) (q1_ BK291.out) hb); have n1_ := a_ (below_step t46_ hb); clear BK291; clear HB; have BK291 := n0_; have HB := n1_; clear n0_ n1_; (try clear hb); (try clear hb2); (try clear hk); (try clear hi))); go_ret
  exact ⟨t5_, t46_⟩

-- function 73 is told with the one that calls it

-- function 88 is told with the one that calls it

-- function 74 is told with the one that calls it

-- function 61 is told with the one that calls it

-- function 100 is told with the one that calls it

-- function 89 is told with the one that calls it

-- function 90 is told with the one that calls it

-- function 91 is told with the one that calls it

-- function 101 is told with the one that calls it

-- function 92 is told with the one that calls it

/-! ### stringslite_Index: function 76 -/
def lsplitn__ren : Go.Shelf.Ren := ⟨fun | 147 => 48 | 221 => 55 | 268 => 61 | 138 => 62 | 143 => 63 | 195 => 73 | 197 => 74 | 218 => 75 | 219 => 76 | 260 => 88 | 217 => 89 | 225 => 90 | 224 => 91 | 267 => 92 | 266 => 100 | 314 => 101 | n => n, fun | 9 => 9 | 3 => 3 | 31 => 75 | 4 => 4 | 0 => 0 | 105 => 112 | 21 => 21 | 5 => 5 | 46 => 92 | 119 => 136 | 139 => 139 | 138 => 138 | 146 => 140 | 51 => 125 | n => n, fun | 1 => 1 | 3 => 4 | 4 => 5 | n => n⟩
theorem lsplitn_ : Go.Proofs.Lays.n147 Tryz.prog lsplitn__ren := {
  mixed := by kernel_rfl
  f138 := Tryz.func62.trans (congrArg some t13_)
  f143 := Tryz.func63.trans (congrArg some t13_)
  f147 := Tryz.func48.trans (congrArg some t13_)
  f195 := Tryz.func73.trans (congrArg some t13_)
  f197 := Tryz.func74.trans (congrArg some t13_)
  f217 := Tryz.func89.trans (congrArg some t13_)
  f218 := Tryz.func75.trans (congrArg some t13_)
  f219 := Tryz.func76.trans (congrArg some t13_)
  f221 := Tryz.func55.trans (congrArg some t13_)
  f224 := Tryz.func91.trans (congrArg some t13_)
  f225 := Tryz.func90.trans (congrArg some t13_)
  f260 := Tryz.func88.trans (congrArg some t13_)
  f266 := Tryz.func100.trans (congrArg some t13_)
  f267 := Tryz.func92.trans (congrArg some t13_)
  f268 := Tryz.func61.trans (congrArg some t13_)
  f314 := Tryz.func101.trans (congrArg some t13_)
  t0 := Tryz.underlying0
  a0 := Tryz.isAgg0
  z0 := Tryz.sizeOf0
  v0 := Tryz.zeroValue0
  t3 := Tryz.underlying3
  a3 := Tryz.isAgg3
  z3 := Tryz.sizeOf3
  v3 := Tryz.zeroValue3
  t4 := Tryz.underlying4
  a4 := Tryz.isAgg4
  z4 := Tryz.sizeOf4
  v4 := Tryz.zeroValue4
  t5 := Tryz.underlying5
  a5 := Tryz.isAgg5
  z5 := Tryz.sizeOf5
  v5 := Tryz.zeroValue5
  t9 := Tryz.underlying9
  a9 := Tryz.isAgg9
  z9 := Tryz.sizeOf9
  v9 := Tryz.zeroValue9
  t21 := Tryz.underlying21
  a21 := Tryz.isAgg21
  z21 := Tryz.sizeOf21
  v21 := Tryz.zeroValue21
  t31 := Tryz.underlying75
  a31 := Tryz.isAgg75
  z31 := Tryz.sizeOf75
  v31 := Tryz.zeroValue75
  t46 := Tryz.underlying92
  a46 := Tryz.isAgg92
  z46 := Tryz.sizeOf92
  v46 := Tryz.zeroValue92
  t51 := Tryz.underlying125
  a51 := Tryz.isAgg125
  z51 := Tryz.sizeOf125
  v51 := Tryz.zeroValue125
  t105 := Tryz.underlying112
  a105 := Tryz.isAgg112
  z105 := Tryz.sizeOf112
  v105 := Tryz.zeroValue112
  t119 := Tryz.underlying136
  a119 := Tryz.isAgg136
  z119 := Tryz.sizeOf136
  t138 := Tryz.underlying138
  a138 := Tryz.isAgg138
  z138 := Tryz.sizeOf138
  v138 := Tryz.zeroValue138
  t139 := Tryz.underlying139
  a139 := Tryz.isAgg139
  z139 := Tryz.sizeOf139
  v139 := Tryz.zeroValue139
  t146 := Tryz.underlying140
  a146 := Tryz.isAgg140
  z146 := Tryz.sizeOf140
  v146 := Tryz.zeroValue140
  g1 := by kernel_rfl
  g3 := by kernel_rfl
  g4 := by kernel_rfl }

/-- internal/stringslite.Index of one byte. -/
def stringslite_Index.f (a0 : ByteArray) (a1 : ByteArray) : Option Int := match a1.data.toList with
  | [c] => some (Lib.indexByte a0.data.toList c)
  | _ => none
theorem stringslite_Index.calls (a0 : ByteArray) (a1 : ByteArray) (r : Int) (w : World) (h : stringslite_Index.f a0 a1 = some r) :
    Calls Tryz.prog 76 #[.string a0, .string a1] w fun e w' => e = .returned (.int .i64 r) ∧ Drawn0 w w' := by
  obtain ⟨⟨l⟩⟩ := a1; unfold stringslite_Index.f at h
  match l, h with
  | [c], h =>
    obtain rfl := Option.some.inj h; exact (Any.stringslite_Index_one { lsplitn_ with } a0 c w).mono fun e w' hw => ⟨hw.1, (by rw [hw.2]; exact Drawn0.refl _)⟩
  | [], h => cases h
  | _ :: _ :: _, h => cases h

-- function 63 is told with the one that calls it

-- function 75 is told with the one that calls it

-- function 62 is told with the one that calls it

-- function 55 is told with the one that calls it

/-! ### strings_SplitN: function 48 -/

/-- strings.SplitN at one byte, into some pieces at most. -/
def strings_SplitN.f (a0 : ByteArray) (a1 : ByteArray) (a2 : Int) : Option (List ByteArray) := if a1.toList = [44] ∧ a2 = 65 ∧ a0.size < 4294967281 then some (Lib.splitB ⟨#[44]⟩ 0 (min 65 (a0.size + 1) - 1) a0) else none
theorem strings_SplitN.hi9 : (Tryz.prog.info? (lsplitn__ren.t 9)).map (fun i => (i.zero, i.size, i.bytes)) = some (some (.string ByteArray.empty), 1, 16) := by kernel_rfl
theorem strings_SplitN.gen (s : ByteArray) (w : World) (hs : s.size < 4294967281) (N : Nat) (hN : N = min 65 (s.size + 1)) : Calls Tryz.prog 55 #[.string s, .string ⟨#[44]⟩, .int .i64 ((0 : Nat) : Int), .int .i64 65] w fun e w' => e = .returned (.slice (some ⟨w.heap.size, 0, none⟩) (Lib.splitB ⟨#[44]⟩ 0 (N - 1) s).length N) ∧ w' = w.alloc (.cells (Lib.cellsOf (Lib.splitB ⟨#[44]⟩ 0 (N - 1) s) N) 9) :=
  Any.strings_genSplit_core { lsplitn_ with } strings_SplitN.hi9 s ⟨#[44]⟩ 0 65 N w hs t47_ (Nat.zero_le _) (fun x c _ => (Any.strings_Index_one { lsplitn_ with } x 44 _).mono (fun e w' h => ⟨h.1.trans (by rw [show Lib.indexB x ⟨#[44]⟩ = Lib.indexByte x.data.toList 44 from Lib.index_one _ _]), h.2⟩)) ((Any.strings_Count_one { lsplitn_ with } s 44 w).mono (fun e w' h => ⟨h.1.trans (by rw [show Lib.countB s ⟨#[44]⟩ = Lib.countByte s.data.toList 44 from Lib.count_one _ _]), h.2⟩)) t47_ t47_ (by rw [if_neg t47_]; omega)
set_option maxHeartbeats 2000000 in
theorem strings_SplitN.calls (a0 : ByteArray) (a1 : ByteArray) (a2 : Int) (r : List ByteArray) (w : World) (h : strings_SplitN.f a0 a1 a2 = some r) :
    Calls Tryz.prog 48 #[.string a0, .string a1, .int .i64 a2] w fun e w' => ∃ v0_ : Value, e = .returned (v0_) ∧ Kd.R Kd.string 9 w' w.heap.size (fun _ => True) v0_ r ∧ Below w.heap.size w w' := by
  unfold strings_SplitN.f at h
  by_cases hcc : a1.toList = [44] ∧ a2 = 65 ∧ a0.size < 4294967281
  · rw [if_pos hcc] at h
    obtain rfl := Option.some.inj h; clear h; obtain ⟨h1, rfl, hs⟩ := hcc; obtain rfl : a1 = ⟨#[44]⟩ := by
      obtain ⟨⟨l⟩⟩ := a1; rw [Lib.toList_data] at h1; have : l = [44] := h1; rw [this]
    obtain ⟨N, hN⟩ : ∃ N, N = min 65 (a0.size + 1) := ⟨_, rfl⟩; have c := strings_SplitN.gen a0 w hs N hN; rw [← hN]; have hlen := Lib.splitB_length_le ⟨#[44]⟩ 0 (N - 1) a0; have hN1 : 1 ≤ N := (by omega); have hN9 : N ≤ 65 := (by omega); clear hN; generalize Lib.splitB ⟨#[44]⟩ 0 (N - 1) a0 = L at c hlen ⊢; have hle : L.length ≤ N := (by omega); have hfin : Kd.R Kd.string 9 (w.alloc (.cells (Lib.cellsOf L N) 9)) w.heap.size (fun _ => True) (.slice (some ⟨w.heap.size, 0, none⟩) L.length N) L ∧ Below w.heap.size w (w.alloc (.cells (Lib.cellsOf L N) 9)) := by
      refine ⟨Kd.R_of_own ?_ (fun _ _ => trivial), below_alloc (Below.refl _ _) _⟩; exact ⟨(by simp [encs]), Or.inr ⟨w.heap.size, N, _, rfl, Nat.le_refl _, (by show (w.heap.push _)[w.heap.size]? = _; exact Array.getElem?_push_size), hle, (by unfold maxLen; omega), (by rw [Lib.cellsOf_size hle]; simp), (by simp [encs, Lib.cellsOf])⟩⟩
    clear hlen hle; go_enter Tryz.func48, Tryz.ntmps48; go_wp2_with (go_at_call 55; refine c.mono ?_; rintro e w' ⟨rfl, hw⟩; rw [hw]); go_ret
    exact ⟨_, rfl, hfin.1, hfin.2⟩
  · rw [if_neg hcc] at h
    cases h

-- function 93 is told with the one that calls it

-- function 94 is told with the one that calls it

-- function 77 is told with the one that calls it

-- function 64 is told with the one that calls it

-- function 95 is told with the one that calls it

-- NOT PRINTED: function 78 (strconv_syntaxError)

-- NOT PRINTED: function 79 (strconv_rangeError)

-- function 96 is told with the one that calls it

-- function 102 is told with the one that calls it

-- function 97 is told with the one that calls it

-- NOT PRINTED: function 80 (strconv_baseError)

-- NOT PRINTED: function 81 (strconv_bitSizeError)

-- function 65 is told with the one that calls it

-- function 56 is told with the one that calls it

-- function 82 is told with the one that calls it

-- function 66 is told with the one that calls it

-- function 57 is told with the one that calls it

end Go.Proofs.YtkgohpmheohnmaaGreatDoor.PFnStorage
