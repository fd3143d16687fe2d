-- written by wip/xprint.py, a program of this session, for this claim; not trusted: Lean checks it.
import Derived.Shelf.SortM.Plain
import Derived.Shelf.SortM.SortNone
import Derived.Shelf.SlicesG.CompactI
import Derived.Sort.OwnSortedInts
import Derived.Test.YtheokilgacmlmaaPFnExactValvesToClosex0
import Derived.Test.YtheokilgacmlmaaPFnExactValvesToClosex12
import Derived.Test.YtheokilgacmlmaaPFnExactValvesToClosex15
namespace Go.Proofs.Ytheokilgacmlmaa.PFnExactValvesToClose
open Go.RowKit Go.Proofs.YtheokilgacmlmaaW.PrintWords Go.Proofs.YtheokilgacmlmaaW.PrintLast Go.Proofs.YtheokilgacmlmaaW.PrintMore
attribute [local go_sem] leq_less_ max2_int min2_int max_two min_two max_three min_three max_four min_four   -- for this text's walks alone
set_option linter.unusedVariables false
set_option linter.unusedSimpArgs false
set_option maxHeartbeats 8000000
set_option maxRecDepth 100000
def impl_valvesCode.f (k:Nat) (v:List Int) (l0_1:List (S100)) (l1:List (S51)) (m:Int):Option (Int):=(impl_ValidValves.f k v l0_1 l1).bind fun ax=>(if ax=true then ((impl_within.f m 0 (wrap64 ((l0_1.length:Int) - 1))).bind fun ay=>(if ay=true then (some 0) else (some 2))) else (some 1))
theorem impl_valvesCode.mono:∀ a0 c m a3 k,LeO (impl_valvesCode.f k a0 c m a3) (impl_valvesCode.f (k+1) a0 c m a3):=by
 intro a0 c m a3 k;unfold impl_valvesCode.f
 with_reducible repeat' first|exact impl_ValidValves.mono _ _ _ _|exact LeO.refl _|exact LeO.none _|refine LeO.ite ?_ ?_|refine LeO.bind ?_ (fun _=>?_)
theorem impl_valvesCode.calls (k:Nat) (W:Option Addr) (Z:Nat) (v:List Int) (X:Option Addr) (a6:Nat) (l0_1:List (S100)) (A1:Option Addr) (c1:Nat) (l1:List (S51)) (m:Int) (r:Int) (w:World) (bY:Kd.C (Kd.int .i64) w W v.length v) (bU:v.length≤Z) (bZ:Kd.C k100 w X l0_1.length l0_1) (bV:l0_1.length≤a6) (ao:Kd.C k51 w A1 l1.length l1) (ak:l1.length≤c1) (h:impl_valvesCode.f k v l0_1 l1 m=some r):
  Calls Try.prog 60 #[.agg #[.slice W v.length Z,.slice X l0_1.length a6],.slice A1 l1.length c1,.int .i64 m] w fun e w'=>e=.returned (.int .i64 r)∧Below w.heap.size w w':=by
 have cl:=Try.underlying33;have HR0_0:=a_ bY;have HC0_0:=a_ bU;clear bY bU;have HR0_1:=a_ bZ;have HC0_1:=a_ bV;clear bZ bV;have HR1:=a_ ao;have b4:=a_ ak;clear ao ak;have HB:=a_ (Below.refl w.heap.size w);have H:((impl_ValidValves.f k v l0_1 l1).bind fun ax=>(if ax=true then ((impl_within.f m 0 (wrap64 ((l0_1.length:Int) - 1))).bind fun ay=>(if ay=true then (some 0) else (some 2))) else (some 1)))=some r:=h;clear h;replace H:=be_ H;obtain ⟨ax,af,H⟩:=H;have A4:=a_ af;clear af;by_cases u:ax=true
 ·subst u;replace H:=(if_pos rfl).symm.trans H;replace H:=be_ H;obtain ⟨ay,ah,H⟩:=H;have A6:=a_ ah;clear ah;by_cases c7:ay=true
  ·subst c7;replace H:=(if_pos rfl).symm.trans H;obtain rfl:=Option.some.inj H;go_enter Try.func60,Try.ntmps60;go_wp2_with (first|((with_reducible refine gate_dst (N:=3) rfl ?_);refine box_event ?hg (N:=3) ?hd (cs:=#[.slice W v.length Z,.slice X l0_1.length a6]) (t:=33) ?hr ?_;(case hd=>rfl);(case hg=>rfl);(case hr=>first|(go_simp;done)|(go_simp;rfl));intro a7 hg w8 hbox hb;have l:=a_ (below_step t1_ hb);have q:=a_ (hbox);have s:=a_ ((by rw [hg];exact (below_size t1_):w.heap.size≤a7));have z:=a_ ((by rw [hg];exact (below_size t1_):w.heap.size≤a7));clear HB;have HB:=l;have G:=q;have bQ:=s;have GE364:=z;clear l q s z;clear hb hbox hg;have ⟨cT,cU,cj,ck⟩:=bc2_ G.out)|((with_reducible refine gate_callee (f:=54) rfl ?_);refine goesL_ (some 10) rfl rfl Try.func54 t16_ rfl #[.agg #[.slice W v.length Z,.slice X l0_1.length a6],.slice A1 l1.length c1] rfl t2_ ?_;(with_reducible refine (impl_ValidValves.calls k _ _ v _ _ l0_1 _ _ l1 true _ ?aP ?aQ ?ab ?ac ?b9 ?bA A4.out).mono ?_);(case aP=>exact qc_ (Kd.C_below HR0_0.out HB.out));(case aQ=>exact HC0_0.out);(case ab=>exact qc_ (Kd.C_below HR0_1.out HB.out));(case ac=>exact HC0_1.out);(case b9=>exact qc_ (Kd.C_below HR1.out HB.out));(case bA=>exact b4.out);rintro e co ⟨rfl,hb⟩;refine ⟨_,rfl,?_⟩;have l:=a_ (blk_below (g:=a7) (o:=.cells #[.slice W v.length Z,.slice X l0_1.length a6] 33 (0,0)) (q1_ G.out) hb);have q:=a_ (below_step t53_ hb);clear G;clear HB;have G:=l;have HB:=q;clear l q;(try clear hb);(try clear hb2);(try clear hk);(try clear hi);have ⟨cI,cJ,cY,cZ⟩:=bc2_ G.out)|((with_reducible refine gate_callee (f:=99) rfl ?_);refine goesL_ (some 18) rfl rfl Try.func99 t16_ rfl #[.int .i64 m,.int .i64 0,.int .i64 (wrap64 ((l0_1.length:Int) - 1))] rfl t2_ ?_;(with_reducible refine (impl_within.calls m 0 (wrap64 ((l0_1.length:Int) - 1)) true _ A6.out).mono ?_);rintro e w' ⟨rfl,⟨nd,rfl⟩⟩;refine ⟨_,rfl,?_⟩));go_ret
   exact ⟨t3_,t53_⟩
  ·replace c7:=Bool.eq_false_iff.mpr c7;subst c7;replace H:=(if_neg (show ¬ (false=true) by decide)).symm.trans H;obtain rfl:=Option.some.inj H;go_enter Try.func60,Try.ntmps60;go_wp2_with (first|((with_reducible refine gate_dst (N:=3) rfl ?_);refine box_event ?hg (N:=3) ?hd (cs:=#[.slice W v.length Z,.slice X l0_1.length a6]) (t:=33) ?hr ?_;(case hd=>rfl);(case hg=>rfl);(case hr=>first|(go_simp;done)|(go_simp;rfl));intro a7 hg w12 hbox hb;have l:=a_ (below_step t1_ hb);have q:=a_ (hbox);have s:=a_ ((by rw [hg];exact (below_size t1_):w.heap.size≤a7));have z:=a_ ((by rw [hg];exact (below_size t1_):w.heap.size≤a7));clear HB;have HB:=l;have G:=q;have bQ:=s;have GE364:=z;clear l q s z;clear hb hbox hg;have ⟨cK,cL,ca,cb⟩:=bc2_ G.out)|((with_reducible refine gate_callee (f:=54) rfl ?_);refine goesL_ (some 10) rfl rfl Try.func54 t16_ rfl #[.agg #[.slice W v.length Z,.slice X l0_1.length a6],.slice A1 l1.length c1] rfl t2_ ?_;(with_reducible refine (impl_ValidValves.calls k _ _ v _ _ l0_1 _ _ l1 true _ ?aP ?aQ ?ab ?ac ?b9 ?bA A4.out).mono ?_);(case aP=>exact qc_ (Kd.C_below HR0_0.out HB.out));(case aQ=>exact HC0_0.out);(case ab=>exact qc_ (Kd.C_below HR0_1.out HB.out));(case ac=>exact HC0_1.out);(case b9=>exact qc_ (Kd.C_below HR1.out HB.out));(case bA=>exact b4.out);rintro e cp ⟨rfl,hb⟩;refine ⟨_,rfl,?_⟩;have l:=a_ (blk_below (g:=a7) (o:=.cells #[.slice W v.length Z,.slice X l0_1.length a6] 33 (0,0)) (q1_ G.out) hb);have q:=a_ (below_step t53_ hb);clear G;clear HB;have G:=l;have HB:=q;clear l q;(try clear hb);(try clear hb2);(try clear hk);(try clear hi);have ⟨cM,cN,cc,cd⟩:=bc2_ G.out)|((with_reducible refine gate_callee (f:=99) rfl ?_);refine goesL_ (some 18) rfl rfl Try.func99 t16_ rfl #[.int .i64 m,.int .i64 0,.int .i64 (wrap64 ((l0_1.length:Int) - 1))] rfl t2_ ?_;(with_reducible refine (impl_within.calls m 0 (wrap64 ((l0_1.length:Int) - 1)) false _ A6.out).mono ?_);rintro e w' ⟨rfl,⟨nd,rfl⟩⟩;refine ⟨_,rfl,?_⟩));go_ret
   exact ⟨t3_,t53_⟩
 ·replace u:=Bool.eq_false_iff.mpr u;subst u;replace H:=(if_neg (show ¬ (false=true) by decide)).symm.trans H;obtain rfl:=Option.some.inj H;go_enter Try.func60,Try.ntmps60;go_wp2_with (first|((with_reducible refine gate_dst (N:=3) rfl ?_);refine box_event ?hg (N:=3) ?hd (cs:=#[.slice W v.length Z,.slice X l0_1.length a6]) (t:=33) ?hr ?_;(case hd=>rfl);(case hg=>rfl);(case hr=>first|(go_simp;done)|(go_simp;rfl));intro a7 hg cq hbox hb;have l:=a_ (below_step t1_ hb);have q:=a_ (hbox);have s:=a_ ((by rw [hg];exact (below_size t1_):w.heap.size≤a7));have z:=a_ ((by rw [hg];exact (below_size t1_):w.heap.size≤a7));clear HB;have HB:=l;have G:=q;have bQ:=s;have GE364:=z;clear l q s z;clear hb hbox hg;have ⟨cO,cP,ce,cf⟩:=bc2_ G.out)|((with_reducible refine gate_callee (f:=54) rfl ?_);refine goesL_ (some 10) rfl rfl Try.func54 t16_ rfl #[.agg #[.slice W v.length Z,.slice X l0_1.length a6],.slice A1 l1.length c1] rfl t2_ ?_;(with_reducible refine (impl_ValidValves.calls k _ _ v _ _ l0_1 _ _ l1 false _ ?aP ?aQ ?ab ?ac ?b9 ?bA A4.out).mono ?_);(case aP=>exact qc_ (Kd.C_below HR0_0.out HB.out));(case aQ=>exact HC0_0.out);(case ab=>exact qc_ (Kd.C_below HR0_1.out HB.out));(case ac=>exact HC0_1.out);(case b9=>exact qc_ (Kd.C_below HR1.out HB.out));(case bA=>exact b4.out);rintro e cr ⟨rfl,hb⟩;refine ⟨_,rfl,?_⟩;have l:=a_ (blk_below (g:=a7) (o:=.cells #[.slice W v.length Z,.slice X l0_1.length a6] 33 (0,0)) (q1_ G.out) hb);have q:=a_ (below_step t53_ hb);clear G;clear HB;have G:=l;have HB:=q;clear l q;(try clear hb);(try clear hb2);(try clear hk);(try clear hi)));go_ret
  exact ⟨t3_,t53_⟩

def slices_Index_int64_int64.l0:Nat→List Int→Int→Int→Int→Option (Int)
 |0,_,_,_,_=>none
 |k+1,x0,x1,x7,I=>if I<x7 then (if 0≤I then (if I<(x0.length:Int) then (if x1=(rd x0 I) then (some I) else (slices_Index_int64_int64.l0 k x0 x1 x7 (wrap64 (I+1)))) else (none)) else (none)) else (some (-1))
def slices_Index_int64_int64.f (k:Nat) (b:List Int) (c:Int):Option (Int):=slices_Index_int64_int64.l0 k b c (b.length:Int) 0
theorem slices_Index_int64_int64.mono_l:∀ k,(∀ y0 y1 y2 y3,LeO (slices_Index_int64_int64.l0 k y0 y1 y2 y3) (slices_Index_int64_int64.l0 (k+1) y0 y1 y2 y3))
 |0=>fun _ _ _ _ r h=>by simp [slices_Index_int64_int64.l0] at h
 |k+1=>by
  have aI:=slices_Index_int64_int64.mono_l k
  ·intro y0 y1 y2 y3
   unfold slices_Index_int64_int64.l0
   with_reducible repeat' first|exact aI _ _ _ _|exact LeO.refl _|exact LeO.none _|refine LeO.ite ?_ ?_|refine LeO.bind ?_ (fun _=>?_)
theorem slices_Index_int64_int64.mono:∀ a0 c k,LeO (slices_Index_int64_int64.f k a0 c) (slices_Index_int64_int64.f (k+1) a0 c):=by
 intro a0 c k;have aI:=slices_Index_int64_int64.mono_l k;unfold slices_Index_int64_int64.f
 with_reducible repeat' first|exact aI _ _ _ _|exact LeO.refl _|exact LeO.none _|refine LeO.ite ?_ ?_|refine LeO.bind ?_ (fun _=>?_)
theorem slices_Index_int64_int64.calls (k:Nat) (D:Option Addr) (E:Nat) (b:List Int) (c:Int) (r:Int) (w:World) (L:Kd.C (Kd.int .i64) w D b.length b) (K:b.length≤E) (h:slices_Index_int64_int64.f k b c=some r):
  Calls Try.prog 103 #[.slice D b.length E,.int .i64 c] w fun e w'=>e=.returned (.int .i64 r)∧Drawn0 w w':=by
 have Y:=a_ L;have aG:=a_ K;clear L K;have H:(slices_Index_int64_int64.l0 k b c (b.length:Int) 0)=some r:=h;clear h;have H':=a_ H;clear H;go_enter Try.func103,Try.ntmps103;go_wp2;go_loopg [8] k (fun kq v8 w'=>∃ (j:Int),v8=.int .i64 j∧Aside0 (slices_Index_int64_int64.l0 kq b c (b.length:Int) j=some r)∧Aside0 (kq≤k)∧Drawn0 w w')
 case atStart=>exact ⟨(0),t6_,H',⟨Nat.le_refl _⟩,t23_⟩
 case round=>
  clear H';(try clear c1);(try clear p2);obtain ⟨j,rfl,HA,HK1,⟨m1,rfl⟩⟩:=hrel;cases gk with
  |zero=>exact absurd HA.out (by simp [slices_Index_int64_int64.l0])
  |succ k1=>
   have H:=HA.out;clear HA;simp only [slices_Index_int64_int64.l0] at H;by_cases O:j<(b.length:Int)
   ·rw [if_pos O] at H;have bE:decide (j<(b.length:Int))=true:=d1_ O;clear O;by_cases J:0≤j
    ·rw [if_pos J] at H;have bR:decide (0≤j)=true:=d1_ J;clear J;by_cases u:j<(b.length:Int)
     ·rw [if_pos u] at H;have bF:decide (j<(b.length:Int))=true:=d1_ u;clear u;by_cases U:c=(rd b j)
      ·rw [if_pos U] at H;have bS:(c==(rd b j))=true:=b1_ U;have bT:(c !=(rd b j))=false:=b4_ U;clear U;obtain rfl:=Option.some.inj H;have aJ:0≤(j:Int):=od_;have aM:j<(b.length:Int):=od_;obtain ⟨bj,bG,bs⟩:=Kd.at_int Y.out j aJ aM;cases bG;replace aJ:=eq_true aJ;replace aM:=eq_true aM;go_wp2;go_ret
       exact ⟨t6_,t23_⟩
      ·rw [if_neg U] at H;have bS:(c==(rd b j))=false:=b2_ U;have bT:(c !=(rd b j))=true:=b3_ U;have H':=a_ H;clear H;have aJ:0≤(j:Int):=od_;have aM:j<(b.length:Int):=od_;obtain ⟨bj,bG,bs⟩:=Kd.at_int Y.out j aJ aM;cases bG;replace aJ:=eq_true aJ;replace aM:=eq_true aM;go_wp2;go_roundg k1
       case measure=>have:=HK1.out;omega
       case rel=>exact ⟨(wrap64 (j+1)),t6_,H',⟨t60_⟩,t23_⟩
     ·rw [if_neg u] at H;exact absurd H t66_
    ·rw [if_neg J] at H;exact absurd H t66_
   ·rw [if_neg O] at H;have bE:decide (j<(b.length:Int))=false:=d2_ O;clear O;obtain rfl:=Option.some.inj H;go_wp2;go_ret
    exact ⟨t6_,t23_⟩

def slices_Contains_int64_int64.f (k:Nat) (b:List Int) (c:Int):Option (Bool):=(slices_Index_int64_int64.f k b c).bind fun az=>(some (decide (az≥0)))
theorem slices_Contains_int64_int64.mono:∀ a0 c k,LeO (slices_Contains_int64_int64.f k a0 c) (slices_Contains_int64_int64.f (k+1) a0 c):=by
 intro a0 c k;unfold slices_Contains_int64_int64.f
 with_reducible repeat' first|exact slices_Index_int64_int64.mono _ _ _|exact LeO.refl _|exact LeO.none _|refine LeO.ite ?_ ?_|refine LeO.bind ?_ (fun _=>?_)
theorem slices_Contains_int64_int64.calls (k:Nat) (D:Option Addr) (E:Nat) (b:List Int) (c:Int) (r:Bool) (w:World) (L:Kd.C (Kd.int .i64) w D b.length b) (K:b.length≤E) (h:slices_Contains_int64_int64.f k b c=some r):
  Calls Try.prog 71 #[.slice D b.length E,.int .i64 c] w fun e w'=>e=.returned (.bool r)∧Drawn0 w w':=by
 have Y:=a_ L;have aG:=a_ K;clear L K;have H:((slices_Index_int64_int64.f k b c).bind fun az=>(some (decide (az≥0))))=some r:=h;clear h;replace H:=be_ H;obtain ⟨az,ad,H⟩:=H;have A3:=a_ ad;clear ad;obtain rfl:=Option.some.inj H;go_enter Try.func71,Try.ntmps71;go_wp2_with (first|((with_reducible refine gate_callee (f:=103) rfl ?_);refine goesL_ (some 7) rfl rfl Try.func103 t16_ rfl #[.slice D b.length E,.int .i64 c] rfl t2_ ?_;(with_reducible refine (slices_Index_int64_int64.calls k _ _ b c az _ ?aP ?aQ A3.out).mono ?_);(case aP=>exact qc_ Y.out);(case aQ=>exact aG.out);rintro e w' ⟨rfl,⟨nd,rfl⟩⟩;refine ⟨_,rfl,?_⟩));go_ret
 exact ⟨t6_,t23_⟩

def impl_stands_1.f (ai:ByteArray) (T:ByteArray) (aH:Bool) (l1:List ByteArray) (M:List Bool):Option (Bool):=if 0<(l1.length:Int) then (if T.toList=(rdOf ByteArray.empty l1 0).toList then (if 0<(M.length:Int) then (some (aH==(rdOf false M 0))) else (none)) else (some false)) else (none)
theorem impl_stands_1.calls (ai:ByteArray) (T:ByteArray) (aH:Bool) (A1:Option Addr) (c1:Nat) (l1:List ByteArray) (A2:Option Addr) (c2:Nat) (M:List Bool) (r:Bool) (w:World) (ao:Kd.C Kd.string w A1 l1.length l1) (ak:l1.length≤c1) (ba:Kd.C Kd.bool w A2 M.length M) (bW:M.length≤c2) (h:impl_stands_1.f ai T aH l1 M=some r):
  Calls Try.prog 108 #[.agg #[.string ai,.string T,.bool aH],.pointer A1,.pointer A2] w fun e w'=>e=.returned (.bool r)∧Below w.heap.size w w':=by
 have br:=Try.underlying51;have HR1:=a_ ao;have b4:=a_ ak;clear ao ak;have bi:=a_ ba;have cA:=a_ bW;clear ba bW;have HB:=a_ (Below.refl w.heap.size w);have H:(if 0<(l1.length:Int) then (if T.toList=(rdOf ByteArray.empty l1 0).toList then (if 0<(M.length:Int) then (some (aH==(rdOf false M 0))) else (none)) else (some false)) else (none))=some r:=h;clear h;by_cases J:0<(l1.length:Int)
 ·rw [if_pos J] at H;have bR:decide (0<(l1.length:Int))=true:=d1_ J;have cE:decide (0<l1.length)=true:=decide_eq_true t35_;clear J;by_cases u:T.toList=(rdOf ByteArray.empty l1 0).toList
  ·rw [if_pos u] at H;have bF:(T.toList==(rdOf ByteArray.empty l1 0).toList)=true:=b1_ u;have bn:(T.toList !=(rdOf ByteArray.empty l1 0).toList)=false:=b4_ u;clear u;by_cases U:0<(M.length:Int)
   ·rw [if_pos U] at H;have bS:decide (0<(M.length:Int))=true:=d1_ U;have bT:decide (0<M.length)=true:=decide_eq_true t35_;clear U;obtain rfl:=Option.some.inj H;go_enter Try.func108,Try.ntmps108;go_wp2_with (first|((with_reducible refine gate_dst (N:=3) rfl ?_);refine box_event ?hg (N:=3) ?hd (cs:=#[.string ai,.string T,.bool aH]) (t:=51) ?hr ?_;(case hd=>rfl);(case hg=>rfl);(case hr=>first|(go_simp;done)|(go_simp;rfl));intro aj hg w7 hbox hb;have l:=a_ (below_step t1_ hb);have q:=a_ (hbox);have s:=a_ ((by rw [hg];exact (below_size t1_):w.heap.size≤aj));have z:=a_ ((by rw [hg];exact (below_size t1_):w.heap.size≤aj));clear HB;have HB:=l;have bC:=q;have bh:=s;have bD:=z;clear l q s z;clear hb hbox hg;have ⟨cQ,cR,cS,cg,ch,ci⟩:=bc3_ bC.out;have aK:0≤(0:Int):=t35_;have aN:0<(l1.length:Int):=od_;obtain ⟨bk,bH,a8⟩:=Kd.at_string HR1.out 0 aK aN;cases bH;have bv:(0<l1.length)=True:=eq_true t35_;(try rw [show ((0:Int)).toNat=0 from rfl] at a8);(try rw [Addr.add_zero'] at a8);replace a8:=(HB.out.cell (World.block_lt_of_cell? w _ a8)).trans a8;replace aK:=eq_true aK;replace aN:=eq_true aN;have bJ:0≤(0:Int):=t35_;have bK:0<(M.length:Int):=od_;obtain ⟨cD,bo,ar⟩:=Kd.at_bool bi.out 0 bJ bK;cases bo;have cn:(0<M.length)=True:=eq_true t35_;(try rw [show ((0:Int)).toNat=0 from rfl] at ar);(try rw [Addr.add_zero'] at ar);replace ar:=(HB.out.cell (World.block_lt_of_cell? w _ ar)).trans ar;replace bJ:=eq_true bJ;replace bK:=eq_true bK));go_ret
    exact ⟨t3_,(by repeat (first|(with_reducible first|exact HB.out|apply below_alloc|apply pw_below_drewN|apply below_drew1|refine below_set ?_ bD.out)|exact HB.out))⟩
   ·rw [if_neg U] at H;exact absurd H t66_
  ·rw [if_neg u] at H;have bF:(T.toList==(rdOf ByteArray.empty l1 0).toList)=false:=b2_ u;have bn:(T.toList !=(rdOf ByteArray.empty l1 0).toList)=true:=b3_ u;obtain rfl:=Option.some.inj H;go_enter Try.func108,Try.ntmps108;go_wp2_with (first|((with_reducible refine gate_dst (N:=3) rfl ?_);refine box_event ?hg (N:=3) ?hd (cs:=#[.string ai,.string T,.bool aH]) (t:=51) ?hr ?_;(case hd=>rfl);(case hg=>rfl);(case hr=>first|(go_simp;done)|(go_simp;rfl));intro aj hg w9 hbox hb;have l:=a_ (below_step t1_ hb);have q:=a_ (hbox);have s:=a_ ((by rw [hg];exact (below_size t1_):w.heap.size≤aj));have z:=a_ ((by rw [hg];exact (below_size t1_):w.heap.size≤aj));clear HB;have HB:=l;have bC:=q;have bh:=s;have bD:=z;clear l q s z;clear hb hbox hg;have ⟨cF,cG,cH,cV,cW,cX⟩:=bc3_ bC.out;have aK:0≤(0:Int):=t35_;have aN:0<(l1.length:Int):=od_;obtain ⟨bk,bH,a8⟩:=Kd.at_string HR1.out 0 aK aN;cases bH;have bv:(0<l1.length)=True:=eq_true t35_;(try rw [show ((0:Int)).toNat=0 from rfl] at a8);(try rw [Addr.add_zero'] at a8);replace a8:=(HB.out.cell (World.block_lt_of_cell? w _ a8)).trans a8;replace aK:=eq_true aK;replace aN:=eq_true aN));go_ret
   exact ⟨t3_,(by repeat (first|(with_reducible first|exact HB.out|apply below_alloc|apply pw_below_drewN|apply below_drew1|refine below_set ?_ bD.out)|exact HB.out))⟩
 ·rw [if_neg J] at H;exact absurd H t66_

def impl_Valve_107_c108.l0:Nat→List (S51)→Int→Int→List ByteArray→List Bool→Option (Int)
 |0,_,_,_,_,_=>none
 |k+1,x0,x7,I,bf,bg=>if I<x7 then (if 0≤I then (if I<(x0.length:Int) then ((impl_stands_1.f ((rd_T51 x0 I).f0) ((rd_T51 x0 I).f1) ((rd_T51 x0 I).f2) bf bg).bind fun bL=>(if bL=true then (some I) else (impl_Valve_107_c108.l0 k x0 x7 (wrap64 (I+1)) bf bg))) else (none)) else (none)) else (some (-1))
def impl_Valve_107_c108.f (k:Nat) (b:List (S51)) (A:List ByteArray) (B:List Bool):Option (Int):=impl_Valve_107_c108.l0 k b (b.length:Int) 0 A B
theorem impl_Valve_107_c108.mono_l:∀ k,(∀ y0 y1 y2 y3 y4,LeO (impl_Valve_107_c108.l0 k y0 y1 y2 y3 y4) (impl_Valve_107_c108.l0 (k+1) y0 y1 y2 y3 y4))
 |0=>fun _ _ _ _ _ r h=>by simp [impl_Valve_107_c108.l0] at h
 |k+1=>by
  have aI:=impl_Valve_107_c108.mono_l k
  ·intro y0 y1 y2 y3 y4
   unfold impl_Valve_107_c108.l0
   with_reducible repeat' first|exact aI _ _ _ _ _|exact LeO.refl _|exact LeO.none _|refine LeO.ite ?_ ?_|refine LeO.bind ?_ (fun _=>?_)
theorem impl_Valve_107_c108.mono:∀ a0 c m k,LeO (impl_Valve_107_c108.f k a0 c m) (impl_Valve_107_c108.f (k+1) a0 c m):=by
 intro a0 c m k;have aI:=impl_Valve_107_c108.mono_l k;unfold impl_Valve_107_c108.f
 with_reducible repeat' first|exact aI _ _ _ _ _|exact LeO.refl _|exact LeO.none _|refine LeO.ite ?_ ?_|refine LeO.bind ?_ (fun _=>?_)
theorem impl_Valve_107_c108.calls (k:Nat) (D:Option Addr) (E:Nat) (b:List (S51)) (aW:Option Addr) (aY:Nat) (A:List ByteArray) (aX:Option Addr) (aZ:Nat) (B:List Bool) (r:Int) (w:World) (L:Kd.C k51 w D b.length b) (K:b.length≤E) (ap:Kd.C Kd.string w aW A.length A) (am:A.length≤aY) (aq:Kd.C Kd.bool w aX B.length B) (an:B.length≤aZ) (h:impl_Valve_107_c108.f k b A B=some r):
  Calls Try.prog 107 #[.slice D b.length E,.func (.func 108) #[] #[.pointer aW,.pointer aX]] w fun e w'=>e=.returned (.int .i64 r)∧Below w.heap.size w w':=by
 have br:=Try.underlying51;have Y:=a_ L;have aG:=a_ K;clear L K;have b7:=a_ ap;have b5:=a_ am;clear ap am;have b8:=a_ aq;have b6:=a_ an;clear aq an;have HB:=a_ (Below.refl w.heap.size w);have H:(impl_Valve_107_c108.l0 k b (b.length:Int) 0 A B)=some r:=h;clear h;have H':=a_ H;clear H;go_enter Try.func107,Try.ntmps107;go_wp2;go_loopg [8] k (fun kq v8 w'=>∃ (j:Int),v8=.int .i64 j∧Aside0 (impl_Valve_107_c108.l0 kq b (b.length:Int) j A B=some r)∧Aside0 (kq≤k)∧Aside0 (Below w.heap.size w w'))
 case atStart=>exact ⟨(0),t6_,H',⟨Nat.le_refl _⟩,⟨t1_⟩⟩
 case round=>
  clear H';(try clear c1);(try clear p2);obtain ⟨j,rfl,HA,HK1,HB⟩:=hrel;cases gk with
  |zero=>exact absurd HA.out (by simp [impl_Valve_107_c108.l0])
  |succ k1=>
   have H:=HA.out;clear HA;simp only [impl_Valve_107_c108.l0] at H;by_cases O:j<(b.length:Int)
   ·rw [if_pos O] at H;have bE:decide (j<(b.length:Int))=true:=d1_ O;clear O;by_cases J:0≤j
    ·rw [if_pos J] at H;have bR:decide (0≤j)=true:=d1_ J;clear J;by_cases u:j<(b.length:Int)
     ·rw [if_pos u] at H;have bF:decide (j<(b.length:Int))=true:=d1_ u;clear u;replace H:=be_ H;obtain ⟨bL,ah,H⟩:=H;have A6:=a_ ah;clear ah;by_cases c7:bL=true
      ·subst c7;replace H:=(if_pos rfl).symm.trans H;obtain rfl:=Option.some.inj H;have aL:0≤(j:Int):=od_;have aO:j<(b.length:Int):=od_;obtain ⟨bl,bI,au,av,aw⟩:=at_T51 Y.out j aL aO;cases bI;replace au:=hb_ HB au;replace av:=hb_ HB av;replace aw:=hb_ HB aw;replace aL:=eq_true aL;replace aO:=eq_true aO;go_wp2_with (first|(go_at_call 108;(with_reducible refine (impl_stands_1.calls ((rd_T51 b j).f0) ((rd_T51 b j).f1) ((rd_T51 b j).f2) _ aY A _ aZ B true _ ?aP ?aQ ?ab ?ac A6.out).mono ?_);(case aP=>exact qc_ (Kd.C_below b7.out HB.out));(case aQ=>exact b5.out);(case ab=>exact qc_ (Kd.C_below b8.out HB.out));(case ac=>exact b6.out);rintro e w8 ⟨rfl,hb⟩;have l:=a_ (below_step t1_ hb);clear HB;have HB:=l;clear l;(try clear hb);(try clear hb2);(try clear hk);(try clear hi)));go_ret
       exact ⟨t3_,t1_⟩
      ·replace c7:=Bool.eq_false_iff.mpr c7;subst c7;replace H:=(if_neg (show ¬ (false=true) by decide)).symm.trans H;have H':=a_ H;clear H;have aL:0≤(j:Int):=od_;have aO:j<(b.length:Int):=od_;obtain ⟨bl,bI,au,av,aw⟩:=at_T51 Y.out j aL aO;cases bI;replace au:=hb_ HB au;replace av:=hb_ HB av;replace aw:=hb_ HB aw;replace aL:=eq_true aL;replace aO:=eq_true aO;go_wp2_with (first|(go_at_call 108;(with_reducible refine (impl_stands_1.calls ((rd_T51 b j).f0) ((rd_T51 b j).f1) ((rd_T51 b j).f2) _ aY A _ aZ B false _ ?aP ?aQ ?ab ?ac A6.out).mono ?_);(case aP=>exact qc_ (Kd.C_below b7.out HB.out));(case aQ=>exact b5.out);(case ab=>exact qc_ (Kd.C_below b8.out HB.out));(case ac=>exact b6.out);rintro e w9 ⟨rfl,hb⟩;have l:=a_ (below_step t1_ hb);clear HB;have HB:=l;clear l;(try clear hb);(try clear hb2);(try clear hk);(try clear hi)));go_roundg k1
       case measure=>have:=HK1.out;omega
       case rel=>exact ⟨(wrap64 (j+1)),t6_,H',⟨t60_⟩,⟨t1_⟩⟩
     ·rw [if_neg u] at H;exact absurd H t66_
    ·rw [if_neg J] at H;exact absurd H t66_
   ·rw [if_neg O] at H;have bE:decide (j<(b.length:Int))=false:=d2_ O;clear O;obtain rfl:=Option.some.inj H;go_wp2;go_ret
    exact ⟨t3_,t1_⟩

def impl_Valve_77_c108.f (k:Nat) (b:List (S51)) (A:List ByteArray) (B:List Bool):Option (Bool):=(impl_Valve_107_c108.f k b A B).bind fun b0=>(some (decide (b0≥0)))
theorem impl_Valve_77_c108.mono:∀ a0 c m k,LeO (impl_Valve_77_c108.f k a0 c m) (impl_Valve_77_c108.f (k+1) a0 c m):=by
 intro a0 c m k;unfold impl_Valve_77_c108.f
 with_reducible repeat' first|exact impl_Valve_107_c108.mono _ _ _ _|exact LeO.refl _|exact LeO.none _|refine LeO.ite ?_ ?_|refine LeO.bind ?_ (fun _=>?_)
theorem impl_Valve_77_c108.calls (k:Nat) (D:Option Addr) (E:Nat) (b:List (S51)) (aW:Option Addr) (aY:Nat) (A:List ByteArray) (aX:Option Addr) (aZ:Nat) (B:List Bool) (r:Bool) (w:World) (L:Kd.C k51 w D b.length b) (K:b.length≤E) (ap:Kd.C Kd.string w aW A.length A) (am:A.length≤aY) (aq:Kd.C Kd.bool w aX B.length B) (an:B.length≤aZ) (h:impl_Valve_77_c108.f k b A B=some r):
  Calls Try.prog 77 #[.slice D b.length E,.func (.func 108) #[] #[.pointer aW,.pointer aX]] w fun e w'=>e=.returned (.bool r)∧Below w.heap.size w w':=by
 have Y:=a_ L;have aG:=a_ K;clear L K;have b7:=a_ ap;have b5:=a_ am;clear ap am;have b8:=a_ aq;have b6:=a_ an;clear aq an;have HB:=a_ (Below.refl w.heap.size w);have H:((impl_Valve_107_c108.f k b A B).bind fun b0=>(some (decide (b0≥0))))=some r:=h;clear h;replace H:=be_ H;obtain ⟨b0,ad,H⟩:=H;have A3:=a_ ad;clear ad;obtain rfl:=Option.some.inj H;go_enter Try.func77,Try.ntmps77;go_wp2_with (first|((with_reducible refine gate_callee (f:=107) rfl ?_);refine goesL_ (some 7) rfl rfl Try.func107 t16_ rfl #[.slice D b.length E,.func (.func 108) #[] #[.pointer aW,.pointer aX]] rfl t2_ ?_;(with_reducible refine (impl_Valve_107_c108.calls k _ _ b _ aY A _ aZ B b0 _ ?aP ?aQ ?ab ?ac ?b9 ?bA A3.out).mono ?_);(case aP=>exact qc_ Y.out);(case aQ=>exact aG.out);(case ab=>exact qc_ b7.out);(case ac=>exact b5.out);(case b9=>exact qc_ b8.out);(case bA=>exact b6.out);rintro e w4 ⟨rfl,hb⟩;refine ⟨_,rfl,?_⟩;have l:=a_ (below_step t1_ hb);clear HB;have HB:=l;clear l;(try clear hb);(try clear hb2);(try clear hk);(try clear hi)));go_ret
 exact ⟨t3_,t1_⟩

def impl_stands.f (k:Nat) (b:List (S51)) (c:ByteArray) (m:Bool):Option (Bool):=(impl_Valve_77_c108.f k b [c] [m]).bind fun b1=>(some b1)
theorem impl_stands.mono:∀ a0 c m k,LeO (impl_stands.f k a0 c m) (impl_stands.f (k+1) a0 c m):=by
 intro a0 c m k;unfold impl_stands.f
 with_reducible repeat' first|exact impl_Valve_77_c108.mono _ _ _ _|exact LeO.refl _|exact LeO.none _|refine LeO.ite ?_ ?_|refine LeO.bind ?_ (fun _=>?_)
theorem impl_stands.calls (k:Nat) (D:Option Addr) (E:Nat) (b:List (S51)) (c:ByteArray) (m:Bool) (r:Bool) (w:World) (L:Kd.C k51 w D b.length b) (K:b.length≤E) (h:impl_stands.f k b c m=some r):
  Calls Try.prog 79 #[.slice D b.length E,.string c,.bool m] w fun e w'=>e=.returned (.bool r)∧Below w.heap.size w w':=by
 have Y:=a_ L;have aG:=a_ K;clear L K;have HB:=a_ (Below.refl w.heap.size w);have H:((impl_Valve_77_c108.f k b [c] [m]).bind fun b1=>(some b1))=some r:=h;clear h;replace H:=be_ H;obtain ⟨b1,af,H⟩:=H;have A4:=a_ af;clear af;obtain rfl:=Option.some.inj H;go_enter Try.func79,Try.ntmps79;go_wp2_with (first|((with_reducible refine gate_dst (N:=4) rfl ?_);refine box_event ?hg (N:=4) ?hd (cs:=#[.string c]) (t:=9) ?hr ?_;(case hd=>rfl);(case hg=>rfl);(case hr=>first|(go_simp;done)|(go_simp;rfl));intro aD hg w5 hbox hb;have l:=a_ (below_step t1_ hb);have q:=a_ (hbox);have s:=a_ ((by rw [hg];exact (below_size t1_):w.heap.size≤aD));have z:=a_ ((by rw [hg];exact (below_size t1_):w.heap.size≤aD));clear HB;have HB:=l;have aA:=q;have c8:=s;have GE377:=z;clear l q s z;clear hb hbox hg)|((with_reducible refine gate_dst (N:=5) rfl ?_);refine box_event ?hg (N:=5) ?hd (cs:=#[.bool m]) (t:=4) ?hr ?_;(case hd=>rfl);(case hg=>rfl);(case hr=>first|(go_simp;done)|(go_simp;rfl));intro aa hg w6 hbox hb;have l:=a_ (blk_below (g:=aD) (o:=.cells #[.string c] 9 (0,0)) (q1_ aA.out) hb);have q:=a_ (below_step t97_ hb);have s:=a_ (hbox);have z:=a_ ((by rw [hg];exact (below_size t97_):w.heap.size≤aa));have bb:=a_ ((by rw [hg];exact (below_size t97_):w.heap.size≤aa));have bc:=a_ ((by rw [hg];exact Nat.ne_of_lt (blk_lt (g:=aD) (o:=.cells #[.string c] 9 (0,0)) (q1_ aA.out)):aD≠aa));have bd:=a_ ((by rw [hg];exact Nat.ne_of_gt (blk_lt (g:=aD) (o:=.cells #[.string c] 9 (0,0)) (q1_ aA.out)):aa≠aD));clear aA;clear HB;have aA:=l;have HB:=q;have b3:=s;have c9:=z;have bP:=bb;have cB:=bc;have cC:=bd;clear l q s z bb bc bd;clear hb hbox hg)|((with_reducible refine gate_callee (f:=77) rfl ?_);refine goesL_ (some 9) rfl rfl Try.func77 t16_ rfl #[.slice D b.length E,.func (.func 108) #[] #[.pointer (some ⟨aD,0,none⟩),.pointer (some ⟨aa,0,none⟩)]] rfl t2_ ?_;(with_reducible refine (impl_Valve_77_c108.calls k _ _ b _ 1 [c] _ 1 [m] b1 _ ?aP ?aQ ?ab ?ac ?b9 ?bA A4.out).mono ?_);(case aP=>exact qc_ (Kd.C_below Y.out HB.out));(case aQ=>exact aG.out);(case ab=>exact Kd.C_one (d:=Kd.string) (rfl) (cells_blk (cs:=#[.string c]) (t:=9) (q1_ aA.out)));(case ac=>exact Nat.le_refl _);(case b9=>exact Kd.C_one (d:=Kd.bool) (rfl) (cells_blk (cs:=#[.bool m]) (t:=4) (q1_ b3.out)));(case bA=>exact Nat.le_refl _);rintro e w7 ⟨rfl,hb⟩;refine ⟨_,rfl,?_⟩;have l:=a_ (blk_below (g:=aD) (o:=.cells #[.string c] 9 (0,0)) (q1_ aA.out) hb);have q:=a_ (blk_below (g:=aa) (o:=.cells #[.bool m] 4 (0,0)) (q1_ b3.out) hb);have s:=a_ (below_step (by repeat (first|(with_reducible first|exact HB.out|apply below_alloc|apply pw_below_drewN|apply below_drew1|refine below_set ?_ GE377.out|refine below_set ?_ bP.out)|exact HB.out)) hb);clear aA;clear b3;clear HB;have aA:=l;have b3:=q;have HB:=s;clear l q s;(try clear hb);(try clear hb2);(try clear hk);(try clear hi)));go_ret
 exact ⟨t3_,(by repeat (first|(with_reducible first|exact HB.out|apply below_alloc|apply pw_below_drewN|apply below_drew1|refine below_set ?_ GE377.out|refine below_set ?_ bP.out)|exact HB.out))⟩

-- function 151 is told with the one that calls it

-- function 141 is told with the one that calls it

-- function 135 is told with the one that calls it

-- function 146 is told with the one that calls it

-- function 136 is told with the one that calls it

-- function 144 is told with the one that calls it

-- function 145 is told with the one that calls it

-- function 129 is told with the one that calls it

-- function 147 is told with the one that calls it

-- function 148 is told with the one that calls it

-- function 137 is told with the one that calls it

-- function 152 is told with the one that calls it

-- function 150 is told with the one that calls it

-- function 149 is told with the one that calls it

-- function 138 is told with the one that calls it

-- function 139 is told with the one that calls it

-- function 140 is told with the one that calls it

-- function 142 is told with the one that calls it

-- function 143 is told with the one that calls it

-- function 128 is told with the one that calls it

def lsort__ren:Go.Shelf.Ren:=⟨fun|5=>102|8=>129|7=>128|19=>144|20=>145|10=>135|11=>136|12=>137|13=>138|14=>139|15=>140|16=>141|17=>142|18=>143|30=>146|31=>147|32=>148|33=>149|34=>150|35=>151|40=>152|n=>n,fun|23=>22|25=>2|3=>3|32=>156|22=>22|0=>0|44=>170|46=>140|4=>4|36=>162|35=>161|41=>167|5=>5|9=>9|53=>172|57=>176|63=>178|64=>179|n=>n,fun|n=>n⟩
theorem lsort_:Go.Proofs.SlLaysM.n5 Try.prog lsort__ren:={
  mixed:=by kernel_rfl
  f5:=⟨Try.f102.name,t37_,Try.func102.trans (congrArg some t16_)⟩
  f7:=⟨Try.f128.name,t37_,Try.func128.trans (congrArg some t16_)⟩
  f8:=Try.func129.trans (congrArg some t16_)
  f10:=⟨Try.f135.name,t37_,Try.func135.trans (congrArg some t16_)⟩
  f11:=⟨Try.f136.name,t37_,Try.func136.trans (congrArg some t16_)⟩
  f12:=⟨Try.f137.name,t37_,Try.func137.trans (congrArg some t16_)⟩
  f13:=⟨Try.f138.name,t37_,Try.func138.trans (congrArg some t16_)⟩
  f14:=⟨Try.f139.name,t37_,Try.func139.trans (congrArg some t16_)⟩
  f15:=⟨Try.f140.name,t37_,Try.func140.trans (congrArg some t16_)⟩
  f16:=⟨Try.f141.name,t37_,Try.func141.trans (congrArg some t16_)⟩
  f17:=⟨Try.f142.name,t37_,Try.func142.trans (congrArg some t16_)⟩
  f18:=⟨Try.f143.name,t37_,Try.func143.trans (congrArg some t16_)⟩
  f19:=Try.func144.trans (congrArg some t16_)
  f20:=Try.func145.trans (congrArg some t16_)
  f30:=⟨Try.f146.name,t37_,Try.func146.trans (congrArg some t16_)⟩
  f31:=Try.func147.trans (congrArg some t16_)
  f32:=Try.func148.trans (congrArg some t16_)
  f33:=⟨Try.f149.name,t37_,Try.func149.trans (congrArg some t16_)⟩
  f34:=⟨Try.f150.name,t37_,Try.func150.trans (congrArg some t16_)⟩
  f35:=⟨Try.f151.name,t37_,Try.func151.trans (congrArg some t16_)⟩
  f40:=⟨Try.f152.name,t37_,Try.func152.trans (congrArg some t16_)⟩
  t0:=Try.underlying0
  a0:=Try.isAgg0
  z0:=Try.sizeOf0
  v0:=Try.zeroValue0
  t3:=Try.underlying3
  a3:=Try.isAgg3
  z3:=Try.sizeOf3
  v3:=Try.zeroValue3
  t4:=Try.underlying4
  a4:=Try.isAgg4
  z4:=Try.sizeOf4
  v4:=Try.zeroValue4
  t5:=Try.underlying5
  a5:=Try.isAgg5
  z5:=Try.sizeOf5
  v5:=Try.zeroValue5
  t9:=Try.underlying9
  a9:=Try.isAgg9
  z9:=Try.sizeOf9
  v9:=Try.zeroValue9
  t22:=Try.underlying22
  a22:=Try.isAgg22
  z22:=Try.sizeOf22
  v22:=Try.zeroValue22
  t23:=Try.underlying22
  a23:=Try.isAgg22
  z23:=Try.sizeOf22
  v23:=Try.zeroValue22
  t25:=Try.underlying2
  a25:=Try.isAgg2
  z25:=Try.sizeOf2
  v25:=Try.zeroValue2
  t32:=Try.underlying156
  a32:=Try.isAgg156
  z32:=Try.sizeOf156
  v32:=Try.zeroValue156
  t35:=Try.underlying161
  a35:=Try.isAgg161
  z35:=Try.sizeOf161
  v35:=Try.zeroValue161
  t36:=Try.underlying162
  a36:=Try.isAgg162
  z36:=Try.sizeOf162
  v36:=Try.zeroValue162
  t41:=Try.underlying167
  a41:=Try.isAgg167
  z41:=Try.sizeOf167
  v41:=Try.zeroValue167
  t44:=Try.underlying170
  a44:=Try.isAgg170
  z44:=Try.sizeOf170
  v44:=Try.zeroValue170
  t46:=Try.underlying140
  a46:=Try.isAgg140
  z46:=Try.sizeOf140
  v46:=Try.zeroValue140
  t53:=Try.underlying172
  a53:=Try.isAgg172
  z53:=Try.sizeOf172
  v53:=Try.zeroValue172
  t57:=Try.underlying176
  a57:=Try.isAgg176
  z57:=Try.sizeOf176
  v57:=Try.zeroValue176
  t63:=Try.underlying178
  a63:=Try.isAgg178
  z63:=Try.sizeOf178
  v63:=Try.zeroValue178
  t64:=Try.underlying179
  a64:=Try.isAgg179
  z64:=Try.sizeOf179
  v64:=Try.zeroValue179 }

/-- slices.Sort: the row in order. -/
def slices_Sort_int64_int64.f (b:List Int):Option (List Int):=if b.length<4611686018427387904 then some (b.mergeSort fun x y=>decide (x≤y)) else none
theorem slices_Sort_int64_int64.calls (P0_:Nat→Prop) (u9000_:Value) (b:List Int) (r:List Int) (w0 w:World) (hB:Below w0.heap.size w0 w) (bX:Kd.R (Kd.int .i64) 2 w w0.heap.size P0_ u9000_ b) (h:slices_Sort_int64_int64.f b=some r):
    Calls Try.prog 102 #[u9000_] w fun e w'=>e=.returned (.tuple #[])∧Kd.R (Kd.int .i64) 2 w' w0.heap.size (fun k_=>(P0_ k_∨w.heap.size≤k_)) u9000_ r∧Below w0.heap.size w0 w'∧Kept w w' (fun k_=>P0_ k_):=by
  unfold slices_Sort_int64_int64.f at h
  by_cases hs:b.length<4611686018427387904
  · rw [if_pos hs] at h
    obtain rfl:=Option.some.inj h;have hl:(b.mergeSort fun x y=>decide (x≤y)).length=b.length:=List.length_mergeSort b;have hok:=bX.1;have ho:w.ownsRow w0.heap.size 2 1 u9000_ b.length (encs (Value.int .i64) b):=Kd.own_of_R bX;obtain ⟨hlen,hrow⟩:=ho;rcases hrow with ⟨rfl,h0⟩|⟨g,cap,cur,rfl,hg,hblk,hn,hcap,hcur,htake⟩
    · have bq:b=[]:=List.length_eq_zero_iff.1 h0
      subst bq;refine (AnyM.slices_Sort_int_none lsort_ none 0 w).mono ?_;rintro e w' ⟨rfl,rfl⟩;exact ⟨rfl,(by rw [List.mergeSort_nil];exact Kd.R_nil _ _ _ _ _),hB,Kept.refl _ _⟩
    · have hgs:g<w.heap.size:=(Array.getElem?_eq_some_iff.1 hblk).1
      have ht:cur.toList.take b.length=b.map (Value.int .i64):=(by rw [Nat.mul_one] at htake;exact htake);refine (AnyM.slices_Sort_int lsort_ g 0 cap b w (holds_of_blockI hblk ht) hgs hs).mono ?_;rintro e w' ⟨rfl,n,os,rfl⟩;have hgr:w.grownBy (Sort.grow (Sort.putRow (Value.int .i64) (Sort.ahead w n) g 0 (b.mergeSort fun x y=>decide (x≤y)).toArray) os) (some g):=grownBy_sortedI _;have hw:=ownsRow_sortedI (n:=n) (os:=os) hl hg hblk hn hcap hcur;refine ⟨rfl,?_,hB.grown hgr hB.size (fun k e=>by cases e;exact hg),⟨hgr.size,fun i hi hni=>hgr.block i hi (fun e=>hni (hok i e.symm))⟩⟩;refine Kd.R_of_own ?_ (fun k hk=>Or.inl (hok k hk));rw [hl];exact hw
  · rw [if_neg hs] at h;cases h

end Go.Proofs.Ytheokilgacmlmaa.PFnExactValvesToClose
