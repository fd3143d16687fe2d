-- written by wip/xprint.py, a program of this session, for this claim; not trusted: Lean checks it.
import Derived.Shelf.SortM.Plain
import Derived.Shelf.SortM.SortNone
import Derived.Shelf.SlicesG.CompactI
import Derived.Sort.OwnSortedInts
import Derived.Test.YtheokilgacmlmaaPFnExactPipesBehindx0
namespace Go.Proofs.Ytheokilgacmlmaa.PFnExactPipesBehind
open Go.RowKit Go.Proofs.YtheokilgacmlmaaW.PrintWords Go.Proofs.YtheokilgacmlmaaW.PrintLast Go.Proofs.YtheokilgacmlmaaW.PrintMore
attribute [local go_sem] leq_less_ max2_int min2_int max_two min_two max_three min_three max_four min_four   -- for this text's walks alone
set_option linter.unusedVariables false
set_option linter.unusedSimpArgs false
set_option maxHeartbeats 8000000
set_option maxRecDepth 100000
def impl_increasing.l0:Nat→List Int→Int→Option (Bool)
 |0,_,_=>none
 |k+1,K,x3=>if x3<(K.length:Int) then (if 0≤x3 then (if 0≤(wrap64 (x3 - 1)) then (if (wrap64 (x3 - 1))<(K.length:Int) then (if (rd K x3)≤(rd K (wrap64 (x3 - 1))) then (some false) else (impl_increasing.l0 k K (wrap64 (x3+1)))) else (none)) else (none)) else (none)) else (some true)
def impl_increasing.f (k:Nat) (b:List Int):Option (Bool):=impl_increasing.l0 k b 1
theorem impl_increasing.mono_l:∀ k,(∀ y0 y1,LeO (impl_increasing.l0 k y0 y1) (impl_increasing.l0 (k+1) y0 y1))
 |0=>fun _ _ r h=>by simp [impl_increasing.l0] at h
 |k+1=>by
  have Z:=impl_increasing.mono_l k
  ·intro y0 y1
   unfold impl_increasing.l0
   with_reducible repeat' first|exact Z _ _|exact LeO.refl _|exact LeO.none _|refine LeO.ite ?_ ?_|refine LeO.bind ?_ (fun _=>?_)
theorem impl_increasing.mono:∀ a0 k,LeO (impl_increasing.f k a0) (impl_increasing.f (k+1) a0):=by
 intro a0 k;have Z:=impl_increasing.mono_l k;unfold impl_increasing.f
 with_reducible repeat' first|exact Z _ _|exact LeO.refl _|exact LeO.none _|refine LeO.ite ?_ ?_|refine LeO.bind ?_ (fun _=>?_)
theorem impl_increasing.calls (k:Nat) (u:Option Addr) (v:Nat) (b:List Int) (r:Bool) (w:World) (G:Kd.C (Kd.int .i64) w u b.length b) (E:b.length≤v) (h:impl_increasing.f k b=some r):
  Calls Try.prog 67 #[.slice u b.length v] w fun e w'=>e=.returned (.bool r)∧Drawn0 w w':=by
 have J:=a_ G;have aC:=a_ E;clear G E;have H:(impl_increasing.l0 k b 1)=some r:=h;clear h;have H':=a_ H;clear H;go_enter Try.func67,Try.ntmps67;go_wp2;(repeat (go_quiet (fail);try go_wp2));go_loopg [3] k (fun kq v3 w'=>∃ (q:Int),v3=.int .i64 q∧Aside0 (impl_increasing.l0 kq b q=some r)∧Aside0 (kq≤k)∧Drawn0 w w')
 case atStart=>exact ⟨(1),t6_,H',⟨Nat.le_refl _⟩,t11_⟩
 case round=>
  clear H';obtain ⟨q,rfl,HA,HK1,⟨m1,rfl⟩⟩:=hrel;cases gk with
  |zero=>exact absurd HA.out (by simp [impl_increasing.l0])
  |succ k1=>
   have H:=HA.out;clear HA;simp only [impl_increasing.l0] at H;by_cases c2:q<(b.length:Int)
   ·rw [if_pos c2] at H;have be:decide (q<(b.length:Int))=true:=d1_ c2;clear c2;by_cases B:0≤q
    ·rw [if_pos B] at H;have av:decide (0≤q)=true:=d1_ B;clear B;obtain ⟨I,ax⟩:∃ j_:Int,(wrap64 (q - 1))=j_:=⟨_,rfl⟩;replace H:(if 0≤(I) then (if (I)<(b.length:Int) then (if (rd b q)≤(rd b (I)) then (some false) else (impl_increasing.l0 k1 b (wrap64 (q+1)))) else (none)) else (none))=some r:=(by first|(rw [ax] at H;exact H)|(simp only [ax] at H ⊢;exact H));have cN:(IntKind.i64.wrap (q - 1))=I:=(i64_w _).trans ax;by_cases m:0≤(I)
     ·rw [if_pos m] at H;have aw:decide (0≤(I))=true:=d1_ m;clear m;by_cases D:(I)<(b.length:Int)
      ·rw [if_pos D] at H;have b4:decide ((I)<(b.length:Int))=true:=d1_ D;clear D;by_cases X:(rd b q)≤(rd b (I))
       ·rw [if_pos X] at H;have bg:decide ((rd b q)≤(rd b (I)))=true:=d1_ X;clear X;obtain rfl:=Option.some.inj H;have aF:0≤(q:Int):=od_;have aK:q<(b.length:Int):=od_;obtain ⟨b1,b5,bl⟩:=Kd.at_int J.out q aF aK;cases b5;replace aF:=eq_true aF;replace aK:=eq_true aK;have aG:0≤((I):Int):=od_;have aL:(I)<(b.length:Int):=od_;obtain ⟨b2,b6,bm⟩:=Kd.at_int J.out (I) aG aL;obtain rfl:b1=b2:=(by injection b6);replace aG:=eq_true aG;replace aL:=eq_true aL;go_wp2;(repeat (go_quiet (fail);try go_wp2));go_ret
        exact ⟨(by first|rfl|(simp;done)|(simp only [← ax]<;>(first|rfl|simp))|(simp [*];done)),t11_⟩
       ·rw [if_neg X] at H;have bg:decide ((rd b q)≤(rd b (I)))=false:=d2_ X;clear X;have H':=a_ H;clear H;have aF:0≤(q:Int):=od_;have aK:q<(b.length:Int):=od_;obtain ⟨b1,b5,bl⟩:=Kd.at_int J.out q aF aK;cases b5;replace aF:=eq_true aF;replace aK:=eq_true aK;have aG:0≤((I):Int):=od_;have aL:(I)<(b.length:Int):=od_;obtain ⟨b2,b6,bm⟩:=Kd.at_int J.out (I) aG aL;obtain rfl:b1=b2:=(by injection b6);replace aG:=eq_true aG;replace aL:=eq_true aL;go_wp2;(repeat (go_quiet (fail);try go_wp2));go_roundg k1
        case measure=>have:=HK1.out;omega
        case rel=>exact ⟨(wrap64 (q+1)),t6_,H',⟨t54_⟩,t11_⟩
      ·rw [if_neg D] at H;exact absurd H t56_
     ·rw [if_neg m] at H;exact absurd H t56_
    ·rw [if_neg B] at H;exact absurd H t56_
   ·rw [if_neg c2] at H;have be:decide (q<(b.length:Int))=false:=d2_ c2;clear c2;obtain rfl:=Option.some.inj H;go_wp2;(repeat (go_quiet (fail);try go_wp2));go_ret
    exact ⟨t6_,t11_⟩

def slices_Index_int64_int64.l0:Nat→List Int→Int→Int→Int→Option (Int)
 |0,_,_,_,_=>none
 |k+1,K,x1,x7,L=>if L<x7 then (if 0≤L then (if L<(K.length:Int) then (if x1=(rd K L) then (some L) else (slices_Index_int64_int64.l0 k K x1 x7 (wrap64 (L+1)))) else (none)) else (none)) else (some (-1))
def slices_Index_int64_int64.f (k:Nat) (b:List Int) (c:Int):Option (Int):=slices_Index_int64_int64.l0 k b c (b.length:Int) 0
theorem slices_Index_int64_int64.mono_l:∀ k,(∀ y0 y1 y2 y3,LeO (slices_Index_int64_int64.l0 k y0 y1 y2 y3) (slices_Index_int64_int64.l0 (k+1) y0 y1 y2 y3))
 |0=>fun _ _ _ _ r h=>by simp [slices_Index_int64_int64.l0] at h
 |k+1=>by
  have Z:=slices_Index_int64_int64.mono_l k
  ·intro y0 y1 y2 y3
   unfold slices_Index_int64_int64.l0
   with_reducible repeat' first|exact Z _ _ _ _|exact LeO.refl _|exact LeO.none _|refine LeO.ite ?_ ?_|refine LeO.bind ?_ (fun _=>?_)
theorem slices_Index_int64_int64.mono:∀ a0 c k,LeO (slices_Index_int64_int64.f k a0 c) (slices_Index_int64_int64.f (k+1) a0 c):=by
 intro a0 c k;have Z:=slices_Index_int64_int64.mono_l k;unfold slices_Index_int64_int64.f
 with_reducible repeat' first|exact Z _ _ _ _|exact LeO.refl _|exact LeO.none _|refine LeO.ite ?_ ?_|refine LeO.bind ?_ (fun _=>?_)
theorem slices_Index_int64_int64.calls (k:Nat) (u:Option Addr) (v:Nat) (b:List Int) (c:Int) (r:Int) (w:World) (G:Kd.C (Kd.int .i64) w u b.length b) (E:b.length≤v) (h:slices_Index_int64_int64.f k b c=some r):
  Calls Try.prog 103 #[.slice u b.length v,.int .i64 c] w fun e w'=>e=.returned (.int .i64 r)∧Drawn0 w w':=by
 have J:=a_ G;have aC:=a_ E;clear G E;have H:(slices_Index_int64_int64.l0 k b c (b.length:Int) 0)=some r:=h;clear h;have H':=a_ H;clear H;go_enter Try.func103,Try.ntmps103;go_wp2;go_loopg [8] k (fun kq v8 w'=>∃ (j:Int),v8=.int .i64 j∧Aside0 (slices_Index_int64_int64.l0 kq b c (b.length:Int) j=some r)∧Aside0 (kq≤k)∧Drawn0 w w')
 case atStart=>exact ⟨(0),t6_,H',⟨Nat.le_refl _⟩,t11_⟩
 case round=>
  clear H';(try clear c1);(try clear p2);obtain ⟨j,rfl,HA,HK1,⟨m1,rfl⟩⟩:=hrel;cases gk with
  |zero=>exact absurd HA.out (by simp [slices_Index_int64_int64.l0])
  |succ k1=>
   have H:=HA.out;clear HA;simp only [slices_Index_int64_int64.l0] at H;by_cases B:j<(b.length:Int)
   ·rw [if_pos B] at H;have av:decide (j<(b.length:Int))=true:=d1_ B;clear B;by_cases M:0≤j
    ·rw [if_pos M] at H;have bL:decide (0≤j)=true:=d1_ M;clear M;by_cases m:j<(b.length:Int)
     ·rw [if_pos m] at H;have aw:decide (j<(b.length:Int))=true:=d1_ m;clear m;by_cases D:c=(rd b j)
      ·rw [if_pos D] at H;have b4:(c==(rd b j))=true:=b1_ D;have bM:(c !=(rd b j))=false:=b4_ D;clear D;obtain rfl:=Option.some.inj H;have aH:0≤(j:Int):=od_;have aM:j<(b.length:Int):=od_;obtain ⟨bb,b7,bn⟩:=Kd.at_int J.out j aH aM;cases b7;replace aH:=eq_true aH;replace aM:=eq_true aM;go_wp2;go_ret
       exact ⟨t6_,t11_⟩
      ·rw [if_neg D] at H;have b4:(c==(rd b j))=false:=b2_ D;have bM:(c !=(rd b j))=true:=b3_ D;have H':=a_ H;clear H;have aH:0≤(j:Int):=od_;have aM:j<(b.length:Int):=od_;obtain ⟨bb,b7,bn⟩:=Kd.at_int J.out j aH aM;cases b7;replace aH:=eq_true aH;replace aM:=eq_true aM;go_wp2;go_roundg k1
       case measure=>have:=HK1.out;omega
       case rel=>exact ⟨(wrap64 (j+1)),t6_,H',⟨t54_⟩,t11_⟩
     ·rw [if_neg m] at H;exact absurd H t56_
    ·rw [if_neg M] at H;exact absurd H t56_
   ·rw [if_neg B] at H;have av:decide (j<(b.length:Int))=false:=d2_ B;clear B;obtain rfl:=Option.some.inj H;go_wp2;go_ret
    exact ⟨t6_,t11_⟩

def slices_Contains_int64_int64.f (k:Nat) (b:List Int) (c:Int):Option (Bool):=(slices_Index_int64_int64.f k b c).bind fun aj=>(some (decide (aj≥0)))
theorem slices_Contains_int64_int64.mono:∀ a0 c k,LeO (slices_Contains_int64_int64.f k a0 c) (slices_Contains_int64_int64.f (k+1) a0 c):=by
 intro a0 c k;unfold slices_Contains_int64_int64.f
 with_reducible repeat' first|exact slices_Index_int64_int64.mono _ _ _|exact LeO.refl _|exact LeO.none _|refine LeO.ite ?_ ?_|refine LeO.bind ?_ (fun _=>?_)
theorem slices_Contains_int64_int64.calls (k:Nat) (u:Option Addr) (v:Nat) (b:List Int) (c:Int) (r:Bool) (w:World) (G:Kd.C (Kd.int .i64) w u b.length b) (E:b.length≤v) (h:slices_Contains_int64_int64.f k b c=some r):
  Calls Try.prog 71 #[.slice u b.length v,.int .i64 c] w fun e w'=>e=.returned (.bool r)∧Drawn0 w w':=by
 have J:=a_ G;have aC:=a_ E;clear G E;have H:((slices_Index_int64_int64.f k b c).bind fun aj=>(some (decide (aj≥0))))=some r:=h;clear h;replace H:=be_ H;obtain ⟨aj,aY,H⟩:=H;have A3:=a_ aY;clear aY;obtain rfl:=Option.some.inj H;go_enter Try.func71,Try.ntmps71;go_wp2_with (first|((with_reducible refine gate_callee (f:=103) rfl ?_);refine goesL_ (some 7) rfl rfl Try.func103 t17_ rfl #[.slice u b.length v,.int .i64 c] rfl t2_ ?_;(with_reducible refine (slices_Index_int64_int64.calls k _ _ b c aj _ ?Z1 ?Z2 A3.out).mono ?_);(case Z1=>exact qc_ J.out);(case Z2=>exact aC.out);rintro e w' ⟨rfl,⟨nd,rfl⟩⟩;refine ⟨_,rfl,?_⟩));go_ret
 exact ⟨t6_,t11_⟩

def impl_stands_1.f (aZ:ByteArray) (W:ByteArray) (aE:Bool) (l1:List ByteArray) (O:List Bool):Option (Bool):=if 0<(l1.length:Int) then (if W.toList=(rdOf ByteArray.empty l1 0).toList then (if 0<(O.length:Int) then (some (aE==(rdOf false O 0))) else (none)) else (some false)) else (none)
theorem impl_stands_1.calls (aZ:ByteArray) (W:ByteArray) (aE:Bool) (A1:Option Addr) (c1:Nat) (l1:List ByteArray) (A2:Option Addr) (c2:Nat) (O:List Bool) (r:Bool) (w:World) (bQ:Kd.C Kd.string w A1 l1.length l1) (bN:l1.length≤c1) (bR:Kd.C Kd.bool w A2 O.length O) (bO:O.length≤c2) (h:impl_stands_1.f aZ W aE l1 O=some r):
  Calls Try.prog 108 #[.agg #[.string aZ,.string W,.bool aE],.pointer A1,.pointer A2] w fun e w'=>e=.returned (.bool r)∧Below w.heap.size w w':=by
 have bk:=Try.underlying51;have HR1:=a_ bQ;have bw:=a_ bN;clear bQ bN;have ba:=a_ bR;have bx:=a_ bO;clear bR bO;have HB:=a_ (Below.refl w.heap.size w);have H:(if 0<(l1.length:Int) then (if W.toList=(rdOf ByteArray.empty l1 0).toList then (if 0<(O.length:Int) then (some (aE==(rdOf false O 0))) else (none)) else (some false)) else (none))=some r:=h;clear h;by_cases M:0<(l1.length:Int)
 ·rw [if_pos M] at H;have bL:decide (0<(l1.length:Int))=true:=d1_ M;have cA:decide (0<l1.length)=true:=decide_eq_true t25_;clear M;by_cases m:W.toList=(rdOf ByteArray.empty l1 0).toList
  ·rw [if_pos m] at H;have aw:(W.toList==(rdOf ByteArray.empty l1 0).toList)=true:=b1_ m;have bf:(W.toList !=(rdOf ByteArray.empty l1 0).toList)=false:=b4_ m;clear m;by_cases D:0<(O.length:Int)
   ·rw [if_pos D] at H;have b4:decide (0<(O.length:Int))=true:=d1_ D;have bM:decide (0<O.length)=true:=decide_eq_true t25_;clear D;obtain rfl:=Option.some.inj H;go_enter Try.func108,Try.ntmps108;go_wp2_with (first|((with_reducible refine gate_dst (N:=3) rfl ?_);refine box_event ?hg (N:=3) ?hd (cs:=#[.string aZ,.string W,.bool aE]) (t:=51) ?hr ?_;(case hd=>rfl);(case hg=>rfl);(case hr=>first|(go_simp;done)|(go_simp;rfl));intro aa hg w7 hbox hb;have l:=a_ (below_step t1_ hb);have T:=a_ (hbox);have U:=a_ ((by rw [hg];exact (below_size t1_):w.heap.size≤aa));have a6:=a_ ((by rw [hg];exact (below_size t1_):w.heap.size≤aa));clear HB;have HB:=l;have az:=T;have bZ:=U;have b0:=a6;clear l T U a6;clear hb hbox hg;have ⟨cE,cF,cG,cK,cL,cM⟩:=bc3_ az.out;have aI:0≤(0:Int):=t25_;have aN:0<(l1.length:Int):=od_;obtain ⟨bc,b8,Y⟩:=Kd.at_string HR1.out 0 aI aN;cases b8;have bq:(0<l1.length)=True:=eq_true t25_;(try rw [show ((0:Int)).toNat=0 from rfl] at Y);(try rw [Addr.add_zero'] at Y);replace Y:=(HB.out.cell (World.block_lt_of_cell? w _ Y)).trans Y;replace aI:=eq_true aI;replace aN:=eq_true aN;have bA:0≤(0:Int):=t25_;have bB:0<(O.length:Int):=od_;obtain ⟨c9,bh,af⟩:=Kd.at_bool ba.out 0 bA bB;cases bh;have cO:(0<O.length)=True:=eq_true t25_;(try rw [show ((0:Int)).toNat=0 from rfl] at af);(try rw [Addr.add_zero'] at af);replace af:=(HB.out.cell (World.block_lt_of_cell? w _ af)).trans af;replace bA:=eq_true bA;replace bB:=eq_true bB));go_ret
    exact ⟨t3_,(by repeat (first|(with_reducible first|exact HB.out|apply below_alloc|apply pw_below_drewN|apply below_drew1|refine below_set ?_ b0.out)|exact HB.out))⟩
   ·rw [if_neg D] at H;exact absurd H t56_
  ·rw [if_neg m] at H;have aw:(W.toList==(rdOf ByteArray.empty l1 0).toList)=false:=b2_ m;have bf:(W.toList !=(rdOf ByteArray.empty l1 0).toList)=true:=b3_ m;obtain rfl:=Option.some.inj H;go_enter Try.func108,Try.ntmps108;go_wp2_with (first|((with_reducible refine gate_dst (N:=3) rfl ?_);refine box_event ?hg (N:=3) ?hd (cs:=#[.string aZ,.string W,.bool aE]) (t:=51) ?hr ?_;(case hd=>rfl);(case hg=>rfl);(case hr=>first|(go_simp;done)|(go_simp;rfl));intro aa hg w9 hbox hb;have l:=a_ (below_step t1_ hb);have T:=a_ (hbox);have U:=a_ ((by rw [hg];exact (below_size t1_):w.heap.size≤aa));have a6:=a_ ((by rw [hg];exact (below_size t1_):w.heap.size≤aa));clear HB;have HB:=l;have az:=T;have bZ:=U;have b0:=a6;clear l T U a6;clear hb hbox hg;have ⟨cB,cC,cD,cH,cI,cJ⟩:=bc3_ az.out;have aI:0≤(0:Int):=t25_;have aN:0<(l1.length:Int):=od_;obtain ⟨bc,b8,Y⟩:=Kd.at_string HR1.out 0 aI aN;cases b8;have bq:(0<l1.length)=True:=eq_true t25_;(try rw [show ((0:Int)).toNat=0 from rfl] at Y);(try rw [Addr.add_zero'] at Y);replace Y:=(HB.out.cell (World.block_lt_of_cell? w _ Y)).trans Y;replace aI:=eq_true aI;replace aN:=eq_true aN));go_ret
   exact ⟨t3_,(by repeat (first|(with_reducible first|exact HB.out|apply below_alloc|apply pw_below_drewN|apply below_drew1|refine below_set ?_ b0.out)|exact HB.out))⟩
 ·rw [if_neg M] at H;exact absurd H t56_

def impl_Valve_107_c108.l0:Nat→List (S51)→Int→Int→List ByteArray→List Bool→Option (Int)
 |0,_,_,_,_,_=>none
 |k+1,K,x7,L,bW,bX=>if L<x7 then (if 0≤L then (if L<(K.length:Int) then ((impl_stands_1.f ((rd_T51 K L).f0) ((rd_T51 K L).f1) ((rd_T51 K L).f2) bW bX).bind fun bC=>(if bC=true then (some L) else (impl_Valve_107_c108.l0 k K x7 (wrap64 (L+1)) bW bX))) else (none)) else (none)) else (some (-1))
def impl_Valve_107_c108.f (k:Nat) (b:List (S51)) (z:List ByteArray) (A:List Bool):Option (Int):=impl_Valve_107_c108.l0 k b (b.length:Int) 0 z A
theorem impl_Valve_107_c108.mono_l:∀ k,(∀ y0 y1 y2 y3 y4,LeO (impl_Valve_107_c108.l0 k y0 y1 y2 y3 y4) (impl_Valve_107_c108.l0 (k+1) y0 y1 y2 y3 y4))
 |0=>fun _ _ _ _ _ r h=>by simp [impl_Valve_107_c108.l0] at h
 |k+1=>by
  have Z:=impl_Valve_107_c108.mono_l k
  ·intro y0 y1 y2 y3 y4
   unfold impl_Valve_107_c108.l0
   with_reducible repeat' first|exact Z _ _ _ _ _|exact LeO.refl _|exact LeO.none _|refine LeO.ite ?_ ?_|refine LeO.bind ?_ (fun _=>?_)
theorem impl_Valve_107_c108.mono:∀ a0 c s k,LeO (impl_Valve_107_c108.f k a0 c s) (impl_Valve_107_c108.f (k+1) a0 c s):=by
 intro a0 c s k;have Z:=impl_Valve_107_c108.mono_l k;unfold impl_Valve_107_c108.f
 with_reducible repeat' first|exact Z _ _ _ _ _|exact LeO.refl _|exact LeO.none _|refine LeO.ite ?_ ?_|refine LeO.bind ?_ (fun _=>?_)
theorem impl_Valve_107_c108.calls (k:Nat) (u:Option Addr) (v:Nat) (b:List (S51)) (aT:Option Addr) (aV:Nat) (z:List ByteArray) (aU:Option Addr) (aW:Nat) (A:List Bool) (r:Int) (w:World) (G:Kd.C k51 w u b.length b) (E:b.length≤v) (ad:Kd.C Kd.string w aT z.length z) (ab:z.length≤aV) (ae:Kd.C Kd.bool w aU A.length A) (ac:A.length≤aW) (h:impl_Valve_107_c108.f k b z A=some r):
  Calls Try.prog 107 #[.slice u b.length v,.func (.func 108) #[] #[.pointer aT,.pointer aU]] w fun e w'=>e=.returned (.int .i64 r)∧Below w.heap.size w w':=by
 have bk:=Try.underlying51;have J:=a_ G;have aC:=a_ E;clear G E;have ar:=a_ ad;have ap:=a_ ab;clear ad ab;have au:=a_ ae;have aq:=a_ ac;clear ae ac;have HB:=a_ (Below.refl w.heap.size w);have H:(impl_Valve_107_c108.l0 k b (b.length:Int) 0 z A)=some r:=h;clear h;have H':=a_ H;clear H;go_enter Try.func107,Try.ntmps107;go_wp2;go_loopg [8] k (fun kq v8 w'=>∃ (j:Int),v8=.int .i64 j∧Aside0 (impl_Valve_107_c108.l0 kq b (b.length:Int) j z A=some r)∧Aside0 (kq≤k)∧Aside0 (Below w.heap.size w w'))
 case atStart=>exact ⟨(0),t6_,H',⟨Nat.le_refl _⟩,⟨t1_⟩⟩
 case round=>
  clear H';(try clear c1);(try clear p2);obtain ⟨j,rfl,HA,HK1,HB⟩:=hrel;cases gk with
  |zero=>exact absurd HA.out (by simp [impl_Valve_107_c108.l0])
  |succ k1=>
   have H:=HA.out;clear HA;simp only [impl_Valve_107_c108.l0] at H;by_cases B:j<(b.length:Int)
   ·rw [if_pos B] at H;have av:decide (j<(b.length:Int))=true:=d1_ B;clear B;by_cases M:0≤j
    ·rw [if_pos M] at H;have bL:decide (0≤j)=true:=d1_ M;clear M;by_cases m:j<(b.length:Int)
     ·rw [if_pos m] at H;have aw:decide (j<(b.length:Int))=true:=d1_ m;clear m;replace H:=be_ H;obtain ⟨bC,bJ,H⟩:=H;have A6:=a_ bJ;clear bJ;by_cases X:bC=true
      ·subst X;replace H:=(if_pos rfl).symm.trans H;obtain rfl:=Option.some.inj H;have aJ:0≤(j:Int):=od_;have aO:j<(b.length:Int):=od_;obtain ⟨bd,b9,ag,ah,ai⟩:=at_T51 J.out j aJ aO;cases b9;replace ag:=hb_ HB ag;replace ah:=hb_ HB ah;replace ai:=hb_ HB ai;replace aJ:=eq_true aJ;replace aO:=eq_true aO;go_wp2_with (first|(go_at_call 108;(with_reducible refine (impl_stands_1.calls ((rd_T51 b j).f0) ((rd_T51 b j).f1) ((rd_T51 b j).f2) _ aV z _ aW A true _ ?Z1 ?Z2 ?Z3 ?Z4 A6.out).mono ?_);(case Z1=>exact qc_ (Kd.C_below ar.out HB.out));(case Z2=>exact ap.out);(case Z3=>exact qc_ (Kd.C_below au.out HB.out));(case Z4=>exact aq.out);rintro e w8 ⟨rfl,hb⟩;have l:=a_ (below_step t1_ hb);clear HB;have HB:=l;clear l;(try clear hb);(try clear hb2);(try clear hk);(try clear hi)));go_ret
       exact ⟨t3_,t1_⟩
      ·replace X:=Bool.eq_false_iff.mpr X;subst X;replace H:=(if_neg (show ¬ (false=true) by decide)).symm.trans H;have H':=a_ H;clear H;have aJ:0≤(j:Int):=od_;have aO:j<(b.length:Int):=od_;obtain ⟨bd,b9,ag,ah,ai⟩:=at_T51 J.out j aJ aO;cases b9;replace ag:=hb_ HB ag;replace ah:=hb_ HB ah;replace ai:=hb_ HB ai;replace aJ:=eq_true aJ;replace aO:=eq_true aO;go_wp2_with (first|(go_at_call 108;(with_reducible refine (impl_stands_1.calls ((rd_T51 b j).f0) ((rd_T51 b j).f1) ((rd_T51 b j).f2) _ aV z _ aW A false _ ?Z1 ?Z2 ?Z3 ?Z4 A6.out).mono ?_);(case Z1=>exact qc_ (Kd.C_below ar.out HB.out));(case Z2=>exact ap.out);(case Z3=>exact qc_ (Kd.C_below au.out HB.out));(case Z4=>exact aq.out);rintro e w9 ⟨rfl,hb⟩;have l:=a_ (below_step t1_ hb);clear HB;have HB:=l;clear l;(try clear hb);(try clear hb2);(try clear hk);(try clear hi)));go_roundg k1
       case measure=>have:=HK1.out;omega
       case rel=>exact ⟨(wrap64 (j+1)),t6_,H',⟨t54_⟩,⟨t1_⟩⟩
     ·rw [if_neg m] at H;exact absurd H t56_
    ·rw [if_neg M] at H;exact absurd H t56_
   ·rw [if_neg B] at H;have av:decide (j<(b.length:Int))=false:=d2_ B;clear B;obtain rfl:=Option.some.inj H;go_wp2;go_ret
    exact ⟨t3_,t1_⟩

def impl_Valve_77_c108.f (k:Nat) (b:List (S51)) (z:List ByteArray) (A:List Bool):Option (Bool):=(impl_Valve_107_c108.f k b z A).bind fun ak=>(some (decide (ak≥0)))
theorem impl_Valve_77_c108.mono:∀ a0 c s k,LeO (impl_Valve_77_c108.f k a0 c s) (impl_Valve_77_c108.f (k+1) a0 c s):=by
 intro a0 c s k;unfold impl_Valve_77_c108.f
 with_reducible repeat' first|exact impl_Valve_107_c108.mono _ _ _ _|exact LeO.refl _|exact LeO.none _|refine LeO.ite ?_ ?_|refine LeO.bind ?_ (fun _=>?_)
theorem impl_Valve_77_c108.calls (k:Nat) (u:Option Addr) (v:Nat) (b:List (S51)) (aT:Option Addr) (aV:Nat) (z:List ByteArray) (aU:Option Addr) (aW:Nat) (A:List Bool) (r:Bool) (w:World) (G:Kd.C k51 w u b.length b) (E:b.length≤v) (ad:Kd.C Kd.string w aT z.length z) (ab:z.length≤aV) (ae:Kd.C Kd.bool w aU A.length A) (ac:A.length≤aW) (h:impl_Valve_77_c108.f k b z A=some r):
  Calls Try.prog 77 #[.slice u b.length v,.func (.func 108) #[] #[.pointer aT,.pointer aU]] w fun e w'=>e=.returned (.bool r)∧Below w.heap.size w w':=by
 have J:=a_ G;have aC:=a_ E;clear G E;have ar:=a_ ad;have ap:=a_ ab;clear ad ab;have au:=a_ ae;have aq:=a_ ac;clear ae ac;have HB:=a_ (Below.refl w.heap.size w);have H:((impl_Valve_107_c108.f k b z A).bind fun ak=>(some (decide (ak≥0))))=some r:=h;clear h;replace H:=be_ H;obtain ⟨ak,aY,H⟩:=H;have A3:=a_ aY;clear aY;obtain rfl:=Option.some.inj H;go_enter Try.func77,Try.ntmps77;go_wp2_with (first|((with_reducible refine gate_callee (f:=107) rfl ?_);refine goesL_ (some 7) rfl rfl Try.func107 t17_ rfl #[.slice u b.length v,.func (.func 108) #[] #[.pointer aT,.pointer aU]] rfl t2_ ?_;(with_reducible refine (impl_Valve_107_c108.calls k _ _ b _ aV z _ aW A ak _ ?Z1 ?Z2 ?Z3 ?Z4 ?Z5 ?Z6 A3.out).mono ?_);(case Z1=>exact qc_ J.out);(case Z2=>exact aC.out);(case Z3=>exact qc_ ar.out);(case Z4=>exact ap.out);(case Z5=>exact qc_ au.out);(case Z6=>exact aq.out);rintro e w4 ⟨rfl,hb⟩;refine ⟨_,rfl,?_⟩;have l:=a_ (below_step t1_ hb);clear HB;have HB:=l;clear l;(try clear hb);(try clear hb2);(try clear hk);(try clear hi)));go_ret
 exact ⟨t3_,t1_⟩

def impl_stands.f (k:Nat) (b:List (S51)) (c:ByteArray) (s:Bool):Option (Bool):=(impl_Valve_77_c108.f k b [c] [s]).bind fun am=>(some am)
theorem impl_stands.mono:∀ a0 c s k,LeO (impl_stands.f k a0 c s) (impl_stands.f (k+1) a0 c s):=by
 intro a0 c s k;unfold impl_stands.f
 with_reducible repeat' first|exact impl_Valve_77_c108.mono _ _ _ _|exact LeO.refl _|exact LeO.none _|refine LeO.ite ?_ ?_|refine LeO.bind ?_ (fun _=>?_)
theorem impl_stands.calls (k:Nat) (u:Option Addr) (v:Nat) (b:List (S51)) (c:ByteArray) (s:Bool) (r:Bool) (w:World) (G:Kd.C k51 w u b.length b) (E:b.length≤v) (h:impl_stands.f k b c s=some r):
  Calls Try.prog 79 #[.slice u b.length v,.string c,.bool s] w fun e w'=>e=.returned (.bool r)∧Below w.heap.size w w':=by
 have J:=a_ G;have aC:=a_ E;clear G E;have HB:=a_ (Below.refl w.heap.size w);have H:((impl_Valve_77_c108.f k b [c] [s]).bind fun am=>(some am))=some r:=h;clear h;replace H:=be_ H;obtain ⟨am,bH,H⟩:=H;have A4:=a_ bH;clear bH;obtain rfl:=Option.some.inj H;go_enter Try.func79,Try.ntmps79;go_wp2_with (first|((with_reducible refine gate_dst (N:=4) rfl ?_);refine box_event ?hg (N:=4) ?hd (cs:=#[.string c]) (t:=9) ?hr ?_;(case hd=>rfl);(case hg=>rfl);(case hr=>first|(go_simp;done)|(go_simp;rfl));intro aB hg w5 hbox hb;have l:=a_ (below_step t1_ hb);have T:=a_ (hbox);have U:=a_ ((by rw [hg];exact (below_size t1_):w.heap.size≤aB));have a6:=a_ ((by rw [hg];exact (below_size t1_):w.heap.size≤aB));clear HB;have HB:=l;have aA:=T;have bu:=U;have GE360:=a6;clear l T U a6;clear hb hbox hg)|((with_reducible refine gate_dst (N:=5) rfl ?_);refine box_event ?hg (N:=5) ?hd (cs:=#[.bool s]) (t:=4) ?hr ?_;(case hd=>rfl);(case hg=>rfl);(case hr=>first|(go_simp;done)|(go_simp;rfl));intro aX hg w6 hbox hb;have l:=a_ (blk_below (g:=aB) (o:=.cells #[.string c] 9 (0,0)) (q1_ aA.out) hb);have T:=a_ (below_step t77_ hb);have U:=a_ (hbox);have a6:=a_ ((by rw [hg];exact (below_size t77_):w.heap.size≤aX));have bS:=a_ ((by rw [hg];exact (below_size t77_):w.heap.size≤aX));have bT:=a_ ((by rw [hg];exact Nat.ne_of_lt (blk_lt (g:=aB) (o:=.cells #[.string c] 9 (0,0)) (q1_ aA.out)):aB≠aX));have bU:=a_ ((by rw [hg];exact Nat.ne_of_gt (blk_lt (g:=aB) (o:=.cells #[.string c] 9 (0,0)) (q1_ aA.out)):aX≠aB));clear aA;clear HB;have aA:=l;have HB:=T;have ao:=U;have bv:=a6;have bK:=bS;have bz:=bT;have c8:=bU;clear l T U a6 bS bT bU;clear hb hbox hg)|((with_reducible refine gate_callee (f:=77) rfl ?_);refine goesL_ (some 9) rfl rfl Try.func77 t17_ rfl #[.slice u b.length v,.func (.func 108) #[] #[.pointer (some ⟨aB,0,none⟩),.pointer (some ⟨aX,0,none⟩)]] rfl t2_ ?_;(with_reducible refine (impl_Valve_77_c108.calls k _ _ b _ 1 [c] _ 1 [s] am _ ?Z1 ?Z2 ?Z3 ?Z4 ?Z5 ?Z6 A4.out).mono ?_);(case Z1=>exact qc_ (Kd.C_below J.out HB.out));(case Z2=>exact aC.out);(case Z3=>exact Kd.C_one (d:=Kd.string) (rfl) (cells_blk (cs:=#[.string c]) (t:=9) (q1_ aA.out)));(case Z4=>exact Nat.le_refl _);(case Z5=>exact Kd.C_one (d:=Kd.bool) (rfl) (cells_blk (cs:=#[.bool s]) (t:=4) (q1_ ao.out)));(case Z6=>exact Nat.le_refl _);rintro e w7 ⟨rfl,hb⟩;refine ⟨_,rfl,?_⟩;have l:=a_ (blk_below (g:=aB) (o:=.cells #[.string c] 9 (0,0)) (q1_ aA.out) hb);have T:=a_ (blk_below (g:=aX) (o:=.cells #[.bool s] 4 (0,0)) (q1_ ao.out) hb);have U:=a_ (below_step (by repeat (first|(with_reducible first|exact HB.out|apply below_alloc|apply pw_below_drewN|apply below_drew1|refine below_set ?_ GE360.out|refine below_set ?_ bK.out)|exact HB.out)) hb);clear aA;clear ao;clear HB;have aA:=l;have ao:=T;have HB:=U;clear l T U;(try clear hb);(try clear hb2);(try clear hk);(try clear hi)));go_ret
 exact ⟨t3_,(by repeat (first|(with_reducible first|exact HB.out|apply below_alloc|apply pw_below_drewN|apply below_drew1|refine below_set ?_ GE360.out|refine below_set ?_ bK.out)|exact HB.out))⟩

-- function 151 is told with the one that calls it

-- function 141 is told with the one that calls it

-- function 135 is told with the one that calls it

-- function 146 is told with the one that calls it

-- function 136 is told with the one that calls it

-- function 144 is told with the one that calls it

-- function 145 is told with the one that calls it

-- function 129 is told with the one that calls it

-- function 147 is told with the one that calls it

-- function 148 is told with the one that calls it

-- function 137 is told with the one that calls it

-- function 152 is told with the one that calls it

-- function 150 is told with the one that calls it

-- function 149 is told with the one that calls it

-- function 138 is told with the one that calls it

-- function 139 is told with the one that calls it

-- function 140 is told with the one that calls it

-- function 142 is told with the one that calls it

-- function 143 is told with the one that calls it

-- function 128 is told with the one that calls it

def lsort__ren:Go.Shelf.Ren:=⟨fun|5=>102|8=>129|7=>128|19=>144|20=>145|10=>135|11=>136|12=>137|13=>138|14=>139|15=>140|16=>141|17=>142|18=>143|30=>146|31=>147|32=>148|33=>149|34=>150|35=>151|40=>152|n=>n,fun|23=>22|25=>2|3=>3|32=>156|22=>22|0=>0|44=>170|46=>140|4=>4|36=>162|35=>161|41=>167|5=>5|9=>9|53=>172|57=>176|63=>178|64=>179|n=>n,fun|n=>n⟩
theorem lsort_:Go.Proofs.SlLaysM.n5 Try.prog lsort__ren:={
  mixed:=by kernel_rfl
  f5:=⟨Try.f102.name,t33_,Try.func102.trans (congrArg some t17_)⟩
  f7:=⟨Try.f128.name,t33_,Try.func128.trans (congrArg some t17_)⟩
  f8:=Try.func129.trans (congrArg some t17_)
  f10:=⟨Try.f135.name,t33_,Try.func135.trans (congrArg some t17_)⟩
  f11:=⟨Try.f136.name,t33_,Try.func136.trans (congrArg some t17_)⟩
  f12:=⟨Try.f137.name,t33_,Try.func137.trans (congrArg some t17_)⟩
  f13:=⟨Try.f138.name,t33_,Try.func138.trans (congrArg some t17_)⟩
  f14:=⟨Try.f139.name,t33_,Try.func139.trans (congrArg some t17_)⟩
  f15:=⟨Try.f140.name,t33_,Try.func140.trans (congrArg some t17_)⟩
  f16:=⟨Try.f141.name,t33_,Try.func141.trans (congrArg some t17_)⟩
  f17:=⟨Try.f142.name,t33_,Try.func142.trans (congrArg some t17_)⟩
  f18:=⟨Try.f143.name,t33_,Try.func143.trans (congrArg some t17_)⟩
  f19:=Try.func144.trans (congrArg some t17_)
  f20:=Try.func145.trans (congrArg some t17_)
  f30:=⟨Try.f146.name,t33_,Try.func146.trans (congrArg some t17_)⟩
  f31:=Try.func147.trans (congrArg some t17_)
  f32:=Try.func148.trans (congrArg some t17_)
  f33:=⟨Try.f149.name,t33_,Try.func149.trans (congrArg some t17_)⟩
  f34:=⟨Try.f150.name,t33_,Try.func150.trans (congrArg some t17_)⟩
  f35:=⟨Try.f151.name,t33_,Try.func151.trans (congrArg some t17_)⟩
  f40:=⟨Try.f152.name,t33_,Try.func152.trans (congrArg some t17_)⟩
  t0:=Try.underlying0
  a0:=Try.isAgg0
  z0:=Try.sizeOf0
  v0:=Try.zeroValue0
  t3:=Try.underlying3
  a3:=Try.isAgg3
  z3:=Try.sizeOf3
  v3:=Try.zeroValue3
  t4:=Try.underlying4
  a4:=Try.isAgg4
  z4:=Try.sizeOf4
  v4:=Try.zeroValue4
  t5:=Try.underlying5
  a5:=Try.isAgg5
  z5:=Try.sizeOf5
  v5:=Try.zeroValue5
  t9:=Try.underlying9
  a9:=Try.isAgg9
  z9:=Try.sizeOf9
  v9:=Try.zeroValue9
  t22:=Try.underlying22
  a22:=Try.isAgg22
  z22:=Try.sizeOf22
  v22:=Try.zeroValue22
  t23:=Try.underlying22
  a23:=Try.isAgg22
  z23:=Try.sizeOf22
  v23:=Try.zeroValue22
  t25:=Try.underlying2
  a25:=Try.isAgg2
  z25:=Try.sizeOf2
  v25:=Try.zeroValue2
  t32:=Try.underlying156
  a32:=Try.isAgg156
  z32:=Try.sizeOf156
  v32:=Try.zeroValue156
  t35:=Try.underlying161
  a35:=Try.isAgg161
  z35:=Try.sizeOf161
  v35:=Try.zeroValue161
  t36:=Try.underlying162
  a36:=Try.isAgg162
  z36:=Try.sizeOf162
  v36:=Try.zeroValue162
  t41:=Try.underlying167
  a41:=Try.isAgg167
  z41:=Try.sizeOf167
  v41:=Try.zeroValue167
  t44:=Try.underlying170
  a44:=Try.isAgg170
  z44:=Try.sizeOf170
  v44:=Try.zeroValue170
  t46:=Try.underlying140
  a46:=Try.isAgg140
  z46:=Try.sizeOf140
  v46:=Try.zeroValue140
  t53:=Try.underlying172
  a53:=Try.isAgg172
  z53:=Try.sizeOf172
  v53:=Try.zeroValue172
  t57:=Try.underlying176
  a57:=Try.isAgg176
  z57:=Try.sizeOf176
  v57:=Try.zeroValue176
  t63:=Try.underlying178
  a63:=Try.isAgg178
  z63:=Try.sizeOf178
  v63:=Try.zeroValue178
  t64:=Try.underlying179
  a64:=Try.isAgg179
  z64:=Try.sizeOf179
  v64:=Try.zeroValue179 }

/-- slices.Sort: the row in order. -/
def slices_Sort_int64_int64.f (b:List Int):Option (List Int):=if b.length<4611686018427387904 then some (b.mergeSort fun x y=>decide (x≤y)) else none
theorem slices_Sort_int64_int64.calls (P0_:Nat→Prop) (u9000_:Value) (b:List Int) (r:List Int) (w0 w:World) (hB:Below w0.heap.size w0 w) (bP:Kd.R (Kd.int .i64) 2 w w0.heap.size P0_ u9000_ b) (h:slices_Sort_int64_int64.f b=some r):
    Calls Try.prog 102 #[u9000_] w fun e w'=>e=.returned (.tuple #[])∧Kd.R (Kd.int .i64) 2 w' w0.heap.size (fun k_=>(P0_ k_∨w.heap.size≤k_)) u9000_ r∧Below w0.heap.size w0 w'∧Kept w w' (fun k_=>P0_ k_):=by
  unfold slices_Sort_int64_int64.f at h
  by_cases hs:b.length<4611686018427387904
  · rw [if_pos hs] at h
    obtain rfl:=Option.some.inj h;have hl:(b.mergeSort fun x y=>decide (x≤y)).length=b.length:=List.length_mergeSort b;have hok:=bP.1;have ho:w.ownsRow w0.heap.size 2 1 u9000_ b.length (encs (Value.int .i64) b):=Kd.own_of_R bP;obtain ⟨hlen,hrow⟩:=ho;rcases hrow with ⟨rfl,h0⟩|⟨g,cap,cur,rfl,hg,hblk,hn,hcap,hcur,htake⟩
    · have bj:b=[]:=List.length_eq_zero_iff.1 h0
      subst bj;refine (AnyM.slices_Sort_int_none lsort_ none 0 w).mono ?_;rintro e w' ⟨rfl,rfl⟩;exact ⟨rfl,(by rw [List.mergeSort_nil];exact Kd.R_nil _ _ _ _ _),hB,Kept.refl _ _⟩
    · have hgs:g<w.heap.size:=(Array.getElem?_eq_some_iff.1 hblk).1
      have ht:cur.toList.take b.length=b.map (Value.int .i64):=(by rw [Nat.mul_one] at htake;exact htake);refine (AnyM.slices_Sort_int lsort_ g 0 cap b w (holds_of_blockI hblk ht) hgs hs).mono ?_;rintro e w' ⟨rfl,n,os,rfl⟩;have hgr:w.grownBy (Sort.grow (Sort.putRow (Value.int .i64) (Sort.ahead w n) g 0 (b.mergeSort fun x y=>decide (x≤y)).toArray) os) (some g):=grownBy_sortedI _;have hw:=ownsRow_sortedI (n:=n) (os:=os) hl hg hblk hn hcap hcur;refine ⟨rfl,?_,hB.grown hgr hB.size (fun k e=>by cases e;exact hg),⟨hgr.size,fun i hi hni=>hgr.block i hi (fun e=>hni (hok i e.symm))⟩⟩;refine Kd.R_of_own ?_ (fun k hk=>Or.inl (hok k hk));rw [hl];exact hw
  · rw [if_neg hs] at h;cases h

end Go.Proofs.Ytheokilgacmlmaa.PFnExactPipesBehind
