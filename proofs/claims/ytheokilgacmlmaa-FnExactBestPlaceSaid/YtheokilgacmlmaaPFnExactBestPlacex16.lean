-- written by wip/xprint.py, a program of this session, for this claim; not trusted: Lean checks it.
import Derived.Shelf.SortM.Plain
import Derived.Shelf.SortM.SortNone
import Derived.Shelf.SlicesG.CompactI
import Derived.Sort.OwnSortedInts
import Derived.Test.YtheokilgacmlmaaPFnExactBestPlacex0
namespace Go.Proofs.Ytheokilgacmlmaa.PFnExactBestPlace
open Go.RowKit Go.Proofs.YtheokilgacmlmaaW.PrintWords Go.Proofs.YtheokilgacmlmaaW.PrintLast Go.Proofs.YtheokilgacmlmaaW.PrintMore
attribute [local go_sem] leq_less_ max2_int min2_int max_two min_two max_three min_three max_four min_four   -- for this text's walks alone
set_option linter.unusedVariables false
set_option linter.unusedSimpArgs false
set_option maxHeartbeats 8000000
set_option maxRecDepth 100000
def slices_Index_int64_int64.l0:Nat→List Int→Int→Int→Int→Option (Int)
 |0,_,_,_,_=>none
 |k+1,X,x1,x7,z=>if z<x7 then (if 0≤z then (if z<(X.length:Int) then (if x1=(rd X z) then (some z) else (slices_Index_int64_int64.l0 k X x1 x7 (wrap64 (z+1)))) else (none)) else (none)) else (some (-1))
def slices_Index_int64_int64.f (k:Nat) (b:List Int) (c:Int):Option (Int):=slices_Index_int64_int64.l0 k b c (b.length:Int) 0
theorem slices_Index_int64_int64.mono_l:∀ k,(∀ y0 y1 y2 y3,LeO (slices_Index_int64_int64.l0 k y0 y1 y2 y3) (slices_Index_int64_int64.l0 (k+1) y0 y1 y2 y3))
 |0=>fun _ _ _ _ r h=>by simp [slices_Index_int64_int64.l0] at h
 |k+1=>by
  have a6:=slices_Index_int64_int64.mono_l k
  ·intro y0 y1 y2 y3
   unfold slices_Index_int64_int64.l0
   with_reducible repeat' first|exact a6 _ _ _ _|exact LeO.refl _|exact LeO.none _|refine LeO.ite ?_ ?_|refine LeO.bind ?_ (fun _=>?_)
theorem slices_Index_int64_int64.mono:∀ a0 c k,LeO (slices_Index_int64_int64.f k a0 c) (slices_Index_int64_int64.f (k+1) a0 c):=by
 intro a0 c k;have a6:=slices_Index_int64_int64.mono_l k;unfold slices_Index_int64_int64.f
 with_reducible repeat' first|exact a6 _ _ _ _|exact LeO.refl _|exact LeO.none _|refine LeO.ite ?_ ?_|refine LeO.bind ?_ (fun _=>?_)
theorem slices_Index_int64_int64.calls (k:Nat) (s:Option Addr) (u:Nat) (b:List Int) (c:Int) (r:Int) (w:World) (D:Kd.C (Kd.int .i64) w s b.length b) (B:b.length≤u) (h:slices_Index_int64_int64.f k b c=some r):
  Calls Try.prog 103 #[.slice s b.length u,.int .i64 c] w fun e w'=>e=.returned (.int .i64 r)∧Drawn0 w w':=by
 have M:=a_ D;have Y:=a_ B;clear D B;have H:(slices_Index_int64_int64.l0 k b c (b.length:Int) 0)=some r:=h;clear h;have H':=a_ H;clear H;go_enter Try.func103,Try.ntmps103;go_wp2;go_loopg [8] k (fun kq v8 w'=>∃ (j:Int),v8=.int .i64 j∧Aside0 (slices_Index_int64_int64.l0 kq b c (b.length:Int) j=some r)∧Aside0 (kq≤k)∧Drawn0 w w')
 case atStart=>exact ⟨(0),t5_,H',⟨Nat.le_refl _⟩,t22_⟩
 case round=>
  clear H';(try clear c1);(try clear p2);obtain ⟨j,rfl,HA,HK1,⟨m1,rfl⟩⟩:=hrel;cases gk with
  |zero=>exact absurd HA.out (by simp [slices_Index_int64_int64.l0])
  |succ k1=>
   have H:=HA.out;clear HA;simp only [slices_Index_int64_int64.l0] at H;by_cases J:j<(b.length:Int)
   ·rw [if_pos J] at H;have aq:decide (j<(b.length:Int))=true:=d1_ J;clear J;by_cases A:0≤j
    ·rw [if_pos A] at H;have bA:decide (0≤j)=true:=d1_ A;clear A;by_cases v:j<(b.length:Int)
     ·rw [if_pos v] at H;have ar:decide (j<(b.length:Int))=true:=d1_ v;clear v;by_cases L:c=(rd b j)
      ·rw [if_pos L] at H;have bB:(c==(rd b j))=true:=b1_ L;have bC:(c !=(rd b j))=false:=b4_ L;clear L;obtain rfl:=Option.some.inj H;have a7:0≤(j:Int):=od_;have aB:j<(b.length:Int):=od_;obtain ⟨bR,au,ba⟩:=Kd.at_int M.out j a7 aB;cases au;replace a7:=eq_true a7;replace aB:=eq_true aB;go_wp2;go_ret
       exact ⟨t5_,t22_⟩
      ·rw [if_neg L] at H;have bB:(c==(rd b j))=false:=b2_ L;have bC:(c !=(rd b j))=true:=b3_ L;have H':=a_ H;clear H;have a7:0≤(j:Int):=od_;have aB:j<(b.length:Int):=od_;obtain ⟨bR,au,ba⟩:=Kd.at_int M.out j a7 aB;cases au;replace a7:=eq_true a7;replace aB:=eq_true aB;go_wp2;go_roundg k1
       case measure=>have:=HK1.out;omega
       case rel=>exact ⟨(wrap64 (j+1)),t5_,H',⟨t91_⟩,t22_⟩
     ·rw [if_neg v] at H;exact absurd H t90_
    ·rw [if_neg A] at H;exact absurd H t90_
   ·rw [if_neg J] at H;have aq:decide (j<(b.length:Int))=false:=d2_ J;clear J;obtain rfl:=Option.some.inj H;go_wp2;go_ret
    exact ⟨t5_,t22_⟩

def slices_Contains_int64_int64.f (k:Nat) (b:List Int) (c:Int):Option (Bool):=(slices_Index_int64_int64.f k b c).bind fun aZ=>(some (decide (aZ≥0)))
theorem slices_Contains_int64_int64.mono:∀ a0 c k,LeO (slices_Contains_int64_int64.f k a0 c) (slices_Contains_int64_int64.f (k+1) a0 c):=by
 intro a0 c k;unfold slices_Contains_int64_int64.f
 with_reducible repeat' first|exact slices_Index_int64_int64.mono _ _ _|exact LeO.refl _|exact LeO.none _|refine LeO.ite ?_ ?_|refine LeO.bind ?_ (fun _=>?_)
theorem slices_Contains_int64_int64.calls (k:Nat) (s:Option Addr) (u:Nat) (b:List Int) (c:Int) (r:Bool) (w:World) (D:Kd.C (Kd.int .i64) w s b.length b) (B:b.length≤u) (h:slices_Contains_int64_int64.f k b c=some r):
  Calls Try.prog 71 #[.slice s b.length u,.int .i64 c] w fun e w'=>e=.returned (.bool r)∧Drawn0 w w':=by
 have M:=a_ D;have Y:=a_ B;clear D B;have H:((slices_Index_int64_int64.f k b c).bind fun aZ=>(some (decide (aZ≥0))))=some r:=h;clear h;replace H:=be_ H;obtain ⟨aZ,aO,H⟩:=H;have A3:=a_ aO;clear aO;obtain rfl:=Option.some.inj H;go_enter Try.func71,Try.ntmps71;go_wp2_with (first|((with_reducible refine gate_callee (f:=103) rfl ?_);refine goesL_ (some 7) rfl rfl Try.func103 t14_ rfl #[.slice s b.length u,.int .i64 c] rfl t2_ ?_;(with_reducible refine (slices_Index_int64_int64.calls k _ _ b c aZ _ ?aj ?ak A3.out).mono ?_);(case aj=>exact qc_ M.out);(case ak=>exact Y.out);rintro e w' ⟨rfl,⟨nd,rfl⟩⟩;refine ⟨_,rfl,?_⟩));go_ret
 exact ⟨t5_,t22_⟩

def impl_stands_1.f (aP:ByteArray) (K:ByteArray) (Z:Bool) (l1:List ByteArray) (E:List Bool):Option (Bool):=if 0<(l1.length:Int) then (if K.toList=(rdOf ByteArray.empty l1 0).toList then (if 0<(E.length:Int) then (some (Z==(rdOf false E 0))) else (none)) else (some false)) else (none)
theorem impl_stands_1.calls (aP:ByteArray) (K:ByteArray) (Z:Bool) (A1:Option Addr) (c1:Nat) (l1:List ByteArray) (A2:Option Addr) (c2:Nat) (E:List Bool) (r:Bool) (w:World) (bG:Kd.C Kd.string w A1 l1.length l1) (bD:l1.length≤c1) (bH:Kd.C Kd.bool w A2 E.length E) (bE:E.length≤c2) (h:impl_stands_1.f aP K Z l1 E=some r):
  Calls Try.prog 108 #[.agg #[.string aP,.string K,.bool Z],.pointer A1,.pointer A2] w fun e w'=>e=.returned (.bool r)∧Below w.heap.size w w':=by
 have bZ:=Try.underlying51;have HR1:=a_ bG;have bj:=a_ bD;clear bG bD;have bQ:=a_ bH;have bk:=a_ bE;clear bH bE;have HB:=a_ (Below.refl w.heap.size w);have H:(if 0<(l1.length:Int) then (if K.toList=(rdOf ByteArray.empty l1 0).toList then (if 0<(E.length:Int) then (some (Z==(rdOf false E 0))) else (none)) else (some false)) else (none))=some r:=h;clear h;by_cases A:0<(l1.length:Int)
 ·rw [if_pos A] at H;have bA:decide (0<(l1.length:Int))=true:=d1_ A;have bo:decide (0<l1.length)=true:=decide_eq_true t33_;clear A;by_cases v:K.toList=(rdOf ByteArray.empty l1 0).toList
  ·rw [if_pos v] at H;have ar:(K.toList==(rdOf ByteArray.empty l1 0).toList)=true:=b1_ v;have bV:(K.toList !=(rdOf ByteArray.empty l1 0).toList)=false:=b4_ v;clear v;by_cases L:0<(E.length:Int)
   ·rw [if_pos L] at H;have bB:decide (0<(E.length:Int))=true:=d1_ L;have bC:decide (0<E.length)=true:=decide_eq_true t33_;clear L;obtain rfl:=Option.some.inj H;go_enter Try.func108,Try.ntmps108;go_wp2_with (first|((with_reducible refine gate_dst (N:=3) rfl ?_);refine box_event ?hg (N:=3) ?hd (cs:=#[.string aP,.string K,.bool Z]) (t:=51) ?hr ?_;(case hd=>rfl);(case hg=>rfl);(case hr=>first|(go_simp;done)|(go_simp;rfl));intro aQ hg w7 hbox hb;have l:=a_ (below_step t1_ hb);have G:=a_ (hbox);have I:=a_ ((by rw [hg];exact (below_size t1_):w.heap.size≤aQ));have T:=a_ ((by rw [hg];exact (below_size t1_):w.heap.size≤aQ));clear HB;have HB:=l;have an:=G;have bP:=I;have ao:=T;clear l G I T;clear hb hbox hg;have ⟨bs,bu,bv,c8,c9,cA⟩:=bc3_ an.out;have a8:0≤(0:Int):=t33_;have aC:0<(l1.length:Int):=od_;obtain ⟨bS,av,O⟩:=Kd.at_string HR1.out 0 a8 aC;cases av;have bc:(0<l1.length)=True:=eq_true t33_;(try rw [show ((0:Int)).toNat=0 from rfl] at O);(try rw [Addr.add_zero'] at O);replace O:=(HB.out.cell (World.block_lt_of_cell? w _ O)).trans O;replace a8:=eq_true a8;replace aC:=eq_true aC;have ax:0≤(0:Int):=t33_;have ay:0<(E.length:Int):=od_;obtain ⟨bn,bW,aV⟩:=Kd.at_bool bQ.out 0 ax ay;cases bW;have cC:(0<E.length)=True:=eq_true t33_;(try rw [show ((0:Int)).toNat=0 from rfl] at aV);(try rw [Addr.add_zero'] at aV);replace aV:=(HB.out.cell (World.block_lt_of_cell? w _ aV)).trans aV;replace ax:=eq_true ax;replace ay:=eq_true ay));go_ret
    exact ⟨t3_,(by repeat (first|(with_reducible first|exact HB.out|apply below_alloc|apply pw_below_drewN|apply below_drew1|refine below_set ?_ ao.out)|exact HB.out))⟩
   ·rw [if_neg L] at H;exact absurd H t90_
  ·rw [if_neg v] at H;have ar:(K.toList==(rdOf ByteArray.empty l1 0).toList)=false:=b2_ v;have bV:(K.toList !=(rdOf ByteArray.empty l1 0).toList)=true:=b3_ v;obtain rfl:=Option.some.inj H;go_enter Try.func108,Try.ntmps108;go_wp2_with (first|((with_reducible refine gate_dst (N:=3) rfl ?_);refine box_event ?hg (N:=3) ?hd (cs:=#[.string aP,.string K,.bool Z]) (t:=51) ?hr ?_;(case hd=>rfl);(case hg=>rfl);(case hr=>first|(go_simp;done)|(go_simp;rfl));intro aQ hg w9 hbox hb;have l:=a_ (below_step t1_ hb);have G:=a_ (hbox);have I:=a_ ((by rw [hg];exact (below_size t1_):w.heap.size≤aQ));have T:=a_ ((by rw [hg];exact (below_size t1_):w.heap.size≤aQ));clear HB;have HB:=l;have an:=G;have bP:=I;have ao:=T;clear l G I T;clear hb hbox hg;have ⟨bp,bq,br,bw,bx,bz⟩:=bc3_ an.out;have a8:0≤(0:Int):=t33_;have aC:0<(l1.length:Int):=od_;obtain ⟨bS,av,O⟩:=Kd.at_string HR1.out 0 a8 aC;cases av;have bc:(0<l1.length)=True:=eq_true t33_;(try rw [show ((0:Int)).toNat=0 from rfl] at O);(try rw [Addr.add_zero'] at O);replace O:=(HB.out.cell (World.block_lt_of_cell? w _ O)).trans O;replace a8:=eq_true a8;replace aC:=eq_true aC));go_ret
   exact ⟨t3_,(by repeat (first|(with_reducible first|exact HB.out|apply below_alloc|apply pw_below_drewN|apply below_drew1|refine below_set ?_ ao.out)|exact HB.out))⟩
 ·rw [if_neg A] at H;exact absurd H t90_

def impl_Valve_107_c108.l0:Nat→List (S51)→Int→Int→List ByteArray→List Bool→Option (Int)
 |0,_,_,_,_,_=>none
 |k+1,X,x7,z,bM,bN=>if z<x7 then (if 0≤z then (if z<(X.length:Int) then ((impl_stands_1.f ((rd_T51 X z).f0) ((rd_T51 X z).f1) ((rd_T51 X z).f2) bM bN).bind fun b1=>(if b1=true then (some z) else (impl_Valve_107_c108.l0 k X x7 (wrap64 (z+1)) bM bN))) else (none)) else (none)) else (some (-1))
def impl_Valve_107_c108.f (k:Nat) (b:List (S51)) (m:List ByteArray) (q:List Bool):Option (Int):=impl_Valve_107_c108.l0 k b (b.length:Int) 0 m q
theorem impl_Valve_107_c108.mono_l:∀ k,(∀ y0 y1 y2 y3 y4,LeO (impl_Valve_107_c108.l0 k y0 y1 y2 y3 y4) (impl_Valve_107_c108.l0 (k+1) y0 y1 y2 y3 y4))
 |0=>fun _ _ _ _ _ r h=>by simp [impl_Valve_107_c108.l0] at h
 |k+1=>by
  have a6:=impl_Valve_107_c108.mono_l k
  ·intro y0 y1 y2 y3 y4
   unfold impl_Valve_107_c108.l0
   with_reducible repeat' first|exact a6 _ _ _ _ _|exact LeO.refl _|exact LeO.none _|refine LeO.ite ?_ ?_|refine LeO.bind ?_ (fun _=>?_)
theorem impl_Valve_107_c108.mono:∀ a0 c a2 k,LeO (impl_Valve_107_c108.f k a0 c a2) (impl_Valve_107_c108.f (k+1) a0 c a2):=by
 intro a0 c a2 k;have a6:=impl_Valve_107_c108.mono_l k;unfold impl_Valve_107_c108.f
 with_reducible repeat' first|exact a6 _ _ _ _ _|exact LeO.refl _|exact LeO.none _|refine LeO.ite ?_ ?_|refine LeO.bind ?_ (fun _=>?_)
theorem impl_Valve_107_c108.calls (k:Nat) (s:Option Addr) (u:Nat) (b:List (S51)) (aJ:Option Addr) (aL:Nat) (m:List ByteArray) (aK:Option Addr) (aM:Nat) (q:List Bool) (r:Int) (w:World) (D:Kd.C k51 w s b.length b) (B:b.length≤u) (aT:Kd.C Kd.string w aJ m.length m) (aR:m.length≤aL) (aU:Kd.C Kd.bool w aK q.length q) (aS:q.length≤aM) (h:impl_Valve_107_c108.f k b m q=some r):
  Calls Try.prog 107 #[.slice s b.length u,.func (.func 108) #[] #[.pointer aJ,.pointer aK]] w fun e w'=>e=.returned (.int .i64 r)∧Below w.heap.size w w':=by
 have bZ:=Try.underlying51;have M:=a_ D;have Y:=a_ B;clear D B;have ag:=a_ aT;have ae:=a_ aR;clear aT aR;have ah:=a_ aU;have af:=a_ aS;clear aU aS;have HB:=a_ (Below.refl w.heap.size w);have H:(impl_Valve_107_c108.l0 k b (b.length:Int) 0 m q)=some r:=h;clear h;have H':=a_ H;clear H;go_enter Try.func107,Try.ntmps107;go_wp2;go_loopg [8] k (fun kq v8 w'=>∃ (j:Int),v8=.int .i64 j∧Aside0 (impl_Valve_107_c108.l0 kq b (b.length:Int) j m q=some r)∧Aside0 (kq≤k)∧Aside0 (Below w.heap.size w w'))
 case atStart=>exact ⟨(0),t5_,H',⟨Nat.le_refl _⟩,⟨t1_⟩⟩
 case round=>
  clear H';(try clear c1);(try clear p2);obtain ⟨j,rfl,HA,HK1,HB⟩:=hrel;cases gk with
  |zero=>exact absurd HA.out (by simp [impl_Valve_107_c108.l0])
  |succ k1=>
   have H:=HA.out;clear HA;simp only [impl_Valve_107_c108.l0] at H;by_cases J:j<(b.length:Int)
   ·rw [if_pos J] at H;have aq:decide (j<(b.length:Int))=true:=d1_ J;clear J;by_cases A:0≤j
    ·rw [if_pos A] at H;have bA:decide (0≤j)=true:=d1_ A;clear A;by_cases v:j<(b.length:Int)
     ·rw [if_pos v] at H;have ar:decide (j<(b.length:Int))=true:=d1_ v;clear v;replace H:=be_ H;obtain ⟨b1,b8,H⟩:=H;have A6:=a_ b8;clear b8;by_cases c7:b1=true
      ·subst c7;replace H:=(if_pos rfl).symm.trans H;obtain rfl:=Option.some.inj H;have aA:0≤(j:Int):=od_;have aD:j<(b.length:Int):=od_;obtain ⟨bT,aw,aW,aX,aY⟩:=at_T51 M.out j aA aD;cases aw;replace aW:=hb_ HB aW;replace aX:=hb_ HB aX;replace aY:=hb_ HB aY;replace aA:=eq_true aA;replace aD:=eq_true aD;go_wp2_with (first|(go_at_call 108;(with_reducible refine (impl_stands_1.calls ((rd_T51 b j).f0) ((rd_T51 b j).f1) ((rd_T51 b j).f2) _ aL m _ aM q true _ ?aj ?ak ?az ?b0 A6.out).mono ?_);(case aj=>exact qc_ (Kd.C_below ag.out HB.out));(case ak=>exact ae.out);(case az=>exact qc_ (Kd.C_below ah.out HB.out));(case b0=>exact af.out);rintro e w8 ⟨rfl,hb⟩;have l:=a_ (below_step t1_ hb);clear HB;have HB:=l;clear l;(try clear hb);(try clear hb2);(try clear hk);(try clear hi)));go_ret
       exact ⟨t3_,t1_⟩
      ·replace c7:=Bool.eq_false_iff.mpr c7;subst c7;replace H:=(if_neg (show ¬ (false=true) by decide)).symm.trans H;have H':=a_ H;clear H;have aA:0≤(j:Int):=od_;have aD:j<(b.length:Int):=od_;obtain ⟨bT,aw,aW,aX,aY⟩:=at_T51 M.out j aA aD;cases aw;replace aW:=hb_ HB aW;replace aX:=hb_ HB aX;replace aY:=hb_ HB aY;replace aA:=eq_true aA;replace aD:=eq_true aD;go_wp2_with (first|(go_at_call 108;(with_reducible refine (impl_stands_1.calls ((rd_T51 b j).f0) ((rd_T51 b j).f1) ((rd_T51 b j).f2) _ aL m _ aM q false _ ?aj ?ak ?az ?b0 A6.out).mono ?_);(case aj=>exact qc_ (Kd.C_below ag.out HB.out));(case ak=>exact ae.out);(case az=>exact qc_ (Kd.C_below ah.out HB.out));(case b0=>exact af.out);rintro e w9 ⟨rfl,hb⟩;have l:=a_ (below_step t1_ hb);clear HB;have HB:=l;clear l;(try clear hb);(try clear hb2);(try clear hk);(try clear hi)));go_roundg k1
       case measure=>have:=HK1.out;omega
       case rel=>exact ⟨(wrap64 (j+1)),t5_,H',⟨t91_⟩,⟨t1_⟩⟩
     ·rw [if_neg v] at H;exact absurd H t90_
    ·rw [if_neg A] at H;exact absurd H t90_
   ·rw [if_neg J] at H;have aq:decide (j<(b.length:Int))=false:=d2_ J;clear J;obtain rfl:=Option.some.inj H;go_wp2;go_ret
    exact ⟨t3_,t1_⟩

def impl_Valve_77_c108.f (k:Nat) (b:List (S51)) (m:List ByteArray) (q:List Bool):Option (Bool):=(impl_Valve_107_c108.f k b m q).bind fun aa=>(some (decide (aa≥0)))
theorem impl_Valve_77_c108.mono:∀ a0 c a2 k,LeO (impl_Valve_77_c108.f k a0 c a2) (impl_Valve_77_c108.f (k+1) a0 c a2):=by
 intro a0 c a2 k;unfold impl_Valve_77_c108.f
 with_reducible repeat' first|exact impl_Valve_107_c108.mono _ _ _ _|exact LeO.refl _|exact LeO.none _|refine LeO.ite ?_ ?_|refine LeO.bind ?_ (fun _=>?_)
theorem impl_Valve_77_c108.calls (k:Nat) (s:Option Addr) (u:Nat) (b:List (S51)) (aJ:Option Addr) (aL:Nat) (m:List ByteArray) (aK:Option Addr) (aM:Nat) (q:List Bool) (r:Bool) (w:World) (D:Kd.C k51 w s b.length b) (B:b.length≤u) (aT:Kd.C Kd.string w aJ m.length m) (aR:m.length≤aL) (aU:Kd.C Kd.bool w aK q.length q) (aS:q.length≤aM) (h:impl_Valve_77_c108.f k b m q=some r):
  Calls Try.prog 77 #[.slice s b.length u,.func (.func 108) #[] #[.pointer aJ,.pointer aK]] w fun e w'=>e=.returned (.bool r)∧Below w.heap.size w w':=by
 have M:=a_ D;have Y:=a_ B;clear D B;have ag:=a_ aT;have ae:=a_ aR;clear aT aR;have ah:=a_ aU;have af:=a_ aS;clear aU aS;have HB:=a_ (Below.refl w.heap.size w);have H:((impl_Valve_107_c108.f k b m q).bind fun aa=>(some (decide (aa≥0))))=some r:=h;clear h;replace H:=be_ H;obtain ⟨aa,aO,H⟩:=H;have A3:=a_ aO;clear aO;obtain rfl:=Option.some.inj H;go_enter Try.func77,Try.ntmps77;go_wp2_with (first|((with_reducible refine gate_callee (f:=107) rfl ?_);refine goesL_ (some 7) rfl rfl Try.func107 t14_ rfl #[.slice s b.length u,.func (.func 108) #[] #[.pointer aJ,.pointer aK]] rfl t2_ ?_;(with_reducible refine (impl_Valve_107_c108.calls k _ _ b _ aL m _ aM q aa _ ?aj ?ak ?az ?b0 ?bd ?be A3.out).mono ?_);(case aj=>exact qc_ M.out);(case ak=>exact Y.out);(case az=>exact qc_ ag.out);(case b0=>exact ae.out);(case bd=>exact qc_ ah.out);(case be=>exact af.out);rintro e w4 ⟨rfl,hb⟩;refine ⟨_,rfl,?_⟩;have l:=a_ (below_step t1_ hb);clear HB;have HB:=l;clear l;(try clear hb);(try clear hb2);(try clear hk);(try clear hi)));go_ret
 exact ⟨t3_,t1_⟩

def impl_stands.f (k:Nat) (b:List (S51)) (c:ByteArray) (a2:Bool):Option (Bool):=(impl_Valve_77_c108.f k b [c] [a2]).bind fun ab=>(some ab)
theorem impl_stands.mono:∀ a0 c a2 k,LeO (impl_stands.f k a0 c a2) (impl_stands.f (k+1) a0 c a2):=by
 intro a0 c a2 k;unfold impl_stands.f
 with_reducible repeat' first|exact impl_Valve_77_c108.mono _ _ _ _|exact LeO.refl _|exact LeO.none _|refine LeO.ite ?_ ?_|refine LeO.bind ?_ (fun _=>?_)
theorem impl_stands.calls (k:Nat) (s:Option Addr) (u:Nat) (b:List (S51)) (c:ByteArray) (a2:Bool) (r:Bool) (w:World) (D:Kd.C k51 w s b.length b) (B:b.length≤u) (h:impl_stands.f k b c a2=some r):
  Calls Try.prog 79 #[.slice s b.length u,.string c,.bool a2] w fun e w'=>e=.returned (.bool r)∧Below w.heap.size w w':=by
 have M:=a_ D;have Y:=a_ B;clear D B;have HB:=a_ (Below.refl w.heap.size w);have H:((impl_Valve_77_c108.f k b [c] [a2]).bind fun ab=>(some ab))=some r:=h;clear h;replace H:=be_ H;obtain ⟨ab,b6,H⟩:=H;have A4:=a_ b6;clear b6;obtain rfl:=Option.some.inj H;go_enter Try.func79,Try.ntmps79;go_wp2_with (first|((with_reducible refine gate_dst (N:=4) rfl ?_);refine box_event ?hg (N:=4) ?hd (cs:=#[.string c]) (t:=9) ?hr ?_;(case hd=>rfl);(case hg=>rfl);(case hr=>first|(go_simp;done)|(go_simp;rfl));intro W hg w5 hbox hb;have l:=a_ (below_step t1_ hb);have G:=a_ (hbox);have I:=a_ ((by rw [hg];exact (below_size t1_):w.heap.size≤W));have T:=a_ ((by rw [hg];exact (below_size t1_):w.heap.size≤W));clear HB;have HB:=l;have U:=G;have bh:=I;have GE399:=T;clear l G I T;clear hb hbox hg)|((with_reducible refine gate_dst (N:=5) rfl ?_);refine box_event ?hg (N:=5) ?hd (cs:=#[.bool a2]) (t:=4) ?hr ?_;(case hd=>rfl);(case hg=>rfl);(case hr=>first|(go_simp;done)|(go_simp;rfl));intro aN hg w6 hbox hb;have l:=a_ (blk_below (g:=W) (o:=.cells #[.string c] 9 (0,0)) (q1_ U.out) hb);have G:=a_ (below_step t128_ hb);have I:=a_ (hbox);have T:=a_ ((by rw [hg];exact (below_size t128_):w.heap.size≤aN));have bI:=a_ ((by rw [hg];exact (below_size t128_):w.heap.size≤aN));have bJ:=a_ ((by rw [hg];exact Nat.ne_of_lt (blk_lt (g:=W) (o:=.cells #[.string c] 9 (0,0)) (q1_ U.out)):W≠aN));have bK:=a_ ((by rw [hg];exact Nat.ne_of_gt (blk_lt (g:=W) (o:=.cells #[.string c] 9 (0,0)) (q1_ U.out)):aN≠W));clear U;clear HB;have U:=l;have HB:=G;have ad:=I;have bi:=T;have b9:=bI;have bl:=bJ;have bm:=bK;clear l G I T bI bJ bK;clear hb hbox hg)|((with_reducible refine gate_callee (f:=77) rfl ?_);refine goesL_ (some 9) rfl rfl Try.func77 t14_ rfl #[.slice s b.length u,.func (.func 108) #[] #[.pointer (some ⟨W,0,none⟩),.pointer (some ⟨aN,0,none⟩)]] rfl t2_ ?_;(with_reducible refine (impl_Valve_77_c108.calls k _ _ b _ 1 [c] _ 1 [a2] ab _ ?aj ?ak ?az ?b0 ?bd ?be A4.out).mono ?_);(case aj=>exact qc_ (Kd.C_below M.out HB.out));(case ak=>exact Y.out);(case az=>exact Kd.C_one (d:=Kd.string) (rfl) (cells_blk (cs:=#[.string c]) (t:=9) (q1_ U.out)));(case b0=>exact Nat.le_refl _);(case bd=>exact Kd.C_one (d:=Kd.bool) (rfl) (cells_blk (cs:=#[.bool a2]) (t:=4) (q1_ ad.out)));(case be=>exact Nat.le_refl _);rintro e w7 ⟨rfl,hb⟩;refine ⟨_,rfl,?_⟩;have l:=a_ (blk_below (g:=W) (o:=.cells #[.string c] 9 (0,0)) (q1_ U.out) hb);have G:=a_ (blk_below (g:=aN) (o:=.cells #[.bool a2] 4 (0,0)) (q1_ ad.out) hb);have I:=a_ (below_step (by repeat (first|(with_reducible first|exact HB.out|apply below_alloc|apply pw_below_drewN|apply below_drew1|refine below_set ?_ GE399.out|refine below_set ?_ b9.out)|exact HB.out)) hb);clear U;clear ad;clear HB;have U:=l;have ad:=G;have HB:=I;clear l G I;(try clear hb);(try clear hb2);(try clear hk);(try clear hi)));go_ret
 exact ⟨t3_,(by repeat (first|(with_reducible first|exact HB.out|apply below_alloc|apply pw_below_drewN|apply below_drew1|refine below_set ?_ GE399.out|refine below_set ?_ b9.out)|exact HB.out))⟩

-- function 151 is told with the one that calls it

-- function 141 is told with the one that calls it

-- function 135 is told with the one that calls it

-- function 146 is told with the one that calls it

-- function 136 is told with the one that calls it

-- function 144 is told with the one that calls it

-- function 145 is told with the one that calls it

-- function 129 is told with the one that calls it

-- function 147 is told with the one that calls it

-- function 148 is told with the one that calls it

-- function 137 is told with the one that calls it

-- function 152 is told with the one that calls it

-- function 150 is told with the one that calls it

-- function 149 is told with the one that calls it

-- function 138 is told with the one that calls it

-- function 139 is told with the one that calls it

-- function 140 is told with the one that calls it

-- function 142 is told with the one that calls it

-- function 143 is told with the one that calls it

-- function 128 is told with the one that calls it

def lsort__ren:Go.Shelf.Ren:=⟨fun|5=>102|8=>129|7=>128|19=>144|20=>145|10=>135|11=>136|12=>137|13=>138|14=>139|15=>140|16=>141|17=>142|18=>143|30=>146|31=>147|32=>148|33=>149|34=>150|35=>151|40=>152|n=>n,fun|23=>22|25=>2|3=>3|32=>156|22=>22|0=>0|44=>170|46=>140|4=>4|36=>162|35=>161|41=>167|5=>5|9=>9|53=>172|57=>176|63=>178|64=>179|n=>n,fun|n=>n⟩
theorem lsort_:Go.Proofs.SlLaysM.n5 Try.prog lsort__ren:={
  mixed:=by kernel_rfl
  f5:=⟨Try.f102.name,t49_,Try.func102.trans (congrArg some t14_)⟩
  f7:=⟨Try.f128.name,t49_,Try.func128.trans (congrArg some t14_)⟩
  f8:=Try.func129.trans (congrArg some t14_)
  f10:=⟨Try.f135.name,t49_,Try.func135.trans (congrArg some t14_)⟩
  f11:=⟨Try.f136.name,t49_,Try.func136.trans (congrArg some t14_)⟩
  f12:=⟨Try.f137.name,t49_,Try.func137.trans (congrArg some t14_)⟩
  f13:=⟨Try.f138.name,t49_,Try.func138.trans (congrArg some t14_)⟩
  f14:=⟨Try.f139.name,t49_,Try.func139.trans (congrArg some t14_)⟩
  f15:=⟨Try.f140.name,t49_,Try.func140.trans (congrArg some t14_)⟩
  f16:=⟨Try.f141.name,t49_,Try.func141.trans (congrArg some t14_)⟩
  f17:=⟨Try.f142.name,t49_,Try.func142.trans (congrArg some t14_)⟩
  f18:=⟨Try.f143.name,t49_,Try.func143.trans (congrArg some t14_)⟩
  f19:=Try.func144.trans (congrArg some t14_)
  f20:=Try.func145.trans (congrArg some t14_)
  f30:=⟨Try.f146.name,t49_,Try.func146.trans (congrArg some t14_)⟩
  f31:=Try.func147.trans (congrArg some t14_)
  f32:=Try.func148.trans (congrArg some t14_)
  f33:=⟨Try.f149.name,t49_,Try.func149.trans (congrArg some t14_)⟩
  f34:=⟨Try.f150.name,t49_,Try.func150.trans (congrArg some t14_)⟩
  f35:=⟨Try.f151.name,t49_,Try.func151.trans (congrArg some t14_)⟩
  f40:=⟨Try.f152.name,t49_,Try.func152.trans (congrArg some t14_)⟩
  t0:=Try.underlying0
  a0:=Try.isAgg0
  z0:=Try.sizeOf0
  v0:=Try.zeroValue0
  t3:=Try.underlying3
  a3:=Try.isAgg3
  z3:=Try.sizeOf3
  v3:=Try.zeroValue3
  t4:=Try.underlying4
  a4:=Try.isAgg4
  z4:=Try.sizeOf4
  v4:=Try.zeroValue4
  t5:=Try.underlying5
  a5:=Try.isAgg5
  z5:=Try.sizeOf5
  v5:=Try.zeroValue5
  t9:=Try.underlying9
  a9:=Try.isAgg9
  z9:=Try.sizeOf9
  v9:=Try.zeroValue9
  t22:=Try.underlying22
  a22:=Try.isAgg22
  z22:=Try.sizeOf22
  v22:=Try.zeroValue22
  t23:=Try.underlying22
  a23:=Try.isAgg22
  z23:=Try.sizeOf22
  v23:=Try.zeroValue22
  t25:=Try.underlying2
  a25:=Try.isAgg2
  z25:=Try.sizeOf2
  v25:=Try.zeroValue2
  t32:=Try.underlying156
  a32:=Try.isAgg156
  z32:=Try.sizeOf156
  v32:=Try.zeroValue156
  t35:=Try.underlying161
  a35:=Try.isAgg161
  z35:=Try.sizeOf161
  v35:=Try.zeroValue161
  t36:=Try.underlying162
  a36:=Try.isAgg162
  z36:=Try.sizeOf162
  v36:=Try.zeroValue162
  t41:=Try.underlying167
  a41:=Try.isAgg167
  z41:=Try.sizeOf167
  v41:=Try.zeroValue167
  t44:=Try.underlying170
  a44:=Try.isAgg170
  z44:=Try.sizeOf170
  v44:=Try.zeroValue170
  t46:=Try.underlying140
  a46:=Try.isAgg140
  z46:=Try.sizeOf140
  v46:=Try.zeroValue140
  t53:=Try.underlying172
  a53:=Try.isAgg172
  z53:=Try.sizeOf172
  v53:=Try.zeroValue172
  t57:=Try.underlying176
  a57:=Try.isAgg176
  z57:=Try.sizeOf176
  v57:=Try.zeroValue176
  t63:=Try.underlying178
  a63:=Try.isAgg178
  z63:=Try.sizeOf178
  v63:=Try.zeroValue178
  t64:=Try.underlying179
  a64:=Try.isAgg179
  z64:=Try.sizeOf179
  v64:=Try.zeroValue179 }

/-- slices.Sort: the row in order. -/
def slices_Sort_int64_int64.f (b:List Int):Option (List Int):=if b.length<4611686018427387904 then some (b.mergeSort fun x y=>decide (x≤y)) else none
theorem slices_Sort_int64_int64.calls (P0_:Nat→Prop) (u9000_:Value) (b:List Int) (r:List Int) (w0 w:World) (hB:Below w0.heap.size w0 w) (bF:Kd.R (Kd.int .i64) 2 w w0.heap.size P0_ u9000_ b) (h:slices_Sort_int64_int64.f b=some r):
    Calls Try.prog 102 #[u9000_] w fun e w'=>e=.returned (.tuple #[])∧Kd.R (Kd.int .i64) 2 w' w0.heap.size (fun k_=>(P0_ k_∨w.heap.size≤k_)) u9000_ r∧Below w0.heap.size w0 w'∧Kept w w' (fun k_=>P0_ k_):=by
  unfold slices_Sort_int64_int64.f at h
  by_cases hs:b.length<4611686018427387904
  · rw [if_pos hs] at h
    obtain rfl:=Option.some.inj h;have hl:(b.mergeSort fun x y=>decide (x≤y)).length=b.length:=List.length_mergeSort b;have hok:=bF.1;have ho:w.ownsRow w0.heap.size 2 1 u9000_ b.length (encs (Value.int .i64) b):=Kd.own_of_R bF;obtain ⟨hlen,hrow⟩:=ho;rcases hrow with ⟨rfl,h0⟩|⟨g,cap,cur,rfl,hg,hblk,hn,hcap,hcur,htake⟩
    · have bY:b=[]:=List.length_eq_zero_iff.1 h0
      subst bY;refine (AnyM.slices_Sort_int_none lsort_ none 0 w).mono ?_;rintro e w' ⟨rfl,rfl⟩;exact ⟨rfl,(by rw [List.mergeSort_nil];exact Kd.R_nil _ _ _ _ _),hB,Kept.refl _ _⟩
    · have hgs:g<w.heap.size:=(Array.getElem?_eq_some_iff.1 hblk).1
      have ht:cur.toList.take b.length=b.map (Value.int .i64):=(by rw [Nat.mul_one] at htake;exact htake);refine (AnyM.slices_Sort_int lsort_ g 0 cap b w (holds_of_blockI hblk ht) hgs hs).mono ?_;rintro e w' ⟨rfl,n,os,rfl⟩;have hgr:w.grownBy (Sort.grow (Sort.putRow (Value.int .i64) (Sort.ahead w n) g 0 (b.mergeSort fun x y=>decide (x≤y)).toArray) os) (some g):=grownBy_sortedI _;have hw:=ownsRow_sortedI (n:=n) (os:=os) hl hg hblk hn hcap hcur;refine ⟨rfl,?_,hB.grown hgr hB.size (fun k e=>by cases e;exact hg),⟨hgr.size,fun i hi hni=>hgr.block i hi (fun e=>hni (hok i e.symm))⟩⟩;refine Kd.R_of_own ?_ (fun k hk=>Or.inl (hok k hk));rw [hl];exact hw
  · rw [if_neg hs] at h;cases h

end Go.Proofs.Ytheokilgacmlmaa.PFnExactBestPlace
