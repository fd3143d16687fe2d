-- written by wip/xprint.py, a program of this session, for this claim; not trusted: Lean checks it.
import Derived.Test.YtjelfhmgbhidnaaPFnExactKeepsServedx0
import Derived.Test.YtjelfhmgbhidnaaPFnExactKeepsServedx9
import Derived.Test.YtjelfhmgbhidnaaPFnExactKeepsServedx10
namespace Go.Proofs.Ytjelfhmgbhidnaa.PFnExactKeepsServed
open Go.RowKit Go.Proofs.YtjelfhmgbhidnaaW.PrintWords Go.Proofs.YtjelfhmgbhidnaaW.PrintLast Go.Proofs.YtjelfhmgbhidnaaW.PrintMore
attribute [local go_sem] leq_less_ max2_int min2_int max_two min_two max_three min_three max_four min_four   -- for this text's walks alone
set_option linter.unusedVariables false
set_option linter.unusedSimpArgs false
set_option maxHeartbeats 8000000
set_option maxRecDepth 100000
def impl_increasing.l0:Nat→List Int→Int→Option (Bool)
 |0,_,_=>none
 |k+1,x0,x3=>if x3<(x0.length:Int) then (if 0≤x3 then (if 0≤(wrap64 (x3 - 1)) then (if (wrap64 (x3 - 1))<(x0.length:Int) then (if (rd x0 x3)≤(rd x0 (wrap64 (x3 - 1))) then (some false) else (impl_increasing.l0 k x0 (wrap64 (x3+1)))) else (none)) else (none)) else (none)) else (some true)
def impl_increasing.f (k:Nat) (c:List Int):Option (Bool):=impl_increasing.l0 k c 1
theorem impl_increasing.mono_l:∀ k,(∀ Z y1,LeO (impl_increasing.l0 k Z y1) (impl_increasing.l0 (k+1) Z y1))
 |0=>fun _ _ r h=>by simp [impl_increasing.l0] at h
 |k+1=>by
  have Y:=impl_increasing.mono_l k
  ·intro Z y1
   unfold impl_increasing.l0
   with_reducible repeat' first|exact Y _ _|exact LeO.refl _|exact LeO.none _|refine LeO.ite ?_ ?_|refine LeO.bind ?_ (fun _=>?_)
theorem impl_increasing.mono:∀ y k,LeO (impl_increasing.f k y) (impl_increasing.f (k+1) y):=by
 intro y k;have Y:=impl_increasing.mono_l k;unfold impl_increasing.f
 with_reducible repeat' first|exact Y _ _|exact LeO.refl _|exact LeO.none _|refine LeO.ite ?_ ?_|refine LeO.bind ?_ (fun _=>?_)
theorem impl_increasing.calls (k:Nat) (A0:Option Addr) (c0:Nat) (c:List Int) (r:Bool) (w:World) (aP:Kd.C (Kd.int .i64) w A0 c.length c) (aL:c.length≤c0) (h:impl_increasing.f k c=some r):
  Calls Try.prog 106 #[.slice A0 c.length c0] w fun e w'=>e=.returned (.bool r)∧Drawn0 w w':=by
 have aF:=a_ aP;have b9:=a_ aL;clear aP aL;have H:(impl_increasing.l0 k c 1)=some r:=h;clear h;have H':=a_ H;clear H;go_enter Try.func106,Try.ntmps106;go_wp2;(repeat (go_quiet (fail);try go_wp2));go_loopg [3] k (fun kq v3 w'=>∃ (A:Int),v3=.int .i64 A∧Aside0 (impl_increasing.l0 kq c A=some r)∧Aside0 (kq≤k)∧Drawn0 w w')
 case atStart=>exact ⟨(1),t8_,H',⟨Nat.le_refl _⟩,t14_⟩
 case round=>
  clear H';(try clear I);obtain ⟨A,rfl,HA,HK1,⟨m1,rfl⟩⟩:=hrel;cases gk with
  |zero=>exact absurd HA.out (by simp [impl_increasing.l0])
  |succ k1=>
   have H:=HA.out;clear HA;simp only [impl_increasing.l0] at H;by_cases c2:A<(c.length:Int)
   ·rw [if_pos c2] at H;have bz:decide (A<(c.length:Int))=true:=d1_ c2;clear c2;by_cases z:0≤A
    ·rw [if_pos z] at H;have b3:decide (0≤A)=true:=d1_ z;clear z;obtain ⟨J,b5⟩:∃ j_:Int,(wrap64 (A - 1))=j_:=⟨_,rfl⟩;replace H:(if 0≤(J) then (if (J)<(c.length:Int) then (if (rd c A)≤(rd c (J)) then (some false) else (impl_increasing.l0 k1 c (wrap64 (A+1)))) else (none)) else (none))=some r:=(by first|(rw [b5] at H;exact H)|(simp only [b5] at H ⊢;exact H));have dd:(IntKind.i64.wrap (A - 1))=J:=(i64_w _).trans b5;by_cases c5:0≤(J)
     ·rw [if_pos c5] at H;have cC:decide (0≤(J))=true:=d1_ c5;clear c5;by_cases D:(J)<(c.length:Int)
      ·rw [if_pos D] at H;have b4:decide ((J)<(c.length:Int))=true:=d1_ D;clear D;by_cases T:(rd c A)≤(rd c (J))
       ·rw [if_pos T] at H;have cD:decide ((rd c A)≤(rd c (J)))=true:=d1_ T;clear T;obtain rfl:=Option.some.inj H;have aT:0≤(A:Int):=od_;have aW:A<(c.length:Int):=od_;obtain ⟨bE,bH,cg⟩:=Kd.at_int aF.out A aT aW;cases bH;replace aT:=eq_true aT;replace aW:=eq_true aW;have aU:0≤((J):Int):=od_;have aX:(J)<(c.length:Int):=od_;obtain ⟨bF,bI,ch⟩:=Kd.at_int aF.out (J) aU aX;obtain rfl:bE=bF:=(by injection bI);replace aU:=eq_true aU;replace aX:=eq_true aX;go_wp2;(repeat (go_quiet (fail);try go_wp2));go_ret
        exact ⟨(by first|rfl|(simp;done)|(simp only [← b5]<;>(first|rfl|simp))|(simp [*];done)),t14_⟩
       ·rw [if_neg T] at H;have cD:decide ((rd c A)≤(rd c (J)))=false:=d2_ T;clear T;have H':=a_ H;clear H;have aT:0≤(A:Int):=od_;have aW:A<(c.length:Int):=od_;obtain ⟨bE,bH,cg⟩:=Kd.at_int aF.out A aT aW;cases bH;replace aT:=eq_true aT;replace aW:=eq_true aW;have aU:0≤((J):Int):=od_;have aX:(J)<(c.length:Int):=od_;obtain ⟨bF,bI,ch⟩:=Kd.at_int aF.out (J) aU aX;obtain rfl:bE=bF:=(by injection bI);replace aU:=eq_true aU;replace aX:=eq_true aX;go_wp2;(repeat (go_quiet (fail);try go_wp2));go_roundg k1
        case measure=>have:=HK1.out;omega
        case rel=>exact ⟨(wrap64 (A+1)),t8_,H',⟨t50_⟩,t14_⟩
      ·rw [if_neg D] at H;exact absurd H t43_
     ·rw [if_neg c5] at H;exact absurd H t43_
    ·rw [if_neg z] at H;exact absurd H t43_
   ·rw [if_neg c2] at H;have bz:decide (A<(c.length:Int))=false:=d2_ c2;clear c2;obtain rfl:=Option.some.inj H;go_wp2;(repeat (go_quiet (fail);try go_wp2));go_ret
    exact ⟨t8_,t14_⟩

def impl_Network_hasNodes.f (k:Nat) (b:List Int) (l0_1:List (S80)) (l:List Int):Option (Bool):=(impl_increasing.f k l).bind fun ar=>(if ar=true then ((impl_allWithin.f l 0 (wrap64 ((b.length:Int) - 1))).bind fun au=>(some au)) else (some false))
theorem impl_Network_hasNodes.mono:∀ y j X k,LeO (impl_Network_hasNodes.f k y j X) (impl_Network_hasNodes.f (k+1) y j X):=by
 intro y j X k;unfold impl_Network_hasNodes.f
 with_reducible repeat' first|exact impl_increasing.mono _ _|exact LeO.refl _|exact LeO.none _|refine LeO.ite ?_ ?_|refine LeO.bind ?_ (fun _=>?_)
theorem impl_Network_hasNodes.calls (k:Nat) (m:Option Addr) (s:Nat) (b:List Int) (q:Option Addr) (u:Nat) (l0_1:List (S80)) (L:Option Addr) (I:Nat) (l:List Int) (r:Bool) (w:World) (aQ:Kd.C (Kd.int .i64) w m b.length b) (aM:b.length≤s) (aR:Kd.C k80 w q l0_1.length l0_1) (aN:l0_1.length≤u) (aS:Kd.C (Kd.int .i64) w L l.length l) (aO:l.length≤I) (h:impl_Network_hasNodes.f k b l0_1 l=some r):
  Calls Try.prog 89 #[.agg #[.slice m b.length s,.slice q l0_1.length u],.slice L l.length I] w fun e w'=>e=.returned (.bool r)∧Below w.heap.size w w':=by
 have bn:=Try.underlying32;have HR0_0:=a_ aQ;have a8:=a_ aM;clear aQ aM;have HR0_1:=a_ aR;have a9:=a_ aN;clear aR aN;have W:=a_ aS;have U:=a_ aO;clear aS aO;have HB:=a_ (Below.refl w.heap.size w);have H:((impl_increasing.f k l).bind fun ar=>(if ar=true then ((impl_allWithin.f l 0 (wrap64 ((b.length:Int) - 1))).bind fun au=>(some au)) else (some false)))=some r:=h;clear h;replace H:=be_ H;obtain ⟨ar,aJ,H⟩:=H;have A3:=a_ aJ;clear aJ;by_cases G:ar=true
 ·subst G;replace H:=(if_pos rfl).symm.trans H;replace H:=be_ H;obtain ⟨au,ak,H⟩:=H;have A5:=a_ ak;clear ak;obtain rfl:=Option.some.inj H;go_enter Try.func89,Try.ntmps89;go_wp2_with (first|((with_reducible refine gate_dst (N:=2) rfl ?_);(try (refine gate_guard t67_ ?_;dsimp only));refine box_event ?hg (N:=2) ?hd (cs:=#[.slice m b.length s,.slice q l0_1.length u]) (t:=32) ?hr ?_;(case hd=>rfl);(case hg=>rfl);(case hr=>first|(go_simp;done)|(go_simp;rfl));intro ag hg w6 hbox hb;have d:=a_ (below_step t1_ hb);have i:=a_ (hbox);have v:=a_ ((by rw [hg];exact (below_size t1_):w.heap.size≤ag));have x:=a_ ((by rw [hg];exact (below_size t1_):w.heap.size≤ag));clear HB;have HB:=d;have am:=i;have br:=v;have GE292:=x;clear d i v x;clear hb hbox hg)|((with_reducible refine gate_callee (f:=106) rfl ?_);refine goesL_ (some 6) rfl rfl Try.func106 t16_ rfl #[.slice L l.length I] rfl t2_ ?_;(with_reducible refine (impl_increasing.calls k _ _ l true _ ?Z1 ?Z2 A3.out).mono ?_);(case Z1=>exact qc_ (Kd.C_below W.out HB.out));(case Z2=>exact U.out);rintro e w' ⟨rfl,⟨nd,rfl⟩⟩;refine ⟨_,rfl,?_⟩;have ⟨cQ,cR,ce,cf⟩:=bc2_ am.out)|(go_at_call 66;(with_reducible refine (impl_allWithin.calls _ _ l 0 (wrap64 ((b.length:Int) - 1)) au _ ?Z1 ?Z2 A5.out).mono ?_);(case Z1=>repeat (first|exact (Kd.C_below W.out t48_)|(with_reducible refine Kd.C_alloc ?_ _)|(with_reducible refine Kd.C_drewN ?_ _)|(with_reducible refine Kd.C_drew ?_)));(case Z2=>exact U.out);rintro e w8 ⟨rfl,hb⟩;have d:=a_ (blk_below (g:=ag) (o:=.cells #[.slice m b.length s,.slice q l0_1.length u] 32 (0,0)) (q1_ am.out) hb);have i:=a_ (below_step t48_ hb);clear am;clear HB;have am:=d;have HB:=i;clear d i;(try clear hb);(try clear hb2);(try clear hk);(try clear hi)));go_ret
  exact ⟨t3_,t48_⟩
 ·replace G:=Bool.eq_false_iff.mpr G;subst G;replace H:=(if_neg (show ¬ (false=true) by decide)).symm.trans H;obtain rfl:=Option.some.inj H;go_enter Try.func89,Try.ntmps89;go_wp2_with (first|((with_reducible refine gate_dst (N:=2) rfl ?_);(try (refine gate_guard t67_ ?_;dsimp only));refine box_event ?hg (N:=2) ?hd (cs:=#[.slice m b.length s,.slice q l0_1.length u]) (t:=32) ?hr ?_;(case hd=>rfl);(case hg=>rfl);(case hr=>first|(go_simp;done)|(go_simp;rfl));intro ag hg w9 hbox hb;have d:=a_ (below_step t1_ hb);have i:=a_ (hbox);have v:=a_ ((by rw [hg];exact (below_size t1_):w.heap.size≤ag));have x:=a_ ((by rw [hg];exact (below_size t1_):w.heap.size≤ag));clear HB;have HB:=d;have am:=i;have br:=v;have GE292:=x;clear d i v x;clear hb hbox hg)|((with_reducible refine gate_callee (f:=106) rfl ?_);refine goesL_ (some 6) rfl rfl Try.func106 t16_ rfl #[.slice L l.length I] rfl t2_ ?_;(with_reducible refine (impl_increasing.calls k _ _ l false _ ?Z1 ?Z2 A3.out).mono ?_);(case Z1=>exact qc_ (Kd.C_below W.out HB.out));(case Z2=>exact U.out);rintro e w' ⟨rfl,⟨nd,rfl⟩⟩;refine ⟨_,rfl,?_⟩));go_ret
  exact ⟨t3_,t48_⟩

def impl_Network_hasPipes.f (k:Nat) (b:List Int) (l0_1:List (S80)) (l:List Int):Option (Bool):=(impl_increasing.f k l).bind fun av=>(if av=true then ((impl_allWithin.f l 0 (wrap64 ((l0_1.length:Int) - 1))).bind fun aw=>(some aw)) else (some false))
theorem impl_Network_hasPipes.mono:∀ y j X k,LeO (impl_Network_hasPipes.f k y j X) (impl_Network_hasPipes.f (k+1) y j X):=by
 intro y j X k;unfold impl_Network_hasPipes.f
 with_reducible repeat' first|exact impl_increasing.mono _ _|exact LeO.refl _|exact LeO.none _|refine LeO.ite ?_ ?_|refine LeO.bind ?_ (fun _=>?_)
theorem impl_Network_hasPipes.calls (k:Nat) (m:Option Addr) (s:Nat) (b:List Int) (q:Option Addr) (u:Nat) (l0_1:List (S80)) (L:Option Addr) (I:Nat) (l:List Int) (r:Bool) (w:World) (aQ:Kd.C (Kd.int .i64) w m b.length b) (aM:b.length≤s) (aR:Kd.C k80 w q l0_1.length l0_1) (aN:l0_1.length≤u) (aS:Kd.C (Kd.int .i64) w L l.length l) (aO:l.length≤I) (h:impl_Network_hasPipes.f k b l0_1 l=some r):
  Calls Try.prog 90 #[.agg #[.slice m b.length s,.slice q l0_1.length u],.slice L l.length I] w fun e w'=>e=.returned (.bool r)∧Below w.heap.size w w':=by
 have bn:=Try.underlying32;have HR0_0:=a_ aQ;have a8:=a_ aM;clear aQ aM;have HR0_1:=a_ aR;have a9:=a_ aN;clear aR aN;have W:=a_ aS;have U:=a_ aO;clear aS aO;have HB:=a_ (Below.refl w.heap.size w);have H:((impl_increasing.f k l).bind fun av=>(if av=true then ((impl_allWithin.f l 0 (wrap64 ((l0_1.length:Int) - 1))).bind fun aw=>(some aw)) else (some false)))=some r:=h;clear h;replace H:=be_ H;obtain ⟨av,aJ,H⟩:=H;have A3:=a_ aJ;clear aJ;by_cases G:av=true
 ·subst G;replace H:=(if_pos rfl).symm.trans H;replace H:=be_ H;obtain ⟨aw,ak,H⟩:=H;have A5:=a_ ak;clear ak;obtain rfl:=Option.some.inj H;go_enter Try.func90,Try.ntmps90;go_wp2_with (first|((with_reducible refine gate_dst (N:=2) rfl ?_);(try (refine gate_guard t67_ ?_;dsimp only));refine box_event ?hg (N:=2) ?hd (cs:=#[.slice m b.length s,.slice q l0_1.length u]) (t:=32) ?hr ?_;(case hd=>rfl);(case hg=>rfl);(case hr=>first|(go_simp;done)|(go_simp;rfl));intro ah hg w6 hbox hb;have d:=a_ (below_step t1_ hb);have i:=a_ (hbox);have v:=a_ ((by rw [hg];exact (below_size t1_):w.heap.size≤ah));have x:=a_ ((by rw [hg];exact (below_size t1_):w.heap.size≤ah));clear HB;have HB:=d;have an:=i;have bs:=v;have GE295:=x;clear d i v x;clear hb hbox hg)|((with_reducible refine gate_callee (f:=106) rfl ?_);refine goesL_ (some 6) rfl rfl Try.func106 t16_ rfl #[.slice L l.length I] rfl t2_ ?_;(with_reducible refine (impl_increasing.calls k _ _ l true _ ?Z1 ?Z2 A3.out).mono ?_);(case Z1=>exact qc_ (Kd.C_below W.out HB.out));(case Z2=>exact U.out);rintro e w' ⟨rfl,⟨nd,rfl⟩⟩;refine ⟨_,rfl,?_⟩;have ⟨cQ,cR,ce,cf⟩:=bc2_ an.out)|(go_at_call 66;(with_reducible refine (impl_allWithin.calls _ _ l 0 (wrap64 ((l0_1.length:Int) - 1)) aw _ ?Z1 ?Z2 A5.out).mono ?_);(case Z1=>repeat (first|exact (Kd.C_below W.out t47_)|(with_reducible refine Kd.C_alloc ?_ _)|(with_reducible refine Kd.C_drewN ?_ _)|(with_reducible refine Kd.C_drew ?_)));(case Z2=>exact U.out);rintro e w8 ⟨rfl,hb⟩;have d:=a_ (blk_below (g:=ah) (o:=.cells #[.slice m b.length s,.slice q l0_1.length u] 32 (0,0)) (q1_ an.out) hb);have i:=a_ (below_step t47_ hb);clear an;clear HB;have an:=d;have HB:=i;clear d i;(try clear hb);(try clear hb2);(try clear hk);(try clear hi)));go_ret
  exact ⟨t3_,t47_⟩
 ·replace G:=Bool.eq_false_iff.mpr G;subst G;replace H:=(if_neg (show ¬ (false=true) by decide)).symm.trans H;obtain rfl:=Option.some.inj H;go_enter Try.func90,Try.ntmps90;go_wp2_with (first|((with_reducible refine gate_dst (N:=2) rfl ?_);(try (refine gate_guard t67_ ?_;dsimp only));refine box_event ?hg (N:=2) ?hd (cs:=#[.slice m b.length s,.slice q l0_1.length u]) (t:=32) ?hr ?_;(case hd=>rfl);(case hg=>rfl);(case hr=>first|(go_simp;done)|(go_simp;rfl));intro ah hg w9 hbox hb;have d:=a_ (below_step t1_ hb);have i:=a_ (hbox);have v:=a_ ((by rw [hg];exact (below_size t1_):w.heap.size≤ah));have x:=a_ ((by rw [hg];exact (below_size t1_):w.heap.size≤ah));clear HB;have HB:=d;have an:=i;have bs:=v;have GE295:=x;clear d i v x;clear hb hbox hg)|((with_reducible refine gate_callee (f:=106) rfl ?_);refine goesL_ (some 6) rfl rfl Try.func106 t16_ rfl #[.slice L l.length I] rfl t2_ ?_;(with_reducible refine (impl_increasing.calls k _ _ l false _ ?Z1 ?Z2 A3.out).mono ?_);(case Z1=>exact qc_ (Kd.C_below W.out HB.out));(case Z2=>exact U.out);rintro e w' ⟨rfl,⟨nd,rfl⟩⟩;refine ⟨_,rfl,?_⟩));go_ret
  exact ⟨t3_,t47_⟩

def impl_serviceCode.j0:Nat→List Int→Bool→List Int→List (S80)→Option (Int)
 |0,_,_,_,_=>none
 |k+1,x3,cq,dt,cr=>if cq=true then (some 7) else (if (x3.length:Int) > 64 then (some 7) else ((impl_allWithin.f x3 0 (wrap64 ((cr.length:Int) - 1))).bind fun bM=>(if bM=true then (some 0) else (some 7))))
def impl_serviceCode.f (k:Nat) (b:List Int) (l0_1:List (S80)) (l:List Int) (l2:List Int) (E:List Int) (l4:List Int):Option (Int):=(impl_ValidNetwork.f k b l0_1).bind fun ax=>(if ax=true then ((impl_Network_hasNodes.f k b l0_1 l).bind fun ay=>(if ay=true then ((impl_Network_hasPipes.f k b l0_1 l2).bind fun az=>(if az=true then ((impl_Network_hasNodes.f k b l0_1 l4).bind fun ai=>(impl_serviceCode.j0 k E (!ai) b l0_1)) else (impl_serviceCode.j0 k E true b l0_1))) else (impl_serviceCode.j0 k E true b l0_1))) else (some 1))
theorem impl_serviceCode.mono_l:∀ k,(∀ Z y1 y2 y3,LeO (impl_serviceCode.j0 k Z y1 y2 y3) (impl_serviceCode.j0 (k+1) Z y1 y2 y3))
 |0=>fun _ _ _ _ r h=>by simp [impl_serviceCode.j0] at h
 |k+1=>by
  have Y:=impl_serviceCode.mono_l k
  ·intro Z y1 y2 y3
   unfold impl_serviceCode.j0
   with_reducible repeat' first|exact Y _ _ _ _|exact impl_Network_hasNodes.mono _ _ _ _|exact impl_Network_hasPipes.mono _ _ _ _|exact impl_ValidNetwork.mono _ _ _|exact LeO.refl _|exact LeO.none _|refine LeO.ite ?_ ?_|refine LeO.bind ?_ (fun _=>?_)
theorem impl_serviceCode.mono:∀ y j X a3 a4 a5 k,LeO (impl_serviceCode.f k y j X a3 a4 a5) (impl_serviceCode.f (k+1) y j X a3 a4 a5):=by
 intro y j X a3 a4 a5 k;have Y:=impl_serviceCode.mono_l k;unfold impl_serviceCode.f
 with_reducible repeat' first|exact Y _ _ _ _|exact impl_Network_hasNodes.mono _ _ _ _|exact impl_Network_hasPipes.mono _ _ _ _|exact impl_ValidNetwork.mono _ _ _|exact LeO.refl _|exact LeO.none _|refine LeO.ite ?_ ?_|refine LeO.bind ?_ (fun _=>?_)
theorem impl_serviceCode.calls (k:Nat) (m:Option Addr) (s:Nat) (b:List Int) (q:Option Addr) (u:Nat) (l0_1:List (S80)) (L:Option Addr) (I:Nat) (l:List Int) (A2:Option Addr) (c2:Nat) (l2:List Int) (A3:Option Addr) (z:Nat) (E:List Int) (A4:Option Addr) (G:Nat) (l4:List Int) (r:Int) (w:World) (aQ:Kd.C (Kd.int .i64) w m b.length b) (aM:b.length≤s) (aR:Kd.C k80 w q l0_1.length l0_1) (aN:l0_1.length≤u) (aS:Kd.C (Kd.int .i64) w L l.length l) (aO:l.length≤I) (bk:Kd.C (Kd.int .i64) w A2 l2.length l2) (bd:l2.length≤c2) (bl:Kd.C (Kd.int .i64) w A3 E.length E) (be:E.length≤z) (bm:Kd.C (Kd.int .i64) w A4 l4.length l4) (bf:l4.length≤G) (h:impl_serviceCode.f k b l0_1 l l2 E l4=some r):
  Calls Try.prog 58 #[.agg #[.slice m b.length s,.slice q l0_1.length u],.slice L l.length I,.slice A2 l2.length c2,.slice A3 E.length z,.slice A4 l4.length G] w fun e w'=>e=.returned (.int .i64 r)∧Below w.heap.size w w':=by
 have bn:=Try.underlying32;have HR0_0:=a_ aQ;have a8:=a_ aM;clear aQ aM;have HR0_1:=a_ aR;have a9:=a_ aN;clear aR aN;have W:=a_ aS;have U:=a_ aO;clear aS aO;have bb:=a_ bk;have bZ:=a_ bd;clear bk bd;have bc:=a_ bl;have ba:=a_ be;clear bl be;have bw:=a_ bm;have bv:=a_ bf;clear bm bf;have HB:=a_ (Below.refl w.heap.size w);have H:((impl_ValidNetwork.f k b l0_1).bind fun ax=>(if ax=true then ((impl_Network_hasNodes.f k b l0_1 l).bind fun ay=>(if ay=true then ((impl_Network_hasPipes.f k b l0_1 l2).bind fun az=>(if az=true then ((impl_Network_hasNodes.f k b l0_1 l4).bind fun ai=>(impl_serviceCode.j0 k E (!ai) b l0_1)) else (impl_serviceCode.j0 k E true b l0_1))) else (impl_serviceCode.j0 k E true b l0_1))) else (some 1)))=some r:=h;clear h;replace H:=be_ H;obtain ⟨ax,bX,H⟩:=H;have A6:=a_ bX;clear bX;by_cases T:ax=true
 ·subst T;replace H:=(if_pos rfl).symm.trans H;have bA:=a_ H;clear H;go_enter Try.func58,Try.ntmps58;go_upto_region 3 with (first|((with_reducible refine gate_dst (N:=5) rfl ?_);(try (refine gate_guard t67_ ?_;dsimp only));refine box_event ?hg (N:=5) ?hd (cs:=#[.slice m b.length s,.slice q l0_1.length u]) (t:=32) ?hr ?_;(case hd=>rfl);(case hg=>rfl);(case hr=>first|(go_simp;done)|(go_simp;rfl));intro K hg w9 hbox hb;have d:=a_ (below_step t1_ hb);have i:=a_ (hbox);have v:=a_ ((by rw [hg];exact (below_size t1_):w.heap.size≤K));have x:=a_ ((by rw [hg];exact (below_size t1_):w.heap.size≤K));clear HB;have HB:=d;have BK298:=i;have bu:=v;have GE298:=x;clear d i v x;clear hb hbox hg;have ⟨bg,bh,bi,bj⟩:=bc2_ BK298.out)|((with_reducible refine gate_callee (f:=44) rfl ?_);refine goesL_ (some 13) rfl rfl Try.func44 t16_ rfl #[.agg #[.slice m b.length s,.slice q l0_1.length u]] rfl t2_ ?_;(with_reducible refine (impl_ValidNetwork.calls k _ _ b _ _ l0_1 true _ ?Z1 ?Z2 ?Z3 ?Z4 A6.out).mono ?_);(case Z1=>exact qc_ (Kd.C_below HR0_0.out HB.out));(case Z2=>exact a8.out);(case Z3=>exact qc_ (Kd.C_below HR0_1.out HB.out));(case Z4=>exact a9.out);rintro e df ⟨rfl,hb⟩;refine ⟨_,rfl,?_⟩;have d:=a_ (blk_below (g:=K) (o:=.cells #[.slice m b.length s,.slice q l0_1.length u] 32 (0,0)) (q1_ BK298.out) hb);have i:=a_ (below_step t19_ hb);clear BK298;clear HB;have BK298:=d;have HB:=i;clear d i;(try clear hb);(try clear hb2);(try clear hk);(try clear hi)));(try simp only [Act.put,List.setIfInBounds_toArray,List.set_cons_zero,List.set_cons_succ]);go_cut [15] (fun cl wc=>∃ (kq:Nat) (b6:Bool),cl=.bool b6∧Aside0 (impl_serviceCode.j0 kq E b6 b l0_1=some r)∧Aside0 (kq≤k)∧Aside0 (wc.heap[K]? =some (.cells #[(.slice m b.length s),(.slice q l0_1.length u)] 32 (0,0)))∧Aside0 (Below w.heap.size w wc))
  case first=>
   have H:=bA.out;clear bA;replace H:=be_ H;obtain ⟨ay,bO,H⟩:=H;have b7:=a_ bO;clear bO;by_cases ap:ay=true
   ·subst ap;replace H:=(if_pos rfl).symm.trans H;replace H:=be_ H;obtain ⟨az,bQ,H⟩:=H;have bP:=a_ bQ;clear bQ;by_cases aq:az=true
    ·subst aq;replace H:=(if_pos rfl).symm.trans H;replace H:=be_ H;obtain ⟨ai,bR,H⟩:=H;have bq:=a_ bR;clear bR;have H':=a_ H;clear H;have ⟨cE,cF,cS,cT⟩:=bc2_ BK298.out;go_wp2_with (first|((with_reducible refine gate_callee (f:=89) rfl ?_);refine goesL_ (some 18) rfl rfl Try.func89 t16_ rfl #[.agg #[.slice m b.length s,.slice q l0_1.length u],.slice L l.length I] rfl t2_ ?_;(with_reducible refine (impl_Network_hasNodes.calls k _ _ b _ _ l0_1 _ _ l true _ ?Z1 ?Z2 ?Z3 ?Z4 ?Z5 ?Z6 b7.out).mono ?_);(case Z1=>exact qc_ (Kd.C_below HR0_0.out HB.out));(case Z2=>exact a8.out);(case Z3=>exact qc_ (Kd.C_below HR0_1.out HB.out));(case Z4=>exact a9.out);(case Z5=>exact qc_ (Kd.C_below W.out HB.out));(case Z6=>exact U.out);rintro e dg ⟨rfl,hb⟩;refine ⟨_,rfl,?_⟩;have d:=a_ (blk_below (g:=K) (o:=.cells #[.slice m b.length s,.slice q l0_1.length u] 32 (0,0)) (q1_ BK298.out) hb);have i:=a_ (below_step t19_ hb);clear BK298;clear HB;have BK298:=d;have HB:=i;clear d i;(try clear hb);(try clear hb2);(try clear hk);(try clear hi);have ⟨cG,cH,cU,cV⟩:=bc2_ BK298.out)|(go_at_call 90;(with_reducible refine (impl_Network_hasPipes.calls k _ _ b _ _ l0_1 _ _ l2 true _ ?Z1 ?Z2 ?Z3 ?Z4 ?Z5 ?Z6 bP.out).mono ?_);(case Z1=>exact qc_ (Kd.C_below HR0_0.out HB.out));(case Z2=>exact a8.out);(case Z3=>exact qc_ (Kd.C_below HR0_1.out HB.out));(case Z4=>exact a9.out);(case Z5=>exact qc_ (Kd.C_below bb.out HB.out));(case Z6=>exact bZ.out);rintro e dh ⟨rfl,hb⟩;have d:=a_ (blk_below (g:=K) (o:=.cells #[.slice m b.length s,.slice q l0_1.length u] 32 (0,0)) (q1_ BK298.out) hb);have i:=a_ (below_step t19_ hb);clear BK298;clear HB;have BK298:=d;have HB:=i;clear d i;(try clear hb);(try clear hb2);(try clear hk);(try clear hi);have ⟨cI,cJ,cW,cX⟩:=bc2_ BK298.out)|(go_at_call 89;(with_reducible refine (impl_Network_hasNodes.calls k _ _ b _ _ l0_1 _ _ l4 ai _ ?Z1 ?Z2 ?Z3 ?Z4 ?Z5 ?Z6 bq.out).mono ?_);(case Z1=>exact qc_ (Kd.C_below HR0_0.out HB.out));(case Z2=>exact a8.out);(case Z3=>exact qc_ (Kd.C_below HR0_1.out HB.out));(case Z4=>exact a9.out);(case Z5=>exact qc_ (Kd.C_below bw.out HB.out));(case Z6=>exact bv.out);rintro e di ⟨rfl,hb⟩;have d:=a_ (blk_below (g:=K) (o:=.cells #[.slice m b.length s,.slice q l0_1.length u] 32 (0,0)) (q1_ BK298.out) hb);have i:=a_ (below_step t19_ hb);clear BK298;clear HB;have BK298:=d;have HB:=i;clear d i;(try clear hb);(try clear hb2);(try clear hk);(try clear hi)));go_meet
     case rel=>exact ⟨_,(!ai),t8_,H',⟨t45_⟩,⟨t71_⟩,⟨t19_⟩⟩
    ·replace aq:=Bool.eq_false_iff.mpr aq;subst aq;replace H:=(if_neg (show ¬ (false=true) by decide)).symm.trans H;have H':=a_ H;clear H;have ⟨cK,cL,cY,cZ⟩:=bc2_ BK298.out;go_wp2_with (first|((with_reducible refine gate_callee (f:=89) rfl ?_);refine goesL_ (some 18) rfl rfl Try.func89 t16_ rfl #[.agg #[.slice m b.length s,.slice q l0_1.length u],.slice L l.length I] rfl t2_ ?_;(with_reducible refine (impl_Network_hasNodes.calls k _ _ b _ _ l0_1 _ _ l true _ ?Z1 ?Z2 ?Z3 ?Z4 ?Z5 ?Z6 b7.out).mono ?_);(case Z1=>exact qc_ (Kd.C_below HR0_0.out HB.out));(case Z2=>exact a8.out);(case Z3=>exact qc_ (Kd.C_below HR0_1.out HB.out));(case Z4=>exact a9.out);(case Z5=>exact qc_ (Kd.C_below W.out HB.out));(case Z6=>exact U.out);rintro e dj ⟨rfl,hb⟩;refine ⟨_,rfl,?_⟩;have d:=a_ (blk_below (g:=K) (o:=.cells #[.slice m b.length s,.slice q l0_1.length u] 32 (0,0)) (q1_ BK298.out) hb);have i:=a_ (below_step t19_ hb);clear BK298;clear HB;have BK298:=d;have HB:=i;clear d i;(try clear hb);(try clear hb2);(try clear hk);(try clear hi);have ⟨cM,cN,ca,cb⟩:=bc2_ BK298.out)|(go_at_call 90;(with_reducible refine (impl_Network_hasPipes.calls k _ _ b _ _ l0_1 _ _ l2 false _ ?Z1 ?Z2 ?Z3 ?Z4 ?Z5 ?Z6 bP.out).mono ?_);(case Z1=>exact qc_ (Kd.C_below HR0_0.out HB.out));(case Z2=>exact a8.out);(case Z3=>exact qc_ (Kd.C_below HR0_1.out HB.out));(case Z4=>exact a9.out);(case Z5=>exact qc_ (Kd.C_below bb.out HB.out));(case Z6=>exact bZ.out);rintro e dk ⟨rfl,hb⟩;have d:=a_ (blk_below (g:=K) (o:=.cells #[.slice m b.length s,.slice q l0_1.length u] 32 (0,0)) (q1_ BK298.out) hb);have i:=a_ (below_step t19_ hb);clear BK298;clear HB;have BK298:=d;have HB:=i;clear d i;(try clear hb);(try clear hb2);(try clear hk);(try clear hi)));go_meet
     case rel=>exact ⟨_,(true),t8_,H',⟨t45_⟩,⟨t71_⟩,⟨t19_⟩⟩
   ·replace ap:=Bool.eq_false_iff.mpr ap;subst ap;replace H:=(if_neg (show ¬ (false=true) by decide)).symm.trans H;have H':=a_ H;clear H;have ⟨cO,cP,cc,cd⟩:=bc2_ BK298.out;go_wp2_with (first|((with_reducible refine gate_callee (f:=89) rfl ?_);refine goesL_ (some 18) rfl rfl Try.func89 t16_ rfl #[.agg #[.slice m b.length s,.slice q l0_1.length u],.slice L l.length I] rfl t2_ ?_;(with_reducible refine (impl_Network_hasNodes.calls k _ _ b _ _ l0_1 _ _ l false _ ?Z1 ?Z2 ?Z3 ?Z4 ?Z5 ?Z6 b7.out).mono ?_);(case Z1=>exact qc_ (Kd.C_below HR0_0.out HB.out));(case Z2=>exact a8.out);(case Z3=>exact qc_ (Kd.C_below HR0_1.out HB.out));(case Z4=>exact a9.out);(case Z5=>exact qc_ (Kd.C_below W.out HB.out));(case Z6=>exact U.out);rintro e dl ⟨rfl,hb⟩;refine ⟨_,rfl,?_⟩;have d:=a_ (blk_below (g:=K) (o:=.cells #[.slice m b.length s,.slice q l0_1.length u] 32 (0,0)) (q1_ BK298.out) hb);have i:=a_ (below_step t19_ hb);clear BK298;clear HB;have BK298:=d;have HB:=i;clear d i;(try clear hb);(try clear hb2);(try clear hk);(try clear hi)));go_meet
    case rel=>exact ⟨_,(true),t8_,H',⟨t45_⟩,⟨t71_⟩,⟨t19_⟩⟩
  case rest=>
   clear bA;(try clear I);(try clear c2);(try clear p2);(try clear z);(try clear G);(try clear c5);(try clear T);(try clear c8);(try clear ap);(try clear aq);(try clear bg);(try clear bh);(try clear cE);(try clear cF);(try clear cG);(try clear cH);(try clear cI);(try clear cJ);(try clear cK);(try clear cL);(try clear cM);(try clear cN);(try clear cO);(try clear cP);(try clear bi);(try clear bj);(try clear cS);(try clear cT);(try clear cU);(try clear cV);(try clear cW);(try clear cX);(try clear cY);(try clear cZ);(try clear ca);(try clear cb);(try clear cc);(try clear cd);obtain ⟨kq,b6,rfl,HA,HJ7,BK298,HB⟩:=hcut;cases kq with
   |zero=>exact absurd HA.out (by simp [impl_serviceCode.j0])
   |succ kj7=>
    have H:=HA.out;clear HA;simp only [impl_serviceCode.j0] at H;by_cases b1:b6=true
    ·subst b1;replace H:=(if_pos rfl).symm.trans H;obtain rfl:=Option.some.inj H;go_wp2;go_ret
     exact ⟨t3_,t19_⟩
    ·replace b1:=Bool.eq_false_iff.mpr b1;subst b1;replace H:=(if_neg (show ¬ (false=true) by decide)).symm.trans H;by_cases af:(E.length:Int) > 64
     ·rw [if_pos af] at H;have c9:decide (64<(E.length:Int))=true:=d1_ af;have cA:decide (64<E.length)=true:=decide_eq_true t23_;clear af;obtain rfl:=Option.some.inj H;go_wp2;go_ret
      exact ⟨t3_,t19_⟩
     ·rw [if_neg af] at H;have c9:decide (64<(E.length:Int))=false:=d2_ af;have cA:decide (64<E.length)=false:=decide_eq_false t23_;clear af;replace H:=be_ H;obtain ⟨bM,bU,H⟩:=H;have bT:=a_ bU;clear bU;by_cases b2:bM=true
      ·subst b2;replace H:=(if_pos rfl).symm.trans H;obtain rfl:=Option.some.inj H;have ⟨cz,d0,dL,dM⟩:=bc2_ BK298.out;go_wp2_with (first|(go_at_call 66;(with_reducible refine (impl_allWithin.calls _ _ E 0 (wrap64 ((l0_1.length:Int) - 1)) true _ ?Z1 ?Z2 bT.out).mono ?_);(case Z1=>exact qc_ (Kd.C_below bc.out HB.out));(case Z2=>exact ba.out);rintro e dm ⟨rfl,hb⟩;have d:=a_ (blk_below (g:=K) (o:=.cells #[.slice m b.length s,.slice q l0_1.length u] 32 (0,0)) (q1_ BK298.out) hb);have i:=a_ (below_step t19_ hb);clear BK298;clear HB;have BK298:=d;have HB:=i;clear d i;(try clear hb);(try clear hb2);(try clear hk);(try clear hi)));go_ret
       exact ⟨t3_,t19_⟩
      ·replace b2:=Bool.eq_false_iff.mpr b2;subst b2;replace H:=(if_neg (show ¬ (false=true) by decide)).symm.trans H;obtain rfl:=Option.some.inj H;have ⟨d1,d2,dN,dO⟩:=bc2_ BK298.out;go_wp2_with (first|(go_at_call 66;(with_reducible refine (impl_allWithin.calls _ _ E 0 (wrap64 ((l0_1.length:Int) - 1)) false _ ?Z1 ?Z2 bT.out).mono ?_);(case Z1=>exact qc_ (Kd.C_below bc.out HB.out));(case Z2=>exact ba.out);rintro e dn ⟨rfl,hb⟩;have d:=a_ (blk_below (g:=K) (o:=.cells #[.slice m b.length s,.slice q l0_1.length u] 32 (0,0)) (q1_ BK298.out) hb);have i:=a_ (below_step t19_ hb);clear BK298;clear HB;have BK298:=d;have HB:=i;clear d i;(try clear hb);(try clear hb2);(try clear hk);(try clear hi)));go_ret
       exact ⟨t3_,t19_⟩
 ·replace T:=Bool.eq_false_iff.mpr T;subst T;replace H:=(if_neg (show ¬ (false=true) by decide)).symm.trans H;obtain rfl:=Option.some.inj H;go_enter Try.func58,Try.ntmps58;go_wp2_with (first|((with_reducible refine gate_dst (N:=5) rfl ?_);(try (refine gate_guard t67_ ?_;dsimp only));refine box_event ?hg (N:=5) ?hd (cs:=#[.slice m b.length s,.slice q l0_1.length u]) (t:=32) ?hr ?_;(case hd=>rfl);(case hg=>rfl);(case hr=>first|(go_simp;done)|(go_simp;rfl));intro K hg dp hbox hb;have d:=a_ (below_step t1_ hb);have i:=a_ (hbox);have v:=a_ ((by rw [hg];exact (below_size t1_):w.heap.size≤K));have x:=a_ ((by rw [hg];exact (below_size t1_):w.heap.size≤K));clear HB;have HB:=d;have BK298:=i;have bu:=v;have GE298:=x;clear d i v x;clear hb hbox hg;have ⟨d3,d4,dP,dQ⟩:=bc2_ BK298.out)|((with_reducible refine gate_callee (f:=44) rfl ?_);refine goesL_ (some 13) rfl rfl Try.func44 t16_ rfl #[.agg #[.slice m b.length s,.slice q l0_1.length u]] rfl t2_ ?_;(with_reducible refine (impl_ValidNetwork.calls k _ _ b _ _ l0_1 false _ ?Z1 ?Z2 ?Z3 ?Z4 A6.out).mono ?_);(case Z1=>exact qc_ (Kd.C_below HR0_0.out HB.out));(case Z2=>exact a8.out);(case Z3=>exact qc_ (Kd.C_below HR0_1.out HB.out));(case Z4=>exact a9.out);rintro e dq ⟨rfl,hb⟩;refine ⟨_,rfl,?_⟩;have d:=a_ (blk_below (g:=K) (o:=.cells #[.slice m b.length s,.slice q l0_1.length u] 32 (0,0)) (q1_ BK298.out) hb);have i:=a_ (below_step t19_ hb);clear BK298;clear HB;have BK298:=d;have HB:=i;clear d i;(try clear hb);(try clear hb2);(try clear hk);(try clear hi)));go_ret
  exact ⟨t3_,t19_⟩

def slices_Index_int64_int64.l0:Nat→List Int→Int→Int→Int→Option (Int)
 |0,_,_,_,_=>none
 |k+1,x0,x1,x7,x8=>if x8<x7 then (if 0≤x8 then (if x8<(x0.length:Int) then (if x1=(rd x0 x8) then (some x8) else (slices_Index_int64_int64.l0 k x0 x1 x7 (wrap64 (x8+1)))) else (none)) else (none)) else (some (-1))
def slices_Index_int64_int64.f (k:Nat) (c:List Int) (j:Int):Option (Int):=slices_Index_int64_int64.l0 k c j (c.length:Int) 0
theorem slices_Index_int64_int64.mono_l:∀ k,(∀ Z y1 y2 y3,LeO (slices_Index_int64_int64.l0 k Z y1 y2 y3) (slices_Index_int64_int64.l0 (k+1) Z y1 y2 y3))
 |0=>fun _ _ _ _ r h=>by simp [slices_Index_int64_int64.l0] at h
 |k+1=>by
  have Y:=slices_Index_int64_int64.mono_l k
  ·intro Z y1 y2 y3
   unfold slices_Index_int64_int64.l0
   with_reducible repeat' first|exact Y _ _ _ _|exact LeO.refl _|exact LeO.none _|refine LeO.ite ?_ ?_|refine LeO.bind ?_ (fun _=>?_)
theorem slices_Index_int64_int64.mono:∀ y j k,LeO (slices_Index_int64_int64.f k y j) (slices_Index_int64_int64.f (k+1) y j):=by
 intro y j k;have Y:=slices_Index_int64_int64.mono_l k;unfold slices_Index_int64_int64.f
 with_reducible repeat' first|exact Y _ _ _ _|exact LeO.refl _|exact LeO.none _|refine LeO.ite ?_ ?_|refine LeO.bind ?_ (fun _=>?_)
theorem slices_Index_int64_int64.calls (k:Nat) (A0:Option Addr) (c0:Nat) (c:List Int) (j:Int) (r:Int) (w:World) (aP:Kd.C (Kd.int .i64) w A0 c.length c) (aL:c.length≤c0) (h:slices_Index_int64_int64.f k c j=some r):
  Calls Try.prog 92 #[.slice A0 c.length c0,.int .i64 j] w fun e w'=>e=.returned (.int .i64 r)∧Drawn0 w w':=by
 have aF:=a_ aP;have b9:=a_ aL;clear aP aL;have H:(slices_Index_int64_int64.l0 k c j (c.length:Int) 0)=some r:=h;clear h;have H':=a_ H;clear H;go_enter Try.func92,Try.ntmps92;go_wp2;go_loopg [8] k (fun kq v8 w'=>∃ (B:Int),v8=.int .i64 B∧Aside0 (slices_Index_int64_int64.l0 kq c j (c.length:Int) B=some r)∧Aside0 (kq≤k)∧Drawn0 w w')
 case atStart=>exact ⟨(0),t8_,H',⟨Nat.le_refl _⟩,t14_⟩
 case round=>
  clear H';(try clear p2);obtain ⟨B,rfl,HA,HK1,⟨m1,rfl⟩⟩:=hrel;cases gk with
  |zero=>exact absurd HA.out (by simp [slices_Index_int64_int64.l0])
  |succ k1=>
   have H:=HA.out;clear HA;simp only [slices_Index_int64_int64.l0] at H;by_cases z:B<(c.length:Int)
   ·rw [if_pos z] at H;have b3:decide (B<(c.length:Int))=true:=d1_ z;clear z;by_cases G:0≤B
    ·rw [if_pos G] at H;have ct:decide (0≤B)=true:=d1_ G;clear G;by_cases c5:B<(c.length:Int)
     ·rw [if_pos c5] at H;have cC:decide (B<(c.length:Int))=true:=d1_ c5;clear c5;by_cases D:j=(rd c B)
      ·rw [if_pos D] at H;have b4:(j==(rd c B))=true:=b1_ D;have bG:(j !=(rd c B))=false:=b4_ D;clear D;obtain rfl:=Option.some.inj H;have aV:0≤(B:Int):=od_;have aY:B<(c.length:Int):=od_;obtain ⟨bx,bJ,ci⟩:=Kd.at_int aF.out B aV aY;cases bJ;replace aV:=eq_true aV;replace aY:=eq_true aY;go_wp2;go_ret
       exact ⟨t8_,t14_⟩
      ·rw [if_neg D] at H;have b4:(j==(rd c B))=false:=b2_ D;have bG:(j !=(rd c B))=true:=b3_ D;have H':=a_ H;clear H;have aV:0≤(B:Int):=od_;have aY:B<(c.length:Int):=od_;obtain ⟨bx,bJ,ci⟩:=Kd.at_int aF.out B aV aY;cases bJ;replace aV:=eq_true aV;replace aY:=eq_true aY;go_wp2;go_roundg k1
       case measure=>have:=HK1.out;omega
       case rel=>exact ⟨(wrap64 (B+1)),t8_,H',⟨t50_⟩,t14_⟩
     ·rw [if_neg c5] at H;exact absurd H t43_
    ·rw [if_neg G] at H;exact absurd H t43_
   ·rw [if_neg z] at H;have b3:decide (B<(c.length:Int))=false:=d2_ z;clear z;obtain rfl:=Option.some.inj H;go_wp2;go_ret
    exact ⟨t8_,t14_⟩

def slices_Contains_int64_int64.f (k:Nat) (c:List Int) (j:Int):Option (Bool):=(slices_Index_int64_int64.f k c j).bind fun b0=>(some (decide (b0≥0)))
theorem slices_Contains_int64_int64.mono:∀ y j k,LeO (slices_Contains_int64_int64.f k y j) (slices_Contains_int64_int64.f (k+1) y j):=by
 intro y j k;unfold slices_Contains_int64_int64.f
 with_reducible repeat' first|exact slices_Index_int64_int64.mono _ _ _|exact LeO.refl _|exact LeO.none _|refine LeO.ite ?_ ?_|refine LeO.bind ?_ (fun _=>?_)
theorem slices_Contains_int64_int64.calls (k:Nat) (A0:Option Addr) (c0:Nat) (c:List Int) (j:Int) (r:Bool) (w:World) (aP:Kd.C (Kd.int .i64) w A0 c.length c) (aL:c.length≤c0) (h:slices_Contains_int64_int64.f k c j=some r):
  Calls Try.prog 60 #[.slice A0 c.length c0,.int .i64 j] w fun e w'=>e=.returned (.bool r)∧Drawn0 w w':=by
 have aF:=a_ aP;have b9:=a_ aL;clear aP aL;have H:((slices_Index_int64_int64.f k c j).bind fun b0=>(some (decide (b0≥0))))=some r:=h;clear h;replace H:=be_ H;obtain ⟨b0,aJ,H⟩:=H;have A3:=a_ aJ;clear aJ;obtain rfl:=Option.some.inj H;go_enter Try.func60,Try.ntmps60;go_wp2_with (first|((with_reducible refine gate_callee (f:=92) rfl ?_);refine goesL_ (some 7) rfl rfl Try.func92 t16_ rfl #[.slice A0 c.length c0,.int .i64 j] rfl t2_ ?_;(with_reducible refine (slices_Index_int64_int64.calls k _ _ c j b0 _ ?Z1 ?Z2 A3.out).mono ?_);(case Z1=>exact qc_ aF.out);(case Z2=>exact b9.out);rintro e w' ⟨rfl,⟨nd,rfl⟩⟩;refine ⟨_,rfl,?_⟩));go_ret
 exact ⟨t8_,t14_⟩

def impl_Pipe_other.f (ab:ByteArray) (M:Int) (O:Int) (ac:Int) (ad:Int) (ae:Int) (j:Int):Option (Int × Bool):=if j=M then (some (O,true)) else (if j=O then (some (M,true)) else (some (0,false)))
theorem impl_Pipe_other.calls (ab:ByteArray) (M:Int) (O:Int) (ac:Int) (ad:Int) (ae:Int) (j:Int) (r1:Int) (r2:Bool) (w:World) (h:impl_Pipe_other.f ab M O ac ad ae j=some (r1,r2)):
  Calls Try.prog 62 #[.agg #[.string ab,.int .i64 M,.int .i64 O,.int .i64 ac,.int .i64 ad,.int .i64 ae],.int .i64 j] w fun e w'=>e=.returned (.tuple #[.int .i64 r1,.bool r2])∧Below w.heap.size w w':=by
 have de:=Try.underlying80;have HB:=a_ (Below.refl w.heap.size w);have H:(if j=M then (some (O,true)) else (if j=O then (some (M,true)) else (some (0,false))))=some (r1,r2):=h;clear h;by_cases z:j=M
 ·rw [if_pos z] at H;have b3:(j==M)=true:=b1_ z;have cB:(j !=M)=false:=b4_ z;clear z;simp only [Option.some.injEq,Prod.mk.injEq] at H;obtain ⟨rfl,rfl⟩:=H;go_enter Try.func62,Try.ntmps62;go_wp2_with (first|((with_reducible refine gate_dst (N:=2) rfl ?_);refine box_event ?hg (N:=2) ?hd (cs:=#[.string ab,.int .i64 M,.int .i64 O,.int .i64 ac,.int .i64 ad,.int .i64 ae]) (t:=80) ?hr ?_;(case hd=>rfl);(case hg=>rfl);(case hr=>first|(go_simp;done)|(go_simp;rfl));intro aK hg w4 hbox hb;have d:=a_ (below_step t1_ hb);have i:=a_ (hbox);have v:=a_ ((by rw [hg];exact (below_size t1_):w.heap.size≤aK));have x:=a_ ((by rw [hg];exact (below_size t1_):w.heap.size≤aK));clear HB;have HB:=d;have ao:=i;have bY:=v;have GE306:=x;clear d i v x;clear hb hbox hg;have ⟨d5,d6,d7,d8,d9,dA,dR,dS,dT,dU,dV,dW⟩:=bc6_ ao.out));go_ret2;exact ⟨t3_,t61_⟩
 ·rw [if_neg z] at H;have b3:(j==M)=false:=b2_ z;have cB:(j !=M)=true:=b3_ z;by_cases D:j=O
  ·rw [if_pos D] at H;have b4:(j==O)=true:=b1_ D;have bG:(j !=O)=false:=b4_ D;clear D;simp only [Option.some.injEq,Prod.mk.injEq] at H;obtain ⟨rfl,rfl⟩:=H;go_enter Try.func62,Try.ntmps62;go_wp2_with (first|((with_reducible refine gate_dst (N:=2) rfl ?_);refine box_event ?hg (N:=2) ?hd (cs:=#[.string ab,.int .i64 M,.int .i64 O,.int .i64 ac,.int .i64 ad,.int .i64 ae]) (t:=80) ?hr ?_;(case hd=>rfl);(case hg=>rfl);(case hr=>first|(go_simp;done)|(go_simp;rfl));intro aK hg w7 hbox hb;have d:=a_ (below_step t1_ hb);have i:=a_ (hbox);have v:=a_ ((by rw [hg];exact (below_size t1_):w.heap.size≤aK));have x:=a_ ((by rw [hg];exact (below_size t1_):w.heap.size≤aK));clear HB;have HB:=d;have ao:=i;have bY:=v;have GE306:=x;clear d i v x;clear hb hbox hg;have ⟨dB,dC,dD,dE,dF,dG,dX,dY,dZ,da,db,dc⟩:=bc6_ ao.out));go_ret2;exact ⟨t3_,t61_⟩
  ·rw [if_neg D] at H;have b4:(j==O)=false:=b2_ D;have bG:(j !=O)=true:=b3_ D;simp only [Option.some.injEq,Prod.mk.injEq] at H;obtain ⟨rfl,rfl⟩:=H;go_enter Try.func62,Try.ntmps62;go_wp2_with (first|((with_reducible refine gate_dst (N:=2) rfl ?_);refine box_event ?hg (N:=2) ?hd (cs:=#[.string ab,.int .i64 M,.int .i64 O,.int .i64 ac,.int .i64 ad,.int .i64 ae]) (t:=80) ?hr ?_;(case hd=>rfl);(case hg=>rfl);(case hr=>first|(go_simp;done)|(go_simp;rfl));intro aK hg w9 hbox hb;have d:=a_ (below_step t1_ hb);have i:=a_ (hbox);have v:=a_ ((by rw [hg];exact (below_size t1_):w.heap.size≤aK));have x:=a_ ((by rw [hg];exact (below_size t1_):w.heap.size≤aK));clear HB;have HB:=d;have ao:=i;have bY:=v;have GE306:=x;clear d i v x;clear hb hbox hg;have ⟨bg,bh,cv,cw,cx,cy,bi,bj,dH,dI,dJ,dK⟩:=bc6_ ao.out));go_ret2;exact ⟨t3_,t61_⟩

-- function 125 is told with the one that calls it

-- function 115 is told with the one that calls it

-- function 109 is told with the one that calls it

-- function 120 is told with the one that calls it

-- function 110 is told with the one that calls it

-- function 118 is told with the one that calls it

-- function 119 is told with the one that calls it

-- function 108 is told with the one that calls it

-- function 121 is told with the one that calls it

-- function 122 is told with the one that calls it

-- function 111 is told with the one that calls it

-- function 126 is told with the one that calls it

-- function 124 is told with the one that calls it

-- function 123 is told with the one that calls it

-- function 112 is told with the one that calls it

-- function 113 is told with the one that calls it

-- function 114 is told with the one that calls it

-- function 116 is told with the one that calls it

-- function 117 is told with the one that calls it

-- function 107 is told with the one that calls it

end Go.Proofs.Ytjelfhmgbhidnaa.PFnExactKeepsServed
