-- written by wip/xprint.py, a program of this session, for this claim; not trusted: Lean checks it.
import Derived.Test.YtheokilgacmlmaaPFnExactNeedlessValvesx0
namespace Go.Proofs.Ytheokilgacmlmaa.PFnExactNeedlessValves
open Go.RowKit Go.Proofs.YtheokilgacmlmaaW.PrintWords Go.Proofs.YtheokilgacmlmaaW.PrintLast Go.Proofs.YtheokilgacmlmaaW.PrintMore
attribute [local go_sem] leq_less_ max2_int min2_int max_two min_two max_three min_three max_four min_four   -- for this text's walks alone
set_option linter.unusedVariables false
set_option linter.unusedSimpArgs false
set_option maxHeartbeats 8000000
set_option maxRecDepth 100000
def impl_ValidValves_1.f (M:ByteArray) (m:ByteArray) (v:Bool) (l1:List (S51)):Option (Bool):=if 0<(l1.length:Int) then (if m.toList=((rd_T51 l1 0).f1).toList then (some (v==((rd_T51 l1 0).f2))) else (some false)) else (none)
theorem impl_ValidValves_1.calls (M:ByteArray) (m:ByteArray) (v:Bool) (A1:Option Addr) (c1:Nat) (l1:List (S51)) (r:Bool) (w:World) (aZ:Kd.C k51 w A1 l1.length l1) (aY:l1.length≤c1) (h:impl_ValidValves_1.f M m v l1=some r):
  Calls Try.prog 96 #[.agg #[.string M,.string m,.bool v],.pointer A1] w fun e w'=>e=.returned (.bool r)∧Below w.heap.size w w':=by
 have ai:=Try.underlying51;have HR1:=a_ aZ;have am:=a_ aY;clear aZ aY;have HB:=a_ (Below.refl w.heap.size w);have H:(if 0<(l1.length:Int) then (if m.toList=((rd_T51 l1 0).f1).toList then (some (v==((rd_T51 l1 0).f2))) else (some false)) else (none))=some r:=h;clear h;by_cases q:0<(l1.length:Int)
 ·rw [if_pos q] at H;have aW:decide (0<(l1.length:Int))=true:=d1_ q;have an:decide (0<l1.length)=true:=decide_eq_true t25_;clear q;by_cases o:m.toList=((rd_T51 l1 0).f1).toList
  ·rw [if_pos o] at H;have aX:(m.toList==((rd_T51 l1 0).f1).toList)=true:=b1_ o;have ag:(m.toList !=((rd_T51 l1 0).f1).toList)=false:=b4_ o;clear o;obtain rfl:=Option.some.inj H;go_enter Try.func96,Try.ntmps96;go_wp2_with (first|((with_reducible refine gate_dst (N:=2) rfl ?_);refine box_event ?hg (N:=2) ?hd (cs:=#[.string M,.string m,.bool v]) (t:=51) ?hr ?_;(case hd=>rfl);(case hg=>rfl);(case hr=>first|(go_simp;done)|(go_simp;rfl));intro O hg w5 hbox hb;have g:=a_ (below_step t1_ hb);have a3:=a_ (hbox);have a4:=a_ ((by rw [hg];exact (below_size t1_):w.heap.size≤O));have a5:=a_ ((by rw [hg];exact (below_size t1_):w.heap.size≤O));clear HB;have HB:=g;have aD:=a3;have ad:=a4;have aE:=a5;clear g a3 a4 a5;clear hb hbox hg;have ⟨ap,aq,ar,ax,ay,az⟩:=bc3_ aD.out;have y:0≤(0:Int):=t25_;have A:0<(l1.length:Int):=od_;obtain ⟨aU,aF,i,j,l⟩:=at_T51 HR1.out 0 y A;cases aF;have aj:(0<l1.length)=True:=eq_true t25_;(try rw [show ((0:Int)).toNat=0 from rfl] at i);(try rw [show 0 * 3=0 from rfl] at i);(try rw [Addr.add_zero'] at i);(try rw [show ((0:Int)).toNat=0 from rfl] at j);(try rw [show 0 * 3=0 from rfl] at j);(try rw [Addr.add_zero'] at j);(try rw [show ((0:Int)).toNat=0 from rfl] at l);(try rw [show 0 * 3=0 from rfl] at l);(try rw [Addr.add_zero'] at l);replace i:=(HB.out.cell (World.block_lt_of_cell? w _ i)).trans i;replace j:=(HB.out.cell (World.block_lt_of_cell? w _ j)).trans j;replace l:=(HB.out.cell (World.block_lt_of_cell? w _ l)).trans l;replace y:=eq_true y;replace A:=eq_true A;have aI:0≤(0:Int):=t25_;have aJ:0<(l1.length:Int):=od_;obtain ⟨ae,ah,J,K,L⟩:=at_T51 HR1.out 0 aI aJ;obtain rfl:aU=ae:=(by injection ah);have b4:(0<l1.length)=True:=eq_true t25_;(try rw [show ((0:Int)).toNat=0 from rfl] at J);(try rw [show 0 * 3=0 from rfl] at J);(try rw [Addr.add_zero'] at J);(try rw [show ((0:Int)).toNat=0 from rfl] at K);(try rw [show 0 * 3=0 from rfl] at K);(try rw [Addr.add_zero'] at K);(try rw [show ((0:Int)).toNat=0 from rfl] at L);(try rw [show 0 * 3=0 from rfl] at L);(try rw [Addr.add_zero'] at L);replace J:=(HB.out.cell (World.block_lt_of_cell? w _ J)).trans J;replace K:=(HB.out.cell (World.block_lt_of_cell? w _ K)).trans K;replace L:=(HB.out.cell (World.block_lt_of_cell? w _ L)).trans L;replace aI:=eq_true aI;replace aJ:=eq_true aJ));go_ret
   exact ⟨t3_,(by repeat (first|(with_reducible first|exact HB.out|apply below_alloc|apply pw_below_drewN|apply below_drew1|refine below_set ?_ aE.out)|exact HB.out))⟩
  ·rw [if_neg o] at H;have aX:(m.toList==((rd_T51 l1 0).f1).toList)=false:=b2_ o;have ag:(m.toList !=((rd_T51 l1 0).f1).toList)=true:=b3_ o;obtain rfl:=Option.some.inj H;go_enter Try.func96,Try.ntmps96;go_wp2_with (first|((with_reducible refine gate_dst (N:=2) rfl ?_);refine box_event ?hg (N:=2) ?hd (cs:=#[.string M,.string m,.bool v]) (t:=51) ?hr ?_;(case hd=>rfl);(case hg=>rfl);(case hr=>first|(go_simp;done)|(go_simp;rfl));intro O hg w7 hbox hb;have g:=a_ (below_step t1_ hb);have a3:=a_ (hbox);have a4:=a_ ((by rw [hg];exact (below_size t1_):w.heap.size≤O));have a5:=a_ ((by rw [hg];exact (below_size t1_):w.heap.size≤O));clear HB;have HB:=g;have aD:=a3;have ad:=a4;have aE:=a5;clear g a3 a4 a5;clear hb hbox hg;have ⟨au,av,aw,b0,b1,b2⟩:=bc3_ aD.out;have y:0≤(0:Int):=t25_;have A:0<(l1.length:Int):=od_;obtain ⟨aU,aF,i,j,l⟩:=at_T51 HR1.out 0 y A;cases aF;have aj:(0<l1.length)=True:=eq_true t25_;(try rw [show ((0:Int)).toNat=0 from rfl] at i);(try rw [show 0 * 3=0 from rfl] at i);(try rw [Addr.add_zero'] at i);(try rw [show ((0:Int)).toNat=0 from rfl] at j);(try rw [show 0 * 3=0 from rfl] at j);(try rw [Addr.add_zero'] at j);(try rw [show ((0:Int)).toNat=0 from rfl] at l);(try rw [show 0 * 3=0 from rfl] at l);(try rw [Addr.add_zero'] at l);replace i:=(HB.out.cell (World.block_lt_of_cell? w _ i)).trans i;replace j:=(HB.out.cell (World.block_lt_of_cell? w _ j)).trans j;replace l:=(HB.out.cell (World.block_lt_of_cell? w _ l)).trans l;replace y:=eq_true y;replace A:=eq_true A));go_ret
   exact ⟨t3_,(by repeat (first|(with_reducible first|exact HB.out|apply below_alloc|apply pw_below_drewN|apply below_drew1|refine below_set ?_ aE.out)|exact HB.out))⟩
 ·rw [if_neg q] at H;exact absurd H t62_

def impl_Valve_107_c96.l0:Nat→List (S51)→Int→Int→List (S51)→Option (Int)
 |0,_,_,_,_=>none
 |k+1,x0,x7,s,ab=>if s<x7 then (if 0≤s then (if s<(x0.length:Int) then ((impl_ValidValves_1.f ((rd_T51 x0 s).f0) ((rd_T51 x0 s).f1) ((rd_T51 x0 s).f2) ab).bind fun aK=>(if aK=true then (some s) else (impl_Valve_107_c96.l0 k x0 x7 (wrap64 (s+1)) ab))) else (none)) else (none)) else (some (-1))
def impl_Valve_107_c96.f (k:Nat) (b:List (S51)) (d:List (S51)):Option (Int):=impl_Valve_107_c96.l0 k b (b.length:Int) 0 d
theorem impl_Valve_107_c96.mono_l:∀ k,(∀ y0 y1 y2 y3,LeO (impl_Valve_107_c96.l0 k y0 y1 y2 y3) (impl_Valve_107_c96.l0 (k+1) y0 y1 y2 y3))
 |0=>fun _ _ _ _ r h=>by simp [impl_Valve_107_c96.l0] at h
 |k+1=>by
  have aH:=impl_Valve_107_c96.mono_l k
  ·intro y0 y1 y2 y3
   unfold impl_Valve_107_c96.l0
   with_reducible repeat' first|exact aH _ _ _ _|exact LeO.refl _|exact LeO.none _|refine LeO.ite ?_ ?_|refine LeO.bind ?_ (fun _=>?_)
theorem impl_Valve_107_c96.mono:∀ u x k,LeO (impl_Valve_107_c96.f k u x) (impl_Valve_107_c96.f (k+1) u x):=by
 intro u x k;have aH:=impl_Valve_107_c96.mono_l k;unfold impl_Valve_107_c96.f
 with_reducible repeat' first|exact aH _ _ _ _|exact LeO.refl _|exact LeO.none _|refine LeO.ite ?_ ?_|refine LeO.bind ?_ (fun _=>?_)
theorem impl_Valve_107_c96.calls (k:Nat) (D:Option Addr) (G:Nat) (b:List (S51)) (E:Option Addr) (I:Nat) (d:List (S51)) (r:Int) (w:World) (W:Kd.C k51 w D b.length b) (T:b.length≤G) (X:Kd.C k51 w E d.length d) (U:d.length≤I) (h:impl_Valve_107_c96.f k b d=some r):
  Calls Try.prog 107 #[.slice D b.length G,.func (.func 96) #[] #[.pointer E]] w fun e w'=>e=.returned (.int .i64 r)∧Below w.heap.size w w':=by
 have ai:=Try.underlying51;have a9:=a_ W;have aT:=a_ T;clear W T;have aA:=a_ X;have a8:=a_ U;clear X U;have HB:=a_ (Below.refl w.heap.size w);have H:(impl_Valve_107_c96.l0 k b (b.length:Int) 0 d)=some r:=h;clear h;have H':=a_ H;clear H;go_enter Try.func107,Try.ntmps107;go_wp2;go_loopg [8] k (fun kq v8 w'=>∃ (c:Int),v8=.int .i64 c∧Aside0 (impl_Valve_107_c96.l0 kq b (b.length:Int) c d=some r)∧Aside0 (kq≤k)∧Aside0 (Below w.heap.size w w'))
 case atStart=>exact ⟨(0),t5_,H',⟨Nat.le_refl _⟩,⟨t1_⟩⟩
 case round=>
  clear H';(try clear c1);(try clear p2);obtain ⟨c,rfl,HA,HK1,HB⟩:=hrel;cases gk with
  |zero=>exact absurd HA.out (by simp [impl_Valve_107_c96.l0])
  |succ k1=>
   have H:=HA.out;clear HA;simp only [impl_Valve_107_c96.l0] at H;by_cases q:c<(b.length:Int)
   ·rw [if_pos q] at H;have aW:decide (c<(b.length:Int))=true:=d1_ q;clear q;by_cases o:0≤c
    ·rw [if_pos o] at H;have aX:decide (0≤c)=true:=d1_ o;clear o;by_cases c5:c<(b.length:Int)
     ·rw [if_pos c5] at H;have ao:decide (c<(b.length:Int))=true:=d1_ c5;clear c5;replace H:=be_ H;obtain ⟨aK,aS,H⟩:=H;have A6:=a_ aS;clear aS;by_cases c7:aK=true
      ·subst c7;replace H:=(if_pos rfl).symm.trans H;obtain rfl:=Option.some.inj H;have z:0≤(c:Int):=od_;have B:c<(b.length:Int):=od_;obtain ⟨af,aG,Y,Z,a2⟩:=at_T51 a9.out c z B;cases aG;replace Y:=hb_ HB Y;replace Z:=hb_ HB Z;replace a2:=hb_ HB a2;replace z:=eq_true z;replace B:=eq_true B;go_wp2_with (first|(go_at_call 96;(with_reducible refine (impl_ValidValves_1.calls ((rd_T51 b c).f0) ((rd_T51 b c).f1) ((rd_T51 b c).f2) _ I d true _ ?Z1 ?Z2 A6.out).mono ?_);(case Z1=>exact qc_ (Kd.C_below aA.out HB.out));(case Z2=>exact a8.out);rintro e w8 ⟨rfl,hb⟩;have g:=a_ (below_step t1_ hb);clear HB;have HB:=g;clear g;(try clear hb);(try clear hb2);(try clear hk);(try clear hi)));go_ret
       exact ⟨t3_,t1_⟩
      ·replace c7:=Bool.eq_false_iff.mpr c7;subst c7;replace H:=(if_neg (show ¬ (false=true) by decide)).symm.trans H;have H':=a_ H;clear H;have z:0≤(c:Int):=od_;have B:c<(b.length:Int):=od_;obtain ⟨af,aG,Y,Z,a2⟩:=at_T51 a9.out c z B;cases aG;replace Y:=hb_ HB Y;replace Z:=hb_ HB Z;replace a2:=hb_ HB a2;replace z:=eq_true z;replace B:=eq_true B;go_wp2_with (first|(go_at_call 96;(with_reducible refine (impl_ValidValves_1.calls ((rd_T51 b c).f0) ((rd_T51 b c).f1) ((rd_T51 b c).f2) _ I d false _ ?Z1 ?Z2 A6.out).mono ?_);(case Z1=>exact qc_ (Kd.C_below aA.out HB.out));(case Z2=>exact a8.out);rintro e w9 ⟨rfl,hb⟩;have g:=a_ (below_step t1_ hb);clear HB;have HB:=g;clear g;(try clear hb);(try clear hb2);(try clear hk);(try clear hi)));go_roundg k1
       case measure=>have:=HK1.out;omega
       case rel=>exact ⟨(wrap64 (c+1)),t5_,H',⟨t58_⟩,⟨t1_⟩⟩
     ·rw [if_neg c5] at H;exact absurd H t62_
    ·rw [if_neg o] at H;exact absurd H t62_
   ·rw [if_neg q] at H;have aW:decide (c<(b.length:Int))=false:=d2_ q;clear q;obtain rfl:=Option.some.inj H;go_wp2;go_ret
    exact ⟨t3_,t1_⟩

def impl_Valve_77_c96.f (k:Nat) (b:List (S51)) (d:List (S51)):Option (Bool):=(impl_Valve_107_c96.f k b d).bind fun a6=>(some (decide (a6≥0)))
theorem impl_Valve_77_c96.mono:∀ u x k,LeO (impl_Valve_77_c96.f k u x) (impl_Valve_77_c96.f (k+1) u x):=by
 intro u x k;unfold impl_Valve_77_c96.f
 with_reducible repeat' first|exact impl_Valve_107_c96.mono _ _ _|exact LeO.refl _|exact LeO.none _|refine LeO.ite ?_ ?_|refine LeO.bind ?_ (fun _=>?_)
theorem impl_Valve_77_c96.calls (k:Nat) (D:Option Addr) (G:Nat) (b:List (S51)) (E:Option Addr) (I:Nat) (d:List (S51)) (r:Bool) (w:World) (W:Kd.C k51 w D b.length b) (T:b.length≤G) (X:Kd.C k51 w E d.length d) (U:d.length≤I) (h:impl_Valve_77_c96.f k b d=some r):
  Calls Try.prog 77 #[.slice D b.length G,.func (.func 96) #[] #[.pointer E]] w fun e w'=>e=.returned (.bool r)∧Below w.heap.size w w':=by
 have a9:=a_ W;have aT:=a_ T;clear W T;have aA:=a_ X;have a8:=a_ U;clear X U;have HB:=a_ (Below.refl w.heap.size w);have H:((impl_Valve_107_c96.f k b d).bind fun a6=>(some (decide (a6≥0))))=some r:=h;clear h;replace H:=be_ H;obtain ⟨a6,aQ,H⟩:=H;have A3:=a_ aQ;clear aQ;obtain rfl:=Option.some.inj H;go_enter Try.func77,Try.ntmps77;go_wp2_with (first|((with_reducible refine gate_callee (f:=107) rfl ?_);refine goesL_ (some 7) rfl rfl Try.func107 t15_ rfl #[.slice D b.length G,.func (.func 96) #[] #[.pointer E]] rfl t2_ ?_;(with_reducible refine (impl_Valve_107_c96.calls k _ _ b _ I d a6 _ ?Z1 ?Z2 ?Z3 ?Z4 A3.out).mono ?_);(case Z1=>exact qc_ a9.out);(case Z2=>exact aT.out);(case Z3=>exact qc_ aA.out);(case Z4=>exact a8.out);rintro e w4 ⟨rfl,hb⟩;refine ⟨_,rfl,?_⟩;have g:=a_ (below_step t1_ hb);clear HB;have HB:=g;clear g;(try clear hb);(try clear hb2);(try clear hk);(try clear hi)));go_ret
 exact ⟨t3_,t1_⟩

end Go.Proofs.Ytheokilgacmlmaa.PFnExactNeedlessValves
