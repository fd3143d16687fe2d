-- written by wip/xprint.py, a program of this session, for this claim; not trusted: Lean checks it.
import Derived.Test.YtheokilgacmlmaaPFnExactNeedlessValvesx0
namespace Go.Proofs.Ytheokilgacmlmaa.PFnExactNeedlessValves
open Go.RowKit Go.Proofs.YtheokilgacmlmaaW.PrintWords Go.Proofs.YtheokilgacmlmaaW.PrintLast Go.Proofs.YtheokilgacmlmaaW.PrintMore
attribute [local go_sem] leq_less_ max2_int min2_int max_two min_two max_three min_three max_four min_four   -- for this text's walks alone
set_option linter.unusedVariables false
set_option linter.unusedSimpArgs false
set_option maxHeartbeats 8000000
set_option maxRecDepth 100000
def spec_l01Small.f (b:Int):Option (Bool):=if b≥97 then (some (decide (b≤122))) else (some false)
theorem spec_l01Small.calls (b:Int) (r:Bool) (w:World) (h:spec_l01Small.f b=some r):
  Calls Try.prog 104 #[.int .u8 b] w fun e w'=>e=.returned (.bool r)∧Drawn0 w w':=by
 have H:(if b≥97 then (some (decide (b≤122))) else (some false))=some r:=h;clear h;by_cases l:b≥97
 ·rw [if_pos l] at H;have aV:decide (97≤b)=true:=d1_ l;clear l;obtain rfl:=Option.some.inj H;go_enter Try.func104,Try.ntmps104;go_wp2;go_ret
  exact ⟨t5_,t14_⟩
 ·rw [if_neg l] at H;have aV:decide (97≤b)=false:=d2_ l;clear l;obtain rfl:=Option.some.inj H;go_enter Try.func104,Try.ntmps104;go_wp2;go_ret
  exact ⟨t5_,t14_⟩

def spec_l01Digit.f (b:Int):Option (Bool):=if b≥48 then (some (decide (b≤57))) else (some false)
theorem spec_l01Digit.calls (b:Int) (r:Bool) (w:World) (h:spec_l01Digit.f b=some r):
  Calls Try.prog 105 #[.int .u8 b] w fun e w'=>e=.returned (.bool r)∧Drawn0 w w':=by
 have H:(if b≥48 then (some (decide (b≤57))) else (some false))=some r:=h;clear h;by_cases l:b≥48
 ·rw [if_pos l] at H;have aV:decide (48≤b)=true:=d1_ l;clear l;obtain rfl:=Option.some.inj H;go_enter Try.func105,Try.ntmps105;go_wp2;go_ret
  exact ⟨t5_,t14_⟩
 ·rw [if_neg l] at H;have aV:decide (48≤b)=false:=d2_ l;clear l;obtain rfl:=Option.some.inj H;go_enter Try.func105,Try.ntmps105;go_wp2;go_ret
  exact ⟨t5_,t14_⟩

mutual
def spec_l01Name.j0:Nat→ByteArray→Bool→Option (Bool)
 |0,_,_=>none
 |k+1,o,ba=>if ba=true then (some false) else (spec_l01Name.l0 k o 0)
def spec_l01Name.l0:Nat→ByteArray→Int→Option (Bool)
 |0,_,_=>none
 |k+1,o,x3=>if x3<(o.size:Int) then (if 0≤x3 then ((spec_l01Small.f (bt o x3)).bind fun ag=>(if ag=true then (spec_l01Name.l0 k o (wrap64 (x3+1))) else ((spec_l01Digit.f (bt o x3)).bind fun ah=>(if ah=true then (spec_l01Name.l0 k o (wrap64 (x3+1))) else (some false))))) else (none)) else (some true)
end
def spec_l01Name.f (k:Nat) (b:ByteArray):Option (Bool):=if b.toList=([]:List UInt8) then (spec_l01Name.j0 k b true) else (if (b.size:Int) > 10 then (spec_l01Name.j0 k b true) else (if 0<(b.size:Int) then ((spec_l01Small.f (bt b 0)).bind fun a3=>(spec_l01Name.j0 k b (!a3))) else (none)))
theorem spec_l01Name.mono_l:∀ k,(∀ v x,LeO (spec_l01Name.j0 k v x) (spec_l01Name.j0 (k+1) v x))∧(∀ v x,LeO (spec_l01Name.l0 k v x) (spec_l01Name.l0 (k+1) v x))
 |0=>⟨fun _ _ r h=>by simp [spec_l01Name.j0] at h,fun _ _ r h=>by simp [spec_l01Name.l0] at h⟩
 |k+1=>by
  obtain ⟨L,ae⟩:=spec_l01Name.mono_l k
  refine ⟨?_,?_⟩<;>intros<;>first|unfold spec_l01Name.j0|unfold spec_l01Name.l0
  all_goals
   with_reducible repeat' first|exact L _ _|exact ae _ _|exact LeO.refl _|exact LeO.none _|refine LeO.ite ?_ ?_|refine LeO.bind ?_ (fun _=>?_)
theorem spec_l01Name.mono:∀ b k,LeO (spec_l01Name.f k b) (spec_l01Name.f (k+1) b):=by
 intro b k;obtain ⟨L,ae⟩:=spec_l01Name.mono_l k;unfold spec_l01Name.f
 with_reducible repeat' first|exact L _ _|exact ae _ _|exact LeO.refl _|exact LeO.none _|refine LeO.ite ?_ ?_|refine LeO.bind ?_ (fun _=>?_)
theorem spec_l01Name.calls (k:Nat) (b:ByteArray) (r:Bool) (w:World) (h:spec_l01Name.f k b=some r):
  Calls Try.prog 72 #[.string b] w fun e w'=>e=.returned (.bool r)∧Drawn0 w w':=by
 have H:(if b.toList=([]:List UInt8) then (spec_l01Name.j0 k b true) else (if (b.size:Int) > 10 then (spec_l01Name.j0 k b true) else (if 0<(b.size:Int) then ((spec_l01Small.f (bt b 0)).bind fun a3=>(spec_l01Name.j0 k b (!a3))) else (none))))=some r:=h;clear h;have aR:=a_ H;clear H;go_enter Try.func72,Try.ntmps72;go_upto_region 1 with (fail);go_cut [16] (fun bX wc=>∃ (kq:Nat) (aP:Bool),bX=.bool aP∧Aside0 (spec_l01Name.j0 kq b aP=some r)∧Aside0 (kq≤k)∧Drawn0 w wc)
 case first=>
  have H:=aR.out;clear aR;by_cases j:b.toList=([]:List UInt8)
  ·rw [if_pos j] at H;have y:(b.toList==([]:List UInt8))=true:=b1_ j;have aN:(b.toList !=([]:List UInt8))=false:=b4_ j;clear j;(first|rw [y]|(simp only [i64_w,i32_w];rw [y])|skip);have H':=a_ H;clear H;go_wp2;go_meet
   case rel=>exact ⟨_,(true),t5_,H',⟨t65_⟩,t14_⟩
  ·rw [if_neg j] at H;have y:(b.toList==([]:List UInt8))=false:=b2_ j;have aN:(b.toList !=([]:List UInt8))=true:=b3_ j;(first|rw [y]|(simp only [i64_w,i32_w];rw [y])|skip);by_cases g:(b.size:Int) > 10
   ·rw [if_pos g] at H;have I:decide (10<(b.size:Int))=true:=d1_ g;have aW:decide (10<b.size)=true:=decide_eq_true t25_;clear g;have H':=a_ H;clear H;go_wp2;go_meet
    case rel=>exact ⟨_,(true),t5_,H',⟨t65_⟩,t14_⟩
   ·rw [if_neg g] at H;have I:decide (10<(b.size:Int))=false:=d2_ g;have aW:decide (10<b.size)=false:=decide_eq_false t25_;clear g;by_cases q:0<(b.size:Int)
    ·rw [if_pos q] at H;have aX:decide (0<(b.size:Int))=true:=d1_ q;have b1:decide (0<b.size)=true:=decide_eq_true t25_;clear q;replace H:=be_ H;obtain ⟨a3,au,H⟩:=H;have A7:=a_ au;clear au;have H':=a_ H;clear H;have p6:0≤(0:Int):=t25_;have Z:0<b.size:=(by have:(0:Int)<(b.size:Int):=od_;omega);have b7:∀ h:0<b.size,((b[0]'h).toNat:Int)=bt b 0:=bt_at b 0;clear p6;have b9:(0<(b.size:Int))=True:=eq_true (od_);replace Z:=eq_true Z;go_wp2_with (first|(go_at_call 104;(with_reducible refine (spec_l01Small.calls (bt b 0) a3 _ A7.out).mono ?_);rintro e w' ⟨rfl,⟨nd,rfl⟩⟩));go_meet
     case rel=>exact ⟨_,(!a3),t5_,H',⟨t65_⟩,t14_⟩
    ·rw [if_neg q] at H;exact absurd H t62_
 case rest=>
  clear aR;(try clear p2);(try clear j);(try clear y);(try clear aN);(try clear g);(try clear I);(try clear aW);(try clear q);(try clear aX);(try clear b1);(try clear p6);(try clear Z);(try clear b7);(try clear b9);(try clear u);(try clear p6);(try clear Z);obtain ⟨kq,aP,rfl,HA,HJ1,⟨mc1,rfl⟩⟩:=hcut;cases kq with
  |zero=>exact absurd HA.out (by simp [spec_l01Name.j0])
  |succ kj1=>
   have H:=HA.out;clear HA;simp only [spec_l01Name.j0] at H;by_cases c8:aP=true
   ·subst c8;replace H:=(if_pos rfl).symm.trans H;obtain rfl:=Option.some.inj H;go_wp2;go_ret
    exact ⟨t5_,t14_⟩
   ·replace c8:=Bool.eq_false_iff.mpr c8;subst c8;replace H:=(if_neg (show ¬ (false=true) by decide)).symm.trans H;have H':=a_ H;clear H;go_wp2;go_loopg [3] kj1 (fun kq v3 w'=>∃ (c:Int),v3=.int .i64 c∧Aside0 (spec_l01Name.l0 kq b c=some r)∧Aside0 (kq≤kj1)∧Drawn0 w w')
    case atStart=>exact ⟨(0),t5_,H',⟨Nat.le_refl _⟩,t14_⟩
    case round=>
     clear H';(try clear c1);(try clear p2);(try clear j);(try clear y);(try clear aN);(try clear g);(try clear I);(try clear aW);(try clear q);(try clear aX);(try clear b1);(try clear p6);(try clear Z);(try clear b7);(try clear b9);(try clear u);(try clear c8);(try clear p2);(try clear p6);(try clear Z);obtain ⟨c,rfl,HA,HK2,⟨m2,rfl⟩⟩:=hrel;cases gk with
     |zero=>exact absurd HA.out (by simp [spec_l01Name.l0])
     |succ k2=>
      have H:=HA.out;clear HA;simp only [spec_l01Name.l0] at H;by_cases Y:c<(b.size:Int)
      ·rw [if_pos Y] at H;have bN:decide (c<(b.size:Int))=true:=d1_ Y;clear Y;by_cases aK:0≤c
       ·rw [if_pos aK] at H;have bd:decide (0≤c)=true:=d1_ aK;clear aK;replace H:=be_ H;obtain ⟨ag,an,H⟩:=H;have aQ:=a_ an;clear an;by_cases aL:ag=true
        ·subst aL;replace H:=(if_pos rfl).symm.trans H;have H':=a_ H;clear H;have E:0≤(c:Int):=od_;have G:c<(b.size:Int):=od_;have b6:=bt_at b c;replace E:=eq_true E;replace G:=eq_true G;go_wp2_with (first|((with_reducible refine gate_callee (f:=104) rfl ?_);refine goesL_ (some 26) rfl rfl Try.func104 t15_ rfl #[.int .u8 (bt b c)] rfl t2_ ?_;(with_reducible refine (spec_l01Small.calls (bt b c) true _ aQ.out).mono ?_);rintro e w' ⟨rfl,⟨nd,rfl⟩⟩;refine ⟨_,rfl,?_⟩));go_roundg k2
         case measure=>have:=HJ1.out;have:=HK2.out;omega
         case rel=>exact ⟨(wrap64 (c+1)),t5_,H',⟨(by have:=HJ1.out;have:=HK2.out;omega)⟩,t14_⟩
        ·replace aL:=Bool.eq_false_iff.mpr aL;subst aL;replace H:=(if_neg (show ¬ (false=true) by decide)).symm.trans H;replace H:=be_ H;obtain ⟨ah,ap,H⟩:=H;have ao:=a_ ap;clear ap;by_cases aM:ah=true
         ·subst aM;replace H:=(if_pos rfl).symm.trans H;have H':=a_ H;clear H;have E:0≤(c:Int):=od_;have G:c<(b.size:Int):=od_;have b6:=bt_at b c;replace E:=eq_true E;replace G:=eq_true G;go_wp2_with (first|((with_reducible refine gate_callee (f:=104) rfl ?_);refine goesL_ (some 26) rfl rfl Try.func104 t15_ rfl #[.int .u8 (bt b c)] rfl t2_ ?_;(with_reducible refine (spec_l01Small.calls (bt b c) false _ aQ.out).mono ?_);rintro e w' ⟨rfl,⟨nd,rfl⟩⟩;refine ⟨_,rfl,?_⟩;have aF:0≤(c:Int):=od_;have aH:c<(b.size:Int):=od_;have bO:=bt_at b c;replace aF:=eq_true aF;replace aH:=eq_true aH)|(go_at_call 105;(with_reducible refine (spec_l01Digit.calls (bt b c) true _ ao.out).mono ?_);rintro e w' ⟨rfl,⟨nd,rfl⟩⟩));go_roundg k2
          case measure=>have:=HJ1.out;have:=HK2.out;omega
          case rel=>exact ⟨(wrap64 (c+1)),t5_,H',⟨(by have:=HJ1.out;have:=HK2.out;omega)⟩,t14_⟩
         ·replace aM:=Bool.eq_false_iff.mpr aM;subst aM;replace H:=(if_neg (show ¬ (false=true) by decide)).symm.trans H;obtain rfl:=Option.some.inj H;have E:0≤(c:Int):=od_;have G:c<(b.size:Int):=od_;have b6:=bt_at b c;replace E:=eq_true E;replace G:=eq_true G;go_wp2_with (first|((with_reducible refine gate_callee (f:=104) rfl ?_);refine goesL_ (some 26) rfl rfl Try.func104 t15_ rfl #[.int .u8 (bt b c)] rfl t2_ ?_;(with_reducible refine (spec_l01Small.calls (bt b c) false _ aQ.out).mono ?_);rintro e w' ⟨rfl,⟨nd,rfl⟩⟩;refine ⟨_,rfl,?_⟩;have aF:0≤(c:Int):=od_;have aH:c<(b.size:Int):=od_;have bO:=bt_at b c;replace aF:=eq_true aF;replace aH:=eq_true aH)|(go_at_call 105;(with_reducible refine (spec_l01Digit.calls (bt b c) false _ ao.out).mono ?_);rintro e w' ⟨rfl,⟨nd,rfl⟩⟩));go_ret
          exact ⟨t5_,t14_⟩
       ·rw [if_neg aK] at H;exact absurd H t62_
      ·rw [if_neg Y] at H;have bN:decide (c<(b.size:Int))=false:=d2_ Y;clear Y;obtain rfl:=Option.some.inj H;go_wp2;go_ret
       exact ⟨t5_,t14_⟩

def spec_l18Pipe.l0:Nat→List (S33)→List (S51)→Int→Option (Int)
 |0,_,_,_=>none
 |k+1,o,x1,x5=>if 0<(o.length:Int) then (if x5<(((rd_T33 o 0).f1).length:Int) then (if 0≤x5 then (if 0<(x1.length:Int) then (if ((rd_T100 ((rd_T33 o 0).f1) x5).f0).toList=((rd_T51 x1 0).f1).toList then (some x5) else (spec_l18Pipe.l0 k o x1 (wrap64 (x5+1)))) else (none)) else (none)) else (some (-1))) else (none)
def spec_l18Pipe.f (k:Nat) (d:List (S33)) (l1:List (S51)):Option (Int):=spec_l18Pipe.l0 k d l1 0
theorem spec_l18Pipe.mono_l:∀ k,(∀ v x y2,LeO (spec_l18Pipe.l0 k v x y2) (spec_l18Pipe.l0 (k+1) v x y2))
 |0=>fun _ _ _ r h=>by simp [spec_l18Pipe.l0] at h
 |k+1=>by
  have L:=spec_l18Pipe.mono_l k
  ·intro v x y2
   unfold spec_l18Pipe.l0
   with_reducible repeat' first|exact L _ _ _|exact LeO.refl _|exact LeO.none _|refine LeO.ite ?_ ?_|refine LeO.bind ?_ (fun _=>?_)
theorem spec_l18Pipe.mono:∀ b m k,LeO (spec_l18Pipe.f k b m) (spec_l18Pipe.f (k+1) b m):=by
 intro b m k;have L:=spec_l18Pipe.mono_l k;unfold spec_l18Pipe.f
 with_reducible repeat' first|exact L _ _ _|exact LeO.refl _|exact LeO.none _|refine LeO.ite ?_ ?_|refine LeO.bind ?_ (fun _=>?_)
theorem spec_l18Pipe.calls (k:Nat) (A0:Option Addr) (c0:Nat) (d:List (S33)) (A1:Option Addr) (c1:Nat) (l1:List (S51)) (r:Int) (w:World) (b4:Kd.C k33 w A0 d.length d) (b2:d.length≤c0) (b5:Kd.C k51 w A1 l1.length l1) (b3:l1.length≤c1) (h:spec_l18Pipe.f k d l1=some r):
  Calls Try.prog 81 #[.pointer A0,.pointer A1] w fun e w'=>e=.returned (.int .i64 r)∧Drawn0 w w':=by
 have a5:=a_ b4;have bb:=a_ b2;clear b4 b2;have HR1:=a_ b5;have bc:=a_ b3;clear b5 b3;have H:(spec_l18Pipe.l0 k d l1 0)=some r:=h;clear h;have H':=a_ H;clear H;go_enter Try.func81,Try.ntmps81;go_wp2;(repeat (go_quiet (fail);try go_wp2));go_loopg [5] k (fun kq v5 w'=>∃ (i:Int),v5=.int .i64 i∧Aside0 (spec_l18Pipe.l0 kq d l1 i=some r)∧Aside0 (kq≤k)∧Drawn0 w w')
 case atStart=>exact ⟨(0),t5_,H',⟨Nat.le_refl _⟩,t14_⟩
 case round=>
  clear H';(try clear c1);(try clear p2);obtain ⟨i,rfl,HA,HK1,⟨m1,rfl⟩⟩:=hrel;cases gk with
  |zero=>exact absurd HA.out (by simp [spec_l18Pipe.l0])
  |succ k1=>
   have H:=HA.out;clear HA;simp only [spec_l18Pipe.l0] at H;by_cases j:0<(d.length:Int)
   ·rw [if_pos j] at H;have y:decide (0<(d.length:Int))=true:=d1_ j;have aN:decide (0<d.length)=true:=decide_eq_true t25_;clear j;by_cases g:i<(((rd_T33 d 0).f1).length:Int)
    ·rw [if_pos g] at H;have I:decide (i<(((rd_T33 d 0).f1).length:Int))=true:=d1_ g;clear g;by_cases q:0≤i
     ·rw [if_pos q] at H;have aX:decide (0≤i)=true:=d1_ q;clear q;by_cases c6:0<(l1.length:Int)
      ·rw [if_pos c6] at H;have be:decide (0<(l1.length:Int))=true:=d1_ c6;have bf:decide (0<l1.length)=true:=decide_eq_true t25_;clear c6;by_cases u:((rd_T100 ((rd_T33 d 0).f1) i).f0).toList=((rd_T51 l1 0).f1).toList
       ·rw [if_pos u] at H;have bL:(((rd_T100 ((rd_T33 d 0).f1) i).f0).toList==((rd_T51 l1 0).f1).toList)=true:=b1_ u;have bM:(((rd_T100 ((rd_T33 d 0).f1) i).f0).toList !=((rd_T51 l1 0).f1).toList)=false:=b4_ u;clear u;obtain rfl:=Option.some.inj H;have s:0≤(0:Int):=t25_;have t:0<(d.length:Int):=od_;obtain ⟨aJ,aq,az,ar,b0,a8,J,K,B,z,D,A⟩:=at_T33 a5.out 0 s t;cases a8;have b8:(0<d.length)=True:=eq_true t25_;(try rw [za_] at J);(try rw [za_] at K);have ax:=a_ z;have av:=a_ B;clear z B;have ay:=a_ A;have aw:=a_ D;clear A D;replace s:=eq_true s;replace t:=eq_true t;have M:0≤(0:Int):=t25_;have U:0<(d.length:Int):=od_;obtain ⟨aT,bA,bJ,bB,bK,aY,aD,aE,aB,a9,aC,aA⟩:=at_T33 a5.out 0 M U;obtain rfl:aJ=aT:=(by injection aY);have bV:(0<d.length)=True:=eq_true t25_;(try rw [za_] at aD);(try rw [za_] at aE);have bF:=a_ a9;have bD:=a_ aB;clear a9 aB;have aS:=a_ aA;have bE:=a_ aC;clear aA aC;replace M:=eq_true M;replace U:=eq_true U;have ea_:=Option.some.inj (J.symm.trans aD);injection ea_ with ea_ en_ ec_;subst ea_;subst ec_;clear en_;have ea_:=Option.some.inj (K.symm.trans aE);injection ea_ with ea_ en_ ec_;subst ea_;subst ec_;clear en_;have O:0≤(i:Int):=od_;have W:i<(((rd_T33 d 0).f1).length:Int):=od_;obtain ⟨bG,aZ,bP,bQ,bR,bS,bT,bU⟩:=at_T100 aS.out i O W;cases aZ;replace O:=eq_true O;replace W:=eq_true W;have T:0≤(0:Int):=t25_;have X:0<(l1.length:Int):=od_;obtain ⟨bH,aa,ab,ac,ad⟩:=at_T51 HR1.out 0 T X;cases aa;have bW:(0<l1.length)=True:=eq_true t25_;(try rw [za_] at ab);(try rw [za_] at ac);(try rw [za_] at ad);replace T:=eq_true T;replace X:=eq_true X;go_wp2;(repeat (go_quiet (fail);try go_wp2));go_ret
        exact ⟨t5_,t14_⟩
       ·rw [if_neg u] at H;have bL:(((rd_T100 ((rd_T33 d 0).f1) i).f0).toList==((rd_T51 l1 0).f1).toList)=false:=b2_ u;have bM:(((rd_T100 ((rd_T33 d 0).f1) i).f0).toList !=((rd_T51 l1 0).f1).toList)=true:=b3_ u;have H':=a_ H;clear H;have s:0≤(0:Int):=t25_;have t:0<(d.length:Int):=od_;obtain ⟨aJ,aq,az,ar,b0,a8,J,K,B,z,D,A⟩:=at_T33 a5.out 0 s t;cases a8;have b8:(0<d.length)=True:=eq_true t25_;(try rw [za_] at J);(try rw [za_] at K);have ax:=a_ z;have av:=a_ B;clear z B;have ay:=a_ A;have aw:=a_ D;clear A D;replace s:=eq_true s;replace t:=eq_true t;have M:0≤(0:Int):=t25_;have U:0<(d.length:Int):=od_;obtain ⟨aT,bA,bJ,bB,bK,aY,aD,aE,aB,a9,aC,aA⟩:=at_T33 a5.out 0 M U;obtain rfl:aJ=aT:=(by injection aY);have bV:(0<d.length)=True:=eq_true t25_;(try rw [za_] at aD);(try rw [za_] at aE);have bF:=a_ a9;have bD:=a_ aB;clear a9 aB;have aS:=a_ aA;have bE:=a_ aC;clear aA aC;replace M:=eq_true M;replace U:=eq_true U;have ea_:=Option.some.inj (J.symm.trans aD);injection ea_ with ea_ en_ ec_;subst ea_;subst ec_;clear en_;have ea_:=Option.some.inj (K.symm.trans aE);injection ea_ with ea_ en_ ec_;subst ea_;subst ec_;clear en_;have O:0≤(i:Int):=od_;have W:i<(((rd_T33 d 0).f1).length:Int):=od_;obtain ⟨bG,aZ,bP,bQ,bR,bS,bT,bU⟩:=at_T100 aS.out i O W;cases aZ;replace O:=eq_true O;replace W:=eq_true W;have T:0≤(0:Int):=t25_;have X:0<(l1.length:Int):=od_;obtain ⟨bH,aa,ab,ac,ad⟩:=at_T51 HR1.out 0 T X;cases aa;have bW:(0<l1.length)=True:=eq_true t25_;(try rw [za_] at ab);(try rw [za_] at ac);(try rw [za_] at ad);replace T:=eq_true T;replace X:=eq_true X;go_wp2;(repeat (go_quiet (fail);try go_wp2));go_roundg k1
        case measure=>have:=HK1.out;omega
        case rel=>exact ⟨(wrap64 (i+1)),t5_,H',⟨t58_⟩,t14_⟩
      ·rw [if_neg c6] at H;exact absurd H t62_
     ·rw [if_neg q] at H;exact absurd H t62_
    ·rw [if_neg g] at H;have I:decide (i<(((rd_T33 d 0).f1).length:Int))=false:=d2_ g;clear g;obtain rfl:=Option.some.inj H;have s:0≤(0:Int):=t25_;have t:0<(d.length:Int):=od_;obtain ⟨aJ,aq,az,ar,b0,a8,J,K,B,z,D,A⟩:=at_T33 a5.out 0 s t;cases a8;have b8:(0<d.length)=True:=eq_true t25_;(try rw [za_] at J);(try rw [za_] at K);have ax:=a_ z;have av:=a_ B;clear z B;have ay:=a_ A;have aw:=a_ D;clear A D;replace s:=eq_true s;replace t:=eq_true t;go_wp2;(repeat (go_quiet (fail);try go_wp2));go_ret
     exact ⟨t5_,t14_⟩
   ·rw [if_neg j] at H;exact absurd H t62_

def spec_l00In.f (b:Int) (m:Int) (a2:Int):Option (Bool):=if b≥m then (some (decide (b≤a2))) else (some false)
theorem spec_l00In.calls (b:Int) (m:Int) (a2:Int) (r:Bool) (w:World) (h:spec_l00In.f b m a2=some r):
  Calls Try.prog 98 #[.int .i64 b,.int .i64 m,.int .i64 a2] w fun e w'=>e=.returned (.bool r)∧Drawn0 w w':=by
 have H:(if b≥m then (some (decide (b≤a2))) else (some false))=some r:=h;clear h;by_cases g:b≥m
 ·rw [if_pos g] at H;have I:decide (m≤b)=true:=d1_ g;clear g;obtain rfl:=Option.some.inj H;go_enter Try.func98,Try.ntmps98;go_wp2;go_ret
  exact ⟨t5_,t14_⟩
 ·rw [if_neg g] at H;have I:decide (m≤b)=false:=d2_ g;clear g;obtain rfl:=Option.some.inj H;go_enter Try.func98,Try.ntmps98;go_wp2;go_ret
  exact ⟨t5_,t14_⟩

end Go.Proofs.Ytheokilgacmlmaa.PFnExactNeedlessValves
