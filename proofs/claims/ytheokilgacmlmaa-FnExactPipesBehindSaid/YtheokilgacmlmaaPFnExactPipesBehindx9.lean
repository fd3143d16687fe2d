-- written by wip/xprint.py, a program of this session, for this claim; not trusted: Lean checks it.
import Derived.Test.YtheokilgacmlmaaPFnExactPipesBehindx0
import Derived.Test.YtheokilgacmlmaaPFnExactPipesBehindx4
namespace Go.Proofs.Ytheokilgacmlmaa.PFnExactPipesBehind
open Go.RowKit Go.Proofs.YtheokilgacmlmaaW.PrintWords Go.Proofs.YtheokilgacmlmaaW.PrintLast Go.Proofs.YtheokilgacmlmaaW.PrintMore
attribute [local go_sem] leq_less_ max2_int min2_int max_two min_two max_three min_three max_four min_four   -- for this text's walks alone
set_option linter.unusedVariables false
set_option linter.unusedSimpArgs false
set_option maxHeartbeats 8000000
set_option maxRecDepth 100000
def spec_l00Rises.l0:Nat→List Int→Int→Int→Int→Option (Bool)
 |0,_,_,_,_=>none
 |k+1,I,Z,x2,x7=>if x7<(I.length:Int) then (if 0≤x7 then ((spec_l00In.f (rd I x7) Z x2).bind fun ap=>(if ap=true then (if x7 > 0 then (if 0≤(wrap64 (x7 - 1)) then (if (wrap64 (x7 - 1))<(I.length:Int) then (if (rd I (wrap64 (x7 - 1)))≥(rd I x7) then (some false) else (spec_l00Rises.l0 k I Z x2 (wrap64 (x7+1)))) else (none)) else (none)) else (spec_l00Rises.l0 k I Z x2 (wrap64 (x7+1)))) else (some false))) else (none)) else (some true)
def spec_l00Rises.f (k:Nat) (b:List Int) (g:Int) (j:Int):Option (Bool):=spec_l00Rises.l0 k b g j 0
theorem spec_l00Rises.mono_l:∀ k,(∀ y0 y1 y2 y3,LeO (spec_l00Rises.l0 k y0 y1 y2 y3) (spec_l00Rises.l0 (k+1) y0 y1 y2 y3))
 |0=>fun _ _ _ _ r h=>by simp [spec_l00Rises.l0] at h
 |k+1=>by
  have aK:=spec_l00Rises.mono_l k
  ·intro y0 y1 y2 y3
   unfold spec_l00Rises.l0
   with_reducible repeat' first|exact aK _ _ _ _|exact LeO.refl _|exact LeO.none _|refine LeO.ite ?_ ?_|refine LeO.bind ?_ (fun _=>?_)
theorem spec_l00Rises.mono:∀ a0 g j k,LeO (spec_l00Rises.f k a0 g j) (spec_l00Rises.f (k+1) a0 g j):=by
 intro a0 g j k;have aK:=spec_l00Rises.mono_l k;unfold spec_l00Rises.f
 with_reducible repeat' first|exact aK _ _ _ _|exact LeO.refl _|exact LeO.none _|refine LeO.ite ?_ ?_|refine LeO.bind ?_ (fun _=>?_)
theorem spec_l00Rises.calls (k:Nat) (A0:Option Addr) (c0:Nat) (b:List Int) (g:Int) (j:Int) (r:Bool) (w:World) (aE:Kd.C (Kd.int .i64) w A0 b.length b) (aD:b.length≤c0) (h:spec_l00Rises.f k b g j=some r):
  Calls Try.prog 64 #[.slice A0 b.length c0,.int .i64 g,.int .i64 j] w fun e w'=>e=.returned (.bool r)∧Drawn0 w w':=by
 have t:=a_ aE;have aY:=a_ aD;clear aE aD;have H:(spec_l00Rises.l0 k b g j 0)=some r:=h;clear h;have H':=a_ H;clear H;go_enter Try.func64,Try.ntmps64;go_wp2;(repeat (go_quiet (fail);try go_wp2));go_loopg [7] k (fun kq v7 w'=>∃ (c:Int),v7=.int .i64 c∧Aside0 (spec_l00Rises.l0 kq b g j c=some r)∧Aside0 (kq≤k)∧Drawn0 w w')
 case atStart=>exact ⟨(0),t6_,H',⟨Nat.le_refl _⟩,t11_⟩
 case round=>
  clear H';(try clear p2);obtain ⟨c,rfl,HA,HK1,⟨m1,rfl⟩⟩:=hrel;cases gk with
  |zero=>exact absurd HA.out (by simp [spec_l00Rises.l0])
  |succ k1=>
   have H:=HA.out;clear HA;simp only [spec_l00Rises.l0] at H;by_cases c4:c<(b.length:Int)
   ·rw [if_pos c4] at H;have bJ:decide (c<(b.length:Int))=true:=d1_ c4;clear c4;by_cases c5:0≤c
    ·rw [if_pos c5] at H;have bj:decide (0≤c)=true:=d1_ c5;clear c5;replace H:=be_ H;obtain ⟨ap,az,H⟩:=H;have G:=a_ az;clear az;by_cases c7:ap=true
     ·subst c7;replace H:=(if_pos rfl).symm.trans H;by_cases L:c > 0
      ·rw [if_pos L] at H;have b2:decide (0<c)=true:=d1_ L;clear L;obtain ⟨i,aT⟩:∃ j_:Int,(wrap64 (c - 1))=j_:=⟨_,rfl⟩;replace H:(if 0≤(i) then (if (i)<(b.length:Int) then (if (rd b (i))≥(rd b c) then (some false) else (spec_l00Rises.l0 k1 b g j (wrap64 (c+1)))) else (none)) else (none))=some r:=(by first|(rw [aT] at H;exact H)|(simp only [aT] at H ⊢;exact H));(try rw [aT] at G);have bl:(IntKind.i64.wrap (c - 1))=i:=(i64_w _).trans aT;by_cases a7:0≤(i)
       ·rw [if_pos a7] at H;have bd:decide (0≤(i))=true:=d1_ a7;clear a7;by_cases x:(i)<(b.length:Int)
        ·rw [if_pos x] at H;have b1:decide ((i)<(b.length:Int))=true:=d1_ x;clear x;by_cases aP:(rd b (i))≥(rd b c)
         ·rw [if_pos aP] at H;have bG:decide ((rd b c)≤(rd b (i)))=true:=d1_ aP;clear aP;obtain rfl:=Option.some.inj H;have A:0≤(c:Int):=od_;have D:c<(b.length:Int):=od_;obtain ⟨y,aH,ak⟩:=Kd.at_int t.out c A D;cases aH;replace A:=eq_true A;replace D:=eq_true D;go_wp2_with (first|(go_at_call 98;(with_reducible refine (spec_l00In.calls (rd b c) g j true _ G.out).mono ?_);rintro e w' ⟨rfl,⟨nd,rfl⟩⟩;(try exact dd_);(try (have m:0≤((i):Int):=od_;have q:(i)<(b.length:Int):=od_;obtain ⟨J,M,aU⟩:=Kd.at_int t.out (i) m q;obtain rfl:y=J:=(by injection M);replace m:=eq_true m;replace q:=eq_true q;have o:0≤(c:Int):=od_;have l:c<(b.length:Int):=od_;obtain ⟨K,O,aV⟩:=Kd.at_int t.out c o l;obtain rfl:y=K:=(by injection O);replace o:=eq_true o;replace l:=eq_true l))));(first|(have h_:=l;clear h_)|(try (have m:0≤((i):Int):=od_;have q:(i)<(b.length:Int):=od_;obtain ⟨J,M,aU⟩:=Kd.at_int t.out (i) m q;obtain rfl:y=J:=(by injection M);replace m:=eq_true m;replace q:=eq_true q;have o:0≤(c:Int):=od_;have l:c<(b.length:Int):=od_;obtain ⟨K,O,aV⟩:=Kd.at_int t.out c o l;obtain rfl:y=K:=(by injection O);replace o:=eq_true o;replace l:=eq_true l)));(repeat (go_quiet (first|(go_at_call 98;(with_reducible refine (spec_l00In.calls (rd b c) g j true _ G.out).mono ?_);rintro e w' ⟨rfl,⟨nd,rfl⟩⟩;(try exact dd_)));try go_wp2_with (first|(go_at_call 98;(with_reducible refine (spec_l00In.calls (rd b c) g j true _ G.out).mono ?_);rintro e w' ⟨rfl,⟨nd,rfl⟩⟩;(try exact dd_);(try (have m:0≤((i):Int):=od_;have q:(i)<(b.length:Int):=od_;obtain ⟨J,M,aU⟩:=Kd.at_int t.out (i) m q;obtain rfl:y=J:=(by injection M);replace m:=eq_true m;replace q:=eq_true q;have o:0≤(c:Int):=od_;have l:c<(b.length:Int):=od_;obtain ⟨K,O,aV⟩:=Kd.at_int t.out c o l;obtain rfl:y=K:=(by injection O);replace o:=eq_true o;replace l:=eq_true l))))));go_ret
          exact ⟨(by first|rfl|(simp;done)|(simp only [← aT]<;>(first|rfl|simp))|(simp [*];done)),t11_⟩
         ·rw [if_neg aP] at H;have bG:decide ((rd b c)≤(rd b (i)))=false:=d2_ aP;clear aP;have H':=a_ H;clear H;have A:0≤(c:Int):=od_;have D:c<(b.length:Int):=od_;obtain ⟨y,aH,ak⟩:=Kd.at_int t.out c A D;cases aH;replace A:=eq_true A;replace D:=eq_true D;go_wp2_with (first|(go_at_call 98;(with_reducible refine (spec_l00In.calls (rd b c) g j true _ G.out).mono ?_);rintro e w' ⟨rfl,⟨nd,rfl⟩⟩;(try exact dd_);(try (have m:0≤((i):Int):=od_;have q:(i)<(b.length:Int):=od_;obtain ⟨J,M,aU⟩:=Kd.at_int t.out (i) m q;obtain rfl:y=J:=(by injection M);replace m:=eq_true m;replace q:=eq_true q;have o:0≤(c:Int):=od_;have l:c<(b.length:Int):=od_;obtain ⟨K,O,aV⟩:=Kd.at_int t.out c o l;obtain rfl:y=K:=(by injection O);replace o:=eq_true o;replace l:=eq_true l))));(first|(have h_:=l;clear h_)|(try (have m:0≤((i):Int):=od_;have q:(i)<(b.length:Int):=od_;obtain ⟨J,M,aU⟩:=Kd.at_int t.out (i) m q;obtain rfl:y=J:=(by injection M);replace m:=eq_true m;replace q:=eq_true q;have o:0≤(c:Int):=od_;have l:c<(b.length:Int):=od_;obtain ⟨K,O,aV⟩:=Kd.at_int t.out c o l;obtain rfl:y=K:=(by injection O);replace o:=eq_true o;replace l:=eq_true l)));(repeat (go_quiet (first|(go_at_call 98;(with_reducible refine (spec_l00In.calls (rd b c) g j true _ G.out).mono ?_);rintro e w' ⟨rfl,⟨nd,rfl⟩⟩;(try exact dd_)));try go_wp2_with (first|(go_at_call 98;(with_reducible refine (spec_l00In.calls (rd b c) g j true _ G.out).mono ?_);rintro e w' ⟨rfl,⟨nd,rfl⟩⟩;(try exact dd_);(try (have m:0≤((i):Int):=od_;have q:(i)<(b.length:Int):=od_;obtain ⟨J,M,aU⟩:=Kd.at_int t.out (i) m q;obtain rfl:y=J:=(by injection M);replace m:=eq_true m;replace q:=eq_true q;have o:0≤(c:Int):=od_;have l:c<(b.length:Int):=od_;obtain ⟨K,O,aV⟩:=Kd.at_int t.out c o l;obtain rfl:y=K:=(by injection O);replace o:=eq_true o;replace l:=eq_true l))))));go_roundg k1
          case measure=>have:=HK1.out;omega
          case rel=>exact ⟨(wrap64 (c+1)),t6_,H',⟨t54_⟩,t11_⟩
        ·rw [if_neg x] at H;exact absurd H t56_
       ·rw [if_neg a7] at H;exact absurd H t56_
      ·rw [if_neg L] at H;have b2:decide (0<c)=false:=d2_ L;clear L;have H':=a_ H;clear H;have A:0≤(c:Int):=od_;have D:c<(b.length:Int):=od_;obtain ⟨y,aH,ak⟩:=Kd.at_int t.out c A D;cases aH;replace A:=eq_true A;replace D:=eq_true D;go_wp2_with (first|(go_at_call 98;(with_reducible refine (spec_l00In.calls (rd b c) g j true _ G.out).mono ?_);rintro e w' ⟨rfl,⟨nd,rfl⟩⟩;(try exact dd_)));(repeat (go_quiet (first|(go_at_call 98;(with_reducible refine (spec_l00In.calls (rd b c) g j true _ G.out).mono ?_);rintro e w' ⟨rfl,⟨nd,rfl⟩⟩;(try exact dd_)));try go_wp2_with (first|(go_at_call 98;(with_reducible refine (spec_l00In.calls (rd b c) g j true _ G.out).mono ?_);rintro e w' ⟨rfl,⟨nd,rfl⟩⟩;(try exact dd_)))));go_roundg k1
       case measure=>have:=HK1.out;omega
       case rel=>exact ⟨(wrap64 (c+1)),t6_,H',⟨t54_⟩,t11_⟩
     ·replace c7:=Bool.eq_false_iff.mpr c7;subst c7;replace H:=(if_neg (show ¬ (false=true) by decide)).symm.trans H;obtain rfl:=Option.some.inj H;have A:0≤(c:Int):=od_;have D:c<(b.length:Int):=od_;obtain ⟨y,aH,ak⟩:=Kd.at_int t.out c A D;cases aH;replace A:=eq_true A;replace D:=eq_true D;go_wp2_with (first|(go_at_call 98;(with_reducible refine (spec_l00In.calls (rd b c) g j false _ G.out).mono ?_);rintro e w' ⟨rfl,⟨nd,rfl⟩⟩;(try exact dd_)));(repeat (go_quiet (first|(go_at_call 98;(with_reducible refine (spec_l00In.calls (rd b c) g j false _ G.out).mono ?_);rintro e w' ⟨rfl,⟨nd,rfl⟩⟩;(try exact dd_)));try go_wp2_with (first|(go_at_call 98;(with_reducible refine (spec_l00In.calls (rd b c) g j false _ G.out).mono ?_);rintro e w' ⟨rfl,⟨nd,rfl⟩⟩;(try exact dd_)))));go_ret
      exact ⟨t6_,t11_⟩
    ·rw [if_neg c5] at H;exact absurd H t56_
   ·rw [if_neg c4] at H;have bJ:decide (c<(b.length:Int))=false:=d2_ c4;clear c4;obtain rfl:=Option.some.inj H;go_wp2;(repeat (go_quiet (fail);try go_wp2));go_ret
    exact ⟨t6_,t11_⟩

def spec_l04Node.f (b:List (S33)) (g:Int):Option (Bool):=if 0<(b.length:Int) then ((spec_l00In.f g 0 (wrap64 ((((rd_T33 b 0).f0).length:Int) - 1))).bind fun aX=>(some aX)) else (none)
theorem spec_l04Node.calls (A0:Option Addr) (c0:Nat) (b:List (S33)) (g:Int) (r:Bool) (w:World) (aE:Kd.C k33 w A0 b.length b) (aD:b.length≤c0) (h:spec_l04Node.f b g=some r):
  Calls Try.prog 65 #[.pointer A0,.int .i64 g] w fun e w'=>e=.returned (.bool r)∧Drawn0 w w':=by
 have t:=a_ aE;have aY:=a_ aD;clear aE aD;have H:(if 0<(b.length:Int) then ((spec_l00In.f g 0 (wrap64 ((((rd_T33 b 0).f0).length:Int) - 1))).bind fun aX=>(some aX)) else (none))=some r:=h;clear h;by_cases c3:0<(b.length:Int)
 ·rw [if_pos c3] at H;have bh:decide (0<(b.length:Int))=true:=d1_ c3;have bi:decide (0<b.length)=true:=decide_eq_true t25_;clear c3;replace H:=be_ H;obtain ⟨aX,ay,H⟩:=H;have A4:=a_ ay;clear ay;obtain rfl:=Option.some.inj H;have an:0≤(0:Int):=t25_;have ao:0<(b.length:Int):=od_;obtain ⟨bc,bU,bf,bV,bg,bL,bM,bN,b7,b5,b8,b6⟩:=at_T33 t.out 0 an ao;cases bL;have bm:(0<b.length)=True:=eq_true t25_;(try rw [za_] at bM);(try rw [za_] at bN);have ba:=a_ b5;have bY:=a_ b7;clear b5 b7;have bb:=a_ b6;have bZ:=a_ b8;clear b6 b8;replace an:=eq_true an;replace ao:=eq_true ao;go_enter Try.func65,Try.ntmps65;go_wp2_with (first|((with_reducible refine gate_callee (f:=98) rfl ?_);refine goesL_ (some 12) rfl rfl Try.func98 t17_ rfl #[.int .i64 g,.int .i64 0,.int .i64 (wrap64 ((((rd_T33 b 0).f0).length:Int) - 1))] rfl t2_ ?_;(with_reducible refine (spec_l00In.calls g 0 (wrap64 ((((rd_T33 b 0).f0).length:Int) - 1)) aX _ A4.out).mono ?_);rintro e w' ⟨rfl,⟨nd,rfl⟩⟩;refine ⟨_,rfl,?_⟩));go_ret
  exact ⟨t6_,t11_⟩
 ·rw [if_neg c3] at H;exact absurd H t56_

def spec_l18Stands.l0:Nat→List (S33)→List (S51)→List Bool→Int→Bool→Int→Option (Bool)
 |0,_,_,_,_,_,_=>none
 |k+1,I,Z,x2,x3,x4,a9=>if a9<(Z.length:Int) then (if 0≤a9 then (if a9<(x2.length:Int) then (if rdOf false x2 a9=true then (if (((rd_T51 Z a9).f2)==x4)=true then ((spec_l18Pipe.f k I [rd_T51 Z a9]).bind fun Y=>(if Y=x3 then (some true) else (spec_l18Stands.l0 k I Z x2 x3 x4 (wrap64 (a9+1))))) else (spec_l18Stands.l0 k I Z x2 x3 x4 (wrap64 (a9+1)))) else (spec_l18Stands.l0 k I Z x2 x3 x4 (wrap64 (a9+1)))) else (none)) else (none)) else (some false)
def spec_l18Stands.f (k:Nat) (b:List (S33)) (l1:List (S51)) (v:List Bool) (u:Int) (s:Bool):Option (Bool):=spec_l18Stands.l0 k b l1 v u s 0
theorem spec_l18Stands.mono_l:∀ k,(∀ y0 y1 y2 y3 y4 y5,LeO (spec_l18Stands.l0 k y0 y1 y2 y3 y4 y5) (spec_l18Stands.l0 (k+1) y0 y1 y2 y3 y4 y5))
 |0=>fun _ _ _ _ _ _ r h=>by simp [spec_l18Stands.l0] at h
 |k+1=>by
  have aK:=spec_l18Stands.mono_l k
  ·intro y0 y1 y2 y3 y4 y5
   unfold spec_l18Stands.l0
   with_reducible repeat' first|exact aK _ _ _ _ _ _|exact spec_l18Pipe.mono _ _ _|exact LeO.refl _|exact LeO.none _|refine LeO.ite ?_ ?_|refine LeO.bind ?_ (fun _=>?_)
theorem spec_l18Stands.mono:∀ a0 g j u s k,LeO (spec_l18Stands.f k a0 g j u s) (spec_l18Stands.f (k+1) a0 g j u s):=by
 intro a0 g j u s k;have aK:=spec_l18Stands.mono_l k;unfold spec_l18Stands.f
 with_reducible repeat' first|exact aK _ _ _ _ _ _|exact spec_l18Pipe.mono _ _ _|exact LeO.refl _|exact LeO.none _|refine LeO.ite ?_ ?_|refine LeO.bind ?_ (fun _=>?_)
theorem spec_l18Stands.calls (k:Nat) (A0:Option Addr) (c0:Nat) (b:List (S33)) (A1:Option Addr) (c1:Nat) (l1:List (S51)) (A2:Option Addr) (c2:Nat) (v:List Bool) (u:Int) (s:Bool) (r:Bool) (w:World) (aE:Kd.C k33 w A0 b.length b) (aD:b.length≤c0) (b9:Kd.C k51 w A1 l1.length l1) (b3:l1.length≤c1) (bA:Kd.C Kd.bool w A2 v.length v) (b4:v.length≤c2) (h:spec_l18Stands.f k b l1 v u s=some r):
  Calls Try.prog 73 #[.pointer A0,.slice A1 l1.length c1,.slice A2 v.length c2,.int .i64 u,.bool s] w fun e w'=>e=.returned (.bool r)∧Drawn0 w w':=by
 have t:=a_ aE;have aY:=a_ aD;clear aE aD;have HR1:=a_ b9;have bW:=a_ b3;clear b9 b3;have aZ:=a_ bA;have bX:=a_ b4;clear bA b4;have H:(spec_l18Stands.l0 k b l1 v u s 0)=some r:=h;clear h;have H':=a_ H;clear H;go_enter Try.func73,Try.ntmps73;go_wp2;go_loopg [11] k (fun kq bS w'=>∃ (d:Int),bS=.int .i64 d∧Aside0 (spec_l18Stands.l0 kq b l1 v u s d=some r)∧Aside0 (kq≤k)∧Drawn0 w w')
 case atStart=>exact ⟨(0),t6_,H',⟨Nat.le_refl _⟩,t11_⟩
 case round=>
  clear H';(try clear c1);(try clear c2);(try clear p2);obtain ⟨d,rfl,HA,HK1,⟨m1,rfl⟩⟩:=hrel;cases gk with
  |zero=>exact absurd HA.out (by simp [spec_l18Stands.l0])
  |succ k1=>
   have H:=HA.out;clear HA;simp only [spec_l18Stands.l0] at H;by_cases c6:d<(l1.length:Int)
   ·rw [if_pos c6] at H;have bK:decide (d<(l1.length:Int))=true:=d1_ c6;clear c6;by_cases c7:0≤d
    ·rw [if_pos c7] at H;have bk:decide (0≤d)=true:=d1_ c7;clear c7;by_cases L:d<(v.length:Int)
     ·rw [if_pos L] at H;have b2:decide (d<(v.length:Int))=true:=d1_ L;clear L;obtain ⟨b0,hbq9⟩:∃ b_:Bool,b_=(rdOf false v d):=⟨_,rfl⟩;replace H:(if b0=true then (if (((rd_T51 l1 d).f2)==s)=true then ((spec_l18Pipe.f k1 b [rd_T51 l1 d]).bind fun Y=>(if Y=u then (some true) else (spec_l18Stands.l0 k1 b l1 v u s (wrap64 (d+1))))) else (spec_l18Stands.l0 k1 b l1 v u s (wrap64 (d+1)))) else (spec_l18Stands.l0 k1 b l1 v u s (wrap64 (d+1))))=some r:=(by rw [← hbq9] at H;exact H);have a6:=a_ hbq9;clear hbq9;by_cases a7:b0=true
      ·subst a7;replace H:=(if_pos rfl).symm.trans H;by_cases x:(((rd_T51 l1 d).f2)==s)=true
       ·rw [if_pos x] at H;have b1:(((rd_T51 l1 d).f2)==s)=true:=x;(try (have bE:decide (((rd_T51 l1 d).f2)=s)=true:=by simpa using x));(try (have bF:(((rd_T51 l1 d).f2)==s)=true:=by simpa using x));clear x;replace H:=be_ H;obtain ⟨Y,aw,H⟩:=H;have av:=a_ aw;clear aw;by_cases aG:Y=u
        ·rw [if_pos aG] at H;have bH:(Y==u)=true:=b1_ aG;have bI:(Y !=u)=false:=b4_ aG;clear aG;obtain rfl:=Option.some.inj H;have B:0≤(d:Int):=od_;have E:d<(v.length:Int):=od_;obtain ⟨af,aI,aJ⟩:=Kd.at_bool aZ.out d B E;(try rw [← a6.out] at aJ);cases aI;replace B:=eq_true B;replace E:=eq_true E;have T:0≤(d:Int):=od_;have W:d<(l1.length:Int):=od_;obtain ⟨aa,aS,bB,bC,aW⟩:=at_T51 HR1.out d T W;(try rw [← a6.out] at aW);cases aS;replace T:=eq_true T;replace W:=eq_true W;have U:0≤(d:Int):=od_;have X:d<(l1.length:Int):=od_;obtain ⟨ag,aj,bO,bP,am⟩:=at_T51 HR1.out d U X;(try rw [← a6.out] at am);obtain rfl:aa=ag:=(by injection aj);replace U:=eq_true U;replace X:=eq_true X;go_wp2_with (first|(go_at_call 81;(with_reducible refine (spec_l18Pipe.calls k1 _ c0 b _ 1 [rd_T51 l1 d] Y _ ?Z1 ?Z2 ?Z3 ?Z4 av.out).mono ?_);(case Z1=>exact qc_ t.out);(case Z2=>exact aY.out);(case Z3=>exact Kd.C_sub (z:=z51) (n:=l1.length) ((by repeat (first|exact HR1.out|(with_reducible refine Kd.C_alloc ?_ _)|(with_reducible refine Kd.C_drewN ?_ _)|(with_reducible refine Kd.C_drew ?_)))) (by first|exact U|exact of_eq_true U|omega) (by first|exact X|exact of_eq_true X|omega));(case Z4=>exact Nat.le_refl _);rintro e w' ⟨rfl,⟨nd,rfl⟩⟩));go_ret
         exact ⟨t6_,t11_⟩
        ·rw [if_neg aG] at H;have bH:(Y==u)=false:=b2_ aG;have bI:(Y !=u)=true:=b3_ aG;have H':=a_ H;clear H;have B:0≤(d:Int):=od_;have E:d<(v.length:Int):=od_;obtain ⟨af,aI,aJ⟩:=Kd.at_bool aZ.out d B E;(try rw [← a6.out] at aJ);cases aI;replace B:=eq_true B;replace E:=eq_true E;have T:0≤(d:Int):=od_;have W:d<(l1.length:Int):=od_;obtain ⟨aa,aS,bB,bC,aW⟩:=at_T51 HR1.out d T W;(try rw [← a6.out] at aW);cases aS;replace T:=eq_true T;replace W:=eq_true W;have U:0≤(d:Int):=od_;have X:d<(l1.length:Int):=od_;obtain ⟨ag,aj,bO,bP,am⟩:=at_T51 HR1.out d U X;(try rw [← a6.out] at am);obtain rfl:aa=ag:=(by injection aj);replace U:=eq_true U;replace X:=eq_true X;go_wp2_with (first|(go_at_call 81;(with_reducible refine (spec_l18Pipe.calls k1 _ c0 b _ 1 [rd_T51 l1 d] Y _ ?Z1 ?Z2 ?Z3 ?Z4 av.out).mono ?_);(case Z1=>exact qc_ t.out);(case Z2=>exact aY.out);(case Z3=>exact Kd.C_sub (z:=z51) (n:=l1.length) ((by repeat (first|exact HR1.out|(with_reducible refine Kd.C_alloc ?_ _)|(with_reducible refine Kd.C_drewN ?_ _)|(with_reducible refine Kd.C_drew ?_)))) (by first|exact U|exact of_eq_true U|omega) (by first|exact X|exact of_eq_true X|omega));(case Z4=>exact Nat.le_refl _);rintro e w' ⟨rfl,⟨nd,rfl⟩⟩));go_roundg k1
         case measure=>have:=HK1.out;omega
         case rel=>exact ⟨(wrap64 (d+1)),t6_,H',⟨t54_⟩,t11_⟩
       ·rw [if_neg x] at H;have b1:(((rd_T51 l1 d).f2)==s)=false:=(by simpa using x);(try (have bE:decide (((rd_T51 l1 d).f2)=s)=false:=by simpa using x));(try (have bF:(((rd_T51 l1 d).f2)==s)=false:=by simpa using x));(try (have be:¬ (((rd_T51 l1 d).f2)=s):=by simpa using x));clear x;have H':=a_ H;clear H;have B:0≤(d:Int):=od_;have E:d<(v.length:Int):=od_;obtain ⟨af,aI,aJ⟩:=Kd.at_bool aZ.out d B E;(try rw [← a6.out] at aJ);cases aI;replace B:=eq_true B;replace E:=eq_true E;have T:0≤(d:Int):=od_;have W:d<(l1.length:Int):=od_;obtain ⟨aa,aS,bB,bC,aW⟩:=at_T51 HR1.out d T W;(try rw [← a6.out] at aW);cases aS;replace T:=eq_true T;replace W:=eq_true W;go_wp2;go_roundg k1
        case measure=>have:=HK1.out;omega
        case rel=>exact ⟨(wrap64 (d+1)),t6_,H',⟨t54_⟩,t11_⟩
      ·replace a7:=Bool.eq_false_iff.mpr a7;subst a7;replace H:=(if_neg (show ¬ (false=true) by decide)).symm.trans H;have H':=a_ H;clear H;have B:0≤(d:Int):=od_;have E:d<(v.length:Int):=od_;obtain ⟨af,aI,aJ⟩:=Kd.at_bool aZ.out d B E;(try rw [← a6.out] at aJ);cases aI;replace B:=eq_true B;replace E:=eq_true E;go_wp2;go_roundg k1
       case measure=>have:=HK1.out;omega
       case rel=>exact ⟨(wrap64 (d+1)),t6_,H',⟨t54_⟩,t11_⟩
     ·rw [if_neg L] at H;exact absurd H t56_
    ·rw [if_neg c7] at H;exact absurd H t56_
   ·rw [if_neg c6] at H;have bK:decide (d<(l1.length:Int))=false:=d2_ c6;clear c6;obtain rfl:=Option.some.inj H;go_wp2;go_ret
    exact ⟨t6_,t11_⟩

end Go.Proofs.Ytheokilgacmlmaa.PFnExactPipesBehind
