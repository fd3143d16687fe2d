-- written by wip/xprint.py, a program of this session, for this claim; not trusted: Lean checks it.
import Derived.Test.YtjelfhmgbhidnaaPFnExactRouteTox0
import Derived.Test.YtjelfhmgbhidnaaPFnExactRouteTox2
import Derived.Test.YtjelfhmgbhidnaaPFnExactRouteTox5
namespace Go.Proofs.Ytjelfhmgbhidnaa.PFnExactRouteTo
open Go.RowKit Go.Proofs.YtjelfhmgbhidnaaW.PrintWords Go.Proofs.YtjelfhmgbhidnaaW.PrintLast Go.Proofs.YtjelfhmgbhidnaaW.PrintMore
attribute [local go_sem] leq_less_ max2_int min2_int max_two min_two max_three min_three max_four min_four   -- for this text's walks alone
set_option linter.unusedVariables false
set_option linter.unusedSimpArgs false
set_option maxHeartbeats 8000000
set_option maxRecDepth 100000
def spec_l04Node.f (b:List (S32)) (d:Int):Option (Bool):=if 0<(b.length:Int) then ((spec_l00In.f d 0 (wrap64 ((((rd_T32 b 0).f0).length:Int) - 1))).bind fun aZ=>(some aZ)) else (none)
theorem spec_l04Node.calls (x:Option Addr) (y:Nat) (b:List (S32)) (d:Int) (r:Bool) (w:World) (J:Kd.C k32 w x b.length b) (I:b.length≤y) (h:spec_l04Node.f b d=some r):
  Calls Try.prog 55 #[.pointer x,.int .i64 d] w fun e w'=>e=.returned (.bool r)∧Drawn0 w w':=by
 have g:=a_ J;have a4:=a_ I;clear J I;have H:(if 0<(b.length:Int) then ((spec_l00In.f d 0 (wrap64 ((((rd_T32 b 0).f0).length:Int) - 1))).bind fun aZ=>(some aZ)) else (none))=some r:=h;clear h;by_cases A:0<(b.length:Int)
 ·rw [if_pos A] at H;have aj:decide (0<(b.length:Int))=true:=d1_ A;have bS:decide (0<b.length)=true:=decide_eq_true t48_;clear A;replace H:=be_ H;obtain ⟨aZ,aD,H⟩:=H;have A4:=a_ aD;clear aD;obtain rfl:=Option.some.inj H;have an:0≤(0:Int):=t48_;have ap:0<(b.length:Int):=od_;obtain ⟨bv,bi,c9,bj,cA,bV,bX,bY,bK,bG,bL,bH⟩:=at_T32 g.out 0 an ap;cases bV;have cG:(0<b.length)=True:=eq_true t48_;(try rw [za_] at bX);(try rw [za_] at bY);have bq:=a_ bG;have bm:=a_ bK;clear bG bK;have br:=a_ bH;have bn:=a_ bL;clear bH bL;replace an:=eq_true an;replace ap:=eq_true ap;go_enter Try.func55,Try.ntmps55;go_wp2_with (first|((with_reducible refine gate_callee (f:=64) rfl ?_);refine goesL_ (some 12) rfl rfl Try.func64 t27_ rfl #[.int .i64 d,.int .i64 0,.int .i64 (wrap64 ((((rd_T32 b 0).f0).length:Int) - 1))] rfl t2_ ?_;(with_reducible refine (spec_l00In.calls d 0 (wrap64 ((((rd_T32 b 0).f0).length:Int) - 1)) aZ _ A4.out).mono ?_);rintro e w' ⟨rfl,⟨nd,rfl⟩⟩;refine ⟨_,rfl,?_⟩));go_ret
  exact ⟨t8_,t14_⟩
 ·rw [if_neg A] at H;exact absurd H t64_

def spec_l00Rises.l0:Nat→List Int→Int→Int→Int→Option (Bool)
 |0,_,_,_,_=>none
 |k+1,x0,x1,x2,x7=>if x7<(x0.length:Int) then (if 0≤x7 then ((spec_l00In.f (rd x0 x7) x1 x2).bind fun ar=>(if ar=true then (if x7 > 0 then (if 0≤(wrap64 (x7 - 1)) then (if (wrap64 (x7 - 1))<(x0.length:Int) then (if (rd x0 (wrap64 (x7 - 1)))≥(rd x0 x7) then (some false) else (spec_l00Rises.l0 k x0 x1 x2 (wrap64 (x7+1)))) else (none)) else (none)) else (spec_l00Rises.l0 k x0 x1 x2 (wrap64 (x7+1)))) else (some false))) else (none)) else (some true)
def spec_l00Rises.f (k:Nat) (b:List Int) (d:Int) (j:Int):Option (Bool):=spec_l00Rises.l0 k b d j 0
theorem spec_l00Rises.mono_l:∀ k,(∀ y0 y1 y2 y3,LeO (spec_l00Rises.l0 k y0 y1 y2 y3) (spec_l00Rises.l0 (k+1) y0 y1 y2 y3))
 |0=>fun _ _ _ _ r h=>by simp [spec_l00Rises.l0] at h
 |k+1=>by
  have aJ:=spec_l00Rises.mono_l k
  ·intro y0 y1 y2 y3
   unfold spec_l00Rises.l0
   with_reducible repeat' first|exact aJ _ _ _ _|exact LeO.refl _|exact LeO.none _|refine LeO.ite ?_ ?_|refine LeO.bind ?_ (fun _=>?_)
theorem spec_l00Rises.mono:∀ B d j k,LeO (spec_l00Rises.f k B d j) (spec_l00Rises.f (k+1) B d j):=by
 intro B d j k;have aJ:=spec_l00Rises.mono_l k;unfold spec_l00Rises.f
 with_reducible repeat' first|exact aJ _ _ _ _|exact LeO.refl _|exact LeO.none _|refine LeO.ite ?_ ?_|refine LeO.bind ?_ (fun _=>?_)
theorem spec_l00Rises.calls (k:Nat) (x:Option Addr) (y:Nat) (b:List Int) (d:Int) (j:Int) (r:Bool) (w:World) (J:Kd.C (Kd.int .i64) w x b.length b) (I:b.length≤y) (h:spec_l00Rises.f k b d j=some r):
  Calls Try.prog 87 #[.slice x b.length y,.int .i64 d,.int .i64 j] w fun e w'=>e=.returned (.bool r)∧Drawn0 w w':=by
 have g:=a_ J;have a4:=a_ I;clear J I;have H:(spec_l00Rises.l0 k b d j 0)=some r:=h;clear h;have H':=a_ H;clear H;go_enter Try.func87,Try.ntmps87;go_wp2;(repeat (go_quiet (fail);try go_wp2));go_loopg [7] k (fun kq v7 w'=>∃ (c:Int),v7=.int .i64 c∧Aside0 (spec_l00Rises.l0 kq b d j c=some r)∧Aside0 (kq≤k)∧Drawn0 w w')
 case atStart=>exact ⟨(0),t8_,H',⟨Nat.le_refl _⟩,t14_⟩
 case round=>
  clear H';(try clear p2);obtain ⟨c,rfl,HA,HK1,⟨m1,rfl⟩⟩:=hrel;cases gk with
  |zero=>exact absurd HA.out (by simp [spec_l00Rises.l0])
  |succ k1=>
   have H:=HA.out;clear HA;simp only [spec_l00Rises.l0] at H;by_cases O:c<(b.length:Int)
   ·rw [if_pos O] at H;have bD:decide (c<(b.length:Int))=true:=d1_ O;clear O;by_cases z:0≤c
    ·rw [if_pos z] at H;have bE:decide (0≤c)=true:=d1_ z;clear z;replace H:=be_ H;obtain ⟨ar,az,H⟩:=H;have K:=a_ az;clear az;by_cases c7:ar=true
     ·subst c7;replace H:=(if_pos rfl).symm.trans H;by_cases T:c > 0
      ·rw [if_pos T] at H;have bU:decide (0<c)=true:=d1_ T;clear T;obtain ⟨i,aV⟩:∃ j_:Int,(wrap64 (c - 1))=j_:=⟨_,rfl⟩;replace H:(if 0≤(i) then (if (i)<(b.length:Int) then (if (rd b (i))≥(rd b c) then (some false) else (spec_l00Rises.l0 k1 b d j (wrap64 (c+1)))) else (none)) else (none))=some r:=(by first|(rw [aV] at H;exact H)|(simp only [aV] at H ⊢;exact H));(try rw [aV] at K);have cF:(IntKind.i64.wrap (c - 1))=i:=(i64_w _).trans aV;by_cases a9:0≤(i)
       ·rw [if_pos a9] at H;have bx:decide (0≤(i))=true:=d1_ a9;clear a9;by_cases ae:(i)<(b.length:Int)
        ·rw [if_pos ae] at H;have bz:decide ((i)<(b.length:Int))=true:=d1_ ae;clear ae;by_cases aP:(rd b (i))≥(rd b c)
         ·rw [if_pos aP] at H;have bR:decide ((rd b c)≤(rd b (i)))=true:=d1_ aP;clear aP;obtain rfl:=Option.some.inj H;have E:0≤(c:Int):=od_;have G:c<(b.length:Int):=od_;obtain ⟨D,aI,am⟩:=Kd.at_int g.out c E G;cases aI;replace E:=eq_true E;replace G:=eq_true G;go_wp2_with (first|(go_at_call 64;(with_reducible refine (spec_l00In.calls (rd b c) d j true _ K.out).mono ?_);rintro e w' ⟨rfl,⟨nd,rfl⟩⟩;(try exact dd_);(try (have o:0≤((i):Int):=od_;have s:(i)<(b.length:Int):=od_;obtain ⟨L,U,aX⟩:=Kd.at_int g.out (i) o s;obtain rfl:D=L:=(by injection U);replace o:=eq_true o;replace s:=eq_true s;have q:0≤(c:Int):=od_;have m:c<(b.length:Int):=od_;obtain ⟨M,W,aY⟩:=Kd.at_int g.out c q m;obtain rfl:D=M:=(by injection W);replace q:=eq_true q;replace m:=eq_true m))));(first|(have h_:=m;clear h_)|(try (have o:0≤((i):Int):=od_;have s:(i)<(b.length:Int):=od_;obtain ⟨L,U,aX⟩:=Kd.at_int g.out (i) o s;obtain rfl:D=L:=(by injection U);replace o:=eq_true o;replace s:=eq_true s;have q:0≤(c:Int):=od_;have m:c<(b.length:Int):=od_;obtain ⟨M,W,aY⟩:=Kd.at_int g.out c q m;obtain rfl:D=M:=(by injection W);replace q:=eq_true q;replace m:=eq_true m)));(repeat (go_quiet (first|(go_at_call 64;(with_reducible refine (spec_l00In.calls (rd b c) d j true _ K.out).mono ?_);rintro e w' ⟨rfl,⟨nd,rfl⟩⟩;(try exact dd_)));try go_wp2_with (first|(go_at_call 64;(with_reducible refine (spec_l00In.calls (rd b c) d j true _ K.out).mono ?_);rintro e w' ⟨rfl,⟨nd,rfl⟩⟩;(try exact dd_);(try (have o:0≤((i):Int):=od_;have s:(i)<(b.length:Int):=od_;obtain ⟨L,U,aX⟩:=Kd.at_int g.out (i) o s;obtain rfl:D=L:=(by injection U);replace o:=eq_true o;replace s:=eq_true s;have q:0≤(c:Int):=od_;have m:c<(b.length:Int):=od_;obtain ⟨M,W,aY⟩:=Kd.at_int g.out c q m;obtain rfl:D=M:=(by injection W);replace q:=eq_true q;replace m:=eq_true m))))));go_ret
          exact ⟨(by first|rfl|(simp;done)|(simp only [← aV]<;>(first|rfl|simp))|(simp [*];done)),t14_⟩
         ·rw [if_neg aP] at H;have bR:decide ((rd b c)≤(rd b (i)))=false:=d2_ aP;clear aP;have H':=a_ H;clear H;have E:0≤(c:Int):=od_;have G:c<(b.length:Int):=od_;obtain ⟨D,aI,am⟩:=Kd.at_int g.out c E G;cases aI;replace E:=eq_true E;replace G:=eq_true G;go_wp2_with (first|(go_at_call 64;(with_reducible refine (spec_l00In.calls (rd b c) d j true _ K.out).mono ?_);rintro e w' ⟨rfl,⟨nd,rfl⟩⟩;(try exact dd_);(try (have o:0≤((i):Int):=od_;have s:(i)<(b.length:Int):=od_;obtain ⟨L,U,aX⟩:=Kd.at_int g.out (i) o s;obtain rfl:D=L:=(by injection U);replace o:=eq_true o;replace s:=eq_true s;have q:0≤(c:Int):=od_;have m:c<(b.length:Int):=od_;obtain ⟨M,W,aY⟩:=Kd.at_int g.out c q m;obtain rfl:D=M:=(by injection W);replace q:=eq_true q;replace m:=eq_true m))));(first|(have h_:=m;clear h_)|(try (have o:0≤((i):Int):=od_;have s:(i)<(b.length:Int):=od_;obtain ⟨L,U,aX⟩:=Kd.at_int g.out (i) o s;obtain rfl:D=L:=(by injection U);replace o:=eq_true o;replace s:=eq_true s;have q:0≤(c:Int):=od_;have m:c<(b.length:Int):=od_;obtain ⟨M,W,aY⟩:=Kd.at_int g.out c q m;obtain rfl:D=M:=(by injection W);replace q:=eq_true q;replace m:=eq_true m)));(repeat (go_quiet (first|(go_at_call 64;(with_reducible refine (spec_l00In.calls (rd b c) d j true _ K.out).mono ?_);rintro e w' ⟨rfl,⟨nd,rfl⟩⟩;(try exact dd_)));try go_wp2_with (first|(go_at_call 64;(with_reducible refine (spec_l00In.calls (rd b c) d j true _ K.out).mono ?_);rintro e w' ⟨rfl,⟨nd,rfl⟩⟩;(try exact dd_);(try (have o:0≤((i):Int):=od_;have s:(i)<(b.length:Int):=od_;obtain ⟨L,U,aX⟩:=Kd.at_int g.out (i) o s;obtain rfl:D=L:=(by injection U);replace o:=eq_true o;replace s:=eq_true s;have q:0≤(c:Int):=od_;have m:c<(b.length:Int):=od_;obtain ⟨M,W,aY⟩:=Kd.at_int g.out c q m;obtain rfl:D=M:=(by injection W);replace q:=eq_true q;replace m:=eq_true m))))));go_roundg k1
          case measure=>have:=HK1.out;omega
          case rel=>exact ⟨(wrap64 (c+1)),t8_,H',⟨t72_⟩,t14_⟩
        ·rw [if_neg ae] at H;exact absurd H t64_
       ·rw [if_neg a9] at H;exact absurd H t64_
      ·rw [if_neg T] at H;have bU:decide (0<c)=false:=d2_ T;clear T;have H':=a_ H;clear H;have E:0≤(c:Int):=od_;have G:c<(b.length:Int):=od_;obtain ⟨D,aI,am⟩:=Kd.at_int g.out c E G;cases aI;replace E:=eq_true E;replace G:=eq_true G;go_wp2_with (first|(go_at_call 64;(with_reducible refine (spec_l00In.calls (rd b c) d j true _ K.out).mono ?_);rintro e w' ⟨rfl,⟨nd,rfl⟩⟩;(try exact dd_)));(repeat (go_quiet (first|(go_at_call 64;(with_reducible refine (spec_l00In.calls (rd b c) d j true _ K.out).mono ?_);rintro e w' ⟨rfl,⟨nd,rfl⟩⟩;(try exact dd_)));try go_wp2_with (first|(go_at_call 64;(with_reducible refine (spec_l00In.calls (rd b c) d j true _ K.out).mono ?_);rintro e w' ⟨rfl,⟨nd,rfl⟩⟩;(try exact dd_)))));go_roundg k1
       case measure=>have:=HK1.out;omega
       case rel=>exact ⟨(wrap64 (c+1)),t8_,H',⟨t72_⟩,t14_⟩
     ·replace c7:=Bool.eq_false_iff.mpr c7;subst c7;replace H:=(if_neg (show ¬ (false=true) by decide)).symm.trans H;obtain rfl:=Option.some.inj H;have E:0≤(c:Int):=od_;have G:c<(b.length:Int):=od_;obtain ⟨D,aI,am⟩:=Kd.at_int g.out c E G;cases aI;replace E:=eq_true E;replace G:=eq_true G;go_wp2_with (first|(go_at_call 64;(with_reducible refine (spec_l00In.calls (rd b c) d j false _ K.out).mono ?_);rintro e w' ⟨rfl,⟨nd,rfl⟩⟩;(try exact dd_)));(repeat (go_quiet (first|(go_at_call 64;(with_reducible refine (spec_l00In.calls (rd b c) d j false _ K.out).mono ?_);rintro e w' ⟨rfl,⟨nd,rfl⟩⟩;(try exact dd_)));try go_wp2_with (first|(go_at_call 64;(with_reducible refine (spec_l00In.calls (rd b c) d j false _ K.out).mono ?_);rintro e w' ⟨rfl,⟨nd,rfl⟩⟩;(try exact dd_)))));go_ret
      exact ⟨t8_,t14_⟩
    ·rw [if_neg z] at H;exact absurd H t64_
   ·rw [if_neg O] at H;have bD:decide (c<(b.length:Int))=false:=d2_ O;clear O;obtain rfl:=Option.some.inj H;go_wp2;(repeat (go_quiet (fail);try go_wp2));go_ret
    exact ⟨t8_,t14_⟩

def spec_l04Closed.f (k:Nat) (b:List (S32)) (l:List Int):Option (Bool):=if 0<(b.length:Int) then ((spec_l00Rises.f k l 0 (wrap64 ((((rd_T32 b 0).f1).length:Int) - 1))).bind fun aa=>(some aa)) else (none)
theorem spec_l04Closed.mono:∀ B d k,LeO (spec_l04Closed.f k B d) (spec_l04Closed.f (k+1) B d):=by
 intro B d k;unfold spec_l04Closed.f
 with_reducible repeat' first|exact spec_l00Rises.mono _ _ _ _|exact LeO.refl _|exact LeO.none _|refine LeO.ite ?_ ?_|refine LeO.bind ?_ (fun _=>?_)
theorem spec_l04Closed.calls (k:Nat) (x:Option Addr) (y:Nat) (b:List (S32)) (A1:Option Addr) (c1:Nat) (l:List Int) (r:Bool) (w:World) (J:Kd.C k32 w x b.length b) (I:b.length≤y) (aW:Kd.C (Kd.int .i64) w A1 l.length l) (aU:l.length≤c1) (h:spec_l04Closed.f k b l=some r):
  Calls Try.prog 88 #[.pointer x,.slice A1 l.length c1] w fun e w'=>e=.returned (.bool r)∧Drawn0 w w':=by
 have g:=a_ J;have a4:=a_ I;clear J I;have aS:=a_ aW;have aR:=a_ aU;clear aW aU;have H:(if 0<(b.length:Int) then ((spec_l00Rises.f k l 0 (wrap64 ((((rd_T32 b 0).f1).length:Int) - 1))).bind fun aa=>(some aa)) else (none))=some r:=h;clear h;by_cases A:0<(b.length:Int)
 ·rw [if_pos A] at H;have aj:decide (0<(b.length:Int))=true:=d1_ A;have bS:decide (0<b.length)=true:=decide_eq_true t48_;clear A;replace H:=be_ H;obtain ⟨aa,aD,H⟩:=H;have A4:=a_ aD;clear aD;obtain rfl:=Option.some.inj H;have ao:0≤(0:Int):=t48_;have aq:0<(b.length:Int):=od_;obtain ⟨bw,bk,cB,bl,cC,bW,bZ,ba,bM,bI,bN,bJ⟩:=at_T32 g.out 0 ao aq;cases bW;have cH:(0<b.length)=True:=eq_true t48_;(try rw [za_] at bZ);(try rw [za_] at ba);have bs:=a_ bI;have bo:=a_ bM;clear bI bM;have bu:=a_ bJ;have bp:=a_ bN;clear bJ bN;replace ao:=eq_true ao;replace aq:=eq_true aq;go_enter Try.func88,Try.ntmps88;go_wp2_with (first|((with_reducible refine gate_callee (f:=87) rfl ?_);refine goesL_ (some 12) rfl rfl Try.func87 t27_ rfl #[.slice A1 l.length c1,.int .i64 0,.int .i64 (wrap64 ((((rd_T32 b 0).f1).length:Int) - 1))] rfl t2_ ?_;(with_reducible refine (spec_l00Rises.calls k _ _ l 0 (wrap64 ((((rd_T32 b 0).f1).length:Int) - 1)) aa _ ?aA ?aB A4.out).mono ?_);(case aA=>exact qc_ aS.out);(case aB=>exact aR.out);rintro e w' ⟨rfl,⟨nd,rfl⟩⟩;refine ⟨_,rfl,?_⟩));go_ret
  exact ⟨t8_,t14_⟩
 ·rw [if_neg A] at H;exact absurd H t64_

def spec_l19Ask.f (k:Nat) (b:List (S32)) (l:List Int) (l2:List Int):Option (Int):=(spec_l04Ok.f k b).bind fun ab=>(if ab=true then (if 0<(b.length:Int) then ((spec_l00Rises.f k l 0 (wrap64 ((((rd_T32 b 0).f0).length:Int) - 1))).bind fun ac=>(if ac=true then ((spec_l04Closed.f k b l2).bind fun ad=>(if ad=true then (some 0) else (some 7))) else (some 7))) else (none)) else (some 1))
theorem spec_l19Ask.mono:∀ B d j k,LeO (spec_l19Ask.f k B d j) (spec_l19Ask.f (k+1) B d j):=by
 intro B d j k;unfold spec_l19Ask.f
 with_reducible repeat' first|exact spec_l00Rises.mono _ _ _ _|exact spec_l04Closed.mono _ _ _|exact spec_l04Ok.mono _ _|exact LeO.refl _|exact LeO.none _|refine LeO.ite ?_ ?_|refine LeO.bind ?_ (fun _=>?_)
theorem spec_l19Ask.calls (k:Nat) (x:Option Addr) (y:Nat) (b:List (S32)) (A1:Option Addr) (c1:Nat) (l:List Int) (A2:Option Addr) (c2:Nat) (l2:List Int) (r:Int) (w:World) (J:Kd.C k32 w x b.length b) (I:b.length≤y) (aW:Kd.C (Kd.int .i64) w A1 l.length l) (aU:l.length≤c1) (bO:Kd.C (Kd.int .i64) w A2 l2.length l2) (bF:l2.length≤c2) (h:spec_l19Ask.f k b l l2=some r):
  Calls Try.prog 56 #[.pointer x,.slice A1 l.length c1,.slice A2 l2.length c2] w fun e w'=>e=.returned (.int .i64 r)∧Below w.heap.size w w':=by
 have g:=a_ J;have a4:=a_ I;clear J I;have aS:=a_ aW;have aR:=a_ aU;clear aW aU;have b8:=a_ bO;have b5:=a_ bF;clear bO bF;have HB:=a_ (Below.refl w.heap.size w);have H:((spec_l04Ok.f k b).bind fun ab=>(if ab=true then (if 0<(b.length:Int) then ((spec_l00Rises.f k l 0 (wrap64 ((((rd_T32 b 0).f0).length:Int) - 1))).bind fun ac=>(if ac=true then ((spec_l04Closed.f k b l2).bind fun ad=>(if ad=true then (some 0) else (some 7))) else (some 7))) else (none)) else (some 1)))=some r:=h;clear h;replace H:=be_ H;obtain ⟨ab,aD,H⟩:=H;have A4:=a_ aD;clear aD;by_cases z:ab=true
 ·subst z;replace H:=(if_pos rfl).symm.trans H;by_cases c6:0<(b.length:Int)
  ·rw [if_pos c6] at H;have cD:decide (0<(b.length:Int))=true:=d1_ c6;have cE:decide (0<b.length)=true:=decide_eq_true t48_;clear c6;replace H:=be_ H;obtain ⟨ac,b0,H⟩:=H;have A7:=a_ b0;clear b0;by_cases T:ac=true
   ·subst T;replace H:=(if_pos rfl).symm.trans H;replace H:=be_ H;obtain ⟨ad,b2,H⟩:=H;have A9:=a_ b2;clear b2;by_cases a9:ad=true
    ·subst a9;replace H:=(if_pos rfl).symm.trans H;obtain rfl:=Option.some.inj H;go_enter Try.func56,Try.ntmps56;go_wp2_with (first|((with_reducible refine gate_callee (f:=54) rfl ?_);refine goesL_ (some 8) rfl rfl Try.func54 t27_ rfl #[.pointer x] rfl t2_ ?_;(with_reducible refine (spec_l04Ok.calls k _ y b true _ ?aA ?aB A4.out).mono ?_);(case aA=>exact qc_ g.out);(case aB=>exact a4.out);rintro e cI ⟨rfl,hb⟩;refine ⟨_,rfl,?_⟩;have X:=a_ (below_step t1_ hb);clear HB;have HB:=X;clear X;(try clear hb);(try clear hb2);(try clear hk);(try clear hi);have Y:0≤(0:Int):=t48_;have Z:0<(b.length:Int):=od_;obtain ⟨b9,aw,bA,ax,bB,aT,t,u,aG,aE,aH,aF⟩:=at_T32 g.out 0 Y Z;cases aT;have bP:(0<b.length)=True:=eq_true t48_;(try rw [show ((0:Int)).toNat=0 from rfl] at t);(try rw [show 0 * 2=0 from rfl] at t);(try rw [Addr.add_zero'] at t);(try rw [show ((0:Int)).toNat=0 from rfl] at u);(try rw [show 0 * 2=0 from rfl] at u);(try rw [Addr.add_zero'] at u);replace t:=(HB.out.cell (World.block_lt_of_cell? w _ t)).trans t;replace u:=(HB.out.cell (World.block_lt_of_cell? w _ u)).trans u;have b6:=a_ aE;have b3:=a_ aG;clear aE aG;have b7:=a_ aF;have b4:=a_ aH;clear aF aH;replace Y:=eq_true Y;replace Z:=eq_true Z)|((with_reducible refine gate_callee (f:=87) rfl ?_);refine goesL_ (some 17) rfl rfl Try.func87 t27_ rfl #[.slice A1 l.length c1,.int .i64 0,.int .i64 (wrap64 ((((rd_T32 b 0).f0).length:Int) - 1))] rfl t2_ ?_;(with_reducible refine (spec_l00Rises.calls k _ _ l 0 (wrap64 ((((rd_T32 b 0).f0).length:Int) - 1)) true _ ?aA ?aB A7.out).mono ?_);(case aA=>exact qc_ (Kd.C_below aS.out HB.out));(case aB=>exact aR.out);rintro e w' ⟨rfl,⟨nd,rfl⟩⟩;refine ⟨_,rfl,?_⟩)|(go_at_call 88;(with_reducible refine (spec_l04Closed.calls k _ y b _ _ l2 true _ ?aA ?aB ?be ?bf A9.out).mono ?_);(case aA=>repeat (first|exact (Kd.C_below g.out t1_)|(with_reducible refine Kd.C_alloc ?_ _)|(with_reducible refine Kd.C_drewN ?_ _)|(with_reducible refine Kd.C_drew ?_)));(case aB=>exact a4.out);(case be=>repeat (first|exact (Kd.C_below b8.out t1_)|(with_reducible refine Kd.C_alloc ?_ _)|(with_reducible refine Kd.C_drewN ?_ _)|(with_reducible refine Kd.C_drew ?_)));(case bf=>exact b5.out);rintro e w' ⟨rfl,⟨nd,rfl⟩⟩));go_ret
     exact ⟨t5_,t1_⟩
    ·replace a9:=Bool.eq_false_iff.mpr a9;subst a9;replace H:=(if_neg (show ¬ (false=true) by decide)).symm.trans H;obtain rfl:=Option.some.inj H;go_enter Try.func56,Try.ntmps56;go_wp2_with (first|((with_reducible refine gate_callee (f:=54) rfl ?_);refine goesL_ (some 8) rfl rfl Try.func54 t27_ rfl #[.pointer x] rfl t2_ ?_;(with_reducible refine (spec_l04Ok.calls k _ y b true _ ?aA ?aB A4.out).mono ?_);(case aA=>exact qc_ g.out);(case aB=>exact a4.out);rintro e cJ ⟨rfl,hb⟩;refine ⟨_,rfl,?_⟩;have X:=a_ (below_step t1_ hb);clear HB;have HB:=X;clear X;(try clear hb);(try clear hb2);(try clear hk);(try clear hi);have Y:0≤(0:Int):=t48_;have Z:0<(b.length:Int):=od_;obtain ⟨b9,aw,bA,ax,bB,aT,t,u,aG,aE,aH,aF⟩:=at_T32 g.out 0 Y Z;cases aT;have bP:(0<b.length)=True:=eq_true t48_;(try rw [show ((0:Int)).toNat=0 from rfl] at t);(try rw [show 0 * 2=0 from rfl] at t);(try rw [Addr.add_zero'] at t);(try rw [show ((0:Int)).toNat=0 from rfl] at u);(try rw [show 0 * 2=0 from rfl] at u);(try rw [Addr.add_zero'] at u);replace t:=(HB.out.cell (World.block_lt_of_cell? w _ t)).trans t;replace u:=(HB.out.cell (World.block_lt_of_cell? w _ u)).trans u;have b6:=a_ aE;have b3:=a_ aG;clear aE aG;have b7:=a_ aF;have b4:=a_ aH;clear aF aH;replace Y:=eq_true Y;replace Z:=eq_true Z)|((with_reducible refine gate_callee (f:=87) rfl ?_);refine goesL_ (some 17) rfl rfl Try.func87 t27_ rfl #[.slice A1 l.length c1,.int .i64 0,.int .i64 (wrap64 ((((rd_T32 b 0).f0).length:Int) - 1))] rfl t2_ ?_;(with_reducible refine (spec_l00Rises.calls k _ _ l 0 (wrap64 ((((rd_T32 b 0).f0).length:Int) - 1)) true _ ?aA ?aB A7.out).mono ?_);(case aA=>exact qc_ (Kd.C_below aS.out HB.out));(case aB=>exact aR.out);rintro e w' ⟨rfl,⟨nd,rfl⟩⟩;refine ⟨_,rfl,?_⟩)|(go_at_call 88;(with_reducible refine (spec_l04Closed.calls k _ y b _ _ l2 false _ ?aA ?aB ?be ?bf A9.out).mono ?_);(case aA=>repeat (first|exact (Kd.C_below g.out t1_)|(with_reducible refine Kd.C_alloc ?_ _)|(with_reducible refine Kd.C_drewN ?_ _)|(with_reducible refine Kd.C_drew ?_)));(case aB=>exact a4.out);(case be=>repeat (first|exact (Kd.C_below b8.out t1_)|(with_reducible refine Kd.C_alloc ?_ _)|(with_reducible refine Kd.C_drewN ?_ _)|(with_reducible refine Kd.C_drew ?_)));(case bf=>exact b5.out);rintro e w' ⟨rfl,⟨nd,rfl⟩⟩));go_ret
     exact ⟨t5_,t1_⟩
   ·replace T:=Bool.eq_false_iff.mpr T;subst T;replace H:=(if_neg (show ¬ (false=true) by decide)).symm.trans H;obtain rfl:=Option.some.inj H;go_enter Try.func56,Try.ntmps56;go_wp2_with (first|((with_reducible refine gate_callee (f:=54) rfl ?_);refine goesL_ (some 8) rfl rfl Try.func54 t27_ rfl #[.pointer x] rfl t2_ ?_;(with_reducible refine (spec_l04Ok.calls k _ y b true _ ?aA ?aB A4.out).mono ?_);(case aA=>exact qc_ g.out);(case aB=>exact a4.out);rintro e cK ⟨rfl,hb⟩;refine ⟨_,rfl,?_⟩;have X:=a_ (below_step t1_ hb);clear HB;have HB:=X;clear X;(try clear hb);(try clear hb2);(try clear hk);(try clear hi);have Y:0≤(0:Int):=t48_;have Z:0<(b.length:Int):=od_;obtain ⟨b9,aw,bA,ax,bB,aT,t,u,aG,aE,aH,aF⟩:=at_T32 g.out 0 Y Z;cases aT;have bP:(0<b.length)=True:=eq_true t48_;(try rw [show ((0:Int)).toNat=0 from rfl] at t);(try rw [show 0 * 2=0 from rfl] at t);(try rw [Addr.add_zero'] at t);(try rw [show ((0:Int)).toNat=0 from rfl] at u);(try rw [show 0 * 2=0 from rfl] at u);(try rw [Addr.add_zero'] at u);replace t:=(HB.out.cell (World.block_lt_of_cell? w _ t)).trans t;replace u:=(HB.out.cell (World.block_lt_of_cell? w _ u)).trans u;have b6:=a_ aE;have b3:=a_ aG;clear aE aG;have b7:=a_ aF;have b4:=a_ aH;clear aF aH;replace Y:=eq_true Y;replace Z:=eq_true Z)|((with_reducible refine gate_callee (f:=87) rfl ?_);refine goesL_ (some 17) rfl rfl Try.func87 t27_ rfl #[.slice A1 l.length c1,.int .i64 0,.int .i64 (wrap64 ((((rd_T32 b 0).f0).length:Int) - 1))] rfl t2_ ?_;(with_reducible refine (spec_l00Rises.calls k _ _ l 0 (wrap64 ((((rd_T32 b 0).f0).length:Int) - 1)) false _ ?aA ?aB A7.out).mono ?_);(case aA=>exact qc_ (Kd.C_below aS.out HB.out));(case aB=>exact aR.out);rintro e w' ⟨rfl,⟨nd,rfl⟩⟩;refine ⟨_,rfl,?_⟩));go_ret
    exact ⟨t5_,t1_⟩
  ·rw [if_neg c6] at H;exact absurd H t64_
 ·replace z:=Bool.eq_false_iff.mpr z;subst z;replace H:=(if_neg (show ¬ (false=true) by decide)).symm.trans H;obtain rfl:=Option.some.inj H;go_enter Try.func56,Try.ntmps56;go_wp2_with (first|((with_reducible refine gate_callee (f:=54) rfl ?_);refine goesL_ (some 8) rfl rfl Try.func54 t27_ rfl #[.pointer x] rfl t2_ ?_;(with_reducible refine (spec_l04Ok.calls k _ y b false _ ?aA ?aB A4.out).mono ?_);(case aA=>exact qc_ g.out);(case aB=>exact a4.out);rintro e cL ⟨rfl,hb⟩;refine ⟨_,rfl,?_⟩;have X:=a_ (below_step t1_ hb);clear HB;have HB:=X;clear X;(try clear hb);(try clear hb2);(try clear hk);(try clear hi)));go_ret
  exact ⟨t5_,t1_⟩

def spec_l00Has.l0:Nat→List Int→Int→Int→Option (Bool)
 |0,_,_,_=>none
 |k+1,x0,x1,x5=>if x5<(x0.length:Int) then (if 0≤x5 then (if (rd x0 x5)=x1 then (some true) else (spec_l00Has.l0 k x0 x1 (wrap64 (x5+1)))) else (none)) else (some false)
def spec_l00Has.f (k:Nat) (b:List Int) (d:Int):Option (Bool):=spec_l00Has.l0 k b d 0
theorem spec_l00Has.mono_l:∀ k,(∀ y0 y1 y2,LeO (spec_l00Has.l0 k y0 y1 y2) (spec_l00Has.l0 (k+1) y0 y1 y2))
 |0=>fun _ _ _ r h=>by simp [spec_l00Has.l0] at h
 |k+1=>by
  have aJ:=spec_l00Has.mono_l k
  ·intro y0 y1 y2
   unfold spec_l00Has.l0
   with_reducible repeat' first|exact aJ _ _ _|exact LeO.refl _|exact LeO.none _|refine LeO.ite ?_ ?_|refine LeO.bind ?_ (fun _=>?_)
theorem spec_l00Has.mono:∀ B d k,LeO (spec_l00Has.f k B d) (spec_l00Has.f (k+1) B d):=by
 intro B d k;have aJ:=spec_l00Has.mono_l k;unfold spec_l00Has.f
 with_reducible repeat' first|exact aJ _ _ _|exact LeO.refl _|exact LeO.none _|refine LeO.ite ?_ ?_|refine LeO.bind ?_ (fun _=>?_)
theorem spec_l00Has.calls (k:Nat) (x:Option Addr) (y:Nat) (b:List Int) (d:Int) (r:Bool) (w:World) (J:Kd.C (Kd.int .i64) w x b.length b) (I:b.length≤y) (h:spec_l00Has.f k b d=some r):
  Calls Try.prog 57 #[.slice x b.length y,.int .i64 d] w fun e w'=>e=.returned (.bool r)∧Drawn0 w w':=by
 have g:=a_ J;have a4:=a_ I;clear J I;have H:(spec_l00Has.l0 k b d 0)=some r:=h;clear h;have H':=a_ H;clear H;go_enter Try.func57,Try.ntmps57;go_wp2;go_loopg [5] k (fun kq v5 w'=>∃ (v:Int),v5=.int .i64 v∧Aside0 (spec_l00Has.l0 kq b d v=some r)∧Aside0 (kq≤k)∧Drawn0 w w')
 case atStart=>exact ⟨(0),t8_,H',⟨Nat.le_refl _⟩,t14_⟩
 case round=>
  clear H';(try clear p2);obtain ⟨v,rfl,HA,HK1,⟨m1,rfl⟩⟩:=hrel;cases gk with
  |zero=>exact absurd HA.out (by simp [spec_l00Has.l0])
  |succ k1=>
   have H:=HA.out;clear HA;simp only [spec_l00Has.l0] at H;by_cases A:v<(b.length:Int)
   ·rw [if_pos A] at H;have aj:decide (v<(b.length:Int))=true:=d1_ A;clear A;by_cases O:0≤v
    ·rw [if_pos O] at H;have bD:decide (0≤v)=true:=d1_ O;clear O;by_cases z:(rd b v)=d
     ·rw [if_pos z] at H;have bE:((rd b v)==d)=true:=b1_ z;have bT:((rd b v)!=d)=false:=b4_ z;clear z;obtain rfl:=Option.some.inj H;have aK:0≤(v:Int):=od_;have aL:v<(b.length:Int):=od_;obtain ⟨bQ,ak,bb⟩:=Kd.at_int g.out v aK aL;cases ak;replace aK:=eq_true aK;replace aL:=eq_true aL;go_wp2;go_ret
      exact ⟨t8_,t14_⟩
     ·rw [if_neg z] at H;have bE:((rd b v)==d)=false:=b2_ z;have bT:((rd b v)!=d)=true:=b3_ z;have H':=a_ H;clear H;have aK:0≤(v:Int):=od_;have aL:v<(b.length:Int):=od_;obtain ⟨bQ,ak,bb⟩:=Kd.at_int g.out v aK aL;cases ak;replace aK:=eq_true aK;replace aL:=eq_true aL;go_wp2;go_roundg k1
      case measure=>have:=HK1.out;omega
      case rel=>exact ⟨(wrap64 (v+1)),t8_,H',⟨t72_⟩,t14_⟩
    ·rw [if_neg O] at H;exact absurd H t64_
   ·rw [if_neg A] at H;have aj:decide (v<(b.length:Int))=false:=d2_ A;clear A;obtain rfl:=Option.some.inj H;go_wp2;go_ret
    exact ⟨t8_,t14_⟩

end Go.Proofs.Ytjelfhmgbhidnaa.PFnExactRouteTo
