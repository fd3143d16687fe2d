-- written by wip/xprint.py, a program of this session, for this claim; not trusted: Lean checks it.
import Derived.Test.YtheokilgacmlmaaPFnExactNeedlessValvesx0
import Derived.Test.YtheokilgacmlmaaPFnExactNeedlessValvesx4
namespace Go.Proofs.Ytheokilgacmlmaa.PFnExactNeedlessValves
open Go.RowKit Go.Proofs.YtheokilgacmlmaaW.PrintWords Go.Proofs.YtheokilgacmlmaaW.PrintLast Go.Proofs.YtheokilgacmlmaaW.PrintMore
attribute [local go_sem] leq_less_ max2_int min2_int max_two min_two max_three min_three max_four min_four   -- for this text's walks alone
set_option linter.unusedVariables false
set_option linter.unusedSimpArgs false
set_option maxHeartbeats 8000000
set_option maxRecDepth 100000
def spec_l18Stands.l0:Nat→List (S33)→List (S51)→List Bool→Int→Bool→Int→Option (Bool)
 |0,_,_,_,_,_,_=>none
 |k+1,U,E,J,W,X,x=>if x<(E.length:Int) then (if 0≤x then (if x<(J.length:Int) then (if rdOf false J x=true then (if (((rd_T51 E x).f2)==X)=true then ((spec_l18Pipe.f k U [rd_T51 E x]).bind fun u=>(if u=W then (some true) else (spec_l18Stands.l0 k U E J W X (wrap64 (x+1))))) else (spec_l18Stands.l0 k U E J W X (wrap64 (x+1)))) else (spec_l18Stands.l0 k U E J W X (wrap64 (x+1)))) else (none)) else (none)) else (some false)
def spec_l18Stands.f (k:Nat) (l:List (S33)) (l1:List (S51)) (g:List Bool) (d:Int) (c:Bool):Option (Bool):=spec_l18Stands.l0 k l l1 g d c 0
theorem spec_l18Stands.mono_l:∀ k,(∀ y0 y1 y2 y3 y4 y5,LeO (spec_l18Stands.l0 k y0 y1 y2 y3 y4 y5) (spec_l18Stands.l0 (k+1) y0 y1 y2 y3 y4 y5))
 |0=>fun _ _ _ _ _ _ r h=>by simp [spec_l18Stands.l0] at h
 |k+1=>by
  have aD:=spec_l18Stands.mono_l k
  ·intro y0 y1 y2 y3 y4 y5
   unfold spec_l18Stands.l0
   with_reducible repeat' first|exact aD _ _ _ _ _ _|exact spec_l18Pipe.mono _ _ _|exact LeO.refl _|exact LeO.none _|refine LeO.ite ?_ ?_|refine LeO.bind ?_ (fun _=>?_)
theorem spec_l18Stands.mono:∀ Y Z a2 d c k,LeO (spec_l18Stands.f k Y Z a2 d c) (spec_l18Stands.f (k+1) Y Z a2 d c):=by
 intro Y Z a2 d c k;have aD:=spec_l18Stands.mono_l k;unfold spec_l18Stands.f
 with_reducible repeat' first|exact aD _ _ _ _ _ _|exact spec_l18Pipe.mono _ _ _|exact LeO.refl _|exact LeO.none _|refine LeO.ite ?_ ?_|refine LeO.bind ?_ (fun _=>?_)
theorem spec_l18Stands.calls (k:Nat) (A0:Option Addr) (c0:Nat) (l:List (S33)) (A1:Option Addr) (c1:Nat) (l1:List (S51)) (A2:Option Addr) (c2:Nat) (g:List Bool) (d:Int) (c:Bool) (r:Bool) (w:World) (aV:Kd.C k33 w A0 l.length l) (aS:l.length≤c0) (aW:Kd.C k51 w A1 l1.length l1) (aT:l1.length≤c1) (aX:Kd.C Kd.bool w A2 g.length g) (aU:g.length≤c2) (h:spec_l18Stands.f k l l1 g d c=some r):
  Calls Try.prog 73 #[.pointer A0,.slice A1 l1.length c1,.slice A2 g.length c2,.int .i64 d,.bool c] w fun e w'=>e=.returned (.bool r)∧Drawn0 w w':=by
 have aQ:=a_ aV;have aP:=a_ aS;clear aV aS;have HR1:=a_ aW;have aj:=a_ aT;clear aW aT;have K:=a_ aX;have ak:=a_ aU;clear aX aU;have H:(spec_l18Stands.l0 k l l1 g d c 0)=some r:=h;clear h;have H':=a_ H;clear H;go_enter Try.func73,Try.ntmps73;go_wp2;go_loopg [11] k (fun kq ai w'=>∃ (b:Int),ai=.int .i64 b∧Aside0 (spec_l18Stands.l0 kq l l1 g d c b=some r)∧Aside0 (kq≤k)∧Drawn0 w w')
 case atStart=>exact ⟨(0),t5_,H',⟨Nat.le_refl _⟩,t14_⟩
 case round=>
  clear H';(try clear c1);(try clear c2);(try clear p2);obtain ⟨b,rfl,HA,HK1,⟨m1,rfl⟩⟩:=hrel;cases gk with
  |zero=>exact absurd HA.out (by simp [spec_l18Stands.l0])
  |succ k1=>
   have H:=HA.out;clear HA;simp only [spec_l18Stands.l0] at H;by_cases D:b<(l1.length:Int)
   ·rw [if_pos D] at H;have af:decide (b<(l1.length:Int))=true:=d1_ D;clear D;by_cases O:0≤b
    ·rw [if_pos O] at H;have an:decide (0≤b)=true:=d1_ O;clear O;by_cases T:b<(g.length:Int)
     ·rw [if_pos T] at H;have ao:decide (b<(g.length:Int))=true:=d1_ T;clear T;obtain ⟨aR,hbq9⟩:∃ b_:Bool,b_=(rdOf false g b):=⟨_,rfl⟩;replace H:(if aR=true then (if (((rd_T51 l1 b).f2)==c)=true then ((spec_l18Pipe.f k1 l [rd_T51 l1 b]).bind fun u=>(if u=d then (some true) else (spec_l18Stands.l0 k1 l l1 g d c (wrap64 (b+1))))) else (spec_l18Stands.l0 k1 l l1 g d c (wrap64 (b+1)))) else (spec_l18Stands.l0 k1 l l1 g d c (wrap64 (b+1))))=some r:=(by rw [← hbq9] at H;exact H);have v:=a_ hbq9;clear hbq9;by_cases M:aR=true
      ·subst M;replace H:=(if_pos rfl).symm.trans H;by_cases m:(((rd_T51 l1 b).f2)==c)=true
       ·rw [if_pos m] at H;have aa:(((rd_T51 l1 b).f2)==c)=true:=m;(try (have ab:decide (((rd_T51 l1 b).f2)=c)=true:=by simpa using m));(try (have ac:(((rd_T51 l1 b).f2)==c)=true:=by simpa using m));clear m;replace H:=be_ H;obtain ⟨u,aN,H⟩:=H;have aM:=a_ aN;clear aN;by_cases y:u=d
        ·rw [if_pos y] at H;have ad:(u==d)=true:=b1_ y;have ae:(u !=d)=false:=b4_ y;clear y;obtain rfl:=Option.some.inj H;have i:0≤(b:Int):=od_;have j:b<(g.length:Int):=od_;obtain ⟨a6,A,B⟩:=Kd.at_bool K.out b i j;(try rw [← v.out] at B);cases A;replace i:=eq_true i;replace j:=eq_true j;have o:0≤(b:Int):=od_;have s:b<(l1.length:Int):=od_;obtain ⟨L,G,aY,aZ,I⟩:=at_T51 HR1.out b o s;(try rw [← v.out] at I);cases G;replace o:=eq_true o;replace s:=eq_true s;have q:0≤(b:Int):=od_;have t:b<(l1.length:Int):=od_;obtain ⟨a7,aB,ag,ah,aC⟩:=at_T51 HR1.out b q t;(try rw [← v.out] at aC);obtain rfl:L=a7:=(by injection aB);replace q:=eq_true q;replace t:=eq_true t;go_wp2_with (first|(go_at_call 81;(with_reducible refine (spec_l18Pipe.calls k1 _ c0 l _ 1 [rd_T51 l1 b] u _ ?Z1 ?Z2 ?Z3 ?Z4 aM.out).mono ?_);(case Z1=>exact qc_ aQ.out);(case Z2=>exact aP.out);(case Z3=>exact Kd.C_sub (z:=z51) (n:=l1.length) ((by repeat (first|exact HR1.out|(with_reducible refine Kd.C_alloc ?_ _)|(with_reducible refine Kd.C_drewN ?_ _)|(with_reducible refine Kd.C_drew ?_)))) (by first|exact q|exact of_eq_true q|omega) (by first|exact t|exact of_eq_true t|omega));(case Z4=>exact Nat.le_refl _);rintro e w' ⟨rfl,⟨nd,rfl⟩⟩));go_ret
         exact ⟨t5_,t14_⟩
        ·rw [if_neg y] at H;have ad:(u==d)=false:=b2_ y;have ae:(u !=d)=true:=b3_ y;have H':=a_ H;clear H;have i:0≤(b:Int):=od_;have j:b<(g.length:Int):=od_;obtain ⟨a6,A,B⟩:=Kd.at_bool K.out b i j;(try rw [← v.out] at B);cases A;replace i:=eq_true i;replace j:=eq_true j;have o:0≤(b:Int):=od_;have s:b<(l1.length:Int):=od_;obtain ⟨L,G,aY,aZ,I⟩:=at_T51 HR1.out b o s;(try rw [← v.out] at I);cases G;replace o:=eq_true o;replace s:=eq_true s;have q:0≤(b:Int):=od_;have t:b<(l1.length:Int):=od_;obtain ⟨a7,aB,ag,ah,aC⟩:=at_T51 HR1.out b q t;(try rw [← v.out] at aC);obtain rfl:L=a7:=(by injection aB);replace q:=eq_true q;replace t:=eq_true t;go_wp2_with (first|(go_at_call 81;(with_reducible refine (spec_l18Pipe.calls k1 _ c0 l _ 1 [rd_T51 l1 b] u _ ?Z1 ?Z2 ?Z3 ?Z4 aM.out).mono ?_);(case Z1=>exact qc_ aQ.out);(case Z2=>exact aP.out);(case Z3=>exact Kd.C_sub (z:=z51) (n:=l1.length) ((by repeat (first|exact HR1.out|(with_reducible refine Kd.C_alloc ?_ _)|(with_reducible refine Kd.C_drewN ?_ _)|(with_reducible refine Kd.C_drew ?_)))) (by first|exact q|exact of_eq_true q|omega) (by first|exact t|exact of_eq_true t|omega));(case Z4=>exact Nat.le_refl _);rintro e w' ⟨rfl,⟨nd,rfl⟩⟩));go_roundg k1
         case measure=>have:=HK1.out;omega
         case rel=>exact ⟨(wrap64 (b+1)),t5_,H',⟨t58_⟩,t14_⟩
       ·rw [if_neg m] at H;have aa:(((rd_T51 l1 b).f2)==c)=false:=(by simpa using m);(try (have ab:decide (((rd_T51 l1 b).f2)=c)=false:=by simpa using m));(try (have ac:(((rd_T51 l1 b).f2)==c)=false:=by simpa using m));(try (have am:¬ (((rd_T51 l1 b).f2)=c):=by simpa using m));clear m;have H':=a_ H;clear H;have i:0≤(b:Int):=od_;have j:b<(g.length:Int):=od_;obtain ⟨a6,A,B⟩:=Kd.at_bool K.out b i j;(try rw [← v.out] at B);cases A;replace i:=eq_true i;replace j:=eq_true j;have o:0≤(b:Int):=od_;have s:b<(l1.length:Int):=od_;obtain ⟨L,G,aY,aZ,I⟩:=at_T51 HR1.out b o s;(try rw [← v.out] at I);cases G;replace o:=eq_true o;replace s:=eq_true s;go_wp2;go_roundg k1
        case measure=>have:=HK1.out;omega
        case rel=>exact ⟨(wrap64 (b+1)),t5_,H',⟨t58_⟩,t14_⟩
      ·replace M:=Bool.eq_false_iff.mpr M;subst M;replace H:=(if_neg (show ¬ (false=true) by decide)).symm.trans H;have H':=a_ H;clear H;have i:0≤(b:Int):=od_;have j:b<(g.length:Int):=od_;obtain ⟨a6,A,B⟩:=Kd.at_bool K.out b i j;(try rw [← v.out] at B);cases A;replace i:=eq_true i;replace j:=eq_true j;go_wp2;go_roundg k1
       case measure=>have:=HK1.out;omega
       case rel=>exact ⟨(wrap64 (b+1)),t5_,H',⟨t58_⟩,t14_⟩
     ·rw [if_neg T] at H;exact absurd H t62_
    ·rw [if_neg O] at H;exact absurd H t62_
   ·rw [if_neg D] at H;have af:decide (b<(l1.length:Int))=false:=d2_ D;clear D;obtain rfl:=Option.some.inj H;go_wp2;go_ret
    exact ⟨t5_,t14_⟩

end Go.Proofs.Ytheokilgacmlmaa.PFnExactNeedlessValves
