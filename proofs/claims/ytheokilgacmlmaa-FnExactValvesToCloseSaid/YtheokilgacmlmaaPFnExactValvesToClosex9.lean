-- written by wip/xprint.py, a program of this session, for this claim; not trusted: Lean checks it.
import Derived.Test.YtheokilgacmlmaaPFnExactValvesToClosex0
import Derived.Test.YtheokilgacmlmaaPFnExactValvesToClosex4
import Derived.Test.YtheokilgacmlmaaPFnExactValvesToClosex8
namespace Go.Proofs.Ytheokilgacmlmaa.PFnExactValvesToClose
open Go.RowKit Go.Proofs.YtheokilgacmlmaaW.PrintWords Go.Proofs.YtheokilgacmlmaaW.PrintLast Go.Proofs.YtheokilgacmlmaaW.PrintMore
attribute [local go_sem] leq_less_ max2_int min2_int max_two min_two max_three min_three max_four min_four   -- for this text's walks alone
set_option linter.unusedVariables false
set_option linter.unusedSimpArgs false
set_option maxHeartbeats 8000000
set_option maxRecDepth 100000
def spec_l18Ask.f (k:Nat) (c:List (S33)) (l1:List (S51)) (j:Int):Option (Int):=(spec_l18Ok.f k c l1).bind fun aH=>(if aH=true then (if 0<(c.length:Int) then ((spec_l00In.f j 0 (wrap64 ((((rd_T33 c 0).f1).length:Int) - 1))).bind fun aI=>(if aI=true then (some 0) else (some 2))) else (none)) else (some 1))
theorem spec_l18Ask.mono:∀ O T j k,LeO (spec_l18Ask.f k O T j) (spec_l18Ask.f (k+1) O T j):=by
 intro O T j k;unfold spec_l18Ask.f
 with_reducible repeat' first|exact spec_l18Ok.mono _ _ _|exact LeO.refl _|exact LeO.none _|refine LeO.ite ?_ ?_|refine LeO.bind ?_ (fun _=>?_)
theorem spec_l18Ask.calls (k:Nat) (I:Option Addr) (L:Nat) (c:List (S33)) (J:Option Addr) (D:Nat) (l1:List (S51)) (j:Int) (r:Int) (w:World) (aE:Kd.C k33 w I c.length c) (a8:c.length≤L) (aF:Kd.C k51 w J l1.length l1) (a9:l1.length≤D) (h:spec_l18Ask.f k c l1 j=some r):
  Calls Try.prog 57 #[.pointer I,.slice J l1.length D,.int .i64 j] w fun e w'=>e=.returned (.int .i64 r)∧Below w.heap.size w w':=by
 have K:=a_ aE;have a5:=a_ a8;clear aE a8;have HR1:=a_ aF;have aK:=a_ a9;clear aF a9;have HB:=a_ (Below.refl w.heap.size w);have H:((spec_l18Ok.f k c l1).bind fun aH=>(if aH=true then (if 0<(c.length:Int) then ((spec_l00In.f j 0 (wrap64 ((((rd_T33 c 0).f1).length:Int) - 1))).bind fun aI=>(if aI=true then (some 0) else (some 2))) else (none)) else (some 1)))=some r:=h;clear h;replace H:=be_ H;obtain ⟨aH,ap,H⟩:=H;have A4:=a_ ap;clear ap;by_cases c5:aH=true
 ·subst c5;replace H:=(if_pos rfl).symm.trans H;by_cases t:0<(c.length:Int)
  ·rw [if_pos t] at H;have av:decide (0<(c.length:Int))=true:=d1_ t;have bK:decide (0<c.length)=true:=decide_eq_true t35_;clear t;replace H:=be_ H;obtain ⟨aI,ar,H⟩:=H;have A7:=a_ ar;clear ar;by_cases E:aI=true
   ·subst E;replace H:=(if_pos rfl).symm.trans H;obtain rfl:=Option.some.inj H;go_enter Try.func57,Try.ntmps57;go_wp2_with (first|((with_reducible refine gate_callee (f:=50) rfl ?_);refine goesL_ (some 9) rfl rfl Try.func50 t16_ rfl #[.pointer I,.slice J l1.length D] rfl t2_ ?_;(with_reducible refine (spec_l18Ok.calls k _ L c _ _ l1 true _ ?aQ ?aR ?aS ?aT A4.out).mono ?_);(case aQ=>exact qc_ K.out);(case aR=>exact a5.out);(case aS=>exact qc_ HR1.out);(case aT=>exact aK.out);rintro e w9 ⟨rfl,hb⟩;refine ⟨_,rfl,?_⟩;have M:=a_ (below_step t1_ hb);clear HB;have HB:=M;clear M;(try clear hb);(try clear hb2);(try clear hk);(try clear hi);have Y:0≤(0:Int):=t35_;have Z:0<(c.length:Int):=od_;obtain ⟨b6,b0,bC,b1,bD,ab,o,q,aC,aA,aD,aB⟩:=at_T33 K.out 0 Y Z;cases ab;have bG:(0<c.length)=True:=eq_true t35_;(try rw [show ((0:Int)).toNat=0 from rfl] at o);(try rw [show 0 * 2=0 from rfl] at o);(try rw [Addr.add_zero'] at o);(try rw [show ((0:Int)).toNat=0 from rfl] at q);(try rw [show 0 * 2=0 from rfl] at q);(try rw [Addr.add_zero'] at q);replace o:=(HB.out.cell (World.block_lt_of_cell? w _ o)).trans o;replace q:=(HB.out.cell (World.block_lt_of_cell? w _ q)).trans q;have b4:=a_ aA;have b2:=a_ aC;clear aA aC;have b5:=a_ aB;have b3:=a_ aD;clear aB aD;replace Y:=eq_true Y;replace Z:=eq_true Z)|((with_reducible refine gate_callee (f:=98) rfl ?_);refine goesL_ (some 18) rfl rfl Try.func98 t16_ rfl #[.int .i64 j,.int .i64 0,.int .i64 (wrap64 ((((rd_T33 c 0).f1).length:Int) - 1))] rfl t2_ ?_;(with_reducible refine (spec_l00In.calls j 0 (wrap64 ((((rd_T33 c 0).f1).length:Int) - 1)) true _ A7.out).mono ?_);rintro e w' ⟨rfl,⟨nd,rfl⟩⟩;refine ⟨_,rfl,?_⟩));go_ret
    exact ⟨t3_,t1_⟩
   ·replace E:=Bool.eq_false_iff.mpr E;subst E;replace H:=(if_neg (show ¬ (false=true) by decide)).symm.trans H;obtain rfl:=Option.some.inj H;go_enter Try.func57,Try.ntmps57;go_wp2_with (first|((with_reducible refine gate_callee (f:=50) rfl ?_);refine goesL_ (some 9) rfl rfl Try.func50 t16_ rfl #[.pointer I,.slice J l1.length D] rfl t2_ ?_;(with_reducible refine (spec_l18Ok.calls k _ L c _ _ l1 true _ ?aQ ?aR ?aS ?aT A4.out).mono ?_);(case aQ=>exact qc_ K.out);(case aR=>exact a5.out);(case aS=>exact qc_ HR1.out);(case aT=>exact aK.out);rintro e bP ⟨rfl,hb⟩;refine ⟨_,rfl,?_⟩;have M:=a_ (below_step t1_ hb);clear HB;have HB:=M;clear M;(try clear hb);(try clear hb2);(try clear hk);(try clear hi);have Y:0≤(0:Int):=t35_;have Z:0<(c.length:Int):=od_;obtain ⟨b6,b0,bC,b1,bD,ab,o,q,aC,aA,aD,aB⟩:=at_T33 K.out 0 Y Z;cases ab;have bG:(0<c.length)=True:=eq_true t35_;(try rw [show ((0:Int)).toNat=0 from rfl] at o);(try rw [show 0 * 2=0 from rfl] at o);(try rw [Addr.add_zero'] at o);(try rw [show ((0:Int)).toNat=0 from rfl] at q);(try rw [show 0 * 2=0 from rfl] at q);(try rw [Addr.add_zero'] at q);replace o:=(HB.out.cell (World.block_lt_of_cell? w _ o)).trans o;replace q:=(HB.out.cell (World.block_lt_of_cell? w _ q)).trans q;have b4:=a_ aA;have b2:=a_ aC;clear aA aC;have b5:=a_ aB;have b3:=a_ aD;clear aB aD;replace Y:=eq_true Y;replace Z:=eq_true Z)|((with_reducible refine gate_callee (f:=98) rfl ?_);refine goesL_ (some 18) rfl rfl Try.func98 t16_ rfl #[.int .i64 j,.int .i64 0,.int .i64 (wrap64 ((((rd_T33 c 0).f1).length:Int) - 1))] rfl t2_ ?_;(with_reducible refine (spec_l00In.calls j 0 (wrap64 ((((rd_T33 c 0).f1).length:Int) - 1)) false _ A7.out).mono ?_);rintro e w' ⟨rfl,⟨nd,rfl⟩⟩;refine ⟨_,rfl,?_⟩));go_ret
    exact ⟨t3_,t1_⟩
  ·rw [if_neg t] at H;exact absurd H t66_
 ·replace c5:=Bool.eq_false_iff.mpr c5;subst c5;replace H:=(if_neg (show ¬ (false=true) by decide)).symm.trans H;obtain rfl:=Option.some.inj H;go_enter Try.func57,Try.ntmps57;go_wp2_with (first|((with_reducible refine gate_callee (f:=50) rfl ?_);refine goesL_ (some 9) rfl rfl Try.func50 t16_ rfl #[.pointer I,.slice J l1.length D] rfl t2_ ?_;(with_reducible refine (spec_l18Ok.calls k _ L c _ _ l1 false _ ?aQ ?aR ?aS ?aT A4.out).mono ?_);(case aQ=>exact qc_ K.out);(case aR=>exact a5.out);(case aS=>exact qc_ HR1.out);(case aT=>exact aK.out);rintro e bQ ⟨rfl,hb⟩;refine ⟨_,rfl,?_⟩;have M:=a_ (below_step t1_ hb);clear HB;have HB:=M;clear M;(try clear hb);(try clear hb2);(try clear hk);(try clear hi)));go_ret
  exact ⟨t3_,t1_⟩

def spec_l18Stands.l0:Nat→List (S33)→List (S51)→List Bool→Int→Bool→Int→Option (Bool)
 |0,_,_,_,_,_,_=>none
 |k+1,x0,x1,x2,x3,x4,G=>if G<(x1.length:Int) then (if 0≤G then (if G<(x2.length:Int) then (if rdOf false x2 G=true then (if (((rd_T51 x1 G).f2)==x4)=true then ((spec_l18Pipe.f k x0 [rd_T51 x1 G]).bind fun A=>(if A=x3 then (some true) else (spec_l18Stands.l0 k x0 x1 x2 x3 x4 (wrap64 (G+1))))) else (spec_l18Stands.l0 k x0 x1 x2 x3 x4 (wrap64 (G+1)))) else (spec_l18Stands.l0 k x0 x1 x2 x3 x4 (wrap64 (G+1)))) else (none)) else (none)) else (some false)
def spec_l18Stands.f (k:Nat) (c:List (S33)) (l1:List (S51)) (i:List Bool) (g:Int) (d:Bool):Option (Bool):=spec_l18Stands.l0 k c l1 i g d 0
theorem spec_l18Stands.mono_l:∀ k,(∀ y0 y1 y2 y3 y4 y5,LeO (spec_l18Stands.l0 k y0 y1 y2 y3 y4 y5) (spec_l18Stands.l0 (k+1) y0 y1 y2 y3 y4 y5))
 |0=>fun _ _ _ _ _ _ r h=>by simp [spec_l18Stands.l0] at h
 |k+1=>by
  have ae:=spec_l18Stands.mono_l k
  ·intro y0 y1 y2 y3 y4 y5
   unfold spec_l18Stands.l0
   with_reducible repeat' first|exact ae _ _ _ _ _ _|exact spec_l18Pipe.mono _ _ _|exact LeO.refl _|exact LeO.none _|refine LeO.ite ?_ ?_|refine LeO.bind ?_ (fun _=>?_)
theorem spec_l18Stands.mono:∀ O T j g d k,LeO (spec_l18Stands.f k O T j g d) (spec_l18Stands.f (k+1) O T j g d):=by
 intro O T j g d k;have ae:=spec_l18Stands.mono_l k;unfold spec_l18Stands.f
 with_reducible repeat' first|exact ae _ _ _ _ _ _|exact spec_l18Pipe.mono _ _ _|exact LeO.refl _|exact LeO.none _|refine LeO.ite ?_ ?_|refine LeO.bind ?_ (fun _=>?_)
theorem spec_l18Stands.calls (k:Nat) (I:Option Addr) (L:Nat) (c:List (S33)) (J:Option Addr) (D:Nat) (l1:List (S51)) (A2:Option Addr) (c2:Nat) (i:List Bool) (g:Int) (d:Bool) (r:Bool) (w:World) (aE:Kd.C k33 w I c.length c) (a8:c.length≤L) (aF:Kd.C k51 w J l1.length l1) (a9:l1.length≤D) (ax:Kd.C Kd.bool w A2 i.length i) (aw:i.length≤c2) (h:spec_l18Stands.f k c l1 i g d=some r):
  Calls Try.prog 73 #[.pointer I,.slice J l1.length D,.slice A2 i.length c2,.int .i64 g,.bool d] w fun e w'=>e=.returned (.bool r)∧Drawn0 w w':=by
 have K:=a_ aE;have a5:=a_ a8;clear aE a8;have HR1:=a_ aF;have aK:=a_ a9;clear aF a9;have aL:=a_ ax;have bI:=a_ aw;clear ax aw;have H:(spec_l18Stands.l0 k c l1 i g d 0)=some r:=h;clear h;have H':=a_ H;clear H;go_enter Try.func73,Try.ntmps73;go_wp2;go_loopg [11] k (fun kq bH w'=>∃ (b:Int),bH=.int .i64 b∧Aside0 (spec_l18Stands.l0 kq c l1 i g d b=some r)∧Aside0 (kq≤k)∧Drawn0 w w')
 case atStart=>exact ⟨(0),t6_,H',⟨Nat.le_refl _⟩,t23_⟩
 case round=>
  clear H';(try clear D);(try clear c2);(try clear p2);obtain ⟨b,rfl,HA,HK1,⟨m1,rfl⟩⟩:=hrel;cases gk with
  |zero=>exact absurd HA.out (by simp [spec_l18Stands.l0])
  |succ k1=>
   have H:=HA.out;clear HA;simp only [spec_l18Stands.l0] at H;by_cases t:b<(l1.length:Int)
   ·rw [if_pos t] at H;have av:decide (b<(l1.length:Int))=true:=d1_ t;clear t;by_cases c7:0≤b
    ·rw [if_pos c7] at H;have bL:decide (0≤b)=true:=d1_ c7;clear c7;by_cases E:b<(i.length:Int)
     ·rw [if_pos E] at H;have bM:decide (b<(i.length:Int))=true:=d1_ E;clear E;obtain ⟨au,hbq9⟩:∃ b_:Bool,b_=(rdOf false i b):=⟨_,rfl⟩;replace H:(if au=true then (if (((rd_T51 l1 b).f2)==d)=true then ((spec_l18Pipe.f k1 c [rd_T51 l1 b]).bind fun A=>(if A=g then (some true) else (spec_l18Stands.l0 k1 c l1 i g d (wrap64 (b+1))))) else (spec_l18Stands.l0 k1 c l1 i g d (wrap64 (b+1)))) else (spec_l18Stands.l0 k1 c l1 i g d (wrap64 (b+1))))=some r:=(by rw [← hbq9] at H;exact H);have B:=a_ hbq9;clear hbq9;by_cases aN:au=true
      ·subst aN;replace H:=(if_pos rfl).symm.trans H;by_cases s:(((rd_T51 l1 b).f2)==d)=true
       ·rw [if_pos s] at H;have b7:(((rd_T51 l1 b).f2)==d)=true:=s;(try (have b8:decide (((rd_T51 l1 b).f2)=d)=true:=by simpa using s));(try (have b9:(((rd_T51 l1 b).f2)==d)=true:=by simpa using s));clear s;replace H:=be_ H;obtain ⟨A,an,H⟩:=H;have am:=a_ an;clear an;by_cases U:A=g
        ·rw [if_pos U] at H;have bA:(A==g)=true:=b1_ U;have bB:(A !=g)=false:=b4_ U;clear U;obtain rfl:=Option.some.inj H;have l:0≤(b:Int):=od_;have m:b<(i.length:Int):=od_;obtain ⟨aY,W,X⟩:=Kd.at_bool aL.out b l m;(try rw [← B.out] at X);cases W;replace l:=eq_true l;replace m:=eq_true m;have u:0≤(b:Int):=od_;have x:b<(l1.length:Int):=od_;obtain ⟨aM,a7,ay,az,aG⟩:=at_T51 HR1.out b u x;(try rw [← B.out] at aG);cases a7;replace u:=eq_true u;replace x:=eq_true x;have v:0≤(b:Int):=od_;have y:b<(l1.length:Int):=od_;obtain ⟨aZ,ac,bE,bF,ad⟩:=at_T51 HR1.out b v y;(try rw [← B.out] at ad);obtain rfl:aM=aZ:=(by injection ac);replace v:=eq_true v;replace y:=eq_true y;go_wp2_with (first|(go_at_call 81;(with_reducible refine (spec_l18Pipe.calls k1 _ L c _ 1 [rd_T51 l1 b] A _ ?aQ ?aR ?aS ?aT am.out).mono ?_);(case aQ=>exact qc_ K.out);(case aR=>exact a5.out);(case aS=>exact Kd.C_sub (z:=z51) (n:=l1.length) ((by repeat (first|exact HR1.out|(with_reducible refine Kd.C_alloc ?_ _)|(with_reducible refine Kd.C_drewN ?_ _)|(with_reducible refine Kd.C_drew ?_)))) (by first|exact v|exact of_eq_true v|omega) (by first|exact y|exact of_eq_true y|omega));(case aT=>exact Nat.le_refl _);rintro e w' ⟨rfl,⟨nd,rfl⟩⟩));go_ret
         exact ⟨t6_,t23_⟩
        ·rw [if_neg U] at H;have bA:(A==g)=false:=b2_ U;have bB:(A !=g)=true:=b3_ U;have H':=a_ H;clear H;have l:0≤(b:Int):=od_;have m:b<(i.length:Int):=od_;obtain ⟨aY,W,X⟩:=Kd.at_bool aL.out b l m;(try rw [← B.out] at X);cases W;replace l:=eq_true l;replace m:=eq_true m;have u:0≤(b:Int):=od_;have x:b<(l1.length:Int):=od_;obtain ⟨aM,a7,ay,az,aG⟩:=at_T51 HR1.out b u x;(try rw [← B.out] at aG);cases a7;replace u:=eq_true u;replace x:=eq_true x;have v:0≤(b:Int):=od_;have y:b<(l1.length:Int):=od_;obtain ⟨aZ,ac,bE,bF,ad⟩:=at_T51 HR1.out b v y;(try rw [← B.out] at ad);obtain rfl:aM=aZ:=(by injection ac);replace v:=eq_true v;replace y:=eq_true y;go_wp2_with (first|(go_at_call 81;(with_reducible refine (spec_l18Pipe.calls k1 _ L c _ 1 [rd_T51 l1 b] A _ ?aQ ?aR ?aS ?aT am.out).mono ?_);(case aQ=>exact qc_ K.out);(case aR=>exact a5.out);(case aS=>exact Kd.C_sub (z:=z51) (n:=l1.length) ((by repeat (first|exact HR1.out|(with_reducible refine Kd.C_alloc ?_ _)|(with_reducible refine Kd.C_drewN ?_ _)|(with_reducible refine Kd.C_drew ?_)))) (by first|exact v|exact of_eq_true v|omega) (by first|exact y|exact of_eq_true y|omega));(case aT=>exact Nat.le_refl _);rintro e w' ⟨rfl,⟨nd,rfl⟩⟩));go_roundg k1
         case measure=>have:=HK1.out;omega
         case rel=>exact ⟨(wrap64 (b+1)),t6_,H',⟨t60_⟩,t23_⟩
       ·rw [if_neg s] at H;have b7:(((rd_T51 l1 b).f2)==d)=false:=(by simpa using s);(try (have b8:decide (((rd_T51 l1 b).f2)=d)=false:=by simpa using s));(try (have b9:(((rd_T51 l1 b).f2)==d)=false:=by simpa using s));(try (have bJ:¬ (((rd_T51 l1 b).f2)=d):=by simpa using s));clear s;have H':=a_ H;clear H;have l:0≤(b:Int):=od_;have m:b<(i.length:Int):=od_;obtain ⟨aY,W,X⟩:=Kd.at_bool aL.out b l m;(try rw [← B.out] at X);cases W;replace l:=eq_true l;replace m:=eq_true m;have u:0≤(b:Int):=od_;have x:b<(l1.length:Int):=od_;obtain ⟨aM,a7,ay,az,aG⟩:=at_T51 HR1.out b u x;(try rw [← B.out] at aG);cases a7;replace u:=eq_true u;replace x:=eq_true x;go_wp2;go_roundg k1
        case measure=>have:=HK1.out;omega
        case rel=>exact ⟨(wrap64 (b+1)),t6_,H',⟨t60_⟩,t23_⟩
      ·replace aN:=Bool.eq_false_iff.mpr aN;subst aN;replace H:=(if_neg (show ¬ (false=true) by decide)).symm.trans H;have H':=a_ H;clear H;have l:0≤(b:Int):=od_;have m:b<(i.length:Int):=od_;obtain ⟨aY,W,X⟩:=Kd.at_bool aL.out b l m;(try rw [← B.out] at X);cases W;replace l:=eq_true l;replace m:=eq_true m;go_wp2;go_roundg k1
       case measure=>have:=HK1.out;omega
       case rel=>exact ⟨(wrap64 (b+1)),t6_,H',⟨t60_⟩,t23_⟩
     ·rw [if_neg E] at H;exact absurd H t66_
    ·rw [if_neg c7] at H;exact absurd H t66_
   ·rw [if_neg t] at H;have av:decide (b<(l1.length:Int))=false:=d2_ t;clear t;obtain rfl:=Option.some.inj H;go_wp2;go_ret
    exact ⟨t6_,t23_⟩

end Go.Proofs.Ytheokilgacmlmaa.PFnExactValvesToClose
