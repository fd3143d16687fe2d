-- written by wip/xprint.py, a program of this session, for this claim; not trusted: Lean checks it.
import Derived.Test.YtldelmdmienmeaaPFnLossesx0
namespace Go.Proofs.Ytldelmdmienmeaa.PFnLosses
open Go.RowKit Go.Proofs.YtldelmdmienmeaaW.PrintWords Go.Proofs.YtldelmdmienmeaaW.PrintLast Go.Proofs.YtldelmdmienmeaaW.PrintMore
attribute [local go_sem] leq_less_ max2_int min2_int max_two min_two max_three min_three max_four min_four   -- for this text's walks alone
set_option linter.unusedVariables false
set_option linter.unusedSimpArgs false
set_option maxHeartbeats 8000000
set_option maxRecDepth 100000
def spec_l01Small.f (b:Int):Option (Bool):=if b≥97 then (some (decide (b≤122))) else (some false)
theorem spec_l01Small.calls (b:Int) (r:Bool) (w:World) (h:spec_l01Small.f b=some r):
  Calls Try.prog 65 #[.int .u8 b] w fun e w'=>e=.returned (.bool r)∧Drawn0 w w':=by
 have H:(if b≥97 then (some (decide (b≤122))) else (some false))=some r:=h;clear h;by_cases d:b≥97
 ·rw [if_pos d] at H;have L:decide (97≤b)=true:=d1_ d;clear d;obtain rfl:=Option.some.inj H;go_enter Try.func65,Try.ntmps65;go_wp2;go_ret
  exact ⟨t12_,t31_⟩
 ·rw [if_neg d] at H;have L:decide (97≤b)=false:=d2_ d;clear d;obtain rfl:=Option.some.inj H;go_enter Try.func65,Try.ntmps65;go_wp2;go_ret
  exact ⟨t12_,t31_⟩

def spec_l01Digit.f (b:Int):Option (Bool):=if b≥48 then (some (decide (b≤57))) else (some false)
theorem spec_l01Digit.calls (b:Int) (r:Bool) (w:World) (h:spec_l01Digit.f b=some r):
  Calls Try.prog 66 #[.int .u8 b] w fun e w'=>e=.returned (.bool r)∧Drawn0 w w':=by
 have H:(if b≥48 then (some (decide (b≤57))) else (some false))=some r:=h;clear h;by_cases d:b≥48
 ·rw [if_pos d] at H;have L:decide (48≤b)=true:=d1_ d;clear d;obtain rfl:=Option.some.inj H;go_enter Try.func66,Try.ntmps66;go_wp2;go_ret
  exact ⟨t12_,t31_⟩
 ·rw [if_neg d] at H;have L:decide (48≤b)=false:=d2_ d;clear d;obtain rfl:=Option.some.inj H;go_enter Try.func66,Try.ntmps66;go_wp2;go_ret
  exact ⟨t12_,t31_⟩

mutual
def spec_l01Name.j0:Nat→ByteArray→Bool→Option (Bool)
 |0,_,_=>none
 |k+1,o,aF=>if aF=true then (some false) else (spec_l01Name.l0 k o 0)
def spec_l01Name.l0:Nat→ByteArray→Int→Option (Bool)
 |0,_,_=>none
 |k+1,o,v=>if v<(o.size:Int) then (if 0≤v then ((spec_l01Small.f (bt o v)).bind fun X=>(if X=true then (spec_l01Name.l0 k o (wrap64 (v+1))) else ((spec_l01Digit.f (bt o v)).bind fun Y=>(if Y=true then (spec_l01Name.l0 k o (wrap64 (v+1))) else (some false))))) else (none)) else (some true)
end
def spec_l01Name.f (k:Nat) (b:ByteArray):Option (Bool):=if b.toList=([]:List UInt8) then (spec_l01Name.j0 k b true) else (if (b.size:Int) > 10 then (spec_l01Name.j0 k b true) else (if 0<(b.size:Int) then ((spec_l01Small.f (bt b 0)).bind fun u=>(spec_l01Name.j0 k b (!u))) else (none)))
theorem spec_l01Name.mono_l:∀ k,(∀ y0 y1,LeO (spec_l01Name.j0 k y0 y1) (spec_l01Name.j0 (k+1) y0 y1))∧(∀ y0 y1,LeO (spec_l01Name.l0 k y0 y1) (spec_l01Name.l0 (k+1) y0 y1))
 |0=>⟨fun _ _ r h=>by simp [spec_l01Name.j0] at h,fun _ _ r h=>by simp [spec_l01Name.l0] at h⟩
 |k+1=>by
  obtain ⟨U,W⟩:=spec_l01Name.mono_l k
  refine ⟨?_,?_⟩<;>intros<;>first|unfold spec_l01Name.j0|unfold spec_l01Name.l0
  all_goals
   with_reducible repeat' first|exact U _ _|exact W _ _|exact LeO.refl _|exact LeO.none _|refine LeO.ite ?_ ?_|refine LeO.bind ?_ (fun _=>?_)
theorem spec_l01Name.mono:∀ b k,LeO (spec_l01Name.f k b) (spec_l01Name.f (k+1) b):=by
 intro b k;obtain ⟨U,W⟩:=spec_l01Name.mono_l k;unfold spec_l01Name.f
 with_reducible repeat' first|exact U _ _|exact W _ _|exact LeO.refl _|exact LeO.none _|refine LeO.ite ?_ ?_|refine LeO.bind ?_ (fun _=>?_)
theorem spec_l01Name.calls (k:Nat) (b:ByteArray) (r:Bool) (w:World) (h:spec_l01Name.f k b=some r):
  Calls Try.prog 54 #[.string b] w fun e w'=>e=.returned (.bool r)∧Drawn0 w w':=by
 have H:(if b.toList=([]:List UInt8) then (spec_l01Name.j0 k b true) else (if (b.size:Int) > 10 then (spec_l01Name.j0 k b true) else (if 0<(b.size:Int) then ((spec_l01Small.f (bt b 0)).bind fun u=>(spec_l01Name.j0 k b (!u))) else (none))))=some r:=h;clear h;have K:=a_ H;clear H;go_enter Try.func54,Try.ntmps54;go_upto_region 1 with (fail);go_cut [16] (fun aD wc=>∃ (kq:Nat) (I:Bool),aD=.bool I∧Aside0 (spec_l01Name.j0 kq b I=some r)∧Aside0 (kq≤k)∧Drawn0 w wc)
 case first=>
  have H:=K.out;clear K;by_cases g:b.toList=([]:List UInt8)
  ·rw [if_pos g] at H;have m:(b.toList==([]:List UInt8))=true:=b1_ g;have M:(b.toList !=([]:List UInt8))=false:=b4_ g;clear g;(first|rw [m]|(simp only [i64_w,i32_w];rw [m])|skip);have H':=a_ H;clear H;go_wp2;go_meet
   case rel=>exact ⟨_,(true),t12_,H',⟨t83_⟩,t31_⟩
  ·rw [if_neg g] at H;have m:(b.toList==([]:List UInt8))=false:=b2_ g;have M:(b.toList !=([]:List UInt8))=true:=b3_ g;(first|rw [m]|(simp only [i64_w,i32_w];rw [m])|skip);by_cases i:(b.size:Int) > 10
   ·rw [if_pos i] at H;have O:decide (10<(b.size:Int))=true:=d1_ i;have T:decide (10<b.size)=true:=decide_eq_true t74_;clear i;have H':=a_ H;clear H;go_wp2;go_meet
    case rel=>exact ⟨_,(true),t12_,H',⟨t83_⟩,t31_⟩
   ·rw [if_neg i] at H;have O:decide (10<(b.size:Int))=false:=d2_ i;have T:decide (10<b.size)=false:=decide_eq_false t74_;clear i;by_cases q:0<(b.size:Int)
    ·rw [if_pos q] at H;have a4:decide (0<(b.size:Int))=true:=d1_ q;have a5:decide (0<b.size)=true:=decide_eq_true t74_;clear q;replace H:=be_ H;obtain ⟨u,a3,H⟩:=H;have A7:=a_ a3;clear a3;have H':=a_ H;clear H;have z:0≤(0:Int):=t74_;have t:0<b.size:=(by have:(0:Int)<(b.size:Int):=od_;omega);have a7:∀ h:0<b.size,((b[0]'h).toNat:Int)=bt b 0:=bt_at b 0;clear z;have a9:(0<(b.size:Int))=True:=eq_true (od_);replace t:=eq_true t;go_wp2_with (first|(go_at_call 65;(with_reducible refine (spec_l01Small.calls (bt b 0) u _ A7.out).mono ?_);rintro e w' ⟨rfl,⟨nd,rfl⟩⟩));go_meet
     case rel=>exact ⟨_,(!u),t12_,H',⟨t83_⟩,t31_⟩
    ·rw [if_neg q] at H;exact absurd H t55_
 case rest=>
  clear K;(try clear p2);(try clear g);(try clear m);(try clear M);(try clear i);(try clear O);(try clear T);(try clear q);(try clear a4);(try clear a5);(try clear z);(try clear t);(try clear a7);(try clear a9);(try clear z);(try clear t);obtain ⟨kq,I,rfl,HA,HJ1,⟨mc1,rfl⟩⟩:=hcut;cases kq with
  |zero=>exact absurd HA.out (by simp [spec_l01Name.j0])
  |succ kj1=>
   have H:=HA.out;clear HA;simp only [spec_l01Name.j0] at H;by_cases x:I=true
   ·subst x;replace H:=(if_pos rfl).symm.trans H;obtain rfl:=Option.some.inj H;go_wp2;go_ret
    exact ⟨t12_,t31_⟩
   ·replace x:=Bool.eq_false_iff.mpr x;subst x;replace H:=(if_neg (show ¬ (false=true) by decide)).symm.trans H;have H':=a_ H;clear H;go_wp2;go_loopg [3] kj1 (fun kq v3 w'=>∃ (c:Int),v3=.int .i64 c∧Aside0 (spec_l01Name.l0 kq b c=some r)∧Aside0 (kq≤kj1)∧Drawn0 w w')
    case atStart=>exact ⟨(0),t12_,H',⟨Nat.le_refl _⟩,t31_⟩
    case round=>
     clear H';(try clear c1);(try clear p2);(try clear g);(try clear m);(try clear M);(try clear i);(try clear O);(try clear T);(try clear q);(try clear a4);(try clear a5);(try clear z);(try clear t);(try clear a7);(try clear a9);(try clear x);(try clear p2);(try clear z);(try clear t);obtain ⟨c,rfl,HA,B,⟨m2,rfl⟩⟩:=hrel;cases gk with
     |zero=>exact absurd HA.out (by simp [spec_l01Name.l0])
     |succ k2=>
      have H:=HA.out;clear HA;simp only [spec_l01Name.l0] at H;by_cases s:c<(b.size:Int)
      ·rw [if_pos s] at H;have aB:decide (c<(b.size:Int))=true:=d1_ s;clear s;by_cases D:0≤c
       ·rw [if_pos D] at H;have aH:decide (0≤c)=true:=d1_ D;clear D;replace H:=be_ H;obtain ⟨X,Z,H⟩:=H;have J:=a_ Z;clear Z;by_cases E:X=true
        ·subst E;replace H:=(if_pos rfl).symm.trans H;have H':=a_ H;clear H;have j:0≤(c:Int):=od_;have l:c<(b.size:Int):=od_;have a6:=bt_at b c;replace j:=eq_true j;replace l:=eq_true l;go_wp2_with (first|((with_reducible refine gate_callee (f:=65) rfl ?_);refine goesL_ (some 26) rfl rfl Try.func65 t16_ rfl #[.int .u8 (bt b c)] rfl t1_ ?_;(with_reducible refine (spec_l01Small.calls (bt b c) true _ J.out).mono ?_);rintro e w' ⟨rfl,⟨nd,rfl⟩⟩;refine ⟨_,rfl,?_⟩));go_roundg k2
         case measure=>have:=HJ1.out;have:=B.out;omega
         case rel=>exact ⟨(wrap64 (c+1)),t12_,H',⟨(by have:=HJ1.out;have:=B.out;omega)⟩,t31_⟩
        ·replace E:=Bool.eq_false_iff.mpr E;subst E;replace H:=(if_neg (show ¬ (false=true) by decide)).symm.trans H;replace H:=be_ H;obtain ⟨Y,a2,H⟩:=H;have a1:=a_ a2;clear a2;by_cases G:Y=true
         ·subst G;replace H:=(if_pos rfl).symm.trans H;have H':=a_ H;clear H;have j:0≤(c:Int):=od_;have l:c<(b.size:Int):=od_;have a6:=bt_at b c;replace j:=eq_true j;replace l:=eq_true l;go_wp2_with (first|((with_reducible refine gate_callee (f:=65) rfl ?_);refine goesL_ (some 26) rfl rfl Try.func65 t16_ rfl #[.int .u8 (bt b c)] rfl t1_ ?_;(with_reducible refine (spec_l01Small.calls (bt b c) false _ J.out).mono ?_);rintro e w' ⟨rfl,⟨nd,rfl⟩⟩;refine ⟨_,rfl,?_⟩;have y:0≤(c:Int):=od_;have A:c<(b.size:Int):=od_;have aC:=bt_at b c;replace y:=eq_true y;replace A:=eq_true A)|(go_at_call 66;(with_reducible refine (spec_l01Digit.calls (bt b c) true _ a1.out).mono ?_);rintro e w' ⟨rfl,⟨nd,rfl⟩⟩));go_roundg k2
          case measure=>have:=HJ1.out;have:=B.out;omega
          case rel=>exact ⟨(wrap64 (c+1)),t12_,H',⟨(by have:=HJ1.out;have:=B.out;omega)⟩,t31_⟩
         ·replace G:=Bool.eq_false_iff.mpr G;subst G;replace H:=(if_neg (show ¬ (false=true) by decide)).symm.trans H;obtain rfl:=Option.some.inj H;have j:0≤(c:Int):=od_;have l:c<(b.size:Int):=od_;have a6:=bt_at b c;replace j:=eq_true j;replace l:=eq_true l;go_wp2_with (first|((with_reducible refine gate_callee (f:=65) rfl ?_);refine goesL_ (some 26) rfl rfl Try.func65 t16_ rfl #[.int .u8 (bt b c)] rfl t1_ ?_;(with_reducible refine (spec_l01Small.calls (bt b c) false _ J.out).mono ?_);rintro e w' ⟨rfl,⟨nd,rfl⟩⟩;refine ⟨_,rfl,?_⟩;have y:0≤(c:Int):=od_;have A:c<(b.size:Int):=od_;have aC:=bt_at b c;replace y:=eq_true y;replace A:=eq_true A)|(go_at_call 66;(with_reducible refine (spec_l01Digit.calls (bt b c) false _ a1.out).mono ?_);rintro e w' ⟨rfl,⟨nd,rfl⟩⟩));go_ret
          exact ⟨t12_,t31_⟩
       ·rw [if_neg D] at H;exact absurd H t55_
      ·rw [if_neg s] at H;have aB:decide (c<(b.size:Int))=false:=d2_ s;clear s;obtain rfl:=Option.some.inj H;go_wp2;go_ret
       exact ⟨t12_,t31_⟩

end Go.Proofs.Ytldelmdmienmeaa.PFnLosses
