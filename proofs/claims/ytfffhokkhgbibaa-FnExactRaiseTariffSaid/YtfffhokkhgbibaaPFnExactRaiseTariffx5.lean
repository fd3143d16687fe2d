-- written by wip/xprint.py, a program of this session, for this claim; not trusted: Lean checks it.
import Derived.Test.YtfffhokkhgbibaaPFnExactRaiseTariffx0
namespace Go.Proofs.Ytfffhokkhgbibaa.PFnExactRaiseTariff
open Go.RowKit Go.Proofs.YtfffhokkhgbibaaW.PrintWords Go.Proofs.YtfffhokkhgbibaaW.PrintLast Go.Proofs.YtfffhokkhgbibaaW.PrintMore
attribute [local go_sem] leq_less_ max2_int min2_int max_two min_two max_three min_three max_four min_four   -- for this text's walks alone
set_option linter.unusedVariables false
set_option linter.unusedSimpArgs false
set_option maxHeartbeats 8000000
set_option maxRecDepth 100000
def impl_within.f (b:Int) (u:Int) (A:Int):Option (Bool):=if b≥u then (some (decide (b≤A))) else (some false)
theorem impl_within.calls (b:Int) (u:Int) (A:Int) (r:Bool) (w:World) (h:impl_within.f b u A=some r):
  Calls Try.prog 32 #[.int .i64 b,.int .i64 u,.int .i64 A] w fun e w'=>e=.returned (.bool r)∧Drawn0 w w':=by
 have H:(if b≥u then (some (decide (b≤A))) else (some false))=some r:=h;clear h;by_cases i:b≥u
 ·rw [if_pos i] at H;have I:decide (u≤b)=true:=d1_ i;clear i;obtain rfl:=Option.some.inj H;go_enter Try.func32,Try.ntmps32;go_wp2;go_ret
  exact ⟨t4_,t8_⟩
 ·rw [if_neg i] at H;have I:decide (u≤b)=false:=d2_ i;clear i;obtain rfl:=Option.some.inj H;go_enter Try.func32,Try.ntmps32;go_wp2;go_ret
  exact ⟨t4_,t8_⟩

def impl_onlyNameBytes.l0:Nat→ByteArray→Int→Int→Option (Bool)
 |0,_,_,_=>none
 |k+1,s,E,o=>if o<E then (if 0≤o then (if o<(s.size:Int) then (if (bt s o)<97 then (if (bt s o)<48 then (some false) else (if (bt s o) > 57 then (some false) else (impl_onlyNameBytes.l0 k s E (wrap64 (o+1))))) else (if (bt s o) > 122 then (if (bt s o)<48 then (some false) else (if (bt s o) > 57 then (some false) else (impl_onlyNameBytes.l0 k s E (wrap64 (o+1))))) else (impl_onlyNameBytes.l0 k s E (wrap64 (o+1))))) else (none)) else (none)) else (some true)
def impl_onlyNameBytes.f (k:Nat) (b:ByteArray):Option (Bool):=impl_onlyNameBytes.l0 k b (b.size:Int) 0
theorem impl_onlyNameBytes.mono_l:∀ k,(∀ O T U,LeO (impl_onlyNameBytes.l0 k O T U) (impl_onlyNameBytes.l0 (k+1) O T U))
 |0=>fun _ _ _ r h=>by simp [impl_onlyNameBytes.l0] at h
 |k+1=>by
  have L:=impl_onlyNameBytes.mono_l k
  ·intro O T U
   unfold impl_onlyNameBytes.l0
   with_reducible repeat' first|exact L _ _ _|exact LeO.refl _|exact LeO.none _|refine LeO.ite ?_ ?_|refine LeO.bind ?_ (fun _=>?_)
theorem impl_onlyNameBytes.mono:∀ b k,LeO (impl_onlyNameBytes.f k b) (impl_onlyNameBytes.f (k+1) b):=by
 intro b k;have L:=impl_onlyNameBytes.mono_l k;unfold impl_onlyNameBytes.f
 with_reducible repeat' first|exact L _ _ _|exact LeO.refl _|exact LeO.none _|refine LeO.ite ?_ ?_|refine LeO.bind ?_ (fun _=>?_)
theorem impl_onlyNameBytes.calls (k:Nat) (b:ByteArray) (r:Bool) (w:World) (h:impl_onlyNameBytes.f k b=some r):
  Calls Try.prog 47 #[.string b] w fun e w'=>e=.returned (.bool r)∧Drawn0 w w':=by
 have H:(impl_onlyNameBytes.l0 k b (b.size:Int) 0)=some r:=h;clear h;have H':=a_ H;clear H;go_enter Try.func47,Try.ntmps47;go_wp2;go_loopg [7] k (fun kq v7 w'=>∃ (c:Int),v7=.int .i64 c∧Aside0 (impl_onlyNameBytes.l0 kq b (b.size:Int) c=some r)∧Aside0 (kq≤k)∧Drawn0 w w')
 case atStart=>exact ⟨(0),t4_,H',⟨Nat.le_refl _⟩,t8_⟩
 case round=>
  clear H';obtain ⟨c,rfl,HA,HK1,⟨m1,rfl⟩⟩:=hrel;cases gk with
  |zero=>exact absurd HA.out (by simp [impl_onlyNameBytes.l0])
  |succ k1=>
   have H:=HA.out;clear HA;simp only [impl_onlyNameBytes.l0] at H;by_cases j:c<(b.size:Int)
   ·rw [if_pos j] at H;have G:decide (c<(b.size:Int))=true:=d1_ j;clear j;by_cases q:0≤c
    ·rw [if_pos q] at H;have X:decide (0≤c)=true:=d1_ q;clear q;by_cases i:c<(b.size:Int)
     ·rw [if_pos i] at H;have I:decide (c<(b.size:Int))=true:=d1_ i;clear i;by_cases l:(bt b c)<97
      ·rw [if_pos l] at H;have J:decide ((bt b c)<97)=true:=d1_ l;clear l;by_cases y:(bt b c)<48
       ·rw [if_pos y] at H;have a7:decide ((bt b c)<48)=true:=d1_ y;clear y;obtain rfl:=Option.some.inj H;have g:0≤(c:Int):=od_;have d:c<(b.size:Int):=od_;have t:=bt_at b c;replace g:=eq_true g;replace d:=eq_true d;go_wp2;go_ret
        exact ⟨t4_,t8_⟩
       ·rw [if_neg y] at H;have a7:decide ((bt b c)<48)=false:=d2_ y;clear y;by_cases m:(bt b c) > 57
        ·rw [if_pos m] at H;have K:decide (57<(bt b c))=true:=d1_ m;clear m;obtain rfl:=Option.some.inj H;have g:0≤(c:Int):=od_;have d:c<(b.size:Int):=od_;have t:=bt_at b c;replace g:=eq_true g;replace d:=eq_true d;go_wp2;go_ret
         exact ⟨t4_,t8_⟩
        ·rw [if_neg m] at H;have K:decide (57<(bt b c))=false:=d2_ m;clear m;have H':=a_ H;clear H;have g:0≤(c:Int):=od_;have d:c<(b.size:Int):=od_;have t:=bt_at b c;replace g:=eq_true g;replace d:=eq_true d;go_wp2;go_roundg k1
         case measure=>have:=HK1.out;omega
         case rel=>exact ⟨(wrap64 (c+1)),t4_,H',⟨t64_⟩,t8_⟩
      ·rw [if_neg l] at H;have J:decide ((bt b c)<97)=false:=d2_ l;clear l;by_cases z:(bt b c) > 122
       ·rw [if_pos z] at H;have a8:decide (122<(bt b c))=true:=d1_ z;clear z;by_cases v:(bt b c)<48
        ·rw [if_pos v] at H;have a3:decide ((bt b c)<48)=true:=d1_ v;clear v;obtain rfl:=Option.some.inj H;have g:0≤(c:Int):=od_;have d:c<(b.size:Int):=od_;have t:=bt_at b c;replace g:=eq_true g;replace d:=eq_true d;go_wp2;go_ret
         exact ⟨t4_,t8_⟩
        ·rw [if_neg v] at H;have a3:decide ((bt b c)<48)=false:=d2_ v;clear v;by_cases x:(bt b c) > 57
         ·rw [if_pos x] at H;have a4:decide (57<(bt b c))=true:=d1_ x;clear x;obtain rfl:=Option.some.inj H;have g:0≤(c:Int):=od_;have d:c<(b.size:Int):=od_;have t:=bt_at b c;replace g:=eq_true g;replace d:=eq_true d;go_wp2;go_ret
          exact ⟨t4_,t8_⟩
         ·rw [if_neg x] at H;have a4:decide (57<(bt b c))=false:=d2_ x;clear x;have H':=a_ H;clear H;have g:0≤(c:Int):=od_;have d:c<(b.size:Int):=od_;have t:=bt_at b c;replace g:=eq_true g;replace d:=eq_true d;go_wp2;go_roundg k1
          case measure=>have:=HK1.out;omega
          case rel=>exact ⟨(wrap64 (c+1)),t4_,H',⟨t64_⟩,t8_⟩
       ·rw [if_neg z] at H;have a8:decide (122<(bt b c))=false:=d2_ z;clear z;have H':=a_ H;clear H;have g:0≤(c:Int):=od_;have d:c<(b.size:Int):=od_;have t:=bt_at b c;replace g:=eq_true g;replace d:=eq_true d;go_wp2;go_roundg k1
        case measure=>have:=HK1.out;omega
        case rel=>exact ⟨(wrap64 (c+1)),t4_,H',⟨t64_⟩,t8_⟩
     ·rw [if_neg i] at H;exact absurd H t63_
    ·rw [if_neg q] at H;exact absurd H t63_
   ·rw [if_neg j] at H;have G:decide (c<(b.size:Int))=false:=d2_ j;clear j;obtain rfl:=Option.some.inj H;go_wp2;go_ret
    exact ⟨t4_,t8_⟩

def impl_IsName.f (k:Nat) (b:ByteArray):Option (Bool):=if (b.size:Int)<1 then (some false) else (if (b.size:Int) > 10 then (some false) else (if 0<(b.size:Int) then (if (bt b 0)<97 then (some false) else (if (bt b 0) > 122 then (some false) else ((impl_onlyNameBytes.f k b).bind fun D=>(some D)))) else (none)))
theorem impl_IsName.mono:∀ b k,LeO (impl_IsName.f k b) (impl_IsName.f (k+1) b):=by
 intro b k;unfold impl_IsName.f
 with_reducible repeat' first|exact impl_onlyNameBytes.mono _ _|exact LeO.refl _|exact LeO.none _|refine LeO.ite ?_ ?_|refine LeO.bind ?_ (fun _=>?_)
theorem impl_IsName.calls (k:Nat) (b:ByteArray) (r:Bool) (w:World) (h:impl_IsName.f k b=some r):
  Calls Try.prog 38 #[.string b] w fun e w'=>e=.returned (.bool r)∧Drawn0 w w':=by
 have H:(if (b.size:Int)<1 then (some false) else (if (b.size:Int) > 10 then (some false) else (if 0<(b.size:Int) then (if (bt b 0)<97 then (some false) else (if (bt b 0) > 122 then (some false) else ((impl_onlyNameBytes.f k b).bind fun D=>(some D)))) else (none))))=some r:=h;clear h;by_cases j:(b.size:Int)<1
 ·rw [if_pos j] at H;have G:decide ((b.size:Int)<1)=true:=d1_ j;have a5:decide (b.size<1)=true:=decide_eq_true t29_;clear j;obtain rfl:=Option.some.inj H;go_enter Try.func38,Try.ntmps38;go_wp2;go_ret
  exact ⟨t4_,t8_⟩
 ·rw [if_neg j] at H;have G:decide ((b.size:Int)<1)=false:=d2_ j;have a5:decide (b.size<1)=false:=decide_eq_false t29_;clear j;by_cases q:(b.size:Int) > 10
  ·rw [if_pos q] at H;have X:decide (10<(b.size:Int))=true:=d1_ q;have a6:decide (10<b.size)=true:=decide_eq_true t29_;clear q;obtain rfl:=Option.some.inj H;go_enter Try.func38,Try.ntmps38;go_wp2;go_ret
   exact ⟨t4_,t8_⟩
  ·rw [if_neg q] at H;have X:decide (10<(b.size:Int))=false:=d2_ q;have a6:decide (10<b.size)=false:=decide_eq_false t29_;clear q;by_cases i:0<(b.size:Int)
   ·rw [if_pos i] at H;have I:decide (0<(b.size:Int))=true:=d1_ i;have aC:decide (0<b.size)=true:=decide_eq_true t29_;clear i;by_cases l:(bt b 0)<97
    ·rw [if_pos l] at H;have J:decide ((bt b 0)<97)=true:=d1_ l;clear l;obtain rfl:=Option.some.inj H;have g:0≤(0:Int):=t29_;have d:0<b.size:=(by have:(0:Int)<(b.size:Int):=od_;omega);have t:∀ h:0<b.size,((b[0]'h).toNat:Int)=bt b 0:=bt_at b 0;clear g;have Y:(0<(b.size:Int))=True:=eq_true (od_);replace d:=eq_true d;go_enter Try.func38,Try.ntmps38;go_wp2;go_ret
     exact ⟨t4_,t8_⟩
    ·rw [if_neg l] at H;have J:decide ((bt b 0)<97)=false:=d2_ l;clear l;by_cases m:(bt b 0) > 122
     ·rw [if_pos m] at H;have K:decide (122<(bt b 0))=true:=d1_ m;clear m;obtain rfl:=Option.some.inj H;have g:0≤(0:Int):=t29_;have d:0<b.size:=(by have:(0:Int)<(b.size:Int):=od_;omega);have t:∀ h:0<b.size,((b[0]'h).toNat:Int)=bt b 0:=bt_at b 0;clear g;have Y:(0<(b.size:Int))=True:=eq_true (od_);replace d:=eq_true d;have M:0≤(0:Int):=t29_;have B:0<b.size:=(by have:(0:Int)<(b.size:Int):=od_;omega);have a9:∀ h:0<b.size,((b[0]'h).toNat:Int)=bt b 0:=bt_at b 0;clear M;have aA:(0<(b.size:Int))=True:=eq_true (od_);replace B:=eq_true B;go_enter Try.func38,Try.ntmps38;go_wp2;go_ret
      exact ⟨t4_,t8_⟩
     ·rw [if_neg m] at H;have K:decide (122<(bt b 0))=false:=d2_ m;clear m;replace H:=be_ H;obtain ⟨D,W,H⟩:=H;have Z:=a_ W;clear W;obtain rfl:=Option.some.inj H;have g:0≤(0:Int):=t29_;have d:0<b.size:=(by have:(0:Int)<(b.size:Int):=od_;omega);have t:∀ h:0<b.size,((b[0]'h).toNat:Int)=bt b 0:=bt_at b 0;clear g;have Y:(0<(b.size:Int))=True:=eq_true (od_);replace d:=eq_true d;have M:0≤(0:Int):=t29_;have B:0<b.size:=(by have:(0:Int)<(b.size:Int):=od_;omega);have a9:∀ h:0<b.size,((b[0]'h).toNat:Int)=bt b 0:=bt_at b 0;clear M;have aA:(0<(b.size:Int))=True:=eq_true (od_);replace B:=eq_true B;go_enter Try.func38,Try.ntmps38;go_wp2_with (first|((with_reducible refine gate_callee (f:=47) rfl ?_);refine goesL_ (some 22) rfl rfl Try.func47 t14_ rfl #[.string b] rfl t1_ ?_;(with_reducible refine (impl_onlyNameBytes.calls k b D _ Z.out).mono ?_);rintro e w' ⟨rfl,⟨nd,rfl⟩⟩;refine ⟨_,rfl,?_⟩));go_ret
      exact ⟨t4_,t8_⟩
   ·rw [if_neg i] at H;exact absurd H t63_

end Go.Proofs.Ytfffhokkhgbibaa.PFnExactRaiseTariff
