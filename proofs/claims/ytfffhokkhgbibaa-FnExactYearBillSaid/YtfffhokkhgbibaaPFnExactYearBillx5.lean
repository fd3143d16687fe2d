-- written by wip/xprint.py, a program of this session, for this claim; not trusted: Lean checks it.
import Derived.Test.YtfffhokkhgbibaaPFnExactYearBillx0
namespace Go.Proofs.Ytfffhokkhgbibaa.PFnExactYearBill
open Go.RowKit Go.Proofs.YtfffhokkhgbibaaW.PrintWords Go.Proofs.YtfffhokkhgbibaaW.PrintLast Go.Proofs.YtfffhokkhgbibaaW.PrintMore
attribute [local go_sem] leq_less_ max2_int min2_int max_two min_two max_three min_three max_four min_four   -- for this text's walks alone
set_option linter.unusedVariables false
set_option linter.unusedSimpArgs false
set_option maxHeartbeats 8000000
set_option maxRecDepth 100000
def impl_onlyNameBytes.l0:Nat→ByteArray→Int→Int→Option (Bool)
 |0,_,_,_=>none
 |k+1,q,B,m=>if m<B then (if 0≤m then (if m<(q.size:Int) then (if (bt q m)<97 then (if (bt q m)<48 then (some false) else (if (bt q m) > 57 then (some false) else (impl_onlyNameBytes.l0 k q B (wrap64 (m+1))))) else (if (bt q m) > 122 then (if (bt q m)<48 then (some false) else (if (bt q m) > 57 then (some false) else (impl_onlyNameBytes.l0 k q B (wrap64 (m+1))))) else (impl_onlyNameBytes.l0 k q B (wrap64 (m+1))))) else (none)) else (none)) else (some true)
def impl_onlyNameBytes.f (k:Nat) (b:ByteArray):Option (Bool):=impl_onlyNameBytes.l0 k b (b.size:Int) 0
theorem impl_onlyNameBytes.mono_l:∀ k,(∀ K L M,LeO (impl_onlyNameBytes.l0 k K L M) (impl_onlyNameBytes.l0 (k+1) K L M))
 |0=>fun _ _ _ r h=>by simp [impl_onlyNameBytes.l0] at h
 |k+1=>by
  have I:=impl_onlyNameBytes.mono_l k
  ·intro K L M
   unfold impl_onlyNameBytes.l0
   with_reducible repeat' first|exact I _ _ _|exact LeO.refl _|exact LeO.none _|refine LeO.ite ?_ ?_|refine LeO.bind ?_ (fun _=>?_)
theorem impl_onlyNameBytes.mono:∀ b k,LeO (impl_onlyNameBytes.f k b) (impl_onlyNameBytes.f (k+1) b):=by
 intro b k;have I:=impl_onlyNameBytes.mono_l k;unfold impl_onlyNameBytes.f
 with_reducible repeat' first|exact I _ _ _|exact LeO.refl _|exact LeO.none _|refine LeO.ite ?_ ?_|refine LeO.bind ?_ (fun _=>?_)
theorem impl_onlyNameBytes.calls (k:Nat) (b:ByteArray) (r:Bool) (w:World) (h:impl_onlyNameBytes.f k b=some r):
  Calls Try.prog 47 #[.string b] w fun e w'=>e=.returned (.bool r)∧Drawn0 w w':=by
 have H:(impl_onlyNameBytes.l0 k b (b.size:Int) 0)=some r:=h;clear h;have H':=a_ H;clear H;go_enter Try.func47,Try.ntmps47;go_wp2;go_loopg [7] k (fun kq v7 w'=>∃ (c:Int),v7=.int .i64 c∧Aside0 (impl_onlyNameBytes.l0 kq b (b.size:Int) c=some r)∧Aside0 (kq≤k)∧Drawn0 w w')
 case atStart=>exact ⟨(0),t4_,H',⟨Nat.le_refl _⟩,t8_⟩
 case round=>
  clear H';obtain ⟨c,rfl,HA,HK1,⟨m1,rfl⟩⟩:=hrel;cases gk with
  |zero=>exact absurd HA.out (by simp [impl_onlyNameBytes.l0])
  |succ k1=>
   have H:=HA.out;clear HA;simp only [impl_onlyNameBytes.l0] at H;by_cases i:c<(b.size:Int)
   ·rw [if_pos i] at H;have D:decide (c<(b.size:Int))=true:=d1_ i;clear i;by_cases o:0≤c
    ·rw [if_pos o] at H;have T:decide (0≤c)=true:=d1_ o;clear o;by_cases s:c<(b.size:Int)
     ·rw [if_pos s] at H;have a2:decide (c<(b.size:Int))=true:=d1_ s;clear s;by_cases j:(bt b c)<97
      ·rw [if_pos j] at H;have E:decide ((bt b c)<97)=true:=d1_ j;clear j;by_cases x:(bt b c)<48
       ·rw [if_pos x] at H;have a3:decide ((bt b c)<48)=true:=d1_ x;clear x;obtain rfl:=Option.some.inj H;have g:0≤(c:Int):=od_;have d:c<(b.size:Int):=od_;have t:=bt_at b c;replace g:=eq_true g;replace d:=eq_true d;go_wp2;go_ret
        exact ⟨t4_,t8_⟩
       ·rw [if_neg x] at H;have a3:decide ((bt b c)<48)=false:=d2_ x;clear x;by_cases l:(bt b c) > 57
        ·rw [if_pos l] at H;have G:decide (57<(bt b c))=true:=d1_ l;clear l;obtain rfl:=Option.some.inj H;have g:0≤(c:Int):=od_;have d:c<(b.size:Int):=od_;have t:=bt_at b c;replace g:=eq_true g;replace d:=eq_true d;go_wp2;go_ret
         exact ⟨t4_,t8_⟩
        ·rw [if_neg l] at H;have G:decide (57<(bt b c))=false:=d2_ l;clear l;have H':=a_ H;clear H;have g:0≤(c:Int):=od_;have d:c<(b.size:Int):=od_;have t:=bt_at b c;replace g:=eq_true g;replace d:=eq_true d;go_wp2;go_roundg k1
         case measure=>have:=HK1.out;omega
         case rel=>exact ⟨(wrap64 (c+1)),t4_,H',⟨t35_⟩,t8_⟩
      ·rw [if_neg j] at H;have E:decide ((bt b c)<97)=false:=d2_ j;clear j;by_cases y:(bt b c) > 122
       ·rw [if_pos y] at H;have a4:decide (122<(bt b c))=true:=d1_ y;clear y;by_cases u:(bt b c)<48
        ·rw [if_pos u] at H;have X:decide ((bt b c)<48)=true:=d1_ u;clear u;obtain rfl:=Option.some.inj H;have g:0≤(c:Int):=od_;have d:c<(b.size:Int):=od_;have t:=bt_at b c;replace g:=eq_true g;replace d:=eq_true d;go_wp2;go_ret
         exact ⟨t4_,t8_⟩
        ·rw [if_neg u] at H;have X:decide ((bt b c)<48)=false:=d2_ u;clear u;by_cases v:(bt b c) > 57
         ·rw [if_pos v] at H;have Y:decide (57<(bt b c))=true:=d1_ v;clear v;obtain rfl:=Option.some.inj H;have g:0≤(c:Int):=od_;have d:c<(b.size:Int):=od_;have t:=bt_at b c;replace g:=eq_true g;replace d:=eq_true d;go_wp2;go_ret
          exact ⟨t4_,t8_⟩
         ·rw [if_neg v] at H;have Y:decide (57<(bt b c))=false:=d2_ v;clear v;have H':=a_ H;clear H;have g:0≤(c:Int):=od_;have d:c<(b.size:Int):=od_;have t:=bt_at b c;replace g:=eq_true g;replace d:=eq_true d;go_wp2;go_roundg k1
          case measure=>have:=HK1.out;omega
          case rel=>exact ⟨(wrap64 (c+1)),t4_,H',⟨t35_⟩,t8_⟩
       ·rw [if_neg y] at H;have a4:decide (122<(bt b c))=false:=d2_ y;clear y;have H':=a_ H;clear H;have g:0≤(c:Int):=od_;have d:c<(b.size:Int):=od_;have t:=bt_at b c;replace g:=eq_true g;replace d:=eq_true d;go_wp2;go_roundg k1
        case measure=>have:=HK1.out;omega
        case rel=>exact ⟨(wrap64 (c+1)),t4_,H',⟨t35_⟩,t8_⟩
     ·rw [if_neg s] at H;exact absurd H t31_
    ·rw [if_neg o] at H;exact absurd H t31_
   ·rw [if_neg i] at H;have D:decide (c<(b.size:Int))=false:=d2_ i;clear i;obtain rfl:=Option.some.inj H;go_wp2;go_ret
    exact ⟨t4_,t8_⟩

def impl_IsName.f (k:Nat) (b:ByteArray):Option (Bool):=if (b.size:Int)<1 then (some false) else (if (b.size:Int) > 10 then (some false) else (if 0<(b.size:Int) then (if (bt b 0)<97 then (some false) else (if (bt b 0) > 122 then (some false) else ((impl_onlyNameBytes.f k b).bind fun A=>(some A)))) else (none)))
theorem impl_IsName.mono:∀ b k,LeO (impl_IsName.f k b) (impl_IsName.f (k+1) b):=by
 intro b k;unfold impl_IsName.f
 with_reducible repeat' first|exact impl_onlyNameBytes.mono _ _|exact LeO.refl _|exact LeO.none _|refine LeO.ite ?_ ?_|refine LeO.bind ?_ (fun _=>?_)
theorem impl_IsName.calls (k:Nat) (b:ByteArray) (r:Bool) (w:World) (h:impl_IsName.f k b=some r):
  Calls Try.prog 38 #[.string b] w fun e w'=>e=.returned (.bool r)∧Drawn0 w w':=by
 have H:(if (b.size:Int)<1 then (some false) else (if (b.size:Int) > 10 then (some false) else (if 0<(b.size:Int) then (if (bt b 0)<97 then (some false) else (if (bt b 0) > 122 then (some false) else ((impl_onlyNameBytes.f k b).bind fun A=>(some A)))) else (none))))=some r:=h;clear h;by_cases i:(b.size:Int)<1
 ·rw [if_pos i] at H;have D:decide ((b.size:Int)<1)=true:=d1_ i;have Z:decide (b.size<1)=true:=decide_eq_true t14_;clear i;obtain rfl:=Option.some.inj H;go_enter Try.func38,Try.ntmps38;go_wp2;go_ret
  exact ⟨t4_,t8_⟩
 ·rw [if_neg i] at H;have D:decide ((b.size:Int)<1)=false:=d2_ i;have Z:decide (b.size<1)=false:=decide_eq_false t14_;clear i;by_cases o:(b.size:Int) > 10
  ·rw [if_pos o] at H;have T:decide (10<(b.size:Int))=true:=d1_ o;have a1:decide (10<b.size)=true:=decide_eq_true t14_;clear o;obtain rfl:=Option.some.inj H;go_enter Try.func38,Try.ntmps38;go_wp2;go_ret
   exact ⟨t4_,t8_⟩
  ·rw [if_neg o] at H;have T:decide (10<(b.size:Int))=false:=d2_ o;have a1:decide (10<b.size)=false:=decide_eq_false t14_;clear o;by_cases s:0<(b.size:Int)
   ·rw [if_pos s] at H;have a2:decide (0<(b.size:Int))=true:=d1_ s;have a8:decide (0<b.size)=true:=decide_eq_true t14_;clear s;by_cases j:(bt b 0)<97
    ·rw [if_pos j] at H;have E:decide ((bt b 0)<97)=true:=d1_ j;clear j;obtain rfl:=Option.some.inj H;have g:0≤(0:Int):=t14_;have d:0<b.size:=(by have:(0:Int)<(b.size:Int):=od_;omega);have t:∀ h:0<b.size,((b[0]'h).toNat:Int)=bt b 0:=bt_at b 0;clear g;have U:(0<(b.size:Int))=True:=eq_true (od_);replace d:=eq_true d;go_enter Try.func38,Try.ntmps38;go_wp2;go_ret
     exact ⟨t4_,t8_⟩
    ·rw [if_neg j] at H;have E:decide ((bt b 0)<97)=false:=d2_ j;clear j;by_cases l:(bt b 0) > 122
     ·rw [if_pos l] at H;have G:decide (122<(bt b 0))=true:=d1_ l;clear l;obtain rfl:=Option.some.inj H;have g:0≤(0:Int):=t14_;have d:0<b.size:=(by have:(0:Int)<(b.size:Int):=od_;omega);have t:∀ h:0<b.size,((b[0]'h).toNat:Int)=bt b 0:=bt_at b 0;clear g;have U:(0<(b.size:Int))=True:=eq_true (od_);replace d:=eq_true d;have J:0≤(0:Int):=t14_;have z:0<b.size:=(by have:(0:Int)<(b.size:Int):=od_;omega);have a5:∀ h:0<b.size,((b[0]'h).toNat:Int)=bt b 0:=bt_at b 0;clear J;have a6:(0<(b.size:Int))=True:=eq_true (od_);replace z:=eq_true z;go_enter Try.func38,Try.ntmps38;go_wp2;go_ret
      exact ⟨t4_,t8_⟩
     ·rw [if_neg l] at H;have G:decide (122<(bt b 0))=false:=d2_ l;clear l;replace H:=be_ H;obtain ⟨A,O,H⟩:=H;have W:=a_ O;clear O;obtain rfl:=Option.some.inj H;have g:0≤(0:Int):=t14_;have d:0<b.size:=(by have:(0:Int)<(b.size:Int):=od_;omega);have t:∀ h:0<b.size,((b[0]'h).toNat:Int)=bt b 0:=bt_at b 0;clear g;have U:(0<(b.size:Int))=True:=eq_true (od_);replace d:=eq_true d;have J:0≤(0:Int):=t14_;have z:0<b.size:=(by have:(0:Int)<(b.size:Int):=od_;omega);have a5:∀ h:0<b.size,((b[0]'h).toNat:Int)=bt b 0:=bt_at b 0;clear J;have a6:(0<(b.size:Int))=True:=eq_true (od_);replace z:=eq_true z;go_enter Try.func38,Try.ntmps38;go_wp2_with (first|((with_reducible refine gate_callee (f:=47) rfl ?_);refine goesL_ (some 22) rfl rfl Try.func47 t11_ rfl #[.string b] rfl t2_ ?_;(with_reducible refine (impl_onlyNameBytes.calls k b A _ W.out).mono ?_);rintro e w' ⟨rfl,⟨nd,rfl⟩⟩;refine ⟨_,rfl,?_⟩));go_ret
      exact ⟨t4_,t8_⟩
   ·rw [if_neg s] at H;exact absurd H t31_

end Go.Proofs.Ytfffhokkhgbibaa.PFnExactYearBill
