-- written by wip/xprint.py, a program of this session, for this claim; not trusted: Lean checks it.
import Derived.Test.YtoagcfpbdcoefaaPFnBillsx0
import Derived.Test.YtoagcfpbdcoefaaPFnBillsx1
namespace Go.Proofs.Ytoagcfpbdcoefaa.PFnBills
open Go.RowKit Go.Proofs.YtoagcfpbdcoefaaW.PrintWords Go.Proofs.YtoagcfpbdcoefaaW.PrintLast Go.Proofs.YtoagcfpbdcoefaaW.PrintMore
attribute [local go_sem] leq_less_ max2_int min2_int max_two min_two max_three min_three max_four min_four   -- for this text's walks alone
set_option linter.unusedVariables false
set_option linter.unusedSimpArgs false
set_option maxHeartbeats 8000000
set_option maxRecDepth 100000
def impl_IsName.f (k:Nat) (b:ByteArray):Option (Bool):=if (b.size:Int)<1 then (some false) else (if (b.size:Int) > 10 then (some false) else (if 0<(b.size:Int) then (if (bt b 0)<97 then (some false) else (if (bt b 0) > 122 then (some false) else ((impl_onlyNameBytes.f k b).bind fun o=>(some o)))) else (none)))
theorem impl_IsName.mono:∀ b k,LeO (impl_IsName.f k b) (impl_IsName.f (k+1) b):=by
 intro b k;unfold impl_IsName.f
 with_reducible repeat' first|exact impl_onlyNameBytes.mono _ _|exact LeO.refl _|exact LeO.none _|refine LeO.ite ?_ ?_|refine LeO.bind ?_ (fun _=>?_)
theorem impl_IsName.calls (k:Nat) (b:ByteArray) (r:Bool) (w:World) (h:impl_IsName.f k b=some r):
  Calls Try.prog 32 #[.string b] w fun e w'=>e=.returned (.bool r)∧Drawn0 w w':=by
 have H:(if (b.size:Int)<1 then (some false) else (if (b.size:Int) > 10 then (some false) else (if 0<(b.size:Int) then (if (bt b 0)<97 then (some false) else (if (bt b 0) > 122 then (some false) else ((impl_onlyNameBytes.f k b).bind fun o=>(some o)))) else (none))))=some r:=h;clear h;by_cases d:(b.size:Int)<1
 ·rw [if_pos d] at H;have y:decide ((b.size:Int)<1)=true:=d1_ d;have z:decide (b.size<1)=true:=decide_eq_true t31_;clear d;obtain rfl:=Option.some.inj H;go_enter Try.func32,Try.ntmps32;go_wp2;go_ret
  exact ⟨t5_,t17_⟩
 ·rw [if_neg d] at H;have y:decide ((b.size:Int)<1)=false:=d2_ d;have z:decide (b.size<1)=false:=decide_eq_false t31_;clear d;by_cases g:(b.size:Int) > 10
  ·rw [if_pos g] at H;have A:decide (10<(b.size:Int))=true:=d1_ g;have B:decide (10<b.size)=true:=decide_eq_true t31_;clear g;obtain rfl:=Option.some.inj H;go_enter Try.func32,Try.ntmps32;go_wp2;go_ret
   exact ⟨t5_,t17_⟩
  ·rw [if_neg g] at H;have A:decide (10<(b.size:Int))=false:=d2_ g;have B:decide (10<b.size)=false:=decide_eq_false t31_;clear g;by_cases q:0<(b.size:Int)
   ·rw [if_pos q] at H;have J:decide (0<(b.size:Int))=true:=d1_ q;have K:decide (0<b.size)=true:=decide_eq_true t31_;clear q;by_cases i:(bt b 0)<97
    ·rw [if_pos i] at H;have D:decide ((bt b 0)<97)=true:=d1_ i;clear i;obtain rfl:=Option.some.inj H;have l:0≤(0:Int):=t31_;have c:0<b.size:=(by have:(0:Int)<(b.size:Int):=od_;omega);have u:∀ h:0<b.size,((b[0]'h).toNat:Int)=bt b 0:=bt_at b 0;clear l;have v:(0<(b.size:Int))=True:=eq_true (od_);replace c:=eq_true c;go_enter Try.func32,Try.ntmps32;go_wp2;go_ret
     exact ⟨t5_,t17_⟩
    ·rw [if_neg i] at H;have D:decide ((bt b 0)<97)=false:=d2_ i;clear i;by_cases j:(bt b 0) > 122
     ·rw [if_pos j] at H;have E:decide (122<(bt b 0))=true:=d1_ j;clear j;obtain rfl:=Option.some.inj H;have l:0≤(0:Int):=t31_;have c:0<b.size:=(by have:(0:Int)<(b.size:Int):=od_;omega);have u:∀ h:0<b.size,((b[0]'h).toNat:Int)=bt b 0:=bt_at b 0;clear l;have v:(0<(b.size:Int))=True:=eq_true (od_);replace c:=eq_true c;have s:0≤(0:Int):=t31_;have m:0<b.size:=(by have:(0:Int)<(b.size:Int):=od_;omega);have G:∀ h:0<b.size,((b[0]'h).toNat:Int)=bt b 0:=bt_at b 0;clear s;have I:(0<(b.size:Int))=True:=eq_true (od_);replace m:=eq_true m;go_enter Try.func32,Try.ntmps32;go_wp2;go_ret
      exact ⟨t5_,t17_⟩
     ·rw [if_neg j] at H;have E:decide (122<(bt b 0))=false:=d2_ j;clear j;replace H:=be_ H;obtain ⟨o,t,H⟩:=H;have x:=a_ t;clear t;obtain rfl:=Option.some.inj H;have l:0≤(0:Int):=t31_;have c:0<b.size:=(by have:(0:Int)<(b.size:Int):=od_;omega);have u:∀ h:0<b.size,((b[0]'h).toNat:Int)=bt b 0:=bt_at b 0;clear l;have v:(0<(b.size:Int))=True:=eq_true (od_);replace c:=eq_true c;have s:0≤(0:Int):=t31_;have m:0<b.size:=(by have:(0:Int)<(b.size:Int):=od_;omega);have G:∀ h:0<b.size,((b[0]'h).toNat:Int)=bt b 0:=bt_at b 0;clear s;have I:(0<(b.size:Int))=True:=eq_true (od_);replace m:=eq_true m;go_enter Try.func32,Try.ntmps32;go_wp2_with (first|((with_reducible refine gate_callee (f:=45) rfl ?_);refine goesL_ (some 22) rfl rfl Try.func45 t20_ rfl #[.string b] rfl t2_ ?_;(with_reducible refine (impl_onlyNameBytes.calls k b o _ x.out).mono ?_);rintro e w' ⟨rfl,⟨nd,rfl⟩⟩;refine ⟨_,rfl,?_⟩));go_ret
      exact ⟨t5_,t17_⟩
   ·rw [if_neg q] at H;exact absurd H t65_

end Go.Proofs.Ytoagcfpbdcoefaa.PFnBills
