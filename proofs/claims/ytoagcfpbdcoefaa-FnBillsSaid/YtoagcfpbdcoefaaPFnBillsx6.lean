-- written by wip/xprint.py, a program of this session, for this claim; not trusted: Lean checks it.
import Derived.Test.YtoagcfpbdcoefaaPFnBillsx0
namespace Go.Proofs.Ytoagcfpbdcoefaa.PFnBills
open Go.RowKit Go.Proofs.YtoagcfpbdcoefaaW.PrintWords Go.Proofs.YtoagcfpbdcoefaaW.PrintLast Go.Proofs.YtoagcfpbdcoefaaW.PrintMore
attribute [local go_sem] leq_less_ max2_int min2_int max_two min_two max_three min_three max_four min_four   -- for this text's walks alone
set_option linter.unusedVariables false
set_option linter.unusedSimpArgs false
set_option maxHeartbeats 8000000
set_option maxRecDepth 100000
def spec_l00In.f (b:Int) (c:Int) (g:Int):Option (Bool):=if b≥c then (some (decide (b≤g))) else (some false)
theorem spec_l00In.calls (b:Int) (c:Int) (g:Int) (r:Bool) (w:World) (h:spec_l00In.f b c g=some r):
  Calls Try.prog 42 #[.int .i64 b,.int .i64 c,.int .i64 g] w fun e w'=>e=.returned (.bool r)∧Drawn0 w w':=by
 have H:(if b≥c then (some (decide (b≤g))) else (some false))=some r:=h;clear h;by_cases d:b≥c
 ·rw [if_pos d] at H;have i:decide (c≤b)=true:=d1_ d;clear d;obtain rfl:=Option.some.inj H;go_enter Try.func42,Try.ntmps42;go_wp2;go_ret
  exact ⟨t5_,t17_⟩
 ·rw [if_neg d] at H;have i:decide (c≤b)=false:=d2_ d;clear d;obtain rfl:=Option.some.inj H;go_enter Try.func42,Try.ntmps42;go_wp2;go_ret
  exact ⟨t5_,t17_⟩

end Go.Proofs.Ytoagcfpbdcoefaa.PFnBills
