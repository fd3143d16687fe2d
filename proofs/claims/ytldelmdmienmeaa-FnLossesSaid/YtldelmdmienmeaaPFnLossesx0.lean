-- written by wip/xprint.py, a program of this session, for this claim; not trusted: Lean checks it.
import Derived.Test.YtldelmdmienmeaaProg
import Derived.Below
import Derived.Deep.Draws
import Derived.Deep.AppendLies
import Derived.Maps.AppendAt
import Derived.OwnWalk
import Derived.Laws.BytesArg
import Derived.Laws.MakeOwn
import Derived.Laws.OwnMore
import Derived.Deep.OwnRows
import Derived.Tactics
import Derived.Lib.ConvBytes
import Derived.Deep.RegionLaw
import Derived.Laws.Slices
import Derived.WalkKit
import Derived.KernelRfl
import Derived.RowKit3
import Derived.Deep.LoopGhost
import Derived.Deep.QuietTactic
import Derived.BigQuiet
import Derived.WideLaws
import Derived.Deep.DeepCutAuto
import Derived.Deep.CutBlock
import Derived.Deep.RegionHeld3
import Derived.Laws.Rows
import Derived.Lib.AppendStr
import Derived.ArgAppend
import Derived.Laws.IdiomCopy
import Derived.OrdersHeld
import Derived.Laws.BitsLemmas
import Derived.RowKit
import Derived.Laws.Cover1
import Derived.Lib.Walk
import Derived.Shelf.Abstract
import Derived.WalkSpells
import Derived.Test.YtldelmdmienmeaaPFnLossesw
namespace Go.Proofs.Ytldelmdmienmeaa.PFnLosses
open Go.RowKit Go.Proofs.YtldelmdmienmeaaW.PrintWords Go.Proofs.YtldelmdmienmeaaW.PrintLast Go.Proofs.YtldelmdmienmeaaW.PrintMore
attribute [local go_sem] leq_less_ max2_int min2_int max_two min_two max_three min_three max_four min_four   -- for this text's walks alone
set_option linter.unusedVariables false
set_option linter.unusedSimpArgs false
-- proofs that stand many times, told once (the proof is the default of h)
set_option maxHeartbeats 8000000
set_option maxRecDepth 100000
theorem q1_ {P Q:Prop} (h:Q) (f:Q→P:=by (intro h_;(with_reducible repeat (first|apply Kd.R_alloc|apply Kd.R_drewN|apply Kd.R_drew));exact h_)):P:=f h
theorem q2_ {P Q:Prop} (h:Q) (f:Q→P:=by (intro h_;(with_reducible repeat (first|refine blk_drewN ?_ _|refine blk_drew ?_|refine blk_alloc ?_ _));exact h_)):P:=f h
theorem q3_ {P Q:Prop} (h:Q) (f:Q→P:=by (intro h_;(with_reducible repeat (first|apply Kd.Q_alloc|apply Kd.Q_drewN|apply Kd.Q_drew));exact h_)):P:=f h
theorem hb_ {w w':World} {p:Addr} {v:Value} (HB:Aside0 (Below w.heap.size w w')) (h:w.cell? p=some v):w'.cell? p=some v:=(HB.out.cell (World.block_lt_of_cell? w _ h)).trans h
theorem za_ (a:Addr) (n:Nat):a.add (((0:Int)).toNat * n)=a:=by rw [show ((0:Int)).toNat=0 from rfl,Nat.zero_mul];exact Addr.add_zero' a
theorem a_ {p:Prop} (h:p):Aside0 p:=⟨h⟩
theorem be_ {α β:Type} {o:Option α} {f:α→Option β} {b:β} (h:o.bind f=some b):∃ a,o=some a∧f a=some b:=Option.bind_eq_some_iff.mp h
theorem od_ {p:Prop} [Decidable p] (h:decide p=true:=by first|(with_reducible assumption)|assumption):p:=of_decide_eq_true h
theorem b1_ {α:Type} [BEq α] [LawfulBEq α] {a b:α} (h:a=b):(a==b)=true:=beq_iff_eq.mpr h
theorem b2_ {α:Type} [BEq α] [LawfulBEq α] {a b:α} (h:¬ a=b):(a==b)=false:=beq_eq_false_iff_ne.mpr h
theorem b3_ {α:Type} [BEq α] [LawfulBEq α] {a b:α} (h:¬ a=b):(a !=b)=true:=bne_iff_ne.mpr h
theorem b4_ {α:Type} [BEq α] [LawfulBEq α] {a b:α} (h:a=b):(a !=b)=false:=bne_eq_false_iff_eq.mpr h
theorem d1_ {p:Prop} [Decidable p] (h:p):decide p=true:=decide_eq_true h
theorem d2_ {p:Prop} [Decidable p] (h:¬ p):decide p=false:=decide_eq_false h
theorem bc1_ {w:World} {g:Nat} {t:TypeId} {r:Value} (h:w.heap[g]? =some (.cells #[r] t (0,0))):w.cell? ⟨g,0,none⟩=some r∧w.frozen? ⟨g,0,none⟩=false:=⟨(blk_cell h 0).trans rfl,blk_frozen h 0⟩
theorem bc2_ {w:World} {g:Nat} {t:TypeId} {r s:Value} (h:w.heap[g]? =some (.cells #[r,s] t (0,0))):w.cell? ⟨g,0,none⟩=some r∧w.cell? ⟨g,1,none⟩=some s∧w.frozen? ⟨g,0,none⟩=false∧w.frozen? ⟨g,1,none⟩=false:=⟨(blk_cell h 0).trans rfl,(blk_cell h 1).trans rfl,blk_frozen h 0,blk_frozen h 1⟩
theorem bc6_ {w:World} {g:Nat} {t:TypeId} {r s E G I J:Value} (h:w.heap[g]? =some (.cells #[r,s,E,G,I,J] t (0,0))):w.cell? ⟨g,0,none⟩=some r∧w.cell? ⟨g,1,none⟩=some s∧w.cell? ⟨g,2,none⟩=some E∧w.cell? ⟨g,3,none⟩=some G∧w.cell? ⟨g,4,none⟩=some I∧w.cell? ⟨g,5,none⟩=some J∧w.frozen? ⟨g,0,none⟩=false∧w.frozen? ⟨g,1,none⟩=false∧w.frozen? ⟨g,2,none⟩=false∧w.frozen? ⟨g,3,none⟩=false∧w.frozen? ⟨g,4,none⟩=false∧w.frozen? ⟨g,5,none⟩=false:=⟨(blk_cell h 0).trans rfl,(blk_cell h 1).trans rfl,(blk_cell h 2).trans rfl,(blk_cell h 3).trans rfl,(blk_cell h 4).trans rfl,(blk_cell h 5).trans rfl,blk_frozen h 0,blk_frozen h 1,blk_frozen h 2,blk_frozen h 3,blk_frozen h 4,blk_frozen h 5⟩
theorem qc_ {P Q:Prop} (h:Q) (f:Q→P:=by (intro h_;repeat (first|exact h_|(with_reducible refine Kd.C_alloc ?_ _)|(with_reducible refine Kd.C_drewN ?_ _)|(with_reducible refine Kd.C_drew ?_)))):P:=f h
theorem t1_ {P:Prop} (h:P:=by (try simp only [List.map_toArray,List.map_cons,List.map_nil]);first|done|rfl|(simp only [List.length_drop,List.length_take];rfl)):P:=h
theorem t2_ {P:Prop} (h:P:=by repeat (first|(with_reducible first|exact HB.out|apply below_alloc|apply pw_below_drewN|apply below_drew1)|exact HB.out)):P:=h
theorem t3_ {P:Prop} (h:P:=by first|rfl|(rw [Int.tdiv_eq_ediv_of_nonneg (by omega)];rfl)|(simp [errW_none,errW_some]<;>rfl)|(simp [*,errW_none,errW_some]<;>rfl)):P:=h
theorem t4_ {P:Prop} (h:P:=by repeat (first|(with_reducible first|exact HK.out|apply KeepBut.set_|apply keep_drewN|apply keep_drew|apply keep_alloc)|exact HK.out)):P:=h
theorem t5_ {P:Prop} (h:P:=by repeat (first|(with_reducible first|exact HK.out|apply KeepBut.set_|apply keep_drewN|apply keep_drew|apply keep_alloc|refine keep_far ?_ GW169.out _)|exact HK.out)):P:=h
theorem t6_ {P:Prop} (h:P:=by (with_reducible repeat (first|refine blk_drewN ?_ _|refine blk_drew ?_|refine blk_alloc ?_ _));refine blk_put (cs:=#[.string t613,.int .i64 t614,.int .i64 t615,.int .i64 t616,.int .i64 t617,.int .i64 t618]) ?_ 5 _ rfl;(with_reducible repeat (first|refine blk_drewN ?_ _|refine blk_drew ?_|refine blk_alloc ?_ _));refine blk_put (cs:=#[.string t613,.int .i64 t614,.int .i64 t615,.int .i64 t616,.int .i64 t617,.int .i64 0]) ?_ 5 _ rfl;(with_reducible repeat (first|refine blk_drewN ?_ _|refine blk_drew ?_|refine blk_alloc ?_ _));refine blk_put (cs:=#[.string t613,.int .i64 t614,.int .i64 t615,.int .i64 t616,.int .i64 0,.int .i64 0]) ?_ 4 _ rfl;(with_reducible repeat (first|refine blk_drewN ?_ _|refine blk_drew ?_|refine blk_alloc ?_ _));refine blk_put (cs:=#[.string t613,.int .i64 t614,.int .i64 t615,.int .i64 0,.int .i64 0,.int .i64 0]) ?_ 3 _ rfl;(with_reducible repeat (first|refine blk_drewN ?_ _|refine blk_drew ?_|refine blk_alloc ?_ _));refine blk_put (cs:=#[.string t613,.int .i64 t614,.int .i64 0,.int .i64 0,.int .i64 0,.int .i64 0]) ?_ 2 _ rfl;(with_reducible repeat (first|refine blk_drewN ?_ _|refine blk_drew ?_|refine blk_alloc ?_ _));refine blk_put (cs:=#[.string t613,.int .i64 0,.int .i64 0,.int .i64 0,.int .i64 0,.int .i64 0]) ?_ 1 _ rfl;(with_reducible repeat (first|refine blk_drewN ?_ _|refine blk_drew ?_|refine blk_alloc ?_ _));refine blk_put (cs:=#[.string (⟨#[]⟩:ByteArray),.int .i64 0,.int .i64 0,.int .i64 0,.int .i64 0,.int .i64 0]) ?_ 0 _ rfl;(with_reducible repeat (first|refine blk_drewN ?_ _|refine blk_drew ?_|refine blk_alloc ?_ _));exact BK634.out):P:=h
theorem t7_ {P:Prop} (h:P:=by repeat (first|(with_reducible first|exact HB.out|apply below_alloc|apply pw_below_drewN|apply below_drew1|refine below_set ?_ GE600.out|refine below_set ?_ GE625.out)|exact HB.out)):P:=h
theorem t8_ {P:Prop} (h:P:=by repeat (first|(with_reducible first|exact HK.out|apply KeepBut.set_|apply keep_drewN|apply keep_drew|apply keep_alloc|refine keep_far ?_ GW320.out _|refine keep_far ?_ GW329.out _)|exact HK.out)):P:=h
theorem t9_ {P:Prop} (h:P:=by (with_reducible repeat (first|refine blk_drewN ?_ _|refine blk_drew ?_|refine blk_alloc ?_ _));refine blk_put (cs:=#[.string t182,.int .i64 t183,.int .i64 t184,.int .i64 t185,.int .i64 t186,.int .i64 0]) ?_ 5 _ rfl;(with_reducible repeat (first|refine blk_drewN ?_ _|refine blk_drew ?_|refine blk_alloc ?_ _));refine blk_put (cs:=#[.string t182,.int .i64 t183,.int .i64 t184,.int .i64 t185,.int .i64 0,.int .i64 0]) ?_ 4 _ rfl;(with_reducible repeat (first|refine blk_drewN ?_ _|refine blk_drew ?_|refine blk_alloc ?_ _));refine blk_put (cs:=#[.string t182,.int .i64 t183,.int .i64 t184,.int .i64 0,.int .i64 0,.int .i64 0]) ?_ 3 _ rfl;(with_reducible repeat (first|refine blk_drewN ?_ _|refine blk_drew ?_|refine blk_alloc ?_ _));refine blk_put (cs:=#[.string t182,.int .i64 t183,.int .i64 0,.int .i64 0,.int .i64 0,.int .i64 0]) ?_ 2 _ rfl;(with_reducible repeat (first|refine blk_drewN ?_ _|refine blk_drew ?_|refine blk_alloc ?_ _));refine blk_put (cs:=#[.string t182,.int .i64 0,.int .i64 0,.int .i64 0,.int .i64 0,.int .i64 0]) ?_ 1 _ rfl;(with_reducible repeat (first|refine blk_drewN ?_ _|refine blk_drew ?_|refine blk_alloc ?_ _));refine blk_put (cs:=#[.string (⟨#[]⟩:ByteArray),.int .i64 0,.int .i64 0,.int .i64 0,.int .i64 0,.int .i64 0]) ?_ 0 _ rfl;(with_reducible repeat (first|refine blk_drewN ?_ _|refine blk_drew ?_|refine blk_alloc ?_ _));exact BK190.out):P:=h
theorem t10_ {P:Prop} (h:P:=by (with_reducible repeat (first|refine blk_drewN ?_ _|refine blk_drew ?_|refine blk_alloc ?_ _));refine blk_put (cs:=#[.string ((rd_T41 l0_1 x30_2).f0),.int .i64 ((rd_T41 l0_1 x30_2).f1),.int .i64 ((rd_T41 l0_1 x30_2).f2),.int .i64 ((rd_T41 l0_1 x30_2).f3),.int .i64 ((rd_T41 l0_1 x30_2).f4),.int .i64 0]) ?_ 5 _ rfl;(with_reducible repeat (first|refine blk_drewN ?_ _|refine blk_drew ?_|refine blk_alloc ?_ _));refine blk_put (cs:=#[.string ((rd_T41 l0_1 x30_2).f0),.int .i64 ((rd_T41 l0_1 x30_2).f1),.int .i64 ((rd_T41 l0_1 x30_2).f2),.int .i64 ((rd_T41 l0_1 x30_2).f3),.int .i64 0,.int .i64 0]) ?_ 4 _ rfl;(with_reducible repeat (first|refine blk_drewN ?_ _|refine blk_drew ?_|refine blk_alloc ?_ _));refine blk_put (cs:=#[.string ((rd_T41 l0_1 x30_2).f0),.int .i64 ((rd_T41 l0_1 x30_2).f1),.int .i64 ((rd_T41 l0_1 x30_2).f2),.int .i64 0,.int .i64 0,.int .i64 0]) ?_ 3 _ rfl;(with_reducible repeat (first|refine blk_drewN ?_ _|refine blk_drew ?_|refine blk_alloc ?_ _));refine blk_put (cs:=#[.string ((rd_T41 l0_1 x30_2).f0),.int .i64 ((rd_T41 l0_1 x30_2).f1),.int .i64 0,.int .i64 0,.int .i64 0,.int .i64 0]) ?_ 2 _ rfl;(with_reducible repeat (first|refine blk_drewN ?_ _|refine blk_drew ?_|refine blk_alloc ?_ _));refine blk_put (cs:=#[.string ((rd_T41 l0_1 x30_2).f0),.int .i64 0,.int .i64 0,.int .i64 0,.int .i64 0,.int .i64 0]) ?_ 1 _ rfl;(with_reducible repeat (first|refine blk_drewN ?_ _|refine blk_drew ?_|refine blk_alloc ?_ _));refine blk_put (cs:=#[.string (⟨#[]⟩:ByteArray),.int .i64 0,.int .i64 0,.int .i64 0,.int .i64 0,.int .i64 0]) ?_ 0 _ rfl;(with_reducible repeat (first|refine blk_drewN ?_ _|refine blk_drew ?_|refine blk_alloc ?_ _));exact BK436.out):P:=h
theorem t11_ {P:Prop} (h:P:=by repeat (first|(with_reducible first|exact HK.out|apply KeepBut.set_|apply keep_drewN|apply keep_drew|apply keep_alloc|refine keep_far ?_ GW320.out _)|exact HK.out)):P:=h
theorem t12_ {P:Prop} (h:P:=by first|rfl|(simp;done)|(simp [*];done)):P:=h
theorem t13_ {P:Prop} (h:P:=by repeat (first|(with_reducible first|exact HK.out|apply KeepBut.set_|apply keep_drewN|apply keep_drew|apply keep_alloc|refine keep_far ?_ GW169.out _|refine keep_far ?_ GW190.out _)|exact HK.out)):P:=h
theorem t14_ {P:Prop} (h:P:=by (with_reducible repeat (first|refine blk_drewN ?_ _|refine blk_drew ?_|refine blk_alloc ?_ _));refine blk_far ?_ NB625_634.out _;(with_reducible repeat (first|refine blk_drewN ?_ _|refine blk_drew ?_|refine blk_alloc ?_ _));refine blk_far ?_ NB625_634.out _;(with_reducible repeat (first|refine blk_drewN ?_ _|refine blk_drew ?_|refine blk_alloc ?_ _));refine blk_far ?_ NB625_634.out _;(with_reducible repeat (first|refine blk_drewN ?_ _|refine blk_drew ?_|refine blk_alloc ?_ _));refine blk_far ?_ NB625_634.out _;(with_reducible repeat (first|refine blk_drewN ?_ _|refine blk_drew ?_|refine blk_alloc ?_ _));refine blk_far ?_ NB625_634.out _;(with_reducible repeat (first|refine blk_drewN ?_ _|refine blk_drew ?_|refine blk_alloc ?_ _));refine blk_far ?_ NB625_634.out _;(with_reducible repeat (first|refine blk_drewN ?_ _|refine blk_drew ?_|refine blk_alloc ?_ _));refine blk_far ?_ NB625_634.out _;(with_reducible repeat (first|refine blk_drewN ?_ _|refine blk_drew ?_|refine blk_alloc ?_ _));exact BK625.out):P:=h
theorem t15_ {P:Prop} (h:P:=by (with_reducible repeat (first|refine blk_drewN ?_ _|refine blk_drew ?_|refine blk_alloc ?_ _));refine blk_far ?_ NB600_634.out _;(with_reducible repeat (first|refine blk_drewN ?_ _|refine blk_drew ?_|refine blk_alloc ?_ _));refine blk_far ?_ NB600_634.out _;(with_reducible repeat (first|refine blk_drewN ?_ _|refine blk_drew ?_|refine blk_alloc ?_ _));refine blk_far ?_ NB600_634.out _;(with_reducible repeat (first|refine blk_drewN ?_ _|refine blk_drew ?_|refine blk_alloc ?_ _));refine blk_far ?_ NB600_634.out _;(with_reducible repeat (first|refine blk_drewN ?_ _|refine blk_drew ?_|refine blk_alloc ?_ _));refine blk_far ?_ NB600_634.out _;(with_reducible repeat (first|refine blk_drewN ?_ _|refine blk_drew ?_|refine blk_alloc ?_ _));refine blk_far ?_ NB600_634.out _;(with_reducible repeat (first|refine blk_drewN ?_ _|refine blk_drew ?_|refine blk_alloc ?_ _));refine blk_far ?_ NB600_634.out _;(with_reducible repeat (first|refine blk_drewN ?_ _|refine blk_drew ?_|refine blk_alloc ?_ _));exact BK600.out):P:=h
theorem t16_ {P:Prop} (h:P:=by kernel_rfl):P:=h
theorem t17_ {P:Prop} (h:P:=by (with_reducible repeat (first|refine blk_drewN ?_ _|refine blk_drew ?_|refine blk_alloc ?_ _));refine blk_far ?_ NB169_190.out _;(with_reducible repeat (first|refine blk_drewN ?_ _|refine blk_drew ?_|refine blk_alloc ?_ _));refine blk_far ?_ NB169_190.out _;(with_reducible repeat (first|refine blk_drewN ?_ _|refine blk_drew ?_|refine blk_alloc ?_ _));refine blk_far ?_ NB169_190.out _;(with_reducible repeat (first|refine blk_drewN ?_ _|refine blk_drew ?_|refine blk_alloc ?_ _));refine blk_far ?_ NB169_190.out _;(with_reducible repeat (first|refine blk_drewN ?_ _|refine blk_drew ?_|refine blk_alloc ?_ _));refine blk_far ?_ NB169_190.out _;(with_reducible repeat (first|refine blk_drewN ?_ _|refine blk_drew ?_|refine blk_alloc ?_ _));refine blk_far ?_ NB169_190.out _;(with_reducible repeat (first|refine blk_drewN ?_ _|refine blk_drew ?_|refine blk_alloc ?_ _));exact BK169.out):P:=h
theorem t18_ {P:Prop} (h:P:=by repeat (first|(with_reducible first|exact HB.out|apply below_alloc|apply pw_below_drewN|apply below_drew1|refine below_set ?_ (IsS63.ge HI0.out))|exact HB.out)):P:=h
theorem t19_ {P:Prop} (h:P:=by repeat (first|(with_reducible first|exact HK.out|apply KeepBut.set_|apply keep_drewN|apply keep_drew|apply keep_alloc|refine keep_far ?_ GW280.out _|refine keep_far ?_ GW289.out _)|exact HK.out)):P:=h
theorem t20_ {P:Prop} (h:P:=by repeat (first|(with_reducible first|exact HK.out|apply KeepBut.set_|apply keep_drewN|apply keep_drew|apply keep_alloc|refine keep_far ?_ GW230.out _|refine keep_far ?_ GW237.out _)|exact HK.out)):P:=h
theorem t21_ {P:Prop} (h:P:=by repeat (first|(with_reducible first|exact HI0.out|apply IsS63.alloc|apply IsS63.drewN|apply IsS63.drew|apply IsS63.set_1|apply IsS63.set_2)|exact HI0.out)):P:=h
theorem t22_ {P:Prop} (h:P:=by repeat (first|(with_reducible first|exact HB.out|apply below_alloc|apply pw_below_drewN|apply below_drew1|refine below_set ?_ GE530.out)|exact HB.out)):P:=h
theorem t23_ {P:Prop} (h:P:=by repeat (first|(with_reducible first|exact HI0.out|apply IsS63.alloc|apply IsS63.drewN|apply IsS63.drew|apply IsS63.set_1|apply IsS63.set_2|refine IsS63.far ?_ NB0_320.out _|refine IsS63.far ?_ NB0_329.out _)|exact HI0.out)):P:=h
theorem t24_ {P:Prop} (h:P:=by repeat (first|(with_reducible first|exact HB.out|apply below_alloc|apply pw_below_drewN|apply below_drew1|refine below_set ?_ (IsS63.ge HI0.out)|refine below_set ?_ GE320.out|refine below_set ?_ GE329.out)|exact HB.out)):P:=h
theorem t25_ {P:Prop} (h:P:=by repeat (first|(with_reducible first|exact HB.out|apply below_alloc|apply pw_below_drewN|apply below_drew1|refine below_set ?_ GE600.out)|exact HB.out)):P:=h
theorem t26_ {P:Prop} (h:P:=by repeat (first|(with_reducible first|exact HB.out|apply below_alloc|apply pw_below_drewN|apply below_drew1|refine below_set ?_ GE433.out)|exact HB.out)):P:=h
theorem t27_ {P:Prop} (h:P:=by (with_reducible repeat (first|refine blk_drewN ?_ _|refine blk_drew ?_|refine blk_alloc ?_ _));refine blk_far ?_ NB433_436.out _;(with_reducible repeat (first|refine blk_drewN ?_ _|refine blk_drew ?_|refine blk_alloc ?_ _));refine blk_far ?_ NB433_436.out _;(with_reducible repeat (first|refine blk_drewN ?_ _|refine blk_drew ?_|refine blk_alloc ?_ _));refine blk_far ?_ NB433_436.out _;(with_reducible repeat (first|refine blk_drewN ?_ _|refine blk_drew ?_|refine blk_alloc ?_ _));refine blk_far ?_ NB433_436.out _;(with_reducible repeat (first|refine blk_drewN ?_ _|refine blk_drew ?_|refine blk_alloc ?_ _));refine blk_far ?_ NB433_436.out _;(with_reducible repeat (first|refine blk_drewN ?_ _|refine blk_drew ?_|refine blk_alloc ?_ _));refine blk_far ?_ NB433_436.out _;(with_reducible repeat (first|refine blk_drewN ?_ _|refine blk_drew ?_|refine blk_alloc ?_ _));exact BK433.out):P:=h
theorem t28_ {P:Prop} (h:P:=by (with_reducible repeat (first|apply Kd.Q_alloc|apply Kd.Q_drewN|apply Kd.Q_drew));exact (Kd.Q_mono (Kd.Q_far (p:=⟨gb634,5,none⟩) (Kd.Q_far (p:=⟨gb634,5,none⟩) (Kd.Q_far (p:=⟨gb634,4,none⟩) (Kd.Q_far (p:=⟨gb634,3,none⟩) (Kd.Q_far (p:=⟨gb634,2,none⟩) (Kd.Q_far (p:=⟨gb634,1,none⟩) (Kd.Q_far (p:=⟨gb634,0,none⟩) (Kd.Q_mono HO_601001.out (fun k_ hk=>(⟨hk,hk.2⟩:_∧k_≠gb634))) (fun _ hk=>hk.2) (.string t613)) (fun _ hk=>hk.2) (.int .i64 t614)) (fun _ hk=>hk.2) (.int .i64 t615)) (fun _ hk=>hk.2) (.int .i64 t616)) (fun _ hk=>hk.2) (.int .i64 t617)) (fun _ hk=>hk.2) (.int .i64 t618)) (fun _ hk=>hk.2) (.int .i64 t632)) (fun _ h_=>h_.1))):P:=h
theorem t29_ {P:Prop} (h:P:=by repeat (first|(with_reducible first|exact HB.out|apply below_alloc|apply pw_below_drewN|apply below_drew1|refine below_set ?_ GE433.out|refine below_set ?_ GE436.out)|exact HB.out)):P:=h
theorem t30_ {P:Prop} (h:P:=by (with_reducible repeat (first|apply Kd.R_alloc|apply Kd.R_drewN|apply Kd.R_drew));exact (Kd.R_mono (Kd.R_far (p:=⟨gb634,5,none⟩) (Kd.R_far (p:=⟨gb634,5,none⟩) (Kd.R_far (p:=⟨gb634,4,none⟩) (Kd.R_far (p:=⟨gb634,3,none⟩) (Kd.R_far (p:=⟨gb634,2,none⟩) (Kd.R_far (p:=⟨gb634,1,none⟩) (Kd.R_far (p:=⟨gb634,0,none⟩) (Kd.R_types HO_601000.out BK634.out (by decide)) (fun _ hk=>hk.2) (.string t613)) (fun _ hk=>hk.2) (.int .i64 t614)) (fun _ hk=>hk.2) (.int .i64 t615)) (fun _ hk=>hk.2) (.int .i64 t616)) (fun _ hk=>hk.2) (.int .i64 t617)) (fun _ hk=>hk.2) (.int .i64 t618)) (fun _ hk=>hk.2) (.int .i64 t632)) (fun _ h_=>h_.1))):P:=h
theorem t31_ {P:Prop} (h:P:=by repeat (first|exact Drawn0.refl _|apply Drawn0.step)):P:=h
theorem t32_ {P:Prop} (h:P:=by repeat (first|(with_reducible first|exact HB.out|apply below_alloc|apply pw_below_drewN|apply below_drew1|refine below_set ?_ GE443.out)|exact HB.out)):P:=h
theorem t33_ {P:Prop} (h:P:=by (with_reducible repeat (first|apply Kd.R_alloc|apply Kd.R_drewN|apply Kd.R_drew));exact (Kd.R_mono (Kd.R_far (p:=⟨gb190,5,none⟩) (Kd.R_far (p:=⟨gb190,4,none⟩) (Kd.R_far (p:=⟨gb190,3,none⟩) (Kd.R_far (p:=⟨gb190,2,none⟩) (Kd.R_far (p:=⟨gb190,1,none⟩) (Kd.R_far (p:=⟨gb190,0,none⟩) (Kd.R_types HO172.out BK190.out (by decide)) (fun _ hk=>hk.2) (.string t182)) (fun _ hk=>hk.2) (.int .i64 t183)) (fun _ hk=>hk.2) (.int .i64 t184)) (fun _ hk=>hk.2) (.int .i64 t185)) (fun _ hk=>hk.2) (.int .i64 t186)) (fun _ hk=>hk.2) (.int .i64 t187)) (fun _ h_=>h_.1))):P:=h
theorem t34_ {P:Prop} (h:P:=by (with_reducible repeat (first|refine blk_drewN ?_ _|refine blk_drew ?_|refine blk_alloc ?_ _));refine blk_put (cs:=#[.string a0_0,.int .i64 a0_1,.int .i64 a0_2,.int .i64 a0_3,.int .i64 a0_4,.int .i64 0]) ?_ 5 _ rfl;(with_reducible repeat (first|refine blk_drewN ?_ _|refine blk_drew ?_|refine blk_alloc ?_ _));refine blk_put (cs:=#[.string a0_0,.int .i64 a0_1,.int .i64 a0_2,.int .i64 a0_3,.int .i64 0,.int .i64 0]) ?_ 4 _ rfl;(with_reducible repeat (first|refine blk_drewN ?_ _|refine blk_drew ?_|refine blk_alloc ?_ _));refine blk_put (cs:=#[.string a0_0,.int .i64 a0_1,.int .i64 a0_2,.int .i64 0,.int .i64 0,.int .i64 0]) ?_ 3 _ rfl;(with_reducible repeat (first|refine blk_drewN ?_ _|refine blk_drew ?_|refine blk_alloc ?_ _));refine blk_put (cs:=#[.string a0_0,.int .i64 a0_1,.int .i64 0,.int .i64 0,.int .i64 0,.int .i64 0]) ?_ 2 _ rfl;(with_reducible repeat (first|refine blk_drewN ?_ _|refine blk_drew ?_|refine blk_alloc ?_ _));refine blk_put (cs:=#[.string a0_0,.int .i64 0,.int .i64 0,.int .i64 0,.int .i64 0,.int .i64 0]) ?_ 1 _ rfl;(with_reducible repeat (first|refine blk_drewN ?_ _|refine blk_drew ?_|refine blk_alloc ?_ _));refine blk_put (cs:=#[.string (⟨#[]⟩:ByteArray),.int .i64 0,.int .i64 0,.int .i64 0,.int .i64 0,.int .i64 0]) ?_ 0 _ rfl;(with_reducible repeat (first|refine blk_drewN ?_ _|refine blk_drew ?_|refine blk_alloc ?_ _));exact BK538.out):P:=h
theorem t35_ {P:Prop} (h:P:=by repeat (first|(with_reducible first|exact HB.out|apply below_alloc|apply pw_below_drewN|apply below_drew1|refine below_set ?_ GE530.out|refine below_set ?_ GE538.out)|exact HB.out)):P:=h
theorem t36_ {P:Prop} (h:P:=by decide):P:=h
theorem t37_ {P:Prop} (h:P:=by repeat (first|(with_reducible first|exact HB.out|apply below_alloc|apply pw_below_drewN|apply below_drew1|refine below_set ?_ GE600.out|refine below_set ?_ GE625.out|refine below_set ?_ GE634.out)|exact HB.out)):P:=h
theorem t38_ {P:Prop} (h:P:=by repeat (first|(with_reducible first|exact HI0.out|apply IsS63.alloc|apply IsS63.drewN|apply IsS63.drew|apply IsS63.set_1|apply IsS63.set_2|refine IsS63.far ?_ NB0_169.out _|refine IsS63.far ?_ NB0_190.out _)|exact HI0.out)):P:=h
theorem t39_ {P:Prop} (h:P:=by repeat (first|(with_reducible first|exact HB.out|apply below_alloc|apply pw_below_drewN|apply below_drew1|refine below_set ?_ (IsS63.ge HI0.out)|refine below_set ?_ GE169.out|refine below_set ?_ GE190.out)|exact HB.out)):P:=h
theorem t40_ {P:Prop} (h:P:=by repeat (first|(with_reducible first|exact HI0.out|apply IsS63.alloc|apply IsS63.drewN|apply IsS63.drew|apply IsS63.set_1|apply IsS63.set_2|refine IsS63.far ?_ NB0_169.out _)|exact HI0.out)):P:=h
theorem t41_ {P:Prop} (h:P:=by repeat (first|(with_reducible first|exact HB.out|apply below_alloc|apply pw_below_drewN|apply below_drew1|refine below_set ?_ (IsS63.ge HI0.out)|refine below_set ?_ GE169.out)|exact HB.out)):P:=h
theorem t42_ {P:Prop} (h:P:=by repeat (first|(with_reducible first|exact HI0.out|apply IsS63.alloc|apply IsS63.drewN|apply IsS63.drew|apply IsS63.set_1|apply IsS63.set_2|refine IsS63.far ?_ NB0_230.out _|refine IsS63.far ?_ NB0_237.out _)|exact HI0.out)):P:=h
theorem t43_ {P:Prop} (h:P:=by repeat (first|(with_reducible first|exact HB.out|apply below_alloc|apply pw_below_drewN|apply below_drew1|refine below_set ?_ (IsS63.ge HI0.out)|refine below_set ?_ GE230.out|refine below_set ?_ GE237.out)|exact HB.out)):P:=h
theorem t44_ {P:Prop} (h:P:=by (with_reducible repeat (first|refine blk_drewN ?_ _|refine blk_drew ?_|refine blk_alloc ?_ _));refine blk_far ?_ NB320_329.out _;(with_reducible repeat (first|refine blk_drewN ?_ _|refine blk_drew ?_|refine blk_alloc ?_ _));refine blk_far ?_ NB320_329.out _;(with_reducible repeat (first|refine blk_drewN ?_ _|refine blk_drew ?_|refine blk_alloc ?_ _));exact BK320.out):P:=h
theorem t45_ {P:Prop} (h:P:=by repeat (first|(with_reducible first|exact HB.out|apply below_alloc|apply pw_below_drewN|apply below_drew1|refine below_set ?_ (IsS63.ge HI488.out)|refine below_set ?_ GE484.out|refine below_set ?_ GE497.out)|exact HB.out)):P:=h
theorem t46_ {P:Prop} (h:P:=by repeat (first|(with_reducible first|exact HB.out|apply below_alloc|apply pw_below_drewN|apply below_drew1|refine below_set ?_ (IsS63.ge HI0.out)|refine below_set ?_ GE280.out|refine below_set ?_ GE289.out)|exact HB.out)):P:=h
theorem t47_ {P:Prop} (h:P:=by (with_reducible repeat (first|refine blk_drewN ?_ _|refine blk_drew ?_|refine blk_alloc ?_ _));refine blk_far ?_ NB530_538.out _;(with_reducible repeat (first|refine blk_drewN ?_ _|refine blk_drew ?_|refine blk_alloc ?_ _));refine blk_far ?_ NB530_538.out _;(with_reducible repeat (first|refine blk_drewN ?_ _|refine blk_drew ?_|refine blk_alloc ?_ _));refine blk_far ?_ NB530_538.out _;(with_reducible repeat (first|refine blk_drewN ?_ _|refine blk_drew ?_|refine blk_alloc ?_ _));refine blk_far ?_ NB530_538.out _;(with_reducible repeat (first|refine blk_drewN ?_ _|refine blk_drew ?_|refine blk_alloc ?_ _));refine blk_far ?_ NB530_538.out _;(with_reducible repeat (first|refine blk_drewN ?_ _|refine blk_drew ?_|refine blk_alloc ?_ _));refine blk_far ?_ NB530_538.out _;(with_reducible repeat (first|refine blk_drewN ?_ _|refine blk_drew ?_|refine blk_alloc ?_ _));exact BK530.out):P:=h
theorem t48_ {P:Prop} (h:P:=by repeat (first|(with_reducible first|exact HB.out|apply below_alloc|apply pw_below_drewN|apply below_drew1|refine below_set ?_ (IsS63.ge HI399.out)|refine below_set ?_ GE395.out)|exact HB.out)):P:=h
theorem t49_ {P:Prop} (h:P:=by repeat (first|(with_reducible first|exact HB.out|apply below_alloc|apply pw_below_drewN|apply below_drew1|refine below_set ?_ GE471.out)|exact HB.out)):P:=h
theorem t50_ {P:Prop} (h:P:=by first|rfl|(simp [errW_none,errW_some]<;>rfl)|(simp [*,errW_none,errW_some]<;>rfl)):P:=h
theorem t51_ {P:Prop} (h:P:=by repeat (first|(with_reducible first|exact HI0.out|apply IsS63.alloc|apply IsS63.drewN|apply IsS63.drew|apply IsS63.set_1|apply IsS63.set_2|refine IsS63.far ?_ NB0_280.out _|refine IsS63.far ?_ NB0_289.out _)|exact HI0.out)):P:=h
theorem t52_ {P:Prop} (h:P:=by repeat (first|(with_reducible first|exact HB.out|apply below_alloc|apply pw_below_drewN|apply below_drew1|refine below_set ?_ GE464.out)|exact HB.out)):P:=h
theorem t53_ {P:Prop} (h:P:=by repeat (first|(with_reducible first|exact HB.out|apply below_alloc|apply pw_below_drewN|apply below_drew1|refine below_set ?_ (IsS63.ge HI116.out))|exact HB.out)):P:=h
theorem t54_ {P:Prop} (h:P:=by repeat (first|(with_reducible first|exact HB.out|apply below_alloc|apply pw_below_drewN|apply below_drew1|refine below_set ?_ GE475.out)|exact HB.out)):P:=h
theorem t55_ {P:Prop} (h:P:=by simp):P:=h
theorem t56_ {P:Prop} (h:P:=by repeat (first|(with_reducible first|exact HB.out|apply below_alloc|apply pw_below_drewN|apply below_drew1|refine below_set ?_ GE577.out)|exact HB.out)):P:=h
theorem t57_ {P:Prop} (h:P:=by repeat (first|(with_reducible first|exact HB.out|apply below_alloc|apply pw_below_drewN|apply below_drew1|refine below_set ?_ GE562.out)|exact HB.out)):P:=h
theorem t58_ {P:Prop} (h:P:=by repeat (first|(with_reducible first|exact HK.out|apply KeepBut.set_|apply keep_drewN|apply keep_drew|apply keep_alloc|refine keep_far ?_ GW230.out _)|exact HK.out)):P:=h
theorem t59_ {P:Prop} (h:P:=by (with_reducible repeat (first|refine blk_drewN ?_ _|refine blk_drew ?_|refine blk_alloc ?_ _));exact BK600.out):P:=h
theorem t60_ {P:Prop} (h:P:=by repeat (first|(with_reducible first|exact HI0.out|apply IsS63.alloc|apply IsS63.drewN|apply IsS63.drew|apply IsS63.set_1|apply IsS63.set_2|refine IsS63.far ?_ NB0_320.out _)|exact HI0.out)):P:=h
theorem t61_ {P:Prop} (h:P:=by repeat (first|(with_reducible first|exact HB.out|apply below_alloc|apply pw_below_drewN|apply below_drew1|refine below_set ?_ (IsS63.ge HI0.out)|refine below_set ?_ GE320.out)|exact HB.out)):P:=h
theorem t62_ {P:Prop} (h:P:=by repeat (first|(with_reducible first|exact HB.out|apply below_alloc|apply pw_below_drewN|apply below_drew1|refine below_set ?_ GE420.out)|exact HB.out)):P:=h
theorem t63_ {P:Prop} (h:P:=by (with_reducible repeat (first|refine blk_drewN ?_ _|refine blk_drew ?_|refine blk_alloc ?_ _));refine blk_far ?_ NB443_455.out _;(with_reducible repeat (first|refine blk_drewN ?_ _|refine blk_drew ?_|refine blk_alloc ?_ _));refine blk_far ?_ NB443_455.out _;(with_reducible repeat (first|refine blk_drewN ?_ _|refine blk_drew ?_|refine blk_alloc ?_ _));refine blk_far ?_ NB443_455.out _;(with_reducible repeat (first|refine blk_drewN ?_ _|refine blk_drew ?_|refine blk_alloc ?_ _));refine blk_far ?_ NB443_455.out _;(with_reducible repeat (first|refine blk_drewN ?_ _|refine blk_drew ?_|refine blk_alloc ?_ _));refine blk_far ?_ NB443_455.out _;(with_reducible repeat (first|refine blk_drewN ?_ _|refine blk_drew ?_|refine blk_alloc ?_ _));refine blk_far ?_ NB443_455.out _;(with_reducible repeat (first|refine blk_drewN ?_ _|refine blk_drew ?_|refine blk_alloc ?_ _));exact BK443.out):P:=h
theorem t64_ {P:Prop} (h:P:=by repeat (first|(with_reducible first|exact HK.out|apply KeepBut.set_|apply keep_drewN|apply keep_drew|apply keep_alloc|refine keep_far ?_ GW280.out _)|exact HK.out)):P:=h
theorem t65_ {P:Prop} (h:P:=by repeat (first|(with_reducible first|exact HB.out|apply below_alloc|apply pw_below_drewN|apply below_drew1|refine below_set ?_ GE429.out)|exact HB.out)):P:=h
theorem t66_ {P:Prop} (h:P:=by repeat (first|(with_reducible first|exact HB.out|apply below_alloc|apply pw_below_drewN|apply below_drew1|refine below_set ?_ GE443.out|refine below_set ?_ GE455.out)|exact HB.out)):P:=h
theorem t67_ {P:Prop} (h:P:=by repeat (first|(with_reducible first|exact HB.out|apply below_alloc|apply pw_below_drewN|apply below_drew1|refine below_set ?_ GE429.out|refine below_set ?_ GE430.out)|exact HB.out)):P:=h
theorem t68_ {P:Prop} (h:P:=by (with_reducible repeat (first|apply Kd.Q_alloc|apply Kd.Q_drewN|apply Kd.Q_drew));exact HO_601001.out):P:=h
theorem t69_ {P:Prop} (h:P:=by (with_reducible repeat (first|refine blk_drewN ?_ _|refine blk_drew ?_|refine blk_alloc ?_ _));exact BK433.out):P:=h
theorem t70_ {P:Prop} (h:P:=by (with_reducible repeat (first|refine blk_drewN ?_ _|refine blk_drew ?_|refine blk_alloc ?_ _));refine blk_put (cs:=#[.string a0_0,.int .i64 a0_1,.int .i64 a0_2,.int .i64 a0_3,.int .i64 a0_4,.int .i64 a0_5]) ?_ 5 _ rfl;(with_reducible repeat (first|refine blk_drewN ?_ _|refine blk_drew ?_|refine blk_alloc ?_ _));exact BK538.out):P:=h
theorem t71_ {P:Prop} (h:P:=by (with_reducible repeat (first|apply Kd.R_alloc|apply Kd.R_drewN|apply Kd.R_drew));exact (Kd.R_mono (Kd.R_far (p:=⟨gb600,1,none⟩) (Kd.R_far (p:=⟨gb600,0,none⟩) (Kd.R_types HO594.out BK600.out t36_) (fun _ hk=>hk.2) (.slice Ao28 t592.length co28)) (fun _ hk=>hk.2) (.slice Ao30 t595.length co30)) (fun _ h_=>h_.1))):P:=h
theorem t72_ {P:Prop} (h:P:=by repeat (first|(with_reducible first|exact HB.out|apply below_alloc|apply pw_below_drewN|apply below_drew1|refine below_set ?_ GE460.out)|exact HB.out)):P:=h
theorem t73_ {P:Prop} (h:P:=by (with_reducible repeat (first|apply Kd.R_alloc|apply Kd.R_drewN|apply Kd.R_drew));exact HO_601000.out):P:=h
theorem t74_ {P:Prop} (h:P:=by omega):P:=h
theorem t75_ {P:Prop} (h:P:=by repeat (first|(with_reducible first|exact HK.out|apply KeepBut.set_|apply keep_drewN|apply keep_drew|apply keep_alloc|refine keep_far ?_ GW154.out _)|exact HK.out)):P:=h
theorem t76_ {P:Prop} (h:P:=by (with_reducible repeat (first|apply Kd.R_alloc|apply Kd.R_drewN|apply Kd.R_drew));exact HO_15.out):P:=h
theorem t77_ {P:Prop} (h:P:=by (with_reducible repeat (first|refine blk_drewN ?_ _|refine blk_drew ?_|refine blk_alloc ?_ _));refine blk_far ?_ NB530_538.out _;(with_reducible repeat (first|refine blk_drewN ?_ _|refine blk_drew ?_|refine blk_alloc ?_ _));exact BK530.out):P:=h
theorem t78_ {P:Prop} (h:P:=by (with_reducible repeat (first|refine blk_drewN ?_ _|refine blk_drew ?_|refine blk_alloc ?_ _));refine blk_far ?_ NB230_237.out _;(with_reducible repeat (first|refine blk_drewN ?_ _|refine blk_drew ?_|refine blk_alloc ?_ _));exact BK230.out):P:=h
theorem t79_ {P:Prop} (h:P:=by repeat (first|(with_reducible first|exact HI488.out|apply IsS63.alloc|apply IsS63.drewN|apply IsS63.drew|apply IsS63.set_1|apply IsS63.set_2|refine IsS63.far ?_ NB488_484.out _|refine IsS63.far ?_ NB488_497.out _)|exact HI488.out)):P:=h
theorem t80_ {P:Prop} (h:P:=by (with_reducible repeat (first|refine blk_drewN ?_ _|refine blk_drew ?_|refine blk_alloc ?_ _));refine blk_put (cs:=#[.slice Ao8 t281.length co8,.slice none 0 0]) ?_ 1 _ rfl;(with_reducible repeat (first|refine blk_drewN ?_ _|refine blk_drew ?_|refine blk_alloc ?_ _));refine blk_put (cs:=#[.slice none 0 0,.slice none 0 0]) ?_ 0 _ rfl;(with_reducible repeat (first|refine blk_drewN ?_ _|refine blk_drew ?_|refine blk_alloc ?_ _));exact BK280.out):P:=h
theorem t81_ {P:Prop} (h:P:=by rw [← hq_];exact (q3_ HO_601001.out)):P:=h
theorem t82_ {P:Prop} (h:P:=by rw [← hq_];exact (q1_ HO_601000.out)):P:=h
theorem t83_ {P:Prop} (h:P:=by first|omega|exact Nat.le_refl _):P:=h
theorem t84_ {P:Prop} (h:P:=by repeat (first|(with_reducible first|exact HK.out|apply KeepBut.set_|apply keep_drewN|apply keep_drew|apply keep_alloc|refine keep_far ?_ GW154.out _|refine keep_far ?_ GW158.out _)|exact HK.out)):P:=h
theorem t85_ {P:Prop} (h:P:=by repeat (first|(with_reducible first|exact HB.out|apply below_alloc|apply pw_below_drewN|apply below_drew1|refine below_set ?_ (IsS63.ge HI488.out)|refine below_set ?_ GE484.out)|exact HB.out)):P:=h
theorem t86_ {P:Prop} (h:P:=by repeat (first|(with_reducible first|exact HI0.out|apply IsS63.alloc|apply IsS63.drewN|apply IsS63.drew|apply IsS63.set_1|apply IsS63.set_2|refine IsS63.far ?_ NB0_230.out _)|exact HI0.out)):P:=h
theorem t87_ {P:Prop} (h:P:=by repeat (first|(with_reducible first|exact HB.out|apply below_alloc|apply pw_below_drewN|apply below_drew1|refine below_set ?_ (IsS63.ge HI0.out)|refine below_set ?_ GE230.out)|exact HB.out)):P:=h
theorem t88_ {P:Prop} (h:P:=by rw [← hq_];exact (q2_ BK625.out)):P:=h
theorem t89_ {P:Prop} (h:P:=by rw [← hq_];exact (q2_ BK600.out)):P:=h
theorem t90_ {P:Prop} (h:P:=by repeat (first|(with_reducible first|exact HB.out|apply below_alloc|apply pw_below_drewN|apply below_drew1|refine below_set ?_ GE443.out|refine below_set ?_ GE448.out)|exact HB.out)):P:=h
theorem t91_ {P:Prop} (h:P:=by (with_reducible repeat (first|refine blk_drewN ?_ _|refine blk_drew ?_|refine blk_alloc ?_ _));refine blk_far ?_ NB395_408.out _;(with_reducible repeat (first|refine blk_drewN ?_ _|refine blk_drew ?_|refine blk_alloc ?_ _));refine blk_far ?_ NB395_408.out _;(with_reducible repeat (first|refine blk_drewN ?_ _|refine blk_drew ?_|refine blk_alloc ?_ _));exact BK395.out):P:=h
theorem t92_ {P:Prop} (h:P:=by have:=HJ2.out;have:=HJ6.out;have:=HJ11.out;have:=HJ19.out;have:=HJ24.out;first|omega|exact Nat.le_refl _):P:=h
theorem t93_ {P:Prop} (h:P:=by (with_reducible repeat (first|refine blk_drewN ?_ _|refine blk_drew ?_|refine blk_alloc ?_ _));exact BK530.out):P:=h
theorem t94_ {P:Prop} (h:P:=by (with_reducible repeat (first|refine blk_drewN ?_ _|refine blk_drew ?_|refine blk_alloc ?_ _));exact BK443.out):P:=h
theorem t95_ {P:Prop} (h:P:=by repeat (first|(with_reducible first|exact HI116.out|apply IsS63.alloc|apply IsS63.drewN|apply IsS63.drew|apply IsS63.set_1|apply IsS63.set_2)|exact HI116.out)):P:=h
theorem t96_ {P:Prop} (h:P:=by (with_reducible repeat (first|apply Kd.Q_alloc|apply Kd.Q_drewN|apply Kd.Q_drew));exact (Kd.Q_mono (Kd.Q_far (p:=⟨gb600,1,none⟩) (Kd.Q_far (p:=⟨gb600,0,none⟩) (Kd.Q_types HO597.out BK600.out t36_) (fun _ hk=>hk.2) (.slice Ao28 t592.length co28)) (fun _ hk=>hk.2) (.slice Ao30 t595.length co30)) (fun _ h_=>h_.1))):P:=h
theorem t97_ {P:Prop} (h:P:=by (try simp only [List.map_toArray,List.map_cons,List.map_nil]);first|done|(simp only [hji28];rfl)|rfl|(simp only [List.length_drop,List.length_take];rfl)):P:=h
theorem t98_ {P:Prop} (h:P:=by rfl):P:=h
theorem t99_ {P:Prop} (h:P:=by have:=HK1.out;omega):P:=h
theorem t100_ {P:Prop} (h:P:=by first|exact Kd.R_nil _ _ _ _ _|exact Kd.N_nil _ _ _ _ _|exact Kd.V_nil _ _ _ _ _|exact Kd.Q_nil _ _ _ _ _|exact Kd.S_nil _ _ _ _ _):P:=h
theorem t101_ {P:Prop} (h:P:=by have:=HJ2.out;have:=HJ6.out;first|omega|exact Nat.le_refl _):P:=h
theorem t102_ {P:Prop} (h:P:=by (with_reducible repeat (first|refine blk_drewN ?_ _|refine blk_drew ?_|refine blk_alloc ?_ _));refine blk_put (cs:=#[u238000,u238001]) ?_ 1 _ rfl;(with_reducible repeat (first|refine blk_drewN ?_ _|refine blk_drew ?_|refine blk_alloc ?_ _));exact BK237.out):P:=h
theorem t103_ {P:Prop} (h:P:=by (with_reducible repeat (first|refine blk_drewN ?_ _|refine blk_drew ?_|refine blk_alloc ?_ _));refine blk_far ?_ NB320_329.out _;(with_reducible repeat (first|refine blk_drewN ?_ _|refine blk_drew ?_|refine blk_alloc ?_ _));exact BK320.out):P:=h
theorem t104_ {P:Prop} (h:P:=by rw [← hq_];exact t7_):P:=h
theorem t105_ {P:Prop} (h:P:=by first|(rw [add_block];exact Kd.own_blk (IsS63.own_ne HI0.out HO_6.out t36_))|(show (Addr.add _ _).block≠_;rw [add_block];exact Kd.own_blk (IsS63.own_ne HI0.out HO_6.out t36_))|exact Kd.own_blk (IsS63.own_ne HI0.out HO_6.out t36_)):P:=h
theorem t106_ {P:Prop} (h:P:=by repeat (first|(with_reducible first|exact HB.out|apply below_alloc|apply pw_below_drewN|apply below_drew1|refine below_set ?_ (IsS63.ge HI399.out)|refine below_set ?_ GE395.out|refine below_set ?_ GE408.out)|exact HB.out)):P:=h
theorem t107_ {P:Prop} (h:P:=by (with_reducible repeat (first|refine blk_drewN ?_ _|refine blk_drew ?_|refine blk_alloc ?_ _));exact BK289.out):P:=h
theorem t108_ {P:Prop} (h:P:=by (with_reducible repeat (first|refine blk_drewN ?_ _|refine blk_drew ?_|refine blk_alloc ?_ _));exact BK280.out):P:=h
theorem t109_ {P:Prop} (h:P:=by repeat (first|(with_reducible first|exact HI399.out|apply IsS63.alloc|apply IsS63.drewN|apply IsS63.drew|apply IsS63.set_1|apply IsS63.set_2|refine IsS63.far ?_ NB399_395.out _)|exact HI399.out)):P:=h



def errW:Option Int→Value
  |none=>.nilIface
  |some c=>.iface 0 (.int .i64 c)
theorem errW_none:errW none=.nilIface:=rfl
theorem errW_some (c:Int):errW (some c)=.iface 0 (.int .i64 c):=rfl

theorem info2:(Try.prog.info? 2).map (fun i=>(i.zero,i.size,i.bytes))=some (some (.int .i64 0),1,8):=by kernel_rfl
theorem info5:(Try.prog.info? 5).map (fun i=>(i.zero,i.size,i.bytes))=some (some (.int .u8 0),1,1):=by kernel_rfl
theorem info9:(Try.prog.info? 9).map (fun i=>(i.zero,i.size,i.bytes))=some (some (.string ⟨#[]⟩),1,16):=by kernel_rfl
theorem info41:(Try.prog.info? 41).map (fun i=>(i.zero,i.size,i.bytes))=some (some (.agg #[(.string ⟨#[]⟩),(.int .i64 0),(.int .i64 0),(.int .i64 0),(.int .i64 0),(.int .i64 0)]),6,56):=by kernel_rfl
-- the values' own types
/-! #### struct type 41 -/
structure S41 where
  f0:ByteArray
  f1:Int
  f2:Int
  f3:Int
  f4:Int
  f5:Int
def z41:S41:=⟨(⟨#[]⟩:ByteArray),(0:Int),(0:Int),(0:Int),(0:Int),(0:Int)⟩
def k41:Kd S41:=Kd.iso (Kd.pair Kd.string (Kd.pair (Kd.int .i64) (Kd.pair (Kd.int .i64) (Kd.pair (Kd.int .i64) (Kd.pair (Kd.int .i64) (Kd.int .i64)))))) (fun x:S41=>(x.f0,x.f1,x.f2,x.f3,x.f4,x.f5))
theorem k41_open {w:World} {x:S41} {cs:List Value} (h:k41.K w x cs):cs=[.string x.f0,.int .i64 x.f1,.int .i64 x.f2,.int .i64 x.f3,.int .i64 x.f4,.int .i64 x.f5]:=by
  obtain ⟨_,_,rfl,rfl,⟨_,_,rfl,rfl,⟨_,_,rfl,rfl,⟨_,_,rfl,rfl,⟨_,_,rfl,rfl,rfl⟩⟩⟩⟩⟩:=h;exact rfl
theorem k41_openM {w:World} {base:Nat} {ok:Nat→Prop} {x:S41} {cs:List Value} (h:k41.M w base ok x cs):cs=[.string x.f0,.int .i64 x.f1,.int .i64 x.f2,.int .i64 x.f3,.int .i64 x.f4,.int .i64 x.f5]:=by
  obtain ⟨_,_,rfl,rfl,⟨_,_,rfl,rfl,⟨_,_,rfl,rfl,⟨_,_,rfl,rfl,⟨_,_,rfl,rfl,rfl⟩⟩⟩⟩⟩:=h;exact rfl
theorem k41_mk (w:World) (x:S41):k41.K w x [.string x.f0,.int .i64 x.f1,.int .i64 x.f2,.int .i64 x.f3,.int .i64 x.f4,.int .i64 x.f5]:=⟨[.string x.f0],[.int .i64 x.f1,.int .i64 x.f2,.int .i64 x.f3,.int .i64 x.f4,.int .i64 x.f5],rfl,rfl,⟨[.int .i64 x.f1],[.int .i64 x.f2,.int .i64 x.f3,.int .i64 x.f4,.int .i64 x.f5],rfl,rfl,⟨[.int .i64 x.f2],[.int .i64 x.f3,.int .i64 x.f4,.int .i64 x.f5],rfl,rfl,⟨[.int .i64 x.f3],[.int .i64 x.f4,.int .i64 x.f5],rfl,rfl,⟨[.int .i64 x.f4],[.int .i64 x.f5],rfl,rfl,rfl⟩⟩⟩⟩⟩
theorem k41_mkM (w:World) (base:Nat) (ok:Nat→Prop) (x:S41):k41.M w base ok x [.string x.f0,.int .i64 x.f1,.int .i64 x.f2,.int .i64 x.f3,.int .i64 x.f4,.int .i64 x.f5]:=⟨[.string x.f0],[.int .i64 x.f1,.int .i64 x.f2,.int .i64 x.f3,.int .i64 x.f4,.int .i64 x.f5],rfl,rfl,⟨[.int .i64 x.f1],[.int .i64 x.f2,.int .i64 x.f3,.int .i64 x.f4,.int .i64 x.f5],rfl,rfl,⟨[.int .i64 x.f2],[.int .i64 x.f3,.int .i64 x.f4,.int .i64 x.f5],rfl,rfl,⟨[.int .i64 x.f3],[.int .i64 x.f4,.int .i64 x.f5],rfl,rfl,⟨[.int .i64 x.f4],[.int .i64 x.f5],rfl,rfl,rfl⟩⟩⟩⟩⟩
def rd_T41 (xs:List S41) (i:Int):S41:=xs.getD i.toNat z41
theorem at_T41 {w:World} {A:Option Addr} {n:Nat} {xs:List S41} (h:Kd.C k41 w A n xs) (i:Int) (y:0≤i) (D:i<n):∃ ad,A=some ad∧w.cell? (ad.add (i.toNat * 6))=some (.string (rd_T41 xs i).f0)∧w.cell? ⟨(ad.add (i.toNat * 6)).block,(ad.add (i.toNat * 6)).off+1,none⟩=some (.int .i64 (rd_T41 xs i).f1)∧w.cell? ⟨(ad.add (i.toNat * 6)).block,(ad.add (i.toNat * 6)).off+2,none⟩=some (.int .i64 (rd_T41 xs i).f2)∧w.cell? ⟨(ad.add (i.toNat * 6)).block,(ad.add (i.toNat * 6)).off+3,none⟩=some (.int .i64 (rd_T41 xs i).f3)∧w.cell? ⟨(ad.add (i.toNat * 6)).block,(ad.add (i.toNat * 6)).off+4,none⟩=some (.int .i64 (rd_T41 xs i).f4)∧w.cell? ⟨(ad.add (i.toNat * 6)).block,(ad.add (i.toNat * 6)).off+5,none⟩=some (.int .i64 (rd_T41 xs i).f5):=by
  obtain ⟨ad,c,e,_,hK,O⟩:=Kd.C_get h z41 i y D;have hc:∀ j u,c[j]? =some u→w.cell? (ad.add (i.toNat * 6+j))=some u:=O;obtain rfl:=k41_open hK;exact ⟨ad,e,hc 0 _ rfl,(by rw [← add_field _ _ 1 t74_];exact hc 1 _ rfl),(by rw [← add_field _ _ 2 t74_];exact hc 2 _ rfl),(by rw [← add_field _ _ 3 t74_];exact hc 3 _ rfl),(by rw [← add_field _ _ 4 t74_];exact hc 4 _ rfl),(by rw [← add_field _ _ 5 t74_];exact hc 5 _ rfl)⟩

/-- A region's marks: the first a of n operations are behind. -/
def tf (a n:Nat):Array Bool:=(List.replicate a true++List.replicate (n - a) false).toArray
/-- The same, by the bits of a number. -/
def tb (n m:Nat):Array Bool:=((List.range n).map m.testBit).toArray
section
variable {P:Program} {ops:Array Oper} {Q:Exit→Act→World→Prop} {md:Region.Mode} {S:World→Prop} {ds:List Nat} {T:Bool × List (List Nat × List Nat)} {B:List Nat} {oi:Oper} {v:Value} {fuel:Nat} {l:Array Bool} {a a':Act} {w:World}
/-- pure_, its small parts found by themselves. -/
theorem px (i:Nat) (N:Option Tmp) (l':Array Bool) (HT:Aside0 (rtab md ops=T)) (h:wpAnyLast P md ops Q S ds fuel l' a' w) (hi:ops[i]? =some oi:=by rfl) (hN:oi.dst=N:=by rfl) (hc:anyT T l.toList l'.toList i=true:=by kernel_rfl) (hQ:∀ c a w,Q (.panic c) (a.put oi.dst v) w→Q (.panic c) a w:=by exact fun _ _ _ h=>h) (hg:Region.wanted oi (yielded ops a.tmps)=true:=by rfl) (hx:∀ w',(execOp a.eval oi).run P w'=.ok (.value v) w':=by intro w';go_simp;with_reducible rfl) (ha:a.put N v=a':=by simp only [Act.put,List.setIfInBounds_toArray,List.set_cons_zero,List.set_cons_succ,i64_w,i32_w];rfl):wpAnyLast P md ops Q S ds (fuel+1) l a w:=
  pure_ l' hi hN (any_of HT.out hc) hQ (Or.inl ⟨hg,hx⟩) ha h
/-- The same for what isn't wanted. -/
theorem sx (i:Nat) (N:Option Tmp) (l':Array Bool) (HT:Aside0 (rtab md ops=T)) (h:wpAnyLast P md ops Q S ds fuel l' a' w) (hi:ops[i]? =some oi:=by rfl) (hN:oi.dst=N:=by rfl) (hc:anyT T l.toList l'.toList i=true:=by kernel_rfl) (hQ:∀ c a w,Q (.panic c) (a.put oi.dst undef) w→Q (.panic c) a w:=by exact fun _ _ _ h=>h) (hg:Region.wanted oi (yielded ops a.tmps)=false:=by rfl) (ha:a.put N undef=a':=by simp only [Act.put,List.setIfInBounds_toArray,List.set_cons_zero,List.set_cons_succ,i64_w,i32_w];rfl):wpAnyLast P md ops Q S ds (fuel+1) l a w:=
  pure_ l' hi hN (any_of HT.out hc) hQ (Or.inr ⟨hg,rfl⟩) ha h
/-- take_, the same. -/
theorem tx (i:Nat) (N:Option Tmp) (l':Array Bool) (HT:Aside0 (rtab md ops=T)) (HW:Aside0 (waitsOk T.2 B=true)) (hS:S w) (hx:∀ w',S w'→(execOp a.eval oi).run P w'=.ok (.value v) w') (h:wpAnyLast P md ops Q S ds fuel l' a' w) (hi:ops[i]? =some oi:=by rfl) (hN:oi.dst=N:=by rfl) (hc:takeW T B ds l.toList l'.toList i=true:=by kernel_rfl) (hQ:∀ c a w,Q (.panic c) (a.put oi.dst v) w→Q (.panic c) a w:=by exact fun _ _ _ h=>h) (hg:Region.wanted oi (yielded ops a.tmps)=true:=by rfl) (ha:a.put N v=a':=by simp only [Act.put,List.setIfInBounds_toArray,List.set_cons_zero,List.set_cons_succ,i64_w,i32_w];rfl):wpAnyLast P md ops Q S ds (fuel+1) l a w:=
  take_ l' hi hN (take_ofW HT.out HW.out hc) hQ (Or.inl ⟨hg,hx⟩) hS ha h
end
theorem Kd.C_one {α:Type} {d:Kd α} {w:World} {ad:Addr} {x:α} {c:List Value} (hK:d.K w x c) (hc:∀ j u,c[j]? =some u→w.cell? (ad.add j)=some u):Kd.C d w (some ad) [x].length [x]:=
  ⟨rfl,t55_,fun _=>⟨ad,rfl,fun j p hj=>by
    cases j with
    |succ j=>simp at hj
    |zero=>
      have e:x=p:=by simpa using hj
      subst e
      exact ⟨c,d.K_len hK,hK,fun i u hu=>by rw [Nat.zero_mul,Nat.zero_add];exact hc i u hu⟩⟩⟩
theorem cells_blk {w:World} {g:Nat} {t:TypeId} {cs:Array Value} (h:w.heap[g]? =some (.cells cs t (0,0))):∀ j u,cs.toList[j]? =some u→w.cell? ((⟨g,0,none⟩:Addr).add j)=some u:=by
  intro j u hu;have e:(⟨g,0,none⟩:Addr).add j=⟨g,j,none⟩:=(by unfold Addr.add;split<;>simp_all);rw [e,blk_cell h];simpa using hu
theorem Kd.C_sub {α:Type} {d:Kd α} {w:World} {ad:Addr} {n:Nat} {xs:List α} {z:α} {i:Int} (h:Kd.C d w (some ad) n xs) (y:0≤i) (D:i<n):Kd.C d w (some (ad.add (i.toNat * d.sz))) [xs.getD i.toNat z].length [xs.getD i.toNat z]:=by
  obtain ⟨ad',c,e,hl,hK,hc⟩:=Kd.C_get h z i y D;cases e;exact Kd.C_one hK (fun j u hu=>by
    have L:=hc j u hu
    have e:(ad.add (i.toNat * d.sz)).add j=ad.add (i.toNat * d.sz+j):=by
      unfold Addr.add
      by_cases hi:i.toNat * d.sz=0<;>by_cases hj:j=0<;>simp [hi,hj,Nat.add_assoc]
    rw [e];exact L)
/-- One of two. -/
def pk_ {α:Type} (i:Int) (a b:α):α:=if i=0 then a else b
/-- The binary search of sort.Search. -/
def searchO (p:Int→Option Bool):Nat→Int→Int→Option Int
  |0,_,_=>none
  |n+1,i,j=>if i<j then (p ((i+j) / 2)).bind fun b=>if b=true then searchO p n i ((i+j) / 2) else searchO p n ((i+j) / 2+1) j else some i
theorem searchO_mono {p q:Int→Option Bool} (h:∀ x,LeO (p x) (q x)):∀ n i j,LeO (searchO p n i j) (searchO q (n+1) i j)
  |0,_,_=>LeO.none _
  |n+1,i,j=>by
    show LeO (if i<j then _ else _) (if i<j then _ else _)
    exact LeO.ite (LeO.bind (h _) (fun _=>LeO.ite (searchO_mono h n i _) (searchO_mono h n _ j))) (LeO.refl _)
def firstO (p:Int→Option Bool) (k:Nat) (low high:Int):Option (Int × Bool):=if wrap64 (wrap64 (high - low)+1)≤2305843009213693952 then (searchO (fun i=>p (wrap64 (low+i))) k 0 (wrap64 (wrap64 (high - low)+1))).bind fun q=>some (wrap64 (low+q),decide (q<wrap64 (wrap64 (high - low)+1))) else none
theorem firstO_mono {p q:Int→Option Bool} (h:∀ x,LeO (p x) (q x)) (k:Nat) (low high:Int):LeO (firstO p k low high) (firstO q (k+1) low high):=
  LeO.ite (LeO.bind (searchO_mono (fun _=>h _) k _ _) (fun _=>LeO.refl _)) (LeO.refl _)

end Go.Proofs.Ytldelmdmienmeaa.PFnLosses
