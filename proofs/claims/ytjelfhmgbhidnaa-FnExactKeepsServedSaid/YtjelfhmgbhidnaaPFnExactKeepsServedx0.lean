-- written by wip/xprint.py, a program of this session, for this claim; not trusted: Lean checks it.
import Derived.Test.YtjelfhmgbhidnaaProg
import Derived.Below
import Derived.Deep.Draws
import Derived.Deep.AppendLies
import Derived.Maps.AppendAt
import Derived.OwnWalk
import Derived.Laws.BytesArg
import Derived.Laws.MakeOwn
import Derived.Laws.OwnMore
import Derived.Deep.OwnRows
import Derived.Tactics
import Derived.Lib.ConvBytes
import Derived.Laws.Slices
import Derived.WalkKit
import Derived.KernelRfl
import Derived.RowKit3
import Derived.Deep.LoopGhost
import Derived.Deep.QuietTactic
import Derived.BigQuiet
import Derived.WideLaws
import Derived.Deep.DeepCutAuto
import Derived.Deep.CutBlock
import Derived.Deep.RegionHeld3
import Derived.Laws.Rows
import Derived.Lib.AppendStr
import Derived.ArgAppend
import Derived.Laws.IdiomCopy
import Derived.OrdersHeld
import Derived.Laws.BitsLemmas
import Derived.RowKit
import Derived.Laws.Cover1
import Derived.Lib.Walk
import Derived.Shelf.Abstract
import Derived.WalkSpells
import Derived.Test.YtjelfhmgbhidnaaPFnExactKeepsServedw
namespace Go.Proofs.Ytjelfhmgbhidnaa.PFnExactKeepsServed
open Go.RowKit Go.Proofs.YtjelfhmgbhidnaaW.PrintWords Go.Proofs.YtjelfhmgbhidnaaW.PrintLast Go.Proofs.YtjelfhmgbhidnaaW.PrintMore
attribute [local go_sem] leq_less_ max2_int min2_int max_two min_two max_three min_three max_four min_four   -- for this text's walks alone
set_option linter.unusedVariables false
set_option linter.unusedSimpArgs false
-- proofs that stand many times, told once (the proof is the default of h)
set_option maxHeartbeats 8000000
set_option maxRecDepth 100000
theorem q1_ {P Q:Prop} (h:Q) (f:Q→P:=by (intro h_;(with_reducible repeat (first|refine blk_drewN ?_ _|refine blk_drew ?_|refine blk_alloc ?_ _));exact h_)):P:=f h
theorem q2_ {P Q:Prop} (h:Q) (f:Q→P:=by (intro h_;(with_reducible repeat (first|apply Kd.R_alloc|apply Kd.R_drewN|apply Kd.R_drew));exact h_)):P:=f h
theorem q3_ {P Q:Prop} (h:Q) (f:Q→P:=by (intro h_;(with_reducible repeat (first|apply Kd.V_alloc|apply Kd.V_drewN|apply Kd.V_drew));exact h_)):P:=f h
theorem q4_ {P Q:Prop} (h:Q) (f:Q→P:=by (intro h_;(with_reducible repeat (first|apply Kd.N_alloc|apply Kd.N_drewN|apply Kd.N_drew));exact h_)):P:=f h
theorem dd_ {P:Prop} (h:P:=by first|exact ⟨rfl,_,World.drewN_drewN _ _ _⟩|exact ⟨rfl,_,Eq.trans (World.drewN_drewN _ _ _) (congrArg (World.drewN _) (Nat.add_assoc _ _ _))⟩):P:=h
theorem hb_ {w w':World} {p:Addr} {v:Value} (HB:Aside0 (Below w.heap.size w w')) (h:w.cell? p=some v):w'.cell? p=some v:=(HB.out.cell (World.block_lt_of_cell? w _ h)).trans h
theorem za_ (a:Addr) (n:Nat):a.add (((0:Int)).toNat * n)=a:=by rw [show ((0:Int)).toNat=0 from rfl,Nat.zero_mul];exact Addr.add_zero' a
theorem a_ {p:Prop} (h:p):Aside0 p:=⟨h⟩
theorem be_ {α β:Type} {o:Option α} {f:α→Option β} {b:β} (h:o.bind f=some b):∃ a,o=some a∧f a=some b:=Option.bind_eq_some_iff.mp h
theorem od_ {p:Prop} [Decidable p] (h:decide p=true:=by first|(with_reducible assumption)|assumption):p:=of_decide_eq_true h
theorem b1_ {α:Type} [BEq α] [LawfulBEq α] {a b:α} (h:a=b):(a==b)=true:=beq_iff_eq.mpr h
theorem b2_ {α:Type} [BEq α] [LawfulBEq α] {a b:α} (h:¬ a=b):(a==b)=false:=beq_eq_false_iff_ne.mpr h
theorem b3_ {α:Type} [BEq α] [LawfulBEq α] {a b:α} (h:¬ a=b):(a !=b)=true:=bne_iff_ne.mpr h
theorem b4_ {α:Type} [BEq α] [LawfulBEq α] {a b:α} (h:a=b):(a !=b)=false:=bne_eq_false_iff_eq.mpr h
theorem d1_ {p:Prop} [Decidable p] (h:p):decide p=true:=decide_eq_true h
theorem d2_ {p:Prop} [Decidable p] (h:¬ p):decide p=false:=decide_eq_false h
theorem bc2_ {w:World} {g:Nat} {t:TypeId} {a0 a1:Value} (h:w.heap[g]? =some (.cells #[a0,a1] t (0,0))):w.cell? ⟨g,0,none⟩=some a0∧w.cell? ⟨g,1,none⟩=some a1∧w.frozen? ⟨g,0,none⟩=false∧w.frozen? ⟨g,1,none⟩=false:=⟨(blk_cell h 0).trans rfl,(blk_cell h 1).trans rfl,blk_frozen h 0,blk_frozen h 1⟩
theorem bc6_ {w:World} {g:Nat} {t:TypeId} {a0 a1 a2 a3 a4 a5:Value} (h:w.heap[g]? =some (.cells #[a0,a1,a2,a3,a4,a5] t (0,0))):w.cell? ⟨g,0,none⟩=some a0∧w.cell? ⟨g,1,none⟩=some a1∧w.cell? ⟨g,2,none⟩=some a2∧w.cell? ⟨g,3,none⟩=some a3∧w.cell? ⟨g,4,none⟩=some a4∧w.cell? ⟨g,5,none⟩=some a5∧w.frozen? ⟨g,0,none⟩=false∧w.frozen? ⟨g,1,none⟩=false∧w.frozen? ⟨g,2,none⟩=false∧w.frozen? ⟨g,3,none⟩=false∧w.frozen? ⟨g,4,none⟩=false∧w.frozen? ⟨g,5,none⟩=false:=⟨(blk_cell h 0).trans rfl,(blk_cell h 1).trans rfl,(blk_cell h 2).trans rfl,(blk_cell h 3).trans rfl,(blk_cell h 4).trans rfl,(blk_cell h 5).trans rfl,blk_frozen h 0,blk_frozen h 1,blk_frozen h 2,blk_frozen h 3,blk_frozen h 4,blk_frozen h 5⟩
theorem qc_ {P Q:Prop} (h:Q) (f:Q→P:=by (intro h_;repeat (first|exact h_|(with_reducible refine Kd.C_alloc ?_ _)|(with_reducible refine Kd.C_drewN ?_ _)|(with_reducible refine Kd.C_drew ?_)))):P:=f h
theorem t1_ {P:Prop} (h:P:=by repeat (first|(with_reducible first|exact HB.out|apply below_alloc|apply pw_below_drewN|apply below_drew1)|exact HB.out)):P:=h
theorem t2_ {P:Prop} (h:P:=by (try simp only [List.map_toArray,List.map_cons,List.map_nil]);first|done|rfl|(simp only [List.length_drop,List.length_take];rfl)):P:=h
theorem t3_ {P:Prop} (h:P:=by first|rfl|(rw [Int.tdiv_eq_ediv_of_nonneg (by omega)];rfl)|(simp [errW_none,errW_some]<;>rfl)|(simp [*,errW_none,errW_some]<;>rfl)):P:=h
theorem t4_ {P:Prop} (h:P:=by repeat (first|(with_reducible first|exact HB.out|apply below_alloc|apply pw_below_drewN|apply below_drew1|refine below_set ?_ GE367.out|refine below_set ?_ GE383.out)|exact HB.out)):P:=h
theorem t5_ {P:Prop} (h:P:=by repeat (first|(with_reducible first|exact HB.out|apply below_alloc|apply pw_below_drewN|apply below_drew1|refine below_set ?_ GE367.out)|exact HB.out)):P:=h
theorem t6_ {P:Prop} (h:P:=by (with_reducible repeat (first|refine blk_drewN ?_ _|refine blk_drew ?_|refine blk_alloc ?_ _));refine blk_put (cs:=#[.string ((rd_T80 l0_1 x30_2).f0),.int .i64 ((rd_T80 l0_1 x30_2).f1),.int .i64 ((rd_T80 l0_1 x30_2).f2),.int .i64 ((rd_T80 l0_1 x30_2).f3),.int .i64 ((rd_T80 l0_1 x30_2).f4),.int .i64 0]) ?_ 5 _ rfl;(with_reducible repeat (first|refine blk_drewN ?_ _|refine blk_drew ?_|refine blk_alloc ?_ _));refine blk_put (cs:=#[.string ((rd_T80 l0_1 x30_2).f0),.int .i64 ((rd_T80 l0_1 x30_2).f1),.int .i64 ((rd_T80 l0_1 x30_2).f2),.int .i64 ((rd_T80 l0_1 x30_2).f3),.int .i64 0,.int .i64 0]) ?_ 4 _ rfl;(with_reducible repeat (first|refine blk_drewN ?_ _|refine blk_drew ?_|refine blk_alloc ?_ _));refine blk_put (cs:=#[.string ((rd_T80 l0_1 x30_2).f0),.int .i64 ((rd_T80 l0_1 x30_2).f1),.int .i64 ((rd_T80 l0_1 x30_2).f2),.int .i64 0,.int .i64 0,.int .i64 0]) ?_ 3 _ rfl;(with_reducible repeat (first|refine blk_drewN ?_ _|refine blk_drew ?_|refine blk_alloc ?_ _));refine blk_put (cs:=#[.string ((rd_T80 l0_1 x30_2).f0),.int .i64 ((rd_T80 l0_1 x30_2).f1),.int .i64 0,.int .i64 0,.int .i64 0,.int .i64 0]) ?_ 2 _ rfl;(with_reducible repeat (first|refine blk_drewN ?_ _|refine blk_drew ?_|refine blk_alloc ?_ _));refine blk_put (cs:=#[.string ((rd_T80 l0_1 x30_2).f0),.int .i64 0,.int .i64 0,.int .i64 0,.int .i64 0,.int .i64 0]) ?_ 1 _ rfl;(with_reducible repeat (first|refine blk_drewN ?_ _|refine blk_drew ?_|refine blk_alloc ?_ _));refine blk_put (cs:=#[.string (⟨#[]⟩:ByteArray),.int .i64 0,.int .i64 0,.int .i64 0,.int .i64 0,.int .i64 0]) ?_ 0 _ rfl;(with_reducible repeat (first|refine blk_drewN ?_ _|refine blk_drew ?_|refine blk_alloc ?_ _));exact BK286.out):P:=h
theorem t7_ {P:Prop} (h:P:=by repeat (first|(with_reducible first|exact HB.out|apply below_alloc|apply pw_below_drewN|apply below_drew1|refine below_set ?_ GE390.out|refine below_set ?_ GE417.out)|exact HB.out)):P:=h
theorem t8_ {P:Prop} (h:P:=by first|rfl|(simp;done)|(simp [*];done)):P:=h
theorem t9_ {P:Prop} (h:P:=by (with_reducible repeat (first|refine blk_drewN ?_ _|refine blk_drew ?_|refine blk_alloc ?_ _));refine blk_put (cs:=#[.string ((rd_T80 l0_1 x24_2).f0),.int .i64 ((rd_T80 l0_1 x24_2).f1),.int .i64 ((rd_T80 l0_1 x24_2).f2),.int .i64 ((rd_T80 l0_1 x24_2).f3),.int .i64 ((rd_T80 l0_1 x24_2).f4),.int .i64 0]) ?_ 5 _ rfl;(with_reducible repeat (first|refine blk_drewN ?_ _|refine blk_drew ?_|refine blk_alloc ?_ _));refine blk_put (cs:=#[.string ((rd_T80 l0_1 x24_2).f0),.int .i64 ((rd_T80 l0_1 x24_2).f1),.int .i64 ((rd_T80 l0_1 x24_2).f2),.int .i64 ((rd_T80 l0_1 x24_2).f3),.int .i64 0,.int .i64 0]) ?_ 4 _ rfl;(with_reducible repeat (first|refine blk_drewN ?_ _|refine blk_drew ?_|refine blk_alloc ?_ _));refine blk_put (cs:=#[.string ((rd_T80 l0_1 x24_2).f0),.int .i64 ((rd_T80 l0_1 x24_2).f1),.int .i64 ((rd_T80 l0_1 x24_2).f2),.int .i64 0,.int .i64 0,.int .i64 0]) ?_ 3 _ rfl;(with_reducible repeat (first|refine blk_drewN ?_ _|refine blk_drew ?_|refine blk_alloc ?_ _));refine blk_put (cs:=#[.string ((rd_T80 l0_1 x24_2).f0),.int .i64 ((rd_T80 l0_1 x24_2).f1),.int .i64 0,.int .i64 0,.int .i64 0,.int .i64 0]) ?_ 2 _ rfl;(with_reducible repeat (first|refine blk_drewN ?_ _|refine blk_drew ?_|refine blk_alloc ?_ _));refine blk_put (cs:=#[.string ((rd_T80 l0_1 x24_2).f0),.int .i64 0,.int .i64 0,.int .i64 0,.int .i64 0,.int .i64 0]) ?_ 1 _ rfl;(with_reducible repeat (first|refine blk_drewN ?_ _|refine blk_drew ?_|refine blk_alloc ?_ _));refine blk_put (cs:=#[.string (⟨#[]⟩:ByteArray),.int .i64 0,.int .i64 0,.int .i64 0,.int .i64 0,.int .i64 0]) ?_ 0 _ rfl;(with_reducible repeat (first|refine blk_drewN ?_ _|refine blk_drew ?_|refine blk_alloc ?_ _));exact BK314.out):P:=h
theorem t10_ {P:Prop} (h:P:=by repeat (first|(with_reducible first|exact HB.out|apply below_alloc|apply pw_below_drewN|apply below_drew1|refine below_set ?_ GE390.out)|exact HB.out)):P:=h
theorem t11_ {P:Prop} (h:P:=by repeat (first|(with_reducible first|exact HB.out|apply below_alloc|apply pw_below_drewN|apply below_drew1|refine below_set ?_ GE283.out)|exact HB.out)):P:=h
theorem t12_ {P:Prop} (h:P:=by (with_reducible repeat (first|refine blk_drewN ?_ _|refine blk_drew ?_|refine blk_alloc ?_ _));refine blk_far ?_ NB283_286.out _;(with_reducible repeat (first|refine blk_drewN ?_ _|refine blk_drew ?_|refine blk_alloc ?_ _));refine blk_far ?_ NB283_286.out _;(with_reducible repeat (first|refine blk_drewN ?_ _|refine blk_drew ?_|refine blk_alloc ?_ _));refine blk_far ?_ NB283_286.out _;(with_reducible repeat (first|refine blk_drewN ?_ _|refine blk_drew ?_|refine blk_alloc ?_ _));refine blk_far ?_ NB283_286.out _;(with_reducible repeat (first|refine blk_drewN ?_ _|refine blk_drew ?_|refine blk_alloc ?_ _));refine blk_far ?_ NB283_286.out _;(with_reducible repeat (first|refine blk_drewN ?_ _|refine blk_drew ?_|refine blk_alloc ?_ _));refine blk_far ?_ NB283_286.out _;(with_reducible repeat (first|refine blk_drewN ?_ _|refine blk_drew ?_|refine blk_alloc ?_ _));exact BK283.out):P:=h
theorem t13_ {P:Prop} (h:P:=by repeat (first|(with_reducible first|exact HB.out|apply below_alloc|apply pw_below_drewN|apply below_drew1|refine below_set ?_ GE283.out|refine below_set ?_ GE286.out)|exact HB.out)):P:=h
theorem t14_ {P:Prop} (h:P:=by repeat (first|exact Drawn0.refl _|apply Drawn0.step)):P:=h
theorem t15_ {P:Prop} (h:P:=by repeat (first|(with_reducible first|exact HB.out|apply below_alloc|apply pw_below_drewN|apply below_drew1|refine below_set ?_ GE137.out)|exact HB.out)):P:=h
theorem t16_ {P:Prop} (h:P:=by kernel_rfl):P:=h
theorem t17_ {P:Prop} (h:P:=by (with_reducible repeat (first|refine blk_drewN ?_ _|refine blk_drew ?_|refine blk_alloc ?_ _));refine blk_far ?_ NB308_314.out _;(with_reducible repeat (first|refine blk_drewN ?_ _|refine blk_drew ?_|refine blk_alloc ?_ _));refine blk_far ?_ NB308_314.out _;(with_reducible repeat (first|refine blk_drewN ?_ _|refine blk_drew ?_|refine blk_alloc ?_ _));refine blk_far ?_ NB308_314.out _;(with_reducible repeat (first|refine blk_drewN ?_ _|refine blk_drew ?_|refine blk_alloc ?_ _));refine blk_far ?_ NB308_314.out _;(with_reducible repeat (first|refine blk_drewN ?_ _|refine blk_drew ?_|refine blk_alloc ?_ _));refine blk_far ?_ NB308_314.out _;(with_reducible repeat (first|refine blk_drewN ?_ _|refine blk_drew ?_|refine blk_alloc ?_ _));refine blk_far ?_ NB308_314.out _;(with_reducible repeat (first|refine blk_drewN ?_ _|refine blk_drew ?_|refine blk_alloc ?_ _));exact BK308.out):P:=h
theorem t18_ {P:Prop} (h:P:=by repeat (first|(with_reducible first|exact HB.out|apply below_alloc|apply pw_below_drewN|apply below_drew1|refine below_set ?_ GE308.out)|exact HB.out)):P:=h
theorem t19_ {P:Prop} (h:P:=by repeat (first|(with_reducible first|exact HB.out|apply below_alloc|apply pw_below_drewN|apply below_drew1|refine below_set ?_ GE298.out)|exact HB.out)):P:=h
theorem t20_ {P:Prop} (h:P:=by repeat (first|(with_reducible first|exact HB.out|apply below_alloc|apply pw_below_drewN|apply below_drew1|refine below_set ?_ GE308.out|refine below_set ?_ GE314.out)|exact HB.out)):P:=h
theorem t21_ {P:Prop} (h:P:=by (with_reducible repeat (first|apply Kd.R_alloc|apply Kd.R_drewN|apply Kd.R_drew));exact Kd.R_mono (Kd.R_far (p:=⟨gb314,5,none⟩) (Kd.R_far (p:=⟨gb314,4,none⟩) (Kd.R_far (p:=⟨gb314,3,none⟩) (Kd.R_far (p:=⟨gb314,2,none⟩) (Kd.R_far (p:=⟨gb314,1,none⟩) (Kd.R_far (p:=⟨gb314,0,none⟩) (Kd.R_types HO_7.out BK314.out (by decide)) (fun _ hk=>hk.2) (.string ((rd_T80 l0_1 x24_2).f0))) (fun _ hk=>hk.2) (.int .i64 ((rd_T80 l0_1 x24_2).f1))) (fun _ hk=>hk.2) (.int .i64 ((rd_T80 l0_1 x24_2).f2))) (fun _ hk=>hk.2) (.int .i64 ((rd_T80 l0_1 x24_2).f3))) (fun _ hk=>hk.2) (.int .i64 ((rd_T80 l0_1 x24_2).f4))) (fun _ hk=>hk.2) (.int .i64 ((rd_T80 l0_1 x24_2).f5))) (fun _ hk=>trivial)):P:=h
theorem t22_ {P:Prop} (h:P:=by repeat (first|(with_reducible first|exact HB.out|apply below_alloc|apply pw_below_drewN|apply below_drew1|refine below_set ?_ GE142.out|refine below_set ?_ GE143.out)|exact HB.out)):P:=h
theorem t23_ {P:Prop} (h:P:=by omega):P:=h
theorem t24_ {P:Prop} (h:P:=by (with_reducible repeat (first|apply Kd.R_alloc|apply Kd.R_drewN|apply Kd.R_drew));exact HO_7.out):P:=h
theorem t25_ {P:Prop} (h:P:=by repeat (first|(with_reducible first|exact HB.out|apply below_alloc|apply pw_below_drewN|apply below_drew1|refine below_set ?_ GE142.out)|exact HB.out)):P:=h
theorem t26_ {P:Prop} (h:P:=by repeat (first|(with_reducible first|exact HB.out|apply below_alloc|apply pw_below_drewN|apply below_drew1|refine below_set ?_ GE137.out|refine below_set ?_ GE138.out)|exact HB.out)):P:=h
theorem t27_ {P:Prop} (h:P:=by repeat (first|(with_reducible first|exact HB.out|apply below_alloc|apply pw_below_drewN|apply below_drew1|refine below_set ?_ GE126.out|refine below_set ?_ GE127.out|refine below_set ?_ GE128.out)|exact HB.out)):P:=h
theorem t28_ {P:Prop} (h:P:=by (with_reducible repeat (first|refine blk_drewN ?_ _|refine blk_drew ?_|refine blk_alloc ?_ _));exact BK390.out):P:=h
theorem t29_ {P:Prop} (h:P:=by (with_reducible repeat (first|apply Kd.R_alloc|apply Kd.R_drewN|apply Kd.R_drew));exact Kd.R_mono HO382.out (fun _ hk=>⟨hk.1.1,hk.2⟩)):P:=h
theorem t30_ {P:Prop} (h:P:=by (with_reducible repeat (first|apply Kd.R_alloc|apply Kd.R_drewN|apply Kd.R_drew));exact Kd.R_mono HO379.out (fun _ hk=>⟨hk.1.1,hk.2⟩)):P:=h
theorem t31_ {P:Prop} (h:P:=by repeat (first|(with_reducible first|exact HB.out|apply below_alloc|apply pw_below_drewN|apply below_drew1|refine below_set ?_ GE323.out)|exact HB.out)):P:=h
theorem t32_ {P:Prop} (h:P:=by repeat (first|(with_reducible first|exact HB.out|apply below_alloc|apply pw_below_drewN|apply below_drew1|refine below_set ?_ GE270.out)|exact HB.out)):P:=h
theorem t33_ {P:Prop} (h:P:=by repeat (first|(with_reducible first|exact HB.out|apply below_alloc|apply pw_below_drewN|apply below_drew1|refine below_set ?_ GE104.out)|exact HB.out)):P:=h
theorem t34_ {P:Prop} (h:P:=by first|rfl|(simp [errW_none,errW_some]<;>rfl)|(simp [*,errW_none,errW_some]<;>rfl)):P:=h
theorem t35_ {P:Prop} (h:P:=by decide):P:=h
theorem t36_ {P:Prop} (h:P:=by repeat (first|(with_reducible first|exact HB.out|apply below_alloc|apply pw_below_drewN|apply below_drew1|refine below_set ?_ GE279.out)|exact HB.out)):P:=h
theorem t37_ {P:Prop} (h:P:=by (with_reducible repeat (first|refine blk_drewN ?_ _|refine blk_drew ?_|refine blk_alloc ?_ _));refine blk_put (cs:=#[.slice none 0 0]) ?_ 0 _ rfl;(with_reducible repeat (first|refine blk_drewN ?_ _|refine blk_drew ?_|refine blk_alloc ?_ _));exact BK383.out):P:=h
theorem t38_ {P:Prop} (h:P:=by repeat (first|(with_reducible first|exact HB.out|apply below_alloc|apply pw_below_drewN|apply below_drew1|refine below_set ?_ GE279.out|refine below_set ?_ GE280.out)|exact HB.out)):P:=h
theorem t39_ {P:Prop} (h:P:=by (with_reducible repeat (first|refine blk_drewN ?_ _|refine blk_drew ?_|refine blk_alloc ?_ _));exact BK308.out):P:=h
theorem t40_ {P:Prop} (h:P:=by (with_reducible repeat (first|refine blk_drewN ?_ _|refine blk_drew ?_|refine blk_alloc ?_ _));exact BK283.out):P:=h
theorem t41_ {P:Prop} (h:P:=by simp only [putAll,Act.put,List.setIfInBounds_toArray,List.set_cons_zero,List.set_cons_succ]):P:=h
theorem t42_ {P:Prop} (h:P:=by repeat (first|(with_reducible first|exact HB.out|apply below_alloc|apply pw_below_drewN|apply below_drew1|refine below_set ?_ GE264.out)|exact HB.out)):P:=h
theorem t43_ {P:Prop} (h:P:=by simp):P:=h
theorem t44_ {P:Prop} (h:P:=by repeat (first|exact (Kd.C_below HR176_1.out HB.out)|(with_reducible refine Kd.C_alloc ?_ _)|(with_reducible refine Kd.C_drewN ?_ _)|(with_reducible refine Kd.C_drew ?_))):P:=h
theorem t45_ {P:Prop} (h:P:=by first|omega|exact Nat.le_refl _):P:=h
theorem t46_ {P:Prop} (h:P:=by repeat (first|(with_reducible first|exact HB.out|apply below_alloc|apply pw_below_drewN|apply below_drew1|refine below_set ?_ GE386.out)|exact HB.out)):P:=h
theorem t47_ {P:Prop} (h:P:=by repeat (first|(with_reducible first|exact HB.out|apply below_alloc|apply pw_below_drewN|apply below_drew1|refine below_set ?_ GE295.out)|exact HB.out)):P:=h
theorem t48_ {P:Prop} (h:P:=by repeat (first|(with_reducible first|exact HB.out|apply below_alloc|apply pw_below_drewN|apply below_drew1|refine below_set ?_ GE292.out)|exact HB.out)):P:=h
theorem t49_ {P:Prop} (h:P:=by (with_reducible repeat (first|refine blk_drewN ?_ _|refine blk_drew ?_|refine blk_alloc ?_ _));exact BK417.out):P:=h
theorem t50_ {P:Prop} (h:P:=by have:=HK1.out;omega):P:=h
theorem t51_ {P:Prop} (h:P:=by repeat (first|(with_reducible first|exact HB.out|apply below_alloc|apply pw_below_drewN|apply below_drew1|refine below_set ?_ GE126.out|refine below_set ?_ GE127.out)|exact HB.out)):P:=h
theorem t52_ {P:Prop} (h:P:=by repeat (first|(with_reducible first|exact HB.out|apply below_alloc|apply pw_below_drewN|apply below_drew1|refine below_set ?_ GE112.out|refine below_set ?_ GE113.out)|exact HB.out)):P:=h
theorem t53_ {P:Prop} (h:P:=by repeat (first|exact (Kd.C_below HR0_1.out HB.out)|(with_reducible refine Kd.C_alloc ?_ _)|(with_reducible refine Kd.C_drewN ?_ _)|(with_reducible refine Kd.C_drew ?_))):P:=h
theorem t54_ {P:Prop} (h:P:=by repeat (first|exact (Kd.C_below HR0_0.out HB.out)|(with_reducible refine Kd.C_alloc ?_ _)|(with_reducible refine Kd.C_drewN ?_ _)|(with_reducible refine Kd.C_drew ?_))):P:=h
theorem t55_ {P:Prop} (h:P:=by (with_reducible repeat (first|apply Kd.R_alloc|apply Kd.R_drewN|apply Kd.R_drew));exact (Kd.R_mono (Kd.R_far (p:=⟨gb417,1,none⟩) (Kd.R_far (p:=⟨gb417,0,none⟩) (Kd.R_types HO413.out BK417.out t35_) (fun _ hk=>hk.2) (.slice Ao49 t411.length co49)) (fun _ hk=>hk.2) (.slice Ao52 t414.length co52)) (fun _ h_=>h_.1))):P:=h
theorem t56_ {P:Prop} (h:P:=by (with_reducible repeat (first|apply Kd.R_alloc|apply Kd.R_drewN|apply Kd.R_drew));exact (Kd.R_mono (Kd.R_far (p:=⟨gb417,1,none⟩) (Kd.R_far (p:=⟨gb417,0,none⟩) (Kd.R_types HO409.out BK417.out t35_) (fun _ hk=>hk.2) (.slice Ao49 t411.length co49)) (fun _ hk=>hk.2) (.slice Ao52 t414.length co52)) (fun _ h_=>h_.1))):P:=h
theorem t57_ {P:Prop} (h:P:=by (with_reducible repeat (first|apply Kd.R_alloc|apply Kd.R_drewN|apply Kd.R_drew));exact (Kd.R_mono (Kd.R_far (p:=⟨gb417,1,none⟩) (Kd.R_far (p:=⟨gb417,0,none⟩) (Kd.R_types HO406.out BK417.out t35_) (fun _ hk=>hk.2) (.slice Ao49 t411.length co49)) (fun _ hk=>hk.2) (.slice Ao52 t414.length co52)) (fun _ h_=>h_.1))):P:=h
theorem t58_ {P:Prop} (h:P:=by (with_reducible repeat (first|apply Kd.R_alloc|apply Kd.R_drewN|apply Kd.R_drew));exact (Kd.R_mono (Kd.R_far (p:=⟨gb417,1,none⟩) (Kd.R_far (p:=⟨gb417,0,none⟩) (Kd.R_types HO403.out BK417.out t35_) (fun _ hk=>hk.2) (.slice Ao49 t411.length co49)) (fun _ hk=>hk.2) (.slice Ao52 t414.length co52)) (fun _ h_=>h_.1))):P:=h
theorem t59_ {P:Prop} (h:P:=by (with_reducible repeat (first|apply Kd.R_alloc|apply Kd.R_drewN|apply Kd.R_drew));exact (Kd.R_mono (Kd.R_far (p:=⟨gb417,1,none⟩) (Kd.R_far (p:=⟨gb417,0,none⟩) (Kd.R_types HO400.out BK417.out t35_) (fun _ hk=>hk.2) (.slice Ao49 t411.length co49)) (fun _ hk=>hk.2) (.slice Ao52 t414.length co52)) (fun _ h_=>h_.1))):P:=h
theorem t60_ {P:Prop} (h:P:=by (with_reducible repeat (first|apply Kd.R_alloc|apply Kd.R_drewN|apply Kd.R_drew));exact (Kd.R_mono (Kd.R_far (p:=⟨gb417,1,none⟩) (Kd.R_far (p:=⟨gb417,0,none⟩) (Kd.R_types HO394.out BK417.out t35_) (fun _ hk=>hk.2) (.slice Ao49 t411.length co49)) (fun _ hk=>hk.2) (.slice Ao52 t414.length co52)) (fun _ h_=>h_.1))):P:=h
theorem t61_ {P:Prop} (h:P:=by repeat (first|(with_reducible first|exact HB.out|apply below_alloc|apply pw_below_drewN|apply below_drew1|refine below_set ?_ GE306.out)|exact HB.out)):P:=h
theorem t62_ {P:Prop} (h:P:=by repeat (first|(with_reducible first|exact HB.out|apply below_alloc|apply pw_below_drewN|apply below_drew1|refine below_set ?_ GE126.out)|exact HB.out)):P:=h
theorem t63_ {P:Prop} (h:P:=by repeat (first|(with_reducible first|exact HB.out|apply below_alloc|apply pw_below_drewN|apply below_drew1|refine below_set ?_ GE112.out)|exact HB.out)):P:=h
theorem t64_ {P:Prop} (h:P:=by have:=HK1.out;first|omega|exact Nat.le_refl _):P:=h
theorem t65_ {P:Prop} (h:P:=by (with_reducible repeat (first|apply Kd.R_alloc|apply Kd.R_drewN|apply Kd.R_drew));exact HO_12.out):P:=h
theorem t66_ {P:Prop} (h:P:=by (with_reducible repeat (first|apply Kd.R_alloc|apply Kd.R_drewN|apply Kd.R_drew));exact HO_3.out):P:=h
theorem t67_ {P:Prop} (h:P:=by rfl):P:=h
theorem t68_ {P:Prop} (h:P:=by (with_reducible repeat (first|refine blk_drewN ?_ _|refine blk_drew ?_|refine blk_alloc ?_ _));refine blk_far ?_ NB367_383.out _;(with_reducible repeat (first|refine blk_drewN ?_ _|refine blk_drew ?_|refine blk_alloc ?_ _));exact BK367.out):P:=h
theorem t69_ {P:Prop} (h:P:=by (with_reducible repeat (first|apply Kd.R_alloc|apply Kd.R_drewN|apply Kd.R_drew));exact (Kd.R_mono (Kd.R_far (p:=⟨gb383,0,none⟩) (Kd.R_types HO382.out BK383.out t35_) (fun _ hk=>hk.2) (.slice Ao44 t380.length co44)) (fun _ h_=>h_.1))):P:=h
theorem t70_ {P:Prop} (h:P:=by (with_reducible repeat (first|apply Kd.R_alloc|apply Kd.R_drewN|apply Kd.R_drew));exact (Kd.R_mono (Kd.R_far (p:=⟨gb383,0,none⟩) (Kd.R_types HO382.out BK383.out t35_) (fun _ hk=>hk.2) (.slice Ao30 t380.length co30)) (fun _ h_=>h_.1))):P:=h
theorem t71_ {P:Prop} (h:P:=by (with_reducible repeat (first|refine blk_drewN ?_ _|refine blk_drew ?_|refine blk_alloc ?_ _));exact BK298.out):P:=h
theorem t72_ {P:Prop} (h:P:=by (with_reducible repeat (first|apply Kd.V_alloc|apply Kd.V_drewN|apply Kd.V_drew));exact Kd.V_mono HO373.out (fun _ hk=>⟨hk.1.1.1.1.1,⟨hk.1.1.2,⟨hk.1.2,⟨hk.2,⟨hk.1.1.1.1.2,hk.1.1.1.2⟩⟩⟩⟩⟩)):P:=h
theorem t73_ {P:Prop} (h:P:=by (with_reducible repeat (first|apply Kd.V_alloc|apply Kd.V_drewN|apply Kd.V_drew));exact Kd.V_mono HO373.out (fun _ hk=>⟨hk.1.1.1.1.1,⟨hk.1.1.1.2,⟨hk.1.2,⟨hk.2,⟨hk.1.1.1.1.2,hk.1.1.2⟩⟩⟩⟩⟩)):P:=h
theorem t74_ {P:Prop} (h:P:=by (with_reducible repeat (first|apply Kd.V_alloc|apply Kd.V_drewN|apply Kd.V_drew));exact Kd.V_mono HO373.out (fun _ hk=>⟨hk.1.1.1.1.1,⟨hk.1.1.1.2,⟨hk.1.1.2,⟨hk.2,⟨hk.1.1.1.1.2,hk.1.2⟩⟩⟩⟩⟩)):P:=h
theorem t75_ {P:Prop} (h:P:=by (with_reducible repeat (first|apply Kd.V_alloc|apply Kd.V_drewN|apply Kd.V_drew));exact Kd.V_mono HO373.out (fun _ hk=>⟨hk.1.1.1.1.1,⟨hk.1.1.1.2,⟨hk.1.1.2,⟨hk.1.2,⟨hk.1.1.1.1.2,hk.2⟩⟩⟩⟩⟩)):P:=h
theorem t76_ {P:Prop} (h:P:=by (with_reducible repeat (first|apply Kd.V_alloc|apply Kd.V_drewN|apply Kd.V_drew));exact Kd.V_mono HO_3.out (fun _ hk=>⟨hk.1.1.1.1.1,⟨hk.1.1.2,⟨hk.1.2,⟨hk.2,⟨hk.1.1.1.1.2,hk.1.1.1.2⟩⟩⟩⟩⟩)):P:=h
theorem t77_ {P:Prop} (h:P:=by (with_reducible repeat (first|apply Kd.V_alloc|apply Kd.V_drewN|apply Kd.V_drew));exact Kd.V_mono HO_3.out (fun _ hk=>⟨hk.1.1.1.1.1,⟨hk.1.1.1.2,⟨hk.1.2,⟨hk.2,⟨hk.1.1.1.1.2,hk.1.1.2⟩⟩⟩⟩⟩)):P:=h
theorem t78_ {P:Prop} (h:P:=by (with_reducible repeat (first|apply Kd.V_alloc|apply Kd.V_drewN|apply Kd.V_drew));exact Kd.V_mono HO_3.out (fun _ hk=>⟨hk.1.1.1.1.1,⟨hk.1.1.1.2,⟨hk.1.1.2,⟨hk.2,⟨hk.1.1.1.1.2,hk.1.2⟩⟩⟩⟩⟩)):P:=h
theorem t79_ {P:Prop} (h:P:=by (with_reducible repeat (first|apply Kd.V_alloc|apply Kd.V_drewN|apply Kd.V_drew));exact Kd.V_mono HO_3.out (fun _ hk=>⟨hk.1.1.1.1.1,⟨hk.1.1.1.2,⟨hk.1.1.2,⟨hk.1.2,⟨hk.1.1.1.1.2,hk.2⟩⟩⟩⟩⟩)):P:=h
theorem t80_ {P:Prop} (h:P:=by (with_reducible repeat (first|apply Kd.V_alloc|apply Kd.V_drewN|apply Kd.V_drew));exact Kd.V_mono HO_2.out (fun _ hk=>⟨hk.1.1.1.1.1,⟨hk.1.1.2,⟨hk.1.2,⟨hk.2,⟨hk.1.1.1.1.2,hk.1.1.1.2⟩⟩⟩⟩⟩)):P:=h
theorem t81_ {P:Prop} (h:P:=by (with_reducible repeat (first|apply Kd.V_alloc|apply Kd.V_drewN|apply Kd.V_drew));exact Kd.V_mono HO_2.out (fun _ hk=>⟨hk.1.1.1.1.1,⟨hk.1.1.1.2,⟨hk.1.2,⟨hk.2,⟨hk.1.1.1.1.2,hk.1.1.2⟩⟩⟩⟩⟩)):P:=h
theorem t82_ {P:Prop} (h:P:=by (with_reducible repeat (first|apply Kd.V_alloc|apply Kd.V_drewN|apply Kd.V_drew));exact Kd.V_mono HO_2.out (fun _ hk=>⟨hk.1.1.1.1.1,⟨hk.1.1.1.2,⟨hk.1.1.2,⟨hk.2,⟨hk.1.1.1.1.2,hk.1.2⟩⟩⟩⟩⟩)):P:=h
theorem t83_ {P:Prop} (h:P:=by (with_reducible repeat (first|apply Kd.V_alloc|apply Kd.V_drewN|apply Kd.V_drew));exact Kd.V_mono HO_2.out (fun _ hk=>⟨hk.1.1.1.1.1,⟨hk.1.1.1.2,⟨hk.1.1.2,⟨hk.1.2,⟨hk.1.1.1.1.2,hk.2⟩⟩⟩⟩⟩)):P:=h
theorem t84_ {P:Prop} (h:P:=by (with_reducible repeat (first|apply Kd.R_alloc|apply Kd.R_drewN|apply Kd.R_drew));exact HO_418001.out):P:=h
theorem t85_ {P:Prop} (h:P:=by (with_reducible repeat (first|apply Kd.R_alloc|apply Kd.R_drewN|apply Kd.R_drew));exact HO_5.out):P:=h
theorem t86_ {P:Prop} (h:P:=by have:=HK1.out;have:=HK2.out;omega):P:=h
theorem t87_ {P:Prop} (h:P:=by (with_reducible repeat (first|apply Kd.N_alloc|apply Kd.N_drewN|apply Kd.N_drew));exact Kd.N_mono HO376.out (fun _ hk=>⟨hk.1.1.1.1,⟨hk.1.2,⟨hk.2,⟨hk.1.1.1.2,hk.1.1.2⟩⟩⟩⟩)):P:=h
theorem t88_ {P:Prop} (h:P:=by (with_reducible repeat (first|apply Kd.N_alloc|apply Kd.N_drewN|apply Kd.N_drew));exact Kd.N_mono HO376.out (fun _ hk=>⟨hk.1.1.1.1,⟨hk.1.1.2,⟨hk.2,⟨hk.1.1.1.2,hk.1.2⟩⟩⟩⟩)):P:=h
theorem t89_ {P:Prop} (h:P:=by (with_reducible repeat (first|apply Kd.N_alloc|apply Kd.N_drewN|apply Kd.N_drew));exact Kd.N_mono HO376.out (fun _ hk=>⟨hk.1.1.1.1,⟨hk.1.1.2,⟨hk.1.2,⟨hk.1.1.1.2,hk.2⟩⟩⟩⟩)):P:=h
theorem t90_ {P:Prop} (h:P:=by (with_reducible repeat (first|apply Kd.N_alloc|apply Kd.N_drewN|apply Kd.N_drew));exact Kd.N_mono HO376.out (fun _ hk=>⟨hk.1.1.1,⟨hk.1.2,⟨hk.2,⟨hk.1.1.2.1,hk.1.1.2.2⟩⟩⟩⟩)):P:=h



def errW:Option Int→Value
  |none=>.nilIface
  |some c=>.iface 0 (.int .i64 c)
theorem errW_none:errW none=.nilIface:=rfl
theorem errW_some (c:Int):errW (some c)=.iface 0 (.int .i64 c):=rfl

theorem info2:(Try.prog.info? 2).map (fun i=>(i.zero,i.size,i.bytes))=some (some (.int .i64 0),1,8):=by kernel_rfl
theorem info4:(Try.prog.info? 4).map (fun i=>(i.zero,i.size,i.bytes))=some (some (.bool false),1,1):=by kernel_rfl
theorem info22:(Try.prog.info? 22).map (fun i=>(i.zero,i.size,i.bytes))=some (some (.slice none 0 0),1,24):=by kernel_rfl
theorem info80:(Try.prog.info? 80).map (fun i=>(i.zero,i.size,i.bytes))=some (some (.agg #[(.string ⟨#[]⟩),(.int .i64 0),(.int .i64 0),(.int .i64 0),(.int .i64 0),(.int .i64 0)]),6,56):=by kernel_rfl
-- the values' own types
/-! #### struct type 99 -/
structure S99 where
  f0:ByteArray
  f1:Int
  f2:Int
  f3:Int
  f4:Int
  f5:Int
def z99:S99:=⟨(⟨#[]⟩:ByteArray),(0:Int),(0:Int),(0:Int),(0:Int),(0:Int)⟩
def k99:Kd S99:=Kd.iso (Kd.pair Kd.string (Kd.pair (Kd.int .i64) (Kd.pair (Kd.int .i64) (Kd.pair (Kd.int .i64) (Kd.pair (Kd.int .i64) (Kd.int .i64)))))) (fun x:S99=>(x.f0,x.f1,x.f2,x.f3,x.f4,x.f5))
theorem k99_heap:Kd.Heap k99:=Kd.heap_iso _ (Kd.heap_pair Kd.heap_string (Kd.heap_pair (Kd.heap_int .i64) (Kd.heap_pair (Kd.heap_int .i64) (Kd.heap_pair (Kd.heap_int .i64) (Kd.heap_pair (Kd.heap_int .i64) (Kd.heap_int .i64))))))
theorem k99_open {w:World} {x:S99} {cs:List Value} (h:k99.K w x cs):cs=[.string x.f0,.int .i64 x.f1,.int .i64 x.f2,.int .i64 x.f3,.int .i64 x.f4,.int .i64 x.f5]:=by
  obtain ⟨_,_,rfl,rfl,⟨_,_,rfl,rfl,⟨_,_,rfl,rfl,⟨_,_,rfl,rfl,⟨_,_,rfl,rfl,rfl⟩⟩⟩⟩⟩:=h;exact rfl
theorem k99_openM {w:World} {base:Nat} {ok:Nat→Prop} {x:S99} {cs:List Value} (h:k99.M w base ok x cs):cs=[.string x.f0,.int .i64 x.f1,.int .i64 x.f2,.int .i64 x.f3,.int .i64 x.f4,.int .i64 x.f5]:=by
  obtain ⟨_,_,rfl,rfl,⟨_,_,rfl,rfl,⟨_,_,rfl,rfl,⟨_,_,rfl,rfl,⟨_,_,rfl,rfl,rfl⟩⟩⟩⟩⟩:=h;exact rfl
theorem k99_mk (w:World) (x:S99):k99.K w x [.string x.f0,.int .i64 x.f1,.int .i64 x.f2,.int .i64 x.f3,.int .i64 x.f4,.int .i64 x.f5]:=⟨[.string x.f0],[.int .i64 x.f1,.int .i64 x.f2,.int .i64 x.f3,.int .i64 x.f4,.int .i64 x.f5],rfl,rfl,⟨[.int .i64 x.f1],[.int .i64 x.f2,.int .i64 x.f3,.int .i64 x.f4,.int .i64 x.f5],rfl,rfl,⟨[.int .i64 x.f2],[.int .i64 x.f3,.int .i64 x.f4,.int .i64 x.f5],rfl,rfl,⟨[.int .i64 x.f3],[.int .i64 x.f4,.int .i64 x.f5],rfl,rfl,⟨[.int .i64 x.f4],[.int .i64 x.f5],rfl,rfl,rfl⟩⟩⟩⟩⟩
theorem k99_mkM (w:World) (base:Nat) (ok:Nat→Prop) (x:S99):k99.M w base ok x [.string x.f0,.int .i64 x.f1,.int .i64 x.f2,.int .i64 x.f3,.int .i64 x.f4,.int .i64 x.f5]:=⟨[.string x.f0],[.int .i64 x.f1,.int .i64 x.f2,.int .i64 x.f3,.int .i64 x.f4,.int .i64 x.f5],rfl,rfl,⟨[.int .i64 x.f1],[.int .i64 x.f2,.int .i64 x.f3,.int .i64 x.f4,.int .i64 x.f5],rfl,rfl,⟨[.int .i64 x.f2],[.int .i64 x.f3,.int .i64 x.f4,.int .i64 x.f5],rfl,rfl,⟨[.int .i64 x.f3],[.int .i64 x.f4,.int .i64 x.f5],rfl,rfl,⟨[.int .i64 x.f4],[.int .i64 x.f5],rfl,rfl,rfl⟩⟩⟩⟩⟩
theorem k99_mkF (W:World) (ok:Nat→Prop) (x:S99):Kd.FK k99 W ok x [.string x.f0,.int .i64 x.f1,.int .i64 x.f2,.int .i64 x.f3,.int .i64 x.f4,.int .i64 x.f5]:=fun W2 _=>k99_mk W2 x
def rd_T99 (xs:List S99) (i:Int):S99:=xs.getD i.toNat z99
theorem at_T99 {w:World} {A:Option Addr} {n:Nat} {xs:List S99} (h:Kd.C k99 w A n xs) (i:Int) (U:0≤i) (X:i<n):∃ ad,A=some ad∧w.cell? (ad.add (i.toNat * 6))=some (.string (rd_T99 xs i).f0)∧w.cell? ⟨(ad.add (i.toNat * 6)).block,(ad.add (i.toNat * 6)).off+1,none⟩=some (.int .i64 (rd_T99 xs i).f1)∧w.cell? ⟨(ad.add (i.toNat * 6)).block,(ad.add (i.toNat * 6)).off+2,none⟩=some (.int .i64 (rd_T99 xs i).f2)∧w.cell? ⟨(ad.add (i.toNat * 6)).block,(ad.add (i.toNat * 6)).off+3,none⟩=some (.int .i64 (rd_T99 xs i).f3)∧w.cell? ⟨(ad.add (i.toNat * 6)).block,(ad.add (i.toNat * 6)).off+4,none⟩=some (.int .i64 (rd_T99 xs i).f4)∧w.cell? ⟨(ad.add (i.toNat * 6)).block,(ad.add (i.toNat * 6)).off+5,none⟩=some (.int .i64 (rd_T99 xs i).f5):=by
  obtain ⟨ad,c,e,_,hK,Y⟩:=Kd.C_get h z99 i U X;have hc:∀ j u,c[j]? =some u→w.cell? (ad.add (i.toNat * 6+j))=some u:=Y;obtain rfl:=k99_open hK;exact ⟨ad,e,hc 0 _ rfl,(by rw [← add_field _ _ 1 t23_];exact hc 1 _ rfl),(by rw [← add_field _ _ 2 t23_];exact hc 2 _ rfl),(by rw [← add_field _ _ 3 t23_];exact hc 3 _ rfl),(by rw [← add_field _ _ 4 t23_];exact hc 4 _ rfl),(by rw [← add_field _ _ 5 t23_];exact hc 5 _ rfl)⟩

/-! #### struct type 80 -/
structure S80 where
  f0:ByteArray
  f1:Int
  f2:Int
  f3:Int
  f4:Int
  f5:Int
def z80:S80:=⟨(⟨#[]⟩:ByteArray),(0:Int),(0:Int),(0:Int),(0:Int),(0:Int)⟩
def k80:Kd S80:=Kd.iso (Kd.pair Kd.string (Kd.pair (Kd.int .i64) (Kd.pair (Kd.int .i64) (Kd.pair (Kd.int .i64) (Kd.pair (Kd.int .i64) (Kd.int .i64)))))) (fun x:S80=>(x.f0,x.f1,x.f2,x.f3,x.f4,x.f5))
theorem k80_heap:Kd.Heap k80:=Kd.heap_iso _ (Kd.heap_pair Kd.heap_string (Kd.heap_pair (Kd.heap_int .i64) (Kd.heap_pair (Kd.heap_int .i64) (Kd.heap_pair (Kd.heap_int .i64) (Kd.heap_pair (Kd.heap_int .i64) (Kd.heap_int .i64))))))
theorem k80_open {w:World} {x:S80} {cs:List Value} (h:k80.K w x cs):cs=[.string x.f0,.int .i64 x.f1,.int .i64 x.f2,.int .i64 x.f3,.int .i64 x.f4,.int .i64 x.f5]:=by
  obtain ⟨_,_,rfl,rfl,⟨_,_,rfl,rfl,⟨_,_,rfl,rfl,⟨_,_,rfl,rfl,⟨_,_,rfl,rfl,rfl⟩⟩⟩⟩⟩:=h;exact rfl
theorem k80_openM {w:World} {base:Nat} {ok:Nat→Prop} {x:S80} {cs:List Value} (h:k80.M w base ok x cs):cs=[.string x.f0,.int .i64 x.f1,.int .i64 x.f2,.int .i64 x.f3,.int .i64 x.f4,.int .i64 x.f5]:=by
  obtain ⟨_,_,rfl,rfl,⟨_,_,rfl,rfl,⟨_,_,rfl,rfl,⟨_,_,rfl,rfl,⟨_,_,rfl,rfl,rfl⟩⟩⟩⟩⟩:=h;exact rfl
theorem k80_mk (w:World) (x:S80):k80.K w x [.string x.f0,.int .i64 x.f1,.int .i64 x.f2,.int .i64 x.f3,.int .i64 x.f4,.int .i64 x.f5]:=⟨[.string x.f0],[.int .i64 x.f1,.int .i64 x.f2,.int .i64 x.f3,.int .i64 x.f4,.int .i64 x.f5],rfl,rfl,⟨[.int .i64 x.f1],[.int .i64 x.f2,.int .i64 x.f3,.int .i64 x.f4,.int .i64 x.f5],rfl,rfl,⟨[.int .i64 x.f2],[.int .i64 x.f3,.int .i64 x.f4,.int .i64 x.f5],rfl,rfl,⟨[.int .i64 x.f3],[.int .i64 x.f4,.int .i64 x.f5],rfl,rfl,⟨[.int .i64 x.f4],[.int .i64 x.f5],rfl,rfl,rfl⟩⟩⟩⟩⟩
theorem k80_mkM (w:World) (base:Nat) (ok:Nat→Prop) (x:S80):k80.M w base ok x [.string x.f0,.int .i64 x.f1,.int .i64 x.f2,.int .i64 x.f3,.int .i64 x.f4,.int .i64 x.f5]:=⟨[.string x.f0],[.int .i64 x.f1,.int .i64 x.f2,.int .i64 x.f3,.int .i64 x.f4,.int .i64 x.f5],rfl,rfl,⟨[.int .i64 x.f1],[.int .i64 x.f2,.int .i64 x.f3,.int .i64 x.f4,.int .i64 x.f5],rfl,rfl,⟨[.int .i64 x.f2],[.int .i64 x.f3,.int .i64 x.f4,.int .i64 x.f5],rfl,rfl,⟨[.int .i64 x.f3],[.int .i64 x.f4,.int .i64 x.f5],rfl,rfl,⟨[.int .i64 x.f4],[.int .i64 x.f5],rfl,rfl,rfl⟩⟩⟩⟩⟩
theorem k80_mkF (W:World) (ok:Nat→Prop) (x:S80):Kd.FK k80 W ok x [.string x.f0,.int .i64 x.f1,.int .i64 x.f2,.int .i64 x.f3,.int .i64 x.f4,.int .i64 x.f5]:=fun W2 _=>k80_mk W2 x
def rd_T80 (xs:List S80) (i:Int):S80:=xs.getD i.toNat z80
theorem at_T80 {w:World} {A:Option Addr} {n:Nat} {xs:List S80} (h:Kd.C k80 w A n xs) (i:Int) (U:0≤i) (X:i<n):∃ ad,A=some ad∧w.cell? (ad.add (i.toNat * 6))=some (.string (rd_T80 xs i).f0)∧w.cell? ⟨(ad.add (i.toNat * 6)).block,(ad.add (i.toNat * 6)).off+1,none⟩=some (.int .i64 (rd_T80 xs i).f1)∧w.cell? ⟨(ad.add (i.toNat * 6)).block,(ad.add (i.toNat * 6)).off+2,none⟩=some (.int .i64 (rd_T80 xs i).f2)∧w.cell? ⟨(ad.add (i.toNat * 6)).block,(ad.add (i.toNat * 6)).off+3,none⟩=some (.int .i64 (rd_T80 xs i).f3)∧w.cell? ⟨(ad.add (i.toNat * 6)).block,(ad.add (i.toNat * 6)).off+4,none⟩=some (.int .i64 (rd_T80 xs i).f4)∧w.cell? ⟨(ad.add (i.toNat * 6)).block,(ad.add (i.toNat * 6)).off+5,none⟩=some (.int .i64 (rd_T80 xs i).f5):=by
  obtain ⟨ad,c,e,_,hK,Y⟩:=Kd.C_get h z80 i U X;have hc:∀ j u,c[j]? =some u→w.cell? (ad.add (i.toNat * 6+j))=some u:=Y;obtain rfl:=k80_open hK;exact ⟨ad,e,hc 0 _ rfl,(by rw [← add_field _ _ 1 t23_];exact hc 1 _ rfl),(by rw [← add_field _ _ 2 t23_];exact hc 2 _ rfl),(by rw [← add_field _ _ 3 t23_];exact hc 3 _ rfl),(by rw [← add_field _ _ 4 t23_];exact hc 4 _ rfl),(by rw [← add_field _ _ 5 t23_];exact hc 5 _ rfl)⟩

def rd_L4 (xs:List (List Int)) (i:Int):(List Int):=xs.getD i.toNat ([]:List Int)
theorem at_L4 {w:World} {A:Option Addr} {n:Nat} {xs:List (List Int)} (h:Kd.C (Kd.slice 2 (Kd.int .i64)) w A n xs) (i:Int) (U:0≤i) (X:i<n):∃ ad r s,A=some ad∧w.cell? (ad.add i.toNat)=some (.slice r (rd_L4 xs i).length s)∧(rd_L4 xs i).length≤s∧(Kd.int .i64).C w r (rd_L4 xs i).length (rd_L4 xs i):=by
  obtain ⟨ad,c,e,_,hK,Y⟩:=Kd.C_get h ([]:List Int) i U X;have hc:∀ j u,c[j]? =some u→w.cell? (ad.add (i.toNat * 1+j))=some u:=Y;obtain ⟨r,s,rfl,G,E⟩:=hK;exact ⟨ad,r,s,e,(by have hq:=hc 0 _ rfl;rwa [Nat.mul_one,Nat.add_zero] at hq),G,E⟩

def rd_L5 (xs:List (List S80)) (i:Int):(List S80):=xs.getD i.toNat ([]:List S80)
theorem at_L5 {w:World} {A:Option Addr} {n:Nat} {xs:List (List S80)} (h:Kd.C (Kd.slice 80 k80) w A n xs) (i:Int) (U:0≤i) (X:i<n):∃ ad r s,A=some ad∧w.cell? (ad.add i.toNat)=some (.slice r (rd_L5 xs i).length s)∧(rd_L5 xs i).length≤s∧k80.C w r (rd_L5 xs i).length (rd_L5 xs i):=by
  obtain ⟨ad,c,e,_,hK,Y⟩:=Kd.C_get h ([]:List S80) i U X;have hc:∀ j u,c[j]? =some u→w.cell? (ad.add (i.toNat * 1+j))=some u:=Y;obtain ⟨r,s,rfl,G,E⟩:=hK;exact ⟨ad,r,s,e,(by have hq:=hc 0 _ rfl;rwa [Nat.mul_one,Nat.add_zero] at hq),G,E⟩

/-! #### struct type 32 -/
structure S32 where
  f0:(List Int)
  f1:(List S80)
def z32:S32:=⟨([]:List Int),([]:List S80)⟩
def k32:Kd S32:=Kd.iso (Kd.pair (Kd.slice 2 (Kd.int .i64)) (Kd.slice 80 k80)) (fun x:S32=>(x.f0,x.f1))
theorem k32_heap:Kd.Heap k32:=Kd.heap_iso _ (Kd.heap_pair (Kd.heap_slice 2 (Kd.heap_int .i64)) (Kd.heap_slice 80 k80_heap))
theorem k32_open {w:World} {x:S32} {cs:List Value} (h:k32.K w x cs):∃ r s y D,cs=[.slice r x.f0.length s,.slice y x.f1.length D]∧x.f0.length≤s∧(Kd.int .i64).C w r x.f0.length x.f0∧x.f1.length≤D∧k80.C w y x.f1.length x.f1:=by
  obtain ⟨_,_,rfl,⟨r,s,rfl,G,E⟩,⟨y,D,rfl,J,I⟩⟩:=h;exact ⟨r,s,y,D,rfl,G,E,J,I⟩
theorem k32_openM {w:World} {base:Nat} {ok:Nat→Prop} {x:S32} {cs:List Value} (h:k32.M w base ok x cs):∃ L O,cs=[L,O]∧(Kd.int .i64).R 2 w base ok L x.f0∧k80.R 80 w base ok O x.f1:=by
  obtain ⟨_,_,rfl,⟨L,rfl,E⟩,⟨O,rfl,I⟩⟩:=h;exact ⟨L,O,rfl,E,I⟩
theorem k32_mk (w:World) (x:S32) {r:Option Addr} {s:Nat} (G:x.f0.length≤s) (E:(Kd.int .i64).C w r x.f0.length x.f0) {y:Option Addr} {D:Nat} (J:x.f1.length≤D) (I:k80.C w y x.f1.length x.f1):k32.K w x [.slice r x.f0.length s,.slice y x.f1.length D]:=⟨[.slice r x.f0.length s],[.slice y x.f1.length D],rfl,⟨r,s,rfl,G,E⟩,⟨y,D,rfl,J,I⟩⟩
theorem k32_mkM (w:World) (base:Nat) (ok:Nat→Prop) (x:S32) {L:Value} (E:(Kd.int .i64).R 2 w base ok L x.f0) {O:Value} (I:k80.R 80 w base ok O x.f1):k32.M w base ok x [L,O]:=⟨[L],[O],rfl,⟨L,rfl,E⟩,⟨O,rfl,I⟩⟩
theorem k32_openF {W:World} {ok:Nat→Prop} {x:S32} {cs:List Value} (h:Kd.FK k32 W ok x cs):∃ r s y D,cs=[.slice r x.f0.length s,.slice y x.f1.length D]∧x.f0.length≤s∧Kd.F (Kd.int .i64) W ok r x.f0.length x.f0∧x.f1.length≤D∧Kd.F k80 W ok y x.f1.length x.f1:=by
  obtain ⟨r,s,y,D,rfl,G,_,J,_⟩:=k32_open (Kd.FK_now h);exact ⟨r,s,y,D,rfl,G,(fun W' hW=>by obtain ⟨Z,a9,a6,aA,he,aD,aB,aE,aC⟩:=k32_open (h W' hW);injection (Option.some.inj (show some (Value.slice r x.f0.length s)=some (Value.slice Z x.f0.length a9) from congrArg (fun l=>l[0]?) he)) with ha_ _ _;rw [ha_];exact aB),J,(fun W' hW=>by obtain ⟨Z,a9,a6,aA,he,aD,aB,aE,aC⟩:=k32_open (h W' hW);injection (Option.some.inj (show some (Value.slice y x.f1.length D)=some (Value.slice a6 x.f1.length aA) from congrArg (fun l=>l[1]?) he)) with ha_ _ _;rw [ha_];exact aC)⟩
theorem k32_mkF (W:World) (ok:Nat→Prop) (x:S32) {r:Option Addr} {s:Nat} (G:x.f0.length≤s) (E:Kd.F (Kd.int .i64) W ok r x.f0.length x.f0) {y:Option Addr} {D:Nat} (J:x.f1.length≤D) (I:Kd.F k80 W ok y x.f1.length x.f1):Kd.FK k32 W ok x [.slice r x.f0.length s,.slice y x.f1.length D]:=fun W2 hW=>k32_mk W2 x G (E W2 hW) J (I W2 hW)
def rd_T32 (xs:List S32) (i:Int):S32:=xs.getD i.toNat z32
theorem at_T32 {w:World} {A:Option Addr} {n:Nat} {xs:List S32} (h:Kd.C k32 w A n xs) (i:Int) (U:0≤i) (X:i<n):∃ ad r s y D,A=some ad∧w.cell? (ad.add (i.toNat * 2))=some (.slice r (rd_T32 xs i).f0.length s)∧w.cell? ⟨(ad.add (i.toNat * 2)).block,(ad.add (i.toNat * 2)).off+1,none⟩=some (.slice y (rd_T32 xs i).f1.length D)∧(rd_T32 xs i).f0.length≤s∧(Kd.int .i64).C w r (rd_T32 xs i).f0.length (rd_T32 xs i).f0∧(rd_T32 xs i).f1.length≤D∧k80.C w y (rd_T32 xs i).f1.length (rd_T32 xs i).f1:=by
  obtain ⟨ad,c,e,_,hK,Y⟩:=Kd.C_get h z32 i U X;have hc:∀ j u,c[j]? =some u→w.cell? (ad.add (i.toNat * 2+j))=some u:=Y;obtain ⟨r,s,y,D,rfl,G,E,J,I⟩:=k32_open hK;exact ⟨ad,r,s,y,D,e,hc 0 _ rfl,(by rw [← add_field _ _ 1 t23_];exact hc 1 _ rfl),G,E,J,I⟩

def rd_L8 (xs:List (List S99)) (i:Int):(List S99):=xs.getD i.toNat ([]:List S99)
theorem at_L8 {w:World} {A:Option Addr} {n:Nat} {xs:List (List S99)} (h:Kd.C (Kd.slice 99 k99) w A n xs) (i:Int) (U:0≤i) (X:i<n):∃ ad r s,A=some ad∧w.cell? (ad.add i.toNat)=some (.slice r (rd_L8 xs i).length s)∧(rd_L8 xs i).length≤s∧k99.C w r (rd_L8 xs i).length (rd_L8 xs i):=by
  obtain ⟨ad,c,e,_,hK,Y⟩:=Kd.C_get h ([]:List S99) i U X;have hc:∀ j u,c[j]? =some u→w.cell? (ad.add (i.toNat * 1+j))=some u:=Y;obtain ⟨r,s,rfl,G,E⟩:=hK;exact ⟨ad,r,s,e,(by have hq:=hc 0 _ rfl;rwa [Nat.mul_one,Nat.add_zero] at hq),G,E⟩

/-! #### struct type 25 -/
structure S25 where
  f0:(List Int)
  f1:(List S99)
def z25:S25:=⟨([]:List Int),([]:List S99)⟩
def k25:Kd S25:=Kd.iso (Kd.pair (Kd.slice 2 (Kd.int .i64)) (Kd.slice 99 k99)) (fun x:S25=>(x.f0,x.f1))
theorem k25_heap:Kd.Heap k25:=Kd.heap_iso _ (Kd.heap_pair (Kd.heap_slice 2 (Kd.heap_int .i64)) (Kd.heap_slice 99 k99_heap))
theorem k25_open {w:World} {x:S25} {cs:List Value} (h:k25.K w x cs):∃ r s y D,cs=[.slice r x.f0.length s,.slice y x.f1.length D]∧x.f0.length≤s∧(Kd.int .i64).C w r x.f0.length x.f0∧x.f1.length≤D∧k99.C w y x.f1.length x.f1:=by
  obtain ⟨_,_,rfl,⟨r,s,rfl,G,E⟩,⟨y,D,rfl,J,I⟩⟩:=h;exact ⟨r,s,y,D,rfl,G,E,J,I⟩
theorem k25_openM {w:World} {base:Nat} {ok:Nat→Prop} {x:S25} {cs:List Value} (h:k25.M w base ok x cs):∃ L O,cs=[L,O]∧(Kd.int .i64).R 2 w base ok L x.f0∧k99.R 99 w base ok O x.f1:=by
  obtain ⟨_,_,rfl,⟨L,rfl,E⟩,⟨O,rfl,I⟩⟩:=h;exact ⟨L,O,rfl,E,I⟩
theorem k25_mk (w:World) (x:S25) {r:Option Addr} {s:Nat} (G:x.f0.length≤s) (E:(Kd.int .i64).C w r x.f0.length x.f0) {y:Option Addr} {D:Nat} (J:x.f1.length≤D) (I:k99.C w y x.f1.length x.f1):k25.K w x [.slice r x.f0.length s,.slice y x.f1.length D]:=⟨[.slice r x.f0.length s],[.slice y x.f1.length D],rfl,⟨r,s,rfl,G,E⟩,⟨y,D,rfl,J,I⟩⟩
theorem k25_mkM (w:World) (base:Nat) (ok:Nat→Prop) (x:S25) {L:Value} (E:(Kd.int .i64).R 2 w base ok L x.f0) {O:Value} (I:k99.R 99 w base ok O x.f1):k25.M w base ok x [L,O]:=⟨[L],[O],rfl,⟨L,rfl,E⟩,⟨O,rfl,I⟩⟩
theorem k25_openF {W:World} {ok:Nat→Prop} {x:S25} {cs:List Value} (h:Kd.FK k25 W ok x cs):∃ r s y D,cs=[.slice r x.f0.length s,.slice y x.f1.length D]∧x.f0.length≤s∧Kd.F (Kd.int .i64) W ok r x.f0.length x.f0∧x.f1.length≤D∧Kd.F k99 W ok y x.f1.length x.f1:=by
  obtain ⟨r,s,y,D,rfl,G,_,J,_⟩:=k25_open (Kd.FK_now h);exact ⟨r,s,y,D,rfl,G,(fun W' hW=>by obtain ⟨Z,a9,a6,aA,he,aD,aB,aE,aC⟩:=k25_open (h W' hW);injection (Option.some.inj (show some (Value.slice r x.f0.length s)=some (Value.slice Z x.f0.length a9) from congrArg (fun l=>l[0]?) he)) with ha_ _ _;rw [ha_];exact aB),J,(fun W' hW=>by obtain ⟨Z,a9,a6,aA,he,aD,aB,aE,aC⟩:=k25_open (h W' hW);injection (Option.some.inj (show some (Value.slice y x.f1.length D)=some (Value.slice a6 x.f1.length aA) from congrArg (fun l=>l[1]?) he)) with ha_ _ _;rw [ha_];exact aC)⟩
theorem k25_mkF (W:World) (ok:Nat→Prop) (x:S25) {r:Option Addr} {s:Nat} (G:x.f0.length≤s) (E:Kd.F (Kd.int .i64) W ok r x.f0.length x.f0) {y:Option Addr} {D:Nat} (J:x.f1.length≤D) (I:Kd.F k99 W ok y x.f1.length x.f1):Kd.FK k25 W ok x [.slice r x.f0.length s,.slice y x.f1.length D]:=fun W2 hW=>k25_mk W2 x G (E W2 hW) J (I W2 hW)
def rd_T25 (xs:List S25) (i:Int):S25:=xs.getD i.toNat z25
theorem at_T25 {w:World} {A:Option Addr} {n:Nat} {xs:List S25} (h:Kd.C k25 w A n xs) (i:Int) (U:0≤i) (X:i<n):∃ ad r s y D,A=some ad∧w.cell? (ad.add (i.toNat * 2))=some (.slice r (rd_T25 xs i).f0.length s)∧w.cell? ⟨(ad.add (i.toNat * 2)).block,(ad.add (i.toNat * 2)).off+1,none⟩=some (.slice y (rd_T25 xs i).f1.length D)∧(rd_T25 xs i).f0.length≤s∧(Kd.int .i64).C w r (rd_T25 xs i).f0.length (rd_T25 xs i).f0∧(rd_T25 xs i).f1.length≤D∧k99.C w y (rd_T25 xs i).f1.length (rd_T25 xs i).f1:=by
  obtain ⟨ad,c,e,_,hK,Y⟩:=Kd.C_get h z25 i U X;have hc:∀ j u,c[j]? =some u→w.cell? (ad.add (i.toNat * 2+j))=some u:=Y;obtain ⟨r,s,y,D,rfl,G,E,J,I⟩:=k25_open hK;exact ⟨ad,r,s,y,D,e,hc 0 _ rfl,(by rw [← add_field _ _ 1 t23_];exact hc 1 _ rfl),G,E,J,I⟩

/-- A region's marks: the first a of n operations are behind. -/
def tf (a n:Nat):Array Bool:=(List.replicate a true++List.replicate (n - a) false).toArray
/-- The same, by the bits of a number. -/
def tb (n m:Nat):Array Bool:=((List.range n).map m.testBit).toArray
section
variable {P:Program} {ops:Array Oper} {Q:Exit→Act→World→Prop} {md:Region.Mode} {S:World→Prop} {ds:List Nat} {T:Bool × List (List Nat × List Nat)} {B:List Nat} {oi:Oper} {v:Value} {fuel:Nat} {l:Array Bool} {a a':Act} {w:World}
/-- pure_, its small parts found by themselves. -/
theorem px (i:Nat) (N:Option Tmp) (l':Array Bool) (HT:Aside0 (rtab md ops=T)) (h:wpAnyLast P md ops Q S ds fuel l' a' w) (hi:ops[i]? =some oi:=by rfl) (hN:oi.dst=N:=by rfl) (hc:anyT T l.toList l'.toList i=true:=by kernel_rfl) (hQ:∀ c a w,Q (.panic c) (a.put oi.dst v) w→Q (.panic c) a w:=by exact fun _ _ _ h=>h) (hg:Region.wanted oi (yielded ops a.tmps)=true:=by rfl) (hx:∀ w',(execOp a.eval oi).run P w'=.ok (.value v) w':=by intro w';go_simp;with_reducible rfl) (ha:a.put N v=a':=by simp only [Act.put,List.setIfInBounds_toArray,List.set_cons_zero,List.set_cons_succ,i64_w,i32_w];rfl):wpAnyLast P md ops Q S ds (fuel+1) l a w:=
  pure_ l' hi hN (any_of HT.out hc) hQ (Or.inl ⟨hg,hx⟩) ha h
/-- The same for what isn't wanted. -/
theorem sx (i:Nat) (N:Option Tmp) (l':Array Bool) (HT:Aside0 (rtab md ops=T)) (h:wpAnyLast P md ops Q S ds fuel l' a' w) (hi:ops[i]? =some oi:=by rfl) (hN:oi.dst=N:=by rfl) (hc:anyT T l.toList l'.toList i=true:=by kernel_rfl) (hQ:∀ c a w,Q (.panic c) (a.put oi.dst undef) w→Q (.panic c) a w:=by exact fun _ _ _ h=>h) (hg:Region.wanted oi (yielded ops a.tmps)=false:=by rfl) (ha:a.put N undef=a':=by simp only [Act.put,List.setIfInBounds_toArray,List.set_cons_zero,List.set_cons_succ,i64_w,i32_w];rfl):wpAnyLast P md ops Q S ds (fuel+1) l a w:=
  pure_ l' hi hN (any_of HT.out hc) hQ (Or.inr ⟨hg,rfl⟩) ha h
/-- take_, the same. -/
theorem tx (i:Nat) (N:Option Tmp) (l':Array Bool) (HT:Aside0 (rtab md ops=T)) (HW:Aside0 (waitsOk T.2 B=true)) (hS:S w) (hx:∀ w',S w'→(execOp a.eval oi).run P w'=.ok (.value v) w') (h:wpAnyLast P md ops Q S ds fuel l' a' w) (hi:ops[i]? =some oi:=by rfl) (hN:oi.dst=N:=by rfl) (hc:takeW T B ds l.toList l'.toList i=true:=by kernel_rfl) (hQ:∀ c a w,Q (.panic c) (a.put oi.dst v) w→Q (.panic c) a w:=by exact fun _ _ _ h=>h) (hg:Region.wanted oi (yielded ops a.tmps)=true:=by rfl) (ha:a.put N v=a':=by simp only [Act.put,List.setIfInBounds_toArray,List.set_cons_zero,List.set_cons_succ,i64_w,i32_w];rfl):wpAnyLast P md ops Q S ds (fuel+1) l a w:=
  take_ l' hi hN (take_ofW HT.out HW.out hc) hQ (Or.inl ⟨hg,hx⟩) hS ha h
end
theorem Kd.C_one {α:Type} {d:Kd α} {w:World} {ad:Addr} {x:α} {c:List Value} (hK:d.K w x c) (hc:∀ j u,c[j]? =some u→w.cell? (ad.add j)=some u):Kd.C d w (some ad) [x].length [x]:=
  ⟨rfl,t43_,fun _=>⟨ad,rfl,fun j p hj=>by
    cases j with
    |succ j=>simp at hj
    |zero=>
      have e:x=p:=by simpa using hj
      subst e
      exact ⟨c,d.K_len hK,hK,fun i u hu=>by rw [Nat.zero_mul,Nat.zero_add];exact hc i u hu⟩⟩⟩
theorem cells_blk {w:World} {g:Nat} {t:TypeId} {cs:Array Value} (h:w.heap[g]? =some (.cells cs t (0,0))):∀ j u,cs.toList[j]? =some u→w.cell? ((⟨g,0,none⟩:Addr).add j)=some u:=by
  intro j u hu;have e:(⟨g,0,none⟩:Addr).add j=⟨g,j,none⟩:=(by unfold Addr.add;split<;>simp_all);rw [e,blk_cell h];simpa using hu
theorem Kd.C_sub {α:Type} {d:Kd α} {w:World} {ad:Addr} {n:Nat} {xs:List α} {z:α} {i:Int} (h:Kd.C d w (some ad) n xs) (U:0≤i) (X:i<n):Kd.C d w (some (ad.add (i.toNat * d.sz))) [xs.getD i.toNat z].length [xs.getD i.toNat z]:=by
  obtain ⟨ad',c,e,hl,hK,hc⟩:=Kd.C_get h z i U X;cases e;exact Kd.C_one hK (fun j u hu=>by
    have h2:=hc j u hu
    have e:(ad.add (i.toNat * d.sz)).add j=ad.add (i.toNat * d.sz+j):=by
      unfold Addr.add
      by_cases hi:i.toNat * d.sz=0<;>by_cases hj:j=0<;>simp [hi,hj,Nat.add_assoc]
    rw [e];exact h2)
/-- One of two. -/
def pk_ {α:Type} (i:Int) (a b:α):α:=if i=0 then a else b
/-- The binary search of sort.Search. -/
def searchO (p:Int→Option Bool):Nat→Int→Int→Option Int
  |0,_,_=>none
  |n+1,i,j=>if i<j then (p ((i+j) / 2)).bind fun b=>if b=true then searchO p n i ((i+j) / 2) else searchO p n ((i+j) / 2+1) j else some i
theorem searchO_mono {p q:Int→Option Bool} (h:∀ x,LeO (p x) (q x)):∀ n i j,LeO (searchO p n i j) (searchO q (n+1) i j)
  |0,_,_=>LeO.none _
  |n+1,i,j=>by
    show LeO (if i<j then _ else _) (if i<j then _ else _)
    exact LeO.ite (LeO.bind (h _) (fun _=>LeO.ite (searchO_mono h n i _) (searchO_mono h n _ j))) (LeO.refl _)
def firstO (p:Int→Option Bool) (k:Nat) (low high:Int):Option (Int × Bool):=if wrap64 (wrap64 (high - low)+1)≤2305843009213693952 then (searchO (fun i=>p (wrap64 (low+i))) k 0 (wrap64 (wrap64 (high - low)+1))).bind fun q=>some (wrap64 (low+q),decide (q<wrap64 (wrap64 (high - low)+1))) else none
theorem firstO_mono {p q:Int→Option Bool} (h:∀ x,LeO (p x) (q x)) (k:Nat) (low high:Int):LeO (firstO p k low high) (firstO q (k+1) low high):=
  LeO.ite (LeO.bind (searchO_mono (fun _=>h _) k _ _) (fun _=>LeO.refl _)) (LeO.refl _)

end Go.Proofs.Ytjelfhmgbhidnaa.PFnExactKeepsServed
