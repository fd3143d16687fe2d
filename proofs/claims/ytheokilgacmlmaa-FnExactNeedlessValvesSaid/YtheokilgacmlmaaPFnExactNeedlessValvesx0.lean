-- written by wip/xprint.py, a program of this session, for this claim; not trusted: Lean checks it.
import Derived.Test.YtheokilgacmlmaaProg
import Derived.Below
import Derived.Deep.Draws
import Derived.Deep.AppendLies
import Derived.Maps.AppendAt
import Derived.OwnWalk
import Derived.Laws.BytesArg
import Derived.Laws.MakeOwn
import Derived.Laws.OwnMore
import Derived.Deep.OwnRows
import Derived.Tactics
import Derived.Lib.ConvBytes
import Derived.Deep.RegionLaw
import Derived.Laws.Slices
import Derived.WalkKit
import Derived.KernelRfl
import Derived.RowKit3
import Derived.Deep.LoopGhost
import Derived.Deep.QuietTactic
import Derived.BigQuiet
import Derived.WideLaws
import Derived.Deep.DeepCutAuto
import Derived.Deep.CutBlock
import Derived.Deep.RegionHeld3
import Derived.Laws.Rows
import Derived.Lib.AppendStr
import Derived.ArgAppend
import Derived.Laws.IdiomCopy
import Derived.OrdersHeld
import Derived.Laws.BitsLemmas
import Derived.RowKit
import Derived.Laws.Cover1
import Derived.Lib.Walk
import Derived.Shelf.Abstract
import Derived.WalkSpells
import Derived.Test.YtheokilgacmlmaaPFnExactNeedlessValvesw
namespace Go.Proofs.Ytheokilgacmlmaa.PFnExactNeedlessValves
open Go.RowKit Go.Proofs.YtheokilgacmlmaaW.PrintWords Go.Proofs.YtheokilgacmlmaaW.PrintLast Go.Proofs.YtheokilgacmlmaaW.PrintMore
attribute [local go_sem] leq_less_ max2_int min2_int max_two min_two max_three min_three max_four min_four   -- for this text's walks alone
set_option linter.unusedVariables false
set_option linter.unusedSimpArgs false
-- proofs that stand many times, told once (the proof is the default of h)
set_option maxHeartbeats 8000000
set_option maxRecDepth 100000
theorem q1_ {P Q:Prop} (h:Q) (f:Q→P:=by (intro h_;(with_reducible repeat (first|refine blk_drewN ?_ _|refine blk_drew ?_|refine blk_alloc ?_ _));exact h_)):P:=f h
theorem q2_ {P Q:Prop} (h:Q) (f:Q→P:=by (intro h_;(with_reducible repeat (first|apply Kd.R_alloc|apply Kd.R_drewN|apply Kd.R_drew));exact h_)):P:=f h
theorem dd_ {P:Prop} (h:P:=by first|exact ⟨rfl,_,World.drewN_drewN _ _ _⟩|exact ⟨rfl,_,Eq.trans (World.drewN_drewN _ _ _) (congrArg (World.drewN _) (Nat.add_assoc _ _ _))⟩):P:=h
theorem hb_ {w w':World} {p:Addr} {v:Value} (HB:Aside0 (Below w.heap.size w w')) (h:w.cell? p=some v):w'.cell? p=some v:=(HB.out.cell (World.block_lt_of_cell? w _ h)).trans h
theorem za_ (a:Addr) (n:Nat):a.add (((0:Int)).toNat * n)=a:=by rw [show ((0:Int)).toNat=0 from rfl,Nat.zero_mul];exact Addr.add_zero' a
theorem a_ {p:Prop} (h:p):Aside0 p:=⟨h⟩
theorem be_ {α β:Type} {o:Option α} {f:α→Option β} {b:β} (h:o.bind f=some b):∃ a,o=some a∧f a=some b:=Option.bind_eq_some_iff.mp h
theorem od_ {p:Prop} [Decidable p] (h:decide p=true:=by first|(with_reducible assumption)|assumption):p:=of_decide_eq_true h
theorem b1_ {α:Type} [BEq α] [LawfulBEq α] {a b:α} (h:a=b):(a==b)=true:=beq_iff_eq.mpr h
theorem b2_ {α:Type} [BEq α] [LawfulBEq α] {a b:α} (h:¬ a=b):(a==b)=false:=beq_eq_false_iff_ne.mpr h
theorem b3_ {α:Type} [BEq α] [LawfulBEq α] {a b:α} (h:¬ a=b):(a !=b)=true:=bne_iff_ne.mpr h
theorem b4_ {α:Type} [BEq α] [LawfulBEq α] {a b:α} (h:a=b):(a !=b)=false:=bne_eq_false_iff_eq.mpr h
theorem d1_ {p:Prop} [Decidable p] (h:p):decide p=true:=decide_eq_true h
theorem d2_ {p:Prop} [Decidable p] (h:¬ p):decide p=false:=decide_eq_false h
theorem bc1_ {w:World} {g:Nat} {t:TypeId} {Y:Value} (h:w.heap[g]? =some (.cells #[Y] t (0,0))):w.cell? ⟨g,0,none⟩=some Y∧w.frozen? ⟨g,0,none⟩=false:=⟨(blk_cell h 0).trans rfl,blk_frozen h 0⟩
theorem bc2_ {w:World} {g:Nat} {t:TypeId} {Y Z:Value} (h:w.heap[g]? =some (.cells #[Y,Z] t (0,0))):w.cell? ⟨g,0,none⟩=some Y∧w.cell? ⟨g,1,none⟩=some Z∧w.frozen? ⟨g,0,none⟩=false∧w.frozen? ⟨g,1,none⟩=false:=⟨(blk_cell h 0).trans rfl,(blk_cell h 1).trans rfl,blk_frozen h 0,blk_frozen h 1⟩
theorem bc3_ {w:World} {g:Nat} {t:TypeId} {Y Z a2:Value} (h:w.heap[g]? =some (.cells #[Y,Z,a2] t (0,0))):w.cell? ⟨g,0,none⟩=some Y∧w.cell? ⟨g,1,none⟩=some Z∧w.cell? ⟨g,2,none⟩=some a2∧w.frozen? ⟨g,0,none⟩=false∧w.frozen? ⟨g,1,none⟩=false∧w.frozen? ⟨g,2,none⟩=false:=⟨(blk_cell h 0).trans rfl,(blk_cell h 1).trans rfl,(blk_cell h 2).trans rfl,blk_frozen h 0,blk_frozen h 1,blk_frozen h 2⟩
theorem bc6_ {w:World} {g:Nat} {t:TypeId} {Y Z a2 a3 a4 a5:Value} (h:w.heap[g]? =some (.cells #[Y,Z,a2,a3,a4,a5] t (0,0))):w.cell? ⟨g,0,none⟩=some Y∧w.cell? ⟨g,1,none⟩=some Z∧w.cell? ⟨g,2,none⟩=some a2∧w.cell? ⟨g,3,none⟩=some a3∧w.cell? ⟨g,4,none⟩=some a4∧w.cell? ⟨g,5,none⟩=some a5∧w.frozen? ⟨g,0,none⟩=false∧w.frozen? ⟨g,1,none⟩=false∧w.frozen? ⟨g,2,none⟩=false∧w.frozen? ⟨g,3,none⟩=false∧w.frozen? ⟨g,4,none⟩=false∧w.frozen? ⟨g,5,none⟩=false:=⟨(blk_cell h 0).trans rfl,(blk_cell h 1).trans rfl,(blk_cell h 2).trans rfl,(blk_cell h 3).trans rfl,(blk_cell h 4).trans rfl,(blk_cell h 5).trans rfl,blk_frozen h 0,blk_frozen h 1,blk_frozen h 2,blk_frozen h 3,blk_frozen h 4,blk_frozen h 5⟩
theorem qc_ {P Q:Prop} (h:Q) (f:Q→P:=by (intro h_;repeat (first|exact h_|(with_reducible refine Kd.C_alloc ?_ _)|(with_reducible refine Kd.C_drewN ?_ _)|(with_reducible refine Kd.C_drew ?_)))):P:=f h
theorem t1_ {P:Prop} (h:P:=by repeat (first|(with_reducible first|exact HB.out|apply below_alloc|apply pw_below_drewN|apply below_drew1)|exact HB.out)):P:=h
theorem t2_ {P:Prop} (h:P:=by (try simp only [List.map_toArray,List.map_cons,List.map_nil]);first|done|rfl|(simp only [List.length_drop,List.length_take];rfl)):P:=h
theorem t3_ {P:Prop} (h:P:=by first|rfl|(rw [Int.tdiv_eq_ediv_of_nonneg (by omega)];rfl)|(simp [errW_none,errW_some]<;>rfl)|(simp [*,errW_none,errW_some]<;>rfl)):P:=h
theorem t4_ {P:Prop} (h:P:=by repeat (first|(with_reducible first|exact HK.out|apply Kept.alloc|apply Kept.drewN|apply Kept.drew)|exact HK.out)):P:=h
theorem t5_ {P:Prop} (h:P:=by first|rfl|(simp;done)|(simp [*];done)):P:=h
theorem t6_ {P:Prop} (h:P:=by repeat (first|(with_reducible first|exact HB.out|apply below_alloc|apply pw_below_drewN|apply below_drew1|refine below_set ?_ GE472.out|refine below_set ?_ GE494.out)|exact HB.out)):P:=h
theorem t7_ {P:Prop} (h:P:=by (with_reducible repeat (first|refine blk_drewN ?_ _|refine blk_drew ?_|refine blk_alloc ?_ _));refine blk_put (cs:=#[.string ((rd_T100 l0_1 x30_2).f0),.int .i64 ((rd_T100 l0_1 x30_2).f1),.int .i64 ((rd_T100 l0_1 x30_2).f2),.int .i64 ((rd_T100 l0_1 x30_2).f3),.int .i64 ((rd_T100 l0_1 x30_2).f4),.int .i64 0]) ?_ 5 _ rfl;(with_reducible repeat (first|refine blk_drewN ?_ _|refine blk_drew ?_|refine blk_alloc ?_ _));refine blk_put (cs:=#[.string ((rd_T100 l0_1 x30_2).f0),.int .i64 ((rd_T100 l0_1 x30_2).f1),.int .i64 ((rd_T100 l0_1 x30_2).f2),.int .i64 ((rd_T100 l0_1 x30_2).f3),.int .i64 0,.int .i64 0]) ?_ 4 _ rfl;(with_reducible repeat (first|refine blk_drewN ?_ _|refine blk_drew ?_|refine blk_alloc ?_ _));refine blk_put (cs:=#[.string ((rd_T100 l0_1 x30_2).f0),.int .i64 ((rd_T100 l0_1 x30_2).f1),.int .i64 ((rd_T100 l0_1 x30_2).f2),.int .i64 0,.int .i64 0,.int .i64 0]) ?_ 3 _ rfl;(with_reducible repeat (first|refine blk_drewN ?_ _|refine blk_drew ?_|refine blk_alloc ?_ _));refine blk_put (cs:=#[.string ((rd_T100 l0_1 x30_2).f0),.int .i64 ((rd_T100 l0_1 x30_2).f1),.int .i64 0,.int .i64 0,.int .i64 0,.int .i64 0]) ?_ 2 _ rfl;(with_reducible repeat (first|refine blk_drewN ?_ _|refine blk_drew ?_|refine blk_alloc ?_ _));refine blk_put (cs:=#[.string ((rd_T100 l0_1 x30_2).f0),.int .i64 0,.int .i64 0,.int .i64 0,.int .i64 0,.int .i64 0]) ?_ 1 _ rfl;(with_reducible repeat (first|refine blk_drewN ?_ _|refine blk_drew ?_|refine blk_alloc ?_ _));refine blk_put (cs:=#[.string (⟨#[]⟩:ByteArray),.int .i64 0,.int .i64 0,.int .i64 0,.int .i64 0,.int .i64 0]) ?_ 0 _ rfl;(with_reducible repeat (first|refine blk_drewN ?_ _|refine blk_drew ?_|refine blk_alloc ?_ _));exact BK352.out):P:=h
theorem t8_ {P:Prop} (h:P:=by repeat (first|(with_reducible first|exact HB.out|apply below_alloc|apply pw_below_drewN|apply below_drew1|refine below_set ?_ GE282.out)|exact HB.out)):P:=h
theorem t9_ {P:Prop} (h:P:=by repeat (first|(with_reducible first|exact HB.out|apply below_alloc|apply pw_below_drewN|apply below_drew1|refine below_set ?_ GE373.out|refine below_set ?_ GE376.out)|exact HB.out)):P:=h
theorem t10_ {P:Prop} (h:P:=by repeat (first|(with_reducible first|exact HB.out|apply below_alloc|apply pw_below_drewN|apply below_drew1|refine below_set ?_ GE349.out)|exact HB.out)):P:=h
theorem t11_ {P:Prop} (h:P:=by (with_reducible repeat (first|refine blk_drewN ?_ _|refine blk_drew ?_|refine blk_alloc ?_ _));refine blk_far ?_ NB349_352.out _;(with_reducible repeat (first|refine blk_drewN ?_ _|refine blk_drew ?_|refine blk_alloc ?_ _));refine blk_far ?_ NB349_352.out _;(with_reducible repeat (first|refine blk_drewN ?_ _|refine blk_drew ?_|refine blk_alloc ?_ _));refine blk_far ?_ NB349_352.out _;(with_reducible repeat (first|refine blk_drewN ?_ _|refine blk_drew ?_|refine blk_alloc ?_ _));refine blk_far ?_ NB349_352.out _;(with_reducible repeat (first|refine blk_drewN ?_ _|refine blk_drew ?_|refine blk_alloc ?_ _));refine blk_far ?_ NB349_352.out _;(with_reducible repeat (first|refine blk_drewN ?_ _|refine blk_drew ?_|refine blk_alloc ?_ _));refine blk_far ?_ NB349_352.out _;(with_reducible repeat (first|refine blk_drewN ?_ _|refine blk_drew ?_|refine blk_alloc ?_ _));exact BK349.out):P:=h
theorem t12_ {P:Prop} (h:P:=by repeat (first|(with_reducible first|exact HB.out|apply below_alloc|apply pw_below_drewN|apply below_drew1|refine below_set ?_ GE349.out|refine below_set ?_ GE352.out)|exact HB.out)):P:=h
theorem t13_ {P:Prop} (h:P:=by repeat (first|(with_reducible first|exact HB.out|apply below_alloc|apply pw_below_drewN|apply below_drew1|refine below_set ?_ GE151.out)|exact HB.out)):P:=h
theorem t14_ {P:Prop} (h:P:=by repeat (first|exact Drawn0.refl _|apply Drawn0.step)):P:=h
theorem t15_ {P:Prop} (h:P:=by kernel_rfl):P:=h
theorem t16_ {P:Prop} (h:P:=by repeat (first|(with_reducible first|exact HB.out|apply below_alloc|apply pw_below_drewN|apply below_drew1|refine below_set ?_ GE472.out)|exact HB.out)):P:=h
theorem t17_ {P:Prop} (h:P:=by repeat (first|(with_reducible first|exact HB.out|apply below_alloc|apply pw_below_drewN|apply below_drew1|refine below_set ?_ GE457.out|refine below_set ?_ GE458.out)|exact HB.out)):P:=h
theorem t18_ {P:Prop} (h:P:=by repeat (first|(with_reducible first|exact HK.out|apply Kept.alloc|apply Kept.drewN|apply Kept.drew|refine Kept.setCell ?_ (.inr GW399.out) _|refine Kept.setCell ?_ (.inr GW400.out) _|refine Kept.setCell ?_ (.inr GW404.out) _|refine Kept.setCell ?_ (.inr GW405.out) _)|exact HK.out)):P:=h
theorem t19_ {P:Prop} (h:P:=by repeat (first|(with_reducible first|exact HB.out|apply below_alloc|apply pw_below_drewN|apply below_drew1|refine below_set ?_ GE399.out|refine below_set ?_ GE400.out|refine below_set ?_ GE404.out|refine below_set ?_ GE405.out)|exact HB.out)):P:=h
theorem t20_ {P:Prop} (h:P:=by repeat (first|(with_reducible first|exact HB.out|apply below_alloc|apply pw_below_drewN|apply below_drew1|refine below_set ?_ GE457.out|refine below_set ?_ GE458.out|refine below_set ?_ GE466.out)|exact HB.out)):P:=h
theorem t21_ {P:Prop} (h:P:=by (with_reducible repeat (first|refine blk_drewN ?_ _|refine blk_drew ?_|refine blk_alloc ?_ _));refine blk_put (cs:=#[.string ((rd_T51 l1 x17_2).f0),.string ((rd_T51 l1 x17_2).f1),.bool false]) ?_ 2 _ rfl;(with_reducible repeat (first|refine blk_drewN ?_ _|refine blk_drew ?_|refine blk_alloc ?_ _));refine blk_put (cs:=#[.string ((rd_T51 l1 x17_2).f0),.string (⟨#[]⟩:ByteArray),.bool false]) ?_ 1 _ rfl;(with_reducible repeat (first|refine blk_drewN ?_ _|refine blk_drew ?_|refine blk_alloc ?_ _));refine blk_put (cs:=#[.string (⟨#[]⟩:ByteArray),.string (⟨#[]⟩:ByteArray),.bool false]) ?_ 0 _ rfl;(with_reducible repeat (first|refine blk_drewN ?_ _|refine blk_drew ?_|refine blk_alloc ?_ _));exact BK376.out):P:=h
theorem t22_ {P:Prop} (h:P:=by repeat (first|(with_reducible first|exact HB.out|apply below_alloc|apply pw_below_drewN|apply below_drew1|refine below_set ?_ GE160.out)|exact HB.out)):P:=h
theorem t23_ {P:Prop} (h:P:=by (with_reducible repeat (first|refine blk_drewN ?_ _|refine blk_drew ?_|refine blk_alloc ?_ _));refine blk_far ?_ NB373_376.out _;(with_reducible repeat (first|refine blk_drewN ?_ _|refine blk_drew ?_|refine blk_alloc ?_ _));refine blk_far ?_ NB373_376.out _;(with_reducible repeat (first|refine blk_drewN ?_ _|refine blk_drew ?_|refine blk_alloc ?_ _));refine blk_far ?_ NB373_376.out _;(with_reducible repeat (first|refine blk_drewN ?_ _|refine blk_drew ?_|refine blk_alloc ?_ _));exact BK373.out):P:=h
theorem t24_ {P:Prop} (h:P:=by repeat (first|(with_reducible first|exact HB.out|apply below_alloc|apply pw_below_drewN|apply below_drew1|refine below_set ?_ GE156.out|refine below_set ?_ GE157.out)|exact HB.out)):P:=h
theorem t25_ {P:Prop} (h:P:=by omega):P:=h
theorem t26_ {P:Prop} (h:P:=by repeat (first|(with_reducible first|exact HB.out|apply below_alloc|apply pw_below_drewN|apply below_drew1|refine below_set ?_ GE373.out)|exact HB.out)):P:=h
theorem t27_ {P:Prop} (h:P:=by repeat (first|(with_reducible first|exact HB.out|apply below_alloc|apply pw_below_drewN|apply below_drew1|refine below_set ?_ GE156.out)|exact HB.out)):P:=h
theorem t28_ {P:Prop} (h:P:=by repeat (first|(with_reducible first|exact HK.out|apply Kept.alloc|apply Kept.drewN|apply Kept.drew|refine Kept.setCell ?_ (.inr GW399.out) _|refine Kept.setCell ?_ (.inr GW400.out) _)|exact HK.out)):P:=h
theorem t29_ {P:Prop} (h:P:=by (with_reducible repeat (first|apply Kd.R_alloc|apply Kd.R_drewN|apply Kd.R_drew));exact HO_3.out):P:=h
theorem t30_ {P:Prop} (h:P:=by repeat (first|(with_reducible first|exact HB.out|apply below_alloc|apply pw_below_drewN|apply below_drew1|refine below_set ?_ GE151.out|refine below_set ?_ GE152.out)|exact HB.out)):P:=h
theorem t31_ {P:Prop} (h:P:=by repeat (first|(with_reducible first|exact HB.out|apply below_alloc|apply pw_below_drewN|apply below_drew1|refine below_set ?_ GE129.out|refine below_set ?_ GE130.out|refine below_set ?_ GE131.out)|exact HB.out)):P:=h
theorem t32_ {P:Prop} (h:P:=by first|rfl|(simp [errW_none,errW_some]<;>rfl)|(simp [*,errW_none,errW_some]<;>rfl)):P:=h
theorem t33_ {P:Prop} (h:P:=by decide):P:=h
theorem t34_ {P:Prop} (h:P:=by (with_reducible repeat (first|refine blk_drewN ?_ _|refine blk_drew ?_|refine blk_alloc ?_ _));exact BK472.out):P:=h
theorem t35_ {P:Prop} (h:P:=by (with_reducible repeat (first|apply Kd.R_alloc|apply Kd.R_drewN|apply Kd.R_drew));exact HO_6.out):P:=h
theorem t36_ {P:Prop} (h:P:=by repeat (first|(with_reducible first|exact HB.out|apply below_alloc|apply pw_below_drewN|apply below_drew1|refine below_set ?_ GE336.out)|exact HB.out)):P:=h
theorem t37_ {P:Prop} (h:P:=by repeat (first|(with_reducible first|exact HB.out|apply below_alloc|apply pw_below_drewN|apply below_drew1|refine below_set ?_ GE104.out)|exact HB.out)):P:=h
theorem t38_ {P:Prop} (h:P:=by repeat (first|(with_reducible first|exact HB.out|apply below_alloc|apply pw_below_drewN|apply below_drew1|refine below_set ?_ GE399.out|refine below_set ?_ GE400.out)|exact HB.out)):P:=h
theorem t39_ {P:Prop} (h:P:=by repeat (first|(with_reducible exact HR243_1.out)|(with_reducible refine Kd.C_alloc ?_ _)|(with_reducible refine Kd.C_drewN ?_ _)|(with_reducible refine Kd.C_drew ?_)|exact HR243_1.out)):P:=h
theorem t40_ {P:Prop} (h:P:=by repeat (first|exact (Kd.C_below HR0_1.out HB.out)|(with_reducible refine Kd.C_alloc ?_ _)|(with_reducible refine Kd.C_drewN ?_ _)|(with_reducible refine Kd.C_drew ?_))):P:=h
theorem t41_ {P:Prop} (h:P:=by repeat (first|exact (Kd.C_below HR0_0.out HB.out)|(with_reducible refine Kd.C_alloc ?_ _)|(with_reducible refine Kd.C_drewN ?_ _)|(with_reducible refine Kd.C_drew ?_))):P:=h
theorem t42_ {P:Prop} (h:P:=by (try simp only [hl495000_63]);(try simp only [hl495001_63]);(try simp only [hl10_79]);(with_reducible repeat (first|refine blk_drewN ?_ _|refine blk_drew ?_|refine blk_alloc ?_ _));exact BK494.out):P:=h
theorem t43_ {P:Prop} (h:P:=by (try simp only [hl495000_63]);(try simp only [hl495001_63]);(try simp only [hl10_79]);(with_reducible repeat (first|refine blk_drewN ?_ _|refine blk_drew ?_|refine blk_alloc ?_ _));exact BK472.out):P:=h
theorem t44_ {P:Prop} (h:P:=by (with_reducible repeat (first|refine blk_drewN ?_ _|refine blk_drew ?_|refine blk_alloc ?_ _));exact BK494.out):P:=h
theorem t45_ {P:Prop} (h:P:=by (with_reducible repeat (first|refine blk_drewN ?_ _|refine blk_drew ?_|refine blk_alloc ?_ _));exact BK399.out):P:=h
theorem t46_ {P:Prop} (h:P:=by (with_reducible repeat (first|refine blk_drewN ?_ _|refine blk_drew ?_|refine blk_alloc ?_ _));exact BK373.out):P:=h
theorem t47_ {P:Prop} (h:P:=by repeat (first|(with_reducible first|exact HB.out|apply below_alloc|apply pw_below_drewN|apply below_drew1|refine below_set ?_ GE457.out)|exact HB.out)):P:=h
theorem t48_ {P:Prop} (h:P:=by repeat (first|(with_reducible first|exact HB.out|apply below_alloc|apply pw_below_drewN|apply below_drew1|refine below_set ?_ GE345.out)|exact HB.out)):P:=h
theorem t49_ {P:Prop} (h:P:=by (with_reducible repeat (first|refine blk_drewN ?_ _|refine blk_drew ?_|refine blk_alloc ?_ _));refine blk_put (cs:=#[.slice none 0 0]) ?_ 0 _ rfl;(with_reducible repeat (first|refine blk_drewN ?_ _|refine blk_drew ?_|refine blk_alloc ?_ _));exact BK466.out):P:=h
theorem t50_ {P:Prop} (h:P:=by repeat (first|(with_reducible first|exact HB.out|apply below_alloc|apply pw_below_drewN|apply below_drew1|refine below_set ?_ GE415.out|refine below_set ?_ GE416.out)|exact HB.out)):P:=h
theorem t51_ {P:Prop} (h:P:=by repeat (first|(with_reducible first|exact HB.out|apply below_alloc|apply pw_below_drewN|apply below_drew1|refine below_set ?_ GE345.out|refine below_set ?_ GE346.out)|exact HB.out)):P:=h
theorem t52_ {P:Prop} (h:P:=by (try simp only [hl3_3]);(with_reducible repeat (first|apply Kd.R_alloc|apply Kd.R_drewN|apply Kd.R_drew));exact HO_4.out):P:=h
theorem t53_ {P:Prop} (h:P:=by (try simp only [hl3_3]);(with_reducible repeat (first|apply Kd.R_alloc|apply Kd.R_drewN|apply Kd.R_drew));exact HO_3.out):P:=h
theorem t54_ {P:Prop} (h:P:=by (with_reducible repeat (first|refine blk_drewN ?_ _|refine blk_drew ?_|refine blk_alloc ?_ _));refine blk_far ?_ NB458_466.out _;(with_reducible repeat (first|refine blk_drewN ?_ _|refine blk_drew ?_|refine blk_alloc ?_ _));exact BK458.out):P:=h
theorem t55_ {P:Prop} (h:P:=by (with_reducible repeat (first|refine blk_drewN ?_ _|refine blk_drew ?_|refine blk_alloc ?_ _));refine blk_far ?_ NB457_466.out _;(with_reducible repeat (first|refine blk_drewN ?_ _|refine blk_drew ?_|refine blk_alloc ?_ _));exact BK457.out):P:=h
theorem t56_ {P:Prop} (h:P:=by (with_reducible repeat (first|refine blk_drewN ?_ _|refine blk_drew ?_|refine blk_alloc ?_ _));exact BK400.out):P:=h
theorem t57_ {P:Prop} (h:P:=by (with_reducible repeat (first|refine blk_drewN ?_ _|refine blk_drew ?_|refine blk_alloc ?_ _));exact BK349.out):P:=h
theorem t58_ {P:Prop} (h:P:=by have:=HK1.out;omega):P:=h
theorem t59_ {P:Prop} (h:P:=by repeat (first|(with_reducible first|exact HB.out|apply below_alloc|apply pw_below_drewN|apply below_drew1|refine below_set ?_ GE399.out|refine below_set ?_ GE400.out|refine below_set ?_ GE404.out)|exact HB.out)):P:=h
theorem t60_ {P:Prop} (h:P:=by (with_reducible repeat (first|apply Kd.R_alloc|apply Kd.R_drewN|apply Kd.R_drew));exact HO_400001.out):P:=h
theorem t61_ {P:Prop} (h:P:=by (with_reducible repeat (first|apply Kd.R_alloc|apply Kd.R_drewN|apply Kd.R_drew));exact HO_400000.out):P:=h
theorem t62_ {P:Prop} (h:P:=by simp):P:=h
theorem t63_ {P:Prop} (h:P:=by repeat (first|(with_reducible first|exact HB.out|apply below_alloc|apply pw_below_drewN|apply below_drew1|refine below_set ?_ GE160.out|refine below_set ?_ GE161.out)|exact HB.out)):P:=h
theorem t64_ {P:Prop} (h:P:=by (with_reducible repeat (first|refine blk_drewN ?_ _|refine blk_drew ?_|refine blk_alloc ?_ _));exact BK282.out):P:=h
theorem t65_ {P:Prop} (h:P:=by first|omega|exact Nat.le_refl _):P:=h
theorem t66_ {P:Prop} (h:P:=by repeat (first|exact (Kd.C_below HR221_1.out HB.out)|(with_reducible refine Kd.C_alloc ?_ _)|(with_reducible refine Kd.C_drewN ?_ _)|(with_reducible refine Kd.C_drew ?_))):P:=h
theorem t67_ {P:Prop} (h:P:=by (with_reducible repeat (first|apply Kd.R_alloc|apply Kd.R_drewN|apply Kd.R_drew));exact HO_0.out):P:=h
theorem t68_ {P:Prop} (h:P:=by repeat (first|(with_reducible first|exact HK.out|apply Kept.alloc|apply Kept.drewN|apply Kept.drew|refine Kept.setCell ?_ (.inr GW399.out) _|refine Kept.setCell ?_ (.inr GW400.out) _|refine Kept.setCell ?_ (.inr GW404.out) _)|exact HK.out)):P:=h
theorem t69_ {P:Prop} (h:P:=by have:=HJ2.out;have:=HK2.out;first|omega|exact Nat.le_refl _):P:=h
theorem t70_ {P:Prop} (h:P:=by (with_reducible repeat (first|apply Kd.R_alloc|apply Kd.R_drewN|apply Kd.R_drew));exact HO_495001.out):P:=h
theorem t71_ {P:Prop} (h:P:=by (with_reducible repeat (first|apply Kd.R_alloc|apply Kd.R_drewN|apply Kd.R_drew));exact HO_495000.out):P:=h
theorem t72_ {P:Prop} (h:P:=by (with_reducible repeat (first|apply Kd.R_alloc|apply Kd.R_drewN|apply Kd.R_drew));exact HO_10.out):P:=h
theorem t73_ {P:Prop} (h:P:=by have:=HK1.out;have:=HK2.out;have:=HK3.out;omega):P:=h
theorem t74_ {P:Prop} (h:P:=by (try simp only [hl495000_63]);(try simp only [hl495001_63]);(try simp only [hl10_79]);(with_reducible repeat (first|apply Kd.R_alloc|apply Kd.R_drewN|apply Kd.R_drew));exact HO_495001.out):P:=h
theorem t75_ {P:Prop} (h:P:=by repeat (first|(with_reducible first|exact HB.out|apply below_alloc|apply pw_below_drewN|apply below_drew1|refine below_set ?_ GE138.out|refine below_set ?_ GE139.out)|exact HB.out)):P:=h
theorem t76_ {P:Prop} (h:P:=by repeat (first|(with_reducible first|exact HB.out|apply below_alloc|apply pw_below_drewN|apply below_drew1|refine below_set ?_ GE129.out|refine below_set ?_ GE130.out)|exact HB.out)):P:=h
theorem t77_ {P:Prop} (h:P:=by repeat (first|(with_reducible first|exact HB.out|apply below_alloc|apply pw_below_drewN|apply below_drew1|refine below_set ?_ GE115.out|refine below_set ?_ GE116.out)|exact HB.out)):P:=h
theorem t78_ {P:Prop} (h:P:=by repeat (first|(with_reducible exact HR245_1.out)|(with_reducible refine Kd.C_alloc ?_ _)|(with_reducible refine Kd.C_drewN ?_ _)|(with_reducible refine Kd.C_drew ?_)|exact HR245_1.out)):P:=h
theorem t79_ {P:Prop} (h:P:=by first|exact HK.out.1|exact (show Kept w _ (fun k_=>P0_ k_∨P1_ k_) from by repeat (first|(with_reducible first|exact HK.out|apply Kept.alloc|apply Kept.drewN|apply Kept.drew|refine Kept.setCell ?_ (.inr GW399.out) _|refine Kept.setCell ?_ (.inr GW400.out) _|refine Kept.setCell ?_ (.inr GW404.out) _|refine Kept.setCell ?_ (.inr GW405.out) _)|exact HK.out)).1):P:=h
theorem t80_ {P:Prop} (h:P:=by (with_reducible repeat (first|refine blk_drewN ?_ _|refine blk_drew ?_|refine blk_alloc ?_ _));exact BK376.out):P:=h
theorem t81_ {P:Prop} (h:P:=by repeat (first|exact (Kd.C_below HR1.out t1_)|(with_reducible refine Kd.C_alloc ?_ _)|(with_reducible refine Kd.C_drewN ?_ _)|(with_reducible refine Kd.C_drew ?_))):P:=h
theorem t82_ {P:Prop} (h:P:=by (with_reducible repeat (first|apply Kd.R_alloc|apply Kd.R_drewN|apply Kd.R_drew));exact (Kd.R_mono (Kd.R_far (p:=⟨gb494,1,none⟩) (Kd.R_far (p:=⟨gb494,0,none⟩) (Kd.R_types HO483.out BK494.out t33_) (fun _ hk=>hk.2) (.slice Ao30 t488.length co30)) (fun _ hk=>hk.2) (.slice Ao33 t491.length co33)) (fun _ h_=>h_.1))):P:=h
theorem t83_ {P:Prop} (h:P:=by repeat (first|(with_reducible first|exact HK.out|apply Kept.alloc|apply Kept.drewN|apply Kept.drew|refine Kept.setCell ?_ (.inr GW176.out) _)|exact HK.out)):P:=h
theorem t84_ {P:Prop} (h:P:=by repeat (first|(with_reducible first|exact HB.out|apply below_alloc|apply pw_below_drewN|apply below_drew1|refine below_set ?_ GE415.out)|exact HB.out)):P:=h
theorem t85_ {P:Prop} (h:P:=by repeat (first|(with_reducible first|exact HB.out|apply below_alloc|apply pw_below_drewN|apply below_drew1|refine below_set ?_ GE395.out)|exact HB.out)):P:=h
theorem t86_ {P:Prop} (h:P:=by repeat (first|(with_reducible first|exact HB.out|apply below_alloc|apply pw_below_drewN|apply below_drew1|refine below_set ?_ GE332.out)|exact HB.out)):P:=h
theorem t87_ {P:Prop} (h:P:=by repeat (first|(with_reducible first|exact HB.out|apply below_alloc|apply pw_below_drewN|apply below_drew1|refine below_set ?_ GE138.out)|exact HB.out)):P:=h
theorem t88_ {P:Prop} (h:P:=by repeat (first|(with_reducible first|exact HB.out|apply below_alloc|apply pw_below_drewN|apply below_drew1|refine below_set ?_ GE129.out)|exact HB.out)):P:=h
theorem t89_ {P:Prop} (h:P:=by repeat (first|(with_reducible first|exact HB.out|apply below_alloc|apply pw_below_drewN|apply below_drew1|refine below_set ?_ GE115.out)|exact HB.out)):P:=h
theorem t90_ {P:Prop} (h:P:=by repeat (first|(with_reducible first|exact HB.out|apply below_alloc|apply pw_below_drewN|apply below_drew1|refine below_set ?_ GE107.out)|exact HB.out)):P:=h
theorem t91_ {P:Prop} (h:P:=by (with_reducible repeat (first|apply Kd.R_alloc|apply Kd.R_drewN|apply Kd.R_drew));exact HO0.out):P:=h
theorem t92_ {P:Prop} (h:P:=by have:=HJ3.out;have:=HJ9.out;have:=HJ18.out;have:=HJ43.out;have:=HJ47.out;have:=HJ56.out;first|omega|exact Nat.le_refl _):P:=h
theorem t93_ {P:Prop} (h:P:=by first|exact Kd.R_nil _ _ _ _ _|exact Kd.N_nil _ _ _ _ _|exact Kd.V_nil _ _ _ _ _|exact Kd.Q_nil _ _ _ _ _|exact Kd.S_nil _ _ _ _ _):P:=h
theorem t94_ {P:Prop} (h:P:=by rfl):P:=h
theorem t95_ {P:Prop} (h:P:=by repeat (first|(with_reducible first|exact HBP.out|apply below_alloc|apply pw_below_drewN|apply below_drew1)|exact HBP.out)):P:=h
theorem t96_ {P:Prop} (h:P:=by (with_reducible repeat (first|refine blk_drewN ?_ _|refine blk_drew ?_|refine blk_alloc ?_ _));refine blk_far ?_ NB404_399.out _;(with_reducible repeat (first|refine blk_drewN ?_ _|refine blk_drew ?_|refine blk_alloc ?_ _));exact BK404.out):P:=h
theorem t97_ {P:Prop} (h:P:=by (with_reducible repeat (first|refine blk_drewN ?_ _|refine blk_drew ?_|refine blk_alloc ?_ _));refine blk_far ?_ NB400_399.out _;(with_reducible repeat (first|refine blk_drewN ?_ _|refine blk_drew ?_|refine blk_alloc ?_ _));exact BK400.out):P:=h
theorem t98_ {P:Prop} (h:P:=by (with_reducible repeat (first|apply Kd.R_alloc|apply Kd.R_drewN|apply Kd.R_drew));exact (Kd.R_mono (Kd.R_far (p:=⟨gb466,0,none⟩) (Kd.R_types HO465.out BK466.out t33_) (fun _ hk=>hk.2) (.slice Ao36 t463.length co36)) (fun _ h_=>h_.1))):P:=h
theorem t99_ {P:Prop} (h:P:=by (with_reducible repeat (first|apply Kd.R_alloc|apply Kd.R_drewN|apply Kd.R_drew));exact (Kd.R_mono (Kd.R_far (p:=⟨gb466,0,none⟩) (Kd.R_types HO465.out BK466.out t33_) (fun _ hk=>hk.2) (.slice Ao23 t463.length co23)) (fun _ h_=>h_.1))):P:=h
theorem t100_ {P:Prop} (h:P:=by have hq:=hc 0 _ rfl;rwa [Nat.mul_one,Nat.add_zero] at hq):P:=h
theorem t101_ {P:Prop} (h:P:=by rw [← add_field _ _ 1 t25_];exact hc 1 _ rfl):P:=h
theorem t102_ {P:Prop} (h:P:=by (with_reducible repeat (first|refine blk_drewN ?_ _|refine blk_drew ?_|refine blk_alloc ?_ _));exact BK458.out):P:=h
theorem t103_ {P:Prop} (h:P:=by (with_reducible repeat (first|refine blk_drewN ?_ _|refine blk_drew ?_|refine blk_alloc ?_ _));exact BK457.out):P:=h
theorem t104_ {P:Prop} (h:P:=by (with_reducible repeat (first|refine blk_drewN ?_ _|refine blk_drew ?_|refine blk_alloc ?_ _));exact BK404.out):P:=h
theorem t105_ {P:Prop} (h:P:=by (try simp only [hl495000_63]);(try simp only [hl495001_63]);(try simp only [hl10_79]);(with_reducible repeat (first|apply Kd.R_alloc|apply Kd.R_drewN|apply Kd.R_drew));exact Kd.R_mono HO_495000.out (fun _ hk=>hk.1.1.2)):P:=h
theorem t106_ {P:Prop} (h:P:=by (try simp only [hl495000_63]);(try simp only [hl495001_63]);(try simp only [hl10_79]);(with_reducible repeat (first|apply Kd.R_alloc|apply Kd.R_drewN|apply Kd.R_drew));exact Kd.R_mono HO_495001.out (fun _ hk=>trivial)):P:=h
theorem t107_ {P:Prop} (h:P:=by (try simp only [hl495000_63]);(try simp only [hl495001_63]);(try simp only [hl10_79]);(with_reducible repeat (first|apply Kd.R_alloc|apply Kd.R_drewN|apply Kd.R_drew));exact Kd.R_mono HO_10.out (fun _ hk=>hk.1.1.2)):P:=h
theorem t108_ {P:Prop} (h:P:=by have:=HJ3.out;have:=HJ9.out;have:=HJ18.out;have:=HJ43.out;have:=HJ47.out;have:=HJ56.out;have:=HJ63.out;have:=HJ75.out;have:=HJ79.out;have:=HJ83.out;first|omega|exact Nat.le_refl _):P:=h
theorem t109_ {P:Prop} (h:P:=by (with_reducible repeat (first|apply Kd.R_alloc|apply Kd.R_drewN|apply Kd.R_drew));exact HO_4.out):P:=h



def errW:Option Int→Value
  |none=>.nilIface
  |some c=>.iface 0 (.int .i64 c)
theorem errW_none:errW none=.nilIface:=rfl
theorem errW_some (c:Int):errW (some c)=.iface 0 (.int .i64 c):=rfl

theorem info2:(Try.prog.info? 2).map (fun i=>(i.zero,i.size,i.bytes))=some (some (.int .i64 0),1,8):=by kernel_rfl
theorem info4:(Try.prog.info? 4).map (fun i=>(i.zero,i.size,i.bytes))=some (some (.bool false),1,1):=by kernel_rfl
theorem info5:(Try.prog.info? 5).map (fun i=>(i.zero,i.size,i.bytes))=some (some (.int .u8 0),1,1):=by kernel_rfl
theorem info51:(Try.prog.info? 51).map (fun i=>(i.zero,i.size,i.bytes))=some (some (.agg #[(.string ⟨#[]⟩),(.string ⟨#[]⟩),(.bool false)]),3,40):=by kernel_rfl
theorem info100:(Try.prog.info? 100).map (fun i=>(i.zero,i.size,i.bytes))=some (some (.agg #[(.string ⟨#[]⟩),(.int .i64 0),(.int .i64 0),(.int .i64 0),(.int .i64 0),(.int .i64 0)]),6,56):=by kernel_rfl
-- the values' own types
/-! #### struct type 122 -/
structure S122 where
  f0:ByteArray
  f1:Int
  f2:Int
  f3:Int
  f4:Int
  f5:Int
def z122:S122:=⟨(⟨#[]⟩:ByteArray),(0:Int),(0:Int),(0:Int),(0:Int),(0:Int)⟩
def k122:Kd S122:=Kd.iso (Kd.pair Kd.string (Kd.pair (Kd.int .i64) (Kd.pair (Kd.int .i64) (Kd.pair (Kd.int .i64) (Kd.pair (Kd.int .i64) (Kd.int .i64)))))) (fun x:S122=>(x.f0,x.f1,x.f2,x.f3,x.f4,x.f5))
theorem k122_heap:Kd.Heap k122:=Kd.heap_iso _ (Kd.heap_pair Kd.heap_string (Kd.heap_pair (Kd.heap_int .i64) (Kd.heap_pair (Kd.heap_int .i64) (Kd.heap_pair (Kd.heap_int .i64) (Kd.heap_pair (Kd.heap_int .i64) (Kd.heap_int .i64))))))
theorem k122_open {w:World} {x:S122} {cs:List Value} (h:k122.K w x cs):cs=[.string x.f0,.int .i64 x.f1,.int .i64 x.f2,.int .i64 x.f3,.int .i64 x.f4,.int .i64 x.f5]:=by
  obtain ⟨_,_,rfl,rfl,⟨_,_,rfl,rfl,⟨_,_,rfl,rfl,⟨_,_,rfl,rfl,⟨_,_,rfl,rfl,rfl⟩⟩⟩⟩⟩:=h;exact rfl
theorem k122_openM {w:World} {base:Nat} {ok:Nat→Prop} {x:S122} {cs:List Value} (h:k122.M w base ok x cs):cs=[.string x.f0,.int .i64 x.f1,.int .i64 x.f2,.int .i64 x.f3,.int .i64 x.f4,.int .i64 x.f5]:=by
  obtain ⟨_,_,rfl,rfl,⟨_,_,rfl,rfl,⟨_,_,rfl,rfl,⟨_,_,rfl,rfl,⟨_,_,rfl,rfl,rfl⟩⟩⟩⟩⟩:=h;exact rfl
theorem k122_mk (w:World) (x:S122):k122.K w x [.string x.f0,.int .i64 x.f1,.int .i64 x.f2,.int .i64 x.f3,.int .i64 x.f4,.int .i64 x.f5]:=⟨[.string x.f0],[.int .i64 x.f1,.int .i64 x.f2,.int .i64 x.f3,.int .i64 x.f4,.int .i64 x.f5],rfl,rfl,⟨[.int .i64 x.f1],[.int .i64 x.f2,.int .i64 x.f3,.int .i64 x.f4,.int .i64 x.f5],rfl,rfl,⟨[.int .i64 x.f2],[.int .i64 x.f3,.int .i64 x.f4,.int .i64 x.f5],rfl,rfl,⟨[.int .i64 x.f3],[.int .i64 x.f4,.int .i64 x.f5],rfl,rfl,⟨[.int .i64 x.f4],[.int .i64 x.f5],rfl,rfl,rfl⟩⟩⟩⟩⟩
theorem k122_mkM (w:World) (base:Nat) (ok:Nat→Prop) (x:S122):k122.M w base ok x [.string x.f0,.int .i64 x.f1,.int .i64 x.f2,.int .i64 x.f3,.int .i64 x.f4,.int .i64 x.f5]:=⟨[.string x.f0],[.int .i64 x.f1,.int .i64 x.f2,.int .i64 x.f3,.int .i64 x.f4,.int .i64 x.f5],rfl,rfl,⟨[.int .i64 x.f1],[.int .i64 x.f2,.int .i64 x.f3,.int .i64 x.f4,.int .i64 x.f5],rfl,rfl,⟨[.int .i64 x.f2],[.int .i64 x.f3,.int .i64 x.f4,.int .i64 x.f5],rfl,rfl,⟨[.int .i64 x.f3],[.int .i64 x.f4,.int .i64 x.f5],rfl,rfl,⟨[.int .i64 x.f4],[.int .i64 x.f5],rfl,rfl,rfl⟩⟩⟩⟩⟩
theorem k122_mkF (W:World) (ok:Nat→Prop) (x:S122):Kd.FK k122 W ok x [.string x.f0,.int .i64 x.f1,.int .i64 x.f2,.int .i64 x.f3,.int .i64 x.f4,.int .i64 x.f5]:=fun W2 _=>k122_mk W2 x
def rd_T122 (xs:List S122) (i:Int):S122:=xs.getD i.toNat z122
theorem at_T122 {w:World} {A:Option Addr} {n:Nat} {xs:List S122} (h:Kd.C k122 w A n xs) (i:Int) (J:0≤i) (L:i<n):∃ ad,A=some ad∧w.cell? (ad.add (i.toNat * 6))=some (.string (rd_T122 xs i).f0)∧w.cell? ⟨(ad.add (i.toNat * 6)).block,(ad.add (i.toNat * 6)).off+1,none⟩=some (.int .i64 (rd_T122 xs i).f1)∧w.cell? ⟨(ad.add (i.toNat * 6)).block,(ad.add (i.toNat * 6)).off+2,none⟩=some (.int .i64 (rd_T122 xs i).f2)∧w.cell? ⟨(ad.add (i.toNat * 6)).block,(ad.add (i.toNat * 6)).off+3,none⟩=some (.int .i64 (rd_T122 xs i).f3)∧w.cell? ⟨(ad.add (i.toNat * 6)).block,(ad.add (i.toNat * 6)).off+4,none⟩=some (.int .i64 (rd_T122 xs i).f4)∧w.cell? ⟨(ad.add (i.toNat * 6)).block,(ad.add (i.toNat * 6)).off+5,none⟩=some (.int .i64 (rd_T122 xs i).f5):=by
  obtain ⟨ad,c,e,_,hK,O⟩:=Kd.C_get h z122 i J L;have hc:∀ j u,c[j]? =some u→w.cell? (ad.add (i.toNat * 6+j))=some u:=O;obtain rfl:=k122_open hK;exact ⟨ad,e,hc 0 _ rfl,t101_,(by rw [← add_field _ _ 2 t25_];exact hc 2 _ rfl),(by rw [← add_field _ _ 3 t25_];exact hc 3 _ rfl),(by rw [← add_field _ _ 4 t25_];exact hc 4 _ rfl),(by rw [← add_field _ _ 5 t25_];exact hc 5 _ rfl)⟩

/-! #### struct type 69 -/
structure S69 where
  f0:ByteArray
  f1:ByteArray
  f2:Bool
def z69:S69:=⟨(⟨#[]⟩:ByteArray),(⟨#[]⟩:ByteArray),false⟩
def k69:Kd S69:=Kd.iso (Kd.pair Kd.string (Kd.pair Kd.string Kd.bool)) (fun x:S69=>(x.f0,x.f1,x.f2))
theorem k69_heap:Kd.Heap k69:=Kd.heap_iso _ (Kd.heap_pair Kd.heap_string (Kd.heap_pair Kd.heap_string Kd.heap_bool))
theorem k69_open {w:World} {x:S69} {cs:List Value} (h:k69.K w x cs):cs=[.string x.f0,.string x.f1,.bool x.f2]:=by
  obtain ⟨_,_,rfl,rfl,⟨_,_,rfl,rfl,rfl⟩⟩:=h;exact rfl
theorem k69_openM {w:World} {base:Nat} {ok:Nat→Prop} {x:S69} {cs:List Value} (h:k69.M w base ok x cs):cs=[.string x.f0,.string x.f1,.bool x.f2]:=by
  obtain ⟨_,_,rfl,rfl,⟨_,_,rfl,rfl,rfl⟩⟩:=h;exact rfl
theorem k69_mk (w:World) (x:S69):k69.K w x [.string x.f0,.string x.f1,.bool x.f2]:=⟨[.string x.f0],[.string x.f1,.bool x.f2],rfl,rfl,⟨[.string x.f1],[.bool x.f2],rfl,rfl,rfl⟩⟩
theorem k69_mkM (w:World) (base:Nat) (ok:Nat→Prop) (x:S69):k69.M w base ok x [.string x.f0,.string x.f1,.bool x.f2]:=⟨[.string x.f0],[.string x.f1,.bool x.f2],rfl,rfl,⟨[.string x.f1],[.bool x.f2],rfl,rfl,rfl⟩⟩
theorem k69_mkF (W:World) (ok:Nat→Prop) (x:S69):Kd.FK k69 W ok x [.string x.f0,.string x.f1,.bool x.f2]:=fun W2 _=>k69_mk W2 x
def rd_T69 (xs:List S69) (i:Int):S69:=xs.getD i.toNat z69
theorem at_T69 {w:World} {A:Option Addr} {n:Nat} {xs:List S69} (h:Kd.C k69 w A n xs) (i:Int) (J:0≤i) (L:i<n):∃ ad,A=some ad∧w.cell? (ad.add (i.toNat * 3))=some (.string (rd_T69 xs i).f0)∧w.cell? ⟨(ad.add (i.toNat * 3)).block,(ad.add (i.toNat * 3)).off+1,none⟩=some (.string (rd_T69 xs i).f1)∧w.cell? ⟨(ad.add (i.toNat * 3)).block,(ad.add (i.toNat * 3)).off+2,none⟩=some (.bool (rd_T69 xs i).f2):=by
  obtain ⟨ad,c,e,_,hK,O⟩:=Kd.C_get h z69 i J L;have hc:∀ j u,c[j]? =some u→w.cell? (ad.add (i.toNat * 3+j))=some u:=O;obtain rfl:=k69_open hK;exact ⟨ad,e,hc 0 _ rfl,t101_,(by rw [← add_field _ _ 2 t25_];exact hc 2 _ rfl)⟩

/-! #### struct type 100 -/
structure S100 where
  f0:ByteArray
  f1:Int
  f2:Int
  f3:Int
  f4:Int
  f5:Int
def z100:S100:=⟨(⟨#[]⟩:ByteArray),(0:Int),(0:Int),(0:Int),(0:Int),(0:Int)⟩
def k100:Kd S100:=Kd.iso (Kd.pair Kd.string (Kd.pair (Kd.int .i64) (Kd.pair (Kd.int .i64) (Kd.pair (Kd.int .i64) (Kd.pair (Kd.int .i64) (Kd.int .i64)))))) (fun x:S100=>(x.f0,x.f1,x.f2,x.f3,x.f4,x.f5))
theorem k100_heap:Kd.Heap k100:=Kd.heap_iso _ (Kd.heap_pair Kd.heap_string (Kd.heap_pair (Kd.heap_int .i64) (Kd.heap_pair (Kd.heap_int .i64) (Kd.heap_pair (Kd.heap_int .i64) (Kd.heap_pair (Kd.heap_int .i64) (Kd.heap_int .i64))))))
theorem k100_open {w:World} {x:S100} {cs:List Value} (h:k100.K w x cs):cs=[.string x.f0,.int .i64 x.f1,.int .i64 x.f2,.int .i64 x.f3,.int .i64 x.f4,.int .i64 x.f5]:=by
  obtain ⟨_,_,rfl,rfl,⟨_,_,rfl,rfl,⟨_,_,rfl,rfl,⟨_,_,rfl,rfl,⟨_,_,rfl,rfl,rfl⟩⟩⟩⟩⟩:=h;exact rfl
theorem k100_openM {w:World} {base:Nat} {ok:Nat→Prop} {x:S100} {cs:List Value} (h:k100.M w base ok x cs):cs=[.string x.f0,.int .i64 x.f1,.int .i64 x.f2,.int .i64 x.f3,.int .i64 x.f4,.int .i64 x.f5]:=by
  obtain ⟨_,_,rfl,rfl,⟨_,_,rfl,rfl,⟨_,_,rfl,rfl,⟨_,_,rfl,rfl,⟨_,_,rfl,rfl,rfl⟩⟩⟩⟩⟩:=h;exact rfl
theorem k100_mk (w:World) (x:S100):k100.K w x [.string x.f0,.int .i64 x.f1,.int .i64 x.f2,.int .i64 x.f3,.int .i64 x.f4,.int .i64 x.f5]:=⟨[.string x.f0],[.int .i64 x.f1,.int .i64 x.f2,.int .i64 x.f3,.int .i64 x.f4,.int .i64 x.f5],rfl,rfl,⟨[.int .i64 x.f1],[.int .i64 x.f2,.int .i64 x.f3,.int .i64 x.f4,.int .i64 x.f5],rfl,rfl,⟨[.int .i64 x.f2],[.int .i64 x.f3,.int .i64 x.f4,.int .i64 x.f5],rfl,rfl,⟨[.int .i64 x.f3],[.int .i64 x.f4,.int .i64 x.f5],rfl,rfl,⟨[.int .i64 x.f4],[.int .i64 x.f5],rfl,rfl,rfl⟩⟩⟩⟩⟩
theorem k100_mkM (w:World) (base:Nat) (ok:Nat→Prop) (x:S100):k100.M w base ok x [.string x.f0,.int .i64 x.f1,.int .i64 x.f2,.int .i64 x.f3,.int .i64 x.f4,.int .i64 x.f5]:=⟨[.string x.f0],[.int .i64 x.f1,.int .i64 x.f2,.int .i64 x.f3,.int .i64 x.f4,.int .i64 x.f5],rfl,rfl,⟨[.int .i64 x.f1],[.int .i64 x.f2,.int .i64 x.f3,.int .i64 x.f4,.int .i64 x.f5],rfl,rfl,⟨[.int .i64 x.f2],[.int .i64 x.f3,.int .i64 x.f4,.int .i64 x.f5],rfl,rfl,⟨[.int .i64 x.f3],[.int .i64 x.f4,.int .i64 x.f5],rfl,rfl,⟨[.int .i64 x.f4],[.int .i64 x.f5],rfl,rfl,rfl⟩⟩⟩⟩⟩
theorem k100_mkF (W:World) (ok:Nat→Prop) (x:S100):Kd.FK k100 W ok x [.string x.f0,.int .i64 x.f1,.int .i64 x.f2,.int .i64 x.f3,.int .i64 x.f4,.int .i64 x.f5]:=fun W2 _=>k100_mk W2 x
def rd_T100 (xs:List S100) (i:Int):S100:=xs.getD i.toNat z100
theorem at_T100 {w:World} {A:Option Addr} {n:Nat} {xs:List S100} (h:Kd.C k100 w A n xs) (i:Int) (J:0≤i) (L:i<n):∃ ad,A=some ad∧w.cell? (ad.add (i.toNat * 6))=some (.string (rd_T100 xs i).f0)∧w.cell? ⟨(ad.add (i.toNat * 6)).block,(ad.add (i.toNat * 6)).off+1,none⟩=some (.int .i64 (rd_T100 xs i).f1)∧w.cell? ⟨(ad.add (i.toNat * 6)).block,(ad.add (i.toNat * 6)).off+2,none⟩=some (.int .i64 (rd_T100 xs i).f2)∧w.cell? ⟨(ad.add (i.toNat * 6)).block,(ad.add (i.toNat * 6)).off+3,none⟩=some (.int .i64 (rd_T100 xs i).f3)∧w.cell? ⟨(ad.add (i.toNat * 6)).block,(ad.add (i.toNat * 6)).off+4,none⟩=some (.int .i64 (rd_T100 xs i).f4)∧w.cell? ⟨(ad.add (i.toNat * 6)).block,(ad.add (i.toNat * 6)).off+5,none⟩=some (.int .i64 (rd_T100 xs i).f5):=by
  obtain ⟨ad,c,e,_,hK,O⟩:=Kd.C_get h z100 i J L;have hc:∀ j u,c[j]? =some u→w.cell? (ad.add (i.toNat * 6+j))=some u:=O;obtain rfl:=k100_open hK;exact ⟨ad,e,hc 0 _ rfl,t101_,(by rw [← add_field _ _ 2 t25_];exact hc 2 _ rfl),(by rw [← add_field _ _ 3 t25_];exact hc 3 _ rfl),(by rw [← add_field _ _ 4 t25_];exact hc 4 _ rfl),(by rw [← add_field _ _ 5 t25_];exact hc 5 _ rfl)⟩

/-! #### struct type 51 -/
structure S51 where
  f0:ByteArray
  f1:ByteArray
  f2:Bool
def z51:S51:=⟨(⟨#[]⟩:ByteArray),(⟨#[]⟩:ByteArray),false⟩
def k51:Kd S51:=Kd.iso (Kd.pair Kd.string (Kd.pair Kd.string Kd.bool)) (fun x:S51=>(x.f0,x.f1,x.f2))
theorem k51_heap:Kd.Heap k51:=Kd.heap_iso _ (Kd.heap_pair Kd.heap_string (Kd.heap_pair Kd.heap_string Kd.heap_bool))
theorem k51_open {w:World} {x:S51} {cs:List Value} (h:k51.K w x cs):cs=[.string x.f0,.string x.f1,.bool x.f2]:=by
  obtain ⟨_,_,rfl,rfl,⟨_,_,rfl,rfl,rfl⟩⟩:=h;exact rfl
theorem k51_openM {w:World} {base:Nat} {ok:Nat→Prop} {x:S51} {cs:List Value} (h:k51.M w base ok x cs):cs=[.string x.f0,.string x.f1,.bool x.f2]:=by
  obtain ⟨_,_,rfl,rfl,⟨_,_,rfl,rfl,rfl⟩⟩:=h;exact rfl
theorem k51_mk (w:World) (x:S51):k51.K w x [.string x.f0,.string x.f1,.bool x.f2]:=⟨[.string x.f0],[.string x.f1,.bool x.f2],rfl,rfl,⟨[.string x.f1],[.bool x.f2],rfl,rfl,rfl⟩⟩
theorem k51_mkM (w:World) (base:Nat) (ok:Nat→Prop) (x:S51):k51.M w base ok x [.string x.f0,.string x.f1,.bool x.f2]:=⟨[.string x.f0],[.string x.f1,.bool x.f2],rfl,rfl,⟨[.string x.f1],[.bool x.f2],rfl,rfl,rfl⟩⟩
theorem k51_mkF (W:World) (ok:Nat→Prop) (x:S51):Kd.FK k51 W ok x [.string x.f0,.string x.f1,.bool x.f2]:=fun W2 _=>k51_mk W2 x
def rd_T51 (xs:List S51) (i:Int):S51:=xs.getD i.toNat z51
theorem at_T51 {w:World} {A:Option Addr} {n:Nat} {xs:List S51} (h:Kd.C k51 w A n xs) (i:Int) (J:0≤i) (L:i<n):∃ ad,A=some ad∧w.cell? (ad.add (i.toNat * 3))=some (.string (rd_T51 xs i).f0)∧w.cell? ⟨(ad.add (i.toNat * 3)).block,(ad.add (i.toNat * 3)).off+1,none⟩=some (.string (rd_T51 xs i).f1)∧w.cell? ⟨(ad.add (i.toNat * 3)).block,(ad.add (i.toNat * 3)).off+2,none⟩=some (.bool (rd_T51 xs i).f2):=by
  obtain ⟨ad,c,e,_,hK,O⟩:=Kd.C_get h z51 i J L;have hc:∀ j u,c[j]? =some u→w.cell? (ad.add (i.toNat * 3+j))=some u:=O;obtain rfl:=k51_open hK;exact ⟨ad,e,hc 0 _ rfl,t101_,(by rw [← add_field _ _ 2 t25_];exact hc 2 _ rfl)⟩

def rd_L8 (xs:List (List Int)) (i:Int):(List Int):=xs.getD i.toNat ([]:List Int)
theorem at_L8 {w:World} {A:Option Addr} {n:Nat} {xs:List (List Int)} (h:Kd.C (Kd.slice 2 (Kd.int .i64)) w A n xs) (i:Int) (J:0≤i) (L:i<n):∃ ad r s,A=some ad∧w.cell? (ad.add i.toNat)=some (.slice r (rd_L8 xs i).length s)∧(rd_L8 xs i).length≤s∧(Kd.int .i64).C w r (rd_L8 xs i).length (rd_L8 xs i):=by
  obtain ⟨ad,c,e,_,hK,O⟩:=Kd.C_get h ([]:List Int) i J L;have hc:∀ j u,c[j]? =some u→w.cell? (ad.add (i.toNat * 1+j))=some u:=O;obtain ⟨r,s,rfl,G,E⟩:=hK;exact ⟨ad,r,s,e,t100_,G,E⟩

def rd_L9 (xs:List (List S100)) (i:Int):(List S100):=xs.getD i.toNat ([]:List S100)
theorem at_L9 {w:World} {A:Option Addr} {n:Nat} {xs:List (List S100)} (h:Kd.C (Kd.slice 100 k100) w A n xs) (i:Int) (J:0≤i) (L:i<n):∃ ad r s,A=some ad∧w.cell? (ad.add i.toNat)=some (.slice r (rd_L9 xs i).length s)∧(rd_L9 xs i).length≤s∧k100.C w r (rd_L9 xs i).length (rd_L9 xs i):=by
  obtain ⟨ad,c,e,_,hK,O⟩:=Kd.C_get h ([]:List S100) i J L;have hc:∀ j u,c[j]? =some u→w.cell? (ad.add (i.toNat * 1+j))=some u:=O;obtain ⟨r,s,rfl,G,E⟩:=hK;exact ⟨ad,r,s,e,t100_,G,E⟩

/-! #### struct type 33 -/
structure S33 where
  f0:(List Int)
  f1:(List S100)
def z33:S33:=⟨([]:List Int),([]:List S100)⟩
def k33:Kd S33:=Kd.iso (Kd.pair (Kd.slice 2 (Kd.int .i64)) (Kd.slice 100 k100)) (fun x:S33=>(x.f0,x.f1))
theorem k33_heap:Kd.Heap k33:=Kd.heap_iso _ (Kd.heap_pair (Kd.heap_slice 2 (Kd.heap_int .i64)) (Kd.heap_slice 100 k100_heap))
theorem k33_open {w:World} {x:S33} {cs:List Value} (h:k33.K w x cs):∃ r s y D,cs=[.slice r x.f0.length s,.slice y x.f1.length D]∧x.f0.length≤s∧(Kd.int .i64).C w r x.f0.length x.f0∧x.f1.length≤D∧k100.C w y x.f1.length x.f1:=by
  obtain ⟨_,_,rfl,⟨r,s,rfl,G,E⟩,⟨y,D,rfl,l1,I⟩⟩:=h;exact ⟨r,s,y,D,rfl,G,E,l1,I⟩
theorem k33_openM {w:World} {base:Nat} {ok:Nat→Prop} {x:S33} {cs:List Value} (h:k33.M w base ok x cs):∃ U X,cs=[U,X]∧(Kd.int .i64).R 2 w base ok U x.f0∧k100.R 100 w base ok X x.f1:=by
  obtain ⟨_,_,rfl,⟨U,rfl,E⟩,⟨X,rfl,I⟩⟩:=h;exact ⟨U,X,rfl,E,I⟩
theorem k33_mk (w:World) (x:S33) {r:Option Addr} {s:Nat} (G:x.f0.length≤s) (E:(Kd.int .i64).C w r x.f0.length x.f0) {y:Option Addr} {D:Nat} (l1:x.f1.length≤D) (I:k100.C w y x.f1.length x.f1):k33.K w x [.slice r x.f0.length s,.slice y x.f1.length D]:=⟨[.slice r x.f0.length s],[.slice y x.f1.length D],rfl,⟨r,s,rfl,G,E⟩,⟨y,D,rfl,l1,I⟩⟩
theorem k33_mkM (w:World) (base:Nat) (ok:Nat→Prop) (x:S33) {U:Value} (E:(Kd.int .i64).R 2 w base ok U x.f0) {X:Value} (I:k100.R 100 w base ok X x.f1):k33.M w base ok x [U,X]:=⟨[U],[X],rfl,⟨U,rfl,E⟩,⟨X,rfl,I⟩⟩
theorem k33_openF {W:World} {ok:Nat→Prop} {x:S33} {cs:List Value} (h:Kd.FK k33 W ok x cs):∃ r s y D,cs=[.slice r x.f0.length s,.slice y x.f1.length D]∧x.f0.length≤s∧Kd.F (Kd.int .i64) W ok r x.f0.length x.f0∧x.f1.length≤D∧Kd.F k100 W ok y x.f1.length x.f1:=by
  obtain ⟨r,s,y,D,rfl,G,_,l1,_⟩:=k33_open (Kd.FK_now h);exact ⟨r,s,y,D,rfl,G,(fun W' hW=>by obtain ⟨a6,a9,a7,aA,he,aD,aB,aE,aC⟩:=k33_open (h W' hW);injection (Option.some.inj (show some (Value.slice r x.f0.length s)=some (Value.slice a6 x.f0.length a9) from congrArg (fun l=>l[0]?) he)) with ha_ _ _;rw [ha_];exact aB),l1,(fun W' hW=>by obtain ⟨a6,a9,a7,aA,he,aD,aB,aE,aC⟩:=k33_open (h W' hW);injection (Option.some.inj (show some (Value.slice y x.f1.length D)=some (Value.slice a7 x.f1.length aA) from congrArg (fun l=>l[1]?) he)) with ha_ _ _;rw [ha_];exact aC)⟩
theorem k33_mkF (W:World) (ok:Nat→Prop) (x:S33) {r:Option Addr} {s:Nat} (G:x.f0.length≤s) (E:Kd.F (Kd.int .i64) W ok r x.f0.length x.f0) {y:Option Addr} {D:Nat} (l1:x.f1.length≤D) (I:Kd.F k100 W ok y x.f1.length x.f1):Kd.FK k33 W ok x [.slice r x.f0.length s,.slice y x.f1.length D]:=fun W2 hW=>k33_mk W2 x G (E W2 hW) l1 (I W2 hW)
def rd_T33 (xs:List S33) (i:Int):S33:=xs.getD i.toNat z33
theorem at_T33 {w:World} {A:Option Addr} {n:Nat} {xs:List S33} (h:Kd.C k33 w A n xs) (i:Int) (J:0≤i) (L:i<n):∃ ad r s y D,A=some ad∧w.cell? (ad.add (i.toNat * 2))=some (.slice r (rd_T33 xs i).f0.length s)∧w.cell? ⟨(ad.add (i.toNat * 2)).block,(ad.add (i.toNat * 2)).off+1,none⟩=some (.slice y (rd_T33 xs i).f1.length D)∧(rd_T33 xs i).f0.length≤s∧(Kd.int .i64).C w r (rd_T33 xs i).f0.length (rd_T33 xs i).f0∧(rd_T33 xs i).f1.length≤D∧k100.C w y (rd_T33 xs i).f1.length (rd_T33 xs i).f1:=by
  obtain ⟨ad,c,e,_,hK,O⟩:=Kd.C_get h z33 i J L;have hc:∀ j u,c[j]? =some u→w.cell? (ad.add (i.toNat * 2+j))=some u:=O;obtain ⟨r,s,y,D,rfl,G,E,l1,I⟩:=k33_open hK;exact ⟨ad,r,s,y,D,e,hc 0 _ rfl,t101_,G,E,l1,I⟩

def rd_L11 (xs:List (List S51)) (i:Int):(List S51):=xs.getD i.toNat ([]:List S51)
theorem at_L11 {w:World} {A:Option Addr} {n:Nat} {xs:List (List S51)} (h:Kd.C (Kd.slice 51 k51) w A n xs) (i:Int) (J:0≤i) (L:i<n):∃ ad r s,A=some ad∧w.cell? (ad.add i.toNat)=some (.slice r (rd_L11 xs i).length s)∧(rd_L11 xs i).length≤s∧k51.C w r (rd_L11 xs i).length (rd_L11 xs i):=by
  obtain ⟨ad,c,e,_,hK,O⟩:=Kd.C_get h ([]:List S51) i J L;have hc:∀ j u,c[j]? =some u→w.cell? (ad.add (i.toNat * 1+j))=some u:=O;obtain ⟨r,s,rfl,G,E⟩:=hK;exact ⟨ad,r,s,e,t100_,G,E⟩

def rd_L12 (xs:List (List S122)) (i:Int):(List S122):=xs.getD i.toNat ([]:List S122)
theorem at_L12 {w:World} {A:Option Addr} {n:Nat} {xs:List (List S122)} (h:Kd.C (Kd.slice 122 k122) w A n xs) (i:Int) (J:0≤i) (L:i<n):∃ ad r s,A=some ad∧w.cell? (ad.add i.toNat)=some (.slice r (rd_L12 xs i).length s)∧(rd_L12 xs i).length≤s∧k122.C w r (rd_L12 xs i).length (rd_L12 xs i):=by
  obtain ⟨ad,c,e,_,hK,O⟩:=Kd.C_get h ([]:List S122) i J L;have hc:∀ j u,c[j]? =some u→w.cell? (ad.add (i.toNat * 1+j))=some u:=O;obtain ⟨r,s,rfl,G,E⟩:=hK;exact ⟨ad,r,s,e,t100_,G,E⟩

/-! #### struct type 25 -/
structure S25 where
  f0:(List Int)
  f1:(List S122)
def z25:S25:=⟨([]:List Int),([]:List S122)⟩
def k25:Kd S25:=Kd.iso (Kd.pair (Kd.slice 2 (Kd.int .i64)) (Kd.slice 122 k122)) (fun x:S25=>(x.f0,x.f1))
theorem k25_heap:Kd.Heap k25:=Kd.heap_iso _ (Kd.heap_pair (Kd.heap_slice 2 (Kd.heap_int .i64)) (Kd.heap_slice 122 k122_heap))
theorem k25_open {w:World} {x:S25} {cs:List Value} (h:k25.K w x cs):∃ r s y D,cs=[.slice r x.f0.length s,.slice y x.f1.length D]∧x.f0.length≤s∧(Kd.int .i64).C w r x.f0.length x.f0∧x.f1.length≤D∧k122.C w y x.f1.length x.f1:=by
  obtain ⟨_,_,rfl,⟨r,s,rfl,G,E⟩,⟨y,D,rfl,l1,I⟩⟩:=h;exact ⟨r,s,y,D,rfl,G,E,l1,I⟩
theorem k25_openM {w:World} {base:Nat} {ok:Nat→Prop} {x:S25} {cs:List Value} (h:k25.M w base ok x cs):∃ U X,cs=[U,X]∧(Kd.int .i64).R 2 w base ok U x.f0∧k122.R 122 w base ok X x.f1:=by
  obtain ⟨_,_,rfl,⟨U,rfl,E⟩,⟨X,rfl,I⟩⟩:=h;exact ⟨U,X,rfl,E,I⟩
theorem k25_mk (w:World) (x:S25) {r:Option Addr} {s:Nat} (G:x.f0.length≤s) (E:(Kd.int .i64).C w r x.f0.length x.f0) {y:Option Addr} {D:Nat} (l1:x.f1.length≤D) (I:k122.C w y x.f1.length x.f1):k25.K w x [.slice r x.f0.length s,.slice y x.f1.length D]:=⟨[.slice r x.f0.length s],[.slice y x.f1.length D],rfl,⟨r,s,rfl,G,E⟩,⟨y,D,rfl,l1,I⟩⟩
theorem k25_mkM (w:World) (base:Nat) (ok:Nat→Prop) (x:S25) {U:Value} (E:(Kd.int .i64).R 2 w base ok U x.f0) {X:Value} (I:k122.R 122 w base ok X x.f1):k25.M w base ok x [U,X]:=⟨[U],[X],rfl,⟨U,rfl,E⟩,⟨X,rfl,I⟩⟩
theorem k25_openF {W:World} {ok:Nat→Prop} {x:S25} {cs:List Value} (h:Kd.FK k25 W ok x cs):∃ r s y D,cs=[.slice r x.f0.length s,.slice y x.f1.length D]∧x.f0.length≤s∧Kd.F (Kd.int .i64) W ok r x.f0.length x.f0∧x.f1.length≤D∧Kd.F k122 W ok y x.f1.length x.f1:=by
  obtain ⟨r,s,y,D,rfl,G,_,l1,_⟩:=k25_open (Kd.FK_now h);exact ⟨r,s,y,D,rfl,G,(fun W' hW=>by obtain ⟨a6,a9,a7,aA,he,aD,aB,aE,aC⟩:=k25_open (h W' hW);injection (Option.some.inj (show some (Value.slice r x.f0.length s)=some (Value.slice a6 x.f0.length a9) from congrArg (fun l=>l[0]?) he)) with ha_ _ _;rw [ha_];exact aB),l1,(fun W' hW=>by obtain ⟨a6,a9,a7,aA,he,aD,aB,aE,aC⟩:=k25_open (h W' hW);injection (Option.some.inj (show some (Value.slice y x.f1.length D)=some (Value.slice a7 x.f1.length aA) from congrArg (fun l=>l[1]?) he)) with ha_ _ _;rw [ha_];exact aC)⟩
theorem k25_mkF (W:World) (ok:Nat→Prop) (x:S25) {r:Option Addr} {s:Nat} (G:x.f0.length≤s) (E:Kd.F (Kd.int .i64) W ok r x.f0.length x.f0) {y:Option Addr} {D:Nat} (l1:x.f1.length≤D) (I:Kd.F k122 W ok y x.f1.length x.f1):Kd.FK k25 W ok x [.slice r x.f0.length s,.slice y x.f1.length D]:=fun W2 hW=>k25_mk W2 x G (E W2 hW) l1 (I W2 hW)
def rd_T25 (xs:List S25) (i:Int):S25:=xs.getD i.toNat z25
theorem at_T25 {w:World} {A:Option Addr} {n:Nat} {xs:List S25} (h:Kd.C k25 w A n xs) (i:Int) (J:0≤i) (L:i<n):∃ ad r s y D,A=some ad∧w.cell? (ad.add (i.toNat * 2))=some (.slice r (rd_T25 xs i).f0.length s)∧w.cell? ⟨(ad.add (i.toNat * 2)).block,(ad.add (i.toNat * 2)).off+1,none⟩=some (.slice y (rd_T25 xs i).f1.length D)∧(rd_T25 xs i).f0.length≤s∧(Kd.int .i64).C w r (rd_T25 xs i).f0.length (rd_T25 xs i).f0∧(rd_T25 xs i).f1.length≤D∧k122.C w y (rd_T25 xs i).f1.length (rd_T25 xs i).f1:=by
  obtain ⟨ad,c,e,_,hK,O⟩:=Kd.C_get h z25 i J L;have hc:∀ j u,c[j]? =some u→w.cell? (ad.add (i.toNat * 2+j))=some u:=O;obtain ⟨r,s,y,D,rfl,G,E,l1,I⟩:=k25_open hK;exact ⟨ad,r,s,y,D,e,hc 0 _ rfl,t101_,G,E,l1,I⟩

def rd_L14 (xs:List (List S69)) (i:Int):(List S69):=xs.getD i.toNat ([]:List S69)
theorem at_L14 {w:World} {A:Option Addr} {n:Nat} {xs:List (List S69)} (h:Kd.C (Kd.slice 69 k69) w A n xs) (i:Int) (J:0≤i) (L:i<n):∃ ad r s,A=some ad∧w.cell? (ad.add i.toNat)=some (.slice r (rd_L14 xs i).length s)∧(rd_L14 xs i).length≤s∧k69.C w r (rd_L14 xs i).length (rd_L14 xs i):=by
  obtain ⟨ad,c,e,_,hK,O⟩:=Kd.C_get h ([]:List S69) i J L;have hc:∀ j u,c[j]? =some u→w.cell? (ad.add (i.toNat * 1+j))=some u:=O;obtain ⟨r,s,rfl,G,E⟩:=hK;exact ⟨ad,r,s,e,t100_,G,E⟩

/-- A region's marks: the first a of n operations are behind. -/
def tf (a n:Nat):Array Bool:=(List.replicate a true++List.replicate (n - a) false).toArray
/-- The same, by the bits of a number. -/
def tb (n m:Nat):Array Bool:=((List.range n).map m.testBit).toArray
section
variable {P:Program} {ops:Array Oper} {Q:Exit→Act→World→Prop} {md:Region.Mode} {S:World→Prop} {ds:List Nat} {T:Bool × List (List Nat × List Nat)} {B:List Nat} {oi:Oper} {v:Value} {fuel:Nat} {l:Array Bool} {a a':Act} {w:World}
/-- pure_, its small parts found by themselves. -/
theorem px (i:Nat) (N:Option Tmp) (l':Array Bool) (HT:Aside0 (rtab md ops=T)) (h:wpAnyLast P md ops Q S ds fuel l' a' w) (hi:ops[i]? =some oi:=by rfl) (hN:oi.dst=N:=by rfl) (hc:anyT T l.toList l'.toList i=true:=by kernel_rfl) (hQ:∀ c a w,Q (.panic c) (a.put oi.dst v) w→Q (.panic c) a w:=by exact fun _ _ _ h=>h) (hg:Region.wanted oi (yielded ops a.tmps)=true:=by rfl) (hx:∀ w',(execOp a.eval oi).run P w'=.ok (.value v) w':=by intro w';go_simp;with_reducible rfl) (ha:a.put N v=a':=by simp only [Act.put,List.setIfInBounds_toArray,List.set_cons_zero,List.set_cons_succ,i64_w,i32_w];rfl):wpAnyLast P md ops Q S ds (fuel+1) l a w:=
  pure_ l' hi hN (any_of HT.out hc) hQ (Or.inl ⟨hg,hx⟩) ha h
/-- The same for what isn't wanted. -/
theorem sx (i:Nat) (N:Option Tmp) (l':Array Bool) (HT:Aside0 (rtab md ops=T)) (h:wpAnyLast P md ops Q S ds fuel l' a' w) (hi:ops[i]? =some oi:=by rfl) (hN:oi.dst=N:=by rfl) (hc:anyT T l.toList l'.toList i=true:=by kernel_rfl) (hQ:∀ c a w,Q (.panic c) (a.put oi.dst undef) w→Q (.panic c) a w:=by exact fun _ _ _ h=>h) (hg:Region.wanted oi (yielded ops a.tmps)=false:=by rfl) (ha:a.put N undef=a':=by simp only [Act.put,List.setIfInBounds_toArray,List.set_cons_zero,List.set_cons_succ,i64_w,i32_w];rfl):wpAnyLast P md ops Q S ds (fuel+1) l a w:=
  pure_ l' hi hN (any_of HT.out hc) hQ (Or.inr ⟨hg,rfl⟩) ha h
/-- take_, the same. -/
theorem tx (i:Nat) (N:Option Tmp) (l':Array Bool) (HT:Aside0 (rtab md ops=T)) (HW:Aside0 (waitsOk T.2 B=true)) (hS:S w) (hx:∀ w',S w'→(execOp a.eval oi).run P w'=.ok (.value v) w') (h:wpAnyLast P md ops Q S ds fuel l' a' w) (hi:ops[i]? =some oi:=by rfl) (hN:oi.dst=N:=by rfl) (hc:takeW T B ds l.toList l'.toList i=true:=by kernel_rfl) (hQ:∀ c a w,Q (.panic c) (a.put oi.dst v) w→Q (.panic c) a w:=by exact fun _ _ _ h=>h) (hg:Region.wanted oi (yielded ops a.tmps)=true:=by rfl) (ha:a.put N v=a':=by simp only [Act.put,List.setIfInBounds_toArray,List.set_cons_zero,List.set_cons_succ,i64_w,i32_w];rfl):wpAnyLast P md ops Q S ds (fuel+1) l a w:=
  take_ l' hi hN (take_ofW HT.out HW.out hc) hQ (Or.inl ⟨hg,hx⟩) hS ha h
end
theorem Kd.C_one {α:Type} {d:Kd α} {w:World} {ad:Addr} {x:α} {c:List Value} (hK:d.K w x c) (hc:∀ j u,c[j]? =some u→w.cell? (ad.add j)=some u):Kd.C d w (some ad) [x].length [x]:=
  ⟨rfl,t62_,fun _=>⟨ad,rfl,fun j p hj=>by
    cases j with
    |succ j=>simp at hj
    |zero=>
      have e:x=p:=by simpa using hj
      subst e
      exact ⟨c,d.K_len hK,hK,fun i u hu=>by rw [Nat.zero_mul,Nat.zero_add];exact hc i u hu⟩⟩⟩
theorem cells_blk {w:World} {g:Nat} {t:TypeId} {cs:Array Value} (h:w.heap[g]? =some (.cells cs t (0,0))):∀ j u,cs.toList[j]? =some u→w.cell? ((⟨g,0,none⟩:Addr).add j)=some u:=by
  intro j u hu;have e:(⟨g,0,none⟩:Addr).add j=⟨g,j,none⟩:=(by unfold Addr.add;split<;>simp_all);rw [e,blk_cell h];simpa using hu
theorem Kd.C_sub {α:Type} {d:Kd α} {w:World} {ad:Addr} {n:Nat} {xs:List α} {z:α} {i:Int} (h:Kd.C d w (some ad) n xs) (J:0≤i) (L:i<n):Kd.C d w (some (ad.add (i.toNat * d.sz))) [xs.getD i.toNat z].length [xs.getD i.toNat z]:=by
  obtain ⟨ad',c,e,hl,hK,hc⟩:=Kd.C_get h z i J L;cases e;exact Kd.C_one hK (fun j u hu=>by
    have h2:=hc j u hu
    have e:(ad.add (i.toNat * d.sz)).add j=ad.add (i.toNat * d.sz+j):=by
      unfold Addr.add
      by_cases hi:i.toNat * d.sz=0<;>by_cases hj:j=0<;>simp [hi,hj,Nat.add_assoc]
    rw [e];exact h2)
/-- One of two. -/
def pk_ {α:Type} (i:Int) (a b:α):α:=if i=0 then a else b
/-- The binary search of sort.Search. -/
def searchO (p:Int→Option Bool):Nat→Int→Int→Option Int
  |0,_,_=>none
  |n+1,i,j=>if i<j then (p ((i+j) / 2)).bind fun b=>if b=true then searchO p n i ((i+j) / 2) else searchO p n ((i+j) / 2+1) j else some i
theorem searchO_mono {p q:Int→Option Bool} (h:∀ x,LeO (p x) (q x)):∀ n i j,LeO (searchO p n i j) (searchO q (n+1) i j)
  |0,_,_=>LeO.none _
  |n+1,i,j=>by
    show LeO (if i<j then _ else _) (if i<j then _ else _)
    exact LeO.ite (LeO.bind (h _) (fun _=>LeO.ite (searchO_mono h n i _) (searchO_mono h n _ j))) (LeO.refl _)
def firstO (p:Int→Option Bool) (k:Nat) (low high:Int):Option (Int × Bool):=if wrap64 (wrap64 (high - low)+1)≤2305843009213693952 then (searchO (fun i=>p (wrap64 (low+i))) k 0 (wrap64 (wrap64 (high - low)+1))).bind fun q=>some (wrap64 (low+q),decide (q<wrap64 (wrap64 (high - low)+1))) else none
theorem firstO_mono {p q:Int→Option Bool} (h:∀ x,LeO (p x) (q x)) (k:Nat) (low high:Int):LeO (firstO p k low high) (firstO q (k+1) low high):=
  LeO.ite (LeO.bind (searchO_mono (fun _=>h _) k _ _) (fun _=>LeO.refl _)) (LeO.refl _)

end Go.Proofs.Ytheokilgacmlmaa.PFnExactNeedlessValves
