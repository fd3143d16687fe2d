-- written by wip/xprint.py, a program of this session, for this claim; not trusted: Lean checks it.
import Derived.Test.YtoagcfpbdcoefaaProg
import Derived.Below
import Derived.Deep.Draws
import Derived.Deep.AppendLies
import Derived.Maps.AppendAt
import Derived.OwnWalk
import Derived.Laws.BytesArg
import Derived.Laws.MakeOwn
import Derived.Laws.OwnMore
import Derived.Deep.OwnRows
import Derived.Tactics
import Derived.Lib.ConvBytes
import Derived.Deep.RegionLaw
import Derived.Laws.Slices
import Derived.WalkKit
import Derived.KernelRfl
import Derived.RowKit3
import Derived.Deep.LoopGhost
import Derived.Deep.QuietTactic
import Derived.BigQuiet
import Derived.WideLaws
import Derived.Deep.DeepCutAuto
import Derived.Deep.CutBlock
import Derived.Deep.RegionHeld3
import Derived.Laws.Rows
import Derived.Lib.AppendStr
import Derived.ArgAppend
import Derived.Laws.IdiomCopy
import Derived.OrdersHeld
import Derived.Laws.BitsLemmas
import Derived.RowKit
import Derived.Laws.Cover1
import Derived.Lib.Walk
import Derived.Shelf.Abstract
import Derived.WalkSpells
import Derived.Test.YtoagcfpbdcoefaaPFnBillsw
namespace Go.Proofs.Ytoagcfpbdcoefaa.PFnBills
open Go.RowKit Go.Proofs.YtoagcfpbdcoefaaW.PrintWords Go.Proofs.YtoagcfpbdcoefaaW.PrintLast Go.Proofs.YtoagcfpbdcoefaaW.PrintMore
attribute [local go_sem] leq_less_ max2_int min2_int max_two min_two max_three min_three max_four min_four   -- for this text's walks alone
set_option linter.unusedVariables false
set_option linter.unusedSimpArgs false
-- proofs that stand many times, told once (the proof is the default of h)
set_option maxHeartbeats 8000000
set_option maxRecDepth 100000
theorem q1_ {P Q:Prop} (h:Q) (f:Q→P:=by (intro h_;(with_reducible repeat (first|refine blk_drewN ?_ _|refine blk_drew ?_|refine blk_alloc ?_ _));exact h_)):P:=f h
theorem q2_ {P Q:Prop} (h:Q) (f:Q→P:=by (intro h_;(with_reducible repeat (first|apply Kd.R_alloc|apply Kd.R_drewN|apply Kd.R_drew));exact h_)):P:=f h
theorem q3_ {P Q:Prop} (h:Q) (f:Q→P:=by (intro h_;(with_reducible repeat (first|apply Kd.S_alloc|apply Kd.S_drewN|apply Kd.S_drew));exact h_)):P:=f h
theorem q4_ {P Q:Prop} (h:Q) (f:Q→P:=by (intro h_;(with_reducible repeat (first|apply Kd.N_alloc|apply Kd.N_drewN|apply Kd.N_drew));exact h_)):P:=f h
theorem dd_ {P:Prop} (h:P:=by first|exact ⟨rfl,_,World.drewN_drewN _ _ _⟩|exact ⟨rfl,_,Eq.trans (World.drewN_drewN _ _ _) (congrArg (World.drewN _) (Nat.add_assoc _ _ _))⟩):P:=h
theorem hb_ {w w':World} {p:Addr} {v:Value} (HB:Aside0 (Below w.heap.size w w')) (h:w.cell? p=some v):w'.cell? p=some v:=(HB.out.cell (World.block_lt_of_cell? w _ h)).trans h
theorem za_ (a:Addr) (n:Nat):a.add (((0:Int)).toNat * n)=a:=by rw [show ((0:Int)).toNat=0 from rfl,Nat.zero_mul];exact Addr.add_zero' a
theorem a_ {p:Prop} (h:p):Aside0 p:=⟨h⟩
theorem be_ {α β:Type} {o:Option α} {f:α→Option β} {b:β} (h:o.bind f=some b):∃ a,o=some a∧f a=some b:=Option.bind_eq_some_iff.mp h
theorem od_ {p:Prop} [Decidable p] (h:decide p=true:=by first|(with_reducible assumption)|assumption):p:=of_decide_eq_true h
theorem b1_ {α:Type} [BEq α] [LawfulBEq α] {a b:α} (h:a=b):(a==b)=true:=beq_iff_eq.mpr h
theorem b2_ {α:Type} [BEq α] [LawfulBEq α] {a b:α} (h:¬ a=b):(a==b)=false:=beq_eq_false_iff_ne.mpr h
theorem b3_ {α:Type} [BEq α] [LawfulBEq α] {a b:α} (h:¬ a=b):(a !=b)=true:=bne_iff_ne.mpr h
theorem b4_ {α:Type} [BEq α] [LawfulBEq α] {a b:α} (h:a=b):(a !=b)=false:=bne_eq_false_iff_eq.mpr h
theorem d1_ {p:Prop} [Decidable p] (h:p):decide p=true:=decide_eq_true h
theorem d2_ {p:Prop} [Decidable p] (h:¬ p):decide p=false:=decide_eq_false h
theorem bc4_ {w:World} {g:Nat} {t:TypeId} {X Y Z a3:Value} (h:w.heap[g]? =some (.cells #[X,Y,Z,a3] t (0,0))):w.cell? ⟨g,0,none⟩=some X∧w.cell? ⟨g,1,none⟩=some Y∧w.cell? ⟨g,2,none⟩=some Z∧w.cell? ⟨g,3,none⟩=some a3∧w.frozen? ⟨g,0,none⟩=false∧w.frozen? ⟨g,1,none⟩=false∧w.frozen? ⟨g,2,none⟩=false∧w.frozen? ⟨g,3,none⟩=false:=⟨(blk_cell h 0).trans rfl,(blk_cell h 1).trans rfl,(blk_cell h 2).trans rfl,(blk_cell h 3).trans rfl,blk_frozen h 0,blk_frozen h 1,blk_frozen h 2,blk_frozen h 3⟩
theorem qc_ {P Q:Prop} (h:Q) (f:Q→P:=by (intro h_;repeat (first|exact h_|(with_reducible refine Kd.C_alloc ?_ _)|(with_reducible refine Kd.C_drewN ?_ _)|(with_reducible refine Kd.C_drew ?_)))):P:=f h
theorem t1_ {P:Prop} (h:P:=by repeat (first|(with_reducible first|exact HB.out|apply below_alloc|apply pw_below_drewN|apply below_drew1)|exact HB.out)):P:=h
theorem t2_ {P:Prop} (h:P:=by (try simp only [List.map_toArray,List.map_cons,List.map_nil]);first|done|rfl|(simp only [List.length_drop,List.length_take];rfl)):P:=h
theorem t3_ {P:Prop} (h:P:=by repeat (first|(with_reducible first|exact HB.out|apply below_alloc|apply pw_below_drewN|apply below_drew1|refine below_set ?_ GE339.out|refine below_set ?_ GE346.out)|exact HB.out)):P:=h
theorem t4_ {P:Prop} (h:P:=by first|rfl|(rw [Int.tdiv_eq_ediv_of_nonneg (by omega)];rfl)|(simp [errW_none,errW_some]<;>rfl)|(simp [*,errW_none,errW_some]<;>rfl)):P:=h
theorem t5_ {P:Prop} (h:P:=by first|rfl|(simp;done)|(simp [*];done)):P:=h
theorem t6_ {P:Prop} (h:P:=by repeat (first|(with_reducible first|exact HB.out|apply below_alloc|apply pw_below_drewN|apply below_drew1|refine below_set ?_ GE339.out|refine below_set ?_ GE346.out|refine below_set ?_ GE394.out|refine below_set ?_ GE402.out)|exact HB.out)):P:=h
theorem t7_ {P:Prop} (h:P:=by (with_reducible repeat (first|refine blk_drewN ?_ _|refine blk_drew ?_|refine blk_alloc ?_ _));refine blk_put (cs:=#[.string t395,.int .i64 t396,.int .i64 t397,.slice none 0 0]) ?_ 3 _ rfl;(with_reducible repeat (first|refine blk_drewN ?_ _|refine blk_drew ?_|refine blk_alloc ?_ _));refine blk_put (cs:=#[.string t395,.int .i64 t396,.int .i64 0,.slice none 0 0]) ?_ 2 _ rfl;(with_reducible repeat (first|refine blk_drewN ?_ _|refine blk_drew ?_|refine blk_alloc ?_ _));refine blk_put (cs:=#[.string t395,.int .i64 0,.int .i64 0,.slice none 0 0]) ?_ 1 _ rfl;(with_reducible repeat (first|refine blk_drewN ?_ _|refine blk_drew ?_|refine blk_alloc ?_ _));refine blk_put (cs:=#[.string (⟨#[]⟩:ByteArray),.int .i64 0,.int .i64 0,.slice none 0 0]) ?_ 0 _ rfl;(with_reducible repeat (first|refine blk_drewN ?_ _|refine blk_drew ?_|refine blk_alloc ?_ _));exact BK402.out):P:=h
theorem t8_ {P:Prop} (h:P:=by repeat (first|(with_reducible first|exact HB.out|apply below_alloc|apply pw_below_drewN|apply below_drew1|refine below_set ?_ GE277.out|refine below_set ?_ GE278.out)|exact HB.out)):P:=h
theorem t9_ {P:Prop} (h:P:=by repeat (first|(with_reducible first|exact HB.out|apply below_alloc|apply pw_below_drewN|apply below_drew1|refine below_set ?_ GE277.out|refine below_set ?_ GE278.out|refine below_set ?_ GE284.out)|exact HB.out)):P:=h
theorem t10_ {P:Prop} (h:P:=by (with_reducible repeat (first|apply Kd.N_alloc|apply Kd.N_drewN|apply Kd.N_drew));exact Kd.N_mono (Kd.N_far (p:=⟨gb402,3,none⟩) (Kd.N_far (p:=⟨gb402,2,none⟩) (Kd.N_far (p:=⟨gb402,1,none⟩) (Kd.N_far (p:=⟨gb402,0,none⟩) (Kd.N_mono HO_347003.out (fun k_ hk=>(⟨hk,hk.2⟩:_∧k_≠gb402))) (fun _ hk=>hk.2) (.string t395)) (fun _ hk=>hk.2) (.int .i64 t396)) (fun _ hk=>hk.2) (.int .i64 t397)) (fun _ hk=>hk.2) (.slice Ao83 t398.length co83)) (fun _ hk=>⟨hk.1.1.1.1.1.1,⟨hk.1.1.1.1.1.2.1,⟨hk.1.1.1.1.1.2.2.1,⟨hk.1.1.1.1.1.2.2.2.1,⟨hk.1.1.1.1.2,⟨hk.1.1.2,⟨hk.1.1.1.1.1.2.2.2.2.1,⟨hk.1.1.1.1.1.2.2.2.2.2,⟨hk.1.1.1.2,hk.1.2⟩⟩⟩⟩⟩⟩⟩⟩⟩)):P:=h
theorem t11_ {P:Prop} (h:P:=by (with_reducible repeat (first|apply Kd.N_alloc|apply Kd.N_drewN|apply Kd.N_drew));exact Kd.N_mono (Kd.N_far (p:=⟨gb402,3,none⟩) (Kd.N_far (p:=⟨gb402,2,none⟩) (Kd.N_far (p:=⟨gb402,1,none⟩) (Kd.N_far (p:=⟨gb402,0,none⟩) (Kd.N_mono HO_340003.out (fun k_ hk=>(⟨hk,hk.2⟩:_∧k_≠gb402))) (fun _ hk=>hk.2) (.string t395)) (fun _ hk=>hk.2) (.int .i64 t396)) (fun _ hk=>hk.2) (.int .i64 t397)) (fun _ hk=>hk.2) (.slice Ao83 t398.length co83)) (fun _ hk=>⟨hk.1.1.1.1.1.1,⟨hk.1.1.1.1.1.2.1,⟨hk.1.1.1.1.1.2.2.1,⟨hk.1.1.1.1.1.2.2.2.1,⟨hk.1.1.1.1.2,⟨hk.1.1.2,⟨hk.1.1.1.1.1.2.2.2.2.1,⟨hk.1.1.1.1.1.2.2.2.2.2,⟨hk.1.1.1.2,hk.1.2⟩⟩⟩⟩⟩⟩⟩⟩⟩)):P:=h
theorem t12_ {P:Prop} (h:P:=by (with_reducible repeat (first|apply Kd.N_alloc|apply Kd.N_drewN|apply Kd.N_drew));exact Kd.N_mono (Kd.N_far (p:=⟨gb402,3,none⟩) (Kd.N_far (p:=⟨gb402,2,none⟩) (Kd.N_far (p:=⟨gb402,1,none⟩) (Kd.N_far (p:=⟨gb402,0,none⟩) (Kd.N_mono HO400.out (fun k_ hk=>(⟨hk,hk.2⟩:_∧k_≠gb402))) (fun _ hk=>hk.2) (.string t395)) (fun _ hk=>hk.2) (.int .i64 t396)) (fun _ hk=>hk.2) (.int .i64 t397)) (fun _ hk=>hk.2) (.slice Ao83 t398.length co83)) (fun _ hk=>⟨hk.1.1.1,⟨hk.1.1.2.1,⟨hk.1.1.2.2.1,⟨hk.1.1.2.2.2.1,⟨hk.1.1.2.2.2.2.1,⟨hk.1.1.2.2.2.2.2.1,⟨hk.1.1.2.2.2.2.2.2.1,⟨hk.1.1.2.2.2.2.2.2.2.1,⟨hk.1.1.2.2.2.2.2.2.2.2,hk.1.2⟩⟩⟩⟩⟩⟩⟩⟩⟩)):P:=h
theorem t13_ {P:Prop} (h:P:=by (with_reducible repeat (first|apply Kd.N_alloc|apply Kd.N_drewN|apply Kd.N_drew));exact Kd.N_mono (Kd.N_far (p:=⟨gb402,3,none⟩) (Kd.N_far (p:=⟨gb402,2,none⟩) (Kd.N_far (p:=⟨gb402,1,none⟩) (Kd.N_far (p:=⟨gb402,0,none⟩) (Kd.N_mono HO392.out (fun k_ hk=>(⟨hk,hk.2⟩:_∧k_≠gb402))) (fun _ hk=>hk.2) (.string t395)) (fun _ hk=>hk.2) (.int .i64 t396)) (fun _ hk=>hk.2) (.int .i64 t397)) (fun _ hk=>hk.2) (.slice Ao83 t398.length co83)) (fun _ hk=>⟨hk.1.1.1.1.1,⟨hk.1.1.1.1.2.1,⟨hk.1.1.1.1.2.2.1,⟨hk.1.1.1.1.2.2.2.1,⟨hk.1.1.1.1.2.2.2.2.1,⟨hk.1.1.2,⟨hk.1.1.1.1.2.2.2.2.2.1,⟨hk.1.1.1.1.2.2.2.2.2.2,⟨hk.1.1.1.2,hk.1.2⟩⟩⟩⟩⟩⟩⟩⟩⟩)):P:=h
theorem t14_ {P:Prop} (h:P:=by (with_reducible repeat (first|refine blk_drewN ?_ _|refine blk_drew ?_|refine blk_alloc ?_ _));refine blk_far ?_ NB394_402.out _;(with_reducible repeat (first|refine blk_drewN ?_ _|refine blk_drew ?_|refine blk_alloc ?_ _));refine blk_far ?_ NB394_402.out _;(with_reducible repeat (first|refine blk_drewN ?_ _|refine blk_drew ?_|refine blk_alloc ?_ _));refine blk_far ?_ NB394_402.out _;(with_reducible repeat (first|refine blk_drewN ?_ _|refine blk_drew ?_|refine blk_alloc ?_ _));refine blk_far ?_ NB394_402.out _;(with_reducible repeat (first|refine blk_drewN ?_ _|refine blk_drew ?_|refine blk_alloc ?_ _));exact BK394.out):P:=h
theorem t15_ {P:Prop} (h:P:=by (with_reducible repeat (first|refine blk_drewN ?_ _|refine blk_drew ?_|refine blk_alloc ?_ _));refine blk_far ?_ NB346_402.out _;(with_reducible repeat (first|refine blk_drewN ?_ _|refine blk_drew ?_|refine blk_alloc ?_ _));refine blk_far ?_ NB346_402.out _;(with_reducible repeat (first|refine blk_drewN ?_ _|refine blk_drew ?_|refine blk_alloc ?_ _));refine blk_far ?_ NB346_402.out _;(with_reducible repeat (first|refine blk_drewN ?_ _|refine blk_drew ?_|refine blk_alloc ?_ _));refine blk_far ?_ NB346_402.out _;(with_reducible repeat (first|refine blk_drewN ?_ _|refine blk_drew ?_|refine blk_alloc ?_ _));exact BK346.out):P:=h
theorem t16_ {P:Prop} (h:P:=by (with_reducible repeat (first|refine blk_drewN ?_ _|refine blk_drew ?_|refine blk_alloc ?_ _));refine blk_far ?_ NB339_402.out _;(with_reducible repeat (first|refine blk_drewN ?_ _|refine blk_drew ?_|refine blk_alloc ?_ _));refine blk_far ?_ NB339_402.out _;(with_reducible repeat (first|refine blk_drewN ?_ _|refine blk_drew ?_|refine blk_alloc ?_ _));refine blk_far ?_ NB339_402.out _;(with_reducible repeat (first|refine blk_drewN ?_ _|refine blk_drew ?_|refine blk_alloc ?_ _));refine blk_far ?_ NB339_402.out _;(with_reducible repeat (first|refine blk_drewN ?_ _|refine blk_drew ?_|refine blk_alloc ?_ _));exact BK339.out):P:=h
theorem t17_ {P:Prop} (h:P:=by repeat (first|exact Drawn0.refl _|apply Drawn0.step)):P:=h
theorem t18_ {P:Prop} (h:P:=by (with_reducible repeat (first|refine blk_drewN ?_ _|refine blk_drew ?_|refine blk_alloc ?_ _));exact BK346.out):P:=h
theorem t19_ {P:Prop} (h:P:=by (with_reducible repeat (first|refine blk_drewN ?_ _|refine blk_drew ?_|refine blk_alloc ?_ _));exact BK339.out):P:=h
theorem t20_ {P:Prop} (h:P:=by kernel_rfl):P:=h
theorem t21_ {P:Prop} (h:P:=by (with_reducible repeat (first|refine blk_drewN ?_ _|refine blk_drew ?_|refine blk_alloc ?_ _));refine blk_put (cs:=#[.string (⟨#[]⟩:ByteArray),.int .i64 0,.int .i64 0,.slice none 0 0]) ?_ 3 _ rfl;(with_reducible repeat (first|refine blk_drewN ?_ _|refine blk_drew ?_|refine blk_alloc ?_ _));refine blk_put (cs:=#[.string (⟨#[]⟩:ByteArray),.int .i64 0,.int .i64 0,.slice none 0 0]) ?_ 2 _ rfl;(with_reducible repeat (first|refine blk_drewN ?_ _|refine blk_drew ?_|refine blk_alloc ?_ _));refine blk_put (cs:=#[.string (⟨#[]⟩:ByteArray),.int .i64 0,.int .i64 0,.slice none 0 0]) ?_ 1 _ rfl;(with_reducible repeat (first|refine blk_drewN ?_ _|refine blk_drew ?_|refine blk_alloc ?_ _));refine blk_put (cs:=#[.string (⟨#[]⟩:ByteArray),.int .i64 0,.int .i64 0,.slice none 0 0]) ?_ 0 _ rfl;(with_reducible repeat (first|refine blk_drewN ?_ _|refine blk_drew ?_|refine blk_alloc ?_ _));exact BK278.out):P:=h
theorem t22_ {P:Prop} (h:P:=by repeat (first|(with_reducible first|exact HB.out|apply below_alloc|apply pw_below_drewN|apply below_drew1|refine below_set ?_ GE159.out)|exact HB.out)):P:=h
theorem t23_ {P:Prop} (h:P:=by repeat (first|(with_reducible first|exact HB.out|apply below_alloc|apply pw_below_drewN|apply below_drew1|refine below_set ?_ GE263.out)|exact HB.out)):P:=h
theorem t24_ {P:Prop} (h:P:=by (with_reducible repeat (first|apply Kd.R_alloc|apply Kd.R_drewN|apply Kd.R_drew));exact Kd.R_mono (Kd.R_far (p:=⟨gb402,3,none⟩) (Kd.R_far (p:=⟨gb402,2,none⟩) (Kd.R_far (p:=⟨gb402,1,none⟩) (Kd.R_far (p:=⟨gb402,0,none⟩) (Kd.R_types HO_19.out BK402.out (by decide)) (fun _ hk=>hk.2) (.string t395)) (fun _ hk=>hk.2) (.int .i64 t396)) (fun _ hk=>hk.2) (.int .i64 t397)) (fun _ hk=>hk.2) (.slice Ao83 t398.length co83)) (fun _ hk=>⟨hk.1.1,hk.1.2⟩)):P:=h
theorem t25_ {P:Prop} (h:P:=by (with_reducible repeat (first|apply Kd.R_alloc|apply Kd.R_drewN|apply Kd.R_drew));exact Kd.R_mono (Kd.R_far (p:=⟨gb402,3,none⟩) (Kd.R_far (p:=⟨gb402,2,none⟩) (Kd.R_far (p:=⟨gb402,1,none⟩) (Kd.R_far (p:=⟨gb402,0,none⟩) (Kd.R_types HO_17.out BK402.out (by decide)) (fun _ hk=>hk.2) (.string t395)) (fun _ hk=>hk.2) (.int .i64 t396)) (fun _ hk=>hk.2) (.int .i64 t397)) (fun _ hk=>hk.2) (.slice Ao83 t398.length co83)) (fun _ hk=>⟨hk.1.1,hk.1.2⟩)):P:=h
theorem t26_ {P:Prop} (h:P:=by (with_reducible repeat (first|apply Kd.R_alloc|apply Kd.R_drewN|apply Kd.R_drew));exact Kd.R_mono (Kd.R_far (p:=⟨gb402,3,none⟩) (Kd.R_far (p:=⟨gb402,2,none⟩) (Kd.R_far (p:=⟨gb402,1,none⟩) (Kd.R_far (p:=⟨gb402,0,none⟩) (Kd.R_types HO_16.out BK402.out (by decide)) (fun _ hk=>hk.2) (.string t395)) (fun _ hk=>hk.2) (.int .i64 t396)) (fun _ hk=>hk.2) (.int .i64 t397)) (fun _ hk=>hk.2) (.slice Ao83 t398.length co83)) (fun _ hk=>⟨hk.1.1,hk.1.2⟩)):P:=h
theorem t27_ {P:Prop} (h:P:=by repeat (first|(with_reducible first|exact HK.out|apply KeepBut.set_|apply keep_drewN|apply keep_drew|apply keep_alloc|refine keep_far ?_ GW113.out _|refine keep_far ?_ GW123.out _)|exact HK.out)):P:=h
theorem t28_ {P:Prop} (h:P:=by repeat (first|(with_reducible first|exact HK.out|apply KeepBut.set_|apply keep_drewN|apply keep_drew|apply keep_alloc)|exact HK.out)):P:=h
theorem t29_ {P:Prop} (h:P:=by repeat (first|(with_reducible first|exact HB.out|apply below_alloc|apply pw_below_drewN|apply below_drew1|refine below_set ?_ GE277.out)|exact HB.out)):P:=h
theorem t30_ {P:Prop} (h:P:=by (with_reducible repeat (first|refine blk_drewN ?_ _|refine blk_drew ?_|refine blk_alloc ?_ _));exact BK159.out):P:=h
theorem t31_ {P:Prop} (h:P:=by omega):P:=h
theorem t32_ {P:Prop} (h:P:=by first|rfl|(simp [errW_none,errW_some]<;>rfl)|(simp [*,errW_none,errW_some]<;>rfl)):P:=h
theorem t33_ {P:Prop} (h:P:=by (with_reducible repeat (first|apply Kd.N_alloc|apply Kd.N_drewN|apply Kd.N_drew));exact Kd.N_mono HO_347003.out (fun _ hk=>⟨hk.2.2.2.1,⟨hk.2.2.2.2.1,⟨hk.2.2.2.2.2.1,⟨hk.2.2.2.2.2.2.1,⟨hk.2.2.2.2.2.2.2.1,⟨hk.2.2.2.2.2.2.2.2.1,hk.2.2.2.2.2.2.2.2.2⟩⟩⟩⟩⟩⟩)):P:=h
theorem t34_ {P:Prop} (h:P:=by (with_reducible repeat (first|apply Kd.N_alloc|apply Kd.N_drewN|apply Kd.N_drew));exact Kd.N_mono HO_340003.out (fun _ hk=>⟨hk.2.2.2.1,⟨hk.2.2.2.2.1,⟨hk.2.2.2.2.2.1,⟨hk.2.2.2.2.2.2.1,⟨hk.2.2.2.2.2.2.2.1,⟨hk.2.2.2.2.2.2.2.2.1,hk.2.2.2.2.2.2.2.2.2⟩⟩⟩⟩⟩⟩)):P:=h
theorem t35_ {P:Prop} (h:P:=by (with_reducible repeat (first|apply Kd.N_alloc|apply Kd.N_drewN|apply Kd.N_drew));exact Kd.N_mono HO400.out (fun _ hk=>⟨hk.2.2.2.1,⟨hk.2.2.2.2.1,⟨hk.2.2.2.2.2.1,⟨hk.2.2.2.2.2.2.1,⟨hk.2.2.2.2.2.2.2.1,⟨hk.2.2.2.2.2.2.2.2.1,hk.2.2.2.2.2.2.2.2.2⟩⟩⟩⟩⟩⟩)):P:=h
theorem t36_ {P:Prop} (h:P:=by (with_reducible repeat (first|apply Kd.N_alloc|apply Kd.N_drewN|apply Kd.N_drew));exact Kd.N_mono HO392.out (fun _ hk=>⟨hk.2.2.2.1,⟨hk.2.2.2.2.1,⟨hk.2.2.2.2.2.1,⟨hk.2.2.2.2.2.2.1,⟨hk.2.2.2.2.2.2.2.1,⟨hk.2.2.2.2.2.2.2.2.1,hk.2.2.2.2.2.2.2.2.2⟩⟩⟩⟩⟩⟩)):P:=h
theorem t37_ {P:Prop} (h:P:=by repeat (first|(with_reducible first|exact HB.out|apply below_alloc|apply pw_below_drewN|apply below_drew1|refine below_set ?_ (IsS57.ge HI0.out))|exact HB.out)):P:=h
theorem t38_ {P:Prop} (h:P:=by repeat (first|(with_reducible first|exact HI0.out|apply IsS57.alloc|apply IsS57.drewN|apply IsS57.drew|apply IsS57.set_1|apply IsS57.set_2)|exact HI0.out)):P:=h
theorem t39_ {P:Prop} (h:P:=by repeat (first|(with_reducible first|exact HB.out|apply below_alloc|apply pw_below_drewN|apply below_drew1|refine below_set ?_ GE199.out)|exact HB.out)):P:=h
theorem t40_ {P:Prop} (h:P:=by repeat (first|(with_reducible first|exact HK.out|apply KeepBut.set_|apply keep_drewN|apply keep_drew|apply keep_alloc|refine keep_far ?_ GW113.out _)|exact HK.out)):P:=h
theorem t41_ {P:Prop} (h:P:=by have:=HJ1.out;have:=HK2.out;first|omega|exact Nat.le_refl _):P:=h
theorem t42_ {P:Prop} (h:P:=by (with_reducible repeat (first|refine blk_drewN ?_ _|refine blk_drew ?_|refine blk_alloc ?_ _));refine blk_put (cs:=#[.string ((rd_T26 l0 x34_2).f0),.int .i64 ((rd_T26 l0 x34_2).f1),.int .i64 ((rd_T26 l0 x34_2).f2),.slice none 0 0]) ?_ 3 _ rfl;(with_reducible repeat (first|refine blk_drewN ?_ _|refine blk_drew ?_|refine blk_alloc ?_ _));refine blk_put (cs:=#[.string ((rd_T26 l0 x34_2).f0),.int .i64 ((rd_T26 l0 x34_2).f1),.int .i64 0,.slice none 0 0]) ?_ 2 _ rfl;(with_reducible repeat (first|refine blk_drewN ?_ _|refine blk_drew ?_|refine blk_alloc ?_ _));refine blk_put (cs:=#[.string ((rd_T26 l0 x34_2).f0),.int .i64 0,.int .i64 0,.slice none 0 0]) ?_ 1 _ rfl;(with_reducible repeat (first|refine blk_drewN ?_ _|refine blk_drew ?_|refine blk_alloc ?_ _));refine blk_put (cs:=#[.string (⟨#[]⟩:ByteArray),.int .i64 0,.int .i64 0,.slice none 0 0]) ?_ 0 _ rfl;(with_reducible repeat (first|refine blk_drewN ?_ _|refine blk_drew ?_|refine blk_alloc ?_ _));exact BK199.out):P:=h
theorem t43_ {P:Prop} (h:P:=by (with_reducible repeat (first|apply Kd.N_alloc|apply Kd.N_drewN|apply Kd.N_drew));exact (Kd.N_mono (Kd.N_far (p:=⟨gb394,3,none⟩) (Kd.N_far (p:=⟨gb394,2,none⟩) (Kd.N_far (p:=⟨gb394,1,none⟩) (Kd.N_far (p:=⟨gb394,0,none⟩) (Kd.N_mono HO_340003.out (fun k_ hk=>(⟨hk,hk.2⟩:_∧k_≠gb394))) (fun _ hk=>hk.2) (.string t387)) (fun _ hk=>hk.2) (.int .i64 t388)) (fun _ hk=>hk.2) (.int .i64 t389)) (fun _ hk=>hk.2) (.slice Ao75 t390.length co75)) (fun _ h_=>h_.1))):P:=h
theorem t44_ {P:Prop} (h:P:=by (with_reducible repeat (first|apply Kd.N_alloc|apply Kd.N_drewN|apply Kd.N_drew));exact Kd.N_mono HO345.out (fun _ hk=>⟨hk.1.1,⟨hk.1.2.1,hk.1.2.2⟩⟩)):P:=h
theorem t45_ {P:Prop} (h:P:=by (with_reducible repeat (first|apply Kd.N_alloc|apply Kd.N_drewN|apply Kd.N_drew));exact Kd.N_mono HO338.out (fun _ hk=>⟨hk.1.1,⟨hk.1.2.1,hk.1.2.2⟩⟩)):P:=h
theorem t46_ {P:Prop} (h:P:=by (with_reducible repeat (first|apply Kd.N_alloc|apply Kd.N_drewN|apply Kd.N_drew));exact HO_347003.out):P:=h
theorem t47_ {P:Prop} (h:P:=by (with_reducible repeat (first|apply Kd.N_alloc|apply Kd.N_drewN|apply Kd.N_drew));exact HO_340003.out):P:=h
theorem t48_ {P:Prop} (h:P:=by repeat (first|(with_reducible first|exact HI0.out|apply IsS57.alloc|apply IsS57.drewN|apply IsS57.drew|apply IsS57.set_1|apply IsS57.set_2|refine IsS57.far ?_ NB0_113.out _|refine IsS57.far ?_ NB0_123.out _)|exact HI0.out)):P:=h
theorem t49_ {P:Prop} (h:P:=by have:=HJ3.out;have:=HJ12.out;have:=HJ40.out;have:=HK4.out;have:=HJ50.out;have:=HJ58.out;have:=HK7.out;first|omega|exact Nat.le_refl _):P:=h
theorem t50_ {P:Prop} (h:P:=by repeat (first|(with_reducible first|exact HB.out|apply below_alloc|apply pw_below_drewN|apply below_drew1|refine below_set ?_ (IsS57.ge HI0.out)|refine below_set ?_ GE113.out|refine below_set ?_ GE123.out)|exact HB.out)):P:=h
theorem t51_ {P:Prop} (h:P:=by (with_reducible repeat (first|refine blk_drewN ?_ _|refine blk_drew ?_|refine blk_alloc ?_ _));refine blk_put (cs:=#[.string t387,.int .i64 t388,.int .i64 t389,.slice none 0 0]) ?_ 3 _ rfl;(with_reducible repeat (first|refine blk_drewN ?_ _|refine blk_drew ?_|refine blk_alloc ?_ _));refine blk_put (cs:=#[.string t387,.int .i64 t388,.int .i64 0,.slice none 0 0]) ?_ 2 _ rfl;(with_reducible repeat (first|refine blk_drewN ?_ _|refine blk_drew ?_|refine blk_alloc ?_ _));refine blk_put (cs:=#[.string t387,.int .i64 0,.int .i64 0,.slice none 0 0]) ?_ 1 _ rfl;(with_reducible repeat (first|refine blk_drewN ?_ _|refine blk_drew ?_|refine blk_alloc ?_ _));refine blk_put (cs:=#[.string (⟨#[]⟩:ByteArray),.int .i64 0,.int .i64 0,.slice none 0 0]) ?_ 0 _ rfl;(with_reducible repeat (first|refine blk_drewN ?_ _|refine blk_drew ?_|refine blk_alloc ?_ _));exact BK394.out):P:=h
theorem t52_ {P:Prop} (h:P:=by (with_reducible repeat (first|refine blk_drewN ?_ _|refine blk_drew ?_|refine blk_alloc ?_ _));refine blk_put (cs:=#[.string t333,.int .i64 t334,.int .i64 t335,.slice none 0 0]) ?_ 3 _ rfl;(with_reducible repeat (first|refine blk_drewN ?_ _|refine blk_drew ?_|refine blk_alloc ?_ _));refine blk_put (cs:=#[.string t333,.int .i64 t334,.int .i64 0,.slice none 0 0]) ?_ 2 _ rfl;(with_reducible repeat (first|refine blk_drewN ?_ _|refine blk_drew ?_|refine blk_alloc ?_ _));refine blk_put (cs:=#[.string t333,.int .i64 0,.int .i64 0,.slice none 0 0]) ?_ 1 _ rfl;(with_reducible repeat (first|refine blk_drewN ?_ _|refine blk_drew ?_|refine blk_alloc ?_ _));refine blk_put (cs:=#[.string (⟨#[]⟩:ByteArray),.int .i64 0,.int .i64 0,.slice none 0 0]) ?_ 0 _ rfl;(with_reducible repeat (first|refine blk_drewN ?_ _|refine blk_drew ?_|refine blk_alloc ?_ _));exact BK339.out):P:=h
theorem t53_ {P:Prop} (h:P:=by repeat (first|(with_reducible first|exact HB.out|apply below_alloc|apply pw_below_drewN|apply below_drew1|refine below_set ?_ GE339.out|refine below_set ?_ GE346.out|refine below_set ?_ GE394.out)|exact HB.out)):P:=h
theorem t54_ {P:Prop} (h:P:=by repeat (first|exact (Kd.C_below HR0_3.out HB.out)|(with_reducible refine Kd.C_alloc ?_ _)|(with_reducible refine Kd.C_drewN ?_ _)|(with_reducible refine Kd.C_drew ?_))):P:=h
theorem t55_ {P:Prop} (h:P:=by (with_reducible repeat (first|apply Kd.R_alloc|apply Kd.R_drewN|apply Kd.R_drew));exact HO_17.out):P:=h
theorem t56_ {P:Prop} (h:P:=by (with_reducible repeat (first|apply Kd.R_alloc|apply Kd.R_drewN|apply Kd.R_drew));exact HO_16.out):P:=h
theorem t57_ {P:Prop} (h:P:=by (with_reducible repeat (first|refine blk_drewN ?_ _|refine blk_drew ?_|refine blk_alloc ?_ _));exact BK402.out):P:=h
theorem t58_ {P:Prop} (h:P:=by (with_reducible repeat (first|refine blk_drewN ?_ _|refine blk_drew ?_|refine blk_alloc ?_ _));exact BK394.out):P:=h
theorem t59_ {P:Prop} (h:P:=by repeat (first|(with_reducible first|exact HB.out|apply below_alloc|apply pw_below_drewN|apply below_drew1|refine below_set ?_ GE339.out)|exact HB.out)):P:=h
theorem t60_ {P:Prop} (h:P:=by decide):P:=h
theorem t61_ {P:Prop} (h:P:=by first|exact Kd.S_nil _ _ _ _ _|exact Kd.N_nil _ _ _ _ _|exact Kd.V_nil _ _ _ _ _|exact Kd.Q_nil _ _ _ _ _|exact Kd.R_nil _ _ _ _ _):P:=h
theorem t62_ {P:Prop} (h:P:=by (with_reducible repeat (first|refine blk_drewN ?_ _|refine blk_drew ?_|refine blk_alloc ?_ _));refine blk_far ?_ NB346_394.out _;(with_reducible repeat (first|refine blk_drewN ?_ _|refine blk_drew ?_|refine blk_alloc ?_ _));refine blk_far ?_ NB346_394.out _;(with_reducible repeat (first|refine blk_drewN ?_ _|refine blk_drew ?_|refine blk_alloc ?_ _));refine blk_far ?_ NB346_394.out _;(with_reducible repeat (first|refine blk_drewN ?_ _|refine blk_drew ?_|refine blk_alloc ?_ _));refine blk_far ?_ NB346_394.out _;(with_reducible repeat (first|refine blk_drewN ?_ _|refine blk_drew ?_|refine blk_alloc ?_ _));exact BK346.out):P:=h
theorem t63_ {P:Prop} (h:P:=by (with_reducible repeat (first|refine blk_drewN ?_ _|refine blk_drew ?_|refine blk_alloc ?_ _));refine blk_far ?_ NB339_394.out _;(with_reducible repeat (first|refine blk_drewN ?_ _|refine blk_drew ?_|refine blk_alloc ?_ _));refine blk_far ?_ NB339_394.out _;(with_reducible repeat (first|refine blk_drewN ?_ _|refine blk_drew ?_|refine blk_alloc ?_ _));refine blk_far ?_ NB339_394.out _;(with_reducible repeat (first|refine blk_drewN ?_ _|refine blk_drew ?_|refine blk_alloc ?_ _));refine blk_far ?_ NB339_394.out _;(with_reducible repeat (first|refine blk_drewN ?_ _|refine blk_drew ?_|refine blk_alloc ?_ _));exact BK339.out):P:=h
theorem t64_ {P:Prop} (h:P:=by repeat (first|(with_reducible first|exact HB.out|apply below_alloc|apply pw_below_drewN|apply below_drew1|refine below_set ?_ GE329.out)|exact HB.out)):P:=h
theorem t65_ {P:Prop} (h:P:=by simp):P:=h
theorem t66_ {P:Prop} (h:P:=by first|omega|exact Nat.le_refl _):P:=h
theorem t67_ {P:Prop} (h:P:=by first|exact Kd.R_nil _ _ _ _ _|exact Kd.N_nil _ _ _ _ _|exact Kd.V_nil _ _ _ _ _|exact Kd.Q_nil _ _ _ _ _|exact Kd.S_nil _ _ _ _ _):P:=h
theorem t68_ {P:Prop} (h:P:=by (with_reducible repeat (first|apply Kd.R_alloc|apply Kd.R_drewN|apply Kd.R_drew));exact HO_19.out):P:=h
theorem t69_ {P:Prop} (h:P:=by (with_reducible repeat (first|apply Kd.N_alloc|apply Kd.N_drewN|apply Kd.N_drew));exact (Kd.N_mono (Kd.N_far (p:=⟨gb394,3,none⟩) (Kd.N_far (p:=⟨gb394,2,none⟩) (Kd.N_far (p:=⟨gb394,1,none⟩) (Kd.N_far (p:=⟨gb394,0,none⟩) (Kd.N_mono HO_347003.out (fun k_ hk=>(⟨hk,hk.2⟩:_∧k_≠gb394))) (fun _ hk=>hk.2) (.string t387)) (fun _ hk=>hk.2) (.int .i64 t388)) (fun _ hk=>hk.2) (.int .i64 t389)) (fun _ hk=>hk.2) (.slice Ao75 t390.length co75)) (fun _ h_=>h_.1))):P:=h
theorem t70_ {P:Prop} (h:P:=by (with_reducible repeat (first|apply Kd.N_alloc|apply Kd.N_drewN|apply Kd.N_drew));exact (Kd.N_mono (Kd.N_far (p:=⟨gb394,3,none⟩) (Kd.N_far (p:=⟨gb394,2,none⟩) (Kd.N_far (p:=⟨gb394,1,none⟩) (Kd.N_far (p:=⟨gb394,0,none⟩) (Kd.N_mono HO392.out (fun k_ hk=>(⟨hk,hk.2⟩:_∧k_≠gb394))) (fun _ hk=>hk.2) (.string t387)) (fun _ hk=>hk.2) (.int .i64 t388)) (fun _ hk=>hk.2) (.int .i64 t389)) (fun _ hk=>hk.2) (.slice Ao75 t390.length co75)) (fun _ h_=>h_.1))):P:=h
theorem t71_ {P:Prop} (h:P:=by (with_reducible repeat (first|apply Kd.N_alloc|apply Kd.N_drewN|apply Kd.N_drew));exact (Kd.N_mono (Kd.N_far (p:=⟨gb339,3,none⟩) (Kd.N_far (p:=⟨gb339,2,none⟩) (Kd.N_far (p:=⟨gb339,1,none⟩) (Kd.N_far (p:=⟨gb339,0,none⟩) (Kd.N_mono HO338.out (fun k_ hk=>(⟨hk,hk.2⟩:_∧k_≠gb339))) (fun _ hk=>hk.2) (.string t333)) (fun _ hk=>hk.2) (.int .i64 t334)) (fun _ hk=>hk.2) (.int .i64 t335)) (fun _ hk=>hk.2) (.slice Ao17 t336.length co17)) (fun _ h_=>h_.1))):P:=h
theorem t72_ {P:Prop} (h:P:=by repeat (first|(with_reducible first|exact HB.out|apply below_alloc|apply pw_below_drewN|apply below_drew1|refine below_set ?_ GE259.out)|exact HB.out)):P:=h
theorem t73_ {P:Prop} (h:P:=by repeat (first|(with_reducible first|exact HB.out|apply below_alloc|apply pw_below_drewN|apply below_drew1|refine below_set ?_ GE179.out)|exact HB.out)):P:=h
theorem t74_ {P:Prop} (h:P:=by (with_reducible repeat (first|apply Kd.R_alloc|apply Kd.R_drewN|apply Kd.R_drew));exact (Kd.R_mono (Kd.R_far (p:=⟨gb394,3,none⟩) (Kd.R_far (p:=⟨gb394,2,none⟩) (Kd.R_far (p:=⟨gb394,1,none⟩) (Kd.R_far (p:=⟨gb394,0,none⟩) (Kd.R_types HO_19.out BK394.out t60_) (fun _ hk=>hk.2) (.string t387)) (fun _ hk=>hk.2) (.int .i64 t388)) (fun _ hk=>hk.2) (.int .i64 t389)) (fun _ hk=>hk.2) (.slice Ao75 t390.length co75)) (fun _ h_=>h_.1))):P:=h
theorem t75_ {P:Prop} (h:P:=by (with_reducible repeat (first|apply Kd.R_alloc|apply Kd.R_drewN|apply Kd.R_drew));exact (Kd.R_mono (Kd.R_far (p:=⟨gb394,3,none⟩) (Kd.R_far (p:=⟨gb394,2,none⟩) (Kd.R_far (p:=⟨gb394,1,none⟩) (Kd.R_far (p:=⟨gb394,0,none⟩) (Kd.R_types HO_17.out BK394.out t60_) (fun _ hk=>hk.2) (.string t387)) (fun _ hk=>hk.2) (.int .i64 t388)) (fun _ hk=>hk.2) (.int .i64 t389)) (fun _ hk=>hk.2) (.slice Ao75 t390.length co75)) (fun _ h_=>h_.1))):P:=h
theorem t76_ {P:Prop} (h:P:=by (with_reducible repeat (first|apply Kd.R_alloc|apply Kd.R_drewN|apply Kd.R_drew));exact (Kd.R_mono (Kd.R_far (p:=⟨gb394,3,none⟩) (Kd.R_far (p:=⟨gb394,2,none⟩) (Kd.R_far (p:=⟨gb394,1,none⟩) (Kd.R_far (p:=⟨gb394,0,none⟩) (Kd.R_types HO_16.out BK394.out t60_) (fun _ hk=>hk.2) (.string t387)) (fun _ hk=>hk.2) (.int .i64 t388)) (fun _ hk=>hk.2) (.int .i64 t389)) (fun _ hk=>hk.2) (.slice Ao75 t390.length co75)) (fun _ h_=>h_.1))):P:=h
theorem t77_ {P:Prop} (h:P:=by (with_reducible repeat (first|refine blk_drewN ?_ _|refine blk_drew ?_|refine blk_alloc ?_ _));exact BK263.out):P:=h
theorem t78_ {P:Prop} (h:P:=by repeat (first|(with_reducible first|exact HB.out|apply below_alloc|apply pw_below_drewN|apply below_drew1|refine below_set ?_ GE187.out)|exact HB.out)):P:=h
theorem t79_ {P:Prop} (h:P:=by have:=HJ3.out;first|omega|exact Nat.le_refl _):P:=h
theorem t80_ {P:Prop} (h:P:=by have:=HK1.out;omega):P:=h
theorem t81_ {P:Prop} (h:P:=by rfl):P:=h
theorem t82_ {P:Prop} (h:P:=by (with_reducible repeat (first|refine blk_drewN ?_ _|refine blk_drew ?_|refine blk_alloc ?_ _));refine blk_far ?_ NB113_123.out _;(with_reducible repeat (first|refine blk_drewN ?_ _|refine blk_drew ?_|refine blk_alloc ?_ _));exact BK113.out):P:=h
theorem t83_ {P:Prop} (h:P:=by (with_reducible repeat (first|refine blk_drewN ?_ _|refine blk_drew ?_|refine blk_alloc ?_ _));exact BK179.out):P:=h
theorem t84_ {P:Prop} (h:P:=by (with_reducible repeat (first|apply Kd.N_alloc|apply Kd.N_drewN|apply Kd.N_drew));exact Kd.N_mono HO_347003.out (fun _ hk=>⟨hk.1.1,⟨hk.1.2.1,⟨hk.2,⟨hk.1.2.2.1,⟨hk.1.2.2.2.1,hk.1.2.2.2.2⟩⟩⟩⟩⟩)):P:=h
theorem t85_ {P:Prop} (h:P:=by (with_reducible repeat (first|apply Kd.N_alloc|apply Kd.N_drewN|apply Kd.N_drew));exact Kd.N_mono HO_340003.out (fun _ hk=>⟨hk.1.1,⟨hk.1.2.1,⟨hk.2,⟨hk.1.2.2.1,⟨hk.1.2.2.2.1,hk.1.2.2.2.2⟩⟩⟩⟩⟩)):P:=h
theorem t86_ {P:Prop} (h:P:=by first|rfl|(rw [Int.tdiv_eq_ediv_of_nonneg t31_];rfl)|(simp [errW_none,errW_some]<;>rfl)|(simp only [← hji2];first|rfl|(simp [errW_none,errW_some]<;>rfl))|(simp [*,errW_none,errW_some]<;>rfl)):P:=h
theorem t87_ {P:Prop} (h:P:=by have:=HJ3.out;have:=HJ12.out;have:=HJ40.out;have:=HK4.out;first|omega|exact Nat.le_refl _):P:=h
theorem t88_ {P:Prop} (h:P:=by repeat (first|(with_reducible first|exact HB.out|apply below_alloc|apply pw_below_drewN|apply below_drew1|refine below_set ?_ (IsS57.ge HI146.out)|refine below_set ?_ GE142.out)|exact HB.out)):P:=h
theorem t89_ {P:Prop} (h:P:=by repeat (first|(with_reducible first|exact HI0.out|apply IsS57.alloc|apply IsS57.drewN|apply IsS57.drew|apply IsS57.set_1|apply IsS57.set_2|refine IsS57.far ?_ NB0_113.out _)|exact HI0.out)):P:=h
theorem t90_ {P:Prop} (h:P:=by repeat (first|(with_reducible first|exact HB.out|apply below_alloc|apply pw_below_drewN|apply below_drew1|refine below_set ?_ (IsS57.ge HI0.out)|refine below_set ?_ GE113.out)|exact HB.out)):P:=h



def errW:Option Int→Value
  |none=>.nilIface
  |some c=>.iface 0 (.int .i64 c)
theorem errW_none:errW none=.nilIface:=rfl
theorem errW_some (c:Int):errW (some c)=.iface 0 (.int .i64 c):=rfl

theorem info2:(Try.prog.info? 2).map (fun i=>(i.zero,i.size,i.bytes))=some (some (.int .i64 0),1,8):=by kernel_rfl
theorem info5:(Try.prog.info? 5).map (fun i=>(i.zero,i.size,i.bytes))=some (some (.int .u8 0),1,1):=by kernel_rfl
theorem info9:(Try.prog.info? 9).map (fun i=>(i.zero,i.size,i.bytes))=some (some (.string ⟨#[]⟩),1,16):=by kernel_rfl
theorem info26:(Try.prog.info? 26).map (fun i=>(i.zero,i.size,i.bytes))=some (some (.agg #[(.string ⟨#[]⟩),(.int .i64 0),(.int .i64 0),(.slice none 0 0)]),4,56):=by kernel_rfl
theorem info34:(Try.prog.info? 34).map (fun i=>(i.zero,i.size,i.bytes))=some (some (.slice none 0 0),1,24):=by kernel_rfl
-- the values' own types
def rd_L3 (xs:List (List Int)) (i:Int):(List Int):=xs.getD i.toNat ([]:List Int)
theorem at_L3 {w:World} {A:Option Addr} {n:Nat} {xs:List (List Int)} (h:Kd.C (Kd.slice 2 (Kd.int .i64)) w A n xs) (i:Int) (J:0≤i) (L:i<n):∃ ad E G,A=some ad∧w.cell? (ad.add i.toNat)=some (.slice E (rd_L3 xs i).length G)∧(rd_L3 xs i).length≤G∧(Kd.int .i64).C w E (rd_L3 xs i).length (rd_L3 xs i):=by
  obtain ⟨ad,c,e,_,hK,O⟩:=Kd.C_get h ([]:List Int) i J L;have hc:∀ j u,c[j]? =some u→w.cell? (ad.add (i.toNat * 1+j))=some u:=O;obtain ⟨E,G,rfl,l0,U⟩:=hK;exact ⟨ad,E,G,e,(by have hq:=hc 0 _ rfl;rwa [Nat.mul_one,Nat.add_zero] at hq),l0,U⟩

def rd_L4 (xs:List (List (List Int))) (i:Int):(List (List Int)):=xs.getD i.toNat ([]:List (List Int))
theorem at_L4 {w:World} {A:Option Addr} {n:Nat} {xs:List (List (List Int))} (h:Kd.C (Kd.slice 34 (Kd.slice 2 (Kd.int .i64))) w A n xs) (i:Int) (J:0≤i) (L:i<n):∃ ad E G,A=some ad∧w.cell? (ad.add i.toNat)=some (.slice E (rd_L4 xs i).length G)∧(rd_L4 xs i).length≤G∧(Kd.slice 2 (Kd.int .i64)).C w E (rd_L4 xs i).length (rd_L4 xs i):=by
  obtain ⟨ad,c,e,_,hK,O⟩:=Kd.C_get h ([]:List (List Int)) i J L;have hc:∀ j u,c[j]? =some u→w.cell? (ad.add (i.toNat * 1+j))=some u:=O;obtain ⟨E,G,rfl,l0,U⟩:=hK;exact ⟨ad,E,G,e,(by have hq:=hc 0 _ rfl;rwa [Nat.mul_one,Nat.add_zero] at hq),l0,U⟩

/-! #### struct type 26 -/
structure S26 where
  f0:ByteArray
  f1:Int
  f2:Int
  f3:(List (List Int))
def z26:S26:=⟨(⟨#[]⟩:ByteArray),(0:Int),(0:Int),([]:List (List Int))⟩
def k26:Kd S26:=Kd.iso (Kd.pair Kd.string (Kd.pair (Kd.int .i64) (Kd.pair (Kd.int .i64) (Kd.slice 34 (Kd.slice 2 (Kd.int .i64)))))) (fun x:S26=>(x.f0,x.f1,x.f2,x.f3))
theorem k26_open {w:World} {x:S26} {cs:List Value} (h:k26.K w x cs):∃ r s,cs=[.string x.f0,.int .i64 x.f1,.int .i64 x.f2,.slice r x.f3.length s]∧x.f3.length≤s∧(Kd.slice 2 (Kd.int .i64)).C w r x.f3.length x.f3:=by
  obtain ⟨_,_,rfl,rfl,⟨_,_,rfl,rfl,⟨_,_,rfl,rfl,⟨r,s,rfl,I,y⟩⟩⟩⟩:=h;exact ⟨r,s,rfl,I,y⟩
theorem k26_openM {w:World} {base:Nat} {ok:Nat→Prop} {x:S26} {cs:List Value} (h:k26.M w base ok x cs):∃ D,cs=[.string x.f0,.int .i64 x.f1,.int .i64 x.f2,D]∧(Kd.slice 2 (Kd.int .i64)).R 34 w base ok D x.f3:=by
  obtain ⟨_,_,rfl,rfl,⟨_,_,rfl,rfl,⟨_,_,rfl,rfl,⟨D,rfl,y⟩⟩⟩⟩:=h;exact ⟨D,rfl,y⟩
theorem k26_mk (w:World) (x:S26) {r:Option Addr} {s:Nat} (I:x.f3.length≤s) (y:(Kd.slice 2 (Kd.int .i64)).C w r x.f3.length x.f3):k26.K w x [.string x.f0,.int .i64 x.f1,.int .i64 x.f2,.slice r x.f3.length s]:=⟨[.string x.f0],[.int .i64 x.f1,.int .i64 x.f2,.slice r x.f3.length s],rfl,rfl,⟨[.int .i64 x.f1],[.int .i64 x.f2,.slice r x.f3.length s],rfl,rfl,⟨[.int .i64 x.f2],[.slice r x.f3.length s],rfl,rfl,⟨r,s,rfl,I,y⟩⟩⟩⟩
theorem k26_mkM (w:World) (base:Nat) (ok:Nat→Prop) (x:S26) {D:Value} (y:(Kd.slice 2 (Kd.int .i64)).R 34 w base ok D x.f3):k26.M w base ok x [.string x.f0,.int .i64 x.f1,.int .i64 x.f2,D]:=⟨[.string x.f0],[.int .i64 x.f1,.int .i64 x.f2,D],rfl,rfl,⟨[.int .i64 x.f1],[.int .i64 x.f2,D],rfl,rfl,⟨[.int .i64 x.f2],[D],rfl,rfl,⟨D,rfl,y⟩⟩⟩⟩
theorem k26_openF {W:World} {ok:Nat→Prop} {x:S26} {cs:List Value} (h:Kd.FK k26 W ok x cs):∃ r s,cs=[.string x.f0,.int .i64 x.f1,.int .i64 x.f2,.slice r x.f3.length s]∧x.f3.length≤s∧Kd.F (Kd.slice 2 (Kd.int .i64)) W ok r x.f3.length x.f3:=by
  obtain ⟨r,s,rfl,I,_⟩:=k26_open (Kd.FK_now h);exact ⟨r,s,rfl,I,(fun W' hW=>by obtain ⟨a5,a6,he,a9,a7⟩:=k26_open (h W' hW);injection (Option.some.inj (show some (Value.slice r x.f3.length s)=some (Value.slice a5 x.f3.length a6) from congrArg (fun l=>l[3]?) he)) with ha_ _ _;rw [ha_];exact a7)⟩
theorem k26_mkF (W:World) (ok:Nat→Prop) (x:S26) {r:Option Addr} {s:Nat} (I:x.f3.length≤s) (y:Kd.F (Kd.slice 2 (Kd.int .i64)) W ok r x.f3.length x.f3):Kd.FK k26 W ok x [.string x.f0,.int .i64 x.f1,.int .i64 x.f2,.slice r x.f3.length s]:=fun W2 hW=>k26_mk W2 x I (y W2 hW)
def rd_T26 (xs:List S26) (i:Int):S26:=xs.getD i.toNat z26
theorem at_T26 {w:World} {A:Option Addr} {n:Nat} {xs:List S26} (h:Kd.C k26 w A n xs) (i:Int) (J:0≤i) (L:i<n):∃ ad r s,A=some ad∧w.cell? (ad.add (i.toNat * 4))=some (.string (rd_T26 xs i).f0)∧w.cell? ⟨(ad.add (i.toNat * 4)).block,(ad.add (i.toNat * 4)).off+1,none⟩=some (.int .i64 (rd_T26 xs i).f1)∧w.cell? ⟨(ad.add (i.toNat * 4)).block,(ad.add (i.toNat * 4)).off+2,none⟩=some (.int .i64 (rd_T26 xs i).f2)∧w.cell? ⟨(ad.add (i.toNat * 4)).block,(ad.add (i.toNat * 4)).off+3,none⟩=some (.slice r (rd_T26 xs i).f3.length s)∧(rd_T26 xs i).f3.length≤s∧(Kd.slice 2 (Kd.int .i64)).C w r (rd_T26 xs i).f3.length (rd_T26 xs i).f3:=by
  obtain ⟨ad,c,e,_,hK,O⟩:=Kd.C_get h z26 i J L;have hc:∀ j u,c[j]? =some u→w.cell? (ad.add (i.toNat * 4+j))=some u:=O;obtain ⟨r,s,rfl,I,y⟩:=k26_open hK;exact ⟨ad,r,s,e,hc 0 _ rfl,(by rw [← add_field _ _ 1 t31_];exact hc 1 _ rfl),(by rw [← add_field _ _ 2 t31_];exact hc 2 _ rfl),(by rw [← add_field _ _ 3 t31_];exact hc 3 _ rfl),I,y⟩

/-- A region's marks: the first a of n operations are behind. -/
def tf (a n:Nat):Array Bool:=(List.replicate a true++List.replicate (n - a) false).toArray
/-- The same, by the bits of a number. -/
def tb (n m:Nat):Array Bool:=((List.range n).map m.testBit).toArray
section
variable {P:Program} {ops:Array Oper} {Q:Exit→Act→World→Prop} {md:Region.Mode} {S:World→Prop} {ds:List Nat} {T:Bool × List (List Nat × List Nat)} {B:List Nat} {oi:Oper} {v:Value} {fuel:Nat} {l:Array Bool} {a a':Act} {w:World}
/-- pure_, its small parts found by themselves. -/
theorem px (i:Nat) (N:Option Tmp) (l':Array Bool) (HT:Aside0 (rtab md ops=T)) (h:wpAnyLast P md ops Q S ds fuel l' a' w) (hi:ops[i]? =some oi:=by rfl) (hN:oi.dst=N:=by rfl) (hc:anyT T l.toList l'.toList i=true:=by kernel_rfl) (hQ:∀ c a w,Q (.panic c) (a.put oi.dst v) w→Q (.panic c) a w:=by exact fun _ _ _ h=>h) (hg:Region.wanted oi (yielded ops a.tmps)=true:=by rfl) (hx:∀ w',(execOp a.eval oi).run P w'=.ok (.value v) w':=by intro w';go_simp;with_reducible rfl) (ha:a.put N v=a':=by simp only [Act.put,List.setIfInBounds_toArray,List.set_cons_zero,List.set_cons_succ,i64_w,i32_w];rfl):wpAnyLast P md ops Q S ds (fuel+1) l a w:=
  pure_ l' hi hN (any_of HT.out hc) hQ (Or.inl ⟨hg,hx⟩) ha h
/-- The same for what isn't wanted. -/
theorem sx (i:Nat) (N:Option Tmp) (l':Array Bool) (HT:Aside0 (rtab md ops=T)) (h:wpAnyLast P md ops Q S ds fuel l' a' w) (hi:ops[i]? =some oi:=by rfl) (hN:oi.dst=N:=by rfl) (hc:anyT T l.toList l'.toList i=true:=by kernel_rfl) (hQ:∀ c a w,Q (.panic c) (a.put oi.dst undef) w→Q (.panic c) a w:=by exact fun _ _ _ h=>h) (hg:Region.wanted oi (yielded ops a.tmps)=false:=by rfl) (ha:a.put N undef=a':=by simp only [Act.put,List.setIfInBounds_toArray,List.set_cons_zero,List.set_cons_succ,i64_w,i32_w];rfl):wpAnyLast P md ops Q S ds (fuel+1) l a w:=
  pure_ l' hi hN (any_of HT.out hc) hQ (Or.inr ⟨hg,rfl⟩) ha h
/-- take_, the same. -/
theorem tx (i:Nat) (N:Option Tmp) (l':Array Bool) (HT:Aside0 (rtab md ops=T)) (HW:Aside0 (waitsOk T.2 B=true)) (hS:S w) (hx:∀ w',S w'→(execOp a.eval oi).run P w'=.ok (.value v) w') (h:wpAnyLast P md ops Q S ds fuel l' a' w) (hi:ops[i]? =some oi:=by rfl) (hN:oi.dst=N:=by rfl) (hc:takeW T B ds l.toList l'.toList i=true:=by kernel_rfl) (hQ:∀ c a w,Q (.panic c) (a.put oi.dst v) w→Q (.panic c) a w:=by exact fun _ _ _ h=>h) (hg:Region.wanted oi (yielded ops a.tmps)=true:=by rfl) (ha:a.put N v=a':=by simp only [Act.put,List.setIfInBounds_toArray,List.set_cons_zero,List.set_cons_succ,i64_w,i32_w];rfl):wpAnyLast P md ops Q S ds (fuel+1) l a w:=
  take_ l' hi hN (take_ofW HT.out HW.out hc) hQ (Or.inl ⟨hg,hx⟩) hS ha h
end
theorem Kd.C_one {α:Type} {d:Kd α} {w:World} {ad:Addr} {x:α} {c:List Value} (hK:d.K w x c) (hc:∀ j u,c[j]? =some u→w.cell? (ad.add j)=some u):Kd.C d w (some ad) [x].length [x]:=
  ⟨rfl,t65_,fun _=>⟨ad,rfl,fun j p hj=>by
    cases j with
    |succ j=>simp at hj
    |zero=>
      have e:x=p:=by simpa using hj
      subst e
      exact ⟨c,d.K_len hK,hK,fun i u hu=>by rw [Nat.zero_mul,Nat.zero_add];exact hc i u hu⟩⟩⟩
theorem cells_blk {w:World} {g:Nat} {t:TypeId} {cs:Array Value} (h:w.heap[g]? =some (.cells cs t (0,0))):∀ j u,cs.toList[j]? =some u→w.cell? ((⟨g,0,none⟩:Addr).add j)=some u:=by
  intro j u hu;have e:(⟨g,0,none⟩:Addr).add j=⟨g,j,none⟩:=(by unfold Addr.add;split<;>simp_all);rw [e,blk_cell h];simpa using hu
theorem Kd.C_sub {α:Type} {d:Kd α} {w:World} {ad:Addr} {n:Nat} {xs:List α} {z:α} {i:Int} (h:Kd.C d w (some ad) n xs) (J:0≤i) (L:i<n):Kd.C d w (some (ad.add (i.toNat * d.sz))) [xs.getD i.toNat z].length [xs.getD i.toNat z]:=by
  obtain ⟨ad',c,e,hl,hK,hc⟩:=Kd.C_get h z i J L;cases e;exact Kd.C_one hK (fun j u hu=>by
    have h2:=hc j u hu
    have e:(ad.add (i.toNat * d.sz)).add j=ad.add (i.toNat * d.sz+j):=by
      unfold Addr.add
      by_cases hi:i.toNat * d.sz=0<;>by_cases hj:j=0<;>simp [hi,hj,Nat.add_assoc]
    rw [e];exact h2)
/-- One of two. -/
def pk_ {α:Type} (i:Int) (a b:α):α:=if i=0 then a else b
/-- The binary search of sort.Search. -/
def searchO (p:Int→Option Bool):Nat→Int→Int→Option Int
  |0,_,_=>none
  |n+1,i,j=>if i<j then (p ((i+j) / 2)).bind fun b=>if b=true then searchO p n i ((i+j) / 2) else searchO p n ((i+j) / 2+1) j else some i
theorem searchO_mono {p q:Int→Option Bool} (h:∀ x,LeO (p x) (q x)):∀ n i j,LeO (searchO p n i j) (searchO q (n+1) i j)
  |0,_,_=>LeO.none _
  |n+1,i,j=>by
    show LeO (if i<j then _ else _) (if i<j then _ else _)
    exact LeO.ite (LeO.bind (h _) (fun _=>LeO.ite (searchO_mono h n i _) (searchO_mono h n _ j))) (LeO.refl _)
def firstO (p:Int→Option Bool) (k:Nat) (low high:Int):Option (Int × Bool):=if wrap64 (wrap64 (high - low)+1)≤2305843009213693952 then (searchO (fun i=>p (wrap64 (low+i))) k 0 (wrap64 (wrap64 (high - low)+1))).bind fun q=>some (wrap64 (low+q),decide (q<wrap64 (wrap64 (high - low)+1))) else none
theorem firstO_mono {p q:Int→Option Bool} (h:∀ x,LeO (p x) (q x)) (k:Nat) (low high:Int):LeO (firstO p k low high) (firstO q (k+1) low high):=
  LeO.ite (LeO.bind (searchO_mono (fun _=>h _) k _ _) (fun _=>LeO.refl _)) (LeO.refl _)

end Go.Proofs.Ytoagcfpbdcoefaa.PFnBills
