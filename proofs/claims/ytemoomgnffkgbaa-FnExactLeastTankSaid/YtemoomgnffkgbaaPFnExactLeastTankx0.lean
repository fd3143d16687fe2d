-- written by wip/xprint.py, a program of this session, for this claim; not trusted: Lean checks it.
import Derived.Test.YtemoomgnffkgbaaProg
import Derived.Below
import Derived.Deep.Draws
import Derived.Deep.AppendLies
import Derived.Maps.AppendAt
import Derived.OwnWalk
import Derived.Laws.BytesArg
import Derived.Laws.MakeOwn
import Derived.Laws.OwnMore
import Derived.Deep.OwnRows
import Derived.Tactics
import Derived.Lib.ConvBytes
import Derived.Deep.RegionLaw
import Derived.Laws.Slices
import Derived.WalkKit
import Derived.KernelRfl
import Derived.RowKit3
import Derived.Deep.LoopGhost
import Derived.Deep.QuietTactic
import Derived.BigQuiet
import Derived.WideLaws
import Derived.Deep.DeepCutAuto
import Derived.Deep.CutBlock
import Derived.Deep.RegionHeld3
import Derived.Laws.Rows
import Derived.Lib.AppendStr
import Derived.ArgAppend
import Derived.Laws.IdiomCopy
import Derived.OrdersHeld
import Derived.Laws.BitsLemmas
import Derived.RowKit
import Derived.Laws.Cover1
import Derived.Lib.Walk
import Derived.Shelf.Abstract
import Derived.WalkSpells
import Derived.Test.YtemoomgnffkgbaaPFnExactLeastTankw
namespace Go.Proofs.Ytemoomgnffkgbaa.PFnExactLeastTank
open Go.RowKit Go.Proofs.YtemoomgnffkgbaaW.PrintWords Go.Proofs.YtemoomgnffkgbaaW.PrintLast Go.Proofs.YtemoomgnffkgbaaW.PrintMore
attribute [local go_sem] leq_less_ max2_int min2_int max_two min_two max_three min_three max_four min_four   -- for this text's walks alone
set_option linter.unusedVariables false
set_option linter.unusedSimpArgs false
-- proofs that stand many times, told once (the proof is the default of h)
set_option maxHeartbeats 8000000
set_option maxRecDepth 100000
theorem q1_ {P Q:Prop} (h:Q) (f:Q→P:=by (intro h_;(with_reducible repeat (first|apply Kd.R_alloc|apply Kd.R_drewN|apply Kd.R_drew));exact h_)):P:=f h
theorem q2_ {P Q:Prop} (h:Q) (f:Q→P:=by (intro h_;(with_reducible repeat (first|refine blk_drewN ?_ _|refine blk_drew ?_|refine blk_alloc ?_ _));exact h_)):P:=f h
theorem q3_ {P Q:Prop} (h:Q) (f:Q→P:=by (intro h_;(with_reducible repeat (first|apply Kd.S_alloc|apply Kd.S_drewN|apply Kd.S_drew));exact h_)):P:=f h
theorem dd_ {P:Prop} (h:P:=by first|exact ⟨rfl,_,World.drewN_drewN _ _ _⟩|exact ⟨rfl,_,Eq.trans (World.drewN_drewN _ _ _) (congrArg (World.drewN _) (Nat.add_assoc _ _ _))⟩):P:=h
theorem hb_ {w w':World} {p:Addr} {v:Value} (HB:Aside0 (Below w.heap.size w w')) (h:w.cell? p=some v):w'.cell? p=some v:=(HB.out.cell (World.block_lt_of_cell? w _ h)).trans h
theorem za_ (a:Addr) (n:Nat):a.add (((0:Int)).toNat * n)=a:=by rw [show ((0:Int)).toNat=0 from rfl,Nat.zero_mul];exact Addr.add_zero' a
theorem a_ {p:Prop} (h:p):Aside0 p:=⟨h⟩
theorem be_ {α β:Type} {o:Option α} {f:α→Option β} {b:β} (h:o.bind f=some b):∃ a,o=some a∧f a=some b:=Option.bind_eq_some_iff.mp h
theorem od_ {p:Prop} [Decidable p] (h:decide p=true:=by first|(with_reducible assumption)|assumption):p:=of_decide_eq_true h
theorem d1_ {p:Prop} [Decidable p] (h:p):decide p=true:=decide_eq_true h
theorem d2_ {p:Prop} [Decidable p] (h:¬ p):decide p=false:=decide_eq_false h
theorem bc1_ {w:World} {g:Nat} {t:TypeId} {U:Value} (h:w.heap[g]? =some (.cells #[U] t (0,0))):w.cell? ⟨g,0,none⟩=some U∧w.frozen? ⟨g,0,none⟩=false:=⟨(blk_cell h 0).trans rfl,blk_frozen h 0⟩
theorem bc3_ {w:World} {g:Nat} {t:TypeId} {U W X:Value} (h:w.heap[g]? =some (.cells #[U,W,X] t (0,0))):w.cell? ⟨g,0,none⟩=some U∧w.cell? ⟨g,1,none⟩=some W∧w.cell? ⟨g,2,none⟩=some X∧w.frozen? ⟨g,0,none⟩=false∧w.frozen? ⟨g,1,none⟩=false∧w.frozen? ⟨g,2,none⟩=false:=⟨(blk_cell h 0).trans rfl,(blk_cell h 1).trans rfl,(blk_cell h 2).trans rfl,blk_frozen h 0,blk_frozen h 1,blk_frozen h 2⟩
theorem bc6_ {w:World} {g:Nat} {t:TypeId} {U W X a3 a4 a5:Value} (h:w.heap[g]? =some (.cells #[U,W,X,a3,a4,a5] t (0,0))):w.cell? ⟨g,0,none⟩=some U∧w.cell? ⟨g,1,none⟩=some W∧w.cell? ⟨g,2,none⟩=some X∧w.cell? ⟨g,3,none⟩=some a3∧w.cell? ⟨g,4,none⟩=some a4∧w.cell? ⟨g,5,none⟩=some a5∧w.frozen? ⟨g,0,none⟩=false∧w.frozen? ⟨g,1,none⟩=false∧w.frozen? ⟨g,2,none⟩=false∧w.frozen? ⟨g,3,none⟩=false∧w.frozen? ⟨g,4,none⟩=false∧w.frozen? ⟨g,5,none⟩=false:=⟨(blk_cell h 0).trans rfl,(blk_cell h 1).trans rfl,(blk_cell h 2).trans rfl,(blk_cell h 3).trans rfl,(blk_cell h 4).trans rfl,(blk_cell h 5).trans rfl,blk_frozen h 0,blk_frozen h 1,blk_frozen h 2,blk_frozen h 3,blk_frozen h 4,blk_frozen h 5⟩
theorem qc_ {P Q:Prop} (h:Q) (f:Q→P:=by (intro h_;repeat (first|exact h_|(with_reducible refine Kd.C_alloc ?_ _)|(with_reducible refine Kd.C_drewN ?_ _)|(with_reducible refine Kd.C_drew ?_)))):P:=f h
theorem t1_ {P:Prop} (h:P:=by repeat (first|(with_reducible first|exact HB.out|apply below_alloc|apply pw_below_drewN|apply below_drew1)|exact HB.out)):P:=h
theorem t2_ {P:Prop} (h:P:=by (try simp only [List.map_toArray,List.map_cons,List.map_nil]);first|done|rfl|(simp only [List.length_drop,List.length_take];rfl)):P:=h
theorem t3_ {P:Prop} (h:P:=by first|rfl|(rw [Int.tdiv_eq_ediv_of_nonneg (by omega)];rfl)|(simp [errW_none,errW_some]<;>rfl)|(simp [*,errW_none,errW_some]<;>rfl)):P:=h
theorem t4_ {P:Prop} (h:P:=by first|rfl|(simp;done)|(simp [*];done)):P:=h
theorem t5_ {P:Prop} (h:P:=by repeat (first|(with_reducible first|exact HB.out|apply below_alloc|apply pw_below_drewN|apply below_drew1|refine below_set ?_ GE227.out)|exact HB.out)):P:=h
theorem t6_ {P:Prop} (h:P:=by repeat (first|(with_reducible first|exact HB.out|apply below_alloc|apply pw_below_drewN|apply below_drew1|refine below_set ?_ GE174.out)|exact HB.out)):P:=h
theorem t7_ {P:Prop} (h:P:=by repeat (first|(with_reducible first|exact HB.out|apply below_alloc|apply pw_below_drewN|apply below_drew1|refine below_set ?_ GE158.out)|exact HB.out)):P:=h
theorem t8_ {P:Prop} (h:P:=by repeat (first|(with_reducible first|exact HB.out|apply below_alloc|apply pw_below_drewN|apply below_drew1|refine below_set ?_ GE135.out)|exact HB.out)):P:=h
theorem t9_ {P:Prop} (h:P:=by repeat (first|(with_reducible first|exact HB.out|apply below_alloc|apply pw_below_drewN|apply below_drew1|refine below_set ?_ GE216.out|refine below_set ?_ GE217.out)|exact HB.out)):P:=h
theorem t10_ {P:Prop} (h:P:=by repeat (first|(with_reducible first|exact HB.out|apply below_alloc|apply pw_below_drewN|apply below_drew1|refine below_set ?_ GE216.out|refine below_set ?_ GE217.out|refine below_set ?_ GE219.out)|exact HB.out)):P:=h
theorem t11_ {P:Prop} (h:P:=by repeat (first|exact Drawn0.refl _|apply Drawn0.step)):P:=h
theorem t12_ {P:Prop} (h:P:=by (with_reducible repeat (first|refine blk_drewN ?_ _|refine blk_drew ?_|refine blk_alloc ?_ _));refine blk_put (cs:=#[.int .i64 a0_0,.int .i64 a0_1,.int .i64 a0_2]) ?_ 0 _ rfl;(with_reducible repeat (first|refine blk_drewN ?_ _|refine blk_drew ?_|refine blk_alloc ?_ _));exact BK216.out):P:=h
theorem t13_ {P:Prop} (h:P:=by (with_reducible repeat (first|refine blk_drewN ?_ _|refine blk_drew ?_|refine blk_alloc ?_ _));refine blk_put (cs:=#[.int .i64 100,.int .i64 a0_1,.int .i64 a0_2,.slice A2 l2.length c2,.slice none 0 0,.int .i64 0]) ?_ 5 _ rfl;(with_reducible repeat (first|refine blk_drewN ?_ _|refine blk_drew ?_|refine blk_alloc ?_ _));refine blk_put (cs:=#[.int .i64 100,.int .i64 a0_1,.int .i64 a0_2,.slice A2 l2.length c2,.slice none 0 0,.int .i64 0]) ?_ 4 _ rfl;(with_reducible repeat (first|refine blk_drewN ?_ _|refine blk_drew ?_|refine blk_alloc ?_ _));refine blk_put (cs:=#[.int .i64 100,.int .i64 a0_1,.int .i64 a0_2,.slice none 0 0,.slice none 0 0,.int .i64 0]) ?_ 3 _ rfl;(with_reducible repeat (first|refine blk_drewN ?_ _|refine blk_drew ?_|refine blk_alloc ?_ _));refine blk_put (cs:=#[.int .i64 100,.int .i64 a0_1,.int .i64 0,.slice none 0 0,.slice none 0 0,.int .i64 0]) ?_ 2 _ rfl;(with_reducible repeat (first|refine blk_drewN ?_ _|refine blk_drew ?_|refine blk_alloc ?_ _));refine blk_put (cs:=#[.int .i64 100,.int .i64 0,.int .i64 0,.slice none 0 0,.slice none 0 0,.int .i64 0]) ?_ 1 _ rfl;(with_reducible repeat (first|refine blk_drewN ?_ _|refine blk_drew ?_|refine blk_alloc ?_ _));refine blk_put (cs:=#[.int .i64 0,.int .i64 0,.int .i64 0,.slice none 0 0,.slice none 0 0,.int .i64 0]) ?_ 0 _ rfl;(with_reducible repeat (first|refine blk_drewN ?_ _|refine blk_drew ?_|refine blk_alloc ?_ _));exact BK219.out):P:=h
theorem t14_ {P:Prop} (h:P:=by repeat (first|(with_reducible first|exact HB.out|apply below_alloc|apply pw_below_drewN|apply below_drew1|refine below_set ?_ GE216.out)|exact HB.out)):P:=h
theorem t15_ {P:Prop} (h:P:=by (with_reducible repeat (first|refine blk_drewN ?_ _|refine blk_drew ?_|refine blk_alloc ?_ _));refine blk_far ?_ NB217_216.out _;(with_reducible repeat (first|refine blk_drewN ?_ _|refine blk_drew ?_|refine blk_alloc ?_ _));exact BK217.out):P:=h
theorem t16_ {P:Prop} (h:P:=by repeat (first|(with_reducible first|exact HB.out|apply below_alloc|apply pw_below_drewN|apply below_drew1|refine below_set ?_ GE135.out|refine below_set ?_ GE141.out)|exact HB.out)):P:=h
theorem t17_ {P:Prop} (h:P:=by repeat (first|(with_reducible first|exact HB.out|apply below_alloc|apply pw_below_drewN|apply below_drew1|refine below_set ?_ GE169.out)|exact HB.out)):P:=h
theorem t18_ {P:Prop} (h:P:=by (with_reducible repeat (first|refine blk_drewN ?_ _|refine blk_drew ?_|refine blk_alloc ?_ _));refine blk_far ?_ NB217_219.out _;(with_reducible repeat (first|refine blk_drewN ?_ _|refine blk_drew ?_|refine blk_alloc ?_ _));refine blk_far ?_ NB217_219.out _;(with_reducible repeat (first|refine blk_drewN ?_ _|refine blk_drew ?_|refine blk_alloc ?_ _));refine blk_far ?_ NB217_219.out _;(with_reducible repeat (first|refine blk_drewN ?_ _|refine blk_drew ?_|refine blk_alloc ?_ _));refine blk_far ?_ NB217_219.out _;(with_reducible repeat (first|refine blk_drewN ?_ _|refine blk_drew ?_|refine blk_alloc ?_ _));refine blk_far ?_ NB217_219.out _;(with_reducible repeat (first|refine blk_drewN ?_ _|refine blk_drew ?_|refine blk_alloc ?_ _));refine blk_far ?_ NB217_219.out _;(with_reducible repeat (first|refine blk_drewN ?_ _|refine blk_drew ?_|refine blk_alloc ?_ _));exact BK217.out):P:=h
theorem t19_ {P:Prop} (h:P:=by (with_reducible repeat (first|refine blk_drewN ?_ _|refine blk_drew ?_|refine blk_alloc ?_ _));refine blk_far ?_ NB216_219.out _;(with_reducible repeat (first|refine blk_drewN ?_ _|refine blk_drew ?_|refine blk_alloc ?_ _));refine blk_far ?_ NB216_219.out _;(with_reducible repeat (first|refine blk_drewN ?_ _|refine blk_drew ?_|refine blk_alloc ?_ _));refine blk_far ?_ NB216_219.out _;(with_reducible repeat (first|refine blk_drewN ?_ _|refine blk_drew ?_|refine blk_alloc ?_ _));refine blk_far ?_ NB216_219.out _;(with_reducible repeat (first|refine blk_drewN ?_ _|refine blk_drew ?_|refine blk_alloc ?_ _));refine blk_far ?_ NB216_219.out _;(with_reducible repeat (first|refine blk_drewN ?_ _|refine blk_drew ?_|refine blk_alloc ?_ _));refine blk_far ?_ NB216_219.out _;(with_reducible repeat (first|refine blk_drewN ?_ _|refine blk_drew ?_|refine blk_alloc ?_ _));exact BK216.out):P:=h
theorem t20_ {P:Prop} (h:P:=by kernel_rfl):P:=h
theorem t21_ {P:Prop} (h:P:=by (with_reducible repeat (first|refine blk_drewN ?_ _|refine blk_drew ?_|refine blk_alloc ?_ _));refine blk_put (cs:=#[.int .i64 a0_0,.int .i64 a0_1,.int .i64 a0_2]) ?_ 0 _ rfl;(with_reducible repeat (first|refine blk_drewN ?_ _|refine blk_drew ?_|refine blk_alloc ?_ _));refine blk_put (cs:=#[.int .i64 a0_0,.int .i64 a0_1,.int .i64 0]) ?_ 2 _ rfl;(with_reducible repeat (first|refine blk_drewN ?_ _|refine blk_drew ?_|refine blk_alloc ?_ _));refine blk_put (cs:=#[.int .i64 a0_0,.int .i64 0,.int .i64 0]) ?_ 1 _ rfl;(with_reducible repeat (first|refine blk_drewN ?_ _|refine blk_drew ?_|refine blk_alloc ?_ _));refine blk_put (cs:=#[.int .i64 0,.int .i64 0,.int .i64 0]) ?_ 0 _ rfl;(with_reducible repeat (first|refine blk_drewN ?_ _|refine blk_drew ?_|refine blk_alloc ?_ _));exact BK141.out):P:=h
theorem t22_ {P:Prop} (h:P:=by repeat (first|(with_reducible first|exact HB.out|apply below_alloc|apply pw_below_drewN|apply below_drew1|refine below_set ?_ GE165.out)|exact HB.out)):P:=h
theorem t23_ {P:Prop} (h:P:=by omega):P:=h
theorem t24_ {P:Prop} (h:P:=by (with_reducible repeat (first|refine blk_drewN ?_ _|refine blk_drew ?_|refine blk_alloc ?_ _));exact BK135.out):P:=h
theorem t25_ {P:Prop} (h:P:=by (with_reducible repeat (first|apply Kd.R_alloc|apply Kd.R_drewN|apply Kd.R_drew));exact HO_11.out):P:=h
theorem t26_ {P:Prop} (h:P:=by (with_reducible repeat (first|apply Kd.R_alloc|apply Kd.R_drewN|apply Kd.R_drew));exact HO_9.out):P:=h
theorem t27_ {P:Prop} (h:P:=by repeat (first|(with_reducible first|exact HB.out|apply below_alloc|apply pw_below_drewN|apply below_drew1|refine below_set ?_ GE146.out|refine below_set ?_ GE147.out)|exact HB.out)):P:=h
theorem t28_ {P:Prop} (h:P:=by repeat (first|(with_reducible first|exact HB.out|apply below_alloc|apply pw_below_drewN|apply below_drew1|refine below_set ?_ GE154.out)|exact HB.out)):P:=h
theorem t29_ {P:Prop} (h:P:=by repeat (first|(with_reducible first|exact HB.out|apply below_alloc|apply pw_below_drewN|apply below_drew1|refine below_set ?_ GE146.out)|exact HB.out)):P:=h
theorem t30_ {P:Prop} (h:P:=by simp):P:=h
theorem t31_ {P:Prop} (h:P:=by first|rfl|(simp [errW_none,errW_some]<;>rfl)|(simp [*,errW_none,errW_some]<;>rfl)):P:=h
theorem t32_ {P:Prop} (h:P:=by have:=HK1.out;have:=HK2.out;have:=HK3.out;have:=HJ24.out;omega):P:=h
theorem t33_ {P:Prop} (h:P:=by (try simp only [hl3_1]);(try simp only [hl3_2]);(try simp only [hl3_3]);(try simp only [hl3_4]);(with_reducible repeat (first|refine blk_drewN ?_ _|refine blk_drew ?_|refine blk_alloc ?_ _));exact BK174.out):P:=h
theorem t34_ {P:Prop} (h:P:=by (try simp only [hl3_1]);(try simp only [hl3_2]);(try simp only [hl3_3]);(try simp only [hl3_4]);(with_reducible repeat (first|apply Kd.S_alloc|apply Kd.S_drewN|apply Kd.S_drew));exact HO_3.out):P:=h



def errW:Option Int→Value
  |none=>.nilIface
  |some c=>.iface 0 (.int .i64 c)
theorem errW_none:errW none=.nilIface:=rfl
theorem errW_some (c:Int):errW (some c)=.iface 0 (.int .i64 c):=rfl

theorem info2:(Try.prog.info? 2).map (fun i=>(i.zero,i.size,i.bytes))=some (some (.int .i64 0),1,8):=by kernel_rfl
theorem info4:(Try.prog.info? 4).map (fun i=>(i.zero,i.size,i.bytes))=some (some (.bool false),1,1):=by kernel_rfl
theorem info26:(Try.prog.info? 26).map (fun i=>(i.zero,i.size,i.bytes))=some (some (.slice none 0 0),1,24):=by kernel_rfl
-- the values' own types
/-! #### struct type 25 -/
structure S25 where
  f0:Int
  f1:Int
  f2:Int
def z25:S25:=⟨(0:Int),(0:Int),(0:Int)⟩
def k25:Kd S25:=Kd.iso (Kd.pair (Kd.int .i64) (Kd.pair (Kd.int .i64) (Kd.int .i64))) (fun x:S25=>(x.f0,x.f1,x.f2))
theorem k25_open {w:World} {x:S25} {cs:List Value} (h:k25.K w x cs):cs=[.int .i64 x.f0,.int .i64 x.f1,.int .i64 x.f2]:=by
  obtain ⟨_,_,rfl,rfl,⟨_,_,rfl,rfl,rfl⟩⟩:=h;exact rfl
theorem k25_openM {w:World} {base:Nat} {ok:Nat→Prop} {x:S25} {cs:List Value} (h:k25.M w base ok x cs):cs=[.int .i64 x.f0,.int .i64 x.f1,.int .i64 x.f2]:=by
  obtain ⟨_,_,rfl,rfl,⟨_,_,rfl,rfl,rfl⟩⟩:=h;exact rfl
theorem k25_mk (w:World) (x:S25):k25.K w x [.int .i64 x.f0,.int .i64 x.f1,.int .i64 x.f2]:=⟨[.int .i64 x.f0],[.int .i64 x.f1,.int .i64 x.f2],rfl,rfl,⟨[.int .i64 x.f1],[.int .i64 x.f2],rfl,rfl,rfl⟩⟩
theorem k25_mkM (w:World) (base:Nat) (ok:Nat→Prop) (x:S25):k25.M w base ok x [.int .i64 x.f0,.int .i64 x.f1,.int .i64 x.f2]:=⟨[.int .i64 x.f0],[.int .i64 x.f1,.int .i64 x.f2],rfl,rfl,⟨[.int .i64 x.f1],[.int .i64 x.f2],rfl,rfl,rfl⟩⟩
def rd_T25 (xs:List S25) (i:Int):S25:=xs.getD i.toNat z25
theorem at_T25 {w:World} {A:Option Addr} {n:Nat} {xs:List S25} (h:Kd.C k25 w A n xs) (i:Int) (L:0≤i) (O:i<n):∃ ad,A=some ad∧w.cell? (ad.add (i.toNat * 3))=some (.int .i64 (rd_T25 xs i).f0)∧w.cell? ⟨(ad.add (i.toNat * 3)).block,(ad.add (i.toNat * 3)).off+1,none⟩=some (.int .i64 (rd_T25 xs i).f1)∧w.cell? ⟨(ad.add (i.toNat * 3)).block,(ad.add (i.toNat * 3)).off+2,none⟩=some (.int .i64 (rd_T25 xs i).f2):=by
  obtain ⟨ad,c,e,_,hK,V⟩:=Kd.C_get h z25 i L O;have hc:∀ j u,c[j]? =some u→w.cell? (ad.add (i.toNat * 3+j))=some u:=V;obtain rfl:=k25_open hK;exact ⟨ad,e,hc 0 _ rfl,(by rw [← add_field _ _ 1 t23_];exact hc 1 _ rfl),(by rw [← add_field _ _ 2 t23_];exact hc 2 _ rfl)⟩

def rd_L3 (xs:List (List Int)) (i:Int):(List Int):=xs.getD i.toNat ([]:List Int)
theorem at_L3 {w:World} {A:Option Addr} {n:Nat} {xs:List (List Int)} (h:Kd.C (Kd.slice 2 (Kd.int .i64)) w A n xs) (i:Int) (L:0≤i) (O:i<n):∃ ad A0 c0,A=some ad∧w.cell? (ad.add i.toNat)=some (.slice A0 (rd_L3 xs i).length c0)∧(rd_L3 xs i).length≤c0∧(Kd.int .i64).C w A0 (rd_L3 xs i).length (rd_L3 xs i):=by
  obtain ⟨ad,c,e,_,hK,V⟩:=Kd.C_get h ([]:List Int) i L O;have hc:∀ j u,c[j]? =some u→w.cell? (ad.add (i.toNat * 1+j))=some u:=V;obtain ⟨A0,c0,rfl,l0,g0⟩:=hK;exact ⟨ad,A0,c0,e,(by have hq:=hc 0 _ rfl;rwa [Nat.mul_one,Nat.add_zero] at hq),l0,g0⟩

/-! #### struct type 69 -/
structure S69 where
  f0:S25
  f1:(List Int)
  f2:(List Int)
  f3:Int
def z69:S69:=⟨z25,([]:List Int),([]:List Int),(0:Int)⟩
def k69:Kd S69:=Kd.iso (Kd.pair k25 (Kd.pair (Kd.slice 2 (Kd.int .i64)) (Kd.pair (Kd.slice 2 (Kd.int .i64)) (Kd.int .i64)))) (fun x:S69=>(x.f0,x.f1,x.f2,x.f3))
theorem k69_open {w:World} {x:S69} {cs:List Value} (h:k69.K w x cs):∃ y D r s,cs=[.int .i64 x.f0.f0,.int .i64 x.f0.f1,.int .i64 x.f0.f2,.slice y x.f1.length D,.slice r x.f2.length s,.int .i64 x.f3]∧x.f1.length≤D∧(Kd.int .i64).C w y x.f1.length x.f1∧x.f2.length≤s∧(Kd.int .i64).C w r x.f2.length x.f2:=by
  obtain ⟨_,_,rfl,s0,⟨_,_,rfl,⟨y,D,rfl,Y,I⟩,⟨_,_,rfl,⟨r,s,rfl,Z,J⟩,rfl⟩⟩⟩:=h;obtain rfl:=k25_open s0;exact ⟨y,D,r,s,rfl,Y,I,Z,J⟩
theorem k69_openM {w:World} {base:Nat} {ok:Nat→Prop} {x:S69} {cs:List Value} (h:k69.M w base ok x cs):∃ G E,cs=[.int .i64 x.f0.f0,.int .i64 x.f0.f1,.int .i64 x.f0.f2,G,E,.int .i64 x.f3]∧(Kd.int .i64).R 2 w base ok G x.f1∧(Kd.int .i64).R 2 w base ok E x.f2:=by
  obtain ⟨_,_,rfl,s0,⟨_,_,rfl,⟨G,rfl,I⟩,⟨_,_,rfl,⟨E,rfl,J⟩,rfl⟩⟩⟩:=h;obtain rfl:=k25_openM s0;exact ⟨G,E,rfl,I,J⟩
theorem k69_mk (w:World) (x:S69) {y:Option Addr} {D:Nat} (Y:x.f1.length≤D) (I:(Kd.int .i64).C w y x.f1.length x.f1) {r:Option Addr} {s:Nat} (Z:x.f2.length≤s) (J:(Kd.int .i64).C w r x.f2.length x.f2):k69.K w x [.int .i64 x.f0.f0,.int .i64 x.f0.f1,.int .i64 x.f0.f2,.slice y x.f1.length D,.slice r x.f2.length s,.int .i64 x.f3]:=⟨[.int .i64 x.f0.f0,.int .i64 x.f0.f1,.int .i64 x.f0.f2],[.slice y x.f1.length D,.slice r x.f2.length s,.int .i64 x.f3],rfl,(k25_mk w x.f0),⟨[.slice y x.f1.length D],[.slice r x.f2.length s,.int .i64 x.f3],rfl,⟨y,D,rfl,Y,I⟩,⟨[.slice r x.f2.length s],[.int .i64 x.f3],rfl,⟨r,s,rfl,Z,J⟩,rfl⟩⟩⟩
theorem k69_mkM (w:World) (base:Nat) (ok:Nat→Prop) (x:S69) {G:Value} (I:(Kd.int .i64).R 2 w base ok G x.f1) {E:Value} (J:(Kd.int .i64).R 2 w base ok E x.f2):k69.M w base ok x [.int .i64 x.f0.f0,.int .i64 x.f0.f1,.int .i64 x.f0.f2,G,E,.int .i64 x.f3]:=⟨[.int .i64 x.f0.f0,.int .i64 x.f0.f1,.int .i64 x.f0.f2],[G,E,.int .i64 x.f3],rfl,(k25_mkM w base ok x.f0),⟨[G],[E,.int .i64 x.f3],rfl,⟨G,rfl,I⟩,⟨[E],[.int .i64 x.f3],rfl,⟨E,rfl,J⟩,rfl⟩⟩⟩
def rd_T69 (xs:List S69) (i:Int):S69:=xs.getD i.toNat z69
theorem at_T69 {w:World} {A:Option Addr} {n:Nat} {xs:List S69} (h:Kd.C k69 w A n xs) (i:Int) (L:0≤i) (O:i<n):∃ ad y D r s,A=some ad∧w.cell? (ad.add (i.toNat * 6))=some (.int .i64 (rd_T69 xs i).f0.f0)∧w.cell? ⟨(ad.add (i.toNat * 6)).block,(ad.add (i.toNat * 6)).off+1,none⟩=some (.int .i64 (rd_T69 xs i).f0.f1)∧w.cell? ⟨(ad.add (i.toNat * 6)).block,(ad.add (i.toNat * 6)).off+2,none⟩=some (.int .i64 (rd_T69 xs i).f0.f2)∧w.cell? ⟨(ad.add (i.toNat * 6)).block,(ad.add (i.toNat * 6)).off+3,none⟩=some (.slice y (rd_T69 xs i).f1.length D)∧w.cell? ⟨(ad.add (i.toNat * 6)).block,(ad.add (i.toNat * 6)).off+4,none⟩=some (.slice r (rd_T69 xs i).f2.length s)∧w.cell? ⟨(ad.add (i.toNat * 6)).block,(ad.add (i.toNat * 6)).off+5,none⟩=some (.int .i64 (rd_T69 xs i).f3)∧(rd_T69 xs i).f1.length≤D∧(Kd.int .i64).C w y (rd_T69 xs i).f1.length (rd_T69 xs i).f1∧(rd_T69 xs i).f2.length≤s∧(Kd.int .i64).C w r (rd_T69 xs i).f2.length (rd_T69 xs i).f2:=by
  obtain ⟨ad,c,e,_,hK,V⟩:=Kd.C_get h z69 i L O;have hc:∀ j u,c[j]? =some u→w.cell? (ad.add (i.toNat * 6+j))=some u:=V;obtain ⟨y,D,r,s,rfl,Y,I,Z,J⟩:=k69_open hK;exact ⟨ad,y,D,r,s,e,hc 0 _ rfl,(by rw [← add_field _ _ 1 t23_];exact hc 1 _ rfl),(by rw [← add_field _ _ 2 t23_];exact hc 2 _ rfl),(by rw [← add_field _ _ 3 t23_];exact hc 3 _ rfl),(by rw [← add_field _ _ 4 t23_];exact hc 4 _ rfl),(by rw [← add_field _ _ 5 t23_];exact hc 5 _ rfl),Y,I,Z,J⟩

/-! #### struct type 39 -/
structure S39 where
  f0:Int
  f1:Int
  f2:Int
def z39:S39:=⟨(0:Int),(0:Int),(0:Int)⟩
def k39:Kd S39:=Kd.iso (Kd.pair (Kd.int .i64) (Kd.pair (Kd.int .i64) (Kd.int .i64))) (fun x:S39=>(x.f0,x.f1,x.f2))
theorem k39_open {w:World} {x:S39} {cs:List Value} (h:k39.K w x cs):cs=[.int .i64 x.f0,.int .i64 x.f1,.int .i64 x.f2]:=by
  obtain ⟨_,_,rfl,rfl,⟨_,_,rfl,rfl,rfl⟩⟩:=h;exact rfl
theorem k39_openM {w:World} {base:Nat} {ok:Nat→Prop} {x:S39} {cs:List Value} (h:k39.M w base ok x cs):cs=[.int .i64 x.f0,.int .i64 x.f1,.int .i64 x.f2]:=by
  obtain ⟨_,_,rfl,rfl,⟨_,_,rfl,rfl,rfl⟩⟩:=h;exact rfl
theorem k39_mk (w:World) (x:S39):k39.K w x [.int .i64 x.f0,.int .i64 x.f1,.int .i64 x.f2]:=⟨[.int .i64 x.f0],[.int .i64 x.f1,.int .i64 x.f2],rfl,rfl,⟨[.int .i64 x.f1],[.int .i64 x.f2],rfl,rfl,rfl⟩⟩
theorem k39_mkM (w:World) (base:Nat) (ok:Nat→Prop) (x:S39):k39.M w base ok x [.int .i64 x.f0,.int .i64 x.f1,.int .i64 x.f2]:=⟨[.int .i64 x.f0],[.int .i64 x.f1,.int .i64 x.f2],rfl,rfl,⟨[.int .i64 x.f1],[.int .i64 x.f2],rfl,rfl,rfl⟩⟩
def rd_T39 (xs:List S39) (i:Int):S39:=xs.getD i.toNat z39
theorem at_T39 {w:World} {A:Option Addr} {n:Nat} {xs:List S39} (h:Kd.C k39 w A n xs) (i:Int) (L:0≤i) (O:i<n):∃ ad,A=some ad∧w.cell? (ad.add (i.toNat * 3))=some (.int .i64 (rd_T39 xs i).f0)∧w.cell? ⟨(ad.add (i.toNat * 3)).block,(ad.add (i.toNat * 3)).off+1,none⟩=some (.int .i64 (rd_T39 xs i).f1)∧w.cell? ⟨(ad.add (i.toNat * 3)).block,(ad.add (i.toNat * 3)).off+2,none⟩=some (.int .i64 (rd_T39 xs i).f2):=by
  obtain ⟨ad,c,e,_,hK,V⟩:=Kd.C_get h z39 i L O;have hc:∀ j u,c[j]? =some u→w.cell? (ad.add (i.toNat * 3+j))=some u:=V;obtain rfl:=k39_open hK;exact ⟨ad,e,hc 0 _ rfl,(by rw [← add_field _ _ 1 t23_];exact hc 1 _ rfl),(by rw [← add_field _ _ 2 t23_];exact hc 2 _ rfl)⟩

/-- A region's marks: the first a of n operations are behind. -/
def tf (a n:Nat):Array Bool:=(List.replicate a true++List.replicate (n - a) false).toArray
/-- The same, by the bits of a number. -/
def tb (n m:Nat):Array Bool:=((List.range n).map m.testBit).toArray
section
variable {P:Program} {ops:Array Oper} {Q:Exit→Act→World→Prop} {md:Region.Mode} {S:World→Prop} {ds:List Nat} {T:Bool × List (List Nat × List Nat)} {B:List Nat} {oi:Oper} {v:Value} {fuel:Nat} {l:Array Bool} {a a':Act} {w:World}
/-- pure_, its small parts found by themselves. -/
theorem px (i:Nat) (N:Option Tmp) (l':Array Bool) (HT:Aside0 (rtab md ops=T)) (h:wpAnyLast P md ops Q S ds fuel l' a' w) (hi:ops[i]? =some oi:=by rfl) (hN:oi.dst=N:=by rfl) (hc:anyT T l.toList l'.toList i=true:=by kernel_rfl) (hQ:∀ c a w,Q (.panic c) (a.put oi.dst v) w→Q (.panic c) a w:=by exact fun _ _ _ h=>h) (hg:Region.wanted oi (yielded ops a.tmps)=true:=by rfl) (hx:∀ w',(execOp a.eval oi).run P w'=.ok (.value v) w':=by intro w';go_simp;with_reducible rfl) (ha:a.put N v=a':=by simp only [Act.put,List.setIfInBounds_toArray,List.set_cons_zero,List.set_cons_succ,i64_w,i32_w];rfl):wpAnyLast P md ops Q S ds (fuel+1) l a w:=
  pure_ l' hi hN (any_of HT.out hc) hQ (Or.inl ⟨hg,hx⟩) ha h
/-- The same for what isn't wanted. -/
theorem sx (i:Nat) (N:Option Tmp) (l':Array Bool) (HT:Aside0 (rtab md ops=T)) (h:wpAnyLast P md ops Q S ds fuel l' a' w) (hi:ops[i]? =some oi:=by rfl) (hN:oi.dst=N:=by rfl) (hc:anyT T l.toList l'.toList i=true:=by kernel_rfl) (hQ:∀ c a w,Q (.panic c) (a.put oi.dst undef) w→Q (.panic c) a w:=by exact fun _ _ _ h=>h) (hg:Region.wanted oi (yielded ops a.tmps)=false:=by rfl) (ha:a.put N undef=a':=by simp only [Act.put,List.setIfInBounds_toArray,List.set_cons_zero,List.set_cons_succ,i64_w,i32_w];rfl):wpAnyLast P md ops Q S ds (fuel+1) l a w:=
  pure_ l' hi hN (any_of HT.out hc) hQ (Or.inr ⟨hg,rfl⟩) ha h
/-- take_, the same. -/
theorem tx (i:Nat) (N:Option Tmp) (l':Array Bool) (HT:Aside0 (rtab md ops=T)) (HW:Aside0 (waitsOk T.2 B=true)) (hS:S w) (hx:∀ w',S w'→(execOp a.eval oi).run P w'=.ok (.value v) w') (h:wpAnyLast P md ops Q S ds fuel l' a' w) (hi:ops[i]? =some oi:=by rfl) (hN:oi.dst=N:=by rfl) (hc:takeW T B ds l.toList l'.toList i=true:=by kernel_rfl) (hQ:∀ c a w,Q (.panic c) (a.put oi.dst v) w→Q (.panic c) a w:=by exact fun _ _ _ h=>h) (hg:Region.wanted oi (yielded ops a.tmps)=true:=by rfl) (ha:a.put N v=a':=by simp only [Act.put,List.setIfInBounds_toArray,List.set_cons_zero,List.set_cons_succ,i64_w,i32_w];rfl):wpAnyLast P md ops Q S ds (fuel+1) l a w:=
  take_ l' hi hN (take_ofW HT.out HW.out hc) hQ (Or.inl ⟨hg,hx⟩) hS ha h
end
theorem Kd.C_one {α:Type} {d:Kd α} {w:World} {ad:Addr} {x:α} {c:List Value} (hK:d.K w x c) (hc:∀ j u,c[j]? =some u→w.cell? (ad.add j)=some u):Kd.C d w (some ad) [x].length [x]:=
  ⟨rfl,t30_,fun _=>⟨ad,rfl,fun j p hj=>by
    cases j with
    |succ j=>simp at hj
    |zero=>
      have e:x=p:=by simpa using hj
      subst e
      exact ⟨c,d.K_len hK,hK,fun i u hu=>by rw [Nat.zero_mul,Nat.zero_add];exact hc i u hu⟩⟩⟩
theorem cells_blk {w:World} {g:Nat} {t:TypeId} {cs:Array Value} (h:w.heap[g]? =some (.cells cs t (0,0))):∀ j u,cs.toList[j]? =some u→w.cell? ((⟨g,0,none⟩:Addr).add j)=some u:=by
  intro j u hu;have e:(⟨g,0,none⟩:Addr).add j=⟨g,j,none⟩:=(by unfold Addr.add;split<;>simp_all);rw [e,blk_cell h];simpa using hu
theorem Kd.C_sub {α:Type} {d:Kd α} {w:World} {ad:Addr} {n:Nat} {xs:List α} {z:α} {i:Int} (h:Kd.C d w (some ad) n xs) (L:0≤i) (O:i<n):Kd.C d w (some (ad.add (i.toNat * d.sz))) [xs.getD i.toNat z].length [xs.getD i.toNat z]:=by
  obtain ⟨ad',c,e,hl,hK,hc⟩:=Kd.C_get h z i L O;cases e;exact Kd.C_one hK (fun j u hu=>by
    have h2:=hc j u hu
    have e:(ad.add (i.toNat * d.sz)).add j=ad.add (i.toNat * d.sz+j):=by
      unfold Addr.add
      by_cases hi:i.toNat * d.sz=0<;>by_cases hj:j=0<;>simp [hi,hj,Nat.add_assoc]
    rw [e];exact h2)
/-- One of two. -/
def pk_ {α:Type} (i:Int) (a b:α):α:=if i=0 then a else b
/-- The binary search of sort.Search. -/
def searchO (p:Int→Option Bool):Nat→Int→Int→Option Int
  |0,_,_=>none
  |n+1,i,j=>if i<j then (p ((i+j) / 2)).bind fun b=>if b=true then searchO p n i ((i+j) / 2) else searchO p n ((i+j) / 2+1) j else some i
theorem searchO_mono {p q:Int→Option Bool} (h:∀ x,LeO (p x) (q x)):∀ n i j,LeO (searchO p n i j) (searchO q (n+1) i j)
  |0,_,_=>LeO.none _
  |n+1,i,j=>by
    show LeO (if i<j then _ else _) (if i<j then _ else _)
    exact LeO.ite (LeO.bind (h _) (fun _=>LeO.ite (searchO_mono h n i _) (searchO_mono h n _ j))) (LeO.refl _)
def firstO (p:Int→Option Bool) (k:Nat) (low high:Int):Option (Int × Bool):=if wrap64 (wrap64 (high - low)+1)≤2305843009213693952 then (searchO (fun i=>p (wrap64 (low+i))) k 0 (wrap64 (wrap64 (high - low)+1))).bind fun q=>some (wrap64 (low+q),decide (q<wrap64 (wrap64 (high - low)+1))) else none
theorem firstO_mono {p q:Int→Option Bool} (h:∀ x,LeO (p x) (q x)) (k:Nat) (low high:Int):LeO (firstO p k low high) (firstO q (k+1) low high):=
  LeO.ite (LeO.bind (searchO_mono (fun _=>h _) k _ _) (fun _=>LeO.refl _)) (LeO.refl _)

end Go.Proofs.Ytemoomgnffkgbaa.PFnExactLeastTank
