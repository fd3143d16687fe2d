-- written by wip/xprint.py, a program of this session, for this claim; not trusted: Lean checks it.
import Derived.Test.YtoagcfpbdcoefaaPFnBillsx0
import Derived.Test.YtoagcfpbdcoefaaPFnBillsx1
import Derived.Test.YtoagcfpbdcoefaaPFnBillsx3
import Derived.Test.YtoagcfpbdcoefaaPFnBillsx4
import Derived.Test.YtoagcfpbdcoefaaPFnBillsx8
namespace Go.Proofs.Ytoagcfpbdcoefaa.PFnBills
open Go.RowKit Go.Proofs.YtoagcfpbdcoefaaW.PrintWords Go.Proofs.YtoagcfpbdcoefaaW.PrintLast Go.Proofs.YtoagcfpbdcoefaaW.PrintMore
attribute [local go_sem] leq_less_ max2_int min2_int max_two min_two max_three min_three max_four min_four   -- for this text's walks alone
set_option linter.unusedVariables false
set_option linter.unusedSimpArgs false
set_option maxHeartbeats 8000000
set_option maxRecDepth 100000
set_option maxHeartbeats 1000000 in
theorem impl_allWithin_1.clos (x lo hi:Int) (g1 g2:Nat) (w:World) (h1:w.cell? ⟨g1,0,none⟩=some (.int .i64 lo)) (h2:w.cell? ⟨g2,0,none⟩=some (.int .i64 hi)):
    Calls Try.prog 39 #[.int .i64 x,.pointer (some ⟨g1,0,none⟩),.pointer (some ⟨g2,0,none⟩)] w fun e w'=>e=.returned (.bool (!(decide (lo≤x∧x≤hi))))∧Below w.heap.size w w':=by
  have hw:=fun w=>impl_within.calls x lo hi (decide (lo≤x∧x≤hi)) w (by unfold impl_within.f;split<;>simp<;>omega);generalize decide (lo≤x∧x≤hi)=b at hw ⊢;go_enter Try.func39,Try.ntmps39;go_wp2_with (go_at_call 20;refine (hw _).mono ?_;rintro e w' ⟨rfl,hd⟩);go_ret
  exact ⟨rfl,hd.below⟩

def impl_allWithin.f (l0:List Int) (y:Int) (G:Int):Option (Bool):=some (l0.all fun x=>decide (y≤x∧x≤G))
set_option maxHeartbeats 1000000 in
theorem impl_allWithin.calls (A0:Option Addr) (c0:Nat) (l0:List Int) (y:Int) (G:Int) (r:Bool) (w:World) (aU:Kd.C (Kd.int .i64) w A0 l0.length l0) (b3:l0.length≤c0) (h:impl_allWithin.f l0 y G=some r):
    Calls Try.prog 24 #[.slice A0 l0.length c0,.int .i64 y,.int .i64 G] w fun e w'=>e=.returned (.bool r)∧Below w.heap.size w w':=by
  have hmf:∀ (fn:Fn) (first cap:Array Value) (w:World),(Instr.makeFunc fn first cap).run Try.prog w=.ok (.func fn first cap) w:=fun _ _ _ _=>rfl;have eg:∀ args w,(callFunc 39 args).run Try.prog w=.ok (.enter 39 args) w:=enters_of Try.func39 t20_ rfl;obtain rfl:=Option.some.inj h;have hb2:Below w.heap.size w ((w.alloc (.cells #[.int .i64 y] 2)).alloc (.cells #[.int .i64 G] 2)):=((Below.refl _ w).alloc (Nat.le_refl _) _).alloc t65_ _;have hcon:=slices_ContainsFunc_int64_int64.calls_any (fun x=>!(decide (y≤x∧x≤G))) 39 #[.pointer (some ⟨w.heap.size,0,none⟩),.pointer (some ⟨w.heap.size+1,0,none⟩)] eg A0 c0 l0 ((w.alloc (.cells #[.int .i64 y] 2)).alloc (.cells #[.int .i64 G] 2))
    (fun W x hb=>impl_allWithin_1.clos x y G _ _ W
      ((hb.cell (p:=⟨w.heap.size,0,none⟩) (by simp;omega)).trans (by rw [World.cell?_alloc_lt _ _ _ t65_];simp))
      ((hb.cell (p:=⟨w.heap.size+1,0,none⟩) t65_).trans t65_)) (Kd.C_below aU hb2)
  have hall:(!(l0.any fun x=>!(decide (y≤x∧x≤G))))=(l0.all fun x=>decide (y≤x∧x≤G)):=by
    rw [List.not_any_eq_all_not];simp
  rw [← hall];generalize (l0.any fun x=>!(decide (y≤x∧x≤G)))=b at hcon ⊢;clear hall aU eg h;have HB2:=a_ hb2;clear hb2;go_enter Try.func24,Try.ntmps24;go_wp2_with (go_at_call 38;refine hcon.mono ?_;rintro e w' ⟨rfl,hb⟩);go_ret
  exact ⟨rfl,HB2.out.trans (hb.mono HB2.out.size)⟩

def impl_sumOf.l0:Nat→Int→List Int→Int→Int→Option (Int)
 |0,_,_,_,_=>none
 |k+1,x3,x6,x7,x8=>if x8<x7 then (if 0≤x8 then (if x8<(x6.length:Int) then (impl_sumOf.l0 k (wrap64 (x3+(rd x6 x8))) x6 x7 (wrap64 (x8+1))) else (none)) else (none)) else (some x3)
def impl_sumOf.f (k:Nat) (l0:List Int):Option (Int):=impl_sumOf.l0 k 0 l0 (l0.length:Int) 0
theorem impl_sumOf.mono_l:∀ k,(∀ Z y1 y2 y3,LeO (impl_sumOf.l0 k Z y1 y2 y3) (impl_sumOf.l0 (k+1) Z y1 y2 y3))
 |0=>fun _ _ _ _ r h=>by simp [impl_sumOf.l0] at h
 |k+1=>by
  have aC:=impl_sumOf.mono_l k
  ·intro Z y1 y2 y3
   unfold impl_sumOf.l0
   with_reducible repeat' first|exact aC _ _ _ _|exact LeO.refl _|exact LeO.none _|refine LeO.ite ?_ ?_|refine LeO.bind ?_ (fun _=>?_)
theorem impl_sumOf.mono:∀ A k,LeO (impl_sumOf.f k A) (impl_sumOf.f (k+1) A):=by
 intro A k;have aC:=impl_sumOf.mono_l k;unfold impl_sumOf.f
 with_reducible repeat' first|exact aC _ _ _ _|exact LeO.refl _|exact LeO.none _|refine LeO.ite ?_ ?_|refine LeO.bind ?_ (fun _=>?_)
theorem impl_sumOf.calls (k:Nat) (A0:Option Addr) (c0:Nat) (l0:List Int) (r:Int) (w:World) (aU:Kd.C (Kd.int .i64) w A0 l0.length l0) (b3:l0.length≤c0) (h:impl_sumOf.f k l0=some r):
  Calls Try.prog 25 #[.slice A0 l0.length c0] w fun e w'=>e=.returned (.int .i64 r)∧Drawn0 w w':=by
 have cB:=a_ aU;have cX:=a_ b3;clear aU b3;have H:(impl_sumOf.l0 k 0 l0 (l0.length:Int) 0)=some r:=h;clear h;have H':=a_ H;clear H;go_enter Try.func25,Try.ntmps25;go_wp2;go_loopg [3,8] k (fun kq v3 v8 w'=>∃ (au:Int) (I:Int),v3=.int .i64 au∧v8=.int .i64 I∧Aside0 (impl_sumOf.l0 kq au l0 (l0.length:Int) I=some r)∧Aside0 (kq≤k)∧Drawn0 w w')
 case atStart=>exact ⟨(0),(0),t5_,t5_,H',⟨Nat.le_refl _⟩,t17_⟩
 case round=>
  clear H';obtain ⟨au,I,rfl,rfl,HA,HK1,⟨m1,rfl⟩⟩:=hrel;cases gk with
  |zero=>exact absurd HA.out (by simp [impl_sumOf.l0])
  |succ k1=>
   have H:=HA.out;clear HA;simp only [impl_sumOf.l0] at H;by_cases O:I<(l0.length:Int)
   ·rw [if_pos O] at H;have cG:decide (I<(l0.length:Int))=true:=d1_ O;clear O;by_cases c3:0≤I
    ·rw [if_pos c3] at H;have cd:decide (0≤I)=true:=d1_ c3;clear c3;by_cases Y:I<(l0.length:Int)
     ·rw [if_pos Y] at H;have ce:decide (I<(l0.length:Int))=true:=d1_ Y;clear Y;have H':=a_ H;clear H;have b5:0≤(I:Int):=od_;have b8:I<(l0.length:Int):=od_;obtain ⟨cY,cI,cq⟩:=Kd.at_int cB.out I b5 b8;cases cI;replace b5:=eq_true b5;replace b8:=eq_true b8;go_wp2;go_roundg k1
      case measure=>have:=HK1.out;omega
      case rel=>exact ⟨(wrap64 (au+(rd l0 I))),(wrap64 (I+1)),t5_,t5_,H',⟨t80_⟩,t17_⟩
     ·rw [if_neg Y] at H;exact absurd H t65_
    ·rw [if_neg c3] at H;exact absurd H t65_
   ·rw [if_neg O] at H;have cG:decide (I<(l0.length:Int))=false:=d2_ O;clear O;obtain rfl:=Option.some.inj H;go_wp2;go_ret
    exact ⟨t5_,t17_⟩

mutual
def impl_YearBill.j0:Nat→List Int→List Int→Bool→ByteArray→Int→Int→List (List Int)→Option (List Int × Int × Int)
 |0,_,_,_,_,_,_,_=>none
 |k+1,x1,x2,cW,ao,ap,aq,ar=>if cW=true then (some (([]:List Int),0,2)) else (if (x1.length:Int)=(x2.length:Int) then (if (x1.length:Int) > 12 then (some (([]:List Int),0,7)) else (impl_YearBill.l0 k x2 ([]:List Int) x1 (x1.length:Int) 0 ao ap aq ar)) else (some (([]:List Int),0,7)))
def impl_YearBill.l0:Nat→List Int→List Int→List Int→Int→Int→ByteArray→Int→Int→List (List Int)→Option (List Int × Int × Int)
 |0,_,_,_,_,_,_,_,_,_=>none
 |k+1,x2,x9,bC,br,aE,ao,ap,aq,ar=>if aE<br then (if 0≤aE then (if aE<(bC.length:Int) then (if aE<(x2.length:Int) then ((impl_Tariff_bill.f k ao ap aq ar (rd bC aE) (rd x2 aE)).bind fun aQ=>(if x9.length<17592186044416 then (impl_YearBill.l0 k x2 (x9++[aQ]) bC br (wrap64 (aE+1)) ao ap aq ar) else (none))) else (none)) else (none)) else (none)) else ((impl_sumOf.f k x9).bind fun bB=>(some (x9,bB,0)))
end
def impl_YearBill.f (k:Nat) (l:ByteArray) (m:Int) (q:Int) (d:List (List Int)) (c:List Int) (s:List Int):Option (List Int × Int × Int):=(impl_ValidTariff.f k l m q d).bind fun aY=>(if aY=true then ((impl_allWithin.f c 0 1000000).bind fun aZ=>(if aZ=true then ((impl_allWithin.f s 0 10000).bind fun aN=>(impl_YearBill.j0 k c s (!aN) l m q d)) else (impl_YearBill.j0 k c s true l m q d))) else (some (([]:List Int),0,1)))
theorem impl_YearBill.mono_l:∀ k,(∀ Z y1 y2 y3 y4 y5 y6,LeO (impl_YearBill.j0 k Z y1 y2 y3 y4 y5 y6) (impl_YearBill.j0 (k+1) Z y1 y2 y3 y4 y5 y6))∧(∀ Z y1 y2 y3 y4 y5 y6 y7 y8,LeO (impl_YearBill.l0 k Z y1 y2 y3 y4 y5 y6 y7 y8) (impl_YearBill.l0 (k+1) Z y1 y2 y3 y4 y5 y6 y7 y8))
 |0=>⟨fun _ _ _ _ _ _ _ r h=>by simp [impl_YearBill.j0] at h,fun _ _ _ _ _ _ _ _ _ r h=>by simp [impl_YearBill.l0] at h⟩
 |k+1=>by
  obtain ⟨aC,b4⟩:=impl_YearBill.mono_l k
  refine ⟨?_,?_⟩<;>intros<;>first|unfold impl_YearBill.j0|unfold impl_YearBill.l0
  all_goals
   with_reducible repeat' first|exact aC _ _ _ _ _ _ _|exact b4 _ _ _ _ _ _ _ _ _|exact impl_Tariff_bill.mono _ _ _ _ _ _ _|exact impl_ValidTariff.mono _ _ _ _ _|exact impl_sumOf.mono _ _|exact LeO.refl _|exact LeO.none _|refine LeO.ite ?_ ?_|refine LeO.bind ?_ (fun _=>?_)
theorem impl_YearBill.mono:∀ A y G a3 a4 a5 k,LeO (impl_YearBill.f k A y G a3 a4 a5) (impl_YearBill.f (k+1) A y G a3 a4 a5):=by
 intro A y G a3 a4 a5 k;obtain ⟨aC,b4⟩:=impl_YearBill.mono_l k;unfold impl_YearBill.f
 with_reducible repeat' first|exact aC _ _ _ _ _ _ _|exact b4 _ _ _ _ _ _ _ _ _|exact impl_Tariff_bill.mono _ _ _ _ _ _ _|exact impl_ValidTariff.mono _ _ _ _ _|exact impl_sumOf.mono _ _|exact LeO.refl _|exact LeO.none _|refine LeO.ite ?_ ?_|refine LeO.bind ?_ (fun _=>?_)
def impl_YearBill.T11:Bool × List (List Nat × List Nat):=(true,[([],[]),([],[]),([],[]),([],[]),([],[]),([3,4],[3,4]),([5],[5]),([1,2,6],[1,2,6]),([7],[7]),([0,8,7],[0,8]),([9,9,0,1,2,3,4,5,6,7,8,9],[0,9])])
def impl_YearBill.B11:List Nat:=[0,0,0,0,0,24,56,126,254,511,1023]
theorem impl_YearBill.tab11:rtab .any (opsOf Try.f10 11)=impl_YearBill.T11:=by kernel_rfl
theorem impl_YearBill.bits11:waitsOk impl_YearBill.T11.2 impl_YearBill.B11=true:=by kernel_rfl
theorem impl_YearBill.calls (k:Nat) (l:ByteArray) (m:Int) (q:Int) (D:Option Addr) (E:Nat) (d:List (List Int)) (A1:Option Addr) (c1:Nat) (c:List Int) (A2:Option Addr) (O:Nat) (s:List Int) (T:List Int) (U:Int) (X:Int) (w:World) (bk:Kd.C (Kd.slice 2 (Kd.int .i64)) w D d.length d) (bZ:d.length≤E) (bl:Kd.C (Kd.int .i64) w A1 c.length c) (ba:c.length≤c1) (bm:Kd.C (Kd.int .i64) w A2 s.length s) (bb:s.length≤O) (h:impl_YearBill.f k l m q d c s=some (T,U,X)):
  Calls Try.prog 10 #[.agg #[.string l,.int .i64 m,.int .i64 q,.slice D d.length E],.slice A1 c.length c1,.slice A2 s.length O] w fun e w'=>∃ bp:Value,e=.returned (.tuple #[bp,.int .i64 U,.int .i64 X])∧Kd.R (Kd.int .i64) 2 w' w.heap.size (fun _=>True) bp T∧Below w.heap.size w w':=by
 have cp:=Try.underlying26;have HR0_3:=a_ bk;have ax:=a_ bZ;clear bk bZ;have az:=a_ bl;have bQ:=a_ ba;clear bl ba;have bR:=a_ bm;have c9:=a_ bb;clear bm bb;have HB:=a_ (Below.refl w.heap.size w);have H:((impl_ValidTariff.f k l m q d).bind fun aY=>(if aY=true then ((impl_allWithin.f c 0 1000000).bind fun aZ=>(if aZ=true then ((impl_allWithin.f s 0 10000).bind fun aN=>(impl_YearBill.j0 k c s (!aN) l m q d)) else (impl_YearBill.j0 k c s true l m q d))) else (some (([]:List Int),0,1))))=some (T,U,X):=h;clear h;replace H:=be_ H;obtain ⟨aY,bM,H⟩:=H;have A4:=a_ bM;clear bM;by_cases c5:aY=true
 ·subst c5;replace H:=(if_pos rfl).symm.trans H;have ay:=a_ H;clear H;go_enter Try.func10,Try.ntmps10;go_upto_region 3 with (first|((with_reducible refine gate_dst (N:=3) rfl ?_);(try (refine gate_guard t81_ ?_;dsimp only));refine box_event ?hg (N:=3) ?hd (cs:=#[.string l,.int .i64 m,.int .i64 q,.slice D d.length E]) (t:=26) ?hr ?_;(case hd=>rfl);(case hg=>rfl);(case hr=>first|(go_simp;done)|(go_simp;rfl));intro B hg w7 hbox hb;have j:=a_ (below_step t1_ hb);have u:=a_ (hbox);have L:=a_ ((by rw [hg];exact (below_size t1_):w.heap.size≤B));have aX:=a_ ((by rw [hg];exact (below_size t1_):w.heap.size≤B));clear HB;have HB:=j;have BK263:=u;have c8:=L;have GE263:=aX;clear j u L aX;clear hb hbox hg;have ⟨bc,bd,be,bf,bg,bh,bi,bj⟩:=bc4_ BK263.out)|((with_reducible refine gate_callee (f:=19) rfl ?_);refine goesL_ (some 14) rfl rfl Try.func19 t20_ rfl #[.agg #[.string l,.int .i64 m,.int .i64 q,.slice D d.length E]] rfl t2_ ?_;(with_reducible refine (impl_ValidTariff.calls k l m q _ _ d true _ ?Z1 ?Z2 A4.out).mono ?_);(case Z1=>exact qc_ (Kd.C_below HR0_3.out HB.out));(case Z2=>exact ax.out);rintro e w9 ⟨rfl,hb⟩;refine ⟨_,rfl,?_⟩;have j:=a_ (blk_below (g:=B) (o:=.cells #[.string l,.int .i64 m,.int .i64 q,.slice D d.length E] 26 (0,0)) (q1_ BK263.out) hb);have u:=a_ (below_step t23_ hb);clear BK263;clear HB;have BK263:=j;have HB:=u;clear j u;(try clear hb);(try clear hb2);(try clear hk);(try clear hi)));(try simp only [Act.put,List.setIfInBounds_toArray,List.set_cons_zero,List.set_cons_succ]);go_cut [16] (fun cR wc=>∃ (kq:Nat) (an:Bool),cR=.bool an∧Aside0 (impl_YearBill.j0 kq c s an l m q d=some (T,U,X))∧Aside0 (kq≤k)∧Aside0 (wc.heap[B]? =some (.cells #[.string l,.int .i64 m,.int .i64 q,(.slice D d.length E)] 26 (0,0)))∧Aside0 (Below w.heap.size w wc))
  case first=>
   have H:=ay.out;clear ay;replace H:=be_ H;obtain ⟨aZ,bF,H⟩:=H;have bE:=a_ bF;clear bF;by_cases aJ:aZ=true
   ·subst aJ;replace H:=(if_pos rfl).symm.trans H;replace H:=be_ H;obtain ⟨aN,bG,H⟩:=H;have bv:=a_ bG;clear bG;have H':=a_ H;clear H;go_wp2_with (first|((with_reducible refine gate_callee (f:=24) rfl ?_);refine goesL_ (some 18) rfl rfl Try.func24 t20_ rfl #[.slice A1 c.length c1,.int .i64 0,.int .i64 1000000] rfl t2_ ?_;(with_reducible refine (impl_allWithin.calls _ _ c 0 1000000 true _ ?Z1 ?Z2 bE.out).mono ?_);(case Z1=>exact qc_ (Kd.C_below az.out HB.out));(case Z2=>exact bQ.out);rintro e cu ⟨rfl,hb⟩;refine ⟨_,rfl,?_⟩;have j:=a_ (blk_below (g:=B) (o:=.cells #[.string l,.int .i64 m,.int .i64 q,.slice D d.length E] 26 (0,0)) (q1_ BK263.out) hb);have u:=a_ (below_step t23_ hb);clear BK263;clear HB;have BK263:=j;have HB:=u;clear j u;(try clear hb);(try clear hb2);(try clear hk);(try clear hi))|(go_at_call 24;(with_reducible refine (impl_allWithin.calls _ _ s 0 10000 aN _ ?Z1 ?Z2 bv.out).mono ?_);(case Z1=>exact qc_ (Kd.C_below bR.out HB.out));(case Z2=>exact c9.out);rintro e cv ⟨rfl,hb⟩;have j:=a_ (blk_below (g:=B) (o:=.cells #[.string l,.int .i64 m,.int .i64 q,.slice D d.length E] 26 (0,0)) (q1_ BK263.out) hb);have u:=a_ (below_step t23_ hb);clear BK263;clear HB;have BK263:=j;have HB:=u;clear j u;(try clear hb);(try clear hb2);(try clear hk);(try clear hi)));go_meet
    case rel=>exact ⟨_,(!aN),t5_,H',⟨t66_⟩,⟨t77_⟩,⟨t23_⟩⟩
   ·replace aJ:=Bool.eq_false_iff.mpr aJ;subst aJ;replace H:=(if_neg (show ¬ (false=true) by decide)).symm.trans H;have H':=a_ H;clear H;go_wp2_with (first|((with_reducible refine gate_callee (f:=24) rfl ?_);refine goesL_ (some 18) rfl rfl Try.func24 t20_ rfl #[.slice A1 c.length c1,.int .i64 0,.int .i64 1000000] rfl t2_ ?_;(with_reducible refine (impl_allWithin.calls _ _ c 0 1000000 false _ ?Z1 ?Z2 bE.out).mono ?_);(case Z1=>exact qc_ (Kd.C_below az.out HB.out));(case Z2=>exact bQ.out);rintro e cw ⟨rfl,hb⟩;refine ⟨_,rfl,?_⟩;have j:=a_ (blk_below (g:=B) (o:=.cells #[.string l,.int .i64 m,.int .i64 q,.slice D d.length E] 26 (0,0)) (q1_ BK263.out) hb);have u:=a_ (below_step t23_ hb);clear BK263;clear HB;have BK263:=j;have HB:=u;clear j u;(try clear hb);(try clear hb2);(try clear hk);(try clear hi)));go_meet
    case rel=>exact ⟨_,(true),t5_,H',⟨t66_⟩,⟨t77_⟩,⟨t23_⟩⟩
  case rest=>
   clear ay;(try clear c1);(try clear O);(try clear p2);(try clear c5);(try clear cE);(try clear aJ);(try clear bc);(try clear bd);(try clear be);(try clear bf);(try clear bg);(try clear bh);(try clear bi);(try clear bj);obtain ⟨kq,an,rfl,HA,HJ5,BK263,HB⟩:=hcut;cases kq with
   |zero=>exact absurd HA.out (by simp [impl_YearBill.j0])
   |succ kj5=>
    have H:=HA.out;clear HA;simp only [impl_YearBill.j0] at H;by_cases aT:an=true
    ·subst aT;replace H:=(if_pos rfl).symm.trans H;simp only [Option.some.injEq,Prod.mk.injEq] at H;obtain ⟨rfl,rfl,rfl⟩:=H;go_wp2;go_ret3
     exact ⟨_,t32_,t67_,t23_⟩
    ·replace aT:=Bool.eq_false_iff.mpr aT;subst aT;replace H:=(if_neg (show ¬ (false=true) by decide)).symm.trans H;by_cases M:(c.length:Int)=(s.length:Int)
     ·rw [if_pos M] at H;have bS:((c.length:Int)==(s.length:Int))=true:=b1_ M;have bT:((c.length:Int)!=(s.length:Int))=false:=b4_ M;have bU:(c.length==s.length)=true:=(by first|simpa using M|(simp at M ⊢;omega));clear M;by_cases aA:(c.length:Int) > 12
      ·rw [if_pos aA] at H;have bV:decide (12<(c.length:Int))=true:=d1_ aA;have bW:decide (12<c.length)=true:=decide_eq_true t31_;clear aA;simp only [Option.some.injEq,Prod.mk.injEq] at H;obtain ⟨rfl,rfl,rfl⟩:=H;go_wp2;go_ret3
       exact ⟨_,t32_,t67_,t23_⟩
      ·rw [if_neg aA] at H;have bV:decide (12<(c.length:Int))=false:=d2_ aA;have bW:decide (12<c.length)=false:=decide_eq_false t31_;clear aA;have H':=a_ H;clear H;go_wp2;go_loopg [9,38] kj5 (fun kq v9 cT w'=>∃ (a9:List Int) (z:Int),cT=.int .i64 z∧Aside0 (impl_YearBill.l0 kq s a9 c (c.length:Int) z l m q d=some (T,U,X))∧Aside0 (kq≤kj5)∧Aside0 (Kd.R (Kd.int .i64) 2 w' w.heap.size (fun _=>True) v9 a9)∧Aside0 (w'.heap[B]? =some (.cells #[.string l,.int .i64 m,.int .i64 q,(.slice D d.length E)] 26 (0,0)))∧Aside0 (Below w.heap.size w w'))
       case atStart=>exact ⟨(([]:List Int)),(0),t5_,H',⟨Nat.le_refl _⟩,⟨t67_⟩,⟨t77_⟩,⟨t23_⟩⟩
       case round=>
        clear H';(try clear c1);(try clear O);(try clear p2);(try clear c5);(try clear cE);(try clear aJ);(try clear aT);(try clear M);(try clear bS);(try clear bT);(try clear bU);(try clear aA);(try clear bV);(try clear bW);(try clear bc);(try clear bd);(try clear be);(try clear bf);(try clear bg);(try clear bh);(try clear bi);(try clear bj);(try clear p2);obtain ⟨a9,z,rfl,HA,HK2,J,BK263,HB⟩:=hrel;cases gk with
        |zero=>exact absurd HA.out (by simp [impl_YearBill.l0])
        |succ k2=>
         have H:=HA.out;clear HA;simp only [impl_YearBill.l0] at H;by_cases aK:z<(c.length:Int)
         ·rw [if_pos aK] at H;have cF:decide (z<(c.length:Int))=true:=d1_ aK;clear aK;by_cases ae:0≤z
          ·rw [if_pos ae] at H;have ca:decide (0≤z)=true:=d1_ ae;clear ae;by_cases af:z<(c.length:Int)
           ·rw [if_pos af] at H;have cb:decide (z<(c.length:Int))=true:=d1_ af;clear af;by_cases ag:z<(s.length:Int)
            ·rw [if_pos ag] at H;have cc:decide (z<(s.length:Int))=true:=d1_ ag;clear ag;replace H:=be_ H;obtain ⟨aQ,bI,H⟩:=H;have bw:=a_ bI;clear bI;by_cases ah:a9.length<17592186044416
             ·rw [if_pos ah] at H;have LMc24:=a_ ah;clear ah;obtain ⟨bu,aW⟩:∃ y_:List Int,y_=(a9++[aQ]):=⟨_,rfl⟩;replace H:(impl_YearBill.l0 k2 s bu c (c.length:Int) (wrap64 (z+1)) l m q d)=some (T,U,X):=(by first|(rw [aW];with_reducible exact H)|(have H2_:=(Option.bind_some _ _).symm.trans H;rw [aW];with_reducible exact H2_)|(have H2_:=(Option.bind_some _ _).symm.trans H;with_reducible exact H2_)|with_reducible exact H|(rw [aW];exact H)|exact H);have cC:=a_ aW;clear aW;have H':=a_ H;clear H;have b6:0≤(z:Int):=od_;have b9:z<(c.length:Int):=od_;obtain ⟨cZ,cJ,bn⟩:=Kd.at_int az.out z b6 b9;cases cJ;replace bn:=hb_ HB bn;replace b6:=eq_true b6;replace b9:=eq_true b9;(try go_wp2);have j:=a_ (Kd.R_drew J.out);have u:=a_ (blk_drew BK263.out);have L:=a_ (below_drew1 HB.out);clear J;clear BK263;clear HB;have J:=j;have BK263:=u;have HB:=L;clear j u L;have b7:0≤(z:Int):=od_;have bA:z<(s.length:Int):=od_;obtain ⟨cD,cK,ak⟩:=Kd.at_int bR.out z b7 bA;have aV:=ak;cases cK;replace ak:=hb_ HB ak;replace b7:=eq_true b7;replace bA:=eq_true bA;refine start_ (n:=11) (S:=fun w'=>w'.cell? ⟨B,0,none⟩=some (.string l)∧w'.cell? ⟨B,1,none⟩=some (.int .i64 m)∧w'.cell? ⟨B,2,none⟩=some (.int .i64 q)∧w'.cell? ⟨B,3,none⟩=some (.slice D d.length E)∧w'.cell? (cD.add (z).toNat)=some (.int .i64 (rd s z))) (ds:=[]) (tf 0 11) t20_ rfl rfl ⟨(blk_cell BK263.out 0).trans rfl,(blk_cell BK263.out 1).trans rfl,(blk_cell BK263.out 2).trans rfl,(blk_cell BK263.out 3).trans rfl,(hb_ HB aV:)⟩ (fun hHeld=>?_);refine with_tabW impl_YearBill.tab11 impl_YearBill.bits11 (fun HT_ HW_=>?_);generalize wr.drew=cx at J BK263 HB ak hHeld ⊢;refine px 0 (some 43) (tf 1 11) HT_ ?_;refine px 2 (some 45) (tb 11 5) HT_ ?_;refine px 3 (some 46) (tb 11 13) HT_ ?_;refine px 4 (some 47) (tb 11 29) HT_ ?_;refine px 5 (some 48) (tb 11 61) HT_ ?_;refine tx (v:=?_) 1 (some 44) (tf 6 11) HT_ HW_ hHeld ?_ ?_;rotate_left;(· rintro w' ⟨s0,s1,s2,s3,s4⟩;go_simp;with_reducible rfl);refine tx (v:=?_) 6 (some 49) (tf 7 11) HT_ HW_ hHeld ?_ ?_;rotate_left;(· rintro w' ⟨s0,s1,s2,s3,s4⟩;go_simp;with_reducible rfl);refine one_ (i:=7) (N:=some 50) (tf 8 11) rfl rfl (one_of HT_.out t20_) t60_ (fun K hK=>?_);refine goes_ Try.func21 t20_ rfl #[.agg #[.string l,.int .i64 m,.int .i64 q,.slice D d.length E],.int .i64 (rd c z),.int .i64 (rd s z)] t81_ rfl rfl t2_ ?_;(with_reducible refine (impl_Tariff_bill.calls k2 l m q _ _ d (rd c z) (rd s z) aQ _ ?Z1 ?Z2 bw.out).mono ?_);(case Z1=>exact qc_ (Kd.C_below HR0_3.out HB.out));(case Z2=>exact ax.out);rintro e cy ⟨rfl,hb⟩;refine ⟨_,rfl,?_⟩;have j:=a_ (Kd.R_below (q2_ J.out) hb);have u:=a_ (blk_below (g:=B) (o:=.cells #[.string l,.int .i64 m,.int .i64 q,.slice D d.length E] 26 (0,0)) (q1_ BK263.out) hb);have L:=a_ (below_step t23_ hb);clear J;clear BK263;clear HB;have J:=j;have BK263:=u;have HB:=L;clear j u L;(try clear hb);(try clear hb2);(try clear hk);(try clear hi);refine hK.out _ _ ⟨(blk_cell BK263.out 0).trans rfl,(blk_cell BK263.out 1).trans rfl,(blk_cell BK263.out 2).trans rfl,(blk_cell BK263.out 3).trans rfl,(hb_ HB aV:)⟩ (fun hHeld=>?_);clear hK K;refine norm_ (a':=?_) ?_ ?_;rotate_left
              ·show Act.put _ (some 50) _=_
               simp only [Act.put,List.setIfInBounds_toArray,List.set_cons_zero,List.set_cons_succ,i64_w,i32_w];rfl
              refine one_ (i:=8) (N:=some 51) (tf 9 11) rfl rfl (one_of HT_.out t20_) t60_ (fun K hK=>?_);refine value_ (w1:=?_) (v:=?_) t81_ rfl ?_ ?_;rotate_left 2
              ·go_simp
               constructor
               ·rfl
               ·rfl
              refine hK.out _ _ ⟨(blk_cell (blk_alloc BK263.out _) 0).trans rfl,(blk_cell (blk_alloc BK263.out _) 1).trans rfl,(blk_cell (blk_alloc BK263.out _) 2).trans rfl,(blk_cell (blk_alloc BK263.out _) 3).trans rfl,(World.cell?_alloc_lt _ _ _ (World.block_lt_of_cell? _ _ ((hb_ HB aV:)))).trans ((hb_ HB aV:))⟩ (fun hHeld=>?_);clear hK K;refine norm_ (a':=?_) ?_ ?_;rotate_left
              ·show Act.put _ (some 51) _=_
               simp only [Act.put,List.setIfInBounds_toArray,List.set_cons_zero,List.set_cons_succ,i64_w,i32_w];rfl
              refine one_ (i:=9) (N:=some 52) (tf 10 11) rfl rfl (one_of HT_.out t20_) t60_ (fun K hK=>?_);refine Kd.R_append_step (Kd.int .i64) (w0:=w) w.heap.size t81_ (.tmp 43) (.tmp 51) 34 2 (.int .i64 0) 8 rfl Try.underlying34 info2 rfl t60_ t31_ u9 a9 aQ [.int .i64 aQ] (fun _=>True) (fun _=>False) rfl rfl ?aP (fun _ hk=>hk.elim) ?aF ?aO ?aB ?aS ?aL ?_;(case aP=>exact rfl);(case aB=>exact t23_);(case aF=>exact (fun _ _=>trivial));(case aO=>exact (q2_ J.out));(case aS=>exact (below_size t23_));(case aL=>have:=LMc24.out;omega);intro ct cz ho hb hg hat;rw [← cC.out] at ho;have j:=a_ (blk_grown (g:=B) (o:=.cells #[.string l,.int .i64 m,.int .i64 q,.slice D d.length E] 26 (0,0)) (q1_ BK263.out) hg (Kd.R_ne J.out BK263.out t60_));have u:=a_ (hb);have L:=a_ (ho);clear BK263;clear HB;clear J;have BK263:=j;have HB:=u;have cA:=L;clear j u L;clear ho hb hg hat;refine hK.out _ _ ⟨(blk_cell BK263.out 0).trans rfl,(blk_cell BK263.out 1).trans rfl,(blk_cell BK263.out 2).trans rfl,(blk_cell BK263.out 3).trans rfl,(hb_ HB aV:)⟩ (fun hHeld=>?_);clear hK K;refine norm_ (a':=?_) ?_ ?_;rotate_left
              ·show Act.put _ (some 52) _=_
               simp only [Act.put,List.setIfInBounds_toArray,List.set_cons_zero,List.set_cons_succ,i64_w,i32_w];rfl
              refine px 10 (some 9) (tf 11 11) HT_ ?_;refine done_ (done_of HT_.out t20_) ?_;(try go_wp2);go_roundg k2
              case measure=>have:=HJ5.out;have:=HK2.out;omega
              case rel=>exact ⟨(bu),(wrap64 (z+1)),t5_,H',⟨(by have:=HJ5.out;have:=HK2.out;omega)⟩,⟨(by (with_reducible repeat (first|apply Kd.R_alloc|apply Kd.R_drewN|apply Kd.R_drew));exact cA.out)⟩,⟨t77_⟩,⟨t23_⟩⟩
             ·rw [if_neg ah] at H;exact absurd H t65_
            ·rw [if_neg ag] at H;exact absurd H t65_
           ·rw [if_neg af] at H;exact absurd H t65_
          ·rw [if_neg ae] at H;exact absurd H t65_
         ·rw [if_neg aK] at H;have cF:decide (z<(c.length:Int))=false:=d2_ aK;clear aK;replace H:=be_ H;obtain ⟨bB,bJ,H⟩:=H;have bx:=a_ bJ;clear bJ;simp only [Option.some.injEq,Prod.mk.injEq] at H;obtain ⟨rfl,rfl,rfl⟩:=H;obtain ⟨c7,cH,cL⟩:=Kd.R_slice J.out;subst cL;go_wp2_with (first|((with_reducible refine gate_callee (f:=25) rfl ?_);refine goesL_ (some 56) rfl rfl Try.func25 t20_ rfl #[.slice c7 a9.length cH] rfl t2_ ?_;(with_reducible refine (impl_sumOf.calls k2 _ _ a9 bB _ ?Z1 ?Z2 bx.out).mono ?_);(case Z1=>repeat (first|exact (Kd.R_reads' J.out).2.2|(with_reducible refine Kd.C_alloc ?_ _)|(with_reducible refine Kd.C_drewN ?_ _)|(with_reducible refine Kd.C_drew ?_)));(case Z2=>exact (Kd.R_reads' J.out).2.1);rintro e w' ⟨rfl,⟨nd,rfl⟩⟩;refine ⟨_,rfl,?_⟩));go_ret3
          exact ⟨_,t32_,(by (with_reducible repeat (first|apply Kd.R_alloc|apply Kd.R_drewN|apply Kd.R_drew));exact J.out),t23_⟩
     ·rw [if_neg M] at H;have bS:((c.length:Int)==(s.length:Int))=false:=b2_ M;have bT:((c.length:Int)!=(s.length:Int))=true:=b3_ M;have bU:(c.length==s.length)=false:=(by first|simpa using M|(simp at M ⊢;omega));simp only [Option.some.injEq,Prod.mk.injEq] at H;obtain ⟨rfl,rfl,rfl⟩:=H;go_wp2;go_ret3
      exact ⟨_,t32_,t67_,t23_⟩
 ·replace c5:=Bool.eq_false_iff.mpr c5;subst c5;replace H:=(if_neg (show ¬ (false=true) by decide)).symm.trans H;simp only [Option.some.injEq,Prod.mk.injEq] at H;obtain ⟨rfl,rfl,rfl⟩:=H;go_enter Try.func10,Try.ntmps10;go_wp2_with (first|((with_reducible refine gate_dst (N:=3) rfl ?_);(try (refine gate_guard t81_ ?_;dsimp only));refine box_event ?hg (N:=3) ?hd (cs:=#[.string l,.int .i64 m,.int .i64 q,.slice D d.length E]) (t:=26) ?hr ?_;(case hd=>rfl);(case hg=>rfl);(case hr=>first|(go_simp;done)|(go_simp;rfl));intro B hg d0 hbox hb;have j:=a_ (below_step t1_ hb);have u:=a_ (hbox);have L:=a_ ((by rw [hg];exact (below_size t1_):w.heap.size≤B));have aX:=a_ ((by rw [hg];exact (below_size t1_):w.heap.size≤B));clear HB;have HB:=j;have BK263:=u;have c8:=L;have GE263:=aX;clear j u L aX;clear hb hbox hg;have ⟨ch,ci,cj,ck,cl,cm,cn,co⟩:=bc4_ BK263.out)|((with_reducible refine gate_callee (f:=19) rfl ?_);refine goesL_ (some 14) rfl rfl Try.func19 t20_ rfl #[.agg #[.string l,.int .i64 m,.int .i64 q,.slice D d.length E]] rfl t2_ ?_;(with_reducible refine (impl_ValidTariff.calls k l m q _ _ d false _ ?Z1 ?Z2 A4.out).mono ?_);(case Z1=>exact qc_ (Kd.C_below HR0_3.out HB.out));(case Z2=>exact ax.out);rintro e d1 ⟨rfl,hb⟩;refine ⟨_,rfl,?_⟩;have j:=a_ (blk_below (g:=B) (o:=.cells #[.string l,.int .i64 m,.int .i64 q,.slice D d.length E] 26 (0,0)) (q1_ BK263.out) hb);have u:=a_ (below_step t23_ hb);clear BK263;clear HB;have BK263:=j;have HB:=u;clear j u;(try clear hb);(try clear hb2);(try clear hk);(try clear hi)));go_ret3
  exact ⟨_,t32_,t67_,t23_⟩

def impl_TaxOf.f (A:Int) (y:Int):Option (Int × Int × Int):=(impl_within.f A 0 1000000000000).bind fun aa=>(if aa=true then ((impl_within.f y 0 1000).bind fun ab=>(if ab=true then ((impl_divRound.f (wrap64 (A * y)) 1000).bind fun aD=>(some (aD,wrap64 (A+aD),0))) else (some (0,0,2)))) else (some (0,0,2)))
theorem impl_TaxOf.calls (A:Int) (y:Int) (T:Int) (U:Int) (X:Int) (w:World) (h:impl_TaxOf.f A y=some (T,U,X)):
  Calls Try.prog 11 #[.int .i64 A,.int .i64 y] w fun e w'=>e=.returned (.tuple #[.int .i64 T,.int .i64 U,.int .i64 X])∧Below w.heap.size w w':=by
 have HB:=a_ (Below.refl w.heap.size w);have H:((impl_within.f A 0 1000000000000).bind fun aa=>(if aa=true then ((impl_within.f y 0 1000).bind fun ab=>(if ab=true then ((impl_divRound.f (wrap64 (A * y)) 1000).bind fun aD=>(some (aD,wrap64 (A+aD),0))) else (some (0,0,2)))) else (some (0,0,2))))=some (T,U,X):=h;clear h;replace H:=be_ H;obtain ⟨aa,bK,H⟩:=H;have A3:=a_ bK;clear bK;by_cases Y:aa=true
 ·subst Y;replace H:=(if_pos rfl).symm.trans H;replace H:=be_ H;obtain ⟨ab,bO,H⟩:=H;have A5:=a_ bO;clear bO;by_cases c6:ab=true
  ·subst c6;replace H:=(if_pos rfl).symm.trans H;replace H:=be_ H;obtain ⟨aD,bP,H⟩:=H;have A7:=a_ bP;clear bP;simp only [Option.some.injEq,Prod.mk.injEq] at H;obtain ⟨rfl,rfl,rfl⟩:=H;go_enter Try.func11,Try.ntmps11;go_wp2_with (first|((with_reducible refine gate_callee (f:=20) rfl ?_);refine goesL_ (some 9) rfl rfl Try.func20 t20_ rfl #[.int .i64 A,.int .i64 0,.int .i64 1000000000000] rfl t2_ ?_;(with_reducible refine (impl_within.calls A 0 1000000000000 true _ A3.out).mono ?_);rintro e w' ⟨rfl,⟨nd,rfl⟩⟩;refine ⟨_,rfl,?_⟩)|(go_at_call 20;(with_reducible refine (impl_within.calls y 0 1000 true _ A5.out).mono ?_);rintro e w' ⟨rfl,⟨nd,rfl⟩⟩)|((with_reducible refine gate_callee (f:=26) rfl ?_);refine goesL_ (some 19) rfl rfl Try.func26 t20_ rfl #[.int .i64 (wrap64 (A * y)),.int .i64 1000] rfl t2_ ?_;(with_reducible refine (impl_divRound.calls (wrap64 (A * y)) 1000 aD _ A7.out).mono ?_);rintro e w8 ⟨rfl,hb⟩;refine ⟨_,rfl,?_⟩;have j:=a_ (below_step t1_ hb);clear HB;have HB:=j;clear j;(try clear hb);(try clear hb2);(try clear hk);(try clear hi)));go_ret3
   exact ⟨t4_,t1_⟩
  ·replace c6:=Bool.eq_false_iff.mpr c6;subst c6;replace H:=(if_neg (show ¬ (false=true) by decide)).symm.trans H;simp only [Option.some.injEq,Prod.mk.injEq] at H;obtain ⟨rfl,rfl,rfl⟩:=H;go_enter Try.func11,Try.ntmps11;go_wp2_with (first|((with_reducible refine gate_callee (f:=20) rfl ?_);refine goesL_ (some 9) rfl rfl Try.func20 t20_ rfl #[.int .i64 A,.int .i64 0,.int .i64 1000000000000] rfl t2_ ?_;(with_reducible refine (impl_within.calls A 0 1000000000000 true _ A3.out).mono ?_);rintro e w' ⟨rfl,⟨nd,rfl⟩⟩;refine ⟨_,rfl,?_⟩)|(go_at_call 20;(with_reducible refine (impl_within.calls y 0 1000 false _ A5.out).mono ?_);rintro e w' ⟨rfl,⟨nd,rfl⟩⟩));go_ret3
   exact ⟨t4_,t1_⟩
 ·replace Y:=Bool.eq_false_iff.mpr Y;subst Y;replace H:=(if_neg (show ¬ (false=true) by decide)).symm.trans H;simp only [Option.some.injEq,Prod.mk.injEq] at H;obtain ⟨rfl,rfl,rfl⟩:=H;go_enter Try.func11,Try.ntmps11;go_wp2_with (first|((with_reducible refine gate_callee (f:=20) rfl ?_);refine goesL_ (some 9) rfl rfl Try.func20 t20_ rfl #[.int .i64 A,.int .i64 0,.int .i64 1000000000000] rfl t2_ ?_;(with_reducible refine (impl_within.calls A 0 1000000000000 false _ A3.out).mono ?_);rintro e w' ⟨rfl,⟨nd,rfl⟩⟩;refine ⟨_,rfl,?_⟩));go_ret3
  exact ⟨t4_,t1_⟩

end Go.Proofs.Ytoagcfpbdcoefaa.PFnBills
