-- written by wip/xprint.py, a program of this session, for this claim; not trusted: Lean checks it.
import Derived.Test.YtfffhokkhgbibaaPFnExactRaiseTariffx0
import Derived.Test.YtfffhokkhgbibaaPFnExactRaiseTariffx1
namespace Go.Proofs.Ytfffhokkhgbibaa.PFnExactRaiseTariff
open Go.RowKit Go.Proofs.YtfffhokkhgbibaaW.PrintWords Go.Proofs.YtfffhokkhgbibaaW.PrintLast Go.Proofs.YtfffhokkhgbibaaW.PrintMore
attribute [local go_sem] leq_less_ max2_int min2_int max_two min_two max_three min_three max_four min_four   -- for this text's walks alone
set_option linter.unusedVariables false
set_option linter.unusedSimpArgs false
set_option maxHeartbeats 8000000
set_option maxRecDepth 100000
def laws_eqTariff.f (k:Nat) (s:ByteArray) (y:Int) (z:Int) (i:List (List Int)) (aG:ByteArray) (aH:Int) (aI:Int) (aE:List (List Int)):Option (Bool):=if s.toList=aG.toList then (if y=aH then (if z=aI then ((laws_eqInt64SS.f k i aE).bind fun b2=>(if b2=true then (some true) else (some false))) else (some false)) else (some false)) else (some false)
theorem laws_eqTariff.mono:∀ b d a2 a3 a4 a5 a6 a7 k,LeO (laws_eqTariff.f k b d a2 a3 a4 a5 a6 a7) (laws_eqTariff.f (k+1) b d a2 a3 a4 a5 a6 a7):=by
 intro b d a2 a3 a4 a5 a6 a7 k;unfold laws_eqTariff.f
 with_reducible repeat' first|exact laws_eqInt64SS.mono _ _ _|exact LeO.refl _|exact LeO.none _|refine LeO.ite ?_ ?_|refine LeO.bind ?_ (fun _=>?_)
theorem laws_eqTariff.calls (k:Nat) (s:ByteArray) (y:Int) (z:Int) (U:Option Addr) (Z:Nat) (i:List (List Int)) (aG:ByteArray) (aH:Int) (aI:Int) (aW:Option Addr) (aa:Nat) (aE:List (List Int)) (r:Bool) (w:World) (bl:Kd.C (Kd.slice 2 (Kd.int .i64)) w U i.length i) (bj:i.length≤Z) (bm:Kd.C (Kd.slice 2 (Kd.int .i64)) w aW aE.length aE) (bk:aE.length≤aa) (h:laws_eqTariff.f k s y z i aG aH aI aE=some r):
  Calls Try.prog 11 #[.agg #[.string s,.int .i64 y,.int .i64 z,.slice U i.length Z],.agg #[.string aG,.int .i64 aH,.int .i64 aI,.slice aW aE.length aa]] w fun e w'=>e=.returned (.bool r)∧Below w.heap.size w w':=by
 have cC:=Try.underlying29;have be:=a_ bl;have bb:=a_ bj;clear bl bj;have bf:=a_ bm;have bc:=a_ bk;clear bm bk;have HB:=a_ (Below.refl w.heap.size w);have H:(if s.toList=aG.toList then (if y=aH then (if z=aI then ((laws_eqInt64SS.f k i aE).bind fun b2=>(if b2=true then (some true) else (some false))) else (some false)) else (some false)) else (some false))=some r:=h;clear h;by_cases K:s.toList=aG.toList
 ·rw [if_pos K] at H;have aP:(s.toList==aG.toList)=true:=b1_ K;have au:(s.toList !=aG.toList)=false:=b4_ K;clear K;by_cases I:y=aH
  ·rw [if_pos I] at H;have ab:(y==aH)=true:=b1_ I;have av:(y !=aH)=false:=b4_ I;clear I;by_cases c5:z=aI
   ·rw [if_pos c5] at H;have b8:(z==aI)=true:=b1_ c5;have b9:(z !=aI)=false:=b4_ c5;clear c5;replace H:=be_ H;obtain ⟨b2,ar,H⟩:=H;have A6:=a_ ar;clear ar;by_cases c7:b2=true
    ·subst c7;replace H:=(if_pos rfl).symm.trans H;obtain rfl:=Option.some.inj H;go_enter Try.func11,Try.ntmps11;go_wp2_with (first|((with_reducible refine gate_dst (N:=2) rfl ?_);refine box_event ?hg (N:=2) ?hd (cs:=#[.string s,.int .i64 y,.int .i64 z,.slice U i.length Z]) (t:=29) ?hr ?_;(case hd=>rfl);(case hg=>rfl);(case hr=>first|(go_simp;done)|(go_simp;rfl));intro A hg w8 hbox hb;have B:=a_ (below_step t2_ hb);have D:=a_ (hbox);have E:=a_ ((by rw [hg];exact (below_size t2_):w.heap.size≤A));have M:=a_ ((by rw [hg];exact (below_size t2_):w.heap.size≤A));clear HB;have HB:=B;have J:=D;have b3:=E;have GE129:=M;clear B D E M;clear hb hbox hg)|((with_reducible refine gate_dst (N:=3) rfl ?_);refine box_event ?hg (N:=3) ?hd (cs:=#[.string aG,.int .i64 aH,.int .i64 aI,.slice aW aE.length aa]) (t:=29) ?hr ?_;(case hd=>rfl);(case hg=>rfl);(case hr=>first|(go_simp;done)|(go_simp;rfl));intro a8 hg w9 hbox hb;have B:=a_ (blk_below (g:=A) (o:=.cells #[.string s,.int .i64 y,.int .i64 z,.slice U i.length Z] 29 (0,0)) (q2_ J.out) hb);have D:=a_ (below_step t15_ hb);have E:=a_ (hbox);have M:=a_ ((by rw [hg];exact (below_size t15_):w.heap.size≤a8));have aK:=a_ ((by rw [hg];exact (below_size t15_):w.heap.size≤a8));have aL:=a_ ((by rw [hg];exact Nat.ne_of_lt (blk_lt (g:=A) (o:=.cells #[.string s,.int .i64 y,.int .i64 z,.slice U i.length Z] 29 (0,0)) (q2_ J.out)):A≠a8));have aM:=a_ ((by rw [hg];exact Nat.ne_of_gt (blk_lt (g:=A) (o:=.cells #[.string s,.int .i64 y,.int .i64 z,.slice U i.length Z] 29 (0,0)) (q2_ J.out)):a8≠A));clear J;clear HB;have J:=B;have HB:=D;have aX:=E;have b4:=M;have GE130:=aK;have aY:=aL;have aZ:=aM;clear B D E M aK aL aM;clear hb hbox hg;have hnb10:=aY.out;have hnc10:=aZ.out;have ⟨cO,cP,cQ,cR,d9,dA,dB,dC⟩:=bc4_ J.out;have ⟨cS,cT,cU,cV,dD,dE,dF,dG⟩:=bc4_ aX.out)|((with_reducible refine gate_callee (f:=28) rfl ?_);refine goesL_ (some 24) rfl rfl Try.func28 t14_ rfl #[.slice U i.length Z,.slice aW aE.length aa] rfl t1_ ?_;(with_reducible refine (laws_eqInt64SS.calls k _ _ i _ _ aE true _ ?Z1 ?Z2 ?Z3 ?Z4 A6.out).mono ?_);(case Z1=>exact qc_ (Kd.C_below be.out HB.out));(case Z2=>exact bb.out);(case Z3=>exact qc_ (Kd.C_below bf.out HB.out));(case Z4=>exact bc.out);rintro e w' ⟨rfl,⟨nd,rfl⟩⟩;refine ⟨_,rfl,?_⟩));go_ret
     exact ⟨t6_,t35_⟩
    ·replace c7:=Bool.eq_false_iff.mpr c7;subst c7;replace H:=(if_neg (show ¬ (false=true) by decide)).symm.trans H;obtain rfl:=Option.some.inj H;go_enter Try.func11,Try.ntmps11;go_wp2_with (first|((with_reducible refine gate_dst (N:=2) rfl ?_);refine box_event ?hg (N:=2) ?hd (cs:=#[.string s,.int .i64 y,.int .i64 z,.slice U i.length Z]) (t:=29) ?hr ?_;(case hd=>rfl);(case hg=>rfl);(case hr=>first|(go_simp;done)|(go_simp;rfl));intro A hg dv hbox hb;have B:=a_ (below_step t2_ hb);have D:=a_ (hbox);have E:=a_ ((by rw [hg];exact (below_size t2_):w.heap.size≤A));have M:=a_ ((by rw [hg];exact (below_size t2_):w.heap.size≤A));clear HB;have HB:=B;have J:=D;have b3:=E;have GE129:=M;clear B D E M;clear hb hbox hg)|((with_reducible refine gate_dst (N:=3) rfl ?_);refine box_event ?hg (N:=3) ?hd (cs:=#[.string aG,.int .i64 aH,.int .i64 aI,.slice aW aE.length aa]) (t:=29) ?hr ?_;(case hd=>rfl);(case hg=>rfl);(case hr=>first|(go_simp;done)|(go_simp;rfl));intro a8 hg dw hbox hb;have B:=a_ (blk_below (g:=A) (o:=.cells #[.string s,.int .i64 y,.int .i64 z,.slice U i.length Z] 29 (0,0)) (q2_ J.out) hb);have D:=a_ (below_step t15_ hb);have E:=a_ (hbox);have M:=a_ ((by rw [hg];exact (below_size t15_):w.heap.size≤a8));have aK:=a_ ((by rw [hg];exact (below_size t15_):w.heap.size≤a8));have aL:=a_ ((by rw [hg];exact Nat.ne_of_lt (blk_lt (g:=A) (o:=.cells #[.string s,.int .i64 y,.int .i64 z,.slice U i.length Z] 29 (0,0)) (q2_ J.out)):A≠a8));have aM:=a_ ((by rw [hg];exact Nat.ne_of_gt (blk_lt (g:=A) (o:=.cells #[.string s,.int .i64 y,.int .i64 z,.slice U i.length Z] 29 (0,0)) (q2_ J.out)):a8≠A));clear J;clear HB;have J:=B;have HB:=D;have aX:=E;have b4:=M;have GE130:=aK;have aY:=aL;have aZ:=aM;clear B D E M aK aL aM;clear hb hbox hg;have hnb15:=aY.out;have hnc15:=aZ.out;have ⟨cW,cX,cY,cZ,dH,dI,dJ,dK⟩:=bc4_ J.out;have ⟨ca,cb,cc,cd,dL,dM,dN,dO⟩:=bc4_ aX.out)|((with_reducible refine gate_callee (f:=28) rfl ?_);refine goesL_ (some 24) rfl rfl Try.func28 t14_ rfl #[.slice U i.length Z,.slice aW aE.length aa] rfl t1_ ?_;(with_reducible refine (laws_eqInt64SS.calls k _ _ i _ _ aE false _ ?Z1 ?Z2 ?Z3 ?Z4 A6.out).mono ?_);(case Z1=>exact qc_ (Kd.C_below be.out HB.out));(case Z2=>exact bb.out);(case Z3=>exact qc_ (Kd.C_below bf.out HB.out));(case Z4=>exact bc.out);rintro e w' ⟨rfl,⟨nd,rfl⟩⟩;refine ⟨_,rfl,?_⟩));go_ret
     exact ⟨t6_,t35_⟩
   ·rw [if_neg c5] at H;have b8:(z==aI)=false:=b2_ c5;have b9:(z !=aI)=true:=b3_ c5;obtain rfl:=Option.some.inj H;go_enter Try.func11,Try.ntmps11;go_wp2_with (first|((with_reducible refine gate_dst (N:=2) rfl ?_);refine box_event ?hg (N:=2) ?hd (cs:=#[.string s,.int .i64 y,.int .i64 z,.slice U i.length Z]) (t:=29) ?hr ?_;(case hd=>rfl);(case hg=>rfl);(case hr=>first|(go_simp;done)|(go_simp;rfl));intro A hg dx hbox hb;have B:=a_ (below_step t2_ hb);have D:=a_ (hbox);have E:=a_ ((by rw [hg];exact (below_size t2_):w.heap.size≤A));have M:=a_ ((by rw [hg];exact (below_size t2_):w.heap.size≤A));clear HB;have HB:=B;have J:=D;have b3:=E;have GE129:=M;clear B D E M;clear hb hbox hg)|((with_reducible refine gate_dst (N:=3) rfl ?_);refine box_event ?hg (N:=3) ?hd (cs:=#[.string aG,.int .i64 aH,.int .i64 aI,.slice aW aE.length aa]) (t:=29) ?hr ?_;(case hd=>rfl);(case hg=>rfl);(case hr=>first|(go_simp;done)|(go_simp;rfl));intro a8 hg dy hbox hb;have B:=a_ (blk_below (g:=A) (o:=.cells #[.string s,.int .i64 y,.int .i64 z,.slice U i.length Z] 29 (0,0)) (q2_ J.out) hb);have D:=a_ (below_step t15_ hb);have E:=a_ (hbox);have M:=a_ ((by rw [hg];exact (below_size t15_):w.heap.size≤a8));have aK:=a_ ((by rw [hg];exact (below_size t15_):w.heap.size≤a8));have aL:=a_ ((by rw [hg];exact Nat.ne_of_lt (blk_lt (g:=A) (o:=.cells #[.string s,.int .i64 y,.int .i64 z,.slice U i.length Z] 29 (0,0)) (q2_ J.out)):A≠a8));have aM:=a_ ((by rw [hg];exact Nat.ne_of_gt (blk_lt (g:=A) (o:=.cells #[.string s,.int .i64 y,.int .i64 z,.slice U i.length Z] 29 (0,0)) (q2_ J.out)):a8≠A));clear J;clear HB;have J:=B;have HB:=D;have aX:=E;have b4:=M;have GE130:=aK;have aY:=aL;have aZ:=aM;clear B D E M aK aL aM;clear hb hbox hg;have hnb20:=aY.out;have hnc20:=aZ.out;have ⟨ce,cf,cg,ch,dP,dQ,dR,dS⟩:=bc4_ J.out;have ⟨ci,cj,ck,cl,dT,dU,dV,dW⟩:=bc4_ aX.out));go_ret
    exact ⟨t6_,t35_⟩
  ·rw [if_neg I] at H;have ab:(y==aH)=false:=b2_ I;have av:(y !=aH)=true:=b3_ I;obtain rfl:=Option.some.inj H;go_enter Try.func11,Try.ntmps11;go_wp2_with (first|((with_reducible refine gate_dst (N:=2) rfl ?_);refine box_event ?hg (N:=2) ?hd (cs:=#[.string s,.int .i64 y,.int .i64 z,.slice U i.length Z]) (t:=29) ?hr ?_;(case hd=>rfl);(case hg=>rfl);(case hr=>first|(go_simp;done)|(go_simp;rfl));intro A hg dz hbox hb;have B:=a_ (below_step t2_ hb);have D:=a_ (hbox);have E:=a_ ((by rw [hg];exact (below_size t2_):w.heap.size≤A));have M:=a_ ((by rw [hg];exact (below_size t2_):w.heap.size≤A));clear HB;have HB:=B;have J:=D;have b3:=E;have GE129:=M;clear B D E M;clear hb hbox hg)|((with_reducible refine gate_dst (N:=3) rfl ?_);refine box_event ?hg (N:=3) ?hd (cs:=#[.string aG,.int .i64 aH,.int .i64 aI,.slice aW aE.length aa]) (t:=29) ?hr ?_;(case hd=>rfl);(case hg=>rfl);(case hr=>first|(go_simp;done)|(go_simp;rfl));intro a8 hg e0 hbox hb;have B:=a_ (blk_below (g:=A) (o:=.cells #[.string s,.int .i64 y,.int .i64 z,.slice U i.length Z] 29 (0,0)) (q2_ J.out) hb);have D:=a_ (below_step t15_ hb);have E:=a_ (hbox);have M:=a_ ((by rw [hg];exact (below_size t15_):w.heap.size≤a8));have aK:=a_ ((by rw [hg];exact (below_size t15_):w.heap.size≤a8));have aL:=a_ ((by rw [hg];exact Nat.ne_of_lt (blk_lt (g:=A) (o:=.cells #[.string s,.int .i64 y,.int .i64 z,.slice U i.length Z] 29 (0,0)) (q2_ J.out)):A≠a8));have aM:=a_ ((by rw [hg];exact Nat.ne_of_gt (blk_lt (g:=A) (o:=.cells #[.string s,.int .i64 y,.int .i64 z,.slice U i.length Z] 29 (0,0)) (q2_ J.out)):a8≠A));clear J;clear HB;have J:=B;have HB:=D;have aX:=E;have b4:=M;have GE130:=aK;have aY:=aL;have aZ:=aM;clear B D E M aK aL aM;clear hb hbox hg;have hnb25:=aY.out;have hnc25:=aZ.out;have ⟨cm,cn,cp,cq,dX,dY,dZ,da⟩:=bc4_ J.out;have ⟨cr,ct,cu,cv,db,dc,dd,de⟩:=bc4_ aX.out));go_ret
   exact ⟨t6_,t35_⟩
 ·rw [if_neg K] at H;have aP:(s.toList==aG.toList)=false:=b2_ K;have au:(s.toList !=aG.toList)=true:=b3_ K;obtain rfl:=Option.some.inj H;go_enter Try.func11,Try.ntmps11;go_wp2_with (first|((with_reducible refine gate_dst (N:=2) rfl ?_);refine box_event ?hg (N:=2) ?hd (cs:=#[.string s,.int .i64 y,.int .i64 z,.slice U i.length Z]) (t:=29) ?hr ?_;(case hd=>rfl);(case hg=>rfl);(case hr=>first|(go_simp;done)|(go_simp;rfl));intro A hg e2 hbox hb;have B:=a_ (below_step t2_ hb);have D:=a_ (hbox);have E:=a_ ((by rw [hg];exact (below_size t2_):w.heap.size≤A));have M:=a_ ((by rw [hg];exact (below_size t2_):w.heap.size≤A));clear HB;have HB:=B;have J:=D;have b3:=E;have GE129:=M;clear B D E M;clear hb hbox hg)|((with_reducible refine gate_dst (N:=3) rfl ?_);refine box_event ?hg (N:=3) ?hd (cs:=#[.string aG,.int .i64 aH,.int .i64 aI,.slice aW aE.length aa]) (t:=29) ?hr ?_;(case hd=>rfl);(case hg=>rfl);(case hr=>first|(go_simp;done)|(go_simp;rfl));intro a8 hg e3 hbox hb;have B:=a_ (blk_below (g:=A) (o:=.cells #[.string s,.int .i64 y,.int .i64 z,.slice U i.length Z] 29 (0,0)) (q2_ J.out) hb);have D:=a_ (below_step t15_ hb);have E:=a_ (hbox);have M:=a_ ((by rw [hg];exact (below_size t15_):w.heap.size≤a8));have aK:=a_ ((by rw [hg];exact (below_size t15_):w.heap.size≤a8));have aL:=a_ ((by rw [hg];exact Nat.ne_of_lt (blk_lt (g:=A) (o:=.cells #[.string s,.int .i64 y,.int .i64 z,.slice U i.length Z] 29 (0,0)) (q2_ J.out)):A≠a8));have aM:=a_ ((by rw [hg];exact Nat.ne_of_gt (blk_lt (g:=A) (o:=.cells #[.string s,.int .i64 y,.int .i64 z,.slice U i.length Z] 29 (0,0)) (q2_ J.out)):a8≠A));clear J;clear HB;have J:=B;have HB:=D;have aX:=E;have b4:=M;have GE130:=aK;have aY:=aL;have aZ:=aM;clear B D E M aK aL aM;clear hb hbox hg;have hnb30:=aY.out;have hnc30:=aZ.out;have ⟨cw,cx,cy,cz,df,dg,dh,di⟩:=bc4_ J.out;have ⟨d0,d1,d2,d3,dj,dk,dl,dm⟩:=bc4_ aX.out));go_ret
  exact ⟨t6_,t35_⟩

def laws_markInt64S.l0:Nat→List Int→Int→Int→Option (Int × List Int)
 |0,_,_,_=>none
 |k+1,x0,x1,x5=>if x5<(x0.length:Int) then (if 0≤x5 then (laws_markInt64S.l0 k (x0.set (x5:Int).toNat x1) (wrap64 (x1+1)) (wrap64 (x5+1))) else (none)) else (some (x1,x0))
def laws_markInt64S.f (k:Nat) (l0:List Int) (d:Int):Option (Int × List Int):=laws_markInt64S.l0 k l0 d 0
theorem laws_markInt64S.mono_l:∀ k,(∀ y0 y1 y2,LeO (laws_markInt64S.l0 k y0 y1 y2) (laws_markInt64S.l0 (k+1) y0 y1 y2))
 |0=>fun _ _ _ r h=>by simp [laws_markInt64S.l0] at h
 |k+1=>by
  have ae:=laws_markInt64S.mono_l k
  ·intro y0 y1 y2
   unfold laws_markInt64S.l0
   with_reducible repeat' first|exact ae _ _ _|exact LeO.refl _|exact LeO.none _|refine LeO.ite ?_ ?_|refine LeO.bind ?_ (fun _=>?_)
theorem laws_markInt64S.mono:∀ b d k,LeO (laws_markInt64S.f k b d) (laws_markInt64S.f (k+1) b d):=by
 intro b d k;have ae:=laws_markInt64S.mono_l k;unfold laws_markInt64S.f
 with_reducible repeat' first|exact ae _ _ _|exact LeO.refl _|exact LeO.none _|refine LeO.ite ?_ ?_|refine LeO.bind ?_ (fun _=>?_)
theorem laws_markInt64S.calls (k:Nat) (P0_:Nat→Prop) (u9000_:Value) (l0:List Int) (d:Int) (r1:Int) (r2:List Int) (j w:World) (hB:Below j.heap.size j w) (ac:Kd.R (Kd.int .i64) 2 w j.heap.size P0_ u9000_ l0) (h:laws_markInt64S.f k l0 d=some (r1,r2)):
  Calls Try.prog 13 #[u9000_,.int .i64 d] w fun e w'=>e=.returned (.int .i64 r1)∧Kd.R (Kd.int .i64) 2 w' j.heap.size (fun k_=>(P0_ k_∨w.heap.size≤k_)) u9000_ r2∧Below j.heap.size j w'∧Kept w w' (fun k_=>P0_ k_):=by
 have aT:=a_ (show Kd.R (Kd.int .i64) 2 w j.heap.size (fun k_=>(P0_ k_∨w.heap.size≤k_)) u9000_ l0 from Kd.R_mono ac (fun k_ hk=>(.inl hk)));have HK:=a_ (Kept.refl w (fun k_=>P0_ k_));have HW0:=a_ hB.size;have HB:=a_ hB;clear hB;have H:(laws_markInt64S.l0 k l0 d 0)=some (r1,r2):=h;clear h;have H':=a_ H;clear H;go_enter Try.func13,Try.ntmps13;go_wp2;go_loopg [1,5] k (fun kq v1 v5 w'=>∃ (aC:List Int) (aN:Int) (G:Int),v1=.int .i64 aN∧v5=.int .i64 G∧Aside0 (laws_markInt64S.l0 kq aC aN G=some (r1,r2))∧Aside0 (kq≤k)∧Aside0 (Kd.R (Kd.int .i64) 2 w' j.heap.size (fun k_=>(P0_ k_∨w.heap.size≤k_)) u9000_ aC)∧Aside0 (Kept w w' (fun k_=>P0_ k_))∧Aside0 (Below j.heap.size j w'))
 case atStart=>exact ⟨(l0),(d),(0),t4_,t4_,H',⟨Nat.le_refl _⟩,⟨(by (with_reducible repeat (first|apply Kd.R_alloc|apply Kd.R_drewN|apply Kd.R_drew));exact aT.out)⟩,⟨t30_⟩,⟨t2_⟩⟩
 case round=>
  clear H';(try clear c1);(try clear p2);obtain ⟨aC,aN,G,rfl,rfl,HA,HK1,aD,HK,HB⟩:=hrel;cases gk with
  |zero=>exact absurd HA.out (by simp [laws_markInt64S.l0])
  |succ k1=>
   have H:=HA.out;clear HA;simp only [laws_markInt64S.l0] at H;by_cases K:G<(aC.length:Int)
   ·rw [if_pos K] at H;have aP:decide (G<(aC.length:Int))=true:=d1_ K;clear K;by_cases I:0≤G
    ·rw [if_pos I] at H;have ab:decide (0≤G)=true:=d1_ I;clear I;obtain ⟨bW,ay⟩:∃ y_:List Int,y_=(aC.set (G:Int).toNat aN):=⟨_,rfl⟩;replace H:(laws_markInt64S.l0 k1 bW (wrap64 (aN+1)) (wrap64 (G+1)))=some (r1,r2):=(by first|(rw [ay];with_reducible exact H)|(have H2_:=(Option.bind_some _ _).symm.trans H;rw [ay];with_reducible exact H2_)|(have H2_:=(Option.bind_some _ _).symm.trans H;with_reducible exact H2_)|with_reducible exact H|(rw [ay];exact H)|exact H);have bv:=a_ ay;clear ay;have H':=a_ H;clear H;obtain ⟨cH,bx,c0⟩:=Kd.R_slice aD.out;subst c0;have p5:0≤(G:Int):=od_;have q5:(G:Int)<((aC.length:Int):Int):=od_;obtain ⟨ax,cL,bh,bi,gl5,cK,bd⟩:=Kd.R_form aD.out t29_;(first|cases bh|(injection bh with ea_ en_ ec_;(first|subst ea_|(injection ea_ with ea_;subst ea_));subst ec_;clear en_));have bu:=a_ bi;have GG5:=a_ bd;clear bi gl5 bd;have HMgo5:=a_ (show (P0_ ax∨w.heap.size≤ax) from (aD.out.1 _ rfl));obtain ⟨dt,d8⟩:=Kd.R_celln 0 aD.out (G:Int) p5 q5;replace p5:=eq_true p5;replace q5:=eq_true q5;have bI:=Kd.R_putg aD.out (G:Int) aN;go_wp2_with (first|((with_reducible refine gate_store (t:=2) (p:=15) rfl ?_);refine store_event (t:=2) (p:=15) (v:=?vo_w8) (w1:=(wr.setCell ⟨ax,(G:Int).toNat,none⟩ (.int .i64 aN))) ?hg ?ho ?hn ?hr ?_;(case ho=>rfl);(case hg=>rfl);(case hn=>rfl);(case hr=>first|(go_simp;done)|(go_simp;rfl));intro w8 hw;have hg:wr.grownBy w8 (some ax):=(by rw [hw];exact bI.2);have hp_:Kd.R (Kd.int .i64) 2 w8 j.heap.size (fun k_=>(P0_ k_∨w.heap.size≤k_)) (.slice (some ⟨ax,0,none⟩) aC.length bx) bW:=(by rw [hw,bv.out];exact bI.1);clear bI;have B:=a_ (hp_);have D:=a_ ((by rw [hw];exact below_set (HB.out) bu.out:Below j.heap.size j w8));have E:=a_ (Kept.of_grown (S:=(fun k_=>P0_ k_)) hg t30_ (fun k_ e_=>(aD.out.1 k_ e_)));clear aD;clear HB;clear HK;have aD:=B;have HB:=D;have HK:=E;clear B D E;clear hg hw hp_));go_roundg k1
     case measure=>have:=HK1.out;omega
     case rel=>exact ⟨(bW),(wrap64 (aN+1)),(wrap64 (G+1)),t4_,t4_,H',⟨t64_⟩,⟨(by (with_reducible repeat (first|apply Kd.R_alloc|apply Kd.R_drewN|apply Kd.R_drew));exact aD.out)⟩,⟨t30_⟩,⟨t2_⟩⟩
    ·rw [if_neg I] at H;exact absurd H t63_
   ·rw [if_neg K] at H;have aP:decide (G<(aC.length:Int))=false:=d2_ K;clear K;simp only [Option.some.injEq,Prod.mk.injEq] at H;obtain ⟨rfl,rfl⟩:=H;obtain ⟨cI,cM,c6⟩:=Kd.R_slice aD.out;subst c6;go_wp2;go_ret
    exact ⟨t6_,(by (with_reducible repeat (first|apply Kd.R_alloc|apply Kd.R_drewN|apply Kd.R_drew));exact aD.out),t2_,t30_⟩

def laws_markInt64SS.l0:Nat→List (List Int)→Int→Int→Option (Int × List (List Int))
 |0,_,_,_=>none
 |k+1,x0,x1,x5=>if x5<(x0.length:Int) then (if 0≤x5 then ((laws_markInt64S.f k (x0.getD (x5:Int).toNat []) x1).bind fun t9=>(laws_markInt64SS.l0 k (x0.set (x5:Int).toNat t9.2) t9.1 (wrap64 (x5+1)))) else (none)) else (some (x1,x0))
def laws_markInt64SS.f (k:Nat) (l0:List (List Int)) (d:Int):Option (Int × List (List Int)):=laws_markInt64SS.l0 k l0 d 0
theorem laws_markInt64SS.mono_l:∀ k,(∀ y0 y1 y2,LeO (laws_markInt64SS.l0 k y0 y1 y2) (laws_markInt64SS.l0 (k+1) y0 y1 y2))
 |0=>fun _ _ _ r h=>by simp [laws_markInt64SS.l0] at h
 |k+1=>by
  have ae:=laws_markInt64SS.mono_l k
  ·intro y0 y1 y2
   unfold laws_markInt64SS.l0
   exact LeO.ite (LeO.ite (LeO.bind (laws_markInt64S.mono _ _ _) (fun _=>ae _ _ _)) (LeO.none _)) (LeO.refl _)
theorem laws_markInt64SS.mono:∀ b d k,LeO (laws_markInt64SS.f k b d) (laws_markInt64SS.f (k+1) b d):=by
 intro b d k;exact laws_markInt64SS.mono_l k _ _ _
theorem laws_markInt64SS.calls (k:Nat) (P0_:Nat→Prop) (u9000_:Value) (l0:List (List Int)) (d:Int) (r1:Int) (r2:List (List Int)) (j w:World) (hB:Below j.heap.size j w) (ac:Kd.S (Kd.slice 2 (Kd.int .i64)) 25 w j.heap.size P0_ u9000_ l0) (h:laws_markInt64SS.f k l0 d=some (r1,r2)):
  Calls Try.prog 29 #[u9000_,.int .i64 d] w fun e w'=>e=.returned (.int .i64 r1)∧Kd.S (Kd.slice 2 (Kd.int .i64)) 25 w' j.heap.size (fun k_=>P0_ k_) u9000_ r2∧Below j.heap.size j w'∧Kept w w' (fun k_=>P0_ k_):=by
 obtain ⟨Ao,co,eo⟩:=Kd.S_slice ac;subst eo;have aT:=a_ (show Kd.S (Kd.slice 2 (Kd.int .i64)) 25 w j.heap.size (fun k_=>P0_ k_) (.slice Ao l0.length co) l0 from ac);have HK:=a_ (Kept.refl w (fun k_=>P0_ k_));have HW0:=a_ hB.size;have HB:=a_ hB;clear hB ac;have H':=a_ (show (laws_markInt64SS.l0 k l0 d 0)=some (r1,r2) from h);clear h;go_enter Try.func29,Try.ntmps29;go_wp2;go_loopg [1,5] k (fun kq v1 v5 w'=>∃ (aC:List (List Int)) (aN:Int) (G:Int),v1=.int .i64 aN∧v5=.int .i64 G∧Aside0 (laws_markInt64SS.l0 kq aC aN G=some (r1,r2))∧Aside0 (kq≤k)∧Aside0 (aC.length=l0.length)∧Aside0 (Kd.S (Kd.slice 2 (Kd.int .i64)) 25 w' j.heap.size (fun k_=>P0_ k_) (.slice Ao l0.length co) aC)∧Aside0 (Kept w w' (fun k_=>P0_ k_))∧Aside0 (Below j.heap.size j w'))
 case atStart=>exact ⟨(l0),(d),(0),t4_,t4_,H',⟨Nat.le_refl _⟩,⟨rfl⟩,⟨(by (with_reducible repeat (first|apply Kd.S_alloc|apply Kd.S_drewN|apply Kd.S_drew));exact aT.out)⟩,⟨t30_⟩,⟨t2_⟩⟩
 case round=>
  clear H';(try clear c1);(try clear p2);obtain ⟨aC,aN,G,rfl,rfl,HA,HK1,bH,aD,HK,HB⟩:=hrel;cases gk with
  |zero=>exact absurd HA.out (by simp [laws_markInt64SS.l0])
  |succ k1=>
   have H:=HA.out;clear HA;simp only [laws_markInt64SS.l0] at H;rw [bH.out] at H;by_cases K:G<(l0.length:Int)
   ·rw [if_pos K] at H;have aP:decide (G<(l0.length:Int))=true:=d1_ K;by_cases I:0≤G
    ·rw [if_pos I] at H;have ab:decide (0≤G)=true:=d1_ I;obtain ⟨⟨t1,t2⟩,ar,H⟩:=be_ H;replace H:(laws_markInt64SS.l0 k1 (aC.set (G:Int).toNat t2) t1 (wrap64 (G+1)))=some (r1,r2):=H;have A6:=a_ ar;clear ar;have H':=a_ H;clear H;obtain ⟨ad,_,hAo,_⟩:=Kd.C_get (Kd.S_reads' aD.out).2.2 ([]:List Int) G I (by have:=bH.out;omega);subst hAo;obtain ⟨g,rfl⟩:=Kd.R_head (Kd.S_R aD.out);obtain ⟨oki,c,_,hM,hcc,hoki,hH⟩:=Kd.S_lend aD.out ([]:List Int) G I K;obtain ⟨ve,rfl,ge⟩:=hM;obtain ⟨A1,cc1,e1⟩:=Kd.R_slice ge;subst e1;have hx:=hcc 0 _ rfl;replace hx:wr.cell? ⟨g,(G:Int).toNat,none⟩=some (.slice A1 (aC.getD (G:Int).toNat []).length cc1):=by
      have hq:wr.cell? ⟨g,(G:Int).toNat * 1+0,none⟩=some (.slice A1 (aC.getD (G:Int).toNat []).length cc1):=hx;rwa [Nat.mul_one,Nat.add_zero] at hq
     have GE:=a_ ge;have HH:=a_ hH;have HOK:=a_ hoki;clear ge hH hoki hcc;have p5:=eq_true I;have q5:=eq_true K;clear K I;go_wp2_with (first|((with_reducible refine gate_callee (f:=13) rfl ?_);refine goesL_ (some 17) rfl rfl Try.func13 t14_ rfl #[.slice A1 (aC.getD (G:Int).toNat []).length cc1,.int .i64 aN] rfl (by (try simp only [List.map_toArray,List.map_cons,List.map_nil]);first|done|rfl) ?_;(with_reducible refine (laws_markInt64S.calls k1 oki _ (aC.getD (G:Int).toNat []) aN t1 t2 j _ ?s1 ?s2 A6.out).mono ?_);(case s1=>exact HB.out);(case s2=>exact GE.out);rintro e w8 ⟨rfl,hr,hb,hkp⟩;refine ⟨_,rfl,?_⟩;have HS:=a_ (Kd.H_back (Kd.H_step HH.out (fun k_ ho hn hlt=>hkp.2 k_ hlt hn)) (Kd.M_row (Kd.R_reok (ok:=oki) rfl hr (fun k_ e_=>GE.out.1 k_ e_))) (fun k_ hk=>hk));have HK2:=a_ (Kept.then_ HK.out hkp (fun k_ hk=>.inl (HOK.out k_ hk).1));have HB2:=a_ hb;clear aD HK HB HH GE HOK hr hb hkp));go_roundg k1
     case measure=>have:=HK1.out;omega
     case rel=>exact ⟨(aC.set (G:Int).toNat t2),t1,(wrap64 (G+1)),t4_,t4_,H',⟨t64_⟩,⟨(by rw [List.length_set];exact bH.out)⟩,⟨HS.out⟩,⟨(by repeat (first|(with_reducible first|exact HK2.out|apply Kept.alloc|apply Kept.drewN|apply Kept.drew)|exact HK2.out))⟩,⟨(by repeat (first|(with_reducible first|exact HB2.out|apply below_alloc|apply pw_below_drewN|apply below_drew1)|exact HB2.out))⟩⟩
    ·rw [if_neg I] at H;exact absurd H t63_
   ·rw [if_neg K] at H;have aP:decide (G<(l0.length:Int))=false:=d2_ K;clear K;simp only [Option.some.injEq,Prod.mk.injEq] at H;obtain ⟨rfl,rfl⟩:=H;go_wp2;go_ret
    exact ⟨(by first|rfl|(simp [*]<;>rfl)),(by (with_reducible repeat (first|apply Kd.S_alloc|apply Kd.S_drewN|apply Kd.S_drew));exact aD.out),t2_,t30_⟩

def laws_markTariff.f (k:Nat) (s:ByteArray) (y:Int) (z:Int) (i:List (List Int)) (d:Int):Option (Int × List (List Int)):=laws_markInt64SS.f k i d
theorem laws_markTariff.mono:∀ b d a2 a3 a4 k,LeO (laws_markTariff.f k b d a2 a3 a4) (laws_markTariff.f (k+1) b d a2 a3 a4):=fun _ _ _ _ _ _=>laws_markInt64SS.mono _ _ _
theorem laws_markTariff.calls (k:Nat) (s:ByteArray) (y:Int) (z:Int) (P0_:Nat→Prop) (u9000_:Value) (i:List (List Int)) (d:Int) (r1:Int) (r2:List (List Int)) (j w:World) (hB:Below j.heap.size j w) (ac:Kd.S (Kd.slice 2 (Kd.int .i64)) 25 w j.heap.size P0_ u9000_ i) (h:laws_markTariff.f k s y z i d=some (r1,r2)):
  Calls Try.prog 12 #[.agg #[.string s,.int .i64 y,.int .i64 z,u9000_],.int .i64 d] w fun e w'=>e=.returned (.int .i64 r1)∧Kd.S (Kd.slice 2 (Kd.int .i64)) 25 w' j.heap.size (fun k_=>P0_ k_) u9000_ r2∧Below j.heap.size j w'∧Kept w w' (fun k_=>P0_ k_):=by
 obtain ⟨Ao,co,eo⟩:=Kd.S_slice ac;subst eo;have cC:=Try.underlying29;have aT:=a_ ac;have HK:=a_ (Kept.refl w (fun k_=>P0_ k_));have HB:=a_ hB;clear hB ac;have A6:=a_ (show laws_markInt64SS.f k i d=some (r1,r2) from h);clear h;go_enter Try.func12,Try.ntmps12;go_wp2_with (first|((with_reducible refine gate_dst (N:=2) rfl ?_);refine box_event ?hg (N:=2) ?hd (cs:=#[.string s,.int .i64 y,.int .i64 z,.slice Ao i.length co]) (t:=29) ?hr ?_;(case hd=>rfl);(case hg=>rfl);(case hr=>first|(go_simp;done)|(go_simp;rfl));intro cN hg w4 hbox hb;have B:=a_ (below_step t2_ hb);have D:=a_ (hbox);have E:=a_ (Kd.S_below (q1_ aT.out) hb);have M:=a_ (Kept.below t30_ hb);clear HB aT HK;have HB:=B;have bs:=D;have aT:=E;have HK:=M;clear B D E M;clear hb hbox hg;have ⟨d4,d5,d6,d7,dn,dp,dq,dr⟩:=bc4_ bs.out)|((with_reducible refine gate_callee (f:=29) rfl ?_);refine goesL_ (some 8) rfl rfl Try.func29 t14_ rfl #[.slice Ao i.length co,.int .i64 d] rfl (by (try simp only [List.map_toArray,List.map_cons,List.map_nil]);first|done|rfl) ?_;(with_reducible refine (laws_markInt64SS.calls k P0_ _ i d r1 r2 j _ ?s1 ?s2 A6.out).mono ?_);(case s1=>repeat (first|(with_reducible first|exact HB.out|apply below_alloc|apply pw_below_drewN|apply below_drew1)|exact HB.out));(case s2=>(with_reducible repeat (first|apply Kd.S_alloc|apply Kd.S_drewN|apply Kd.S_drew));exact aT.out);rintro e w8 ⟨rfl,hr,hb,hkp⟩;refine ⟨_,rfl,?_⟩;have E:=a_ hr;have B:=a_ hb;have D:=a_ (Kept.then_ t30_ hkp (fun k_ hk=>.inl hk));clear HB HK aT;have HB:=B;have HK:=D;have aT:=E;clear B D E hr hb hkp));go_ret
 exact ⟨(by first|rfl|(simp [*]<;>rfl)),(by (with_reducible repeat (first|apply Kd.S_alloc|apply Kd.S_drewN|apply Kd.S_drew));exact aT.out),t2_,t30_⟩
/-- Rows of rows, the newest first, each within a span of blocks of its own. -/
def Apt (W:World) (base:Nat) (X:Nat→Prop):Nat→List (Value × List (List Int))→Prop
  |_,[]=>True
  |hi,x :: rs=>∃ lo,base≤lo∧lo≤hi∧Kd.S (Kd.slice 2 (Kd.int .i64)) 25 W base (fun k=>(lo≤k∧k<hi)∧X k) x.1 x.2∧Apt W base X lo rs
theorem Apt.step {W W1:World} {base:Nat} {X Y:Nat→Prop}:∀ {rs:List (Value × List (List Int))} {hi:Nat},Apt W base X hi rs→(∀ k,k<hi→X k→W1.heap[k]? =W.heap[k]?)→(∀ k,X k→Y k)→Apt W1 base Y hi rs
  |[],_,_,_,_=>trivial
  |x :: rs,hi,⟨lo,O,T,hs,hr⟩,hm,hY=>⟨lo,O,T,Kd.S_mono (Kd.S_move hs (fun k hk=>hm k hk.1.2 hk.2)) (fun k hk=>⟨hk.1,hY k hk.2⟩),Apt.step hr (fun k hk=>hm k t29_) hY⟩
theorem Apt.raise {W:World} {base:Nat} {X:Nat→Prop} {hi hi':Nat} (hh:hi≤hi'):∀ {rs:List (Value × List (List Int))},Apt W base X hi rs→Apt W base X hi' rs
  |[],_=>trivial
  |_ :: _,⟨lo,O,T,hs,hr⟩=>⟨lo,O,t29_,Kd.S_mono hs (fun k hk=>⟨⟨hk.1.1,t29_⟩,hk.2⟩),hr⟩
theorem Apt.types {W:World} {base g t:Nat} {X:Nat→Prop} {cells:Array Value} (hb:W.heap[g]? =some (.cells cells t (0,0))) (ht:∀ q,q ∈ [25,2]→q≠t):∀ {rs:List (Value × List (List Int))} {hi:Nat},Apt W base X hi rs→Apt W base (fun k=>X k∧k≠g) hi rs
  |[],_,_=>trivial
  |_ :: _,_,⟨lo,O,T,hs,hr⟩=>⟨lo,O,T,Kd.S_mono (Kd.S_types hs hb ht) (fun k hk=>⟨hk.1.1,hk.1.2,hk.2⟩),Apt.types hb ht hr⟩
theorem Apt.sub {W:World} {base:Nat} {X:Nat→Prop} {rs' rs:List (Value × List (List Int))} (hs:rs'.Sublist rs):∀ {hi:Nat},Apt W base X hi rs→Apt W base X hi rs':=by
  induction hs with
  |slnil=>intro hi h;exact h
  |cons a _ ih=>intro hi h;obtain ⟨lo,_,T,_,hr⟩:=h;exact (ih hr).raise T
  |cons_cons a _ ih=>intro hi h;obtain ⟨lo,O,T,hx,hr⟩:=h;exact ⟨lo,O,T,hx,ih hr⟩
theorem Apt.get {W:World} {base:Nat} {X:Nat→Prop} {v:Value} {l:List (List Int)} {rs:List (Value × List (List Int))}:∀ (pre:List (Value × List (List Int))) {hi:Nat},Apt W base X hi (pre++(v,l) :: rs)→Kd.S (Kd.slice 2 (Kd.int .i64)) 25 W base (fun _=>True) v l
  |[],_,⟨_,_,_,hs,_⟩=>Kd.S_mono hs (fun _ _=>trivial)
  |_ :: pre,_,⟨_,_,_,_,hr⟩=>Apt.get pre hr
theorem Apt.mark {W:World} {base:Nat} {v:Value} {l:List (List Int)} {rs:List (Value × List (List Int))}:∀ (pre:List (Value × List (List Int))) {hi:Nat},Apt W base (fun _=>True) hi (pre++(v,l) :: rs)→hi≤W.heap.size→
    ∃ P:Nat→Prop,Kd.S (Kd.slice 2 (Kd.int .i64)) 25 W base P v l∧(∀ k,P k→k<hi∧∃ q,q ∈ [25,2]∧∃ cells,W.heap[k]? =some (.cells cells q (0,0)))∧∀ (W1:World) (l':List (List Int)),(∀ k,k<W.heap.size→¬ P k→W1.heap[k]? =W.heap[k]?)→Kd.S (Kd.slice 2 (Kd.int .i64)) 25 W1 base P v l'→Apt W1 base (fun _=>True) hi (pre++(v,l') :: rs)
  |[],hi,⟨lo,O,T,hs,hr⟩,hle=>⟨_,Kd.S_bound hs,fun k hk=>⟨hk.1.1.2,hk.2.2.2⟩,fun W1 l' hm hS=>⟨lo,O,T,Kd.S_mono hS (fun k hk=>hk.1),Apt.step hr (fun k hk _=>hm k t29_ (fun hp=>by have:=hp.1.1.1;omega)) (fun _ h=>h)⟩⟩
  |a :: pre,hi,⟨lo,O,T,hs,hr⟩,hle=>by
    obtain ⟨P,p1,p2,p3⟩:=Apt.mark pre hr t29_
    exact ⟨P,p1,fun k hk=>⟨(by have:=(p2 k hk).1;omega),(p2 k hk).2⟩,fun W1 l' hm hS=>⟨lo,O,T,Kd.S_move hs (fun k hk=>hm k t29_ (fun hp=>by have:=(p2 k hp).1;have:=hk.1.1;omega)),p3 W1 l' hm hS⟩⟩
def Apts (W:World) (base:Nat) (X:Nat→Prop) (rs:List (Value × List (List Int))):Prop:=∃ hi,hi≤W.heap.size∧Apt W base X hi rs
section
variable {W W1:World} {base:Nat} {X:Nat→Prop} {rs rs':List (Value × List (List Int))}
theorem Apts_nil (W:World) (base:Nat):Apts W base (fun _=>True) []:=⟨0,Nat.zero_le _,trivial⟩
theorem Apts_below (h:Apts W base X rs) (hb:Below W.heap.size W W1):Apts W1 base X rs:=by
  obtain ⟨hi,O,T⟩:=h;exact ⟨hi,Nat.le_trans O hb.size,Apt.step T (fun k hk _=>hb.block k (Nat.lt_of_lt_of_le hk O)) (fun _ h=>h)⟩
theorem Apts_alloc (h:Apts W base X rs) (o:Obj):Apts (W.alloc o) base X rs:=Apts_below h (below_alloc (Below.refl _ _) o)
theorem Apts_drew (h:Apts W base X rs):Apts W.drew base X rs:=Apts_below h (below_drew (Below.refl _ _))
theorem Apts_drewN (h:Apts W base X rs) (m:Nat):Apts (W.drewN m) base X rs:=Apts_below h (pw_below_drewN (Below.refl _ _) m)
theorem Apts_at {m:Nat} (hq:W.drewN m=W1) (h:Apts W base X rs):Apts W1 base X rs:=by subst hq;exact Apts_drewN h m
theorem Apts_types (h:Apts W base X rs) {g t:Nat} {cells:Array Value} (hb:W.heap[g]? =some (.cells cells t (0,0))) (ht:∀ q,q ∈ [25,2]→q≠t):Apts W base (fun k=>X k∧k≠g) rs:=by
  obtain ⟨hi,O,T⟩:=h;exact ⟨hi,O,Apt.types hb ht T⟩
theorem Apts_far (h:Apts W base X rs) {p:Addr} (hX:∀ k,X k→k≠p.block) (u:Value):Apts (W.setCell p u) base X rs:=by
  obtain ⟨hi,O,T⟩:=h;exact ⟨hi,(by rw [World.size_setCell];exact O),Apt.step T (fun k _ hx=>Below.heap_setCell W p u k (hX k hx)) (fun _ h=>h)⟩
theorem Apts_free (h:Apts W base X rs):Apts W base (fun _=>True) rs:=by
  obtain ⟨hi,O,T⟩:=h;exact ⟨hi,O,Apt.step T (fun _ _ _=>rfl) (fun _ _=>trivial)⟩
theorem Apts_new {v:Value} {l:List (List Int)} {ok:Nat→Prop} (h:Apts W base (fun _=>True) rs) (hb:Below W.heap.size W W1) (ho:Kd.S (Kd.slice 2 (Kd.int .i64)) 25 W1 W.heap.size ok v l) (hbase:base≤W.heap.size):Apts W1 base (fun _=>True) ((v,l) :: rs):=by
  obtain ⟨hi,O,T⟩:=Apts_below h hb;obtain ⟨ds,g1,g2⟩:=h;exact ⟨W1.heap.size,Nat.le_refl _,W.heap.size,hbase,hb.size,Kd.S_lower (Kd.S_mono (Kd.S_bound ho) (fun k hk=>⟨⟨hk.2.1,hk.2.2.1⟩,trivial⟩)) hbase,Apt.raise g1 (Apt.step g2 (fun k hk _=>hb.block k t29_) (fun _ h=>h))⟩
theorem Apts_sub (h:Apts W base X rs) (hs:rs'.Sublist rs):Apts W base X rs':=by
  obtain ⟨hi,O,T⟩:=h;exact ⟨hi,O,Apt.sub hs T⟩
theorem Apts_get (pre:List (Value × List (List Int))) {v:Value} {l:List (List Int)} (h:Apts W base X (pre++(v,l) :: rs)):Kd.S (Kd.slice 2 (Kd.int .i64)) 25 W base (fun _=>True) v l:=by
  obtain ⟨hi,O,T⟩:=h;exact Apt.get pre T
theorem Apts_box {g t:Nat} {cells:Array Value} {o:Obj} (hb:W.heap[g]? =some o) (ho:o=.cells cells t (0,0)) (ht:∀ q,q ∈ [25,2]→q≠t) (hk:Kept W W1 (fun k_=>∃ q,q ∈ [25,2]∧∃ cells,W.heap[k_]? =some (.cells cells q (0,0)))):W1.heap[g]? =some o:=
  blk_kept hb hk (fun hs=>by
    obtain ⟨q,hq,cs,hc⟩:=hs
    rw [hb,ho] at hc
    injection hc with hc
    injection hc with _ hc _
    exact ht q hq hc.symm)
end
theorem laws_markTariff.apts (k:Nat) (s:ByteArray) (y:Int) (z:Int) (pre:List (Value × List (List Int))) (u9000_:Value) (i:List (List Int)) (rs:List (Value × List (List Int))) (d:Int) (r1:Int) (r2:List (List Int)) (j w:World) (hB:Below j.heap.size j w) (hA:Apts w j.heap.size (fun _=>True) (pre++(u9000_,i) :: rs)) (h:laws_markTariff.f k s y z i d=some (r1,r2)):
  Calls Try.prog 12 #[.agg #[.string s,.int .i64 y,.int .i64 z,u9000_],.int .i64 d] w fun e w'=>e=.returned (.int .i64 r1)∧Apts w' j.heap.size (fun _=>True) (pre++(u9000_,r2) :: rs)∧Below j.heap.size j w'∧Kept w w' (fun k_=>∃ q,q ∈ [25,2]∧∃ cells,w.heap[k_]? =some (.cells cells q (0,0))):=by
 obtain ⟨hi,O,T⟩:=hA;obtain ⟨P,p1,p2,p3⟩:=Apt.mark pre T O;exact (laws_markTariff.calls k s y z P u9000_ i d r1 r2 j w hB p1 h).mono (fun e w' hh=>⟨hh.1,⟨hi,Nat.le_trans O hh.2.2.2.1,p3 w' r2 (fun k hk hn=>hh.2.2.2.2 k hk hn) hh.2.1⟩,hh.2.2.1,⟨hh.2.2.2.1,fun k hk hn=>hh.2.2.2.2 k hk (fun hp=>hn (p2 k hp).2)⟩⟩)

def spec_l00In.f (b:Int) (d:Int) (a2:Int):Option (Bool):=if b≥d then (some (decide (b≤a2))) else (some false)
theorem spec_l00In.calls (b:Int) (d:Int) (a2:Int) (r:Bool) (w:World) (h:spec_l00In.f b d a2=some r):
  Calls Try.prog 30 #[.int .i64 b,.int .i64 d,.int .i64 a2] w fun e w'=>e=.returned (.bool r)∧Drawn0 w w':=by
 have H:(if b≥d then (some (decide (b≤a2))) else (some false))=some r:=h;clear h;by_cases I:b≥d
 ·rw [if_pos I] at H;have ab:decide (d≤b)=true:=d1_ I;clear I;obtain rfl:=Option.some.inj H;go_enter Try.func30,Try.ntmps30;go_wp2;go_ret
  exact ⟨t4_,t8_⟩
 ·rw [if_neg I] at H;have ab:decide (d≤b)=false:=d2_ I;clear I;obtain rfl:=Option.some.inj H;go_enter Try.func30,Try.ntmps30;go_wp2;go_ret
  exact ⟨t4_,t8_⟩

def spec_l01Small.f (b:Int):Option (Bool):=if b≥97 then (some (decide (b≤122))) else (some false)
theorem spec_l01Small.calls (b:Int) (r:Bool) (w:World) (h:spec_l01Small.f b=some r):
  Calls Try.prog 43 #[.int .u8 b] w fun e w'=>e=.returned (.bool r)∧Drawn0 w w':=by
 have H:(if b≥97 then (some (decide (b≤122))) else (some false))=some r:=h;clear h;by_cases c2:b≥97
 ·rw [if_pos c2] at H;have bM:decide (97≤b)=true:=d1_ c2;clear c2;obtain rfl:=Option.some.inj H;go_enter Try.func43,Try.ntmps43;go_wp2;go_ret
  exact ⟨t4_,t8_⟩
 ·rw [if_neg c2] at H;have bM:decide (97≤b)=false:=d2_ c2;clear c2;obtain rfl:=Option.some.inj H;go_enter Try.func43,Try.ntmps43;go_wp2;go_ret
  exact ⟨t4_,t8_⟩

def spec_l01Digit.f (b:Int):Option (Bool):=if b≥48 then (some (decide (b≤57))) else (some false)
theorem spec_l01Digit.calls (b:Int) (r:Bool) (w:World) (h:spec_l01Digit.f b=some r):
  Calls Try.prog 44 #[.int .u8 b] w fun e w'=>e=.returned (.bool r)∧Drawn0 w w':=by
 have H:(if b≥48 then (some (decide (b≤57))) else (some false))=some r:=h;clear h;by_cases c2:b≥48
 ·rw [if_pos c2] at H;have bM:decide (48≤b)=true:=d1_ c2;clear c2;obtain rfl:=Option.some.inj H;go_enter Try.func44,Try.ntmps44;go_wp2;go_ret
  exact ⟨t4_,t8_⟩
 ·rw [if_neg c2] at H;have bM:decide (48≤b)=false:=d2_ c2;clear c2;obtain rfl:=Option.some.inj H;go_enter Try.func44,Try.ntmps44;go_wp2;go_ret
  exact ⟨t4_,t8_⟩

mutual
def spec_l01Name.j0:Nat→ByteArray→Bool→Option (Bool)
 |0,_,_=>none
 |k+1,x0,cG=>if cG=true then (some false) else (spec_l01Name.l0 k x0 0)
def spec_l01Name.l0:Nat→ByteArray→Int→Option (Bool)
 |0,_,_=>none
 |k+1,x0,x3=>if x3<(x0.size:Int) then (if 0≤x3 then ((spec_l01Small.f (bt x0 x3)).bind fun bR=>(if bR=true then (spec_l01Name.l0 k x0 (wrap64 (x3+1))) else ((spec_l01Digit.f (bt x0 x3)).bind fun bS=>(if bS=true then (spec_l01Name.l0 k x0 (wrap64 (x3+1))) else (some false))))) else (none)) else (some true)
end
def spec_l01Name.f (k:Nat) (b:ByteArray):Option (Bool):=if b.toList=([]:List UInt8) then (spec_l01Name.j0 k b true) else (if (b.size:Int) > 10 then (spec_l01Name.j0 k b true) else (if 0<(b.size:Int) then ((spec_l01Small.f (bt b 0)).bind fun an=>(spec_l01Name.j0 k b (!an))) else (none)))
theorem spec_l01Name.mono_l:∀ k,(∀ y0 y1,LeO (spec_l01Name.j0 k y0 y1) (spec_l01Name.j0 (k+1) y0 y1))∧(∀ y0 y1,LeO (spec_l01Name.l0 k y0 y1) (spec_l01Name.l0 (k+1) y0 y1))
 |0=>⟨fun _ _ r h=>by simp [spec_l01Name.j0] at h,fun _ _ r h=>by simp [spec_l01Name.l0] at h⟩
 |k+1=>by
  obtain ⟨ae,bN⟩:=spec_l01Name.mono_l k
  refine ⟨?_,?_⟩<;>intros<;>first|unfold spec_l01Name.j0|unfold spec_l01Name.l0
  all_goals
   with_reducible repeat' first|exact ae _ _|exact bN _ _|exact LeO.refl _|exact LeO.none _|refine LeO.ite ?_ ?_|refine LeO.bind ?_ (fun _=>?_)
theorem spec_l01Name.mono:∀ b k,LeO (spec_l01Name.f k b) (spec_l01Name.f (k+1) b):=by
 intro b k;obtain ⟨ae,bN⟩:=spec_l01Name.mono_l k;unfold spec_l01Name.f
 with_reducible repeat' first|exact ae _ _|exact bN _ _|exact LeO.refl _|exact LeO.none _|refine LeO.ite ?_ ?_|refine LeO.bind ?_ (fun _=>?_)
theorem spec_l01Name.calls (k:Nat) (b:ByteArray) (r:Bool) (w:World) (h:spec_l01Name.f k b=some r):
  Calls Try.prog 36 #[.string b] w fun e w'=>e=.returned (.bool r)∧Drawn0 w w':=by
 have H:(if b.toList=([]:List UInt8) then (spec_l01Name.j0 k b true) else (if (b.size:Int) > 10 then (spec_l01Name.j0 k b true) else (if 0<(b.size:Int) then ((spec_l01Small.f (bt b 0)).bind fun an=>(spec_l01Name.j0 k b (!an))) else (none))))=some r:=h;clear h;have bG:=a_ H;clear H;go_enter Try.func36,Try.ntmps36;go_upto_region 1 with (fail);go_cut [16] (fun cE wc=>∃ (kq:Nat) (bD:Bool),cE=.bool bD∧Aside0 (spec_l01Name.j0 kq b bD=some r)∧Aside0 (kq≤k)∧Drawn0 w wc)
 case first=>
  have H:=bG.out;clear bG;by_cases K:b.toList=([]:List UInt8)
  ·rw [if_pos K] at H;have aP:(b.toList==([]:List UInt8))=true:=b1_ K;have au:(b.toList !=([]:List UInt8))=false:=b4_ K;clear K;(first|rw [aP]|(simp only [i64_w,i32_w];rw [aP])|skip);have H':=a_ H;clear H;go_wp2;go_meet
   case rel=>exact ⟨_,(true),t4_,H',⟨t45_⟩,t8_⟩
  ·rw [if_neg K] at H;have aP:(b.toList==([]:List UInt8))=false:=b2_ K;have au:(b.toList !=([]:List UInt8))=true:=b3_ K;(first|rw [aP]|(simp only [i64_w,i32_w];rw [aP])|skip);by_cases I:(b.size:Int) > 10
   ·rw [if_pos I] at H;have ab:decide (10<(b.size:Int))=true:=d1_ I;have av:decide (10<b.size)=true:=decide_eq_true t29_;clear I;have H':=a_ H;clear H;go_wp2;go_meet
    case rel=>exact ⟨_,(true),t4_,H',⟨t45_⟩,t8_⟩
   ·rw [if_neg I] at H;have ab:decide (10<(b.size:Int))=false:=d2_ I;have av:decide (10<b.size)=false:=decide_eq_false t29_;clear I;by_cases c5:0<(b.size:Int)
    ·rw [if_pos c5] at H;have b8:decide (0<(b.size:Int))=true:=d1_ c5;have b9:decide (0<b.size)=true:=decide_eq_true t29_;clear c5;replace H:=be_ H;obtain ⟨an,ba,H⟩:=H;have A7:=a_ ba;clear ba;have H':=a_ H;clear H;have p6:0≤(0:Int):=t29_;have q6:0<b.size:=(by have:(0:Int)<(b.size:Int):=od_;omega);have bo:∀ h:0<b.size,((b[0]'h).toNat:Int)=bt b 0:=bt_at b 0;clear p6;have bp:(0<(b.size:Int))=True:=eq_true (od_);replace q6:=eq_true q6;go_wp2_with (first|(go_at_call 43;(with_reducible refine (spec_l01Small.calls (bt b 0) an _ A7.out).mono ?_);rintro e w' ⟨rfl,⟨nd,rfl⟩⟩));go_meet
     case rel=>exact ⟨_,(!an),t4_,H',⟨t45_⟩,t8_⟩
    ·rw [if_neg c5] at H;exact absurd H t63_
 case rest=>
  clear bG;(try clear p2);(try clear K);(try clear aP);(try clear au);(try clear I);(try clear ab);(try clear av);(try clear c5);(try clear b8);(try clear b9);(try clear p6);(try clear q6);(try clear bo);(try clear bp);(try clear p6);(try clear q6);obtain ⟨kq,bD,rfl,HA,HJ1,⟨mc1,rfl⟩⟩:=hcut;cases kq with
  |zero=>exact absurd HA.out (by simp [spec_l01Name.j0])
  |succ kj1=>
   have H:=HA.out;clear HA;simp only [spec_l01Name.j0] at H;by_cases c8:bD=true
   ·subst c8;replace H:=(if_pos rfl).symm.trans H;obtain rfl:=Option.some.inj H;go_wp2;go_ret
    exact ⟨t4_,t8_⟩
   ·replace c8:=Bool.eq_false_iff.mpr c8;subst c8;replace H:=(if_neg (show ¬ (false=true) by decide)).symm.trans H;have H':=a_ H;clear H;go_wp2;go_loopg [3] kj1 (fun kq v3 w'=>∃ (L:Int),v3=.int .i64 L∧Aside0 (spec_l01Name.l0 kq b L=some r)∧Aside0 (kq≤kj1)∧Drawn0 w w')
    case atStart=>exact ⟨(0),t4_,H',⟨Nat.le_refl _⟩,t8_⟩
    case round=>
     clear H';(try clear c1);(try clear p2);(try clear K);(try clear aP);(try clear au);(try clear I);(try clear ab);(try clear av);(try clear c5);(try clear b8);(try clear b9);(try clear p6);(try clear q6);(try clear bo);(try clear bp);(try clear c8);(try clear p2);(try clear p6);(try clear q6);obtain ⟨L,rfl,HA,HK2,⟨m2,rfl⟩⟩:=hrel;cases gk with
     |zero=>exact absurd HA.out (by simp [spec_l01Name.l0])
     |succ k2=>
      have H:=HA.out;clear HA;simp only [spec_l01Name.l0] at H;by_cases c9:L<(b.size:Int)
      ·rw [if_pos c9] at H;have bw:decide (L<(b.size:Int))=true:=d1_ c9;clear c9;by_cases b5:0≤L
       ·rw [if_pos b5] at H;have cJ:decide (0≤L)=true:=d1_ b5;clear b5;replace H:=be_ H;obtain ⟨bR,bX,H⟩:=H;have bF:=a_ bX;clear bX;by_cases b6:bR=true
        ·subst b6;replace H:=(if_pos rfl).symm.trans H;have H':=a_ H;clear H;have af:0≤(L:Int):=od_;have ag:L<(b.size:Int):=od_;have bn:=bt_at b L;replace af:=eq_true af;replace ag:=eq_true ag;go_wp2_with (first|((with_reducible refine gate_callee (f:=43) rfl ?_);refine goesL_ (some 26) rfl rfl Try.func43 t14_ rfl #[.int .u8 (bt b L)] rfl t1_ ?_;(with_reducible refine (spec_l01Small.calls (bt b L) true _ bF.out).mono ?_);rintro e w' ⟨rfl,⟨nd,rfl⟩⟩;refine ⟨_,rfl,?_⟩));go_roundg k2
         case measure=>have:=HJ1.out;have:=HK2.out;omega
         case rel=>exact ⟨(wrap64 (L+1)),t4_,H',⟨(by have:=HJ1.out;have:=HK2.out;omega)⟩,t8_⟩
        ·replace b6:=Bool.eq_false_iff.mpr b6;subst b6;replace H:=(if_neg (show ¬ (false=true) by decide)).symm.trans H;replace H:=be_ H;obtain ⟨bS,bZ,H⟩:=H;have bY:=a_ bZ;clear bZ;by_cases b7:bS=true
         ·subst b7;replace H:=(if_pos rfl).symm.trans H;have H':=a_ H;clear H;have af:0≤(L:Int):=od_;have ag:L<(b.size:Int):=od_;have bn:=bt_at b L;replace af:=eq_true af;replace ag:=eq_true ag;go_wp2_with (first|((with_reducible refine gate_callee (f:=43) rfl ?_);refine goesL_ (some 26) rfl rfl Try.func43 t14_ rfl #[.int .u8 (bt b L)] rfl t1_ ?_;(with_reducible refine (spec_l01Small.calls (bt b L) false _ bF.out).mono ?_);rintro e w' ⟨rfl,⟨nd,rfl⟩⟩;refine ⟨_,rfl,?_⟩;have az:0≤(L:Int):=od_;have b1:L<(b.size:Int):=od_;have cD:=bt_at b L;replace az:=eq_true az;replace b1:=eq_true b1)|(go_at_call 44;(with_reducible refine (spec_l01Digit.calls (bt b L) true _ bY.out).mono ?_);rintro e w' ⟨rfl,⟨nd,rfl⟩⟩));go_roundg k2
          case measure=>have:=HJ1.out;have:=HK2.out;omega
          case rel=>exact ⟨(wrap64 (L+1)),t4_,H',⟨(by have:=HJ1.out;have:=HK2.out;omega)⟩,t8_⟩
         ·replace b7:=Bool.eq_false_iff.mpr b7;subst b7;replace H:=(if_neg (show ¬ (false=true) by decide)).symm.trans H;obtain rfl:=Option.some.inj H;have af:0≤(L:Int):=od_;have ag:L<(b.size:Int):=od_;have bn:=bt_at b L;replace af:=eq_true af;replace ag:=eq_true ag;go_wp2_with (first|((with_reducible refine gate_callee (f:=43) rfl ?_);refine goesL_ (some 26) rfl rfl Try.func43 t14_ rfl #[.int .u8 (bt b L)] rfl t1_ ?_;(with_reducible refine (spec_l01Small.calls (bt b L) false _ bF.out).mono ?_);rintro e w' ⟨rfl,⟨nd,rfl⟩⟩;refine ⟨_,rfl,?_⟩;have az:0≤(L:Int):=od_;have b1:L<(b.size:Int):=od_;have cD:=bt_at b L;replace az:=eq_true az;replace b1:=eq_true b1)|(go_at_call 44;(with_reducible refine (spec_l01Digit.calls (bt b L) false _ bY.out).mono ?_);rintro e w' ⟨rfl,⟨nd,rfl⟩⟩));go_ret
          exact ⟨t4_,t8_⟩
       ·rw [if_neg b5] at H;exact absurd H t63_
      ·rw [if_neg c9] at H;have bw:decide (L<(b.size:Int))=false:=d2_ c9;clear c9;obtain rfl:=Option.some.inj H;go_wp2;go_ret
       exact ⟨t4_,t8_⟩

end Go.Proofs.Ytfffhokkhgbibaa.PFnExactRaiseTariff
