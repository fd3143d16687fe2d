-- written by wip/xprint.py, a program of this session, for this claim; not trusted: Lean checks it.
import Derived.Test.YtemoomgnffkgbaaPFnChargingsx0
import Derived.Test.YtemoomgnffkgbaaPFnChargingsx9
namespace Go.Proofs.Ytemoomgnffkgbaa.PFnChargings
open Go.RowKit Go.Proofs.YtemoomgnffkgbaaW.PrintWords Go.Proofs.YtemoomgnffkgbaaW.PrintLast Go.Proofs.YtemoomgnffkgbaaW.PrintMore
attribute [local go_sem] leq_less_ max2_int min2_int max_two min_two max_three min_three max_four min_four   -- for this text's walks alone
set_option linter.unusedVariables false
set_option linter.unusedSimpArgs false
set_option maxHeartbeats 8000000
set_option maxRecDepth 100000
def spec_l14Levels.l0:Nat→List (S25)→List Int→List Int→Int→Int→Option (List Int × Bool)
 |0,_,_,_,_,_=>none
 |k+1,U,x2,x8,x9,ae=>if ae<(x2.length:Int) then (if 0≤ae then ((spec_l14After.f U x9 (rd x2 ae)).bind fun bt402=>(if bt402.2=true then (if x8.length<17592186044416 then (spec_l14Levels.l0 k U x2 (x8++[bt402.1]) bt402.1 (wrap64 (ae+1))) else (none)) else (some (([]:List Int),false)))) else (none)) else (some (x8,true))
def spec_l14Levels.f (k:Nat) (d:List (S25)) (c:Int) (l2:List Int):Option (List Int × Bool):=spec_l14Levels.l0 k d l2 (([]:List Int)) c 0
theorem spec_l14Levels.mono_l:∀ k,(∀ A B X Y Z,LeO (spec_l14Levels.l0 k A B X Y Z) (spec_l14Levels.l0 (k+1) A B X Y Z))
 |0=>fun _ _ _ _ _ r h=>by simp [spec_l14Levels.l0] at h
 |k+1=>by
  have y:=spec_l14Levels.mono_l k
  ·intro A B X Y Z
   unfold spec_l14Levels.l0
   with_reducible repeat' first|exact y _ _ _ _ _|exact LeO.refl _|exact LeO.none _|refine LeO.ite ?_ ?_|refine LeO.bind ?_ (fun _=>?_)
theorem spec_l14Levels.mono:∀ j c K k,LeO (spec_l14Levels.f k j c K) (spec_l14Levels.f (k+1) j c K):=by
 intro j c K k;have y:=spec_l14Levels.mono_l k;unfold spec_l14Levels.f
 with_reducible repeat' first|exact y _ _ _ _ _|exact LeO.refl _|exact LeO.none _|refine LeO.ite ?_ ?_|refine LeO.bind ?_ (fun _=>?_)
theorem spec_l14Levels.calls (k:Nat) (J:Option Addr) (c0:Nat) (d:List (S25)) (c:Int) (A2:Option Addr) (c2:Nat) (l2:List Int) (u:List Int) (v:Bool) (w:World) (aK:Kd.C k25 w J d.length d) (aG:d.length≤c0) (aM:Kd.C (Kd.int .i64) w A2 l2.length l2) (aH:l2.length≤c2) (h:spec_l14Levels.f k d c l2=some (u,v)):
  Calls Try.prog 48 #[.pointer J,.int .i64 c,.slice A2 l2.length c2] w fun e w'=>∃ aX:Value,e=.returned (.tuple #[aX,.bool v])∧Kd.R (Kd.int .i64) 2 w' w.heap.size (fun _=>True) aX u∧Below w.heap.size w w':=by
 have aE:=a_ aK;have ah:=a_ aG;clear aK aG;have a5:=a_ aM;have aZ:=a_ aH;clear aM aH;have HB:=a_ (Below.refl w.heap.size w);have H:(spec_l14Levels.l0 k d l2 (([]:List Int)) c 0)=some (u,v):=h;clear h;obtain ⟨b1,aQ⟩:∃ y_:List Int,y_=(([]:List Int)):=⟨_,rfl⟩;replace H:(spec_l14Levels.l0 k d l2 b1 c 0)=some (u,v):=(by first|(rw [aQ];with_reducible exact H)|(have H2_:=(Option.bind_some _ _).symm.trans H;rw [aQ];with_reducible exact H2_)|(have H2_:=(Option.bind_some _ _).symm.trans H;with_reducible exact H2_)|with_reducible exact H|(rw [aQ];exact H)|exact H);have ay:=a_ aQ;clear aQ;have H':=a_ H;clear H;go_enter Try.func48,Try.ntmps48;go_wp2_with (first|((with_reducible refine gate_dst (N:=13) rfl ?_);refine Kd.R_lit (Kd.int .i64) _ 2 ?hg (N:=13) ?hd (xs:=([]:List Int)) (inner:=[]) (ok:=fun _=>True) (okp:=fun _=>True) ?hr ?hp (fun _ hk=>hk) trivial (Below.refl _ _) (Nat.le_refl _) t53_ ?_;(case hd=>rfl);(case hg=>rfl);(case hr=>first|(go_simp;done)|(go_simp;rfl));(case hp=>exact (Reps.none _ _));intro bj w4 aJ hb hg_ hnew_;clear hg_ hnew_;(first|rw [← ay.out] at aJ|(simp only [Int.reduceToNat] at aJ;rw [← ay.out] at aJ));have m:=a_ (Kd.R_lower aJ (below_size t1_));have q:=a_ (below_step t1_ hb);clear HB;have b5:=m;have HB:=q;clear m q;clear hb aJ));go_loopg [8,9,10] k (fun kq v8 v9 bR w'=>∃ (I:List Int) (W:Int) (i:Int),v9=.int .i64 W∧bR=.int .i64 i∧Aside0 (spec_l14Levels.l0 kq d l2 I W i=some (u,v))∧Aside0 (kq≤k)∧Aside0 (Kd.R (Kd.int .i64) 2 w' w.heap.size (fun _=>True) v8 I)∧Aside0 (Below w.heap.size w w'))
 case atStart=>exact ⟨(b1),(c),(0),t10_,t10_,H',⟨Nat.le_refl _⟩,⟨(by (with_reducible repeat (first|apply Kd.R_alloc|apply Kd.R_drewN|apply Kd.R_drew));exact b5.out)⟩,⟨t1_⟩⟩
 case round=>
  clear H';(try clear c2);(try clear p2);(try clear c4);obtain ⟨I,W,i,rfl,rfl,HA,HK1,HO_8,HB⟩:=hrel;cases gk with
  |zero=>exact absurd HA.out (by simp [spec_l14Levels.l0])
  |succ k1=>
   have H:=HA.out;clear HA;simp only [spec_l14Levels.l0] at H;by_cases c6:i<(l2.length:Int)
   ·rw [if_pos c6] at H;have bC:decide (i<(l2.length:Int))=true:=d1_ c6;clear c6;by_cases c7:0≤i
    ·rw [if_pos c7] at H;have bg:decide (0≤i)=true:=d1_ c7;clear c7;replace H:=be_ H;obtain ⟨⟨G,az⟩,aD,H⟩:=H;replace H:(if az=true then (if I.length<17592186044416 then (spec_l14Levels.l0 k1 d l2 (I++[G]) G (wrap64 (i+1))) else (none)) else (some (([]:List Int),false)))=some (u,v):=H;have A8:=a_ aD;clear aD;by_cases E:az=true
     ·subst E;replace H:=(if_pos rfl).symm.trans H;by_cases aa:I.length<17592186044416
      ·rw [if_pos aa] at H;have LMc10:=a_ aa;clear aa;obtain ⟨b2,aR⟩:∃ y_:List Int,y_=(I++[G]):=⟨_,rfl⟩;replace H:(spec_l14Levels.l0 k1 d l2 b2 G (wrap64 (i+1)))=some (u,v):=(by first|(rw [aR];with_reducible exact H)|(have H2_:=(Option.bind_some _ _).symm.trans H;rw [aR];with_reducible exact H2_)|(have H2_:=(Option.bind_some _ _).symm.trans H;with_reducible exact H2_)|with_reducible exact H|(rw [aR];exact H)|exact H);have b7:=a_ aR;clear aR;have H':=a_ H;clear H;have L:0≤(i:Int):=od_;have O:i<(l2.length:Int):=od_;obtain ⟨b8,al,aN⟩:=Kd.at_int a5.out i L O;cases al;replace aN:=hb_ HB aN;replace L:=eq_true L;replace O:=eq_true O;go_wp2_with (first|((with_reducible refine gate_callee (f:=75) rfl ?_);refine goesL_ (some 28) rfl rfl Try.func75 t22_ rfl #[.pointer J,.int .i64 W,.int .i64 (rd l2 i)] rfl t2_ ?_;(with_reducible refine (spec_l14After.calls _ c0 d W (rd l2 i) G true _ ?Z1 ?Z2 A8.out).mono ?_);(case Z1=>exact qc_ (Kd.C_below aE.out HB.out));(case Z2=>exact ah.out);rintro e w' ⟨rfl,⟨nd,rfl⟩⟩;refine ⟨_,rfl,?_⟩)|((with_reducible refine gate_builtin (b:=.append) (xs:=#[.tmp 34,.tmp 36]) rfl ?_);at_builtin;refine Kd.R_append (Kd.int .i64) (w0:=w) w.heap.size rfl (.tmp 34) (.tmp 36) 26 2 (.int .i64 0) 8 rfl Try.underlying26 info2 rfl t45_ t42_ u8 I G [.int .i64 G] (fun _=>True) (fun _=>False) rfl rfl ?aP (fun _ hk=>hk.elim) ?aF ?aO ?aB ?aS ?aL ?_;(case aP=>exact rfl);(case aB=>exact t1_);(case aF=>exact (fun _ _=>trivial));(case aO=>exact (q2_ HO_8.out));(case aS=>exact (below_size t1_));(case aL=>have:=LMc10.out;omega);intro bk bl ho hb hg hat;rw [← b7.out] at ho;have m:=a_ (hb);have q:=a_ (ho);clear HB;clear HO_8;have HB:=m;have b6:=q;clear m q;clear ho hb hg hat));go_roundg k1
       case measure=>have:=HK1.out;omega
       case rel=>exact ⟨(b2),(G),(wrap64 (i+1)),t10_,t10_,H',⟨(by have:=HK1.out;omega)⟩,⟨(by (with_reducible repeat (first|apply Kd.R_alloc|apply Kd.R_drewN|apply Kd.R_drew));exact b6.out)⟩,⟨t1_⟩⟩
      ·rw [if_neg aa] at H;exact absurd H t53_
     ·replace E:=Bool.eq_false_iff.mpr E;subst E;replace H:=(if_neg (show ¬ (false=true) by decide)).symm.trans H;simp only [Option.some.injEq,Prod.mk.injEq] at H;obtain ⟨rfl,rfl⟩:=H;have L:0≤(i:Int):=od_;have O:i<(l2.length:Int):=od_;obtain ⟨b8,al,aN⟩:=Kd.at_int a5.out i L O;cases al;replace aN:=hb_ HB aN;replace L:=eq_true L;replace O:=eq_true O;go_wp2_with (first|((with_reducible refine gate_callee (f:=75) rfl ?_);refine goesL_ (some 28) rfl rfl Try.func75 t22_ rfl #[.pointer J,.int .i64 W,.int .i64 (rd l2 i)] rfl t2_ ?_;(with_reducible refine (spec_l14After.calls _ c0 d W (rd l2 i) G false _ ?Z1 ?Z2 A8.out).mono ?_);(case Z1=>exact qc_ (Kd.C_below aE.out HB.out));(case Z2=>exact ah.out);rintro e w' ⟨rfl,⟨nd,rfl⟩⟩;refine ⟨_,rfl,?_⟩));go_ret2;exact ⟨_,t26_,t29_,t1_⟩
    ·rw [if_neg c7] at H;exact absurd H t53_
   ·rw [if_neg c6] at H;have bC:decide (i<(l2.length:Int))=false:=d2_ c6;clear c6;simp only [Option.some.injEq,Prod.mk.injEq] at H;obtain ⟨rfl,rfl⟩:=H;go_wp2;go_ret2;exact ⟨_,t26_,t85_,t1_⟩

def spec_LevelsOf.j0:Nat→Int→List Int→Bool→Int→Int→Int→Option (List Int × Int)
 |0,_,_,_,_,_,_=>none
 |k+1,x1,x2,bY,bZ,ba,bb=>if bY=true then (some (([]:List Int),2)) else ((spec_l14Levels.f k [(⟨bZ,ba,bb⟩:S25)] x1 x2).bind fun bt411=>(if bt411.2=true then (some (bt411.1,0)) else (some (([]:List Int),6))))
def spec_LevelsOf.f (k:Nat) (a0_0:Int) (a0_1:Int) (a0_2:Int) (c:Int) (l2:List Int):Option (List Int × Int):=(spec_l14Ok.f [(⟨a0_0,a0_1,a0_2⟩:S25)]).bind fun aU=>(if aU=true then ((spec_l00In.f c 0 a0_0).bind fun aV=>(if aV=true then ((spec_l14Changes.f k l2).bind fun a8=>(spec_LevelsOf.j0 k c l2 (!a8) a0_0 a0_1 a0_2)) else (spec_LevelsOf.j0 k c l2 true a0_0 a0_1 a0_2))) else (some (([]:List Int),1)))
theorem spec_LevelsOf.mono_l:∀ k,(∀ A B X Y Z y5,LeO (spec_LevelsOf.j0 k A B X Y Z y5) (spec_LevelsOf.j0 (k+1) A B X Y Z y5))
 |0=>fun _ _ _ _ _ _ r h=>by simp [spec_LevelsOf.j0] at h
 |k+1=>by
  have y:=spec_LevelsOf.mono_l k
  ·intro A B X Y Z y5
   unfold spec_LevelsOf.j0
   with_reducible repeat' first|exact y _ _ _ _ _ _|exact spec_l14Changes.mono _ _|exact spec_l14Levels.mono _ _ _ _|exact LeO.refl _|exact LeO.none _|refine LeO.ite ?_ ?_|refine LeO.bind ?_ (fun _=>?_)
theorem spec_LevelsOf.mono:∀ j c K a3 a4 k,LeO (spec_LevelsOf.f k j c K a3 a4) (spec_LevelsOf.f (k+1) j c K a3 a4):=by
 intro j c K a3 a4 k;have y:=spec_LevelsOf.mono_l k;unfold spec_LevelsOf.f
 with_reducible repeat' first|exact y _ _ _ _ _ _|exact spec_l14Changes.mono _ _|exact spec_l14Levels.mono _ _ _ _|exact LeO.refl _|exact LeO.none _|refine LeO.ite ?_ ?_|refine LeO.bind ?_ (fun _=>?_)
theorem spec_LevelsOf.calls (k:Nat) (a0_0:Int) (a0_1:Int) (a0_2:Int) (c:Int) (A2:Option Addr) (c2:Nat) (l2:List Int) (u:List Int) (v:Int) (w:World) (aM:Kd.C (Kd.int .i64) w A2 l2.length l2) (aH:l2.length≤c2) (h:spec_LevelsOf.f k a0_0 a0_1 a0_2 c l2=some (u,v)):
  Calls Try.prog 12 #[.agg #[.int .i64 a0_0,.int .i64 a0_1,.int .i64 a0_2],.int .i64 c,.slice A2 l2.length c2] w fun e w'=>∃ aX:Value,e=.returned (.tuple #[aX,.int .i64 v])∧Kd.R (Kd.int .i64) 2 w' w.heap.size (fun _=>True) aX u∧Below w.heap.size w w':=by
 have bh:=Try.underlying25;have a5:=a_ aM;have aZ:=a_ aH;clear aM aH;have HB:=a_ (Below.refl w.heap.size w);have H:((spec_l14Ok.f [(⟨a0_0,a0_1,a0_2⟩:S25)]).bind fun aU=>(if aU=true then ((spec_l00In.f c 0 a0_0).bind fun aV=>(if aV=true then ((spec_l14Changes.f k l2).bind fun a8=>(spec_LevelsOf.j0 k c l2 (!a8) a0_0 a0_1 a0_2)) else (spec_LevelsOf.j0 k c l2 true a0_0 a0_1 a0_2))) else (some (([]:List Int),1))))=some (u,v):=h;clear h;replace H:=be_ H;obtain ⟨aU,aA,H⟩:=H;have A4:=a_ aA;clear aA;by_cases D:aU=true
 ·subst D;replace H:=(if_pos rfl).symm.trans H;have ai:=a_ H;clear H;go_enter Try.func12,Try.ntmps12;go_upto_region 3 with (first|((with_reducible refine gate_dst (N:=3) rfl ?_);refine box_event ?hg (N:=3) ?hd (cs:=#[.int .i64 a0_0,.int .i64 a0_1,.int .i64 a0_2]) (t:=25) ?hr ?_;(case hd=>rfl);(case hg=>rfl);(case hr=>first|(go_simp;done)|(go_simp;rfl));intro x hg w7 hbox hb;have m:=a_ (below_step t1_ hb);have q:=a_ (hbox);have z:=a_ ((by rw [hg];exact (below_size t1_):w.heap.size≤x));have aT:=a_ ((by rw [hg];exact (below_size t1_):w.heap.size≤x));clear HB;have HB:=m;have s:=q;have b4:=z;have GE407:=aT;clear m q z aT;clear hb hbox hg)|((with_reducible refine gate_callee (f:=45) rfl ?_);refine goesL_ (some 10) rfl rfl Try.func45 t22_ rfl #[.pointer (some ⟨x,0,none⟩)] rfl t2_ ?_;(with_reducible refine (spec_l14Ok.calls _ 1 [(⟨a0_0,a0_1,a0_2⟩:S25)] true _ ?Z1 ?Z2 A4.out).mono ?_);(case Z1=>exact Kd.C_one (k25_mk _ (⟨a0_0,a0_1,a0_2⟩:S25)) (cells_blk (cs:=#[.int .i64 a0_0,.int .i64 a0_1,.int .i64 a0_2]) (t:=25) (q1_ s.out)));(case Z2=>exact Nat.le_refl _);rintro e w' ⟨rfl,⟨nd,rfl⟩⟩;refine ⟨_,rfl,?_⟩));(try simp only [Act.put,List.setIfInBounds_toArray,List.set_cons_zero,List.set_cons_succ]);go_cut [21] (fun bS wc=>∃ (kq:Nat) (af:Bool),bS=.bool af∧Aside0 (spec_LevelsOf.j0 kq c l2 af a0_0 a0_1 a0_2=some (u,v))∧Aside0 (kq≤k)∧Aside0 (wc.heap[x]? =some (.cells #[.int .i64 a0_0,.int .i64 a0_1,.int .i64 a0_2] 25 (0,0)))∧Aside0 (Below w.heap.size w wc))
  case first=>
   have H:=ai.out;clear ai;replace H:=be_ H;obtain ⟨aV,aD,H⟩:=H;have A8:=a_ aD;clear aD;by_cases E:aV=true
   ·subst E;replace H:=(if_pos rfl).symm.trans H;replace H:=be_ H;obtain ⟨a8,ar,H⟩:=H;have b3:=a_ ar;clear ar;have H':=a_ H;clear H;have ⟨bD,bE,bF,bJ,bK,bL⟩:=bc3_ s.out;go_wp2_with (first|((with_reducible refine gate_callee (f:=46) rfl ?_);refine goesL_ (some 15) rfl rfl Try.func46 t22_ rfl #[.int .i64 c,.int .i64 0,.int .i64 a0_0] rfl t2_ ?_;(with_reducible refine (spec_l00In.calls c 0 a0_0 true _ A8.out).mono ?_);rintro e w' ⟨rfl,⟨nd,rfl⟩⟩;refine ⟨_,rfl,?_⟩)|(go_at_call 47;(with_reducible refine (spec_l14Changes.calls k _ _ l2 a8 _ ?Z1 ?Z2 b3.out).mono ?_);(case Z1=>repeat (first|exact (Kd.C_below a5.out t31_)|(with_reducible refine Kd.C_alloc ?_ _)|(with_reducible refine Kd.C_drewN ?_ _)|(with_reducible refine Kd.C_drew ?_)));(case Z2=>exact aZ.out);rintro e w' ⟨rfl,⟨nd,rfl⟩⟩));go_meet
    case rel=>exact ⟨_,(!a8),t10_,H',⟨t68_⟩,⟨(by (with_reducible repeat (first|refine blk_drewN ?_ _|refine blk_drew ?_|refine blk_alloc ?_ _));exact s.out)⟩,⟨t31_⟩⟩
   ·replace E:=Bool.eq_false_iff.mpr E;subst E;replace H:=(if_neg (show ¬ (false=true) by decide)).symm.trans H;have H':=a_ H;clear H;have ⟨bG,bH,bI,bM,bN,bO⟩:=bc3_ s.out;go_wp2_with (first|((with_reducible refine gate_callee (f:=46) rfl ?_);refine goesL_ (some 15) rfl rfl Try.func46 t22_ rfl #[.int .i64 c,.int .i64 0,.int .i64 a0_0] rfl t2_ ?_;(with_reducible refine (spec_l00In.calls c 0 a0_0 false _ A8.out).mono ?_);rintro e w' ⟨rfl,⟨nd,rfl⟩⟩;refine ⟨_,rfl,?_⟩));go_meet
    case rel=>exact ⟨_,(true),t10_,H',⟨t68_⟩,⟨(by (with_reducible repeat (first|refine blk_drewN ?_ _|refine blk_drew ?_|refine blk_alloc ?_ _));exact s.out)⟩,⟨t31_⟩⟩
  case rest=>
   clear ai;(try clear c1);(try clear c2);(try clear p2);(try clear c4);(try clear D);(try clear E);(try clear be);(try clear bD);(try clear bE);(try clear bF);(try clear bG);(try clear bH);(try clear bI);(try clear bJ);(try clear bK);(try clear bL);(try clear bM);(try clear bN);(try clear bO);obtain ⟨kq,af,rfl,HA,HJ5,s,HB⟩:=hcut;cases kq with
   |zero=>exact absurd HA.out (by simp [spec_LevelsOf.j0])
   |succ kj5=>
    have H:=HA.out;clear HA;simp only [spec_LevelsOf.j0] at H;by_cases ab:af=true
    ·subst ab;replace H:=(if_pos rfl).symm.trans H;simp only [Option.some.injEq,Prod.mk.injEq] at H;obtain ⟨rfl,rfl⟩:=H;go_wp2;go_ret2;exact ⟨_,t26_,t29_,t31_⟩
    ·replace ab:=Bool.eq_false_iff.mpr ab;subst ab;replace H:=(if_neg (show ¬ (false=true) by decide)).symm.trans H;replace H:=be_ H;obtain ⟨⟨an,b0⟩,av,H⟩:=H;replace H:(if b0=true then (some (an,0)) else (some (([]:List Int),6)))=some (u,v):=H;have au:=a_ av;clear av;by_cases ac:b0=true
     ·subst ac;replace H:=(if_pos rfl).symm.trans H;simp only [Option.some.injEq,Prod.mk.injEq] at H;obtain ⟨rfl,rfl⟩:=H;go_wp2_with (first|((with_reducible refine gate_callee (f:=48) rfl ?_);refine goesL_ (some 25) rfl rfl Try.func48 t22_ rfl #[.pointer (some ⟨x,0,none⟩),.int .i64 c,.slice A2 l2.length c2] rfl t2_ ?_;(with_reducible refine (spec_l14Levels.calls kj5 _ 1 [(⟨a0_0,a0_1,a0_2⟩:S25)] c _ _ l2 an true _ ?Z1 ?Z2 ?Z3 ?Z4 au.out).mono ?_);(case Z1=>exact Kd.C_one (k25_mk _ (⟨a0_0,a0_1,a0_2⟩:S25)) (cells_blk (cs:=#[.int .i64 a0_0,.int .i64 a0_1,.int .i64 a0_2]) (t:=25) (q1_ s.out)));(case Z2=>exact Nat.le_refl _);(case Z3=>exact qc_ (Kd.C_below a5.out HB.out));(case Z4=>exact aZ.out);rintro e bm ⟨bU,rfl,aI,hb⟩;refine ⟨_,rfl,?_⟩;have m:=a_ (Kd.R_lower aI (below_size t31_));have q:=a_ (blk_below (g:=x) (o:=.cells #[.int .i64 a0_0,.int .i64 a0_1,.int .i64 a0_2] 25 (0,0)) (q1_ s.out) hb);have z:=a_ (below_step t31_ hb);clear s;clear HB;have ax:=m;have s:=q;have HB:=z;clear m q z;(try clear hb);(try clear hb2);(try clear hk);(try clear hi);(try clear aI)));go_ret2;exact ⟨_,t26_,(by (with_reducible repeat (first|apply Kd.R_alloc|apply Kd.R_drewN|apply Kd.R_drew));exact ax.out),t31_⟩
     ·replace ac:=Bool.eq_false_iff.mpr ac;subst ac;replace H:=(if_neg (show ¬ (false=true) by decide)).symm.trans H;simp only [Option.some.injEq,Prod.mk.injEq] at H;obtain ⟨rfl,rfl⟩:=H;go_wp2_with (first|((with_reducible refine gate_callee (f:=48) rfl ?_);refine goesL_ (some 25) rfl rfl Try.func48 t22_ rfl #[.pointer (some ⟨x,0,none⟩),.int .i64 c,.slice A2 l2.length c2] rfl t2_ ?_;(with_reducible refine (spec_l14Levels.calls kj5 _ 1 [(⟨a0_0,a0_1,a0_2⟩:S25)] c _ _ l2 an false _ ?Z1 ?Z2 ?Z3 ?Z4 au.out).mono ?_);(case Z1=>exact Kd.C_one (k25_mk _ (⟨a0_0,a0_1,a0_2⟩:S25)) (cells_blk (cs:=#[.int .i64 a0_0,.int .i64 a0_1,.int .i64 a0_2]) (t:=25) (q1_ s.out)));(case Z2=>exact Nat.le_refl _);(case Z3=>exact qc_ (Kd.C_below a5.out HB.out));(case Z4=>exact aZ.out);rintro e bn ⟨bU,rfl,aI,hb⟩;refine ⟨_,rfl,?_⟩;have m:=a_ (Kd.R_lower aI (below_size t31_));have q:=a_ (blk_below (g:=x) (o:=.cells #[.int .i64 a0_0,.int .i64 a0_1,.int .i64 a0_2] 25 (0,0)) (q1_ s.out) hb);have z:=a_ (below_step t31_ hb);clear s;clear HB;have ax:=m;have s:=q;have HB:=z;clear m q z;(try clear hb);(try clear hb2);(try clear hk);(try clear hi);(try clear aI)));go_ret2;exact ⟨_,t26_,t29_,t31_⟩
 ·replace D:=Bool.eq_false_iff.mpr D;subst D;replace H:=(if_neg (show ¬ (false=true) by decide)).symm.trans H;simp only [Option.some.injEq,Prod.mk.injEq] at H;obtain ⟨rfl,rfl⟩:=H;go_enter Try.func12,Try.ntmps12;go_wp2_with (first|((with_reducible refine gate_dst (N:=3) rfl ?_);refine box_event ?hg (N:=3) ?hd (cs:=#[.int .i64 a0_0,.int .i64 a0_1,.int .i64 a0_2]) (t:=25) ?hr ?_;(case hd=>rfl);(case hg=>rfl);(case hr=>first|(go_simp;done)|(go_simp;rfl));intro x hg bo hbox hb;have m:=a_ (below_step t1_ hb);have q:=a_ (hbox);have z:=a_ ((by rw [hg];exact (below_size t1_):w.heap.size≤x));have aT:=a_ ((by rw [hg];exact (below_size t1_):w.heap.size≤x));clear HB;have HB:=m;have s:=q;have b4:=z;have GE407:=aT;clear m q z aT;clear hb hbox hg)|((with_reducible refine gate_callee (f:=45) rfl ?_);refine goesL_ (some 10) rfl rfl Try.func45 t22_ rfl #[.pointer (some ⟨x,0,none⟩)] rfl t2_ ?_;(with_reducible refine (spec_l14Ok.calls _ 1 [(⟨a0_0,a0_1,a0_2⟩:S25)] false _ ?Z1 ?Z2 A4.out).mono ?_);(case Z1=>exact Kd.C_one (k25_mk _ (⟨a0_0,a0_1,a0_2⟩:S25)) (cells_blk (cs:=#[.int .i64 a0_0,.int .i64 a0_1,.int .i64 a0_2]) (t:=25) (q1_ s.out)));(case Z2=>exact Nat.le_refl _);rintro e w' ⟨rfl,⟨nd,rfl⟩⟩;refine ⟨_,rfl,?_⟩));go_ret2;exact ⟨_,t26_,t29_,t31_⟩

def spec_l14Hours.l0:Nat→List Int→Int→Option (Bool)
 |0,_,_=>none
 |k+1,U,x3=>if x3<(U.length:Int) then (if 0≤x3 then ((spec_l00In.f (rd U x3) 0 1000).bind fun ao=>(if ao=true then (spec_l14Hours.l0 k U (wrap64 (x3+1))) else (some false))) else (none)) else (some (decide ((U.length:Int)≤24)))
def spec_l14Hours.f (k:Nat) (d:List Int):Option (Bool):=spec_l14Hours.l0 k d 0
theorem spec_l14Hours.mono_l:∀ k,(∀ A B,LeO (spec_l14Hours.l0 k A B) (spec_l14Hours.l0 (k+1) A B))
 |0=>fun _ _ r h=>by simp [spec_l14Hours.l0] at h
 |k+1=>by
  have y:=spec_l14Hours.mono_l k
  ·intro A B
   unfold spec_l14Hours.l0
   with_reducible repeat' first|exact y _ _|exact LeO.refl _|exact LeO.none _|refine LeO.ite ?_ ?_|refine LeO.bind ?_ (fun _=>?_)
theorem spec_l14Hours.mono:∀ j k,LeO (spec_l14Hours.f k j) (spec_l14Hours.f (k+1) j):=by
 intro j k;have y:=spec_l14Hours.mono_l k;unfold spec_l14Hours.f
 with_reducible repeat' first|exact y _ _|exact LeO.refl _|exact LeO.none _|refine LeO.ite ?_ ?_|refine LeO.bind ?_ (fun _=>?_)
theorem spec_l14Hours.calls (k:Nat) (J:Option Addr) (c0:Nat) (d:List Int) (r:Bool) (w:World) (aK:Kd.C (Kd.int .i64) w J d.length d) (aG:d.length≤c0) (h:spec_l14Hours.f k d=some r):
  Calls Try.prog 49 #[.slice J d.length c0] w fun e w'=>e=.returned (.bool r)∧Drawn0 w w':=by
 have aE:=a_ aK;have ah:=a_ aG;clear aK aG;have H:(spec_l14Hours.l0 k d 0)=some r:=h;clear h;have H':=a_ H;clear H;go_enter Try.func49,Try.ntmps49;go_wp2;go_loopg [3] k (fun kq v3 w'=>∃ (l:Int),v3=.int .i64 l∧Aside0 (spec_l14Hours.l0 kq d l=some r)∧Aside0 (kq≤k)∧Drawn0 w w')
 case atStart=>exact ⟨(0),t10_,H',⟨Nat.le_refl _⟩,t28_⟩
 case round=>
  clear H';obtain ⟨l,rfl,HA,HK1,⟨m1,rfl⟩⟩:=hrel;cases gk with
  |zero=>exact absurd HA.out (by simp [spec_l14Hours.l0])
  |succ k1=>
   have H:=HA.out;clear HA;simp only [spec_l14Hours.l0] at H;by_cases c2:l<(d.length:Int)
   ·rw [if_pos c2] at H;have bA:decide (l<(d.length:Int))=true:=d1_ c2;clear c2;by_cases c3:0≤l
    ·rw [if_pos c3] at H;have bf:decide (0≤l)=true:=d1_ c3;clear c3;replace H:=be_ H;obtain ⟨ao,aA,H⟩:=H;have A4:=a_ aA;clear aA;by_cases D:ao=true
     ·subst D;replace H:=(if_pos rfl).symm.trans H;have H':=a_ H;clear H;have M:0≤(l:Int):=od_;have T:l<(d.length:Int):=od_;obtain ⟨b9,am,bP⟩:=Kd.at_int aE.out l M T;cases am;replace M:=eq_true M;replace T:=eq_true T;go_wp2_with (first|((with_reducible refine gate_callee (f:=46) rfl ?_);refine goesL_ (some 14) rfl rfl Try.func46 t22_ rfl #[.int .i64 (rd d l),.int .i64 0,.int .i64 1000] rfl t2_ ?_;(with_reducible refine (spec_l00In.calls (rd d l) 0 1000 true _ A4.out).mono ?_);rintro e w' ⟨rfl,⟨nd,rfl⟩⟩;refine ⟨_,rfl,?_⟩));go_roundg k1
      case measure=>have:=HK1.out;omega
      case rel=>exact ⟨(wrap64 (l+1)),t10_,H',⟨(by have:=HK1.out;omega)⟩,t28_⟩
     ·replace D:=Bool.eq_false_iff.mpr D;subst D;replace H:=(if_neg (show ¬ (false=true) by decide)).symm.trans H;obtain rfl:=Option.some.inj H;have M:0≤(l:Int):=od_;have T:l<(d.length:Int):=od_;obtain ⟨b9,am,bP⟩:=Kd.at_int aE.out l M T;cases am;replace M:=eq_true M;replace T:=eq_true T;go_wp2_with (first|((with_reducible refine gate_callee (f:=46) rfl ?_);refine goesL_ (some 14) rfl rfl Try.func46 t22_ rfl #[.int .i64 (rd d l),.int .i64 0,.int .i64 1000] rfl t2_ ?_;(with_reducible refine (spec_l00In.calls (rd d l) 0 1000 false _ A4.out).mono ?_);rintro e w' ⟨rfl,⟨nd,rfl⟩⟩;refine ⟨_,rfl,?_⟩));go_ret
      exact ⟨t10_,t28_⟩
    ·rw [if_neg c3] at H;exact absurd H t53_
   ·rw [if_neg c2] at H;have bA:decide (l<(d.length:Int))=false:=d2_ c2;clear c2;obtain rfl:=Option.some.inj H;go_wp2;go_ret
    exact ⟨t10_,t28_⟩

def spec_l14Most.f (j:Int):Option (Bool):=(spec_l00In.f j 0 1000).bind fun aW=>(some aW)
theorem spec_l14Most.calls (j:Int) (r:Bool) (w:World) (h:spec_l14Most.f j=some r):
  Calls Try.prog 50 #[.int .i64 j] w fun e w'=>e=.returned (.bool r)∧Drawn0 w w':=by
 have H:((spec_l00In.f j 0 1000).bind fun aW=>(some aW))=some r:=h;clear h;replace H:=be_ H;obtain ⟨aW,aw,H⟩:=H;have A2:=a_ aw;clear aw;obtain rfl:=Option.some.inj H;go_enter Try.func50,Try.ntmps50;go_wp2_with (first|((with_reducible refine gate_callee (f:=46) rfl ?_);refine goesL_ (some 4) rfl rfl Try.func46 t22_ rfl #[.int .i64 j,.int .i64 0,.int .i64 1000] rfl t2_ ?_;(with_reducible refine (spec_l00In.calls j 0 1000 aW _ A2.out).mono ?_);rintro e w' ⟨rfl,⟨nd,rfl⟩⟩;refine ⟨_,rfl,?_⟩));go_ret
 exact ⟨t10_,t28_⟩

end Go.Proofs.Ytemoomgnffkgbaa.PFnChargings
