-- written by wip/xprint.py, a program of this session, for this claim; not trusted: Lean checks it.
import Derived.Test.YtheokilgacmlmaaPFnExactCutNodesx0
import Derived.Test.YtheokilgacmlmaaPFnExactCutNodesx4
import Derived.Test.YtheokilgacmlmaaPFnExactCutNodesx10
namespace Go.Proofs.Ytheokilgacmlmaa.PFnExactCutNodes
open Go.RowKit Go.Proofs.YtheokilgacmlmaaW.PrintWords Go.Proofs.YtheokilgacmlmaaW.PrintLast Go.Proofs.YtheokilgacmlmaaW.PrintMore
attribute [local go_sem] leq_less_ max2_int min2_int max_two min_two max_three min_three max_four min_four   -- for this text's walks alone
set_option linter.unusedVariables false
set_option linter.unusedSimpArgs false
set_option maxHeartbeats 8000000
set_option maxRecDepth 100000
def spec_l18Region.f (k:Nat) (c:List (S33)) (l1:List (S51)) (i:Int):Option (List Bool × List Bool):=if 0<(c.length:Int) then (if 0≤(((rd_T33 c 0).f1).length:Int) then (if ((((rd_T33 c 0).f1).length:Int):Int).toNat≤281474976710656 then ((some (List.replicate ((((rd_T33 c 0).f1).length:Int):Int).toNat false:List Bool)).bind fun o=>(if 0≤(((rd_T33 c 0).f0).length:Int) then (if ((((rd_T33 c 0).f0).length:Int):Int).toNat≤281474976710656 then (if 0≤i then (if i<(o.length:Int) then ((spec_l18All.f k (l1.length:Int)).bind fun A=>((spec_l18Spread.f k c l1 A (o.set (i:Int).toNat true) (List.replicate ((((rd_T33 c 0).f0).length:Int):Int).toNat false)).bind fun bt276=>(some (bt276.1,bt276.2)))) else (none)) else (none)) else (none)) else (none))) else (none)) else (none)) else (none)
theorem spec_l18Region.mono:∀ g d i k,LeO (spec_l18Region.f k g d i) (spec_l18Region.f (k+1) g d i):=by
 intro g d i k;unfold spec_l18Region.f
 with_reducible repeat' first|exact spec_l18All.mono _ _|exact spec_l18Spread.mono _ _ _ _ _ _|exact LeO.refl _|exact LeO.none _|refine LeO.ite ?_ ?_|refine LeO.bind ?_ (fun _=>?_)
theorem spec_l18Region.calls (k:Nat) (B:Option Addr) (J:Nat) (c:List (S33)) (A1:Option Addr) (c1:Nat) (l1:List (S51)) (i:Int) (r1:List Bool) (r2:List Bool) (w:World) (G:Kd.C k33 w B c.length c) (E:c.length≤J) (bP:Kd.C k51 w A1 l1.length l1) (bC:l1.length≤c1) (h:spec_l18Region.f k c l1 i=some (r1,r2)):
  Calls Try.prog 58 #[.pointer B,.slice A1 l1.length c1,.int .i64 i] w fun e w'=>∃ aI aw:Value,e=.returned (.tuple #[aI,aw])∧Kd.R Kd.bool 4 w' w.heap.size (fun k_=>some k_≠(aw:Value).ownBlock) aI r1∧Kd.R Kd.bool 4 w' w.heap.size (fun k_=>some k_≠(aI:Value).ownBlock) aw r2∧Below w.heap.size w w':=by
 have D:=a_ G;have aY:=a_ E;clear G E;have HR1:=a_ bP;have be:=a_ bC;clear bP bC;have HB:=a_ (Below.refl w.heap.size w);have H:(if 0<(c.length:Int) then (if 0≤(((rd_T33 c 0).f1).length:Int) then (if ((((rd_T33 c 0).f1).length:Int):Int).toNat≤281474976710656 then ((some (List.replicate ((((rd_T33 c 0).f1).length:Int):Int).toNat false:List Bool)).bind fun o=>(if 0≤(((rd_T33 c 0).f0).length:Int) then (if ((((rd_T33 c 0).f0).length:Int):Int).toNat≤281474976710656 then (if 0≤i then (if i<(o.length:Int) then ((spec_l18All.f k (l1.length:Int)).bind fun A=>((spec_l18Spread.f k c l1 A (o.set (i:Int).toNat true) (List.replicate ((((rd_T33 c 0).f0).length:Int):Int).toNat false)).bind fun bt276=>(some (bt276.1,bt276.2)))) else (none)) else (none)) else (none)) else (none))) else (none)) else (none)) else (none))=some (r1,r2):=h;clear h;by_cases z:0<(c.length:Int)
 ·rw [if_pos z] at H;have ah:decide (0<(c.length:Int))=true:=d1_ z;have cd:decide (0<c.length)=true:=decide_eq_true t30_;clear z;by_cases x:0≤(((rd_T33 c 0).f1).length:Int)
  ·rw [if_pos x] at H;have ai:=eq_true x;have b9:decide (0≤(((rd_T33 c 0).f1).length:Int))=true:=d1_ x;clear x;by_cases c6:((((rd_T33 c 0).f1).length:Int):Int).toNat≤281474976710656
   ·rw [if_pos c6] at H;have ce:=eq_true c6;have cf:decide (((((rd_T33 c 0).f1).length:Int):Int).toNat≤281474976710656)=true:=d1_ c6;clear c6;obtain ⟨o,aQ⟩:∃ y_:List Bool,y_=(List.replicate ((((rd_T33 c 0).f1).length:Int):Int).toNat false):=⟨_,rfl⟩;replace H:(if 0≤(((rd_T33 c 0).f0).length:Int) then (if ((((rd_T33 c 0).f0).length:Int):Int).toNat≤281474976710656 then (if 0≤i then (if i<(o.length:Int) then ((spec_l18All.f k (l1.length:Int)).bind fun A=>((spec_l18Spread.f k c l1 A (o.set (i:Int).toNat true) (List.replicate ((((rd_T33 c 0).f0).length:Int):Int).toNat false)).bind fun bt276=>(some (bt276.1,bt276.2)))) else (none)) else (none)) else (none)) else (none))=some (r1,r2):=(by first|(rw [aQ];with_reducible exact H)|(have H2_:=(Option.bind_some _ _).symm.trans H;rw [aQ];with_reducible exact H2_)|(have H2_:=(Option.bind_some _ _).symm.trans H;with_reducible exact H2_)|with_reducible exact H|(rw [aQ];exact H)|exact H);have b4:=a_ aQ;clear aQ;by_cases K:0≤(((rd_T33 c 0).f0).length:Int)
    ·rw [if_pos K] at H;have cg:=eq_true K;have ch:decide (0≤(((rd_T33 c 0).f0).length:Int))=true:=d1_ K;clear K;by_cases L:((((rd_T33 c 0).f0).length:Int):Int).toNat≤281474976710656
     ·rw [if_pos L] at H;have ci:=eq_true L;have cj:decide (((((rd_T33 c 0).f0).length:Int):Int).toNat≤281474976710656)=true:=d1_ L;clear L;obtain ⟨aA,aR⟩:∃ y_:List Bool,y_=(List.replicate ((((rd_T33 c 0).f0).length:Int):Int).toNat false):=⟨_,rfl⟩;replace H:(if 0≤i then (if i<(o.length:Int) then ((spec_l18All.f k (l1.length:Int)).bind fun A=>((spec_l18Spread.f k c l1 A (o.set (i:Int).toNat true) aA).bind fun bt276=>(some (bt276.1,bt276.2)))) else (none)) else (none))=some (r1,r2):=(by first|(rw [aR];with_reducible exact H)|(have H2_:=(Option.bind_some _ _).symm.trans H;rw [aR];with_reducible exact H2_)|(have H2_:=(Option.bind_some _ _).symm.trans H;with_reducible exact H2_)|with_reducible exact H|(rw [aR];exact H)|exact H);have b5:=a_ aR;clear aR;by_cases c9:0≤i
      ·rw [if_pos c9] at H;have ck:decide (0≤i)=true:=d1_ c9;clear c9;by_cases aa:i<(o.length:Int)
       ·rw [if_pos aa] at H;have cV:decide (i<(o.length:Int))=true:=d1_ aa;clear aa;obtain ⟨ay,aT⟩:∃ y_:List Bool,y_=(o.set (i:Int).toNat true):=⟨_,rfl⟩;replace H:((spec_l18All.f k (l1.length:Int)).bind fun A=>((spec_l18Spread.f k c l1 A ay aA).bind fun bt276=>(some (bt276.1,bt276.2))))=some (r1,r2):=(by first|(rw [aT];with_reducible exact H)|(have H2_:=(Option.bind_some _ _).symm.trans H;rw [aT];with_reducible exact H2_)|(have H2_:=(Option.bind_some _ _).symm.trans H;with_reducible exact H2_)|with_reducible exact H|(rw [aT];exact H)|exact H);have bh:=a_ aT;clear aT;replace H:=be_ H;obtain ⟨A,az,H⟩:=H;have bZ:=a_ az;clear az;replace H:=be_ H;obtain ⟨⟨bS,bT⟩,b0,H⟩:=H;replace H:(some (bS,bT))=some (r1,r2):=H;have ba:=a_ b0;clear b0;simp only [Option.some.injEq,Prod.mk.injEq] at H;obtain ⟨rfl,rfl⟩:=H;have an:0≤(0:Int):=t30_;have ar:0<(c.length:Int):=od_;obtain ⟨b7,cC,cW,cD,cX,bn,bs,bu,bJ,bD,bK,bE⟩:=at_T33 D.out 0 an ar;cases bn;have cr:(0<c.length)=True:=eq_true t30_;(try rw [za_] at bs);(try rw [za_] at bu);have cO:=a_ bD;have cI:=a_ bJ;clear bD bJ;have cP:=a_ bE;have cJ:=a_ bK;clear bE bK;replace an:=eq_true an;replace ar:=eq_true ar;go_enter Try.func58,Try.ntmps58;go_wp2_with (first|((with_reducible refine gate_dst (N:=15) rfl ?_);refine Kd.R_make Kd.bool _ 4 rfl (N:=15) rfl 80 _ _ rfl (((rd_T33 c 0).f1).length:Int) rfl rfl Try.underlying80 (.bool false) 1 info4 rfl t35_ t30_ false (ok:=fun _=>True) (okp:=fun _=>True) rfl (fun _ hk=>hk) trivial (od_) (Nat.le_trans (Nat.mul_le_mul_right _ (od_:(((rd_T33 c 0).f1).length:Int).toNat≤281474976710656)) t30_) (Below.refl _ _) (Nat.le_refl _) ?_;intro d6 dA aM hb hg_ hnew_;clear hg_ hnew_;(first|rw [← b4.out] at aM|(simp only [Int.reduceToNat] at aM;rw [← b4.out] at aM));have q:=a_ (Kd.R_lower aM (below_size t1_));have s:=a_ (below_step t1_ hb);clear HB;have j:=q;have HB:=s;clear q s;clear hb aM;have ao:0≤(0:Int):=t30_;have au:0<(c.length:Int):=od_;obtain ⟨bj,cE,cY,cF,cZ,bo,aG,aH,bL,bF,bM,bG⟩:=at_T33 D.out 0 ao au;obtain rfl:b7=bj:=(by injection bo);have ct:(0<c.length)=True:=eq_true t30_;(try rw [show ((0:Int)).toNat=0 from rfl] at aG);(try rw [show 0 * 2=0 from rfl] at aG);(try rw [Addr.add_zero'] at aG);(try rw [show ((0:Int)).toNat=0 from rfl] at aH);(try rw [show 0 * 2=0 from rfl] at aH);(try rw [Addr.add_zero'] at aH);replace aG:=(HB.out.cell (World.block_lt_of_cell? w _ aG)).trans aG;replace aH:=(HB.out.cell (World.block_lt_of_cell? w _ aH)).trans aH;have cQ:=a_ bF;have cK:=a_ bL;clear bF bL;have cR:=a_ bG;have cL:=a_ bM;clear bG bM;replace ao:=eq_true ao;replace au:=eq_true au)|((with_reducible refine gate_dst (N:=21) rfl ?_);refine Kd.R_make Kd.bool _ 4 rfl (N:=21) rfl 80 _ _ rfl (((rd_T33 c 0).f0).length:Int) rfl rfl Try.underlying80 (.bool false) 1 info4 rfl t35_ t30_ false (ok:=fun _=>True) (okp:=fun _=>True) rfl (fun _ hk=>hk) trivial (od_) (Nat.le_trans (Nat.mul_le_mul_right _ (od_:(((rd_T33 c 0).f0).length:Int).toNat≤281474976710656)) t30_) (Below.refl _ _) (Nat.le_refl _) ?_;intro bU bV aE hb hg_ hnew_;clear hg_ hnew_;(first|rw [← b5.out] at aE|(simp only [Int.reduceToNat] at aE;rw [← b5.out] at aE));have q:=a_ (Kd.R_elder' (q2_ j.out) (Kd.R_base aE) hb);have s:=a_ (Kd.R_lower (Kd.R_new' aE (Kd.R_lt (q2_ j.out))) (below_size t1_));have I:=a_ (below_step t1_ hb);clear j;clear HB;have j:=q;have y:=s;have HB:=I;clear q s I;clear hb aE;have am:0≤(i:Int):=od_;have aq:(i:Int)<((o.length:Int):Int):=od_;obtain ⟨O,U,bA,bB,gl11,cl,b2⟩:=Kd.R_form j.out t30_;(first|cases bA|(injection bA with ea_ en_ ec_;(first|subst ea_|(injection ea_ with ea_;subst ea_));subst ec_;clear en_));have bd:=a_ bB;have GG11:=a_ b2;clear bB gl11 b2;obtain ⟨cn,cm⟩:=Kd.R_celln false j.out (i:Int) am aq;replace am:=eq_true am;replace aq:=eq_true aq;have n_:=a_ (Kd.R_mono (ok':=(fun k_=>some k_≠(bU:Value).ownBlock)) j.out (fun k_ hk=>hk.2));clear j;have j:=n_;clear n_;obtain ⟨co,cp⟩:=Kd.R_celln false j.out (i:Int) (od_) (od_);have ag:=Kd.R_putg j.out (i:Int) true)|((with_reducible refine gate_store (t:=4) (p:=24) rfl ?_);refine store_event (t:=4) (p:=24) (v:=?vo_w19) (w1:=(bV.setCell ⟨O,(i:Int).toNat,none⟩ (.bool true))) ?hg ?ho ?hn ?hr ?_;(case ho=>rfl);(case hg=>rfl);(case hn=>rfl);(case hr=>first|(go_simp;done)|(go_simp;rfl));intro ax hw;have hg:bV.grownBy ax (some O):=(by rw [hw];exact ag.2);have hp_:Kd.R Kd.bool 4 ax w.heap.size (fun k_=>some k_≠(bU:Value).ownBlock) (.slice (some ⟨O,0,none⟩) o.length U) ay:=(by rw [hw,bh.out];exact ag.1);clear ag;have q:=a_ (hp_);have s:=a_ (Kd.R_after (v:=(.slice (some ⟨O,0,none⟩) o.length U)) (v1:=(.slice (some ⟨O,0,none⟩) o.length U)) (ok:=(fun _=>True)) (q2_ y.out) hg (.inl rfl));have I:=a_ ((by rw [hw];exact below_set (HB.out) bd.out:Below w.heap.size w ax));clear j;clear y;clear HB;have j:=q;have y:=s;have HB:=I;clear q s I;clear hg hw hp_)|((with_reducible refine gate_callee (f:=74) rfl ?_);refine goesL_ (some 29) rfl rfl Try.func74 t14_ rfl #[.int .i64 (l1.length:Int)] rfl t2_ ?_;(with_reducible refine (spec_l18All.calls k (l1.length:Int) A _ bZ.out).mono ?_);rintro e dC ⟨d7,rfl,ac,hb⟩;refine ⟨_,rfl,?_⟩;have q:=a_ (Kd.R_elder' (q2_ j.out) (Kd.R_base ac) hb);have s:=a_ (Kd.R_elder' (q2_ y.out) (Kd.R_base ac) hb);have I:=a_ (Kd.R_lower (Kd.R_new' (Kd.R_new' ac (Kd.R_lt (q2_ j.out))) (Kd.R_lt (q2_ y.out))) (below_size t1_));have aW:=a_ (below_step t1_ hb);clear j;clear y;clear HB;have j:=q;have y:=s;have aC:=I;have HB:=aW;clear q s I aW;(try clear hb);(try clear hb2);(try clear hk);(try clear hi);(try clear ac);obtain ⟨bc,bm,bq⟩:=Kd.R_slice aC.out;subst bq;obtain ⟨Ao22,co22,br⟩:=Kd.R_slice y.out;subst br)|((with_reducible refine gate_callee (f:=66) rfl ?_);refine goesL_ (some 32) rfl rfl Try.func66 t14_ rfl #[.pointer (some b7),.slice A1 l1.length c1,.slice bc A.length bm,.slice (some ⟨O,0,none⟩) o.length U,.slice Ao22 aA.length co22] rfl t2_ ?_;(with_reducible refine (spec_l18Spread.calls k _ J c _ _ l1 _ _ A (fun k_=>some k_=(.slice (some ⟨O,0,none⟩) o.length U:Value).ownBlock) (.slice (some ⟨O,0,none⟩) o.length U) ay (fun k_=>some k_=(.slice Ao22 aA.length co22:Value).ownBlock) (.slice Ao22 aA.length co22) aA bS bT w _ ?cv ?cy ?cz ?d0 ?d1 ?d2 ?d3 ?d4 ?d5 ?cw ?cx ba.out).mono ?_);(case cv=>repeat (first|(with_reducible first|exact HB.out|apply below_alloc|apply pw_below_drewN|apply below_drew1)|exact HB.out));(case cy=>exact Kd.C_kept_came k33_heap D.out t1_ (fun k_ hs_=>Or.elim hs_ (fun e_=>(fun e_=>Kd.R_base j.out k_ e_.symm) e_) (fun e_=>(fun e_=>Kd.R_base y.out k_ e_.symm) e_)));(case cz=>exact aY.out);(case d0=>exact Kd.C_kept_came k51_heap HR1.out t1_ (fun k_ hs_=>Or.elim hs_ (fun e_=>(fun e_=>Kd.R_base j.out k_ e_.symm) e_) (fun e_=>(fun e_=>Kd.R_base y.out k_ e_.symm) e_)));(case d1=>exact be.out);(case d2=>exact Kd.C_kept_own (aC.out) (fun k_ hk_ hs_=>Or.elim hs_ (fun e_=>(hk_.1.2) e_) (fun e_=>(hk_.2) e_)));(case d3=>exact (Kd.R_reads' aC.out).2.1);(case d4=>exact Kd.R_tight rfl j.out);(case d5=>exact fun k_ e_=>(j.out.1 k_ e_.symm).1);(case cw=>exact Kd.R_tight rfl y.out);(case cx=>exact fun k_ e_=>(y.out.1 k_ e_.symm).1.2);rintro e dD ⟨rfl,bQ,bR,hb,hkp⟩;refine ⟨_,rfl,?_⟩;have q:=a_ (Kd.R_reok rfl bQ (fun k_ e_=>j.out.1 k_ e_));have s:=a_ (Kd.R_reok rfl bR (fun k_ e_=>y.out.1 k_ e_));have I:=a_ (Kd.R_mono (ok':=fun k_=>some k_≠(.slice (some ⟨O,0,none⟩) o.length U:Value).ownBlock∧some k_≠(.slice Ao22 aA.length co22:Value).ownBlock) (Kd.R_keptB (aC.out) hkp (fun k_ hk_ hs_=>Or.elim hs_ (fun e_=>(hk_.1.2) e_) (fun e_=>(hk_.2) e_))) (fun k_ hk_=>⟨hk_.1.1.2,hk_.1.2⟩));have aW:=a_ (hb);clear j;clear y;clear aC;clear HB;have j:=q;have y:=s;have aC:=I;have HB:=aW;clear q s I aW;(try clear hb);(try clear hkp);(try clear bQ);(try clear bR)));go_ret2;exact ⟨_,_,t34_,(by (with_reducible repeat (first|apply Kd.R_alloc|apply Kd.R_drewN|apply Kd.R_drew));exact Kd.R_mono j.out (fun _ hk=>hk.1)),(by (with_reducible repeat (first|apply Kd.R_alloc|apply Kd.R_drewN|apply Kd.R_drew));exact Kd.R_mono y.out (fun _ hk=>hk.1.2)),t1_⟩
       ·rw [if_neg aa] at H;exact absurd H t56_
      ·rw [if_neg c9] at H;exact absurd H t56_
     ·rw [if_neg L] at H;exact absurd H t56_
    ·rw [if_neg K] at H;exact absurd H t56_
   ·rw [if_neg c6] at H;exact absurd H t56_
  ·rw [if_neg x] at H;exact absurd H t56_
 ·rw [if_neg z] at H;exact absurd H t56_

def spec_l18Indices.l0:Nat→List Bool→List Int→Int→Option (List Int)
 |0,_,_,_=>none
 |k+1,T,x3,x4=>if x4<(T.length:Int) then (if 0≤x4 then (if rdOf false T x4=true then (if x3.length<17592186044416 then (spec_l18Indices.l0 k T (x3++[x4]) (wrap64 (x4+1))) else (none)) else (spec_l18Indices.l0 k T x3 (wrap64 (x4+1)))) else (none)) else (some x3)
def spec_l18Indices.f (k:Nat) (c:List Bool):Option (List Int):=spec_l18Indices.l0 k c (([]:List Int)) 0
theorem spec_l18Indices.mono_l:∀ k,(∀ y0 y1 y2,LeO (spec_l18Indices.l0 k y0 y1 y2) (spec_l18Indices.l0 (k+1) y0 y1 y2))
 |0=>fun _ _ _ r h=>by simp [spec_l18Indices.l0] at h
 |k+1=>by
  have X:=spec_l18Indices.mono_l k
  ·intro y0 y1 y2
   unfold spec_l18Indices.l0
   with_reducible repeat' first|exact X _ _ _|exact LeO.refl _|exact LeO.none _|refine LeO.ite ?_ ?_|refine LeO.bind ?_ (fun _=>?_)
theorem spec_l18Indices.mono:∀ g k,LeO (spec_l18Indices.f k g) (spec_l18Indices.f (k+1) g):=by
 intro g k;have X:=spec_l18Indices.mono_l k;unfold spec_l18Indices.f
 with_reducible repeat' first|exact X _ _ _|exact LeO.refl _|exact LeO.none _|refine LeO.ite ?_ ?_|refine LeO.bind ?_ (fun _=>?_)
theorem spec_l18Indices.calls (k:Nat) (B:Option Addr) (J:Nat) (c:List Bool) (r:List Int) (w:World) (G:Kd.C Kd.bool w B c.length c) (E:c.length≤J) (h:spec_l18Indices.f k c=some r):
  Calls Try.prog 59 #[.slice B c.length J] w fun e w'=>∃ aI:Value,e=.returned (aI)∧Kd.R (Kd.int .i64) 2 w' w.heap.size (fun _=>True) aI r∧Below w.heap.size w w':=by
 have D:=a_ G;have aY:=a_ E;clear G E;have HB:=a_ (Below.refl w.heap.size w);have H:(spec_l18Indices.l0 k c (([]:List Int)) 0)=some r:=h;clear h;obtain ⟨bX,aU⟩:∃ y_:List Int,y_=(([]:List Int)):=⟨_,rfl⟩;replace H:(spec_l18Indices.l0 k c bX 0)=some r:=(by first|(rw [aU];with_reducible exact H)|(have H2_:=(Option.bind_some _ _).symm.trans H;rw [aU];with_reducible exact H2_)|(have H2_:=(Option.bind_some _ _).symm.trans H;with_reducible exact H2_)|with_reducible exact H|(rw [aU];exact H)|exact H);have b6:=a_ aU;clear aU;have H':=a_ H;clear H;go_enter Try.func59,Try.ntmps59;go_wp2_with (first|((with_reducible refine gate_dst (N:=5) rfl ?_);refine Kd.R_lit (Kd.int .i64) _ 2 ?hg (N:=5) ?hd (xs:=([]:List Int)) (inner:=[]) (ok:=fun _=>True) (okp:=fun _=>True) ?hr ?hp (fun _ hk=>hk) trivial (Below.refl _ _) (Nat.le_refl _) t56_ ?_;(case hd=>rfl);(case hg=>rfl);(case hr=>first|(go_simp;done)|(go_simp;rfl));(case hp=>exact (Reps.none _ _));intro d8 w2 aN hb hg_ hnew_;clear hg_ hnew_;(first|rw [← b6.out] at aN|(simp only [Int.reduceToNat] at aN;rw [← b6.out] at aN));have q:=a_ (Kd.R_lower aN (below_size t1_));have s:=a_ (below_step t1_ hb);clear HB;have bf:=q;have HB:=s;clear q s;clear hb aN));go_loopg [3,4] k (fun kq v3 v4 w'=>∃ (M:List Int) (m:Int),v4=.int .i64 m∧Aside0 (spec_l18Indices.l0 kq c M m=some r)∧Aside0 (kq≤k)∧Aside0 (Kd.R (Kd.int .i64) 2 w' w.heap.size (fun _=>True) v3 M)∧Aside0 (Below w.heap.size w w'))
 case atStart=>exact ⟨(bX),(0),t5_,H',⟨Nat.le_refl _⟩,⟨(by (with_reducible repeat (first|apply Kd.R_alloc|apply Kd.R_drewN|apply Kd.R_drew));exact bf.out)⟩,⟨t1_⟩⟩
 case round=>
  clear H';(try clear p2);obtain ⟨M,m,rfl,HA,HK1,HO_3,HB⟩:=hrel;cases gk with
  |zero=>exact absurd HA.out (by simp [spec_l18Indices.l0])
  |succ k1=>
   have H:=HA.out;clear HA;simp only [spec_l18Indices.l0] at H;by_cases z:m<(c.length:Int)
   ·rw [if_pos z] at H;have ah:decide (m<(c.length:Int))=true:=d1_ z;clear z;by_cases x:0≤m
    ·rw [if_pos x] at H;have ai:decide (0≤m)=true:=d1_ x;clear x;obtain ⟨b8,hbq6⟩:∃ b_:Bool,b_=(rdOf false c m):=⟨_,rfl⟩;replace H:(if b8=true then (if M.length<17592186044416 then (spec_l18Indices.l0 k1 c (M++[m]) (wrap64 (m+1))) else (none)) else (spec_l18Indices.l0 k1 c M (wrap64 (m+1))))=some r:=(by rw [← hbq6] at H;exact H);have b3:=a_ hbq6;clear hbq6;by_cases K:b8=true
     ·subst K;replace H:=(if_pos rfl).symm.trans H;by_cases L:M.length<17592186044416
      ·rw [if_pos L] at H;have LMc8:=a_ L;clear L;obtain ⟨bY,aV⟩:∃ y_:List Int,y_=(M++[m]):=⟨_,rfl⟩;replace H:(spec_l18Indices.l0 k1 c bY (wrap64 (m+1)))=some r:=(by first|(rw [aV];with_reducible exact H)|(have H2_:=(Option.bind_some _ _).symm.trans H;rw [aV];with_reducible exact H2_)|(have H2_:=(Option.bind_some _ _).symm.trans H;with_reducible exact H2_)|with_reducible exact H|(rw [aV];exact H)|exact H);have bi:=a_ aV;clear aV;have H':=a_ H;clear H;have Y:0≤(m:Int):=od_;have a3:m<(c.length:Int):=od_;obtain ⟨bk,aj,W⟩:=Kd.at_bool D.out m Y a3;(try rw [← b3.out] at W);cases aj;replace W:=hb_ HB W;replace Y:=eq_true Y;replace a3:=eq_true a3;go_wp2_with (first|((with_reducible refine gate_builtin (b:=.append) (xs:=#[.tmp 16,.tmp 18]) rfl ?_);at_builtin;refine Kd.R_append (Kd.int .i64) (w0:=w) w.heap.size rfl (.tmp 16) (.tmp 18) 22 2 (.int .i64 0) 8 rfl Try.underlying22 info2 rfl t35_ t30_ u3 M m [.int .i64 m] (fun _=>True) (fun _=>False) rfl rfl ?aP (fun _ hk=>hk.elim) ?aF ?aO ?aB ?aS ?aL ?_;(case aP=>exact rfl);(case aB=>exact t1_);(case aF=>exact (fun _ _=>trivial));(case aO=>exact (q2_ HO_3.out));(case aS=>exact (below_size t1_));(case aL=>have:=LMc8.out;omega);intro d9 w9 ho hb hg hat;rw [← bi.out] at ho;have q:=a_ (hb);have s:=a_ (ho);clear HB;clear HO_3;have HB:=q;have bg:=s;clear q s;clear ho hb hg hat));go_roundg k1
       case measure=>have:=HK1.out;omega
       case rel=>exact ⟨(bY),(wrap64 (m+1)),t5_,H',⟨t55_⟩,⟨(by (with_reducible repeat (first|apply Kd.R_alloc|apply Kd.R_drewN|apply Kd.R_drew));exact bg.out)⟩,⟨t1_⟩⟩
      ·rw [if_neg L] at H;exact absurd H t56_
     ·replace K:=Bool.eq_false_iff.mpr K;subst K;replace H:=(if_neg (show ¬ (false=true) by decide)).symm.trans H;have H':=a_ H;clear H;have Y:0≤(m:Int):=od_;have a3:m<(c.length:Int):=od_;obtain ⟨bk,aj,W⟩:=Kd.at_bool D.out m Y a3;(try rw [← b3.out] at W);cases aj;replace W:=hb_ HB W;replace Y:=eq_true Y;replace a3:=eq_true a3;go_wp2;go_roundg k1
      case measure=>have:=HK1.out;omega
      case rel=>exact ⟨(M),(wrap64 (m+1)),t5_,H',⟨t55_⟩,⟨t38_⟩,⟨t1_⟩⟩
    ·rw [if_neg x] at H;exact absurd H t56_
   ·rw [if_neg z] at H;have ah:decide (m<(c.length:Int))=false:=d2_ z;clear z;obtain rfl:=Option.some.inj H;go_wp2;go_ret
    exact ⟨_,t34_,t38_,t1_⟩

def spec_l04Node.f (c:List (S33)) (d:Int):Option (Bool):=if 0<(c.length:Int) then ((spec_l00In.f d 0 (wrap64 ((((rd_T33 c 0).f0).length:Int) - 1))).bind fun aX=>(some aX)) else (none)
theorem spec_l04Node.calls (B:Option Addr) (J:Nat) (c:List (S33)) (d:Int) (r:Bool) (w:World) (G:Kd.C k33 w B c.length c) (E:c.length≤J) (h:spec_l04Node.f c d=some r):
  Calls Try.prog 65 #[.pointer B,.int .i64 d] w fun e w'=>e=.returned (.bool r)∧Drawn0 w w':=by
 have D:=a_ G;have aY:=a_ E;clear G E;have H:(if 0<(c.length:Int) then ((spec_l00In.f d 0 (wrap64 ((((rd_T33 c 0).f0).length:Int) - 1))).bind fun aX=>(some aX)) else (none))=some r:=h;clear h;by_cases l:0<(c.length:Int)
 ·rw [if_pos l] at H;have aD:decide (0<(c.length:Int))=true:=d1_ l;have cc:decide (0<c.length)=true:=decide_eq_true t30_;clear l;replace H:=be_ H;obtain ⟨aX,b1,H⟩:=H;have A4:=a_ b1;clear b1;obtain rfl:=Option.some.inj H;have ap:0≤(0:Int):=t30_;have av:0<(c.length:Int):=od_;obtain ⟨cU,cG,ca,cH,cb,bp,bv,bw,bN,bH,bO,bI⟩:=at_T33 D.out 0 ap av;cases bp;have cu:(0<c.length)=True:=eq_true t30_;(try rw [za_] at bv);(try rw [za_] at bw);have cS:=a_ bH;have cM:=a_ bN;clear bH bN;have cT:=a_ bI;have cN:=a_ bO;clear bI bO;replace ap:=eq_true ap;replace av:=eq_true av;go_enter Try.func65,Try.ntmps65;go_wp2_with (first|((with_reducible refine gate_callee (f:=98) rfl ?_);refine goesL_ (some 12) rfl rfl Try.func98 t14_ rfl #[.int .i64 d,.int .i64 0,.int .i64 (wrap64 ((((rd_T33 c 0).f0).length:Int) - 1))] rfl t2_ ?_;(with_reducible refine (spec_l00In.calls d 0 (wrap64 ((((rd_T33 c 0).f0).length:Int) - 1)) aX _ A4.out).mono ?_);rintro e w' ⟨rfl,⟨nd,rfl⟩⟩;refine ⟨_,rfl,?_⟩));go_ret
  exact ⟨t5_,t12_⟩
 ·rw [if_neg l] at H;exact absurd H t56_

def spec_l00Has.l0:Nat→List Int→Int→Int→Option (Bool)
 |0,_,_,_=>none
 |k+1,T,x1,x5=>if x5<(T.length:Int) then (if 0≤x5 then (if (rd T x5)=x1 then (some true) else (spec_l00Has.l0 k T x1 (wrap64 (x5+1)))) else (none)) else (some false)
def spec_l00Has.f (k:Nat) (c:List Int) (d:Int):Option (Bool):=spec_l00Has.l0 k c d 0
theorem spec_l00Has.mono_l:∀ k,(∀ y0 y1 y2,LeO (spec_l00Has.l0 k y0 y1 y2) (spec_l00Has.l0 (k+1) y0 y1 y2))
 |0=>fun _ _ _ r h=>by simp [spec_l00Has.l0] at h
 |k+1=>by
  have X:=spec_l00Has.mono_l k
  ·intro y0 y1 y2
   unfold spec_l00Has.l0
   with_reducible repeat' first|exact X _ _ _|exact LeO.refl _|exact LeO.none _|refine LeO.ite ?_ ?_|refine LeO.bind ?_ (fun _=>?_)
theorem spec_l00Has.mono:∀ g d k,LeO (spec_l00Has.f k g d) (spec_l00Has.f (k+1) g d):=by
 intro g d k;have X:=spec_l00Has.mono_l k;unfold spec_l00Has.f
 with_reducible repeat' first|exact X _ _ _|exact LeO.refl _|exact LeO.none _|refine LeO.ite ?_ ?_|refine LeO.bind ?_ (fun _=>?_)
theorem spec_l00Has.calls (k:Nat) (B:Option Addr) (J:Nat) (c:List Int) (d:Int) (r:Bool) (w:World) (G:Kd.C (Kd.int .i64) w B c.length c) (E:c.length≤J) (h:spec_l00Has.f k c d=some r):
  Calls Try.prog 111 #[.slice B c.length J,.int .i64 d] w fun e w'=>e=.returned (.bool r)∧Drawn0 w w':=by
 have D:=a_ G;have aY:=a_ E;clear G E;have H:(spec_l00Has.l0 k c d 0)=some r:=h;clear h;have H':=a_ H;clear H;go_enter Try.func111,Try.ntmps111;go_wp2;go_loopg [5] k (fun kq v5 w'=>∃ (u:Int),v5=.int .i64 u∧Aside0 (spec_l00Has.l0 kq c d u=some r)∧Aside0 (kq≤k)∧Drawn0 w w')
 case atStart=>exact ⟨(0),t5_,H',⟨Nat.le_refl _⟩,t12_⟩
 case round=>
  clear H';(try clear c1);(try clear p2);obtain ⟨u,rfl,HA,HK1,⟨m1,rfl⟩⟩:=hrel;cases gk with
  |zero=>exact absurd HA.out (by simp [spec_l00Has.l0])
  |succ k1=>
   have H:=HA.out;clear HA;simp only [spec_l00Has.l0] at H;by_cases l:u<(c.length:Int)
   ·rw [if_pos l] at H;have aD:decide (u<(c.length:Int))=true:=d1_ l;clear l;by_cases z:0≤u
    ·rw [if_pos z] at H;have ah:decide (0≤u)=true:=d1_ z;clear z;by_cases x:(rd c u)=d
     ·rw [if_pos x] at H;have ai:((rd c u)==d)=true:=b1_ x;have b9:((rd c u)!=d)=false:=b4_ x;clear x;obtain rfl:=Option.some.inj H;have Z:0≤(u:Int):=od_;have a4:u<(c.length:Int):=od_;obtain ⟨bl,ak,bx⟩:=Kd.at_int D.out u Z a4;cases ak;replace Z:=eq_true Z;replace a4:=eq_true a4;go_wp2;go_ret
      exact ⟨t5_,t12_⟩
     ·rw [if_neg x] at H;have ai:((rd c u)==d)=false:=b2_ x;have b9:((rd c u)!=d)=true:=b3_ x;have H':=a_ H;clear H;have Z:0≤(u:Int):=od_;have a4:u<(c.length:Int):=od_;obtain ⟨bl,ak,bx⟩:=Kd.at_int D.out u Z a4;cases ak;replace Z:=eq_true Z;replace a4:=eq_true a4;go_wp2;go_roundg k1
      case measure=>have:=HK1.out;omega
      case rel=>exact ⟨(wrap64 (u+1)),t5_,H',⟨t55_⟩,t12_⟩
    ·rw [if_neg z] at H;exact absurd H t56_
   ·rw [if_neg l] at H;have aD:decide (u<(c.length:Int))=false:=d2_ l;clear l;obtain rfl:=Option.some.inj H;go_wp2;go_ret
    exact ⟨t5_,t12_⟩

def spec_l00Min.f (g:Int) (d:Int):Option (Int):=if g<d then (some g) else (some d)
theorem spec_l00Min.calls (g:Int) (d:Int) (r:Int) (w:World) (h:spec_l00Min.f g d=some r):
  Calls Try.prog 112 #[.int .i64 g,.int .i64 d] w fun e w'=>e=.returned (.int .i64 r)∧Drawn0 w w':=by
 have H:(if g<d then (some g) else (some d))=some r:=h;clear h;by_cases l:g<d
 ·rw [if_pos l] at H;have aD:decide (g<d)=true:=d1_ l;clear l;obtain rfl:=Option.some.inj H;go_enter Try.func112,Try.ntmps112;go_wp2;go_ret
  exact ⟨t5_,t12_⟩
 ·rw [if_neg l] at H;have aD:decide (g<d)=false:=d2_ l;clear l;obtain rfl:=Option.some.inj H;go_enter Try.func112,Try.ntmps112;go_wp2;go_ret
  exact ⟨t5_,t12_⟩

def spec_l00Max.f (g:Int) (d:Int):Option (Int):=if g > d then (some g) else (some d)
theorem spec_l00Max.calls (g:Int) (d:Int) (r:Int) (w:World) (h:spec_l00Max.f g d=some r):
  Calls Try.prog 113 #[.int .i64 g,.int .i64 d] w fun e w'=>e=.returned (.int .i64 r)∧Drawn0 w w':=by
 have H:(if g > d then (some g) else (some d))=some r:=h;clear h;by_cases l:g > d
 ·rw [if_pos l] at H;have aD:decide (d<g)=true:=d1_ l;clear l;obtain rfl:=Option.some.inj H;go_enter Try.func113,Try.ntmps113;go_wp2;go_ret
  exact ⟨t5_,t12_⟩
 ·rw [if_neg l] at H;have aD:decide (d<g)=false:=d2_ l;clear l;obtain rfl:=Option.some.inj H;go_enter Try.func113,Try.ntmps113;go_wp2;go_ret
  exact ⟨t5_,t12_⟩

end Go.Proofs.Ytheokilgacmlmaa.PFnExactCutNodes
