-- written by wip/xprint.py, a program of this session, for this claim; not trusted: Lean checks it.
import Derived.Lib.AppendZerosOnto
import Derived.Lib.SliceRun
import Derived.Test.YtjelfhmgbhidnaaPFnExactKeepsServedx0
import Derived.Test.YtjelfhmgbhidnaaPFnExactKeepsServedx11
import Derived.Test.YtjelfhmgbhidnaaPFnExactKeepsServedx12
namespace Go.Proofs.Ytjelfhmgbhidnaa.PFnExactKeepsServed
open Go.RowKit Go.Proofs.YtjelfhmgbhidnaaW.PrintWords Go.Proofs.YtjelfhmgbhidnaaW.PrintLast Go.Proofs.YtjelfhmgbhidnaaW.PrintMore
attribute [local go_sem] leq_less_ max2_int min2_int max_two min_two max_three min_three max_four min_four   -- for this text's walks alone
set_option linter.unusedVariables false
set_option linter.unusedSimpArgs false
set_option maxHeartbeats 8000000
set_option maxRecDepth 100000
def impl_Network_served.l0:Nat→List Int→List Int→List Int→Int→Int→List Int→List (S80)→Option (List Int)
 |0,_,_,_,_,_,_,_=>none
 |k+1,x2,x7,aQ,a5,an,bs,bu=>if an<a5 then (if 0≤an then (if an<(aQ.length:Int) then ((impl_Network_reached.f k bs bu (rd aQ an) x2).bind fun a7=>(if x7.length+a7.length<17592186044416 then (impl_Network_served.l0 k x2 (x7++a7) aQ a5 (wrap64 (an+1)) bs bu) else (none))) else (none)) else (none)) else ((slices_Sort_int64_int64.f x7).bind fun ay=>((slices_Compact_int64_int64.f ay).bind fun bH=>(some bH)))
def impl_Network_served.f (k:Nat) (B:List Int) (l0_1:List (S80)) (d:List Int) (O:List Int):Option (List Int):=impl_Network_served.l0 k O ([]:List Int) d (d.length:Int) 0 B l0_1
theorem impl_Network_served.mono_l:∀ k,(∀ I J K L y4 y5 y6,LeO (impl_Network_served.l0 k I J K L y4 y5 y6) (impl_Network_served.l0 (k+1) I J K L y4 y5 y6))
 |0=>fun _ _ _ _ _ _ _ r h=>by simp [impl_Network_served.l0] at h
 |k+1=>by
  have T:=impl_Network_served.mono_l k
  ·intro I J K L y4 y5 y6
   unfold impl_Network_served.l0
   with_reducible repeat' first|exact T _ _ _ _ _ _ _|exact impl_Network_reached.mono _ _ _ _ _|exact LeO.refl _|exact LeO.none _|refine LeO.ite ?_ ?_|refine LeO.bind ?_ (fun _=>?_)
theorem impl_Network_served.mono:∀ i j a2 a3 k,LeO (impl_Network_served.f k i j a2 a3) (impl_Network_served.f (k+1) i j a2 a3):=by
 intro i j a2 a3 k;have T:=impl_Network_served.mono_l k;unfold impl_Network_served.f
 with_reducible repeat' first|exact T _ _ _ _ _ _ _|exact impl_Network_reached.mono _ _ _ _ _|exact LeO.refl _|exact LeO.none _|refine LeO.ite ?_ ?_|refine LeO.bind ?_ (fun _=>?_)
theorem impl_Network_served.calls (k:Nat) (aA:Option Addr) (aD:Nat) (B:List Int) (aC:Option Addr) (aE:Nat) (l0_1:List (S80)) (A1:Option Addr) (c1:Nat) (d:List Int) (A2:Option Addr) (M:Nat) (O:List Int) (r:List Int) (w:World) (bh:Kd.C (Kd.int .i64) w aA B.length B) (bW:B.length≤aD) (bi:Kd.C k80 w aC l0_1.length l0_1) (bX:l0_1.length≤aE) (ah:Kd.C (Kd.int .i64) w A1 d.length d) (af:d.length≤c1) (bk:Kd.C (Kd.int .i64) w A2 O.length O) (bZ:O.length≤M) (h:impl_Network_served.f k B l0_1 d O=some r):
  Calls Try.prog 67 #[.agg #[.slice aA B.length aD,.slice aC l0_1.length aE],.slice A1 d.length c1,.slice A2 O.length M] w fun e w'=>∃ a8:Value,e=.returned (a8)∧Kd.R (Kd.int .i64) 2 w' w.heap.size (fun _=>True) a8 r∧Below w.heap.size w w':=by
 have dC:=Try.underlying32;have HR0_0:=a_ bh;have cG:=a_ bW;clear bh bW;have HR0_1:=a_ bi;have cH:=a_ bX;clear bi bX;have b4:=a_ ah;have cI:=a_ af;clear ah af;have cP:=a_ bk;have cJ:=a_ bZ;clear bk bZ;have HB:=a_ (Below.refl w.heap.size w);have H:(impl_Network_served.l0 k O ([]:List Int) d (d.length:Int) 0 B l0_1)=some r:=h;clear h;have H':=a_ H;clear H;go_enter Try.func67,Try.ntmps67;go_wp2_with (first|((with_reducible refine gate_dst (N:=3) rfl ?_);refine box_event ?hg (N:=3) ?hd (cs:=#[.slice aA B.length aD,.slice aC l0_1.length aE]) (t:=32) ?hr ?_;(case hd=>rfl);(case hg=>rfl);(case hr=>first|(go_simp;done)|(go_simp;rfl));intro ad hg w4 hbox hb;have l:=a_ (below_step t1_ hb);have q:=a_ (hbox);have D:=a_ ((by rw [hg];exact (below_size t1_):w.heap.size≤ad));have a6:=a_ ((by rw [hg];exact (below_size t1_):w.heap.size≤ad));clear HB;have HB:=l;have s:=q;have co:=D;have GE323:=a6;clear l q D a6;clear hb hbox hg));go_loopg [7,12] k (fun kq v7 cf w'=>∃ (E:List Int) (A:Int),cf=.int .i64 A∧Aside0 (impl_Network_served.l0 kq O E d (d.length:Int) A B l0_1=some r)∧Aside0 (kq≤k)∧Aside0 (Kd.R (Kd.int .i64) 2 w' w.heap.size (fun _=>True) v7 E)∧Aside0 (w'.heap[ad]? =some (.cells #[(.slice aA B.length aD),(.slice aC l0_1.length aE)] 32 (0,0)))∧Aside0 (Below w.heap.size w w'))
 case atStart=>exact ⟨(([]:List Int)),(0),t8_,H',⟨Nat.le_refl _⟩,⟨(by first|exact Kd.R_nil _ _ _ _ _|exact Kd.N_nil _ _ _ _ _|exact Kd.V_nil _ _ _ _ _|exact Kd.Q_nil _ _ _ _ _|exact Kd.S_nil _ _ _ _ _)⟩,⟨(by (with_reducible repeat (first|refine blk_drewN ?_ _|refine blk_drew ?_|refine blk_alloc ?_ _));exact s.out)⟩,⟨t31_⟩⟩
 case round=>
  clear H';(try clear c1);(try clear M);(try clear p2);obtain ⟨E,A,rfl,HA,HK1,HO_7,s,HB⟩:=hrel;cases gk with
  |zero=>exact absurd HA.out (by simp [impl_Network_served.l0])
  |succ k1=>
   have H:=HA.out;clear HA;simp only [impl_Network_served.l0] at H;by_cases y:A<(d.length:Int)
   ·rw [if_pos y] at H;have au:decide (A<(d.length:Int))=true:=d1_ y;clear y;by_cases c6:0≤A
    ·rw [if_pos c6] at H;have d1:decide (0≤A)=true:=d1_ c6;clear c6;by_cases W:A<(d.length:Int)
     ·rw [if_pos W] at H;have d2:decide (A<(d.length:Int))=true:=d1_ W;clear W;replace H:=be_ H;obtain ⟨a7,bR,H⟩:=H;have A8:=a_ bR;clear bR;by_cases Z:E.length+a7.length<17592186044416
      ·rw [if_pos Z] at H;have LMc9:=a_ Z;clear Z;obtain ⟨bw,aj⟩:∃ y_:List Int,y_=(E++a7):=⟨_,rfl⟩;replace H:(impl_Network_served.l0 k1 O bw d (d.length:Int) (wrap64 (A+1)) B l0_1)=some r:=(by first|(rw [aj];with_reducible exact H)|(have H2_:=(Option.bind_some _ _).symm.trans H;rw [aj];with_reducible exact H2_)|(have H2_:=(Option.bind_some _ _).symm.trans H;with_reducible exact H2_)|with_reducible exact H|(rw [aj];exact H)|exact H);have cS:=a_ aj;clear aj;have H':=a_ H;clear H;have bB:0≤(A:Int):=od_;have bE:A<(d.length:Int):=od_;obtain ⟨ct,cY,bl⟩:=Kd.at_int b4.out A bB bE;cases cY;replace bl:=hb_ HB bl;replace bB:=eq_true bB;replace bE:=eq_true bE;have ⟨d7,d8,d9,dA⟩:=bc2_ s.out;go_wp2_with (first|((with_reducible refine gate_callee (f:=96) rfl ?_);refine goesL_ (some 20) rfl rfl Try.func96 t16_ rfl #[.agg #[.slice aA B.length aD,.slice aC l0_1.length aE],.int .i64 (rd d A),.slice A2 O.length M] rfl t2_ ?_;(with_reducible refine (impl_Network_reached.calls k1 _ _ B _ _ l0_1 (rd d A) _ _ O a7 _ ?Z1 ?Z2 ?Z3 ?Z4 ?Z5 ?Z6 A8.out).mono ?_);(case Z1=>exact qc_ (Kd.C_below HR0_0.out HB.out));(case Z2=>exact cG.out);(case Z3=>exact qc_ (Kd.C_below HR0_1.out HB.out));(case Z4=>exact cH.out);(case Z5=>exact qc_ (Kd.C_below cP.out HB.out));(case Z6=>exact cJ.out);rintro e dN ⟨dI,rfl,a4,hb⟩;refine ⟨_,rfl,?_⟩;have l:=a_ (Kd.R_elder' (q2_ HO_7.out) (Kd.R_base a4) hb);have q:=a_ (Kd.R_lower (Kd.R_new' a4 (Kd.R_lt (q2_ HO_7.out))) (below_size t31_));have D:=a_ (blk_below (g:=ad) (o:=.cells #[.slice aA B.length aD,.slice aC l0_1.length aE] 32 (0,0)) (q1_ s.out) hb);have a6:=a_ (below_step t31_ hb);clear HO_7;clear s;clear HB;have HO_7:=l;have aM:=q;have s:=D;have HB:=a6;clear l q D a6;(try clear hb);(try clear hb2);(try clear hk);(try clear hi);(try clear a4);obtain ⟨cE,cX,cc⟩:=Kd.R_slice aM.out;subst cc)|((with_reducible refine gate_builtin (b:=.append) (xs:=#[.tmp 16,.tmp 20]) rfl ?_);at_builtin;refine Kd.R_append_rows (Kd.int .i64) (w0:=w) w.heap.size rfl (.tmp 16) (.tmp 20) 22 2 (.int .i64 0) 8 rfl Try.underlying22 info2 rfl t35_ t23_ u7 E a7 _ _ _ (fun k_=>some k_≠(.slice cE a7.length cX:Value).ownBlock) (fun _=>False) rfl rfl ?aO ?aR (fun _ _ h=>h) (fun _ h=>h.elim) ?aF ?aB ?aS ?aL ?_;(case aR=>repeat (first|exact (Kd.R_reads' aM.out).2.2|(with_reducible refine Kd.C_alloc ?_ _)|(with_reducible refine Kd.C_drewN ?_ _)|(with_reducible refine Kd.C_drew ?_)));(case aB=>exact t31_);(case aF=>exact (fun k_ hk=>Kd.fresh' (Kd.R_lt (q2_ aM.out)) k_ hk));(case aO=>exact (by (with_reducible repeat (first|apply Kd.R_alloc|apply Kd.R_drewN|apply Kd.R_drew));exact Kd.R_mono HO_7.out (fun _ hk=>hk.2)));(case aS=>exact (below_size t31_));(case aL=>have:=LMc9.out;omega);intro dJ cl ho hb hg hat;rw [← cS.out] at ho;have l:=a_ (blk_grown (g:=ad) (o:=.cells #[.slice aA B.length aD,.slice aC l0_1.length aE] 32 (0,0)) (q1_ s.out) hg (Kd.R_ne HO_7.out s.out t35_));have q:=a_ (Kd.R_after (ok:=(fun _=>True)) (q2_ aM.out) hg hat);have D:=a_ (hb);have a6:=a_ (ho);clear s;clear aM;clear HB;clear HO_7;have s:=l;have aM:=q;have HB:=D;have cL:=a6;clear l q D a6;clear ho hb hg hat));go_roundg k1
       case measure=>have:=HK1.out;omega
       case rel=>exact ⟨(bw),(wrap64 (A+1)),t8_,H',⟨t50_⟩,⟨(by (with_reducible repeat (first|apply Kd.R_alloc|apply Kd.R_drewN|apply Kd.R_drew));exact Kd.R_mono cL.out (fun _ hk=>trivial))⟩,⟨(by (with_reducible repeat (first|refine blk_drewN ?_ _|refine blk_drew ?_|refine blk_alloc ?_ _));exact s.out)⟩,⟨t31_⟩⟩
      ·rw [if_neg Z] at H;exact absurd H t43_
     ·rw [if_neg W] at H;exact absurd H t43_
    ·rw [if_neg c6] at H;exact absurd H t43_
   ·rw [if_neg y] at H;have au:decide (A<(d.length:Int))=false:=d2_ y;clear y;replace H:=be_ H;obtain ⟨ay,bN,H⟩:=H;have bz:=a_ bN;clear bN;replace H:=be_ H;obtain ⟨bH,bO,H⟩:=H;have cA:=a_ bO;clear bO;obtain rfl:=Option.some.inj H;obtain ⟨aK,aP,cd⟩:=Kd.R_slice HO_7.out;subst cd;go_wp2_with (first|((with_reducible refine gate_callee (f:=97) rfl ?_);refine goesL_ (some 24) rfl rfl Try.func97 t16_ rfl #[.slice aK E.length aP] rfl t2_ ?_;(with_reducible refine (slices_Sort_int64_int64.calls (fun k_=>some k_=(.slice aK E.length aP:Value).ownBlock) (.slice aK E.length aP) E ay w _ ?Z1 ?Z2 bz.out).mono ?_);(case Z1=>repeat (first|(with_reducible first|exact HB.out|apply below_alloc|apply pw_below_drewN|apply below_drew1|refine below_set ?_ GE323.out)|exact HB.out));(case Z2=>exact Kd.R_tight rfl HO_7.out);rintro e dO ⟨rfl,bo,hb,hkp⟩;refine ⟨_,rfl,?_⟩;have l:=a_ (Kd.R_reok rfl bo (fun k_ e_=>HO_7.out.1 k_ e_));have q:=a_ (blk_kept (q1_ s.out) hkp (fun hs_=>(fun e_=>(Kd.R_ne HO_7.out s.out t35_) e_) hs_));have D:=a_ (hb);clear HO_7;clear s;clear HB;have HO_7:=l;have s:=q;have HB:=D;clear l q D;(try clear hb);(try clear hkp);(try clear bo))|((with_reducible refine gate_callee (f:=98) rfl ?_);refine goesL_ (some 26) rfl rfl Try.func98 t16_ rfl #[.slice aK E.length aP] rfl t2_ ?_;(with_reducible refine (slices_Compact_int64_int64.calls (fun k_=>some k_=(.slice aK E.length aP:Value).ownBlock) (.slice aK E.length aP) ay bH w _ ?Z1 ?Z2 cA.out).mono ?_);(case Z1=>repeat (first|(with_reducible first|exact HB.out|apply below_alloc|apply pw_below_drewN|apply below_drew1|refine below_set ?_ GE323.out)|exact HB.out));(case Z2=>exact Kd.R_tight rfl HO_7.out);rintro e dP ⟨dK,rfl,a4,hb,hkp⟩;refine ⟨_,rfl,?_⟩;have l:=a_ (blk_kept (q1_ s.out) hkp (fun hs_=>(fun e_=>(Kd.R_ne HO_7.out s.out t35_) e_) hs_));have q:=a_ (Kd.R_mono (ok':=fun k_=>True) a4 (fun k_ hk_=>trivial));have D:=a_ (hb);clear s;clear HB;clear HO_7;have s:=l;have cM:=q;have HB:=D;clear l q D;(try clear hb);(try clear hkp);(try clear a4)));go_ret
    exact ⟨_,t34_,(by (with_reducible repeat (first|apply Kd.R_alloc|apply Kd.R_drewN|apply Kd.R_drew));exact cM.out),t31_⟩

/-- slices.Grow of nil: room, and nothing in it. -/
def slices_Grow_int64_int64.f (c:List Int) (j:Int):Option (List Int):=if 0≤j∧j≤1048576000 then some [] else none
set_option maxHeartbeats 4000000 in
theorem slices_Grow_int64_int64.calls (j:Int) (r:List Int) (w:World) (h:slices_Grow_int64_int64.f [] j=some r):
    Calls Try.prog 100 #[.slice none 0 0,.int .i64 j] w fun e w'=>∃ a8:Value,e=.returned (a8)∧Kd.R (Kd.int .i64) 2 w' w.heap.size (fun _=>True) a8 r∧Below w.heap.size w w':=by
  unfold slices_Grow_int64_int64.f at h
  by_cases hcc:0≤j∧j≤1048576000
  · rw [if_pos hcc] at h
    obtain rfl:=Option.some.inj h;clear h;obtain ⟨m,rfl⟩:∃ m:Nat,j=(m:Int):=⟨j.toNat,t23_⟩;have dB:m≤1048576000:=(by omega);have h1:¬ ((m:Int)<0):=(by omega);have h3:wrap64 (m:Int)=(m:Int):=(by unfold wrap64;omega);clear hcc;by_cases hm:m=0
    · subst hm
      go_enter Try.func100,Try.ntmps100;go_wp2;go_ret
      exact ⟨_,rfl,Kd.R_nil _ _ _ _ _,Below.refl _ _⟩
    · have h4:(m:Int) > 0:=by omega
      obtain ⟨i0,ba,he⟩:=Option.map_eq_some_iff.1 info2;simp only [Prod.mk.injEq] at he;obtain ⟨hz,hsz,hby⟩:=he;have hrz:∀ ty,(Builtin.append_ #[22,3] ty #[.slice none 0 0,.int .i64 (m:Int)]).run Try.prog w=.ok (.slice (some ⟨w.heap.size,0,none⟩) (0+m) (grownCap w (0+m) 0 2)) (w.drew.alloc (.cells (([]:List Value).toArray++Builtin.zeroCells (Value.int .i64 0).cells m++Builtin.zeroCells (Value.int .i64 0).cells (grownCap w (0+m) 0 2 - (0+m))) 2)):=fun ty=>
        Lib.run_append_grow_zeros w 22 3 ty 2 i0 (.int .i64 0) .i64 .i64 Try.underlying22 Try.underlying3 ba hz none 0 0 [] (run_firstCells_none w.drew _ 0 0 0) m t23_ t23_ t23_ t23_ (by rw [hby];omega) (growslice_fits t23_ (by rw [hby];omega))
      have hGn:0+m≤grownCap w (0+m) 0 2:=grownCap_ge w _ _ _;have hGm:grownCap w (0+m) 0 2≤maxLen:=grownCap_le_maxLen w (0+m) 0 2 (by unfold maxLen;omega);generalize grownCap w (0+m) 0 2=G at hrz hGn hGm;have hG63:G≤9223372036854775807:=(by unfold maxLen at hGm;omega);rw [Nat.zero_add] at hrz hGn;clear ba hz hsz hby;generalize hX:(([]:List Value).toArray++Builtin.zeroCells (Value.int .i64 0).cells m++Builtin.zeroCells (Value.int .i64 0).cells (G - m))=X at hrz;have hXs:X.size=G:=(by rw [← hX];simp [Builtin.zeroCells,Value.cells];omega);have hfin:Kd.R (Kd.int .i64) 2 (w.drew.alloc (.cells X 2)) w.heap.size (fun _=>True) (.slice (some ⟨w.heap.size,0,none⟩) 0 G) []∧Below w.heap.size w (w.drew.alloc (.cells X 2)):=by
        refine ⟨Kd.R_of_own ?_ (fun _ _=>trivial),below_alloc (below_drew1 (Below.refl _ _)) _⟩;exact ⟨(by simp [encs]),Or.inr ⟨w.heap.size,G,X,rfl,Nat.le_refl _,(by show (w.heap.push _)[w.heap.size]? =_;exact Array.getElem?_push_size),Nat.zero_le _,hGm,t23_,(by simp [encs])⟩⟩
      clear hX hXs;rw [show w.drew.alloc (.cells X 2)=(w.alloc (.cells X 2)).drew from rfl] at hfin;go_enter Try.func100,Try.ntmps100;go_wp2_with (at_builtin;refine Lib.wpList_append_run _ rfl _ _ _ _ rfl _ _ rfl rfl _ _ (hrz _) ?_);all_goals (go_ret;exact ⟨_,rfl,hfin.1,hfin.2⟩)
  · rw [if_neg hcc] at h
    cases h

mutual
def slices_Concat_int64_int64.l0:Nat→List (List Int)→Int→List (List Int)→Int→Int→Option (List Int)
 |0,_,_,_,_,_=>none
 |k+1,x0,x3,x9,aQ,a5=>if a5<aQ then (if 0≤a5 then (if a5<(x9.length:Int) then (if (wrap64 (x3+((rd_L4 x9 a5).length:Int)))<0 then (none) else (slices_Concat_int64_int64.l0 k x0 (wrap64 (x3+((rd_L4 x9 a5).length:Int))) x9 aQ (wrap64 (a5+1)))) else (none)) else (none)) else ((slices_Grow_int64_int64.f ([]:List Int) x3).bind fun az=>(slices_Concat_int64_int64.l1 k az x0 (x0.length:Int) 0))
def slices_Concat_int64_int64.l1:Nat→List Int→List (List Int)→Int→Int→Option (List Int)
 |0,_,_,_,_=>none
 |k+1,x6,b0,br,aT=>if aT<br then (if 0≤aT then (if aT<(b0.length:Int) then (if x6.length+(rd_L4 b0 aT).length<17592186044416 then (slices_Concat_int64_int64.l1 k (x6++(rd_L4 b0 aT)) b0 br (wrap64 (aT+1))) else (none)) else (none)) else (none)) else (some x6)
end
def slices_Concat_int64_int64.f (k:Nat) (c:List (List Int)):Option (List Int):=slices_Concat_int64_int64.l0 k c 0 c (c.length:Int) 0
theorem slices_Concat_int64_int64.mono_l:∀ k,(∀ I J K L y4,LeO (slices_Concat_int64_int64.l0 k I J K L y4) (slices_Concat_int64_int64.l0 (k+1) I J K L y4))∧(∀ I J K L,LeO (slices_Concat_int64_int64.l1 k I J K L) (slices_Concat_int64_int64.l1 (k+1) I J K L))
 |0=>⟨fun _ _ _ _ _ r h=>by simp [slices_Concat_int64_int64.l0] at h,fun _ _ _ _ r h=>by simp [slices_Concat_int64_int64.l1] at h⟩
 |k+1=>by
  obtain ⟨T,bA⟩:=slices_Concat_int64_int64.mono_l k
  refine ⟨?_,?_⟩<;>intros<;>first|unfold slices_Concat_int64_int64.l0|unfold slices_Concat_int64_int64.l1
  all_goals
   with_reducible repeat' first|exact T _ _ _ _ _|exact bA _ _ _ _|exact LeO.refl _|exact LeO.none _|refine LeO.ite ?_ ?_|refine LeO.bind ?_ (fun _=>?_)
theorem slices_Concat_int64_int64.mono:∀ i k,LeO (slices_Concat_int64_int64.f k i) (slices_Concat_int64_int64.f (k+1) i):=by
 intro i k;obtain ⟨T,bA⟩:=slices_Concat_int64_int64.mono_l k;unfold slices_Concat_int64_int64.f
 with_reducible repeat' first|exact T _ _ _ _ _|exact bA _ _ _ _|exact LeO.refl _|exact LeO.none _|refine LeO.ite ?_ ?_|refine LeO.bind ?_ (fun _=>?_)
theorem slices_Concat_int64_int64.calls (k:Nat) (A0:Option Addr) (c0:Nat) (c:List (List Int)) (r:List Int) (w:World) (ag:Kd.C (Kd.slice 2 (Kd.int .i64)) w A0 c.length c) (ae:c.length≤c0) (h:slices_Concat_int64_int64.f k c=some r):
  Calls Try.prog 70 #[.slice A0 c.length c0] w fun e w'=>∃ a8:Value,e=.returned (a8)∧Kd.R (Kd.int .i64) 2 w' w.heap.size (fun _=>True) a8 r∧Below w.heap.size w w':=by
 have ab:=a_ ag;have cF:=a_ ae;clear ag ae;have HB:=a_ (Below.refl w.heap.size w);have H:(slices_Concat_int64_int64.l0 k c 0 c (c.length:Int) 0)=some r:=h;clear h;have H':=a_ H;clear H;go_enter Try.func70,Try.ntmps70;go_wp2;go_loopg [3,11] k (fun kq v3 ce w'=>∃ (a9:Int) (z:Int),v3=.int .i64 a9∧ce=.int .i64 z∧Aside0 (slices_Concat_int64_int64.l0 kq c a9 c (c.length:Int) z=some r)∧Aside0 (kq≤k)∧Aside0 (Below w.heap.size w w'))
 case atStart=>exact ⟨(0),(0),t8_,t8_,H',⟨Nat.le_refl _⟩,⟨t1_⟩⟩
 case round=>
  clear H';obtain ⟨a9,z,rfl,rfl,HA,HK1,HB⟩:=hrel;cases gk with
  |zero=>exact absurd HA.out (by simp [slices_Concat_int64_int64.l0])
  |succ k1=>
   have H:=HA.out;clear HA;simp only [slices_Concat_int64_int64.l0] at H;by_cases M:z<(c.length:Int)
   ·rw [if_pos M] at H;have bU:decide (z<(c.length:Int))=true:=d1_ M;clear M;by_cases x:0≤z
    ·rw [if_pos x] at H;have ar:decide (0≤z)=true:=d1_ x;clear x;by_cases U:z<(c.length:Int)
     ·rw [if_pos U] at H;have bV:decide (z<(c.length:Int))=true:=d1_ U;clear U;by_cases y:(wrap64 (a9+((rd_L4 c z).length:Int)))<0
      ·rw [if_pos y] at H;exact absurd H t43_
      ·rw [if_neg y] at H;have au:decide ((wrap64 (a9+((rd_L4 c z).length:Int)))<0)=false:=d2_ y;clear y;have H':=a_ H;clear H;have aw:0≤(z:Int):=od_;have ax:z<(c.length:Int):=od_;obtain ⟨cu,cm,cy,cZ,b9,be,bb⟩:=at_L4 ab.out z aw ax;cases cZ;replace b9:=hb_ HB b9;have cr:=a_ bb;have cp:=a_ be;clear bb be;replace aw:=eq_true aw;replace ax:=eq_true ax;go_wp2;go_roundg k1
       case measure=>have:=HK1.out;omega
       case rel=>exact ⟨(wrap64 (a9+((rd_L4 c z).length:Int))),(wrap64 (z+1)),t8_,t8_,H',⟨t50_⟩,⟨t1_⟩⟩
     ·rw [if_neg U] at H;exact absurd H t43_
    ·rw [if_neg x] at H;exact absurd H t43_
   ·rw [if_neg M] at H;have bU:decide (z<(c.length:Int))=false:=d2_ M;clear M;replace H:=be_ H;obtain ⟨az,aa,H⟩:=H;have A6:=a_ aa;clear aa;have H':=a_ H;clear H;go_wp2_with (first|((with_reducible refine gate_callee (f:=100) rfl ?_);refine goesL_ (some 24) rfl rfl Try.func100 t16_ rfl #[.slice none 0 0,.int .i64 a9] rfl t2_ ?_;(refine (slices_Grow_int64_int64.calls a9 az _ A6.out).mono ?_);rintro e w7 ⟨dL,rfl,a4,hb⟩;refine ⟨_,rfl,?_⟩;have l:=a_ (Kd.R_lower a4 (below_size t1_));have q:=a_ (below_step t1_ hb);clear HB;have cN:=l;have HB:=q;clear l q;(try clear hb);(try clear hb2);(try clear hk);(try clear hi);(try clear a4)));go_loopg [6,27] k1 (fun kq v6 cg w'=>∃ (aU:List Int) (v:Int),cg=.int .i64 v∧Aside0 (slices_Concat_int64_int64.l1 kq aU c (c.length:Int) v=some r)∧Aside0 (kq≤k1)∧Aside0 (Kd.R (Kd.int .i64) 2 w' w.heap.size (fun _=>True) v6 aU)∧Aside0 (Below w.heap.size w w'))
    case atStart=>exact ⟨(az),(0),t8_,H',⟨Nat.le_refl _⟩,⟨(by (with_reducible repeat (first|apply Kd.R_alloc|apply Kd.R_drewN|apply Kd.R_drew));exact cN.out)⟩,⟨t1_⟩⟩
    case round=>
     clear H';(try clear c1);(try clear M);(try clear bU);(try clear p2);(try clear x);(try clear ar);(try clear p3);(try clear q3);(try clear dD);(try clear U);(try clear bV);(try clear y);(try clear au);(try clear p6);(try clear W);(try clear b9);(try clear aw);(try clear ax);obtain ⟨aU,v,rfl,HA,HK2,b3,HB⟩:=hrel;cases gk with
     |zero=>exact absurd HA.out (by simp [slices_Concat_int64_int64.l1])
     |succ k2=>
      have H:=HA.out;clear HA;simp only [slices_Concat_int64_int64.l1] at H;by_cases c8:v<(c.length:Int)
      ·rw [if_pos c8] at H;have cW:decide (v<(c.length:Int))=true:=d1_ c8;clear c8;by_cases Z:0≤v
       ·rw [if_pos Z] at H;have d3:decide (0≤v)=true:=d1_ Z;clear Z;by_cases ap:v<(c.length:Int)
        ·rw [if_pos ap] at H;have cx:decide (v<(c.length:Int))=true:=d1_ ap;clear ap;by_cases aq:aU.length+(rd_L4 c v).length<17592186044416
         ·rw [if_pos aq] at H;have LMc11:=a_ aq;clear aq;obtain ⟨bx,ak⟩:∃ y_:List Int,y_=(aU++(rd_L4 c v)):=⟨_,rfl⟩;replace H:(slices_Concat_int64_int64.l1 k2 bx c (c.length:Int) (wrap64 (v+1)))=some r:=(by first|(rw [ak];with_reducible exact H)|(have H2_:=(Option.bind_some _ _).symm.trans H;rw [ak];with_reducible exact H2_)|(have H2_:=(Option.bind_some _ _).symm.trans H;with_reducible exact H2_)|with_reducible exact H|(rw [ak];exact H)|exact H);have cT:=a_ ak;clear ak;have H':=a_ H;clear H;have bC:0≤(v:Int):=od_;have bF:v<(c.length:Int):=od_;obtain ⟨cv,cn,cz,ca,bm,bf,bc⟩:=at_L4 ab.out v bC bF;cases ca;replace bm:=hb_ HB bm;have cQ:=a_ bc;have cq:=a_ bf;clear bc bf;replace bC:=eq_true bC;replace bF:=eq_true bF;go_wp2_with (first|((with_reducible refine gate_builtin (b:=.append) (xs:=#[.tmp 31,.tmp 32]) rfl ?_);at_builtin;refine Kd.R_append_rows (Kd.int .i64) (w0:=w) w.heap.size rfl (.tmp 31) (.tmp 32) 22 2 (.int .i64 0) 8 rfl Try.underlying22 info2 rfl t35_ t23_ u6 aU (rd_L4 c v) _ _ _ (fun _=>True) (fun _=>False) rfl rfl ?aO ?aR (fun _ _ h=>h) (fun _ h=>h.elim) ?aF ?aB ?aS ?aL ?_;(case aR=>repeat (first|exact (Kd.C_below cQ.out HB.out)|(with_reducible refine Kd.C_alloc ?_ _)|(with_reducible refine Kd.C_drewN ?_ _)|(with_reducible refine Kd.C_drew ?_)));(case aB=>exact t1_);(case aF=>exact (fun _ _=>trivial));(case aO=>exact (q2_ b3.out));(case aS=>exact (below_size t1_));(case aL=>have:=LMc11.out;omega);intro dM cl ho hb hg hat;rw [← cT.out] at ho;have l:=a_ (hb);have q:=a_ (ho);clear HB;clear b3;have HB:=l;have cO:=q;clear l q;clear ho hb hg hat));go_roundg k2
          case measure=>have:=HK1.out;have:=HK2.out;omega
          case rel=>exact ⟨(bx),(wrap64 (v+1)),t8_,H',⟨t86_⟩,⟨(by (with_reducible repeat (first|apply Kd.R_alloc|apply Kd.R_drewN|apply Kd.R_drew));exact cO.out)⟩,⟨t1_⟩⟩
         ·rw [if_neg aq] at H;exact absurd H t43_
        ·rw [if_neg ap] at H;exact absurd H t43_
       ·rw [if_neg Z] at H;exact absurd H t43_
      ·rw [if_neg c8] at H;have cW:decide (v<(c.length:Int))=false:=d2_ c8;clear c8;obtain rfl:=Option.some.inj H;go_wp2;go_ret
       exact ⟨_,t34_,(by (with_reducible repeat (first|apply Kd.R_alloc|apply Kd.R_drewN|apply Kd.R_drew));exact b3.out),t1_⟩

def impl_FirstLost_1.f (k:Nat) (i:Int) (d:List (List Int)):Option (Bool):=if 0<(d.length:Int) then ((slices_Contains_int64_int64.f k (rd_L4 d 0) i).bind fun am=>(some (!am))) else (none)
theorem impl_FirstLost_1.mono:∀ i j k,LeO (impl_FirstLost_1.f k i j) (impl_FirstLost_1.f (k+1) i j):=by
 intro i j k;unfold impl_FirstLost_1.f
 with_reducible repeat' first|exact slices_Contains_int64_int64.mono _ _ _|exact LeO.refl _|exact LeO.none _|refine LeO.ite ?_ ?_|refine LeO.bind ?_ (fun _=>?_)
theorem impl_FirstLost_1.calls (k:Nat) (i:Int) (A1:Option Addr) (c1:Nat) (d:List (List Int)) (r:Bool) (w:World) (ah:Kd.C (Kd.slice 2 (Kd.int .i64)) w A1 d.length d) (af:d.length≤c1) (h:impl_FirstLost_1.f k i d=some r):
  Calls Try.prog 72 #[.int .i64 i,.pointer A1] w fun e w'=>e=.returned (.bool r)∧Drawn0 w w':=by
 have b4:=a_ ah;have cI:=a_ af;clear ah af;have H:(if 0<(d.length:Int) then ((slices_Contains_int64_int64.f k (rd_L4 d 0) i).bind fun am=>(some (!am))) else (none))=some r:=h;clear h;by_cases x:0<(d.length:Int)
 ·rw [if_pos x] at H;have ar:decide (0<(d.length:Int))=true:=d1_ x;have d0:decide (0<d.length)=true:=decide_eq_true t23_;clear x;replace H:=be_ H;obtain ⟨am,bQ,H⟩:=H;have A4:=a_ bQ;clear bQ;obtain rfl:=Option.some.inj H;have bD:0≤(0:Int):=t23_;have bG:0<(d.length:Int):=od_;obtain ⟨cw,cB,cV,cb,bn,bg,bd⟩:=at_L4 b4.out 0 bD bG;cases cb;have dH:(0<d.length)=True:=eq_true t23_;(try rw [show ((0:Int)).toNat=0 from rfl] at bn);(try rw [Addr.add_zero'] at bn);have cR:=a_ bd;have cK:=a_ bg;clear bd bg;replace bD:=eq_true bD;replace bG:=eq_true bG;go_enter Try.func72,Try.ntmps72;go_wp2_with (first|((with_reducible refine gate_callee (f:=60) rfl ?_);refine goesL_ (some 6) rfl rfl Try.func60 t16_ rfl #[.slice cB (rd_L4 d 0).length cV,.int .i64 i] rfl t2_ ?_;(with_reducible refine (slices_Contains_int64_int64.calls k _ _ (rd_L4 d 0) i am _ ?Z1 ?Z2 A4.out).mono ?_);(case Z1=>exact qc_ cR.out);(case Z2=>exact cK.out);rintro e w' ⟨rfl,⟨nd,rfl⟩⟩;refine ⟨_,rfl,?_⟩));go_ret
  exact ⟨t8_,t14_⟩
 ·rw [if_neg x] at H;exact absurd H t43_

def slices_IndexFunc_int64_int64_c72.l0:Nat→List Int→Int→Int→List (List Int)→Option (Int)
 |0,_,_,_,_=>none
 |k+1,x0,x7,x8,bv=>if x8<x7 then (if 0≤x8 then (if x8<(x0.length:Int) then ((impl_FirstLost_1.f k (rd x0 x8) bv).bind fun bI=>(if bI=true then (some x8) else (slices_IndexFunc_int64_int64_c72.l0 k x0 x7 (wrap64 (x8+1)) bv))) else (none)) else (none)) else (some (-1))
def slices_IndexFunc_int64_int64_c72.f (k:Nat) (c:List Int) (Y:List (List Int)):Option (Int):=slices_IndexFunc_int64_int64_c72.l0 k c (c.length:Int) 0 Y
theorem slices_IndexFunc_int64_int64_c72.mono_l:∀ k,(∀ I J K L,LeO (slices_IndexFunc_int64_int64_c72.l0 k I J K L) (slices_IndexFunc_int64_int64_c72.l0 (k+1) I J K L))
 |0=>fun _ _ _ _ r h=>by simp [slices_IndexFunc_int64_int64_c72.l0] at h
 |k+1=>by
  have T:=slices_IndexFunc_int64_int64_c72.mono_l k
  ·intro I J K L
   unfold slices_IndexFunc_int64_int64_c72.l0
   with_reducible repeat' first|exact T _ _ _ _|exact impl_FirstLost_1.mono _ _ _|exact LeO.refl _|exact LeO.none _|refine LeO.ite ?_ ?_|refine LeO.bind ?_ (fun _=>?_)
theorem slices_IndexFunc_int64_int64_c72.mono:∀ i j k,LeO (slices_IndexFunc_int64_int64_c72.f k i j) (slices_IndexFunc_int64_int64_c72.f (k+1) i j):=by
 intro i j k;have T:=slices_IndexFunc_int64_int64_c72.mono_l k;unfold slices_IndexFunc_int64_int64_c72.f
 with_reducible repeat' first|exact T _ _ _ _|exact impl_FirstLost_1.mono _ _ _|exact LeO.refl _|exact LeO.none _|refine LeO.ite ?_ ?_|refine LeO.bind ?_ (fun _=>?_)
theorem slices_IndexFunc_int64_int64_c72.calls (k:Nat) (A0:Option Addr) (c0:Nat) (c:List Int) (bP:Option Addr) (b7:Nat) (Y:List (List Int)) (r:Int) (w:World) (ag:Kd.C (Kd.int .i64) w A0 c.length c) (ae:c.length≤c0) (bj:Kd.C (Kd.slice 2 (Kd.int .i64)) w bP Y.length Y) (bY:Y.length≤b7) (h:slices_IndexFunc_int64_int64_c72.f k c Y=some r):
  Calls Try.prog 71 #[.slice A0 c.length c0,.func (.func 72) #[] #[.pointer bP]] w fun e w'=>e=.returned (.int .i64 r)∧Below w.heap.size w w':=by
 have ab:=a_ ag;have cF:=a_ ae;clear ag ae;have bT:=a_ bj;have bS:=a_ bY;clear bj bY;have HB:=a_ (Below.refl w.heap.size w);have H:(slices_IndexFunc_int64_int64_c72.l0 k c (c.length:Int) 0 Y)=some r:=h;clear h;have H':=a_ H;clear H;go_enter Try.func71,Try.ntmps71;go_wp2;go_loopg [8] k (fun kq v8 w'=>∃ (u:Int),v8=.int .i64 u∧Aside0 (slices_IndexFunc_int64_int64_c72.l0 kq c (c.length:Int) u Y=some r)∧Aside0 (kq≤k)∧Aside0 (Below w.heap.size w w'))
 case atStart=>exact ⟨(0),t8_,H',⟨Nat.le_refl _⟩,⟨t1_⟩⟩
 case round=>
  clear H';(try clear c1);(try clear p2);obtain ⟨u,rfl,HA,HK1,HB⟩:=hrel;cases gk with
  |zero=>exact absurd HA.out (by simp [slices_IndexFunc_int64_int64_c72.l0])
  |succ k1=>
   have H:=HA.out;clear HA;simp only [slices_IndexFunc_int64_int64_c72.l0] at H;by_cases x:u<(c.length:Int)
   ·rw [if_pos x] at H;have ar:decide (u<(c.length:Int))=true:=d1_ x;clear x;by_cases U:0≤u
    ·rw [if_pos U] at H;have bV:decide (0≤u)=true:=d1_ U;clear U;by_cases y:u<(c.length:Int)
     ·rw [if_pos y] at H;have au:decide (u<(c.length:Int))=true:=d1_ y;clear y;replace H:=be_ H;obtain ⟨bI,aa,H⟩:=H;have A6:=a_ aa;clear aa;by_cases W:bI=true
      ·subst W;replace H:=(if_pos rfl).symm.trans H;obtain rfl:=Option.some.inj H;have aH:0≤(u:Int):=od_;have aI:u<(c.length:Int):=od_;obtain ⟨cU,b8,ai⟩:=Kd.at_int ab.out u aH aI;cases b8;replace ai:=hb_ HB ai;replace aH:=eq_true aH;replace aI:=eq_true aI;go_wp2_with (first|(go_at_call 72;(with_reducible refine (impl_FirstLost_1.calls k1 (rd c u) _ b7 Y true _ ?Z1 ?Z2 A6.out).mono ?_);(case Z1=>exact qc_ (Kd.C_below bT.out HB.out));(case Z2=>exact bS.out);rintro e w' ⟨rfl,⟨nd,rfl⟩⟩));go_ret
       exact ⟨t3_,t1_⟩
      ·replace W:=Bool.eq_false_iff.mpr W;subst W;replace H:=(if_neg (show ¬ (false=true) by decide)).symm.trans H;have H':=a_ H;clear H;have aH:0≤(u:Int):=od_;have aI:u<(c.length:Int):=od_;obtain ⟨cU,b8,ai⟩:=Kd.at_int ab.out u aH aI;cases b8;replace ai:=hb_ HB ai;replace aH:=eq_true aH;replace aI:=eq_true aI;go_wp2_with (first|(go_at_call 72;(with_reducible refine (impl_FirstLost_1.calls k1 (rd c u) _ b7 Y false _ ?Z1 ?Z2 A6.out).mono ?_);(case Z1=>exact qc_ (Kd.C_below bT.out HB.out));(case Z2=>exact bS.out);rintro e w' ⟨rfl,⟨nd,rfl⟩⟩));go_roundg k1
       case measure=>have:=HK1.out;omega
       case rel=>exact ⟨(wrap64 (u+1)),t8_,H',⟨t50_⟩,⟨t1_⟩⟩
     ·rw [if_neg y] at H;exact absurd H t43_
    ·rw [if_neg U] at H;exact absurd H t43_
   ·rw [if_neg x] at H;have ar:decide (u<(c.length:Int))=false:=d2_ x;clear x;obtain rfl:=Option.some.inj H;go_wp2;go_ret
    exact ⟨t3_,t1_⟩

end Go.Proofs.Ytjelfhmgbhidnaa.PFnExactKeepsServed
