-- written by wip/xprint.py, a program of this session, for this claim; not trusted: Lean checks it.
import Derived.Test.YtheokilgacmlmaaPFnExactBestPlacex0
import Derived.Test.YtheokilgacmlmaaPFnExactBestPlacex17
namespace Go.Proofs.Ytheokilgacmlmaa.PFnExactBestPlace
open Go.RowKit Go.Proofs.YtheokilgacmlmaaW.PrintWords Go.Proofs.YtheokilgacmlmaaW.PrintLast Go.Proofs.YtheokilgacmlmaaW.PrintMore
attribute [local go_sem] leq_less_ max2_int min2_int max_two min_two max_three min_three max_four min_four   -- for this text's walks alone
set_option linter.unusedVariables false
set_option linter.unusedSimpArgs false
set_option maxHeartbeats 8000000
set_option maxRecDepth 100000
def impl_worstRegion.l0:Nat→List (S51)→Int→Int→Int→Int→List Int→List (S100)→Option (Int × Int)
 |0,_,_,_,_,_,_,_=>none
 |k+1,x1,x6,x7,au,aY,av,aw=>if aY<au then ((impl_regionOf.f k av aw x1 aY).bind fun bt435=>(if (bt435.2.length:Int) > x7 then (impl_worstRegion.l0 k x1 aY (bt435.2.length:Int) au (wrap64 (aY+1)) av aw) else (impl_worstRegion.l0 k x1 x6 x7 au (wrap64 (aY+1)) av aw))) else (some (x6,x7))
def impl_worstRegion.f (k:Nat) (l:List Int) (l0_1:List (S100)) (l1:List (S51)):Option (Int × Int):=impl_worstRegion.l0 k l1 0 (-1) (l0_1.length:Int) 0 l l0_1
theorem impl_worstRegion.mono_l:∀ k,(∀ y0 y1 y2 y3 y4 y5 y6,LeO (impl_worstRegion.l0 k y0 y1 y2 y3 y4 y5 y6) (impl_worstRegion.l0 (k+1) y0 y1 y2 y3 y4 y5 y6))
 |0=>fun _ _ _ _ _ _ _ r h=>by simp [impl_worstRegion.l0] at h
 |k+1=>by
  have Z:=impl_worstRegion.mono_l k
  ·intro y0 y1 y2 y3 y4 y5 y6
   unfold impl_worstRegion.l0
   with_reducible repeat' first|exact Z _ _ _ _ _ _ _|exact impl_regionOf.mono _ _ _ _ _|exact LeO.refl _|exact LeO.none _|refine LeO.ite ?_ ?_|refine LeO.bind ?_ (fun _=>?_)
theorem impl_worstRegion.mono:∀ s u a2 k,LeO (impl_worstRegion.f k s u a2) (impl_worstRegion.f (k+1) s u a2):=by
 intro s u a2 k;have Z:=impl_worstRegion.mono_l k;unfold impl_worstRegion.f
 with_reducible repeat' first|exact Z _ _ _ _ _ _ _|exact impl_regionOf.mono _ _ _ _ _|exact LeO.refl _|exact LeO.none _|refine LeO.ite ?_ ?_|refine LeO.bind ?_ (fun _=>?_)
theorem impl_worstRegion.calls (k:Nat) (J:Option Addr) (L:Nat) (l:List Int) (K:Option Addr) (M:Nat) (l0_1:List (S100)) (Y:Option Addr) (O:Nat) (l1:List (S51)) (r1:Int) (r2:Int) (w:World) (bA:Kd.C (Kd.int .i64) w J l.length l) (b7:l.length≤L) (bB:Kd.C k100 w K l0_1.length l0_1) (b8:l0_1.length≤M) (aK:Kd.C k51 w Y l1.length l1) (aH:l1.length≤O) (h:impl_worstRegion.f k l l0_1 l1=some (r1,r2)):
  Calls Try.prog 55 #[.agg #[.slice J l.length L,.slice K l0_1.length M],.slice Y l1.length O] w fun e w'=>e=.returned (.tuple #[.int .i64 r1,.int .i64 r2])∧Below w.heap.size w w':=by
 have hfl0_:=impl_regionOf.fld0;have hfl1_:=impl_regionOf.fld1;have cG:=Try.underlying33;have cH:=Try.underlying86;have HR0_0:=a_ bA;have b2:=a_ b7;clear bA b7;have HR0_1:=a_ bB;have b3:=a_ b8;clear bB b8;have HR1:=a_ aK;have aj:=a_ aH;clear aK aH;have HB:=a_ (Below.refl w.heap.size w);have H:(impl_worstRegion.l0 k l1 0 (-1) (l0_1.length:Int) 0 l l0_1)=some (r1,r2):=h;clear h;have H':=a_ H;clear H;go_enter Try.func55,Try.ntmps55;go_wp2_with (first|((with_reducible refine gate_dst (N:=2) rfl ?_);refine box_event ?hg (N:=2) ?hd (cs:=#[.slice J l.length L,.slice K l0_1.length M]) (t:=33) ?hr ?_;(case hd=>rfl);(case hg=>rfl);(case hr=>first|(go_simp;done)|(go_simp;rfl));intro aG hg w3 hbox hb;have j:=a_ (below_step t1_ hb);have z:=a_ (hbox);have A:=a_ ((by rw [hg];exact (below_size t1_):w.heap.size≤aG));have B:=a_ ((by rw [hg];exact (below_size t1_):w.heap.size≤aG));clear HB;have HB:=j;have BK434:=z;have bn:=A;have GE434:=B;clear j z A B;clear hb hbox hg;have ⟨bT,bU,bV,bW⟩:=bc2_ BK434.out));go_loopg [6,7,13] k (fun kq v6 v7 bd w'=>∃ (aZ:Int) (I:Int) (q:Int),v6=.int .i64 aZ∧v7=.int .i64 I∧bd=.int .i64 q∧Aside0 (impl_worstRegion.l0 kq l1 aZ I (l0_1.length:Int) q l l0_1=some (r1,r2))∧Aside0 (kq≤k)∧Aside0 (w'.heap[aG]? =some (.cells #[(.slice J l.length L),(.slice K l0_1.length M)] 33 (0,0)))∧Aside0 (Below w.heap.size w w'))
 case atStart=>exact ⟨(0),((-1)),(0),t5_,t5_,t5_,H',⟨Nat.le_refl _⟩,⟨t149_⟩,⟨t38_⟩⟩
 case round=>
  clear H';(try clear O);(try clear p2);(try clear bT);(try clear bU);(try clear bV);(try clear bW);obtain ⟨aZ,I,q,rfl,rfl,rfl,HA,HK1,BK434,HB⟩:=hrel;cases gk with
  |zero=>exact absurd HA.out (by simp [impl_worstRegion.l0])
  |succ k1=>
   have H:=HA.out;clear HA;simp only [impl_worstRegion.l0] at H;by_cases x:q<(l0_1.length:Int)
   ·rw [if_pos x] at H;have b5:decide (q<(l0_1.length:Int))=true:=d1_ x;clear x;replace H:=be_ H;obtain ⟨⟨bE,W⟩,aF,H⟩:=H;replace H:(if (W.length:Int) > I then (impl_worstRegion.l0 k1 l1 q (W.length:Int) (l0_1.length:Int) (wrap64 (q+1)) l l0_1) else (impl_worstRegion.l0 k1 l1 aZ I (l0_1.length:Int) (wrap64 (q+1)) l l0_1))=some (r1,r2):=H;have A6:=a_ aF;clear aF;by_cases y:(W.length:Int) > I
    ·rw [if_pos y] at H;have bP:decide (I<(W.length:Int))=true:=d1_ y;clear y;have H':=a_ H;clear H;have ⟨c6,c8,cE,cF⟩:=bc2_ BK434.out;go_wp2_with (first|((with_reducible refine gate_callee (f:=61) rfl ?_);refine goesL_ (some 19) rfl rfl Try.func61 t14_ rfl #[.agg #[.slice J l.length L,.slice K l0_1.length M],.slice Y l1.length O,.int .i64 q] rfl t2_ ?_;(with_reducible refine (impl_regionOf.calls k1 _ _ l _ _ l0_1 _ _ l1 q bE W _ ?ah ?ai ?bC ?bD ?ba ?bb A6.out).mono ?_);(case ah=>exact qc_ (Kd.C_below HR0_0.out HB.out));(case ai=>exact b2.out);(case bC=>exact qc_ (Kd.C_below HR0_1.out HB.out));(case bD=>exact b3.out);(case ba=>exact qc_ (Kd.C_below HR1.out HB.out));(case bb=>exact aj.out);rintro e w9 ⟨be,bf,rfl,aJ,U,hb⟩;refine ⟨_,rfl,?_⟩;have j:=a_ (Kd.R_lower aJ (below_size t38_));have z:=a_ (Kd.R_lower U (below_size t38_));have A:=a_ (blk_below (g:=aG) (o:=.cells #[.slice J l.length L,.slice K l0_1.length M] 33 (0,0)) (q1_ BK434.out) hb);have B:=a_ (below_step t38_ hb);clear BK434;clear HB;have bN:=j;have ak:=z;have BK434:=A;have HB:=B;clear j z A B;(try clear hb);(try clear hb2);(try clear hk);(try clear hi);(try clear aJ);(try clear U);obtain ⟨bl,bs,bR⟩:=Kd.R_slice ak.out;subst bR));go_roundg k1
     case measure=>have:=HK1.out;omega
     case rel=>exact ⟨(q),((W.length:Int)),(wrap64 (q+1)),t5_,t5_,t5_,H',⟨t91_⟩,⟨t149_⟩,⟨t38_⟩⟩
    ·rw [if_neg y] at H;have bP:decide (I<(W.length:Int))=false:=d2_ y;clear y;have H':=a_ H;clear H;have ⟨bv,bw,c9,cA⟩:=bc2_ BK434.out;go_wp2_with (first|((with_reducible refine gate_callee (f:=61) rfl ?_);refine goesL_ (some 19) rfl rfl Try.func61 t14_ rfl #[.agg #[.slice J l.length L,.slice K l0_1.length M],.slice Y l1.length O,.int .i64 q] rfl t2_ ?_;(with_reducible refine (impl_regionOf.calls k1 _ _ l _ _ l0_1 _ _ l1 q bE W _ ?ah ?ai ?bC ?bD ?ba ?bb A6.out).mono ?_);(case ah=>exact qc_ (Kd.C_below HR0_0.out HB.out));(case ai=>exact b2.out);(case bC=>exact qc_ (Kd.C_below HR0_1.out HB.out));(case bD=>exact b3.out);(case ba=>exact qc_ (Kd.C_below HR1.out HB.out));(case bb=>exact aj.out);rintro e w12 ⟨be,bf,rfl,aJ,U,hb⟩;refine ⟨_,rfl,?_⟩;have j:=a_ (Kd.R_lower aJ (below_size t38_));have z:=a_ (Kd.R_lower U (below_size t38_));have A:=a_ (blk_below (g:=aG) (o:=.cells #[.slice J l.length L,.slice K l0_1.length M] 33 (0,0)) (q1_ BK434.out) hb);have B:=a_ (below_step t38_ hb);clear BK434;clear HB;have bN:=j;have ak:=z;have BK434:=A;have HB:=B;clear j z A B;(try clear hb);(try clear hb2);(try clear hk);(try clear hi);(try clear aJ);(try clear U);obtain ⟨bm,bu,bS⟩:=Kd.R_slice ak.out;subst bS));go_roundg k1
     case measure=>have:=HK1.out;omega
     case rel=>exact ⟨(aZ),(I),(wrap64 (q+1)),t5_,t5_,t5_,H',⟨t91_⟩,⟨t149_⟩,⟨t38_⟩⟩
   ·rw [if_neg x] at H;have b5:decide (q<(l0_1.length:Int))=false:=d2_ x;clear x;simp only [Option.some.injEq,Prod.mk.injEq] at H;obtain ⟨rfl,rfl⟩:=H;go_wp2;go_ret2;exact ⟨t3_,t38_⟩

def impl_BestPlace_1.f (aA:ByteArray) (ae:ByteArray) (af:Bool) (l1:List ByteArray):Option (Bool):=if 0<(l1.length:Int) then (some (aA.toList==(rdOf ByteArray.empty l1 0).toList)) else (none)
theorem impl_BestPlace_1.calls (aA:ByteArray) (ae:ByteArray) (af:Bool) (Y:Option Addr) (O:Nat) (l1:List ByteArray) (r:Bool) (w:World) (aK:Kd.C Kd.string w Y l1.length l1) (aH:l1.length≤O) (h:impl_BestPlace_1.f aA ae af l1=some r):
  Calls Try.prog 78 #[.agg #[.string aA,.string ae,.bool af],.pointer Y] w fun e w'=>e=.returned (.bool r)∧Below w.heap.size w w':=by
 have bY:=Try.underlying51;have HR1:=a_ aK;have aj:=a_ aH;clear aK aH;have HB:=a_ (Below.refl w.heap.size w);have H:(if 0<(l1.length:Int) then (some (aA.toList==(rdOf ByteArray.empty l1 0).toList)) else (none))=some r:=h;clear h;by_cases v:0<(l1.length:Int)
 ·rw [if_pos v] at H;have b4:decide (0<(l1.length:Int))=true:=d1_ v;have bq:decide (0<l1.length)=true:=decide_eq_true t33_;clear v;obtain rfl:=Option.some.inj H;go_enter Try.func78,Try.ntmps78;go_wp2_with (first|((with_reducible refine gate_dst (N:=2) rfl ?_);refine box_event ?hg (N:=2) ?hd (cs:=#[.string aA,.string ae,.bool af]) (t:=51) ?hr ?_;(case hd=>rfl);(case hg=>rfl);(case hr=>first|(go_simp;done)|(go_simp;rfl));intro b6 hg w4 hbox hb;have j:=a_ (below_step t1_ hb);have z:=a_ (hbox);have A:=a_ ((by rw [hg];exact (below_size t1_):w.heap.size≤b6));have B:=a_ ((by rw [hg];exact (below_size t1_):w.heap.size≤b6));clear HB;have HB:=j;have bJ:=z;have bo:=A;have bK:=B;clear j z A B;clear hb hbox hg;have ⟨bx,bz,c2,cB,cC,cD⟩:=bc3_ bJ.out;have ao:0≤(0:Int):=t33_;have ap:0<(l1.length:Int):=od_;obtain ⟨bp,bQ,aN⟩:=Kd.at_string HR1.out 0 ao ap;cases bQ;have cI:(0<l1.length)=True:=eq_true t33_;(try rw [show ((0:Int)).toNat=0 from rfl] at aN);(try rw [Addr.add_zero'] at aN);replace aN:=(HB.out.cell (World.block_lt_of_cell? w _ aN)).trans aN;replace ao:=eq_true ao;replace ap:=eq_true ap));go_ret
  exact ⟨t3_,(by repeat (first|(with_reducible first|exact HB.out|apply below_alloc|apply pw_below_drewN|apply below_drew1|refine below_set ?_ bK.out)|exact HB.out))⟩
 ·rw [if_neg v] at H;exact absurd H t90_

def impl_Valve_80.f (d:List (S51)):Option (List (S51)):=if d.length<3518437208883 then some d else none
set_option maxHeartbeats 2000000 in
theorem impl_Valve_80.calls (D:Option Addr) (G:Nat) (d:List (S51)) (r:List (S51)) (w:World) (E:Kd.C k51 w D d.length d) (T:d.length≤G) (h:impl_Valve_80.f d=some r):
    Calls Try.prog 80 #[.slice D d.length G] w fun e w'=>∃ bF:Value,e=.returned (bF)∧Kd.R k51 51 w' w.heap.size (fun _=>True) bF r∧Below w.heap.size w w':=by
  have heq:∀ (w:World) (a:Option Addr) (n c n' c':Nat),(binOp .eql 35 (.slice a n c) (.slice none n' c')).run Try.prog w=.ok (.bool a.isNone) w:=fun w a n c n' c'=>Lib.run_eql_slice_nil w _ _ a n c n' c' Try.underlying35;unfold impl_Valve_80.f at h
  by_cases hl:d.length<3518437208883
  · rw [if_pos hl] at h
    obtain rfl:=Option.some.inj h;clear h;rcases D with _|ad
    · have hn:d=[]:=by
        rcases Nat.eq_zero_or_pos d.length with h0|h0
        · exact List.eq_nil_of_length_eq_zero h0
        · obtain ⟨ad,e,_⟩:=E.2.2 h0
          cases e
      subst hn;clear E T hl;go_enter Try.func80,Try.ntmps80;go_wp2;go_ret
      exact ⟨_,rfl,Kd.R_nil _ _ _ _ _,Below.refl _ _⟩
    · have HR:=a_ E
      have HL:=a_ hl;clear E T hl;go_enter Try.func80,Try.ntmps80;go_wp2_with (first|((with_reducible refine gate_dst (N:=5) rfl ?_);refine Kd.R_lit k51 _ 51 ?hg (N:=5) ?hd (xs:=([]:List (S51))) (inner:=[]) (ok:=fun _=>True) (okp:=fun _=>True) ?hr ?hp (fun _ hk=>hk) trivial (Below.refl _ _) (Nat.le_refl _) t90_ ?_;(case hd=>rfl);(case hg=>rfl);(case hr=>first|(go_simp;done)|(go_simp;rfl));(case hp=>exact (Reps.none _ _));intro v1 w1 U hb1 hg1 bX;have bL:=a_ U;have HB1:=a_ hb1;clear U hb1 hg1 bX)|((with_reducible refine gate_builtin (b:=.append) (xs:=#[.tmp 5,.tmp 6]) rfl ?_);at_builtin;refine Kd.R_append_rows k51 (w0:=w) w.heap.size rfl (.tmp 5) (.tmp 6) 35 51 (.agg #[(.string ⟨#[]⟩),(.string ⟨#[]⟩),(.bool false)]) 40 rfl Try.underlying35 info51 rfl t49_ t33_ v1 [] d _ _ _ (fun _=>True) (fun _=>False) rfl rfl ?aO ?aR (fun _ _ h=>h) (fun _ h=>h.elim) (fun _ _=>trivial) ?aB ?aS ?aL ?_;(case aO=>exact bL.out);(case aR=>exact Kd.C_below HR.out HB1.out);(case aB=>exact HB1.out);(case aS=>exact HB1.out.size);(case aL=>have:=HL.out;simp only [List.length_nil];omega);intro v2 w2 b9 hb2 hg2 hat2;have bM:=a_ b9;have HB2:=a_ hb2;clear b9 hb2 hg2 hat2));go_ret
      exact ⟨_,rfl,(by simpa using bM.out),HB2.out⟩
  · rw [if_neg hl] at h
    cases h

def impl_Valve_107_c78.l0:Nat→List (S51)→Int→Int→List ByteArray→Option (Int)
 |0,_,_,_,_=>none
 |k+1,x0,x7,X,bH=>if X<x7 then (if 0≤X then (if X<(x0.length:Int) then ((impl_BestPlace_1.f ((rd_T51 x0 X).f0) ((rd_T51 x0 X).f1) ((rd_T51 x0 X).f2) bH).bind fun aq=>(if aq=true then (some X) else (impl_Valve_107_c78.l0 k x0 x7 (wrap64 (X+1)) bH))) else (none)) else (none)) else (some (-1))
def impl_Valve_107_c78.f (k:Nat) (d:List (S51)) (m:List ByteArray):Option (Int):=impl_Valve_107_c78.l0 k d (d.length:Int) 0 m
theorem impl_Valve_107_c78.mono_l:∀ k,(∀ y0 y1 y2 y3,LeO (impl_Valve_107_c78.l0 k y0 y1 y2 y3) (impl_Valve_107_c78.l0 (k+1) y0 y1 y2 y3))
 |0=>fun _ _ _ _ r h=>by simp [impl_Valve_107_c78.l0] at h
 |k+1=>by
  have Z:=impl_Valve_107_c78.mono_l k
  ·intro y0 y1 y2 y3
   unfold impl_Valve_107_c78.l0
   with_reducible repeat' first|exact Z _ _ _ _|exact LeO.refl _|exact LeO.none _|refine LeO.ite ?_ ?_|refine LeO.bind ?_ (fun _=>?_)
theorem impl_Valve_107_c78.mono:∀ s u k,LeO (impl_Valve_107_c78.f k s u) (impl_Valve_107_c78.f (k+1) s u):=by
 intro s u k;have Z:=impl_Valve_107_c78.mono_l k;unfold impl_Valve_107_c78.f
 with_reducible repeat' first|exact Z _ _ _ _|exact LeO.refl _|exact LeO.none _|refine LeO.ite ?_ ?_|refine LeO.bind ?_ (fun _=>?_)
theorem impl_Valve_107_c78.calls (k:Nat) (D:Option Addr) (G:Nat) (d:List (S51)) (a9:Option Addr) (aC:Nat) (m:List ByteArray) (r:Int) (w:World) (E:Kd.C k51 w D d.length d) (T:d.length≤G) (aM:Kd.C Kd.string w a9 m.length m) (aI:m.length≤aC) (h:impl_Valve_107_c78.f k d m=some r):
  Calls Try.prog 107 #[.slice D d.length G,.func (.func 78) #[] #[.pointer a9]] w fun e w'=>e=.returned (.int .i64 r)∧Below w.heap.size w w':=by
 have bY:=Try.underlying51;have ab:=a_ E;have b1:=a_ T;clear E T;have ac:=a_ aM;have aa:=a_ aI;clear aM aI;have HB:=a_ (Below.refl w.heap.size w);have H:(impl_Valve_107_c78.l0 k d (d.length:Int) 0 m)=some r:=h;clear h;have H':=a_ H;clear H;go_enter Try.func107,Try.ntmps107;go_wp2;go_loopg [8] k (fun kq v8 w'=>∃ (i:Int),v8=.int .i64 i∧Aside0 (impl_Valve_107_c78.l0 kq d (d.length:Int) i m=some r)∧Aside0 (kq≤k)∧Aside0 (Below w.heap.size w w'))
 case atStart=>exact ⟨(0),t5_,H',⟨Nat.le_refl _⟩,⟨t1_⟩⟩
 case round=>
  clear H';(try clear O);(try clear p2);obtain ⟨i,rfl,HA,HK1,HB⟩:=hrel;cases gk with
  |zero=>exact absurd HA.out (by simp [impl_Valve_107_c78.l0])
  |succ k1=>
   have H:=HA.out;clear HA;simp only [impl_Valve_107_c78.l0] at H;by_cases v:i<(d.length:Int)
   ·rw [if_pos v] at H;have b4:decide (i<(d.length:Int))=true:=d1_ v;clear v;by_cases c4:0≤i
    ·rw [if_pos c4] at H;have br:decide (0≤i)=true:=d1_ c4;clear c4;by_cases x:i<(d.length:Int)
     ·rw [if_pos x] at H;have b5:decide (i<(d.length:Int))=true:=d1_ x;clear x;replace H:=be_ H;obtain ⟨aq,aF,H⟩:=H;have A6:=a_ aF;clear aF;by_cases y:aq=true
      ·subst y;replace H:=(if_pos rfl).symm.trans H;obtain rfl:=Option.some.inj H;have a3:0≤(i:Int):=od_;have a4:i<(d.length:Int):=od_;obtain ⟨bO,am,aP,aQ,aT⟩:=at_T51 ab.out i a3 a4;cases am;replace aP:=hb_ HB aP;replace aQ:=hb_ HB aQ;replace aT:=hb_ HB aT;replace a3:=eq_true a3;replace a4:=eq_true a4;go_wp2_with (first|(go_at_call 78;(with_reducible refine (impl_BestPlace_1.calls ((rd_T51 d i).f0) ((rd_T51 d i).f1) ((rd_T51 d i).f2) _ aC m true _ ?ah ?ai A6.out).mono ?_);(case ah=>exact qc_ (Kd.C_below ac.out HB.out));(case ai=>exact aa.out);rintro e w8 ⟨rfl,hb⟩;have j:=a_ (below_step t1_ hb);clear HB;have HB:=j;clear j;(try clear hb);(try clear hb2);(try clear hk);(try clear hi)));go_ret
       exact ⟨t3_,t1_⟩
      ·replace y:=Bool.eq_false_iff.mpr y;subst y;replace H:=(if_neg (show ¬ (false=true) by decide)).symm.trans H;have H':=a_ H;clear H;have a3:0≤(i:Int):=od_;have a4:i<(d.length:Int):=od_;obtain ⟨bO,am,aP,aQ,aT⟩:=at_T51 ab.out i a3 a4;cases am;replace aP:=hb_ HB aP;replace aQ:=hb_ HB aQ;replace aT:=hb_ HB aT;replace a3:=eq_true a3;replace a4:=eq_true a4;go_wp2_with (first|(go_at_call 78;(with_reducible refine (impl_BestPlace_1.calls ((rd_T51 d i).f0) ((rd_T51 d i).f1) ((rd_T51 d i).f2) _ aC m false _ ?ah ?ai A6.out).mono ?_);(case ah=>exact qc_ (Kd.C_below ac.out HB.out));(case ai=>exact aa.out);rintro e w9 ⟨rfl,hb⟩;have j:=a_ (below_step t1_ hb);clear HB;have HB:=j;clear j;(try clear hb);(try clear hb2);(try clear hk);(try clear hi)));go_roundg k1
       case measure=>have:=HK1.out;omega
       case rel=>exact ⟨(wrap64 (i+1)),t5_,H',⟨t91_⟩,⟨t1_⟩⟩
     ·rw [if_neg x] at H;exact absurd H t90_
    ·rw [if_neg c4] at H;exact absurd H t90_
   ·rw [if_neg v] at H;have b4:decide (i<(d.length:Int))=false:=d2_ v;clear v;obtain rfl:=Option.some.inj H;go_wp2;go_ret
    exact ⟨t3_,t1_⟩

def impl_Valve_77_c78.f (k:Nat) (d:List (S51)) (m:List ByteArray):Option (Bool):=(impl_Valve_107_c78.f k d m).bind fun aW=>(some (decide (aW≥0)))
theorem impl_Valve_77_c78.mono:∀ s u k,LeO (impl_Valve_77_c78.f k s u) (impl_Valve_77_c78.f (k+1) s u):=by
 intro s u k;unfold impl_Valve_77_c78.f
 with_reducible repeat' first|exact impl_Valve_107_c78.mono _ _ _|exact LeO.refl _|exact LeO.none _|refine LeO.ite ?_ ?_|refine LeO.bind ?_ (fun _=>?_)
theorem impl_Valve_77_c78.calls (k:Nat) (D:Option Addr) (G:Nat) (d:List (S51)) (a9:Option Addr) (aC:Nat) (m:List ByteArray) (r:Bool) (w:World) (E:Kd.C k51 w D d.length d) (T:d.length≤G) (aM:Kd.C Kd.string w a9 m.length m) (aI:m.length≤aC) (h:impl_Valve_77_c78.f k d m=some r):
  Calls Try.prog 77 #[.slice D d.length G,.func (.func 78) #[] #[.pointer a9]] w fun e w'=>e=.returned (.bool r)∧Below w.heap.size w w':=by
 have ab:=a_ E;have b1:=a_ T;clear E T;have ac:=a_ aM;have aa:=a_ aI;clear aM aI;have HB:=a_ (Below.refl w.heap.size w);have H:((impl_Valve_107_c78.f k d m).bind fun aW=>(some (decide (aW≥0))))=some r:=h;clear h;replace H:=be_ H;obtain ⟨aW,b0,H⟩:=H;have A3:=a_ b0;clear b0;obtain rfl:=Option.some.inj H;go_enter Try.func77,Try.ntmps77;go_wp2_with (first|((with_reducible refine gate_callee (f:=107) rfl ?_);refine goesL_ (some 7) rfl rfl Try.func107 t14_ rfl #[.slice D d.length G,.func (.func 78) #[] #[.pointer a9]] rfl t2_ ?_;(with_reducible refine (impl_Valve_107_c78.calls k _ _ d _ aC m aW _ ?ah ?ai ?bC ?bD A3.out).mono ?_);(case ah=>exact qc_ ab.out);(case ai=>exact b1.out);(case bC=>exact qc_ ac.out);(case bD=>exact aa.out);rintro e w4 ⟨rfl,hb⟩;refine ⟨_,rfl,?_⟩;have j:=a_ (below_step t1_ hb);clear HB;have HB:=j;clear j;(try clear hb);(try clear hb2);(try clear hk);(try clear hi)));go_ret
 exact ⟨t3_,t1_⟩

end Go.Proofs.Ytheokilgacmlmaa.PFnExactBestPlace
