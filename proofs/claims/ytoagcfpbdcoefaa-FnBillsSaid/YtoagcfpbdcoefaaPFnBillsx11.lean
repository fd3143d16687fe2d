-- written by wip/xprint.py, a program of this session, for this claim; not trusted: Lean checks it.
import Derived.Test.YtoagcfpbdcoefaaPFnBillsx0
namespace Go.Proofs.Ytoagcfpbdcoefaa.PFnBills
open Go.RowKit Go.Proofs.YtoagcfpbdcoefaaW.PrintWords Go.Proofs.YtoagcfpbdcoefaaW.PrintLast Go.Proofs.YtoagcfpbdcoefaaW.PrintMore
attribute [local go_sem] leq_less_ max2_int min2_int max_two min_two max_three min_three max_four min_four   -- for this text's walks alone
set_option linter.unusedVariables false
set_option linter.unusedSimpArgs false
set_option maxHeartbeats 8000000
set_option maxRecDepth 100000
mutual
def spec_l01Dec.l0:Nat→Int→List Int→Int→Option (ByteArray)
 |0,_,_,_=>none
 |k+1,x0,o,B=>if B=0 then (if x0<0 then (if o.length<140737488355328 then (spec_l01Dec.j1 k (o++[45])) else (none)) else (spec_l01Dec.j1 k o)) else (if (Int.tmod B 10)<0 then (if o.length<140737488355328 then (spec_l01Dec.l0 k x0 (o++[(wrap64 (48+(wrap64 (-(Int.tmod B 10))))) % 256]) (wrap64 (Int.tdiv B 10))) else (none)) else (if o.length<140737488355328 then (spec_l01Dec.l0 k x0 (o++[(wrap64 (48+(Int.tmod B 10))) % 256]) (wrap64 (Int.tdiv B 10))) else (none)))
def spec_l01Dec.j1:Nat→List Int→Option (ByteArray)
 |0,_=>none
 |k+1,o=>spec_l01Dec.l1 k o (([]:List Int)) (wrap64 ((o.length:Int) - 1))
def spec_l01Dec.l1:Nat→List Int→List Int→Int→Option (ByteArray)
 |0,_,_,_=>none
 |k+1,o,x6,T=>if T≥0 then (if 0≤T then (if T<(o.length:Int) then (if x6.length<140737488355328 then (spec_l01Dec.l1 k o (x6++[rd o T]) (wrap64 (T - 1))) else (none)) else (none)) else (none)) else (some (strOfNums x6))
end
def spec_l01Dec.f (k:Nat) (c:Int):Option (ByteArray):=if c=0 then (some (⟨#[48]⟩:ByteArray)) else (spec_l01Dec.l0 k c (([]:List Int)) c)
theorem spec_l01Dec.mono_l:∀ k,(∀ y0 y1 y2,LeO (spec_l01Dec.l0 k y0 y1 y2) (spec_l01Dec.l0 (k+1) y0 y1 y2))∧(∀ y0,LeO (spec_l01Dec.j1 k y0) (spec_l01Dec.j1 (k+1) y0))∧(∀ y0 y1 y2,LeO (spec_l01Dec.l1 k y0 y1 y2) (spec_l01Dec.l1 (k+1) y0 y1 y2))
 |0=>⟨fun _ _ _ r h=>by simp [spec_l01Dec.l0] at h,fun _ r h=>by simp [spec_l01Dec.j1] at h,fun _ _ _ r h=>by simp [spec_l01Dec.l1] at h⟩
 |k+1=>by
  obtain ⟨a9,aA,aC⟩:=spec_l01Dec.mono_l k
  refine ⟨?_,?_,?_⟩<;>intros<;>first|unfold spec_l01Dec.l0|unfold spec_l01Dec.j1|unfold spec_l01Dec.l1
  all_goals
   with_reducible repeat' first|exact a9 _ _ _|exact aA _|exact aC _ _ _|exact LeO.refl _|exact LeO.none _|refine LeO.ite ?_ ?_|refine LeO.bind ?_ (fun _=>?_)
theorem spec_l01Dec.mono:∀ c k,LeO (spec_l01Dec.f k c) (spec_l01Dec.f (k+1) c):=by
 intro c k;obtain ⟨a9,aA,aC⟩:=spec_l01Dec.mono_l k;unfold spec_l01Dec.f
 with_reducible repeat' first|exact a9 _ _ _|exact aA _|exact aC _ _ _|exact LeO.refl _|exact LeO.none _|refine LeO.ite ?_ ?_|refine LeO.bind ?_ (fun _=>?_)
theorem spec_l01Dec.calls (k:Nat) (c:Int) (r:ByteArray) (w:World) (h:spec_l01Dec.f k c=some r):
  Calls Try.prog 43 #[.int .i64 c] w fun e w'=>e=.returned (.string r)∧Below w.heap.size w w':=by
 have HB:=a_ (Below.refl w.heap.size w);have H:(if c=0 then (some (⟨#[48]⟩:ByteArray)) else (spec_l01Dec.l0 k c (([]:List Int)) c))=some r:=h;clear h;by_cases s:c=0
 ·rw [if_pos s] at H;have a1:(c==0)=true:=b1_ s;have a2:(c !=0)=false:=b4_ s;clear s;obtain rfl:=Option.some.inj H;go_enter Try.func43,Try.ntmps43;go_wp2;go_ret
  exact ⟨t32_,t1_⟩
 ·rw [if_neg s] at H;have a1:(c==0)=false:=b2_ s;have a2:(c !=0)=true:=b3_ s;obtain ⟨aT,G⟩:∃ y_:List Int,y_=(([]:List Int)):=⟨_,rfl⟩;replace H:(spec_l01Dec.l0 k c aT c)=some r:=(by first|(rw [G];with_reducible exact H)|(have H2_:=(Option.bind_some _ _).symm.trans H;rw [G];with_reducible exact H2_)|(have H2_:=(Option.bind_some _ _).symm.trans H;with_reducible exact H2_)|with_reducible exact H|(rw [G];exact H)|exact H);have aM:=a_ G;clear G;have H':=a_ H;clear H;go_enter Try.func43,Try.ntmps43;go_wp2_with (first|((with_reducible refine gate_dst (N:=10) rfl ?_);refine Kd.R_lit (Kd.int .u8) _ 5 ?hg (N:=10) ?hd (xs:=([]:List Int)) (inner:=[]) (ok:=fun _=>True) (okp:=fun _=>True) ?hr ?hp (fun _ hk=>hk) trivial (Below.refl _ _) (Nat.le_refl _) t65_ ?_;(case hd=>rfl);(case hg=>rfl);(case hr=>first|(go_simp;done)|(go_simp;rfl));(case hp=>exact (Reps.none _ _));intro ax w3 E hb hg_ hnew_;clear hg_ hnew_;(first|rw [← aM.out] at E|(simp only [Int.reduceToNat] at E;rw [← aM.out] at E));have l:=a_ (Kd.R_lower E (below_size t1_));have m:=a_ (below_step t1_ hb);clear HB;have aZ:=l;have HB:=m;clear l m;clear hb E));go_loopg [3,4] k (fun kq v3 v4 w'=>∃ (q:List Int) (g:Int),v4=.int .i64 g∧Aside0 (spec_l01Dec.l0 kq c q g=some r)∧Aside0 (kq≤k)∧Aside0 (Kd.R (Kd.int .u8) 5 w' w.heap.size (fun _=>True) v3 q)∧Aside0 (Below w.heap.size w w'))
  case atStart=>exact ⟨(aT),(c),t5_,H',⟨Nat.le_refl _⟩,⟨(by (with_reducible repeat (first|apply Kd.R_alloc|apply Kd.R_drewN|apply Kd.R_drew));exact aZ.out)⟩,⟨t1_⟩⟩
  case round=>
   clear H';(try clear s);(try clear a1);(try clear a2);(try clear p2);(try clear c4);obtain ⟨q,g,rfl,HA,HK1,d,HB⟩:=hrel;cases gk with
   |zero=>exact absurd HA.out (by simp [spec_l01Dec.l0])
   |succ k1=>
    have H:=HA.out;clear HA;simp only [spec_l01Dec.l0] at H;by_cases t:g=0
    ·rw [if_pos t] at H;have a6:(g==0)=true:=b1_ t;have a7:(g !=0)=false:=b4_ t;clear t;have a4:=a_ H;clear H;go_upto_if 29 with (fail)
     go_cut [3] (fun v3 wc=>∃ (kq:Nat) (i:List Int),Aside0 (spec_l01Dec.j1 kq i=some r)∧Aside0 (kq≤k1)∧Aside0 (Kd.R (Kd.int .u8) 5 wc w.heap.size (fun _=>True) v3 i)∧Aside0 (Below w.heap.size w wc))
     case first=>
      have H:=a4.out;clear a4;by_cases u:c<0
      ·rw [if_pos u] at H;have v:decide (c<0)=true:=d1_ u;clear u;(first|rw [v]|(simp only [i64_w,i32_w];rw [v])|skip);by_cases z:q.length<140737488355328
       ·rw [if_pos z] at H;have LMc8:=a_ z;clear z;obtain ⟨aW,K⟩:∃ y_:List Int,y_=(q++[45]):=⟨_,rfl⟩;replace H:(spec_l01Dec.j1 k1 aW)=some r:=(by first|(rw [K];with_reducible exact H)|(have H2_:=(Option.bind_some _ _).symm.trans H;rw [K];with_reducible exact H2_)|(have H2_:=(Option.bind_some _ _).symm.trans H;with_reducible exact H2_)|with_reducible exact H|(rw [K];exact H)|exact H);have ah:=a_ K;clear K;have H':=a_ H;clear H;go_wp2_with (first|((with_reducible refine gate_builtin (b:=.append) (xs:=#[.tmp 30,.tmp 31]) rfl ?_);at_builtin;refine Kd.R_append (Kd.int .u8) (w0:=w) w.heap.size rfl (.tmp 30) (.tmp 31) 22 5 (.int .u8 0) 1 rfl Try.underlying22 info5 rfl t60_ t31_ u3 q 45 [.int .u8 45] (fun _=>True) (fun _=>False) rfl rfl ?aP (fun _ hk=>hk.elim) ?aF ?aO ?aB ?aS ?aL ?_;(case aP=>exact rfl);(case aB=>exact t1_);(case aF=>exact (fun _ _=>trivial));(case aO=>exact (q2_ d.out));(case aS=>exact (below_size t1_));(case aL=>have:=LMc8.out;omega);intro b0 w9 ho hb hg hat;rw [← ah.out] at ho;have l:=a_ (hb);have m:=a_ (ho);clear HB;clear d;have HB:=l;have ac:=m;clear l m;clear ho hb hg hat));go_meet
        case rel=>exact ⟨_,(aW),H',⟨(by have:=HK1.out;first|omega|exact Nat.le_refl _)⟩,⟨(by (with_reducible repeat (first|apply Kd.R_alloc|apply Kd.R_drewN|apply Kd.R_drew));exact ac.out)⟩,⟨t1_⟩⟩
       ·rw [if_neg z] at H;exact absurd H t65_
      ·rw [if_neg u] at H;have v:decide (c<0)=false:=d2_ u;clear u;(first|rw [v]|(simp only [i64_w,i32_w];rw [v])|skip);have H':=a_ H;clear H;go_wp2;go_meet
       case rel=>exact ⟨_,(q),H',⟨(by have:=HK1.out;first|omega|exact Nat.le_refl _)⟩,⟨(by (with_reducible repeat (first|apply Kd.R_alloc|apply Kd.R_drewN|apply Kd.R_drew));exact d.out)⟩,⟨t1_⟩⟩
     case rest=>
      clear a4;(try clear s);(try clear a1);(try clear a2);(try clear p2);(try clear c4);(try clear t);(try clear a6);(try clear a7);(try clear u);(try clear v);(try clear z);(try clear p2);obtain ⟨kq,i,HA,HJ5,d,HB⟩:=hcut;cases kq with
      |zero=>exact absurd HA.out (by simp [spec_l01Dec.j1])
      |succ kj5=>
       have H:=HA.out;clear HA;simp only [spec_l01Dec.j1] at H;obtain ⟨aX,L⟩:∃ y_:List Int,y_=(([]:List Int)):=⟨_,rfl⟩;replace H:(spec_l01Dec.l1 kj5 i aX (wrap64 ((i.length:Int) - 1)))=some r:=(by first|(rw [L];with_reducible exact H)|(have H2_:=(Option.bind_some _ _).symm.trans H;rw [L];with_reducible exact H2_)|(have H2_:=(Option.bind_some _ _).symm.trans H;with_reducible exact H2_)|with_reducible exact H|(rw [L];exact H)|exact H);have aN:=a_ L;clear L;have H':=a_ H;clear H;go_wp2_with (first|((with_reducible refine gate_dst (N:=33) rfl ?_);refine Kd.R_lit (Kd.int .u8) _ 5 ?hg (N:=33) ?hd (xs:=([]:List Int)) (inner:=[]) (ok:=fun _=>True) (okp:=fun _=>True) ?hr ?hp (fun _ hk=>hk) trivial (Below.refl _ _) (Nat.le_refl _) t65_ ?_;(case hd=>rfl);(case hg=>rfl);(case hr=>first|(go_simp;done)|(go_simp;rfl));(case hp=>exact (Reps.none _ _));intro b1 b3 A hb hg_ hnew_;clear hg_ hnew_;(first|rw [← aN.out] at A|(simp only [Int.reduceToNat] at A;rw [← aN.out] at A));have l:=a_ (Kd.R_elder' (q2_ d.out) (Kd.R_base A) hb);have m:=a_ (Kd.R_lower (Kd.R_new' A (Kd.R_lt (q2_ d.out))) (below_size t1_));have O:=a_ (below_step t1_ hb);clear d;clear HB;have d:=l;have ad:=m;have HB:=O;clear l m O;clear hb A;obtain ⟨aJ,a8,ao⟩:=Kd.R_slice d.out;subst ao));go_loopg [6,7] kj5 (fun kq v6 v7 w'=>∃ (D:List Int) (j:Int),v7=.int .i64 j∧Aside0 (spec_l01Dec.l1 kq i D j=some r)∧Aside0 (kq≤kj5)∧Aside0 (Kd.R (Kd.int .u8) 5 w' w.heap.size (fun k_=>some k_≠(v6:Value).ownBlock) (.slice aJ i.length a8) i)∧Aside0 (Kd.R (Kd.int .u8) 5 w' w.heap.size (fun k_=>some k_≠((.slice aJ i.length a8):Value).ownBlock) v6 D)∧Aside0 (Below w.heap.size w w'))
       case atStart=>exact ⟨(aX),(wrap64 ((i.length:Int) - 1)),t5_,H',⟨Nat.le_refl _⟩,⟨(by (with_reducible repeat (first|apply Kd.R_alloc|apply Kd.R_drewN|apply Kd.R_drew));exact Kd.R_mono d.out (fun _ hk=>hk.2))⟩,⟨(by (with_reducible repeat (first|apply Kd.R_alloc|apply Kd.R_drewN|apply Kd.R_drew));exact Kd.R_mono ad.out (fun _ hk=>hk.2))⟩,⟨t1_⟩⟩
       case round=>
        clear H';(try clear s);(try clear a1);(try clear a2);(try clear p2);(try clear c4);(try clear t);(try clear a6);(try clear a7);(try clear p6);(try clear u);(try clear v);(try clear z);(try clear p2);obtain ⟨D,j,rfl,HA,aK,d,a5,HB⟩:=hrel;cases gk with
        |zero=>exact absurd HA.out (by simp [spec_l01Dec.l1])
        |succ k3=>
         have H:=HA.out;clear HA;simp only [spec_l01Dec.l1] at H;by_cases x:j≥0
         ·rw [if_pos x] at H;have ak:decide (0≤j)=true:=d1_ x;clear x;by_cases U:0≤j
          ·rw [if_pos U] at H;have ar:decide (0≤j)=true:=d1_ U;clear U;by_cases W:j<(i.length:Int)
           ·rw [if_pos W] at H;have au:decide (j<(i.length:Int))=true:=d1_ W;clear W;by_cases X:D.length<140737488355328
            ·rw [if_pos X] at H;have LMc16:=a_ X;clear X;obtain ⟨aY,M⟩:∃ y_:List Int,y_=(D++[rd i j]):=⟨_,rfl⟩;replace H:(spec_l01Dec.l1 k3 i aY (wrap64 (j - 1)))=some r:=(by first|(rw [M];with_reducible exact H)|(have H2_:=(Option.bind_some _ _).symm.trans H;rw [M];with_reducible exact H2_)|(have H2_:=(Option.bind_some _ _).symm.trans H;with_reducible exact H2_)|with_reducible exact H|(rw [M];exact H)|exact H);have ai:=a_ M;clear M;have H':=a_ H;clear H;have aD:0≤(j:Int):=od_;have aE:j<(i.length:Int):=od_;obtain ⟨aj,an,av⟩:=Kd.at_int (Kd.R_reads' d.out).2.2 j aD aE;cases an;replace aD:=eq_true aD;replace aE:=eq_true aE;go_wp2_with (first|((with_reducible refine gate_builtin (b:=.append) (xs:=#[.tmp 41,.tmp 46]) rfl ?_);at_builtin;refine Kd.R_append (Kd.int .u8) (w0:=w) w.heap.size rfl (.tmp 41) (.tmp 46) 22 5 (.int .u8 0) 1 rfl Try.underlying22 info5 rfl t60_ t31_ u6 D (rd i j) [.int .u8 (rd i j)] (fun k_=>some k_≠(.slice (some aj) i.length a8:Value).ownBlock) (fun _=>False) rfl rfl ?aP (fun _ hk=>hk.elim) ?aF ?aO ?aB ?aS ?aL ?_;(case aP=>exact rfl);(case aB=>exact t1_);(case aF=>exact (fun k_ hk=>Kd.fresh' (Kd.R_lt (q2_ d.out)) k_ hk));(case aO=>exact (q2_ a5.out));(case aS=>exact (below_size t1_));(case aL=>have:=LMc16.out;omega);intro b2 b4 ho hb hg hat;rw [← ai.out] at ho;have l:=a_ (Kd.R_after (ok:=(fun _=>True)) (by (with_reducible repeat (first|apply Kd.R_alloc|apply Kd.R_drewN|apply Kd.R_drew));exact Kd.R_mono d.out (fun _ hk=>⟨trivial,hk⟩)) hg hat);have m:=a_ (hb);have O:=a_ (ho);clear d;clear HB;clear a5;have d:=l;have HB:=m;have ae:=O;clear l m O;clear ho hb hg hat));go_roundg k3
             case measure=>have:=HK1.out;have:=HJ5.out;have:=aK.out;omega
             case rel=>exact ⟨(aY),(wrap64 (j - 1)),t5_,H',⟨(by have:=HK1.out;have:=HJ5.out;have:=aK.out;omega)⟩,⟨(by (with_reducible repeat (first|apply Kd.R_alloc|apply Kd.R_drewN|apply Kd.R_drew));exact Kd.R_mono d.out (fun _ hk=>hk.2))⟩,⟨(by (with_reducible repeat (first|apply Kd.R_alloc|apply Kd.R_drewN|apply Kd.R_drew));exact ae.out)⟩,⟨t1_⟩⟩
            ·rw [if_neg X] at H;exact absurd H t65_
           ·rw [if_neg W] at H;exact absurd H t65_
          ·rw [if_neg U] at H;exact absurd H t65_
         ·rw [if_neg x] at H;have ak:decide (0≤j)=false:=d2_ x;clear x;obtain rfl:=Option.some.inj H;have hcv18:=own_string (P:=Try.prog) Try.underlying22 Try.underlying5 Try.underlying9 (Kd.own_of_R a5.out);go_wp2;go_ret
          exact ⟨t32_,t1_⟩
    ·rw [if_neg t] at H;have a6:(g==0)=false:=b2_ t;have a7:(g !=0)=true:=b3_ t;by_cases y:(Int.tmod g 10)<0
     ·rw [if_pos y] at H;have al:decide ((Int.tmod g 10)<0)=true:=d1_ y;clear y;by_cases Y:q.length<140737488355328
      ·rw [if_pos Y] at H;have LMc20:=a_ Y;clear Y;obtain ⟨aU,I⟩:∃ y_:List Int,y_=(q++[(wrap64 (48+(wrap64 (-(Int.tmod g 10))))) % 256]):=⟨_,rfl⟩;replace H:(spec_l01Dec.l0 k1 c aU (wrap64 (Int.tdiv g 10)))=some r:=(by first|(rw [I];with_reducible exact H)|(have H2_:=(Option.bind_some _ _).symm.trans H;rw [I];with_reducible exact H2_)|(have H2_:=(Option.bind_some _ _).symm.trans H;with_reducible exact H2_)|with_reducible exact H|(rw [I];exact H)|exact H);have af:=a_ I;clear I;have H':=a_ H;clear H;go_wp2_with (first|((with_reducible refine gate_builtin (b:=.append) (xs:=#[.tmp 22,.tmp 26]) rfl ?_);at_builtin;refine Kd.R_append (Kd.int .u8) (w0:=w) w.heap.size rfl (.tmp 22) (.tmp 26) 22 5 (.int .u8 0) 1 rfl Try.underlying22 info5 rfl t60_ t31_ u3 q ((wrap64 (48+(wrap64 (-(Int.tmod g 10))))) % 256) [.int .u8 ((wrap64 (48+(wrap64 (-(Int.tmod g 10))))) % 256)] (fun _=>True) (fun _=>False) rfl rfl ?aP (fun _ hk=>hk.elim) ?aF ?aO ?aB ?aS ?aL ?_;(case aP=>exact rfl);(case aB=>exact t1_);(case aF=>exact (fun _ _=>trivial));(case aO=>exact (q2_ d.out));(case aS=>exact (below_size t1_));(case aL=>have:=LMc20.out;omega);intro ay b5 ho hb hg hat;rw [← af.out] at ho;have l:=a_ (hb);have m:=a_ (ho);clear HB;clear d;have HB:=l;have aa:=m;clear l m;clear ho hb hg hat));go_roundg k1
       case measure=>have:=HK1.out;omega
       case rel=>exact ⟨(aU),(wrap64 (Int.tdiv g 10)),t5_,H',⟨t80_⟩,⟨(by (with_reducible repeat (first|apply Kd.R_alloc|apply Kd.R_drewN|apply Kd.R_drew));exact aa.out)⟩,⟨t1_⟩⟩
      ·rw [if_neg Y] at H;exact absurd H t65_
     ·rw [if_neg y] at H;have al:decide ((Int.tmod g 10)<0)=false:=d2_ y;clear y;by_cases Z:q.length<140737488355328
      ·rw [if_pos Z] at H;have LMc22:=a_ Z;clear Z;obtain ⟨aV,J⟩:∃ y_:List Int,y_=(q++[(wrap64 (48+(Int.tmod g 10))) % 256]):=⟨_,rfl⟩;replace H:(spec_l01Dec.l0 k1 c aV (wrap64 (Int.tdiv g 10)))=some r:=(by first|(rw [J];with_reducible exact H)|(have H2_:=(Option.bind_some _ _).symm.trans H;rw [J];with_reducible exact H2_)|(have H2_:=(Option.bind_some _ _).symm.trans H;with_reducible exact H2_)|with_reducible exact H|(rw [J];exact H)|exact H);have ag:=a_ J;clear J;have H':=a_ H;clear H;go_wp2_with (first|((with_reducible refine gate_builtin (b:=.append) (xs:=#[.tmp 22,.tmp 26]) rfl ?_);at_builtin;refine Kd.R_append (Kd.int .u8) (w0:=w) w.heap.size rfl (.tmp 22) (.tmp 26) 22 5 (.int .u8 0) 1 rfl Try.underlying22 info5 rfl t60_ t31_ u3 q ((wrap64 (48+(Int.tmod g 10))) % 256) [.int .u8 ((wrap64 (48+(Int.tmod g 10))) % 256)] (fun _=>True) (fun _=>False) rfl rfl ?aP (fun _ hk=>hk.elim) ?aF ?aO ?aB ?aS ?aL ?_;(case aP=>exact rfl);(case aB=>exact t1_);(case aF=>exact (fun _ _=>trivial));(case aO=>exact (q2_ d.out));(case aS=>exact (below_size t1_));(case aL=>have:=LMc22.out;omega);intro az b6 ho hb hg hat;rw [← ag.out] at ho;have l:=a_ (hb);have m:=a_ (ho);clear HB;clear d;have HB:=l;have ab:=m;clear l m;clear ho hb hg hat));go_roundg k1
       case measure=>have:=HK1.out;omega
       case rel=>exact ⟨(aV),(wrap64 (Int.tdiv g 10)),t5_,H',⟨t80_⟩,⟨(by (with_reducible repeat (first|apply Kd.R_alloc|apply Kd.R_drewN|apply Kd.R_drew));exact ab.out)⟩,⟨t1_⟩⟩
      ·rw [if_neg Z] at H;exact absurd H t65_

end Go.Proofs.Ytoagcfpbdcoefaa.PFnBills
