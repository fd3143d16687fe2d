-- written by wip/xprint.py, a program of this session, for this claim; not trusted: Lean checks it.
import Derived.Test.YtfffhokkhgbibaaPFnExactYearBillx0
namespace Go.Proofs.Ytfffhokkhgbibaa.PFnExactYearBill
open Go.RowKit Go.Proofs.YtfffhokkhgbibaaW.PrintWords Go.Proofs.YtfffhokkhgbibaaW.PrintLast Go.Proofs.YtfffhokkhgbibaaW.PrintMore
attribute [local go_sem] leq_less_ max2_int min2_int max_two min_two max_three min_three max_four min_four   -- for this text's walks alone
set_option linter.unusedVariables false
set_option linter.unusedSimpArgs false
set_option maxHeartbeats 8000000
set_option maxRecDepth 100000
def laws_markInt64S.l0:Nat→List Int→Int→Int→Option (Int × List Int)
 |0,_,_,_=>none
 |k+1,z,I,x=>if x<(z.length:Int) then (if 0≤x then (laws_markInt64S.l0 k (z.set (x:Int).toNat I) (wrap64 (I+1)) (wrap64 (x+1))) else (none)) else (some (I,z))
def laws_markInt64S.f (k:Nat) (i:List Int) (d:Int):Option (Int × List Int):=laws_markInt64S.l0 k i d 0
theorem laws_markInt64S.mono_l:∀ k,(∀ D E G,LeO (laws_markInt64S.l0 k D E G) (laws_markInt64S.l0 (k+1) D E G))
 |0=>fun _ _ _ r h=>by simp [laws_markInt64S.l0] at h
 |k+1=>by
  have K:=laws_markInt64S.mono_l k
  ·intro D E G
   unfold laws_markInt64S.l0
   with_reducible repeat' first|exact K _ _ _|exact LeO.refl _|exact LeO.none _|refine LeO.ite ?_ ?_|refine LeO.bind ?_ (fun _=>?_)
theorem laws_markInt64S.mono:∀ y d k,LeO (laws_markInt64S.f k y d) (laws_markInt64S.f (k+1) y d):=by
 intro y d k;have K:=laws_markInt64S.mono_l k;unfold laws_markInt64S.f
 with_reducible repeat' first|exact K _ _ _|exact LeO.refl _|exact LeO.none _|refine LeO.ite ?_ ?_|refine LeO.bind ?_ (fun _=>?_)
theorem laws_markInt64S.calls (k:Nat) (P0_:Nat→Prop) (u9000_:Value) (i:List Int) (d:Int) (q:Int) (B:List Int) (j w:World) (hB:Below j.heap.size j w) (A:Kd.R (Kd.int .i64) 2 w j.heap.size P0_ u9000_ i) (h:laws_markInt64S.f k i d=some (q,B)):
  Calls Try.prog 13 #[u9000_,.int .i64 d] w fun e w'=>e=.returned (.int .i64 q)∧Kd.R (Kd.int .i64) 2 w' j.heap.size (fun k_=>(P0_ k_∨w.heap.size≤k_)) u9000_ B∧Below j.heap.size j w'∧Kept w w' (fun k_=>P0_ k_):=by
 have J:=a_ (show Kd.R (Kd.int .i64) 2 w j.heap.size (fun k_=>(P0_ k_∨w.heap.size≤k_)) u9000_ i from Kd.R_mono A (fun k_ hk=>(.inl hk)));have HK:=a_ (Kept.refl w (fun k_=>P0_ k_));have HW0:=a_ hB.size;have HB:=a_ hB;clear hB;have H:(laws_markInt64S.l0 k i d 0)=some (q,B):=h;clear h;have H':=a_ H;clear H;go_enter Try.func13,Try.ntmps13;go_wp2;go_loopg [1,5] k (fun kq v1 v5 w'=>∃ (o:List Int) (l:Int) (b:Int),v1=.int .i64 l∧v5=.int .i64 b∧Aside0 (laws_markInt64S.l0 kq o l b=some (q,B))∧Aside0 (kq≤k)∧Aside0 (Kd.R (Kd.int .i64) 2 w' j.heap.size (fun k_=>(P0_ k_∨w.heap.size≤k_)) u9000_ o)∧Aside0 (Kept w w' (fun k_=>P0_ k_))∧Aside0 (Below j.heap.size j w'))
 case atStart=>exact ⟨(i),(d),(0),t4_,t4_,H',⟨Nat.le_refl _⟩,⟨(by (with_reducible repeat (first|apply Kd.R_alloc|apply Kd.R_drewN|apply Kd.R_drew));exact J.out)⟩,⟨t20_⟩,⟨t1_⟩⟩
 case round=>
  clear H';(try clear c1);(try clear p2);obtain ⟨o,l,b,rfl,rfl,HA,HK1,s,HK,HB⟩:=hrel;cases gk with
  |zero=>exact absurd HA.out (by simp [laws_markInt64S.l0])
  |succ k1=>
   have H:=HA.out;clear HA;simp only [laws_markInt64S.l0] at H;by_cases m:b<(o.length:Int)
   ·rw [if_pos m] at H;have Y:decide (b<(o.length:Int))=true:=d1_ m;clear m;by_cases u:0≤b
    ·rw [if_pos u] at H;have aT:decide (0≤b)=true:=d1_ u;clear u;obtain ⟨aM,a5⟩:∃ y_:List Int,y_=(o.set (b:Int).toNat l):=⟨_,rfl⟩;replace H:(laws_markInt64S.l0 k1 aM (wrap64 (l+1)) (wrap64 (b+1)))=some (q,B):=(by first|(rw [a5];with_reducible exact H)|(have H2_:=(Option.bind_some _ _).symm.trans H;rw [a5];with_reducible exact H2_)|(have H2_:=(Option.bind_some _ _).symm.trans H;with_reducible exact H2_)|with_reducible exact H|(rw [a5];exact H)|exact H);have ae:=a_ a5;clear a5;have H':=a_ H;clear H;obtain ⟨an,ai,ak⟩:=Kd.R_slice s.out;subst ak;have p5:0≤(b:Int):=od_;have q5:(b:Int)<((o.length:Int):Int):=od_;obtain ⟨Z,ar,aU,aV,gl5,aq,aP⟩:=Kd.R_form s.out t14_;(first|cases aU|(injection aU with ea_ en_ ec_;(first|subst ea_|(injection ea_ with ea_;subst ea_));subst ec_;clear en_));have ac:=a_ aV;have GG5:=a_ aP;clear aV gl5 aP;have HMgo5:=a_ (show (P0_ Z∨w.heap.size≤Z) from (s.out.1 _ rfl));obtain ⟨b6,b0⟩:=Kd.R_celln 0 s.out (b:Int) p5 q5;replace p5:=eq_true p5;replace q5:=eq_true q5;have aK:=Kd.R_putg s.out (b:Int) l;go_wp2_with (first|((with_reducible refine gate_store (t:=2) (p:=15) rfl ?_);refine store_event (t:=2) (p:=15) (v:=?vo_w8) (w1:=(wr.setCell ⟨Z,(b:Int).toNat,none⟩ (.int .i64 l))) ?hg ?ho ?hn ?hr ?_;(case ho=>rfl);(case hg=>rfl);(case hn=>rfl);(case hr=>first|(go_simp;done)|(go_simp;rfl));intro w8 hw;have hg:wr.grownBy w8 (some Z):=(by rw [hw];exact aK.2);have hp_:Kd.R (Kd.int .i64) 2 w8 j.heap.size (fun k_=>(P0_ k_∨w.heap.size≤k_)) (.slice (some ⟨Z,0,none⟩) o.length ai) aM:=(by rw [hw,ae.out];exact aK.1);clear aK;have M:=a_ (hp_);have O:=a_ ((by rw [hw];exact below_set (HB.out) ac.out:Below j.heap.size j w8));have a6:=a_ (Kept.of_grown (S:=(fun k_=>P0_ k_)) hg t20_ (fun k_ e_=>(s.out.1 k_ e_)));clear s;clear HB;clear HK;have s:=M;have HB:=O;have HK:=a6;clear M O a6;clear hg hw hp_));go_roundg k1
     case measure=>have:=HK1.out;omega
     case rel=>exact ⟨(aM),(wrap64 (l+1)),(wrap64 (b+1)),t4_,t4_,H',⟨t35_⟩,⟨(by (with_reducible repeat (first|apply Kd.R_alloc|apply Kd.R_drewN|apply Kd.R_drew));exact s.out)⟩,⟨t20_⟩,⟨t1_⟩⟩
    ·rw [if_neg u] at H;exact absurd H t31_
   ·rw [if_neg m] at H;have Y:decide (b<(o.length:Int))=false:=d2_ m;clear m;simp only [Option.some.injEq,Prod.mk.injEq] at H;obtain ⟨rfl,rfl⟩:=H;obtain ⟨ao,au,al⟩:=Kd.R_slice s.out;subst al;go_wp2;go_ret
    exact ⟨t7_,(by (with_reducible repeat (first|apply Kd.R_alloc|apply Kd.R_drewN|apply Kd.R_drew));exact s.out),t1_,t20_⟩

def laws_markInt64SS.l0:Nat→List (List Int)→Int→Int→Option (Int × List (List Int))
 |0,_,_,_=>none
 |k+1,z,I,x=>if x<(z.length:Int) then (if 0≤x then ((laws_markInt64S.f k (z.getD (x:Int).toNat []) I).bind fun t9=>(laws_markInt64SS.l0 k (z.set (x:Int).toNat t9.2) t9.1 (wrap64 (x+1)))) else (none)) else (some (I,z))
def laws_markInt64SS.g (k:Nat) (i:List (List Int)) (d:Int):Option (Int × List (List Int)):=laws_markInt64SS.l0 k i d 0
def laws_markInt64SS.f (k:Nat) (i:List (List Int)) (d:Int):Option (Int):=(laws_markInt64SS.g k i d).bind fun t9=>(some t9.1)
theorem laws_markInt64SS.mono_l:∀ k,(∀ D E G,LeO (laws_markInt64SS.l0 k D E G) (laws_markInt64SS.l0 (k+1) D E G))
 |0=>fun _ _ _ r h=>by simp [laws_markInt64SS.l0] at h
 |k+1=>by
  have K:=laws_markInt64SS.mono_l k
  ·intro D E G
   unfold laws_markInt64SS.l0
   exact LeO.ite (LeO.ite (LeO.bind (laws_markInt64S.mono _ _ _) (fun _=>K _ _ _)) (LeO.none _)) (LeO.refl _)
theorem laws_markInt64SS.mono:∀ y d k,LeO (laws_markInt64SS.f k y d) (laws_markInt64SS.f (k+1) y d):=by
 intro y d k;exact LeO.bind (laws_markInt64SS.mono_l k _ _ _) (fun _=>LeO.refl _)
theorem laws_markInt64SS.gcalls (k:Nat) (P0_:Nat→Prop) (u9000_:Value) (i:List (List Int)) (d:Int) (q:Int) (B:List (List Int)) (j w:World) (hB:Below j.heap.size j w) (A:Kd.S (Kd.slice 2 (Kd.int .i64)) 25 w j.heap.size P0_ u9000_ i) (h:laws_markInt64SS.g k i d=some (q,B)):
  Calls Try.prog 29 #[u9000_,.int .i64 d] w fun e w'=>e=.returned (.int .i64 q)∧Kd.S (Kd.slice 2 (Kd.int .i64)) 25 w' j.heap.size (fun k_=>(P0_ k_∨w.heap.size≤k_)) u9000_ B∧Below j.heap.size j w'∧Kept w w' (fun k_=>P0_ k_):=by
 obtain ⟨Ao,co,eo⟩:=Kd.S_slice A;subst eo;have J:=a_ (show Kd.S (Kd.slice 2 (Kd.int .i64)) 25 w j.heap.size (fun k_=>(P0_ k_∨w.heap.size≤k_)) (.slice Ao i.length co) i from Kd.S_mono A (fun k_ hk=>(.inl hk)));have HK:=a_ (Kept.refl w (fun k_=>P0_ k_));have HW0:=a_ hB.size;have HB:=a_ hB;clear hB A;have H':=a_ (show (laws_markInt64SS.l0 k i d 0)=some (q,B) from h);clear h;go_enter Try.func29,Try.ntmps29;go_wp2;go_loopg [1,5] k (fun kq v1 v5 w'=>∃ (o:List (List Int)) (l:Int) (b:Int),v1=.int .i64 l∧v5=.int .i64 b∧Aside0 (laws_markInt64SS.l0 kq o l b=some (q,B))∧Aside0 (kq≤k)∧Aside0 (o.length=i.length)∧Aside0 (Kd.S (Kd.slice 2 (Kd.int .i64)) 25 w' j.heap.size (fun k_=>(P0_ k_∨w.heap.size≤k_)) (.slice Ao i.length co) o)∧Aside0 (Kept w w' (fun k_=>P0_ k_))∧Aside0 (Below j.heap.size j w'))
 case atStart=>exact ⟨(i),(d),(0),t4_,t4_,H',⟨Nat.le_refl _⟩,⟨rfl⟩,⟨(by (with_reducible repeat (first|apply Kd.S_alloc|apply Kd.S_drewN|apply Kd.S_drew));exact J.out)⟩,⟨t20_⟩,⟨t1_⟩⟩
 case round=>
  clear H';(try clear c1);(try clear p2);obtain ⟨o,l,b,rfl,rfl,HA,HK1,aJ,s,HK,HB⟩:=hrel;cases gk with
  |zero=>exact absurd HA.out (by simp [laws_markInt64SS.l0])
  |succ k1=>
   have H:=HA.out;clear HA;simp only [laws_markInt64SS.l0] at H;rw [aJ.out] at H;by_cases m:b<(i.length:Int)
   ·rw [if_pos m] at H;have Y:decide (b<(i.length:Int))=true:=d1_ m;by_cases u:0≤b
    ·rw [if_pos u] at H;have aT:decide (0≤b)=true:=d1_ u;obtain ⟨⟨t1,t2⟩,aO,H⟩:=be_ H;replace H:(laws_markInt64SS.l0 k1 (o.set (b:Int).toNat t2) t1 (wrap64 (b+1)))=some (q,B):=H;have X:=a_ aO;clear aO;have H':=a_ H;clear H;obtain ⟨ad,_,hAo,_⟩:=Kd.C_get (Kd.S_reads' s.out).2.2 ([]:List Int) b u (by have:=aJ.out;omega);subst hAo;obtain ⟨g,rfl⟩:=Kd.R_head (Kd.S_R s.out);obtain ⟨oki,c,_,hM,hcc,hoki,hH⟩:=Kd.S_lend s.out ([]:List Int) b u m;obtain ⟨ve,rfl,ge⟩:=hM;obtain ⟨A1,cc1,e1⟩:=Kd.R_slice ge;subst e1;have hx:=hcc 0 _ rfl;replace hx:wr.cell? ⟨g,(b:Int).toNat,none⟩=some (.slice A1 (o.getD (b:Int).toNat []).length cc1):=by
      have hq:wr.cell? ⟨g,(b:Int).toNat * 1+0,none⟩=some (.slice A1 (o.getD (b:Int).toNat []).length cc1):=hx;rwa [Nat.mul_one,Nat.add_zero] at hq
     have GE:=a_ ge;have HH:=a_ hH;have HOK:=a_ hoki;clear ge hH hoki hcc;have p5:=eq_true u;have q5:=eq_true m;clear m u;go_wp2_with (first|((with_reducible refine gate_callee (f:=13) rfl ?_);refine goesL_ (some 17) rfl rfl Try.func13 t11_ rfl #[.slice A1 (o.getD (b:Int).toNat []).length cc1,.int .i64 l] rfl (by (try simp only [List.map_toArray,List.map_cons,List.map_nil]);first|done|rfl) ?_;(with_reducible refine (laws_markInt64S.calls k1 oki _ (o.getD (b:Int).toNat []) l t1 t2 j _ ?s1 ?s2 X.out).mono ?_);(case s1=>exact HB.out);(case s2=>exact GE.out);rintro e w8 ⟨rfl,hr,hb,hkp⟩;refine ⟨_,rfl,?_⟩;have HS:=a_ (Kd.H_back (Kd.H_step (Kd.H_widen HH.out) (fun k_ ho hn hlt=>hkp.2 k_ hlt (fun hi=>hn (.inl hi)))) (Kd.M_row (Kd.R_mono hr (fun k_ hk=>hk))) (fun k_ hk=>hk.elim .inl (fun h2=>.inr ⟨.inr (Nat.le_trans HK.out.1 h2),h2⟩)));have HK2:=a_ (Kept.then_ HK.out hkp (fun k_ hk=>(HOK.out k_ hk).1));have HB2:=a_ hb;clear s HK HB HH GE HOK hr hb hkp));go_roundg k1
     case measure=>have:=HK1.out;omega
     case rel=>exact ⟨(o.set (b:Int).toNat t2),t1,(wrap64 (b+1)),t4_,t4_,H',⟨t35_⟩,⟨(by rw [List.length_set];exact aJ.out)⟩,⟨HS.out⟩,⟨(by repeat (first|(with_reducible first|exact HK2.out|apply Kept.alloc|apply Kept.drewN|apply Kept.drew)|exact HK2.out))⟩,⟨(by repeat (first|(with_reducible first|exact HB2.out|apply below_alloc|apply pw_below_drewN|apply below_drew1)|exact HB2.out))⟩⟩
    ·rw [if_neg u] at H;exact absurd H t31_
   ·rw [if_neg m] at H;have Y:decide (b<(i.length:Int))=false:=d2_ m;clear m;simp only [Option.some.injEq,Prod.mk.injEq] at H;obtain ⟨rfl,rfl⟩:=H;go_wp2;go_ret
    exact ⟨(by first|rfl|(simp [*]<;>rfl)),(by (with_reducible repeat (first|apply Kd.S_alloc|apply Kd.S_drewN|apply Kd.S_drew));exact s.out),t1_,t20_⟩
theorem laws_markInt64SS.calls (k:Nat) (P0_:Nat→Prop) (u9000_:Value) (i:List (List Int)) (d:Int) (q:Int) (j w:World) (hB:Below j.heap.size j w) (A:Kd.S (Kd.slice 2 (Kd.int .i64)) 25 w j.heap.size P0_ u9000_ i) (h:laws_markInt64SS.f k i d=some q):
  Calls Try.prog 29 #[u9000_,.int .i64 d] w fun e w'=>e=.returned (.int .i64 q)∧Below j.heap.size j w'∧Kept w w' (fun k_=>P0_ k_):=by
 obtain ⟨⟨t1,t2⟩,X,H⟩:=Option.bind_eq_some_iff.mp h;obtain rfl:=Option.some.inj H;exact (laws_markInt64SS.gcalls k P0_ u9000_ i d t1 t2 j w hB A X).mono (fun e w' hh=>⟨hh.1,hh.2.2.1,hh.2.2.2⟩)

def laws_markTariff.f (k:Nat) (aC:ByteArray) (aD:Int) (aE:Int) (L:List (List Int)) (d:Int):Option (Int):=laws_markInt64SS.f k L d
theorem laws_markTariff.mono:∀ y d a2 a3 a4 k,LeO (laws_markTariff.f k y d a2 a3 a4) (laws_markTariff.f (k+1) y d a2 a3 a4):=fun _ _ _ _ _ _=>laws_markInt64SS.mono _ _ _
theorem laws_markTariff.calls (k:Nat) (aC:ByteArray) (aD:Int) (aE:Int) (P0_:Nat→Prop) (u9000_:Value) (L:List (List Int)) (d:Int) (q:Int) (j w:World) (hB:Below j.heap.size j w) (A:Kd.S (Kd.slice 2 (Kd.int .i64)) 25 w j.heap.size P0_ u9000_ L) (h:laws_markTariff.f k aC aD aE L d=some q):
  Calls Try.prog 12 #[.agg #[.string aC,.int .i64 aD,.int .i64 aE,u9000_],.int .i64 d] w fun e w'=>e=.returned (.int .i64 q)∧Below j.heap.size j w'∧Kept w w' (fun k_=>P0_ k_):=by
 obtain ⟨Ao,co,eo⟩:=Kd.S_slice A;subst eo;have b5:=Try.underlying29;have J:=a_ A;have HK:=a_ (Kept.refl w (fun k_=>P0_ k_));have HB:=a_ hB;clear hB A;have X:=a_ (show laws_markInt64SS.f k L d=some q from h);clear h;go_enter Try.func12,Try.ntmps12;go_wp2_with (first|((with_reducible refine gate_dst (N:=2) rfl ?_);refine box_event ?hg (N:=2) ?hd (cs:=#[.string aC,.int .i64 aD,.int .i64 aE,.slice Ao L.length co]) (t:=29) ?hr ?_;(case hd=>rfl);(case hg=>rfl);(case hr=>first|(go_simp;done)|(go_simp;rfl));intro av hg w4 hbox hb;have M:=a_ (below_step t1_ hb);have O:=a_ (hbox);have a6:=a_ (Kd.S_below (q3_ J.out) hb);have aZ:=a_ (Kept.below t20_ hb);clear HB J HK;have HB:=M;have ab:=O;have J:=a6;have HK:=aZ;clear M O a6 aZ;clear hb hbox hg;have ⟨aw,ax,ay,az,b1,b2,b3,b4⟩:=bc4_ ab.out)|((with_reducible refine gate_callee (f:=29) rfl ?_);refine goesL_ (some 8) rfl rfl Try.func29 t11_ rfl #[.slice Ao L.length co,.int .i64 d] rfl (by (try simp only [List.map_toArray,List.map_cons,List.map_nil]);first|done|rfl) ?_;(with_reducible refine (laws_markInt64SS.calls k P0_ _ L d q j _ ?s1 ?s2 X.out).mono ?_);(case s1=>repeat (first|(with_reducible first|exact HB.out|apply below_alloc|apply pw_below_drewN|apply below_drew1)|exact HB.out));(case s2=>(with_reducible repeat (first|apply Kd.S_alloc|apply Kd.S_drewN|apply Kd.S_drew));exact J.out);rintro e w8 ⟨rfl,hb,hkp⟩;refine ⟨_,rfl,?_⟩;have M:=a_ hb;have O:=a_ (Kept.then_ t20_ hkp (fun k_ hk=>.inl hk));clear HB HK J;have HB:=M;have HK:=O;clear M O hb hkp));go_ret
 exact ⟨(by first|rfl|(simp [*]<;>rfl)),t1_,t20_⟩

def laws_heldInt64S.l0:Nat→List Int→Int→Int→Option (Int)
 |0,_,_,_=>none
 |k+1,z,I,x=>if x<(z.length:Int) then (if 0≤x then (if (rd z x)=I then (laws_heldInt64S.l0 k z (wrap64 (I+1)) (wrap64 (x+1))) else (some (-1))) else (none)) else (some I)
def laws_heldInt64S.f (k:Nat) (i:List Int) (d:Int):Option (Int):=laws_heldInt64S.l0 k i d 0
theorem laws_heldInt64S.mono_l:∀ k,(∀ D E G,LeO (laws_heldInt64S.l0 k D E G) (laws_heldInt64S.l0 (k+1) D E G))
 |0=>fun _ _ _ r h=>by simp [laws_heldInt64S.l0] at h
 |k+1=>by
  have K:=laws_heldInt64S.mono_l k
  ·intro D E G
   unfold laws_heldInt64S.l0
   with_reducible repeat' first|exact K _ _ _|exact LeO.refl _|exact LeO.none _|refine LeO.ite ?_ ?_|refine LeO.bind ?_ (fun _=>?_)
theorem laws_heldInt64S.mono:∀ y d k,LeO (laws_heldInt64S.f k y d) (laws_heldInt64S.f (k+1) y d):=by
 intro y d k;have K:=laws_heldInt64S.mono_l k;unfold laws_heldInt64S.f
 with_reducible repeat' first|exact K _ _ _|exact LeO.refl _|exact LeO.none _|refine LeO.ite ?_ ?_|refine LeO.bind ?_ (fun _=>?_)
theorem laws_heldInt64S.calls (k:Nat) (A0:Option Addr) (c0:Nat) (i:List Int) (d:Int) (r:Int) (w:World) (aY:Kd.C (Kd.int .i64) w A0 i.length i) (aX:i.length≤c0) (h:laws_heldInt64S.f k i d=some r):
  Calls Try.prog 14 #[.slice A0 i.length c0,.int .i64 d] w fun e w'=>e=.returned (.int .i64 r)∧Drawn0 w w':=by
 have aQ:=a_ aY;have ap:=a_ aX;clear aY aX;have H:(laws_heldInt64S.l0 k i d 0)=some r:=h;clear h;have H':=a_ H;clear H;go_enter Try.func14,Try.ntmps14;go_wp2;go_loopg [1,5] k (fun kq v1 v5 w'=>∃ (l:Int) (b:Int),v1=.int .i64 l∧v5=.int .i64 b∧Aside0 (laws_heldInt64S.l0 kq i l b=some r)∧Aside0 (kq≤k)∧Drawn0 w w')
 case atStart=>exact ⟨(d),(0),t4_,t4_,H',⟨Nat.le_refl _⟩,t8_⟩
 case round=>
  clear H';(try clear c1);(try clear p2);obtain ⟨l,b,rfl,rfl,HA,HK1,⟨m1,rfl⟩⟩:=hrel;cases gk with
  |zero=>exact absurd HA.out (by simp [laws_heldInt64S.l0])
  |succ k1=>
   have H:=HA.out;clear HA;simp only [laws_heldInt64S.l0] at H;by_cases m:b<(i.length:Int)
   ·rw [if_pos m] at H;have Y:decide (b<(i.length:Int))=true:=d1_ m;clear m;by_cases u:0≤b
    ·rw [if_pos u] at H;have aT:decide (0≤b)=true:=d1_ u;clear u;by_cases T:(rd i b)=l
     ·rw [if_pos T] at H;have ag:((rd i b)==l)=true:=b1_ T;have ah:((rd i b)!=l)=false:=b4_ T;clear T;have H':=a_ H;clear H;have U:0≤(b:Int):=od_;have W:b<(i.length:Int):=od_;obtain ⟨af,aL,am⟩:=Kd.at_int aQ.out b U W;cases aL;replace U:=eq_true U;replace W:=eq_true W;go_wp2;go_roundg k1
      case measure=>have:=HK1.out;omega
      case rel=>exact ⟨(wrap64 (l+1)),(wrap64 (b+1)),t4_,t4_,H',⟨t35_⟩,t8_⟩
     ·rw [if_neg T] at H;have ag:((rd i b)==l)=false:=b2_ T;have ah:((rd i b)!=l)=true:=b3_ T;obtain rfl:=Option.some.inj H;have U:0≤(b:Int):=od_;have W:b<(i.length:Int):=od_;obtain ⟨af,aL,am⟩:=Kd.at_int aQ.out b U W;cases aL;replace U:=eq_true U;replace W:=eq_true W;go_wp2;go_ret
      exact ⟨t4_,t8_⟩
    ·rw [if_neg u] at H;exact absurd H t31_
   ·rw [if_neg m] at H;have Y:decide (b<(i.length:Int))=false:=d2_ m;clear m;obtain rfl:=Option.some.inj H;go_wp2;go_ret
    exact ⟨t4_,t8_⟩

end Go.Proofs.Ytfffhokkhgbibaa.PFnExactYearBill
