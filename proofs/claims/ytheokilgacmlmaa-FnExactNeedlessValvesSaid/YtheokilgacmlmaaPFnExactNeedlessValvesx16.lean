-- written by wip/xprint.py, a program of this session, for this claim; not trusted: Lean checks it.
import Derived.Shelf.SortM.Plain
import Derived.Shelf.SortM.SortNone
import Derived.Shelf.SlicesG.CompactI
import Derived.Sort.OwnSortedInts
import Derived.Test.YtheokilgacmlmaaPFnExactNeedlessValvesx0
namespace Go.Proofs.Ytheokilgacmlmaa.PFnExactNeedlessValves
open Go.RowKit Go.Proofs.YtheokilgacmlmaaW.PrintWords Go.Proofs.YtheokilgacmlmaaW.PrintLast Go.Proofs.YtheokilgacmlmaaW.PrintMore
attribute [local go_sem] leq_less_ max2_int min2_int max_two min_two max_three min_three max_four min_four   -- for this text's walks alone
set_option linter.unusedVariables false
set_option linter.unusedSimpArgs false
set_option maxHeartbeats 8000000
set_option maxRecDepth 100000
theorem impl_Valve_84.z1 (z:Array Value):(Builtin.zeroCells z 1).toList=z.toList:=by
  simp only [Builtin.zeroCells,Nat.one_mul];apply List.ext_getElem
  · simp
  · intro i h1 h2
    have hi:i<z.size:=(by simpa using h2);simp [Nat.mod_eq_of_lt hi,hi]
theorem impl_Valve_84.cr {P:Program} {α:Type} (d:Kd α) {W:World} (base:Nat) (t ty e:TypeId) (z:Value) (ht:P.underlying t=some (.slice e)) (hz:∀ w,(zeroValue e).run P w=.ok z w) (hzs:z.cells.size=d.sz) (h1:∀ v ∈ z.cells.toList,v.oneCell'=true)
    {g n c:Nat} {xs:List α} {ok:Nat→Prop} (HO:d.R e W base ok (.slice (some ⟨g,0,none⟩) n c) xs) (hc:n+1≤c) (c2:Nat):
    ∃ w1,(Builtin.clear_ #[t] ty #[.slice (some ⟨g,n * d.sz,none⟩) 1 c2]).run P W=.ok (.tuple #[]) w1∧d.R e w1 base ok (.slice (some ⟨g,0,none⟩) n c) xs∧W.grownBy w1 (some g):=by
  obtain ⟨hn,hnc,_⟩:=Kd.R_reads' HO;obtain ⟨hok,inner,hown,hr⟩:=HO;have hin:inner.length=n * d.sz:=(by rw [hr.1,hn]);rcases hown.2 with ⟨hv,_⟩|⟨g',cap',cur,hv,hb,hh,hnn,hcm,hcs,htake⟩
  · cases hv
  injection hv with ha hnl hcc;injection ha with ha;injection ha with hg;subst hg;subst hcc;have hcz:(n+1) * d.sz≤c * d.sz:=Nat.mul_le_mul_right _ hc;have hks:(n+1) * d.sz=n * d.sz+d.sz:=Nat.succ_mul _ _;have hl:z.cells.toList.length=d.sz:=(by rw [Array.length_toList,hzs]);have hfit:n * d.sz+z.cells.toList.length≤cur.size:=(by rw [hl,hcs];omega);have hst:=run_storeCells_cells (P:=P) g (n * d.sz) z.cells.toList 0 W (fun j hj=>by rw [Nat.add_zero,cell_of_row W g _ cur e (0,0) hh];simp;omega) (fun j _=>blk_frozen hh _) h1;simp only [Nat.add_zero] at hst;obtain ⟨cur',h3,h4,h5⟩:=setCells_row z.cells.toList (n * d.sz) W cur hh hfit;obtain ⟨s1,s2,s3,s4⟩:=setCells_same g z.cells.toList (n * d.sz) W;have hfar:∀ k',k'≠g→(W.setCells g (n * d.sz) z.cells.toList).heap[k']? =W.heap[k']? :=fun k' hk'=>setCells_far _ _ k' hk';refine ⟨W.setCells g (n * d.sz) z.cells.toList,?_,⟨hok,inner,⟨hown.1,.inr ⟨g,c,cur',(by rw [hn]),hb,h3,hnn,hcm,(by rw [h4,hcs]),?_⟩⟩,hr.imp_ (fun p q hp=>d.M_move (fun k' hk'=>hfar k' (fun he=>hk'.2 (by rw [he];simp [Value.ownBlock]))) hp)⟩,⟨s1,s2,s3,(by rw [s4];exact Nat.le_refl _),fun k' _ hk'=>hfar k' (fun he=>hk' (by rw [he]))⟩⟩
  · simp [Builtin.clear_,run_underlying ht,hz,impl_Valve_84.z1,hst]
  · rw [h5,← htake,← hn,List.take_append_of_le_length (by rw [List.length_append,List.length_take,Array.length_toList];omega),List.take_append_of_le_length (by rw [List.length_take,Array.length_toList];omega),List.take_take,Nat.min_self]
theorem impl_Valve_84.cl {P:Program} {ops:Array Oper} {rest:List Oper} {o:Oper} {a:Act} {Q:Exit→Act→World→Prop} {α:Type} (d:Kd α) {w0 W:World} (base:Nat) (hgd:o.guard=none) (hN:o.dst=none) (s:Operand) (t e:TypeId) (z:Value) (ho:o.op=.call { callee:=.builtin .clear,args:=#[s],argTypes:=#[t] })
    (ht:P.underlying t=some (.slice e)) (hz:∀ w,(zeroValue e).run P w=.ok z w) (hzs:z.cells.size=d.sz) (h1:∀ v ∈ z.cells.toList,v.oneCell'=true) {g n c c2:Nat} {xs:List α} {ok:Nat→Prop} (hs:a.eval s=.slice (some ⟨g,n * d.sz,none⟩) 1 c2)
    (HO:d.R e W base ok (.slice (some ⟨g,0,none⟩) n c) xs) (hc:n+1≤c) (HB:Below base w0 W) (hbase:base≤W.heap.size)
    (h:∀ w1,d.R e w1 base ok (.slice (some ⟨g,0,none⟩) n c) xs→Below base w0 w1→W.grownBy w1 (some g)→wpList P ops Q rest a w1):wpList P ops Q (o :: rest) a W:=by
  obtain ⟨w1,hr,h2,h3⟩:=impl_Valve_84.cr (P:=P) d base t o.type e z ht hz hzs h1 HO hc c2;refine wpList_plain hgd fun K hK=>?_;unfold Oper.wp execOp
  simp only [ho,resolve,invoke,builtin,Sem.run_bind,Sem.run_pure,Result.andThen_ok,List.map_toArray,List.map_cons,List.map_nil,hs,hr];exact hK _ _ (by rw [hN];exact h w1 h2 (HB.grown h3 hbase (fun k hk=>by injection hk with hk;subst hk;exact Kd.R_base HO _ (by simp [Value.ownBlock]))) h3)
def impl_Valve_84.f (l:List (S51)) (u B:Int):Option (List (S51)):=if 0≤u∧u<(l.length:Int)∧B=u+1 then some (l.eraseIdx u.toNat) else none
theorem impl_Valve_84.calls (P0_:Nat→Prop) (u9000_:Value) (l:List (S51)) (u B:Int) (r:List (S51)) (w0 w:World) (hB:Below w0.heap.size w0 w) (aE:Kd.R k51 51 w w0.heap.size P0_ u9000_ l) (h:impl_Valve_84.f l u B=some r):
    Calls Try.prog 84 #[u9000_,.int .i64 u,.int .i64 B] w fun e w'=>∃ bZ:Value,e=.returned (bZ)∧Kd.R k51 51 w' w0.heap.size (fun k_=>(P0_ k_∨w.heap.size≤k_)) bZ r∧Below w0.heap.size w0 w'∧Kept w w' (fun k_=>P0_ k_):=by
  unfold impl_Valve_84.f at h
  by_cases hc:0≤u∧u<(l.length:Int)∧B=u+1
  · rw [if_pos hc] at h
    obtain rfl:=Option.some.inj h;clear h;obtain ⟨h0,h1,h2⟩:=hc;obtain ⟨i,rfl⟩:=Int.eq_ofNat_of_zero_le h0;subst h2;obtain ⟨g,cap,rfl,hg,hgs,cells,hblk⟩:=Kd.R_form aE t25_;have hcp:=(Kd.R_reads' aE).2.1;obtain ⟨m,hm⟩:∃ m,l.length=m+1:=⟨l.length - 1,t25_⟩;rw [hm] at aE hcp h1 ⊢;have k1:i≤cap:=(by omega);have k2:i≤m:=(by omega);have k3:i+1≤cap:=(by omega);have k4:0≤(i:Int)+1:=(by omega);have k5:(i:Int)+1≤(m:Int)+1:=(by omega);have k6:m+1≤cap:=(by omega);have k7:m≤cap:=(by omega);have hAx:=a_ (show (if cap=i+1 then some (⟨g,0,none⟩:Addr) else some ⟨g,(i+1) * 3,none⟩)=if cap=i+1 then some ⟨g,0,none⟩ else (some (⟨g,0,none⟩:Addr)).map (·.add ((i+1) * k51.sz)) from by rw [Option.map_some,add_plain];rfl);have hok:=a_ (show ∀ k,some g=some k→P0_ k from fun k hk=>aE.1 k (by rw [← hk];simp [Value.ownBlock]));have aE:=a_ aE;have hB:=a_ hB;have hm:=a_ hm;have hcp:=a_ hcp;have hil:=a_ (show i<m+1 by omega);have hmi:=a_ (show m - i=m+1 - (i+1) by omega);clear h1 hg hgs hblk;go_enter Try.func84,Try.ntmps84;go_wp2;go_region_law (refine Kd.R_delete_step k51 w0.heap.size t94_ (.tmp 22) (.tmp 25) 35 51 rfl Try.underlying35 t15_ (g:=g) (n:=m+1) (c:=cap) (k:=i) (w0:=w0) (W:=w.drew) rfl rfl hAx.out hmi.out (Kd.R_drew aE.out) hil.out (below_drew hB.out) hB.out.size ?_;intro w1 bC hb1 hg1)
    have bC:=a_ (show Kd.R k51 51 w1 w0.heap.size P0_ (.slice (some ⟨g,0,none⟩) m cap) (l.eraseIdx i) from bC);have hb1:=a_ hb1;have hg1:=a_ hg1;have k7:=a_ k6;generalize (if cap=i+1 then some (⟨g,0,none⟩:Addr) else some ⟨g,(i+1) * 3,none⟩)=Aq;clear hAx k3;go_wp2_with (first|((with_reducible refine gate_builtin (b:=.clear) (xs:=#[.tmp 31]) rfl ?_);refine impl_Valve_84.cl k51 w0.heap.size rfl rfl (.tmp 31) 35 51 (.agg #[(.string ⟨#[]⟩),(.string ⟨#[]⟩),(.bool false)]) (w0:=w0) rfl Try.underlying35 Try.zeroValue51 rfl t33_ rfl bC.out k7.out hb1.out (Nat.le_trans hB.out.size hg1.out.size) ?_;intro w2 bD hb2 hg2;have bD:=a_ bD;have hb2:=a_ hb2;have hg2:=a_ hg2));go_ret
    have bo:Kd.R k51 51 w2 w0.heap.size P0_ (.slice (some ⟨g,0,none⟩) m cap) (l.eraseIdx ((i:Nat):Int).toNat):=bD.out;refine ⟨_,rfl,Kd.R_mono bo (fun _ hk=>Or.inl hk),hb2.out,?_⟩;exact Kept.of_grown hg2.out (Kept.of_grown hg1.out (Kept.drew (Kept.refl w (fun k_=>P0_ k_))) (fun k hk=>Or.inl (hok.out k hk))) (fun k hk=>Or.inl (hok.out k hk))
  · rw [if_neg hc] at h
    cases h

-- function 85 is told at each closure that it is handed

def slices_Index_int64_int64.l0:Nat→List Int→Int→Int→Int→Option (Int)
 |0,_,_,_,_=>none
 |k+1,x0,x1,x7,M=>if M<x7 then (if 0≤M then (if M<(x0.length:Int) then (if x1=(rd x0 M) then (some M) else (slices_Index_int64_int64.l0 k x0 x1 x7 (wrap64 (M+1)))) else (none)) else (none)) else (some (-1))
def slices_Index_int64_int64.f (k:Nat) (l:List Int) (u:Int):Option (Int):=slices_Index_int64_int64.l0 k l u (l.length:Int) 0
theorem slices_Index_int64_int64.mono_l:∀ k,(∀ y0 y1 y2 y3,LeO (slices_Index_int64_int64.l0 k y0 y1 y2 y3) (slices_Index_int64_int64.l0 (k+1) y0 y1 y2 y3))
 |0=>fun _ _ _ _ r h=>by simp [slices_Index_int64_int64.l0] at h
 |k+1=>by
  have aL:=slices_Index_int64_int64.mono_l k
  ·intro y0 y1 y2 y3
   unfold slices_Index_int64_int64.l0
   with_reducible repeat' first|exact aL _ _ _ _|exact LeO.refl _|exact LeO.none _|refine LeO.ite ?_ ?_|refine LeO.bind ?_ (fun _=>?_)
theorem slices_Index_int64_int64.mono:∀ a0 u k,LeO (slices_Index_int64_int64.f k a0 u) (slices_Index_int64_int64.f (k+1) a0 u):=by
 intro a0 u k;have aL:=slices_Index_int64_int64.mono_l k;unfold slices_Index_int64_int64.f
 with_reducible repeat' first|exact aL _ _ _ _|exact LeO.refl _|exact LeO.none _|refine LeO.ite ?_ ?_|refine LeO.bind ?_ (fun _=>?_)
theorem slices_Index_int64_int64.calls (k:Nat) (I:Option Addr) (J:Nat) (l:List Int) (u:Int) (r:Int) (w:World) (U:Kd.C (Kd.int .i64) w I l.length l) (T:l.length≤J) (h:slices_Index_int64_int64.f k l u=some r):
  Calls Try.prog 103 #[.slice I l.length J,.int .i64 u] w fun e w'=>e=.returned (.int .i64 r)∧Drawn0 w w':=by
 have aB:=a_ U;have aI:=a_ T;clear U T;have H:(slices_Index_int64_int64.l0 k l u (l.length:Int) 0)=some r:=h;clear h;have H':=a_ H;clear H;go_enter Try.func103,Try.ntmps103;go_wp2;go_loopg [8] k (fun kq v8 w'=>∃ (A:Int),v8=.int .i64 A∧Aside0 (slices_Index_int64_int64.l0 kq l u (l.length:Int) A=some r)∧Aside0 (kq≤k)∧Drawn0 w w')
 case atStart=>exact ⟨(0),t5_,H',⟨Nat.le_refl _⟩,t14_⟩
 case round=>
  clear H';(try clear c1);(try clear p2);obtain ⟨A,rfl,HA,HK1,⟨m1,rfl⟩⟩:=hrel;cases gk with
  |zero=>exact absurd HA.out (by simp [slices_Index_int64_int64.l0])
  |succ k1=>
   have H:=HA.out;clear HA;simp only [slices_Index_int64_int64.l0] at H;by_cases c3:A<(l.length:Int)
   ·rw [if_pos c3] at H;have b6:decide (A<(l.length:Int))=true:=d1_ c3;clear c3;by_cases O:0≤A
    ·rw [if_pos O] at H;have bP:decide (0≤A)=true:=d1_ O;clear O;by_cases L:A<(l.length:Int)
     ·rw [if_pos L] at H;have b7:decide (A<(l.length:Int))=true:=d1_ L;clear L;by_cases c6:u=(rd l A)
      ·rw [if_pos c6] at H;have bQ:(u==(rd l A))=true:=b1_ c6;have bR:(u !=(rd l A))=false:=b4_ c6;clear c6;obtain rfl:=Option.some.inj H;have aM:0≤(A:Int):=od_;have aP:A<(l.length:Int):=od_;obtain ⟨bg,b8,bq⟩:=Kd.at_int aB.out A aM aP;cases b8;replace aM:=eq_true aM;replace aP:=eq_true aP;go_wp2;go_ret
       exact ⟨t5_,t14_⟩
      ·rw [if_neg c6] at H;have bQ:(u==(rd l A))=false:=b2_ c6;have bR:(u !=(rd l A))=true:=b3_ c6;have H':=a_ H;clear H;have aM:0≤(A:Int):=od_;have aP:A<(l.length:Int):=od_;obtain ⟨bg,b8,bq⟩:=Kd.at_int aB.out A aM aP;cases b8;replace aM:=eq_true aM;replace aP:=eq_true aP;go_wp2;go_roundg k1
       case measure=>have:=HK1.out;omega
       case rel=>exact ⟨(wrap64 (A+1)),t5_,H',⟨t58_⟩,t14_⟩
     ·rw [if_neg L] at H;exact absurd H t62_
    ·rw [if_neg O] at H;exact absurd H t62_
   ·rw [if_neg c3] at H;have b6:decide (A<(l.length:Int))=false:=d2_ c3;clear c3;obtain rfl:=Option.some.inj H;go_wp2;go_ret
    exact ⟨t5_,t14_⟩

def slices_Contains_int64_int64.f (k:Nat) (l:List Int) (u:Int):Option (Bool):=(slices_Index_int64_int64.f k l u).bind fun ap=>(some (decide (ap≥0)))
theorem slices_Contains_int64_int64.mono:∀ a0 u k,LeO (slices_Contains_int64_int64.f k a0 u) (slices_Contains_int64_int64.f (k+1) a0 u):=by
 intro a0 u k;unfold slices_Contains_int64_int64.f
 with_reducible repeat' first|exact slices_Index_int64_int64.mono _ _ _|exact LeO.refl _|exact LeO.none _|refine LeO.ite ?_ ?_|refine LeO.bind ?_ (fun _=>?_)
theorem slices_Contains_int64_int64.calls (k:Nat) (I:Option Addr) (J:Nat) (l:List Int) (u:Int) (r:Bool) (w:World) (U:Kd.C (Kd.int .i64) w I l.length l) (T:l.length≤J) (h:slices_Contains_int64_int64.f k l u=some r):
  Calls Try.prog 71 #[.slice I l.length J,.int .i64 u] w fun e w'=>e=.returned (.bool r)∧Drawn0 w w':=by
 have aB:=a_ U;have aI:=a_ T;clear U T;have H:((slices_Index_int64_int64.f k l u).bind fun ap=>(some (decide (ap≥0))))=some r:=h;clear h;replace H:=be_ H;obtain ⟨ap,ac,H⟩:=H;have A3:=a_ ac;clear ac;obtain rfl:=Option.some.inj H;go_enter Try.func71,Try.ntmps71;go_wp2_with (first|((with_reducible refine gate_callee (f:=103) rfl ?_);refine goesL_ (some 7) rfl rfl Try.func103 t15_ rfl #[.slice I l.length J,.int .i64 u] rfl t2_ ?_;(with_reducible refine (slices_Index_int64_int64.calls k _ _ l u ap _ ?Z1 ?Z2 A3.out).mono ?_);(case Z1=>exact qc_ aB.out);(case Z2=>exact aI.out);rintro e w' ⟨rfl,⟨nd,rfl⟩⟩;refine ⟨_,rfl,?_⟩));go_ret
 exact ⟨t5_,t14_⟩

def impl_stands_1.f (ad:ByteArray) (a7:ByteArray) (aJ:Bool) (l1:List ByteArray) (X:List Bool):Option (Bool):=if 0<(l1.length:Int) then (if a7.toList=(rdOf ByteArray.empty l1 0).toList then (if 0<(X.length:Int) then (some (aJ==(rdOf false X 0))) else (none)) else (some false)) else (none)
theorem impl_stands_1.calls (ad:ByteArray) (a7:ByteArray) (aJ:Bool) (A1:Option Addr) (c1:Nat) (l1:List ByteArray) (A2:Option Addr) (c2:Nat) (X:List Bool) (r:Bool) (w:World) (bU:Kd.C Kd.string w A1 l1.length l1) (bS:l1.length≤c1) (bV:Kd.C Kd.bool w A2 X.length X) (bT:X.length≤c2) (h:impl_stands_1.f ad a7 aJ l1 X=some r):
  Calls Try.prog 108 #[.agg #[.string ad,.string a7,.bool aJ],.pointer A1,.pointer A2] w fun e w'=>e=.returned (.bool r)∧Below w.heap.size w w':=by
 have bp:=Try.underlying51;have HR1:=a_ bU;have cC:=a_ bS;clear bU bS;have bf:=a_ bV;have cD:=a_ bT;clear bV bT;have HB:=a_ (Below.refl w.heap.size w);have H:(if 0<(l1.length:Int) then (if a7.toList=(rdOf ByteArray.empty l1 0).toList then (if 0<(X.length:Int) then (some (aJ==(rdOf false X 0))) else (none)) else (some false)) else (none))=some r:=h;clear h;by_cases O:0<(l1.length:Int)
 ·rw [if_pos O] at H;have bP:decide (0<(l1.length:Int))=true:=d1_ O;have cH:decide (0<l1.length)=true:=decide_eq_true t25_;clear O;by_cases L:a7.toList=(rdOf ByteArray.empty l1 0).toList
  ·rw [if_pos L] at H;have b7:(a7.toList==(rdOf ByteArray.empty l1 0).toList)=true:=b1_ L;have bj:(a7.toList !=(rdOf ByteArray.empty l1 0).toList)=false:=b4_ L;clear L;by_cases c6:0<(X.length:Int)
   ·rw [if_pos c6] at H;have bQ:decide (0<(X.length:Int))=true:=d1_ c6;have bR:decide (0<X.length)=true:=decide_eq_true t25_;clear c6;obtain rfl:=Option.some.inj H;go_enter Try.func108,Try.ntmps108;go_wp2_with (first|((with_reducible refine gate_dst (N:=3) rfl ?_);refine box_event ?hg (N:=3) ?hd (cs:=#[.string ad,.string a7,.bool aJ]) (t:=51) ?hr ?_;(case hd=>rfl);(case hg=>rfl);(case hr=>first|(go_simp;done)|(go_simp;rfl));intro ae hg w7 hbox hb;have D:=a_ (below_step t1_ hb);have Y:=a_ (hbox);have Z:=a_ ((by rw [hg];exact (below_size t1_):w.heap.size≤ae));have aD:=a_ ((by rw [hg];exact (below_size t1_):w.heap.size≤ae));clear HB;have HB:=D;have b3:=Y;have be:=Z;have b4:=aD;clear D Y Z aD;clear hb hbox hg;have ⟨cL,cM,cN,cR,cS,cT⟩:=bc3_ b3.out;have aN:0≤(0:Int):=t25_;have aQ:0<(l1.length:Int):=od_;obtain ⟨bh,b9,aC⟩:=Kd.at_string HR1.out 0 aN aQ;cases b9;have bs:(0<l1.length)=True:=eq_true t25_;(try rw [show ((0:Int)).toNat=0 from rfl] at aC);(try rw [Addr.add_zero'] at aC);replace aC:=(HB.out.cell (World.block_lt_of_cell? w _ aC)).trans aC;replace aN:=eq_true aN;replace aQ:=eq_true aQ;have bE:0≤(0:Int):=t25_;have bF:0<(X.length:Int):=od_;obtain ⟨cG,bk,ak⟩:=Kd.at_bool bf.out 0 bE bF;cases bk;have cV:(0<X.length)=True:=eq_true t25_;(try rw [show ((0:Int)).toNat=0 from rfl] at ak);(try rw [Addr.add_zero'] at ak);replace ak:=(HB.out.cell (World.block_lt_of_cell? w _ ak)).trans ak;replace bE:=eq_true bE;replace bF:=eq_true bF));go_ret
    exact ⟨t3_,(by repeat (first|(with_reducible first|exact HB.out|apply below_alloc|apply pw_below_drewN|apply below_drew1|refine below_set ?_ b4.out)|exact HB.out))⟩
   ·rw [if_neg c6] at H;exact absurd H t62_
  ·rw [if_neg L] at H;have b7:(a7.toList==(rdOf ByteArray.empty l1 0).toList)=false:=b2_ L;have bj:(a7.toList !=(rdOf ByteArray.empty l1 0).toList)=true:=b3_ L;obtain rfl:=Option.some.inj H;go_enter Try.func108,Try.ntmps108;go_wp2_with (first|((with_reducible refine gate_dst (N:=3) rfl ?_);refine box_event ?hg (N:=3) ?hd (cs:=#[.string ad,.string a7,.bool aJ]) (t:=51) ?hr ?_;(case hd=>rfl);(case hg=>rfl);(case hr=>first|(go_simp;done)|(go_simp;rfl));intro ae hg w9 hbox hb;have D:=a_ (below_step t1_ hb);have Y:=a_ (hbox);have Z:=a_ ((by rw [hg];exact (below_size t1_):w.heap.size≤ae));have aD:=a_ ((by rw [hg];exact (below_size t1_):w.heap.size≤ae));clear HB;have HB:=D;have b3:=Y;have be:=Z;have b4:=aD;clear D Y Z aD;clear hb hbox hg;have ⟨cI,cJ,cK,cO,cP,cQ⟩:=bc3_ b3.out;have aN:0≤(0:Int):=t25_;have aQ:0<(l1.length:Int):=od_;obtain ⟨bh,b9,aC⟩:=Kd.at_string HR1.out 0 aN aQ;cases b9;have bs:(0<l1.length)=True:=eq_true t25_;(try rw [show ((0:Int)).toNat=0 from rfl] at aC);(try rw [Addr.add_zero'] at aC);replace aC:=(HB.out.cell (World.block_lt_of_cell? w _ aC)).trans aC;replace aN:=eq_true aN;replace aQ:=eq_true aQ));go_ret
   exact ⟨t3_,(by repeat (first|(with_reducible first|exact HB.out|apply below_alloc|apply pw_below_drewN|apply below_drew1|refine below_set ?_ b4.out)|exact HB.out))⟩
 ·rw [if_neg O] at H;exact absurd H t62_

def impl_Valve_107_c108.l0:Nat→List (S51)→Int→Int→List ByteArray→List Bool→Option (Int)
 |0,_,_,_,_,_=>none
 |k+1,x0,x7,M,bb,bc=>if M<x7 then (if 0≤M then (if M<(x0.length:Int) then ((impl_stands_1.f ((rd_T51 x0 M).f0) ((rd_T51 x0 M).f1) ((rd_T51 x0 M).f2) bb bc).bind fun bG=>(if bG=true then (some M) else (impl_Valve_107_c108.l0 k x0 x7 (wrap64 (M+1)) bb bc))) else (none)) else (none)) else (some (-1))
def impl_Valve_107_c108.f (k:Nat) (l:List (S51)) (E:List ByteArray) (G:List Bool):Option (Int):=impl_Valve_107_c108.l0 k l (l.length:Int) 0 E G
theorem impl_Valve_107_c108.mono_l:∀ k,(∀ y0 y1 y2 y3 y4,LeO (impl_Valve_107_c108.l0 k y0 y1 y2 y3 y4) (impl_Valve_107_c108.l0 (k+1) y0 y1 y2 y3 y4))
 |0=>fun _ _ _ _ _ r h=>by simp [impl_Valve_107_c108.l0] at h
 |k+1=>by
  have aL:=impl_Valve_107_c108.mono_l k
  ·intro y0 y1 y2 y3 y4
   unfold impl_Valve_107_c108.l0
   with_reducible repeat' first|exact aL _ _ _ _ _|exact LeO.refl _|exact LeO.none _|refine LeO.ite ?_ ?_|refine LeO.bind ?_ (fun _=>?_)
theorem impl_Valve_107_c108.mono:∀ a0 u B k,LeO (impl_Valve_107_c108.f k a0 u B) (impl_Valve_107_c108.f (k+1) a0 u B):=by
 intro a0 u B k;have aL:=impl_Valve_107_c108.mono_l k;unfold impl_Valve_107_c108.f
 with_reducible repeat' first|exact aL _ _ _ _ _|exact LeO.refl _|exact LeO.none _|refine LeO.ite ?_ ?_|refine LeO.bind ?_ (fun _=>?_)
theorem impl_Valve_107_c108.calls (k:Nat) (I:Option Addr) (J:Nat) (l:List (S51)) (aW:Option Addr) (aY:Nat) (E:List ByteArray) (aX:Option Addr) (aZ:Nat) (G:List Bool) (r:Int) (w:World) (U:Kd.C k51 w I l.length l) (T:l.length≤J) (ai:Kd.C Kd.string w aW E.length E) (ag:E.length≤aY) (aj:Kd.C Kd.bool w aX G.length G) (ah:G.length≤aZ) (h:impl_Valve_107_c108.f k l E G=some r):
  Calls Try.prog 107 #[.slice I l.length J,.func (.func 108) #[] #[.pointer aW,.pointer aX]] w fun e w'=>e=.returned (.int .i64 r)∧Below w.heap.size w w':=by
 have bp:=Try.underlying51;have aB:=a_ U;have aI:=a_ T;clear U T;have ay:=a_ ai;have aw:=a_ ag;clear ai ag;have az:=a_ aj;have ax:=a_ ah;clear aj ah;have HB:=a_ (Below.refl w.heap.size w);have H:(impl_Valve_107_c108.l0 k l (l.length:Int) 0 E G)=some r:=h;clear h;have H':=a_ H;clear H;go_enter Try.func107,Try.ntmps107;go_wp2;go_loopg [8] k (fun kq v8 w'=>∃ (A:Int),v8=.int .i64 A∧Aside0 (impl_Valve_107_c108.l0 kq l (l.length:Int) A E G=some r)∧Aside0 (kq≤k)∧Aside0 (Below w.heap.size w w'))
 case atStart=>exact ⟨(0),t5_,H',⟨Nat.le_refl _⟩,⟨t1_⟩⟩
 case round=>
  clear H';(try clear c1);(try clear p2);obtain ⟨A,rfl,HA,HK1,HB⟩:=hrel;cases gk with
  |zero=>exact absurd HA.out (by simp [impl_Valve_107_c108.l0])
  |succ k1=>
   have H:=HA.out;clear HA;simp only [impl_Valve_107_c108.l0] at H;by_cases c3:A<(l.length:Int)
   ·rw [if_pos c3] at H;have b6:decide (A<(l.length:Int))=true:=d1_ c3;clear c3;by_cases O:0≤A
    ·rw [if_pos O] at H;have bP:decide (0≤A)=true:=d1_ O;clear O;by_cases L:A<(l.length:Int)
     ·rw [if_pos L] at H;have b7:decide (A<(l.length:Int))=true:=d1_ L;clear L;replace H:=be_ H;obtain ⟨bG,bN,H⟩:=H;have A6:=a_ bN;clear bN;by_cases c7:bG=true
      ·subst c7;replace H:=(if_pos rfl).symm.trans H;obtain rfl:=Option.some.inj H;have aO:0≤(A:Int):=od_;have aR:A<(l.length:Int):=od_;obtain ⟨bi,bA,am,an,ao⟩:=at_T51 aB.out A aO aR;cases bA;replace am:=hb_ HB am;replace an:=hb_ HB an;replace ao:=hb_ HB ao;replace aO:=eq_true aO;replace aR:=eq_true aR;go_wp2_with (first|(go_at_call 108;(with_reducible refine (impl_stands_1.calls ((rd_T51 l A).f0) ((rd_T51 l A).f1) ((rd_T51 l A).f2) _ aY E _ aZ G true _ ?Z1 ?Z2 ?Z3 ?Z4 A6.out).mono ?_);(case Z1=>exact qc_ (Kd.C_below ay.out HB.out));(case Z2=>exact aw.out);(case Z3=>exact qc_ (Kd.C_below az.out HB.out));(case Z4=>exact ax.out);rintro e w8 ⟨rfl,hb⟩;have D:=a_ (below_step t1_ hb);clear HB;have HB:=D;clear D;(try clear hb);(try clear hb2);(try clear hk);(try clear hi)));go_ret
       exact ⟨t3_,t1_⟩
      ·replace c7:=Bool.eq_false_iff.mpr c7;subst c7;replace H:=(if_neg (show ¬ (false=true) by decide)).symm.trans H;have H':=a_ H;clear H;have aO:0≤(A:Int):=od_;have aR:A<(l.length:Int):=od_;obtain ⟨bi,bA,am,an,ao⟩:=at_T51 aB.out A aO aR;cases bA;replace am:=hb_ HB am;replace an:=hb_ HB an;replace ao:=hb_ HB ao;replace aO:=eq_true aO;replace aR:=eq_true aR;go_wp2_with (first|(go_at_call 108;(with_reducible refine (impl_stands_1.calls ((rd_T51 l A).f0) ((rd_T51 l A).f1) ((rd_T51 l A).f2) _ aY E _ aZ G false _ ?Z1 ?Z2 ?Z3 ?Z4 A6.out).mono ?_);(case Z1=>exact qc_ (Kd.C_below ay.out HB.out));(case Z2=>exact aw.out);(case Z3=>exact qc_ (Kd.C_below az.out HB.out));(case Z4=>exact ax.out);rintro e w9 ⟨rfl,hb⟩;have D:=a_ (below_step t1_ hb);clear HB;have HB:=D;clear D;(try clear hb);(try clear hb2);(try clear hk);(try clear hi)));go_roundg k1
       case measure=>have:=HK1.out;omega
       case rel=>exact ⟨(wrap64 (A+1)),t5_,H',⟨t58_⟩,⟨t1_⟩⟩
     ·rw [if_neg L] at H;exact absurd H t62_
    ·rw [if_neg O] at H;exact absurd H t62_
   ·rw [if_neg c3] at H;have b6:decide (A<(l.length:Int))=false:=d2_ c3;clear c3;obtain rfl:=Option.some.inj H;go_wp2;go_ret
    exact ⟨t3_,t1_⟩

def impl_Valve_77_c108.f (k:Nat) (l:List (S51)) (E:List ByteArray) (G:List Bool):Option (Bool):=(impl_Valve_107_c108.f k l E G).bind fun aq=>(some (decide (aq≥0)))
theorem impl_Valve_77_c108.mono:∀ a0 u B k,LeO (impl_Valve_77_c108.f k a0 u B) (impl_Valve_77_c108.f (k+1) a0 u B):=by
 intro a0 u B k;unfold impl_Valve_77_c108.f
 with_reducible repeat' first|exact impl_Valve_107_c108.mono _ _ _ _|exact LeO.refl _|exact LeO.none _|refine LeO.ite ?_ ?_|refine LeO.bind ?_ (fun _=>?_)
theorem impl_Valve_77_c108.calls (k:Nat) (I:Option Addr) (J:Nat) (l:List (S51)) (aW:Option Addr) (aY:Nat) (E:List ByteArray) (aX:Option Addr) (aZ:Nat) (G:List Bool) (r:Bool) (w:World) (U:Kd.C k51 w I l.length l) (T:l.length≤J) (ai:Kd.C Kd.string w aW E.length E) (ag:E.length≤aY) (aj:Kd.C Kd.bool w aX G.length G) (ah:G.length≤aZ) (h:impl_Valve_77_c108.f k l E G=some r):
  Calls Try.prog 77 #[.slice I l.length J,.func (.func 108) #[] #[.pointer aW,.pointer aX]] w fun e w'=>e=.returned (.bool r)∧Below w.heap.size w w':=by
 have aB:=a_ U;have aI:=a_ T;clear U T;have ay:=a_ ai;have aw:=a_ ag;clear ai ag;have az:=a_ aj;have ax:=a_ ah;clear aj ah;have HB:=a_ (Below.refl w.heap.size w);have H:((impl_Valve_107_c108.f k l E G).bind fun aq=>(some (decide (aq≥0))))=some r:=h;clear h;replace H:=be_ H;obtain ⟨aq,ac,H⟩:=H;have A3:=a_ ac;clear ac;obtain rfl:=Option.some.inj H;go_enter Try.func77,Try.ntmps77;go_wp2_with (first|((with_reducible refine gate_callee (f:=107) rfl ?_);refine goesL_ (some 7) rfl rfl Try.func107 t15_ rfl #[.slice I l.length J,.func (.func 108) #[] #[.pointer aW,.pointer aX]] rfl t2_ ?_;(with_reducible refine (impl_Valve_107_c108.calls k _ _ l _ aY E _ aZ G aq _ ?Z1 ?Z2 ?Z3 ?Z4 ?Z5 ?Z6 A3.out).mono ?_);(case Z1=>exact qc_ aB.out);(case Z2=>exact aI.out);(case Z3=>exact qc_ ay.out);(case Z4=>exact aw.out);(case Z5=>exact qc_ az.out);(case Z6=>exact ax.out);rintro e w4 ⟨rfl,hb⟩;refine ⟨_,rfl,?_⟩;have D:=a_ (below_step t1_ hb);clear HB;have HB:=D;clear D;(try clear hb);(try clear hb2);(try clear hk);(try clear hi)));go_ret
 exact ⟨t3_,t1_⟩

def impl_stands.f (k:Nat) (l:List (S51)) (u:ByteArray) (B:Bool):Option (Bool):=(impl_Valve_77_c108.f k l [u] [B]).bind fun ar=>(some ar)
theorem impl_stands.mono:∀ a0 u B k,LeO (impl_stands.f k a0 u B) (impl_stands.f (k+1) a0 u B):=by
 intro a0 u B k;unfold impl_stands.f
 with_reducible repeat' first|exact impl_Valve_77_c108.mono _ _ _ _|exact LeO.refl _|exact LeO.none _|refine LeO.ite ?_ ?_|refine LeO.bind ?_ (fun _=>?_)
theorem impl_stands.calls (k:Nat) (I:Option Addr) (J:Nat) (l:List (S51)) (u:ByteArray) (B:Bool) (r:Bool) (w:World) (U:Kd.C k51 w I l.length l) (T:l.length≤J) (h:impl_stands.f k l u B=some r):
  Calls Try.prog 79 #[.slice I l.length J,.string u,.bool B] w fun e w'=>e=.returned (.bool r)∧Below w.heap.size w w':=by
 have aB:=a_ U;have aI:=a_ T;clear U T;have HB:=a_ (Below.refl w.heap.size w);have H:((impl_Valve_77_c108.f k l [u] [B]).bind fun ar=>(some ar))=some r:=h;clear h;replace H:=be_ H;obtain ⟨ar,bL,H⟩:=H;have A4:=a_ bL;clear bL;obtain rfl:=Option.some.inj H;go_enter Try.func79,Try.ntmps79;go_wp2_with (first|((with_reducible refine gate_dst (N:=4) rfl ?_);refine box_event ?hg (N:=4) ?hd (cs:=#[.string u]) (t:=9) ?hr ?_;(case hd=>rfl);(case hg=>rfl);(case hr=>first|(go_simp;done)|(go_simp;rfl));intro aG hg w5 hbox hb;have D:=a_ (below_step t1_ hb);have Y:=a_ (hbox);have Z:=a_ ((by rw [hg];exact (below_size t1_):w.heap.size≤aG));have aD:=a_ ((by rw [hg];exact (below_size t1_):w.heap.size≤aG));clear HB;have HB:=D;have aF:=Y;have cA:=Z;have GE395:=aD;clear D Y Z aD;clear hb hbox hg)|((with_reducible refine gate_dst (N:=5) rfl ?_);refine box_event ?hg (N:=5) ?hd (cs:=#[.bool B]) (t:=4) ?hr ?_;(case hd=>rfl);(case hg=>rfl);(case hr=>first|(go_simp;done)|(go_simp;rfl));intro ab hg w6 hbox hb;have D:=a_ (blk_below (g:=aG) (o:=.cells #[.string u] 9 (0,0)) (q1_ aF.out) hb);have Y:=a_ (below_step t85_ hb);have Z:=a_ (hbox);have aD:=a_ ((by rw [hg];exact (below_size t85_):w.heap.size≤ab));have bW:=a_ ((by rw [hg];exact (below_size t85_):w.heap.size≤ab));have bX:=a_ ((by rw [hg];exact Nat.ne_of_lt (blk_lt (g:=aG) (o:=.cells #[.string u] 9 (0,0)) (q1_ aF.out)):aG≠ab));have bY:=a_ ((by rw [hg];exact Nat.ne_of_gt (blk_lt (g:=aG) (o:=.cells #[.string u] 9 (0,0)) (q1_ aF.out)):ab≠aG));clear aF;clear HB;have aF:=D;have HB:=Y;have av:=Z;have cB:=aD;have bO:=bW;have cE:=bX;have cF:=bY;clear D Y Z aD bW bX bY;clear hb hbox hg)|((with_reducible refine gate_callee (f:=77) rfl ?_);refine goesL_ (some 9) rfl rfl Try.func77 t15_ rfl #[.slice I l.length J,.func (.func 108) #[] #[.pointer (some ⟨aG,0,none⟩),.pointer (some ⟨ab,0,none⟩)]] rfl t2_ ?_;(with_reducible refine (impl_Valve_77_c108.calls k _ _ l _ 1 [u] _ 1 [B] ar _ ?Z1 ?Z2 ?Z3 ?Z4 ?Z5 ?Z6 A4.out).mono ?_);(case Z1=>exact qc_ (Kd.C_below aB.out HB.out));(case Z2=>exact aI.out);(case Z3=>exact Kd.C_one (d:=Kd.string) (rfl) (cells_blk (cs:=#[.string u]) (t:=9) (q1_ aF.out)));(case Z4=>exact Nat.le_refl _);(case Z5=>exact Kd.C_one (d:=Kd.bool) (rfl) (cells_blk (cs:=#[.bool B]) (t:=4) (q1_ av.out)));(case Z6=>exact Nat.le_refl _);rintro e w7 ⟨rfl,hb⟩;refine ⟨_,rfl,?_⟩;have D:=a_ (blk_below (g:=aG) (o:=.cells #[.string u] 9 (0,0)) (q1_ aF.out) hb);have Y:=a_ (blk_below (g:=ab) (o:=.cells #[.bool B] 4 (0,0)) (q1_ av.out) hb);have Z:=a_ (below_step (by repeat (first|(with_reducible first|exact HB.out|apply below_alloc|apply pw_below_drewN|apply below_drew1|refine below_set ?_ GE395.out|refine below_set ?_ bO.out)|exact HB.out)) hb);clear aF;clear av;clear HB;have aF:=D;have av:=Y;have HB:=Z;clear D Y Z;(try clear hb);(try clear hb2);(try clear hk);(try clear hi)));go_ret
 exact ⟨t3_,(by repeat (first|(with_reducible first|exact HB.out|apply below_alloc|apply pw_below_drewN|apply below_drew1|refine below_set ?_ GE395.out|refine below_set ?_ bO.out)|exact HB.out))⟩

-- function 151 is told with the one that calls it

-- function 141 is told with the one that calls it

-- function 135 is told with the one that calls it

-- function 146 is told with the one that calls it

-- function 136 is told with the one that calls it

-- function 144 is told with the one that calls it

-- function 145 is told with the one that calls it

-- function 129 is told with the one that calls it

-- function 147 is told with the one that calls it

-- function 148 is told with the one that calls it

-- function 137 is told with the one that calls it

-- function 152 is told with the one that calls it

-- function 150 is told with the one that calls it

-- function 149 is told with the one that calls it

-- function 138 is told with the one that calls it

-- function 139 is told with the one that calls it

-- function 140 is told with the one that calls it

-- function 142 is told with the one that calls it

-- function 143 is told with the one that calls it

-- function 128 is told with the one that calls it

def lsort__ren:Go.Shelf.Ren:=⟨fun|5=>102|8=>129|7=>128|19=>144|20=>145|10=>135|11=>136|12=>137|13=>138|14=>139|15=>140|16=>141|17=>142|18=>143|30=>146|31=>147|32=>148|33=>149|34=>150|35=>151|40=>152|n=>n,fun|23=>22|25=>2|3=>3|32=>156|22=>22|0=>0|44=>170|46=>140|4=>4|36=>162|35=>161|41=>167|5=>5|9=>9|53=>172|57=>176|63=>178|64=>179|n=>n,fun|n=>n⟩
theorem lsort_:Go.Proofs.SlLaysM.n5 Try.prog lsort__ren:={
  mixed:=by kernel_rfl
  f5:=⟨Try.f102.name,t33_,Try.func102.trans (congrArg some t15_)⟩
  f7:=⟨Try.f128.name,t33_,Try.func128.trans (congrArg some t15_)⟩
  f8:=Try.func129.trans (congrArg some t15_)
  f10:=⟨Try.f135.name,t33_,Try.func135.trans (congrArg some t15_)⟩
  f11:=⟨Try.f136.name,t33_,Try.func136.trans (congrArg some t15_)⟩
  f12:=⟨Try.f137.name,t33_,Try.func137.trans (congrArg some t15_)⟩
  f13:=⟨Try.f138.name,t33_,Try.func138.trans (congrArg some t15_)⟩
  f14:=⟨Try.f139.name,t33_,Try.func139.trans (congrArg some t15_)⟩
  f15:=⟨Try.f140.name,t33_,Try.func140.trans (congrArg some t15_)⟩
  f16:=⟨Try.f141.name,t33_,Try.func141.trans (congrArg some t15_)⟩
  f17:=⟨Try.f142.name,t33_,Try.func142.trans (congrArg some t15_)⟩
  f18:=⟨Try.f143.name,t33_,Try.func143.trans (congrArg some t15_)⟩
  f19:=Try.func144.trans (congrArg some t15_)
  f20:=Try.func145.trans (congrArg some t15_)
  f30:=⟨Try.f146.name,t33_,Try.func146.trans (congrArg some t15_)⟩
  f31:=Try.func147.trans (congrArg some t15_)
  f32:=Try.func148.trans (congrArg some t15_)
  f33:=⟨Try.f149.name,t33_,Try.func149.trans (congrArg some t15_)⟩
  f34:=⟨Try.f150.name,t33_,Try.func150.trans (congrArg some t15_)⟩
  f35:=⟨Try.f151.name,t33_,Try.func151.trans (congrArg some t15_)⟩
  f40:=⟨Try.f152.name,t33_,Try.func152.trans (congrArg some t15_)⟩
  t0:=Try.underlying0
  a0:=Try.isAgg0
  z0:=Try.sizeOf0
  v0:=Try.zeroValue0
  t3:=Try.underlying3
  a3:=Try.isAgg3
  z3:=Try.sizeOf3
  v3:=Try.zeroValue3
  t4:=Try.underlying4
  a4:=Try.isAgg4
  z4:=Try.sizeOf4
  v4:=Try.zeroValue4
  t5:=Try.underlying5
  a5:=Try.isAgg5
  z5:=Try.sizeOf5
  v5:=Try.zeroValue5
  t9:=Try.underlying9
  a9:=Try.isAgg9
  z9:=Try.sizeOf9
  v9:=Try.zeroValue9
  t22:=Try.underlying22
  a22:=Try.isAgg22
  z22:=Try.sizeOf22
  v22:=Try.zeroValue22
  t23:=Try.underlying22
  a23:=Try.isAgg22
  z23:=Try.sizeOf22
  v23:=Try.zeroValue22
  t25:=Try.underlying2
  a25:=Try.isAgg2
  z25:=Try.sizeOf2
  v25:=Try.zeroValue2
  t32:=Try.underlying156
  a32:=Try.isAgg156
  z32:=Try.sizeOf156
  v32:=Try.zeroValue156
  t35:=Try.underlying161
  a35:=Try.isAgg161
  z35:=Try.sizeOf161
  v35:=Try.zeroValue161
  t36:=Try.underlying162
  a36:=Try.isAgg162
  z36:=Try.sizeOf162
  v36:=Try.zeroValue162
  t41:=Try.underlying167
  a41:=Try.isAgg167
  z41:=Try.sizeOf167
  v41:=Try.zeroValue167
  t44:=Try.underlying170
  a44:=Try.isAgg170
  z44:=Try.sizeOf170
  v44:=Try.zeroValue170
  t46:=Try.underlying140
  a46:=Try.isAgg140
  z46:=Try.sizeOf140
  v46:=Try.zeroValue140
  t53:=Try.underlying172
  a53:=Try.isAgg172
  z53:=Try.sizeOf172
  v53:=Try.zeroValue172
  t57:=Try.underlying176
  a57:=Try.isAgg176
  z57:=Try.sizeOf176
  v57:=Try.zeroValue176
  t63:=Try.underlying178
  a63:=Try.isAgg178
  z63:=Try.sizeOf178
  v63:=Try.zeroValue178
  t64:=Try.underlying179
  a64:=Try.isAgg179
  z64:=Try.sizeOf179
  v64:=Try.zeroValue179 }

/-- slices.Sort: the row in order. -/
def slices_Sort_int64_int64.f (l:List Int):Option (List Int):=if l.length<4611686018427387904 then some (l.mergeSort fun x y=>decide (x≤y)) else none
theorem slices_Sort_int64_int64.calls (P0_:Nat→Prop) (u9000_:Value) (l:List Int) (r:List Int) (w0 w:World) (hB:Below w0.heap.size w0 w) (aE:Kd.R (Kd.int .i64) 2 w w0.heap.size P0_ u9000_ l) (h:slices_Sort_int64_int64.f l=some r):
    Calls Try.prog 102 #[u9000_] w fun e w'=>e=.returned (.tuple #[])∧Kd.R (Kd.int .i64) 2 w' w0.heap.size (fun k_=>(P0_ k_∨w.heap.size≤k_)) u9000_ r∧Below w0.heap.size w0 w'∧Kept w w' (fun k_=>P0_ k_):=by
  unfold slices_Sort_int64_int64.f at h
  by_cases hs:l.length<4611686018427387904
  · rw [if_pos hs] at h
    obtain rfl:=Option.some.inj h;have hl:(l.mergeSort fun x y=>decide (x≤y)).length=l.length:=List.length_mergeSort l;have hok:=aE.1;have ho:w.ownsRow w0.heap.size 2 1 u9000_ l.length (encs (Value.int .i64) l):=Kd.own_of_R aE;obtain ⟨hlen,hrow⟩:=ho;rcases hrow with ⟨rfl,h0⟩|⟨g,cap,cur,rfl,hg,hblk,hn,hcap,hcur,htake⟩
    · have bn:l=[]:=List.length_eq_zero_iff.1 h0
      subst bn;refine (AnyM.slices_Sort_int_none lsort_ none 0 w).mono ?_;rintro e w' ⟨rfl,rfl⟩;exact ⟨rfl,(by rw [List.mergeSort_nil];exact Kd.R_nil _ _ _ _ _),hB,Kept.refl _ _⟩
    · have hgs:g<w.heap.size:=(Array.getElem?_eq_some_iff.1 hblk).1
      have ht:cur.toList.take l.length=l.map (Value.int .i64):=(by rw [Nat.mul_one] at htake;exact htake);refine (AnyM.slices_Sort_int lsort_ g 0 cap l w (holds_of_blockI hblk ht) hgs hs).mono ?_;rintro e w' ⟨rfl,n,os,rfl⟩;have hgr:w.grownBy (Sort.grow (Sort.putRow (Value.int .i64) (Sort.ahead w n) g 0 (l.mergeSort fun x y=>decide (x≤y)).toArray) os) (some g):=grownBy_sortedI _;have hw:=ownsRow_sortedI (n:=n) (os:=os) hl hg hblk hn hcap hcur;refine ⟨rfl,?_,hB.grown hgr hB.size (fun k e=>by cases e;exact hg),⟨hgr.size,fun i hi hni=>hgr.block i hi (fun e=>hni (hok i e.symm))⟩⟩;refine Kd.R_of_own ?_ (fun k hk=>Or.inl (hok k hk));rw [hl];exact hw
  · rw [if_neg hs] at h;cases h

end Go.Proofs.Ytheokilgacmlmaa.PFnExactNeedlessValves
