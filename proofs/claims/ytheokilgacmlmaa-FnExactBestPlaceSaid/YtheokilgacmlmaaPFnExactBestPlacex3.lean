-- written by wip/xprint.py, a program of this session, for this claim; not trusted: Lean checks it.
import Derived.Test.YtheokilgacmlmaaPFnExactBestPlacex0
import Derived.Test.YtheokilgacmlmaaPFnExactBestPlacex2
namespace Go.Proofs.Ytheokilgacmlmaa.PFnExactBestPlace
open Go.RowKit Go.Proofs.YtheokilgacmlmaaW.PrintWords Go.Proofs.YtheokilgacmlmaaW.PrintLast Go.Proofs.YtheokilgacmlmaaW.PrintMore
attribute [local go_sem] leq_less_ max2_int min2_int max_two min_two max_three min_three max_four min_four   -- for this text's walks alone
set_option linter.unusedVariables false
set_option linter.unusedSimpArgs false
set_option maxHeartbeats 8000000
set_option maxRecDepth 100000
def laws_eqValveS.l0:Nat→List (S51)→List (S51)→Int→Option (Bool)
 |0,_,_,_=>none
 |k+1,m,Z,s=>if s<(m.length:Int) then (if 0≤s then (if s<(Z.length:Int) then ((laws_eqValve.f ((rd_T51 m s).f0) ((rd_T51 m s).f1) ((rd_T51 m s).f2) ((rd_T51 Z s).f0) ((rd_T51 Z s).f1) ((rd_T51 Z s).f2)).bind fun bN=>(if bN=true then (laws_eqValveS.l0 k m Z (wrap64 (s+1))) else (some false))) else (none)) else (none)) else (some true)
def laws_eqValveS.f (k:Nat) (d:List (S51)) (l1:List (S51)):Option (Bool):=if (d.length:Int)=(l1.length:Int) then (laws_eqValveS.l0 k d l1 0) else (some false)
theorem laws_eqValveS.mono_l:∀ k,(∀ u x y2,LeO (laws_eqValveS.l0 k u x y2) (laws_eqValveS.l0 (k+1) u x y2))
 |0=>fun _ _ _ r h=>by simp [laws_eqValveS.l0] at h
 |k+1=>by
  have B:=laws_eqValveS.mono_l k
  ·intro u x y2
   unfold laws_eqValveS.l0
   with_reducible repeat' first|exact B _ _ _|exact LeO.refl _|exact LeO.none _|refine LeO.ite ?_ ?_|refine LeO.bind ?_ (fun _=>?_)
theorem laws_eqValveS.mono:∀ b o k,LeO (laws_eqValveS.f k b o) (laws_eqValveS.f (k+1) b o):=by
 intro b o k;have B:=laws_eqValveS.mono_l k;unfold laws_eqValveS.f
 with_reducible repeat' first|exact B _ _ _|exact LeO.refl _|exact LeO.none _|refine LeO.ite ?_ ?_|refine LeO.bind ?_ (fun _=>?_)
def laws_eqValveS.T6:Bool × List (List Nat × List Nat):=(true,[([],[]),([],[]),([0,1],[0,1]),([2],[2]),([],[]),([],[]),([4,5],[4,5]),([6],[6]),([3,7],[3,7]),([8],[8])])
def laws_eqValveS.B6:List Nat:=[0,0,3,7,0,0,48,112,255,511]
theorem laws_eqValveS.tab6:rtab .any (opsOf Try.f19 6)=laws_eqValveS.T6:=by kernel_rfl
theorem laws_eqValveS.bits6:waitsOk laws_eqValveS.T6.2 laws_eqValveS.B6=true:=by kernel_rfl
theorem laws_eqValveS.calls (k:Nat) (A0:Option Addr) (c0:Nat) (d:List (S51)) (A1:Option Addr) (c1:Nat) (l1:List (S51)) (r:Bool) (w:World) (ad:Kd.C k51 w A0 d.length d) (aX:d.length≤c0) (ae:Kd.C k51 w A1 l1.length l1) (aY:l1.length≤c1) (h:laws_eqValveS.f k d l1=some r):
  Calls Try.prog 19 #[.slice A0 d.length c0,.slice A1 l1.length c1] w fun e w'=>e=.returned (.bool r)∧Below w.heap.size w w':=by
 have cN:=Try.underlying51;have a3:=a_ ad;have bk:=a_ aX;clear ad aX;have HR1:=a_ ae;have bl:=a_ aY;clear ae aY;have HB:=a_ (Below.refl w.heap.size w);have H:(if (d.length:Int)=(l1.length:Int) then (laws_eqValveS.l0 k d l1 0) else (some false))=some r:=h;clear h;by_cases l:(d.length:Int)=(l1.length:Int)
 ·rw [if_pos l] at H;have A:((d.length:Int)==(l1.length:Int))=true:=b1_ l;have aB:((d.length:Int)!=(l1.length:Int))=false:=b4_ l;have bc:(d.length==l1.length)=true:=(by first|simpa using l|(simp at l ⊢;omega));clear l;have H':=a_ H;clear H;go_enter Try.func19,Try.ntmps19;go_wp2;go_loopg [5] k (fun kq v5 w'=>∃ (c:Int),v5=.int .i64 c∧Aside0 (laws_eqValveS.l0 kq d l1 c=some r)∧Aside0 (kq≤k)∧Aside0 (Below w.heap.size w w'))
  case atStart=>exact ⟨(0),t5_,H',⟨Nat.le_refl _⟩,⟨t1_⟩⟩
  case round=>
   clear H';(try clear c1);(try clear p2);(try clear l);(try clear A);(try clear aB);(try clear bc);obtain ⟨c,rfl,HA,HK1,HB⟩:=hrel;cases gk with
   |zero=>exact absurd HA.out (by simp [laws_eqValveS.l0])
   |succ k1=>
    have H:=HA.out;clear HA;simp only [laws_eqValveS.l0] at H;by_cases j:c<(d.length:Int)
    ·rw [if_pos j] at H;have J:decide (c<(d.length:Int))=true:=d1_ j;clear j;by_cases q:0≤c
     ·rw [if_pos q] at H;have az:decide (0≤c)=true:=d1_ q;clear q;by_cases L:c<(l1.length:Int)
      ·rw [if_pos L] at H;have bu:decide (c<(l1.length:Int))=true:=d1_ L;clear L;replace H:=be_ H;obtain ⟨bN,aV,H⟩:=H;have A7:=a_ aV;clear aV;by_cases I:bN=true
       ·subst I;replace H:=(if_pos rfl).symm.trans H;have H':=a_ H;clear H;(try go_wp2);have D:=a_ (below_drew1 HB.out);clear HB;have HB:=D;clear D;have aE:0≤(c:Int):=od_;have aJ:c<(d.length:Int):=od_;obtain ⟨y,b8,O,T,U⟩:=at_T51 a3.out c aE aJ;have ah:=U;have ag:=T;have af:=O;cases b8;replace O:=hb_ HB O;replace T:=hb_ HB T;replace U:=hb_ HB U;replace aE:=eq_true aE;replace aJ:=eq_true aJ;have aF:0≤(c:Int):=od_;have aK:c<(l1.length:Int):=od_;obtain ⟨z,b9,W,X,Y⟩:=at_T51 HR1.out c aF aK;have ak:=Y;have aj:=X;have ai:=W;cases b9;replace W:=hb_ HB W;replace X:=hb_ HB X;replace Y:=hb_ HB Y;replace aF:=eq_true aF;replace aK:=eq_true aK;refine start_ (n:=10) (S:=fun w'=>w'.cell? (y.add ((c).toNat * 3))=some (.string ((rd_T51 d c).f0))∧w'.cell? ⟨(y.add ((c).toNat * 3)).block,(y.add ((c).toNat * 3)).off+1,none⟩=some (.string ((rd_T51 d c).f1))∧w'.cell? ⟨(y.add ((c).toNat * 3)).block,(y.add ((c).toNat * 3)).off+2,none⟩=some (.bool ((rd_T51 d c).f2))∧w'.cell? (z.add ((c).toNat * 3))=some (.string ((rd_T51 l1 c).f0))∧w'.cell? ⟨(z.add ((c).toNat * 3)).block,(z.add ((c).toNat * 3)).off+1,none⟩=some (.string ((rd_T51 l1 c).f1))∧w'.cell? ⟨(z.add ((c).toNat * 3)).block,(z.add ((c).toNat * 3)).off+2,none⟩=some (.bool ((rd_T51 l1 c).f2))) (ds:=[]) (tf 0 10) t14_ rfl rfl ⟨(hb_ HB af:),(hb_ HB ag:),(hb_ HB ah:),(hb_ HB ai:),(hb_ HB aj:),(hb_ HB ak:)⟩ (fun hHeld=>?_);refine with_tabW laws_eqValveS.tab6 laws_eqValveS.bits6 (fun HT_ HW_=>?_);generalize wr.drew=w9 at HB O T U W X Y hHeld ⊢;refine px 0 (some 17) (tf 1 10) HT_ ?_;refine px 1 (some 18) (tf 2 10) HT_ ?_;refine px 2 (some 19) (tf 3 10) HT_ ?_;refine px 4 (some 21) (tb 10 23) HT_ ?_;refine px 5 (some 22) (tb 10 55) HT_ ?_;refine px 6 (some 23) (tb 10 119) HT_ ?_;refine tx (v:=?_) 3 (some 20) (tf 7 10) HT_ HW_ hHeld ?_ ?_;rotate_left;(· rintro w' ⟨s0,s1,s2,s3,s4,s5⟩;go_simp;with_reducible rfl);refine tx (v:=?_) 7 (some 24) (tf 8 10) HT_ HW_ hHeld ?_ ?_;rotate_left;(· rintro w' ⟨s0,s1,s2,s3,s4,s5⟩;go_simp;with_reducible rfl);refine one_ (i:=8) (N:=some 25) (tf 9 10) rfl rfl (one_of HT_.out t14_) t49_ (fun K hK=>?_);refine goes_ Try.func34 t14_ rfl #[.agg #[.string ((rd_T51 d c).f0),.string ((rd_T51 d c).f1),.bool ((rd_T51 d c).f2)],.agg #[.string ((rd_T51 l1 c).f0),.string ((rd_T51 l1 c).f1),.bool ((rd_T51 l1 c).f2)]] t142_ rfl rfl t2_ ?_;(with_reducible refine (laws_eqValve.calls ((rd_T51 d c).f0) ((rd_T51 d c).f1) ((rd_T51 d c).f2) ((rd_T51 l1 c).f0) ((rd_T51 l1 c).f1) ((rd_T51 l1 c).f2) true _ A7.out).mono ?_);rintro e cQ ⟨rfl,hb⟩;refine ⟨_,rfl,?_⟩;have D:=a_ (below_step t1_ hb);clear HB;have HB:=D;clear D;(try clear hb);(try clear hb2);(try clear hk);(try clear hi);refine hK.out _ _ ⟨(hb_ HB af:),(hb_ HB ag:),(hb_ HB ah:),(hb_ HB ai:),(hb_ HB aj:),(hb_ HB ak:)⟩ (fun hHeld=>?_);clear hK K;refine norm_ (a':=?_) ?_ ?_;rotate_left
        ·show Act.put _ (some 25) _=_
         simp only [Act.put,List.setIfInBounds_toArray,List.set_cons_zero,List.set_cons_succ,i64_w,i32_w];rfl
        refine px 9 (some 26) (tf 10 10) HT_ ?_;refine done_ (done_of HT_.out t14_) ?_;(try go_wp2);go_roundg k1
        case measure=>have:=HK1.out;omega
        case rel=>exact ⟨(wrap64 (c+1)),t5_,H',⟨t91_⟩,⟨t1_⟩⟩
       ·replace I:=Bool.eq_false_iff.mpr I;subst I;replace H:=(if_neg (show ¬ (false=true) by decide)).symm.trans H;obtain rfl:=Option.some.inj H;(try go_wp2);have D:=a_ (below_drew1 HB.out);clear HB;have HB:=D;clear D;have aE:0≤(c:Int):=od_;have aJ:c<(d.length:Int):=od_;obtain ⟨y,b8,O,T,U⟩:=at_T51 a3.out c aE aJ;have ah:=U;have ag:=T;have af:=O;cases b8;replace O:=hb_ HB O;replace T:=hb_ HB T;replace U:=hb_ HB U;replace aE:=eq_true aE;replace aJ:=eq_true aJ;have aF:0≤(c:Int):=od_;have aK:c<(l1.length:Int):=od_;obtain ⟨z,b9,W,X,Y⟩:=at_T51 HR1.out c aF aK;have ak:=Y;have aj:=X;have ai:=W;cases b9;replace W:=hb_ HB W;replace X:=hb_ HB X;replace Y:=hb_ HB Y;replace aF:=eq_true aF;replace aK:=eq_true aK;refine start_ (n:=10) (S:=fun w'=>w'.cell? (y.add ((c).toNat * 3))=some (.string ((rd_T51 d c).f0))∧w'.cell? ⟨(y.add ((c).toNat * 3)).block,(y.add ((c).toNat * 3)).off+1,none⟩=some (.string ((rd_T51 d c).f1))∧w'.cell? ⟨(y.add ((c).toNat * 3)).block,(y.add ((c).toNat * 3)).off+2,none⟩=some (.bool ((rd_T51 d c).f2))∧w'.cell? (z.add ((c).toNat * 3))=some (.string ((rd_T51 l1 c).f0))∧w'.cell? ⟨(z.add ((c).toNat * 3)).block,(z.add ((c).toNat * 3)).off+1,none⟩=some (.string ((rd_T51 l1 c).f1))∧w'.cell? ⟨(z.add ((c).toNat * 3)).block,(z.add ((c).toNat * 3)).off+2,none⟩=some (.bool ((rd_T51 l1 c).f2))) (ds:=[]) (tf 0 10) t14_ rfl rfl ⟨(hb_ HB af:),(hb_ HB ag:),(hb_ HB ah:),(hb_ HB ai:),(hb_ HB aj:),(hb_ HB ak:)⟩ (fun hHeld=>?_);refine with_tabW laws_eqValveS.tab6 laws_eqValveS.bits6 (fun HT_ HW_=>?_);generalize wr.drew=cR at HB O T U W X Y hHeld ⊢;refine px 0 (some 17) (tf 1 10) HT_ ?_;refine px 1 (some 18) (tf 2 10) HT_ ?_;refine px 2 (some 19) (tf 3 10) HT_ ?_;refine px 4 (some 21) (tb 10 23) HT_ ?_;refine px 5 (some 22) (tb 10 55) HT_ ?_;refine px 6 (some 23) (tb 10 119) HT_ ?_;refine tx (v:=?_) 3 (some 20) (tf 7 10) HT_ HW_ hHeld ?_ ?_;rotate_left;(· rintro w' ⟨s0,s1,s2,s3,s4,s5⟩;go_simp;with_reducible rfl);refine tx (v:=?_) 7 (some 24) (tf 8 10) HT_ HW_ hHeld ?_ ?_;rotate_left;(· rintro w' ⟨s0,s1,s2,s3,s4,s5⟩;go_simp;with_reducible rfl);refine one_ (i:=8) (N:=some 25) (tf 9 10) rfl rfl (one_of HT_.out t14_) t49_ (fun K hK=>?_);refine goes_ Try.func34 t14_ rfl #[.agg #[.string ((rd_T51 d c).f0),.string ((rd_T51 d c).f1),.bool ((rd_T51 d c).f2)],.agg #[.string ((rd_T51 l1 c).f0),.string ((rd_T51 l1 c).f1),.bool ((rd_T51 l1 c).f2)]] t142_ rfl rfl t2_ ?_;(with_reducible refine (laws_eqValve.calls ((rd_T51 d c).f0) ((rd_T51 d c).f1) ((rd_T51 d c).f2) ((rd_T51 l1 c).f0) ((rd_T51 l1 c).f1) ((rd_T51 l1 c).f2) false _ A7.out).mono ?_);rintro e w12 ⟨rfl,hb⟩;refine ⟨_,rfl,?_⟩;have D:=a_ (below_step t1_ hb);clear HB;have HB:=D;clear D;(try clear hb);(try clear hb2);(try clear hk);(try clear hi);refine hK.out _ _ ⟨(hb_ HB af:),(hb_ HB ag:),(hb_ HB ah:),(hb_ HB ai:),(hb_ HB aj:),(hb_ HB ak:)⟩ (fun hHeld=>?_);clear hK K;refine norm_ (a':=?_) ?_ ?_;rotate_left
        ·show Act.put _ (some 25) _=_
         simp only [Act.put,List.setIfInBounds_toArray,List.set_cons_zero,List.set_cons_succ,i64_w,i32_w];rfl
        refine px 9 (some 26) (tf 10 10) HT_ ?_;refine done_ (done_of HT_.out t14_) ?_;(try go_wp2);go_ret
        exact ⟨t3_,t1_⟩
      ·rw [if_neg L] at H;exact absurd H t90_
     ·rw [if_neg q] at H;exact absurd H t90_
    ·rw [if_neg j] at H;have J:decide (c<(d.length:Int))=false:=d2_ j;clear j;obtain rfl:=Option.some.inj H;go_wp2;go_ret
     exact ⟨t3_,t1_⟩
 ·rw [if_neg l] at H;have A:((d.length:Int)==(l1.length:Int))=false:=b2_ l;have aB:((d.length:Int)!=(l1.length:Int))=true:=b3_ l;have bc:(d.length==l1.length)=false:=(by first|simpa using l|(simp at l ⊢;omega));obtain rfl:=Option.some.inj H;go_enter Try.func19,Try.ntmps19;go_wp2;go_ret
  exact ⟨t3_,t1_⟩

def spec_l01Small.f (b:Int):Option (Bool):=if b≥97 then (some (decide (b≤122))) else (some false)
theorem spec_l01Small.calls (b:Int) (r:Bool) (w:World) (h:spec_l01Small.f b=some r):
  Calls Try.prog 104 #[.int .u8 b] w fun e w'=>e=.returned (.bool r)∧Drawn0 w w':=by
 have H:(if b≥97 then (some (decide (b≤122))) else (some false))=some r:=h;clear h;by_cases t:b≥97
 ·rw [if_pos t] at H;have b6:decide (97≤b)=true:=d1_ t;clear t;obtain rfl:=Option.some.inj H;go_enter Try.func104,Try.ntmps104;go_wp2;go_ret
  exact ⟨t5_,t22_⟩
 ·rw [if_neg t] at H;have b6:decide (97≤b)=false:=d2_ t;clear t;obtain rfl:=Option.some.inj H;go_enter Try.func104,Try.ntmps104;go_wp2;go_ret
  exact ⟨t5_,t22_⟩

def spec_l01Digit.f (b:Int):Option (Bool):=if b≥48 then (some (decide (b≤57))) else (some false)
theorem spec_l01Digit.calls (b:Int) (r:Bool) (w:World) (h:spec_l01Digit.f b=some r):
  Calls Try.prog 105 #[.int .u8 b] w fun e w'=>e=.returned (.bool r)∧Drawn0 w w':=by
 have H:(if b≥48 then (some (decide (b≤57))) else (some false))=some r:=h;clear h;by_cases t:b≥48
 ·rw [if_pos t] at H;have b6:decide (48≤b)=true:=d1_ t;clear t;obtain rfl:=Option.some.inj H;go_enter Try.func105,Try.ntmps105;go_wp2;go_ret
  exact ⟨t5_,t22_⟩
 ·rw [if_neg t] at H;have b6:decide (48≤b)=false:=d2_ t;clear t;obtain rfl:=Option.some.inj H;go_enter Try.func105,Try.ntmps105;go_wp2;go_ret
  exact ⟨t5_,t22_⟩

mutual
def spec_l01Name.j0:Nat→ByteArray→Bool→Option (Bool)
 |0,_,_=>none
 |k+1,m,cK=>if cK=true then (some false) else (spec_l01Name.l0 k m 0)
def spec_l01Name.l0:Nat→ByteArray→Int→Option (Bool)
 |0,_,_=>none
 |k+1,m,x3=>if x3<(m.size:Int) then (if 0≤x3 then ((spec_l01Small.f (bt m x3)).bind fun bO=>(if bO=true then (spec_l01Name.l0 k m (wrap64 (x3+1))) else ((spec_l01Digit.f (bt m x3)).bind fun bP=>(if bP=true then (spec_l01Name.l0 k m (wrap64 (x3+1))) else (some false))))) else (none)) else (some true)
end
def spec_l01Name.f (k:Nat) (b:ByteArray):Option (Bool):=if b.toList=([]:List UInt8) then (spec_l01Name.j0 k b true) else (if (b.size:Int) > 10 then (spec_l01Name.j0 k b true) else (if 0<(b.size:Int) then ((spec_l01Small.f (bt b 0)).bind fun aR=>(spec_l01Name.j0 k b (!aR))) else (none)))
theorem spec_l01Name.mono_l:∀ k,(∀ u x,LeO (spec_l01Name.j0 k u x) (spec_l01Name.j0 (k+1) u x))∧(∀ u x,LeO (spec_l01Name.l0 k u x) (spec_l01Name.l0 (k+1) u x))
 |0=>⟨fun _ _ r h=>by simp [spec_l01Name.j0] at h,fun _ _ r h=>by simp [spec_l01Name.l0] at h⟩
 |k+1=>by
  obtain ⟨B,bG⟩:=spec_l01Name.mono_l k
  refine ⟨?_,?_⟩<;>intros<;>first|unfold spec_l01Name.j0|unfold spec_l01Name.l0
  all_goals
   with_reducible repeat' first|exact B _ _|exact bG _ _|exact LeO.refl _|exact LeO.none _|refine LeO.ite ?_ ?_|refine LeO.bind ?_ (fun _=>?_)
theorem spec_l01Name.mono:∀ b k,LeO (spec_l01Name.f k b) (spec_l01Name.f (k+1) b):=by
 intro b k;obtain ⟨B,bG⟩:=spec_l01Name.mono_l k;unfold spec_l01Name.f
 with_reducible repeat' first|exact B _ _|exact bG _ _|exact LeO.refl _|exact LeO.none _|refine LeO.ite ?_ ?_|refine LeO.bind ?_ (fun _=>?_)
theorem spec_l01Name.calls (k:Nat) (b:ByteArray) (r:Bool) (w:World) (h:spec_l01Name.f k b=some r):
  Calls Try.prog 72 #[.string b] w fun e w'=>e=.returned (.bool r)∧Drawn0 w w':=by
 have H:(if b.toList=([]:List UInt8) then (spec_l01Name.j0 k b true) else (if (b.size:Int) > 10 then (spec_l01Name.j0 k b true) else (if 0<(b.size:Int) then ((spec_l01Small.f (bt b 0)).bind fun aR=>(spec_l01Name.j0 k b (!aR))) else (none))))=some r:=h;clear h;have b3:=a_ H;clear H;go_enter Try.func72,Try.ntmps72;go_upto_region 1 with (fail);go_cut [16] (fun cI wc=>∃ (kq:Nat) (b1:Bool),cI=.bool b1∧Aside0 (spec_l01Name.j0 kq b b1=some r)∧Aside0 (kq≤k)∧Drawn0 w wc)
 case first=>
  have H:=b3.out;clear b3;by_cases l:b.toList=([]:List UInt8)
  ·rw [if_pos l] at H;have A:(b.toList==([]:List UInt8))=true:=b1_ l;have aB:(b.toList !=([]:List UInt8))=false:=b4_ l;clear l;(first|rw [A]|(simp only [i64_w,i32_w];rw [A])|skip);have H':=a_ H;clear H;go_wp2;go_meet
   case rel=>exact ⟨_,(true),t5_,H',⟨t94_⟩,t22_⟩
  ·rw [if_neg l] at H;have A:(b.toList==([]:List UInt8))=false:=b2_ l;have aB:(b.toList !=([]:List UInt8))=true:=b3_ l;(first|rw [A]|(simp only [i64_w,i32_w];rw [A])|skip);by_cases j:(b.size:Int) > 10
   ·rw [if_pos j] at H;have J:decide (10<(b.size:Int))=true:=d1_ j;have b7:decide (10<b.size)=true:=decide_eq_true t33_;clear j;have H':=a_ H;clear H;go_wp2;go_meet
    case rel=>exact ⟨_,(true),t5_,H',⟨t94_⟩,t22_⟩
   ·rw [if_neg j] at H;have J:decide (10<(b.size:Int))=false:=d2_ j;have b7:decide (10<b.size)=false:=decide_eq_false t33_;clear j;by_cases q:0<(b.size:Int)
    ·rw [if_pos q] at H;have az:decide (0<(b.size:Int))=true:=d1_ q;have bd:decide (0<b.size)=true:=decide_eq_true t33_;clear q;replace H:=be_ H;obtain ⟨aR,aV,H⟩:=H;have A7:=a_ aV;clear aV;have H':=a_ H;clear H;have p6:0≤(0:Int):=t33_;have q6:0<b.size:=(by have:(0:Int)<(b.size:Int):=od_;omega);have bf:∀ h:0<b.size,((b[0]'h).toNat:Int)=bt b 0:=bt_at b 0;clear p6;have bh:(0<(b.size:Int))=True:=eq_true (od_);replace q6:=eq_true q6;go_wp2_with (first|(go_at_call 104;(with_reducible refine (spec_l01Small.calls (bt b 0) aR _ A7.out).mono ?_);rintro e w' ⟨rfl,⟨nd,rfl⟩⟩));go_meet
     case rel=>exact ⟨_,(!aR),t5_,H',⟨t94_⟩,t22_⟩
    ·rw [if_neg q] at H;exact absurd H t90_
 case rest=>
  clear b3;(try clear p2);(try clear l);(try clear A);(try clear aB);(try clear j);(try clear J);(try clear b7);(try clear q);(try clear az);(try clear bd);(try clear p6);(try clear q6);(try clear bf);(try clear bh);(try clear M);(try clear p6);(try clear q6);obtain ⟨kq,b1,rfl,HA,HJ1,⟨mc1,rfl⟩⟩:=hcut;cases kq with
  |zero=>exact absurd HA.out (by simp [spec_l01Name.j0])
  |succ kj1=>
   have H:=HA.out;clear HA;simp only [spec_l01Name.j0] at H;by_cases I:b1=true
   ·subst I;replace H:=(if_pos rfl).symm.trans H;obtain rfl:=Option.some.inj H;go_wp2;go_ret
    exact ⟨t5_,t22_⟩
   ·replace I:=Bool.eq_false_iff.mpr I;subst I;replace H:=(if_neg (show ¬ (false=true) by decide)).symm.trans H;have H':=a_ H;clear H;go_wp2;go_loopg [3] kj1 (fun kq v3 w'=>∃ (g:Int),v3=.int .i64 g∧Aside0 (spec_l01Name.l0 kq b g=some r)∧Aside0 (kq≤kj1)∧Drawn0 w w')
    case atStart=>exact ⟨(0),t5_,H',⟨Nat.le_refl _⟩,t22_⟩
    case round=>
     clear H';(try clear c1);(try clear p2);(try clear l);(try clear A);(try clear aB);(try clear j);(try clear J);(try clear b7);(try clear q);(try clear az);(try clear bd);(try clear p6);(try clear q6);(try clear bf);(try clear bh);(try clear M);(try clear I);(try clear p2);(try clear p6);(try clear q6);obtain ⟨g,rfl,HA,HK2,⟨m2,rfl⟩⟩:=hrel;cases gk with
     |zero=>exact absurd HA.out (by simp [spec_l01Name.l0])
     |succ k2=>
      have H:=HA.out;clear HA;simp only [spec_l01Name.l0] at H;by_cases c9:g<(b.size:Int)
      ·rw [if_pos c9] at H;have bx:decide (g<(b.size:Int))=true:=d1_ c9;clear c9;by_cases aw:0≤g
       ·rw [if_pos aw] at H;have cL:decide (0≤g)=true:=d1_ aw;clear aw;replace H:=be_ H;obtain ⟨bO,bR,H⟩:=H;have b2:=a_ bR;clear bR;by_cases ax:bO=true
        ·subst ax;replace H:=(if_pos rfl).symm.trans H;have H':=a_ H;clear H;have a8:0≤(g:Int):=od_;have a9:g<(b.size:Int):=od_;have be:=bt_at b g;replace a8:=eq_true a8;replace a9:=eq_true a9;go_wp2_with (first|((with_reducible refine gate_callee (f:=104) rfl ?_);refine goesL_ (some 26) rfl rfl Try.func104 t14_ rfl #[.int .u8 (bt b g)] rfl t2_ ?_;(with_reducible refine (spec_l01Small.calls (bt b g) true _ b2.out).mono ?_);rintro e w' ⟨rfl,⟨nd,rfl⟩⟩;refine ⟨_,rfl,?_⟩));go_roundg k2
         case measure=>have:=HJ1.out;have:=HK2.out;omega
         case rel=>exact ⟨(wrap64 (g+1)),t5_,H',⟨(by have:=HJ1.out;have:=HK2.out;omega)⟩,t22_⟩
        ·replace ax:=Bool.eq_false_iff.mpr ax;subst ax;replace H:=(if_neg (show ¬ (false=true) by decide)).symm.trans H;replace H:=be_ H;obtain ⟨bP,bT,H⟩:=H;have bS:=a_ bT;clear bT;by_cases ay:bP=true
         ·subst ay;replace H:=(if_pos rfl).symm.trans H;have H':=a_ H;clear H;have a8:0≤(g:Int):=od_;have a9:g<(b.size:Int):=od_;have be:=bt_at b g;replace a8:=eq_true a8;replace a9:=eq_true a9;go_wp2_with (first|((with_reducible refine gate_callee (f:=104) rfl ?_);refine goesL_ (some 26) rfl rfl Try.func104 t14_ rfl #[.int .u8 (bt b g)] rfl t2_ ?_;(with_reducible refine (spec_l01Small.calls (bt b g) false _ b2.out).mono ?_);rintro e w' ⟨rfl,⟨nd,rfl⟩⟩;refine ⟨_,rfl,?_⟩;have ao:0≤(g:Int):=od_;have aq:g<(b.size:Int):=od_;have bz:=bt_at b g;replace ao:=eq_true ao;replace aq:=eq_true aq)|(go_at_call 105;(with_reducible refine (spec_l01Digit.calls (bt b g) true _ bS.out).mono ?_);rintro e w' ⟨rfl,⟨nd,rfl⟩⟩));go_roundg k2
          case measure=>have:=HJ1.out;have:=HK2.out;omega
          case rel=>exact ⟨(wrap64 (g+1)),t5_,H',⟨(by have:=HJ1.out;have:=HK2.out;omega)⟩,t22_⟩
         ·replace ay:=Bool.eq_false_iff.mpr ay;subst ay;replace H:=(if_neg (show ¬ (false=true) by decide)).symm.trans H;obtain rfl:=Option.some.inj H;have a8:0≤(g:Int):=od_;have a9:g<(b.size:Int):=od_;have be:=bt_at b g;replace a8:=eq_true a8;replace a9:=eq_true a9;go_wp2_with (first|((with_reducible refine gate_callee (f:=104) rfl ?_);refine goesL_ (some 26) rfl rfl Try.func104 t14_ rfl #[.int .u8 (bt b g)] rfl t2_ ?_;(with_reducible refine (spec_l01Small.calls (bt b g) false _ b2.out).mono ?_);rintro e w' ⟨rfl,⟨nd,rfl⟩⟩;refine ⟨_,rfl,?_⟩;have ao:0≤(g:Int):=od_;have aq:g<(b.size:Int):=od_;have bz:=bt_at b g;replace ao:=eq_true ao;replace aq:=eq_true aq)|(go_at_call 105;(with_reducible refine (spec_l01Digit.calls (bt b g) false _ bS.out).mono ?_);rintro e w' ⟨rfl,⟨nd,rfl⟩⟩));go_ret
          exact ⟨t5_,t22_⟩
       ·rw [if_neg aw] at H;exact absurd H t90_
      ·rw [if_neg c9] at H;have bx:decide (g<(b.size:Int))=false:=d2_ c9;clear c9;obtain rfl:=Option.some.inj H;go_wp2;go_ret
       exact ⟨t5_,t22_⟩

def spec_l18Pipe.l0:Nat→List (S33)→List (S51)→Int→Option (Int)
 |0,_,_,_=>none
 |k+1,m,Z,s=>if 0<(m.length:Int) then (if s<(((rd_T33 m 0).f1).length:Int) then (if 0≤s then (if 0<(Z.length:Int) then (if ((rd_T100 ((rd_T33 m 0).f1) s).f0).toList=((rd_T51 Z 0).f1).toList then (some s) else (spec_l18Pipe.l0 k m Z (wrap64 (s+1)))) else (none)) else (none)) else (some (-1))) else (none)
def spec_l18Pipe.f (k:Nat) (d:List (S33)) (l1:List (S51)):Option (Int):=spec_l18Pipe.l0 k d l1 0
theorem spec_l18Pipe.mono_l:∀ k,(∀ u x y2,LeO (spec_l18Pipe.l0 k u x y2) (spec_l18Pipe.l0 (k+1) u x y2))
 |0=>fun _ _ _ r h=>by simp [spec_l18Pipe.l0] at h
 |k+1=>by
  have B:=spec_l18Pipe.mono_l k
  ·intro u x y2
   unfold spec_l18Pipe.l0
   with_reducible repeat' first|exact B _ _ _|exact LeO.refl _|exact LeO.none _|refine LeO.ite ?_ ?_|refine LeO.bind ?_ (fun _=>?_)
theorem spec_l18Pipe.mono:∀ b o k,LeO (spec_l18Pipe.f k b o) (spec_l18Pipe.f (k+1) b o):=by
 intro b o k;have B:=spec_l18Pipe.mono_l k;unfold spec_l18Pipe.f
 with_reducible repeat' first|exact B _ _ _|exact LeO.refl _|exact LeO.none _|refine LeO.ite ?_ ?_|refine LeO.bind ?_ (fun _=>?_)
theorem spec_l18Pipe.calls (k:Nat) (A0:Option Addr) (c0:Nat) (d:List (S33)) (A1:Option Addr) (c1:Nat) (l1:List (S51)) (r:Int) (w:World) (ad:Kd.C k33 w A0 d.length d) (aX:d.length≤c0) (ae:Kd.C k51 w A1 l1.length l1) (aY:l1.length≤c1) (h:spec_l18Pipe.f k d l1=some r):
  Calls Try.prog 81 #[.pointer A0,.pointer A1] w fun e w'=>e=.returned (.int .i64 r)∧Drawn0 w w':=by
 have a3:=a_ ad;have bk:=a_ aX;clear ad aX;have HR1:=a_ ae;have bl:=a_ aY;clear ae aY;have H:(spec_l18Pipe.l0 k d l1 0)=some r:=h;clear h;have H':=a_ H;clear H;go_enter Try.func81,Try.ntmps81;go_wp2;(repeat (go_quiet (fail);try go_wp2));go_loopg [5] k (fun kq v5 w'=>∃ (c:Int),v5=.int .i64 c∧Aside0 (spec_l18Pipe.l0 kq d l1 c=some r)∧Aside0 (kq≤k)∧Drawn0 w w')
 case atStart=>exact ⟨(0),t5_,H',⟨Nat.le_refl _⟩,t22_⟩
 case round=>
  clear H';(try clear c1);(try clear p2);obtain ⟨c,rfl,HA,HK1,⟨m1,rfl⟩⟩:=hrel;cases gk with
  |zero=>exact absurd HA.out (by simp [spec_l18Pipe.l0])
  |succ k1=>
   have H:=HA.out;clear HA;simp only [spec_l18Pipe.l0] at H;by_cases l:0<(d.length:Int)
   ·rw [if_pos l] at H;have A:decide (0<(d.length:Int))=true:=d1_ l;have aB:decide (0<d.length)=true:=decide_eq_true t33_;clear l;by_cases j:c<(((rd_T33 d 0).f1).length:Int)
    ·rw [if_pos j] at H;have J:decide (c<(((rd_T33 d 0).f1).length:Int))=true:=d1_ j;clear j;by_cases q:0≤c
     ·rw [if_pos q] at H;have az:decide (0≤c)=true:=d1_ q;clear q;by_cases L:0<(l1.length:Int)
      ·rw [if_pos L] at H;have bu:decide (0<(l1.length:Int))=true:=d1_ L;have cM:decide (0<l1.length)=true:=decide_eq_true t33_;clear L;by_cases M:((rd_T100 ((rd_T33 d 0).f1) c).f0).toList=((rd_T51 l1 0).f1).toList
       ·rw [if_pos M] at H;have bv:(((rd_T100 ((rd_T33 d 0).f1) c).f0).toList==((rd_T51 l1 0).f1).toList)=true:=b1_ M;have bw:(((rd_T100 ((rd_T33 d 0).f1) c).f0).toList !=((rd_T51 l1 0).f1).toList)=false:=b4_ M;clear M;obtain rfl:=Option.some.inj H;have E:0≤(0:Int):=t33_;have G:0<(d.length:Int):=od_;obtain ⟨au,bU,ba,bV,bb,aW,aC,aD,a6,a4,a7,a5⟩:=at_T33 a3.out 0 E G;cases aW;have bg:(0<d.length)=True:=eq_true t33_;(try rw [za_] at aC);(try rw [za_] at aD);have bY:=a_ a4;have bW:=a_ a6;clear a4 a6;have bZ:=a_ a5;have bX:=a_ a7;clear a5 a7;replace E:=eq_true E;replace G:=eq_true G;have aG:0≤(0:Int):=t33_;have aL:0<(d.length:Int):=od_;obtain ⟨b5,bi,br,bj,bs,bA,am,an,ab,aZ,ac,aa⟩:=at_T33 a3.out 0 aG aL;obtain rfl:au=b5:=(by injection bA);have cG:(0<d.length)=True:=eq_true t33_;(try rw [za_] at am);(try rw [za_] at an);have bo:=a_ aZ;have bm:=a_ ab;clear aZ ab;have b4:=a_ aa;have bn:=a_ ac;clear aa ac;replace aG:=eq_true aG;replace aL:=eq_true aL;have ea_:=Option.some.inj (aC.symm.trans am);injection ea_ with ea_ en_ ec_;subst ea_;subst ec_;clear en_;have ea_:=Option.some.inj (aD.symm.trans an);injection ea_ with ea_ en_ ec_;subst ea_;subst ec_;clear en_;have aH:0≤(c:Int):=od_;have aM:c<(((rd_T33 d 0).f1).length:Int):=od_;obtain ⟨bp,bB,cA,cB,cC,cD,cE,cF⟩:=at_T100 b4.out c aH aM;cases bB;replace aH:=eq_true aH;replace aM:=eq_true aM;have aI:0≤(0:Int):=t33_;have aN:0<(l1.length:Int):=od_;obtain ⟨bq,bC,bD,bE,bF⟩:=at_T51 HR1.out 0 aI aN;cases bC;have cH:(0<l1.length)=True:=eq_true t33_;(try rw [za_] at bD);(try rw [za_] at bE);(try rw [za_] at bF);replace aI:=eq_true aI;replace aN:=eq_true aN;go_wp2;(repeat (go_quiet (fail);try go_wp2));go_ret
        exact ⟨t5_,t22_⟩
       ·rw [if_neg M] at H;have bv:(((rd_T100 ((rd_T33 d 0).f1) c).f0).toList==((rd_T51 l1 0).f1).toList)=false:=b2_ M;have bw:(((rd_T100 ((rd_T33 d 0).f1) c).f0).toList !=((rd_T51 l1 0).f1).toList)=true:=b3_ M;have H':=a_ H;clear H;have E:0≤(0:Int):=t33_;have G:0<(d.length:Int):=od_;obtain ⟨au,bU,ba,bV,bb,aW,aC,aD,a6,a4,a7,a5⟩:=at_T33 a3.out 0 E G;cases aW;have bg:(0<d.length)=True:=eq_true t33_;(try rw [za_] at aC);(try rw [za_] at aD);have bY:=a_ a4;have bW:=a_ a6;clear a4 a6;have bZ:=a_ a5;have bX:=a_ a7;clear a5 a7;replace E:=eq_true E;replace G:=eq_true G;have aG:0≤(0:Int):=t33_;have aL:0<(d.length:Int):=od_;obtain ⟨b5,bi,br,bj,bs,bA,am,an,ab,aZ,ac,aa⟩:=at_T33 a3.out 0 aG aL;obtain rfl:au=b5:=(by injection bA);have cG:(0<d.length)=True:=eq_true t33_;(try rw [za_] at am);(try rw [za_] at an);have bo:=a_ aZ;have bm:=a_ ab;clear aZ ab;have b4:=a_ aa;have bn:=a_ ac;clear aa ac;replace aG:=eq_true aG;replace aL:=eq_true aL;have ea_:=Option.some.inj (aC.symm.trans am);injection ea_ with ea_ en_ ec_;subst ea_;subst ec_;clear en_;have ea_:=Option.some.inj (aD.symm.trans an);injection ea_ with ea_ en_ ec_;subst ea_;subst ec_;clear en_;have aH:0≤(c:Int):=od_;have aM:c<(((rd_T33 d 0).f1).length:Int):=od_;obtain ⟨bp,bB,cA,cB,cC,cD,cE,cF⟩:=at_T100 b4.out c aH aM;cases bB;replace aH:=eq_true aH;replace aM:=eq_true aM;have aI:0≤(0:Int):=t33_;have aN:0<(l1.length:Int):=od_;obtain ⟨bq,bC,bD,bE,bF⟩:=at_T51 HR1.out 0 aI aN;cases bC;have cH:(0<l1.length)=True:=eq_true t33_;(try rw [za_] at bD);(try rw [za_] at bE);(try rw [za_] at bF);replace aI:=eq_true aI;replace aN:=eq_true aN;go_wp2;(repeat (go_quiet (fail);try go_wp2));go_roundg k1
        case measure=>have:=HK1.out;omega
        case rel=>exact ⟨(wrap64 (c+1)),t5_,H',⟨t91_⟩,t22_⟩
      ·rw [if_neg L] at H;exact absurd H t90_
     ·rw [if_neg q] at H;exact absurd H t90_
    ·rw [if_neg j] at H;have J:decide (c<(((rd_T33 d 0).f1).length:Int))=false:=d2_ j;clear j;obtain rfl:=Option.some.inj H;have E:0≤(0:Int):=t33_;have G:0<(d.length:Int):=od_;obtain ⟨au,bU,ba,bV,bb,aW,aC,aD,a6,a4,a7,a5⟩:=at_T33 a3.out 0 E G;cases aW;have bg:(0<d.length)=True:=eq_true t33_;(try rw [za_] at aC);(try rw [za_] at aD);have bY:=a_ a4;have bW:=a_ a6;clear a4 a6;have bZ:=a_ a5;have bX:=a_ a7;clear a5 a7;replace E:=eq_true E;replace G:=eq_true G;go_wp2;(repeat (go_quiet (fail);try go_wp2));go_ret
     exact ⟨t5_,t22_⟩
   ·rw [if_neg l] at H;exact absurd H t90_

def spec_l00In.f (b:Int) (o:Int) (a2:Int):Option (Bool):=if b≥o then (some (decide (b≤a2))) else (some false)
theorem spec_l00In.calls (b:Int) (o:Int) (a2:Int) (r:Bool) (w:World) (h:spec_l00In.f b o a2=some r):
  Calls Try.prog 98 #[.int .i64 b,.int .i64 o,.int .i64 a2] w fun e w'=>e=.returned (.bool r)∧Drawn0 w w':=by
 have H:(if b≥o then (some (decide (b≤a2))) else (some false))=some r:=h;clear h;by_cases j:b≥o
 ·rw [if_pos j] at H;have J:decide (o≤b)=true:=d1_ j;clear j;obtain rfl:=Option.some.inj H;go_enter Try.func98,Try.ntmps98;go_wp2;go_ret
  exact ⟨t5_,t22_⟩
 ·rw [if_neg j] at H;have J:decide (o≤b)=false:=d2_ j;clear j;obtain rfl:=Option.some.inj H;go_enter Try.func98,Try.ntmps98;go_wp2;go_ret
  exact ⟨t5_,t22_⟩

end Go.Proofs.Ytheokilgacmlmaa.PFnExactBestPlace
