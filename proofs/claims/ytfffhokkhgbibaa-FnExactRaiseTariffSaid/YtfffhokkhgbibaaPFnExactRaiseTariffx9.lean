-- written by wip/xprint.py, a program of this session, for this claim; not trusted: Lean checks it.
import Derived.Test.YtfffhokkhgbibaaPFnExactRaiseTariffx0
namespace Go.Proofs.Ytfffhokkhgbibaa.PFnExactRaiseTariff
open Go.RowKit Go.Proofs.YtfffhokkhgbibaaW.PrintWords Go.Proofs.YtfffhokkhgbibaaW.PrintLast Go.Proofs.YtfffhokkhgbibaaW.PrintMore
attribute [local go_sem] leq_less_ max2_int min2_int max_two min_two max_three min_three max_four min_four   -- for this text's walks alone
set_option linter.unusedVariables false
set_option linter.unusedSimpArgs false
set_option maxHeartbeats 8000000
set_option maxRecDepth 100000
def laws_heldInt64S.l0:Nat→List Int→Int→Int→Option (Int)
 |0,_,_,_=>none
 |k+1,B,L,s=>if s<(B.length:Int) then (if 0≤s then (if (rd B s)=L then (laws_heldInt64S.l0 k B (wrap64 (L+1)) (wrap64 (s+1))) else (some (-1))) else (none)) else (some L)
def laws_heldInt64S.f (k:Nat) (c:List Int) (d:Int):Option (Int):=laws_heldInt64S.l0 k c d 0
theorem laws_heldInt64S.mono_l:∀ k,(∀ D E G,LeO (laws_heldInt64S.l0 k D E G) (laws_heldInt64S.l0 (k+1) D E G))
 |0=>fun _ _ _ r h=>by simp [laws_heldInt64S.l0] at h
 |k+1=>by
  have v:=laws_heldInt64S.mono_l k
  ·intro D E G
   unfold laws_heldInt64S.l0
   with_reducible repeat' first|exact v _ _ _|exact LeO.refl _|exact LeO.none _|refine LeO.ite ?_ ?_|refine LeO.bind ?_ (fun _=>?_)
theorem laws_heldInt64S.mono:∀ m d k,LeO (laws_heldInt64S.f k m d) (laws_heldInt64S.f (k+1) m d):=by
 intro m d k;have v:=laws_heldInt64S.mono_l k;unfold laws_heldInt64S.f
 with_reducible repeat' first|exact v _ _ _|exact LeO.refl _|exact LeO.none _|refine LeO.ite ?_ ?_|refine LeO.bind ?_ (fun _=>?_)
theorem laws_heldInt64S.calls (k:Nat) (M:Option Addr) (X:Nat) (c:List Int) (d:Int) (r:Int) (w:World) (a7:Kd.C (Kd.int .i64) w M c.length c) (Z:c.length≤X) (h:laws_heldInt64S.f k c d=some r):
  Calls Try.prog 14 #[.slice M c.length X,.int .i64 d] w fun e w'=>e=.returned (.int .i64 r)∧Drawn0 w w':=by
 have O:=a_ a7;have aa:=a_ Z;clear a7 Z;have H:(laws_heldInt64S.l0 k c d 0)=some r:=h;clear h;have H':=a_ H;clear H;go_enter Try.func14,Try.ntmps14;go_wp2;go_loopg [1,5] k (fun kq v1 v5 w'=>∃ (g:Int) (b:Int),v1=.int .i64 g∧v5=.int .i64 b∧Aside0 (laws_heldInt64S.l0 kq c g b=some r)∧Aside0 (kq≤k)∧Drawn0 w w')
 case atStart=>exact ⟨(d),(0),t4_,t4_,H',⟨Nat.le_refl _⟩,t8_⟩
 case round=>
  clear H';(try clear c1);(try clear p2);obtain ⟨g,b,rfl,rfl,HA,HK1,⟨m1,rfl⟩⟩:=hrel;cases gk with
  |zero=>exact absurd HA.out (by simp [laws_heldInt64S.l0])
  |succ k1=>
   have H:=HA.out;clear HA;simp only [laws_heldInt64S.l0] at H;by_cases l:b<(c.length:Int)
   ·rw [if_pos l] at H;have aL:decide (b<(c.length:Int))=true:=d1_ l;clear l;by_cases i:0≤b
    ·rw [if_pos i] at H;have aM:decide (0≤b)=true:=d1_ i;clear i;by_cases u:(rd c b)=g
     ·rw [if_pos u] at H;have ad:((rd c b)==g)=true:=b1_ u;have ae:((rd c b)!=g)=false:=b4_ u;clear u;have H':=a_ H;clear H;have x:0≤(b:Int):=od_;have z:b<(c.length:Int):=od_;obtain ⟨ab,aN,ag⟩:=Kd.at_int O.out b x z;cases aN;replace x:=eq_true x;replace z:=eq_true z;go_wp2;go_roundg k1
      case measure=>have:=HK1.out;omega
      case rel=>exact ⟨(wrap64 (g+1)),(wrap64 (b+1)),t4_,t4_,H',⟨t64_⟩,t8_⟩
     ·rw [if_neg u] at H;have ad:((rd c b)==g)=false:=b2_ u;have ae:((rd c b)!=g)=true:=b3_ u;obtain rfl:=Option.some.inj H;have x:0≤(b:Int):=od_;have z:b<(c.length:Int):=od_;obtain ⟨ab,aN,ag⟩:=Kd.at_int O.out b x z;cases aN;replace x:=eq_true x;replace z:=eq_true z;go_wp2;go_ret
      exact ⟨t4_,t8_⟩
    ·rw [if_neg i] at H;exact absurd H t63_
   ·rw [if_neg l] at H;have aL:decide (b<(c.length:Int))=false:=d2_ l;clear l;obtain rfl:=Option.some.inj H;go_wp2;go_ret
    exact ⟨t4_,t8_⟩

def laws_heldInt64SS.l0:Nat→List (List Int)→Int→Int→Option (Int)
 |0,_,_,_=>none
 |k+1,B,L,s=>if s<(B.length:Int) then (if 0≤s then ((laws_heldInt64S.f k (rd_L1 B s) L).bind fun q=>(if q<0 then (some (-1)) else (laws_heldInt64SS.l0 k B q (wrap64 (s+1))))) else (none)) else (some L)
def laws_heldInt64SS.f (k:Nat) (c:List (List Int)) (d:Int):Option (Int):=laws_heldInt64SS.l0 k c d 0
theorem laws_heldInt64SS.mono_l:∀ k,(∀ D E G,LeO (laws_heldInt64SS.l0 k D E G) (laws_heldInt64SS.l0 (k+1) D E G))
 |0=>fun _ _ _ r h=>by simp [laws_heldInt64SS.l0] at h
 |k+1=>by
  have v:=laws_heldInt64SS.mono_l k
  ·intro D E G
   unfold laws_heldInt64SS.l0
   with_reducible repeat' first|exact v _ _ _|exact laws_heldInt64S.mono _ _ _|exact LeO.refl _|exact LeO.none _|refine LeO.ite ?_ ?_|refine LeO.bind ?_ (fun _=>?_)
theorem laws_heldInt64SS.mono:∀ m d k,LeO (laws_heldInt64SS.f k m d) (laws_heldInt64SS.f (k+1) m d):=by
 intro m d k;have v:=laws_heldInt64SS.mono_l k;unfold laws_heldInt64SS.f
 with_reducible repeat' first|exact v _ _ _|exact laws_heldInt64S.mono _ _ _|exact LeO.refl _|exact LeO.none _|refine LeO.ite ?_ ?_|refine LeO.bind ?_ (fun _=>?_)
theorem laws_heldInt64SS.calls (k:Nat) (M:Option Addr) (X:Nat) (c:List (List Int)) (d:Int) (r:Int) (w:World) (a7:Kd.C (Kd.slice 2 (Kd.int .i64)) w M c.length c) (Z:c.length≤X) (h:laws_heldInt64SS.f k c d=some r):
  Calls Try.prog 34 #[.slice M c.length X,.int .i64 d] w fun e w'=>e=.returned (.int .i64 r)∧Drawn0 w w':=by
 have O:=a_ a7;have aa:=a_ Z;clear a7 Z;have H:(laws_heldInt64SS.l0 k c d 0)=some r:=h;clear h;have H':=a_ H;clear H;go_enter Try.func34,Try.ntmps34;go_wp2;go_loopg [1,5] k (fun kq v1 v5 w'=>∃ (g:Int) (b:Int),v1=.int .i64 g∧v5=.int .i64 b∧Aside0 (laws_heldInt64SS.l0 kq c g b=some r)∧Aside0 (kq≤k)∧Drawn0 w w')
 case atStart=>exact ⟨(d),(0),t4_,t4_,H',⟨Nat.le_refl _⟩,t8_⟩
 case round=>
  clear H';(try clear p2);obtain ⟨g,b,rfl,rfl,HA,HK1,⟨m1,rfl⟩⟩:=hrel;cases gk with
  |zero=>exact absurd HA.out (by simp [laws_heldInt64SS.l0])
  |succ k1=>
   have H:=HA.out;clear HA;simp only [laws_heldInt64SS.l0] at H;by_cases l:b<(c.length:Int)
   ·rw [if_pos l] at H;have aL:decide (b<(c.length:Int))=true:=d1_ l;clear l;by_cases i:0≤b
    ·rw [if_pos i] at H;have aM:decide (0≤b)=true:=d1_ i;clear i;replace H:=be_ H;obtain ⟨q,aU,H⟩:=H;have A5:=a_ aU;clear aU;by_cases K:q<0
     ·rw [if_pos K] at H;have af:decide (q<0)=true:=d1_ K;clear K;obtain rfl:=Option.some.inj H;have y:0≤(b:Int):=od_;have A:b<(c.length:Int):=od_;obtain ⟨ac,aC,aK,aO,ah,a6,a5⟩:=at_L1 O.out b y A;cases aO;have aG:=a_ a5;have aF:=a_ a6;clear a5 a6;replace y:=eq_true y;replace A:=eq_true A;go_wp2_with (first|((with_reducible refine gate_callee (f:=14) rfl ?_);refine goesL_ (some 17) rfl rfl Try.func14 t14_ rfl #[.slice aC (rd_L1 c b).length aK,.int .i64 g] rfl t1_ ?_;(with_reducible refine (laws_heldInt64S.calls k1 _ _ (rd_L1 c b) g q _ ?Z1 ?Z2 A5.out).mono ?_);(case Z1=>exact qc_ aG.out);(case Z2=>exact aF.out);rintro e w' ⟨rfl,⟨nd,rfl⟩⟩;refine ⟨_,rfl,?_⟩));go_ret
      exact ⟨t4_,t8_⟩
     ·rw [if_neg K] at H;have af:decide (q<0)=false:=d2_ K;clear K;have H':=a_ H;clear H;have y:0≤(b:Int):=od_;have A:b<(c.length:Int):=od_;obtain ⟨ac,aC,aK,aO,ah,a6,a5⟩:=at_L1 O.out b y A;cases aO;have aG:=a_ a5;have aF:=a_ a6;clear a5 a6;replace y:=eq_true y;replace A:=eq_true A;go_wp2_with (first|((with_reducible refine gate_callee (f:=14) rfl ?_);refine goesL_ (some 17) rfl rfl Try.func14 t14_ rfl #[.slice aC (rd_L1 c b).length aK,.int .i64 g] rfl t1_ ?_;(with_reducible refine (laws_heldInt64S.calls k1 _ _ (rd_L1 c b) g q _ ?Z1 ?Z2 A5.out).mono ?_);(case Z1=>exact qc_ aG.out);(case Z2=>exact aF.out);rintro e w' ⟨rfl,⟨nd,rfl⟩⟩;refine ⟨_,rfl,?_⟩));go_roundg k1
      case measure=>have:=HK1.out;omega
      case rel=>exact ⟨(q),(wrap64 (b+1)),t4_,t4_,H',⟨t64_⟩,t8_⟩
    ·rw [if_neg i] at H;exact absurd H t63_
   ·rw [if_neg l] at H;have aL:decide (b<(c.length:Int))=false:=d2_ l;clear l;obtain rfl:=Option.some.inj H;go_wp2;go_ret
    exact ⟨t4_,t8_⟩

def laws_heldTariff.f (k:Nat) (T:ByteArray) (U:Int) (W:Int) (j:List (List Int)) (d:Int):Option (Int):=(laws_heldInt64SS.f k j d).bind fun o=>(if o<0 then (some (-1)) else (some o))
theorem laws_heldTariff.mono:∀ m d a2 a3 a4 k,LeO (laws_heldTariff.f k m d a2 a3 a4) (laws_heldTariff.f (k+1) m d a2 a3 a4):=by
 intro m d a2 a3 a4 k;unfold laws_heldTariff.f
 with_reducible repeat' first|exact laws_heldInt64SS.mono _ _ _|exact LeO.refl _|exact LeO.none _|refine LeO.ite ?_ ?_|refine LeO.bind ?_ (fun _=>?_)
theorem laws_heldTariff.calls (k:Nat) (T:ByteArray) (U:Int) (W:Int) (I:Option Addr) (J:Nat) (j:List (List Int)) (d:Int) (r:Int) (w:World) (aY:Kd.C (Kd.slice 2 (Kd.int .i64)) w I j.length j) (aX:j.length≤J) (h:laws_heldTariff.f k T U W j d=some r):
  Calls Try.prog 17 #[.agg #[.string T,.int .i64 U,.int .i64 W,.slice I j.length J],.int .i64 d] w fun e w'=>e=.returned (.int .i64 r)∧Below w.heap.size w w':=by
 have b3:=Try.underlying29;have aW:=a_ aY;have aV:=a_ aX;clear aY aX;have HB:=a_ (Below.refl w.heap.size w);have H:((laws_heldInt64SS.f k j d).bind fun o=>(if o<0 then (some (-1)) else (some o)))=some r:=h;clear h;replace H:=be_ H;obtain ⟨o,aS,H⟩:=H;have A3:=a_ aS;clear aS;by_cases i:o<0
 ·rw [if_pos i] at H;have aM:decide (o<0)=true:=d1_ i;clear i;obtain rfl:=Option.some.inj H;go_enter Try.func17,Try.ntmps17;go_wp2_with (first|((with_reducible refine gate_dst (N:=2) rfl ?_);refine box_event ?hg (N:=2) ?hd (cs:=#[.string T,.int .i64 U,.int .i64 W,.slice I j.length J]) (t:=29) ?hr ?_;(case hd=>rfl);(case hg=>rfl);(case hr=>first|(go_simp;done)|(go_simp;rfl));intro Y hg w5 hbox hb;have a8:=a_ (below_step t2_ hb);have a9:=a_ (hbox);have aA:=a_ ((by rw [hg];exact (below_size t2_):w.heap.size≤Y));have aB:=a_ ((by rw [hg];exact (below_size t2_):w.heap.size≤Y));clear HB;have HB:=a8;have aD:=a9;have aZ:=aA;have aE:=aB;clear a8 a9 aA aB;clear hb hbox hg;have ⟨al,am,an,ao,av,aw,ax,ay⟩:=bc4_ aD.out)|((with_reducible refine gate_callee (f:=34) rfl ?_);refine goesL_ (some 8) rfl rfl Try.func34 t14_ rfl #[.slice I j.length J,.int .i64 d] rfl t1_ ?_;(with_reducible refine (laws_heldInt64SS.calls k _ _ j d o _ ?Z1 ?Z2 A3.out).mono ?_);(case Z1=>exact qc_ (Kd.C_below aW.out HB.out));(case Z2=>exact aV.out);rintro e w' ⟨rfl,⟨nd,rfl⟩⟩;refine ⟨_,rfl,?_⟩));go_ret
  exact ⟨t6_,(by repeat (first|(with_reducible first|exact HB.out|apply below_alloc|apply pw_below_drewN|apply below_drew1|refine below_set ?_ aE.out)|exact HB.out))⟩
 ·rw [if_neg i] at H;have aM:decide (o<0)=false:=d2_ i;clear i;obtain rfl:=Option.some.inj H;go_enter Try.func17,Try.ntmps17;go_wp2_with (first|((with_reducible refine gate_dst (N:=2) rfl ?_);refine box_event ?hg (N:=2) ?hd (cs:=#[.string T,.int .i64 U,.int .i64 W,.slice I j.length J]) (t:=29) ?hr ?_;(case hd=>rfl);(case hg=>rfl);(case hr=>first|(go_simp;done)|(go_simp;rfl));intro Y hg w7 hbox hb;have a8:=a_ (below_step t2_ hb);have a9:=a_ (hbox);have aA:=a_ ((by rw [hg];exact (below_size t2_):w.heap.size≤Y));have aB:=a_ ((by rw [hg];exact (below_size t2_):w.heap.size≤Y));clear HB;have HB:=a8;have aD:=a9;have aZ:=aA;have aE:=aB;clear a8 a9 aA aB;clear hb hbox hg;have ⟨ap,aq,ar,au,az,b0,b1,b2⟩:=bc4_ aD.out)|((with_reducible refine gate_callee (f:=34) rfl ?_);refine goesL_ (some 8) rfl rfl Try.func34 t14_ rfl #[.slice I j.length J,.int .i64 d] rfl t1_ ?_;(with_reducible refine (laws_heldInt64SS.calls k _ _ j d o _ ?Z1 ?Z2 A3.out).mono ?_);(case Z1=>exact qc_ (Kd.C_below aW.out HB.out));(case Z2=>exact aV.out);rintro e w' ⟨rfl,⟨nd,rfl⟩⟩;refine ⟨_,rfl,?_⟩));go_ret
  exact ⟨t6_,(by repeat (first|(with_reducible first|exact HB.out|apply below_alloc|apply pw_below_drewN|apply below_drew1|refine below_set ?_ aE.out)|exact HB.out))⟩

end Go.Proofs.Ytfffhokkhgbibaa.PFnExactRaiseTariff
