-- written by wip/xprint.py, a program of this session, for this claim; not trusted: Lean checks it.
import Derived.Test.YtfffhokkhgbibaaPFnExactYearBillx0
namespace Go.Proofs.Ytfffhokkhgbibaa.PFnExactYearBill
open Go.RowKit Go.Proofs.YtfffhokkhgbibaaW.PrintWords Go.Proofs.YtfffhokkhgbibaaW.PrintLast Go.Proofs.YtfffhokkhgbibaaW.PrintMore
attribute [local go_sem] leq_less_ max2_int min2_int max_two min_two max_three min_three max_four min_four   -- for this text's walks alone
set_option linter.unusedVariables false
set_option linter.unusedSimpArgs false
set_option maxHeartbeats 8000000
set_option maxRecDepth 100000
def laws_szInt64S.f (d:List Int) (c:Int):Option (Int):=if (wrap64 (c - (d.length:Int)))<0 then (some (-1)) else (some (wrap64 (c - (d.length:Int))))
theorem laws_szInt64S.calls (A0:Option Addr) (c0:Nat) (d:List Int) (c:Int) (r:Int) (w:World) (aK:Kd.C (Kd.int .i64) w A0 d.length d) (aH:d.length≤c0) (h:laws_szInt64S.f d c=some r):
  Calls Try.prog 35 #[.slice A0 d.length c0,.int .i64 c] w fun e w'=>e=.returned (.int .i64 r)∧Drawn0 w w':=by
 have aX:=a_ aK;have b3:=a_ aH;clear aK aH;have H:(if (wrap64 (c - (d.length:Int)))<0 then (some (-1)) else (some (wrap64 (c - (d.length:Int)))))=some r:=h;clear h;by_cases i:(wrap64 (c - (d.length:Int)))<0
 ·rw [if_pos i] at H;have q:decide ((wrap64 (c - (d.length:Int)))<0)=true:=d1_ i;clear i;obtain rfl:=Option.some.inj H;go_enter Try.func35,Try.ntmps35;go_wp2;go_ret
  exact ⟨t4_,t8_⟩
 ·rw [if_neg i] at H;have q:decide ((wrap64 (c - (d.length:Int)))<0)=false:=d2_ i;clear i;obtain rfl:=Option.some.inj H;go_enter Try.func35,Try.ntmps35;go_wp2;go_ret
  exact ⟨t4_,t8_⟩

def laws_szInt64SS.l0:Nat→List (List Int)→Int→Int→Option (Int)
 |0,_,_,_=>none
 |k+1,y,x1,x5=>if x5<(y.length:Int) then (if 0≤x5 then ((laws_szInt64S.f (rd_L1 y x5) x1).bind fun A=>(if A<0 then (some (-1)) else (laws_szInt64SS.l0 k y A (wrap64 (x5+1))))) else (none)) else (some x1)
def laws_szInt64SS.f (k:Nat) (d:List (List Int)) (c:Int):Option (Int):=if (wrap64 (c - (d.length:Int)))<0 then (some (-1)) else (laws_szInt64SS.l0 k d (wrap64 (c - (d.length:Int))) 0)
theorem laws_szInt64SS.mono_l:∀ k,(∀ B D y2,LeO (laws_szInt64SS.l0 k B D y2) (laws_szInt64SS.l0 (k+1) B D y2))
 |0=>fun _ _ _ r h=>by simp [laws_szInt64SS.l0] at h
 |k+1=>by
  have W:=laws_szInt64SS.mono_l k
  ·intro B D y2
   unfold laws_szInt64SS.l0
   with_reducible repeat' first|exact W _ _ _|exact LeO.refl _|exact LeO.none _|refine LeO.ite ?_ ?_|refine LeO.bind ?_ (fun _=>?_)
theorem laws_szInt64SS.mono:∀ b c k,LeO (laws_szInt64SS.f k b c) (laws_szInt64SS.f (k+1) b c):=by
 intro b c k;have W:=laws_szInt64SS.mono_l k;unfold laws_szInt64SS.f
 with_reducible repeat' first|exact W _ _ _|exact LeO.refl _|exact LeO.none _|refine LeO.ite ?_ ?_|refine LeO.bind ?_ (fun _=>?_)
theorem laws_szInt64SS.calls (k:Nat) (A0:Option Addr) (c0:Nat) (d:List (List Int)) (c:Int) (r:Int) (w:World) (aK:Kd.C (Kd.slice 2 (Kd.int .i64)) w A0 d.length d) (aH:d.length≤c0) (h:laws_szInt64SS.f k d c=some r):
  Calls Try.prog 18 #[.slice A0 d.length c0,.int .i64 c] w fun e w'=>e=.returned (.int .i64 r)∧Drawn0 w w':=by
 have aX:=a_ aK;have b3:=a_ aH;clear aK aH;have H:(if (wrap64 (c - (d.length:Int)))<0 then (some (-1)) else (laws_szInt64SS.l0 k d (wrap64 (c - (d.length:Int))) 0))=some r:=h;clear h;by_cases i:(wrap64 (c - (d.length:Int)))<0
 ·rw [if_pos i] at H;have q:decide ((wrap64 (c - (d.length:Int)))<0)=true:=d1_ i;clear i;obtain rfl:=Option.some.inj H;go_enter Try.func18,Try.ntmps18;go_wp2;go_ret
  exact ⟨t4_,t8_⟩
 ·rw [if_neg i] at H;have q:decide ((wrap64 (c - (d.length:Int)))<0)=false:=d2_ i;clear i;have H':=a_ H;clear H;go_enter Try.func18,Try.ntmps18;go_wp2;go_loopg [1,5] k (fun kq v1 v5 w'=>∃ (Z:Int) (l:Int),v1=.int .i64 Z∧v5=.int .i64 l∧Aside0 (laws_szInt64SS.l0 kq d Z l=some r)∧Aside0 (kq≤k)∧Drawn0 w w')
  case atStart=>exact ⟨(wrap64 (c - (d.length:Int))),(0),t4_,t4_,H',⟨Nat.le_refl _⟩,t8_⟩
  case round=>
   clear H';(try clear c1);(try clear p2);(try clear i);(try clear q);obtain ⟨Z,l,rfl,rfl,HA,HK1,⟨m1,rfl⟩⟩:=hrel;cases gk with
   |zero=>exact absurd HA.out (by simp [laws_szInt64SS.l0])
   |succ k1=>
    have H:=HA.out;clear HA;simp only [laws_szInt64SS.l0] at H;by_cases j:l<(d.length:Int)
    ·rw [if_pos j] at H;have U:decide (l<(d.length:Int))=true:=d1_ j;clear j;by_cases v:0≤l
     ·rw [if_pos v] at H;have af:decide (0≤l)=true:=d1_ v;clear v;replace H:=be_ H;obtain ⟨A,aD,H⟩:=H;have A6:=a_ aD;clear aD;by_cases u:A<0
      ·rw [if_pos u] at H;have ag:decide (A<0)=true:=d1_ u;clear u;obtain rfl:=Option.some.inj H;have X:0≤(l:Int):=od_;have Y:l<(d.length:Int):=od_;obtain ⟨b4,aT,ab,ah,b7,aJ,aI⟩:=at_L1 aX.out l X Y;cases ah;have aY:=a_ aI;have aV:=a_ aJ;clear aI aJ;replace X:=eq_true X;replace Y:=eq_true Y;go_wp2_with (first|((with_reducible refine gate_callee (f:=35) rfl ?_);refine goesL_ (some 23) rfl rfl Try.func35 t11_ rfl #[.slice aT (rd_L1 d l).length ab,.int .i64 Z] rfl t2_ ?_;(with_reducible refine (laws_szInt64S.calls _ _ (rd_L1 d l) Z A _ ?Z1 ?Z2 A6.out).mono ?_);(case Z1=>exact qc_ aY.out);(case Z2=>exact aV.out);rintro e w' ⟨rfl,⟨nd,rfl⟩⟩;refine ⟨_,rfl,?_⟩));go_ret
       exact ⟨t4_,t8_⟩
      ·rw [if_neg u] at H;have ag:decide (A<0)=false:=d2_ u;clear u;have H':=a_ H;clear H;have X:0≤(l:Int):=od_;have Y:l<(d.length:Int):=od_;obtain ⟨b4,aT,ab,ah,b7,aJ,aI⟩:=at_L1 aX.out l X Y;cases ah;have aY:=a_ aI;have aV:=a_ aJ;clear aI aJ;replace X:=eq_true X;replace Y:=eq_true Y;go_wp2_with (first|((with_reducible refine gate_callee (f:=35) rfl ?_);refine goesL_ (some 23) rfl rfl Try.func35 t11_ rfl #[.slice aT (rd_L1 d l).length ab,.int .i64 Z] rfl t2_ ?_;(with_reducible refine (laws_szInt64S.calls _ _ (rd_L1 d l) Z A _ ?Z1 ?Z2 A6.out).mono ?_);(case Z1=>exact qc_ aY.out);(case Z2=>exact aV.out);rintro e w' ⟨rfl,⟨nd,rfl⟩⟩;refine ⟨_,rfl,?_⟩));go_roundg k1
       case measure=>have:=HK1.out;omega
       case rel=>exact ⟨(A),(wrap64 (l+1)),t4_,t4_,H',⟨t35_⟩,t8_⟩
     ·rw [if_neg v] at H;exact absurd H t31_
    ·rw [if_neg j] at H;have U:decide (l<(d.length:Int))=false:=d2_ j;clear j;obtain rfl:=Option.some.inj H;go_wp2;go_ret
     exact ⟨t4_,t8_⟩

def laws_szTariff.f (k:Nat) (m:ByteArray) (a5:Int) (a6:Int) (o:List (List Int)) (c:Int):Option (Int):=if (wrap64 (c - (m.size:Int)))<0 then (some (-1)) else ((laws_szInt64SS.f k o (wrap64 (c - (m.size:Int)))).bind fun x=>(if x<0 then (some (-1)) else (some x)))
theorem laws_szTariff.mono:∀ b c z a3 a4 k,LeO (laws_szTariff.f k b c z a3 a4) (laws_szTariff.f (k+1) b c z a3 a4):=by
 intro b c z a3 a4 k;unfold laws_szTariff.f
 with_reducible repeat' first|exact laws_szInt64SS.mono _ _ _|exact LeO.refl _|exact LeO.none _|refine LeO.ite ?_ ?_|refine LeO.bind ?_ (fun _=>?_)
theorem laws_szTariff.calls (k:Nat) (m:ByteArray) (a5:Int) (a6:Int) (O:Option Addr) (T:Nat) (o:List (List Int)) (c:Int) (r:Int) (w:World) (ax:Kd.C (Kd.slice 2 (Kd.int .i64)) w O o.length o) (aw:o.length≤T) (h:laws_szTariff.f k m a5 a6 o c=some r):
  Calls Try.prog 5 #[.agg #[.string m,.int .i64 a5,.int .i64 a6,.slice O o.length T],.int .i64 c] w fun e w'=>e=.returned (.int .i64 r)∧Below w.heap.size w w':=by
 have bd:=Try.underlying24;have HR0_3:=a_ ax;have au:=a_ aw;clear ax aw;have HB:=a_ (Below.refl w.heap.size w);have H:(if (wrap64 (c - (m.size:Int)))<0 then (some (-1)) else ((laws_szInt64SS.f k o (wrap64 (c - (m.size:Int)))).bind fun x=>(if x<0 then (some (-1)) else (some x))))=some r:=h;clear h;by_cases i:(wrap64 (c - (m.size:Int)))<0
 ·rw [if_pos i] at H;have q:decide ((wrap64 (c - (m.size:Int)))<0)=true:=d1_ i;clear i;obtain rfl:=Option.some.inj H;go_enter Try.func5,Try.ntmps5;go_wp2_with (first|((with_reducible refine gate_dst (N:=2) rfl ?_);refine box_event ?hg (N:=2) ?hd (cs:=#[.string m,.int .i64 a5,.int .i64 a6,.slice O o.length T]) (t:=24) ?hr ?_;(case hd=>rfl);(case hg=>rfl);(case hr=>first|(go_simp;done)|(go_simp;rfl));intro E hg w4 hbox hb;have G:=a_ (below_step t1_ hb);have I:=a_ (hbox);have J:=a_ ((by rw [hg];exact (below_size t1_):w.heap.size≤E));have K:=a_ ((by rw [hg];exact (below_size t1_):w.heap.size≤E));clear HB;have HB:=G;have aE:=I;have ar:=J;have GE103:=K;clear G I J K;clear hb hbox hg;have ⟨bJ,bK,bL,bM,bV,bW,bX,bY⟩:=bc4_ aE.out));go_ret
  exact ⟨t7_,t40_⟩
 ·rw [if_neg i] at H;have q:decide ((wrap64 (c - (m.size:Int)))<0)=false:=d2_ i;clear i;replace H:=be_ H;obtain ⟨x,aD,H⟩:=H;have A6:=a_ aD;clear aD;by_cases u:x<0
  ·rw [if_pos u] at H;have ag:decide (x<0)=true:=d1_ u;clear u;obtain rfl:=Option.some.inj H;go_enter Try.func5,Try.ntmps5;go_wp2_with (first|((with_reducible refine gate_dst (N:=2) rfl ?_);refine box_event ?hg (N:=2) ?hd (cs:=#[.string m,.int .i64 a5,.int .i64 a6,.slice O o.length T]) (t:=24) ?hr ?_;(case hd=>rfl);(case hg=>rfl);(case hr=>first|(go_simp;done)|(go_simp;rfl));intro E hg w8 hbox hb;have G:=a_ (below_step t1_ hb);have I:=a_ (hbox);have J:=a_ ((by rw [hg];exact (below_size t1_):w.heap.size≤E));have K:=a_ ((by rw [hg];exact (below_size t1_):w.heap.size≤E));clear HB;have HB:=G;have aE:=I;have ar:=J;have GE103:=K;clear G I J K;clear hb hbox hg;have ⟨bN,bO,bP,bQ,bZ,ba,bb,bc⟩:=bc4_ aE.out)|((with_reducible refine gate_callee (f:=18) rfl ?_);refine goesL_ (some 15) rfl rfl Try.func18 t11_ rfl #[.slice O o.length T,.int .i64 (wrap64 (c - (m.size:Int)))] rfl t2_ ?_;(with_reducible refine (laws_szInt64SS.calls k _ _ o (wrap64 (c - (m.size:Int))) x _ ?Z1 ?Z2 A6.out).mono ?_);(case Z1=>exact qc_ (Kd.C_below HR0_3.out HB.out));(case Z2=>exact au.out);rintro e w' ⟨rfl,⟨nd,rfl⟩⟩;refine ⟨_,rfl,?_⟩));go_ret
   exact ⟨t7_,t40_⟩
  ·rw [if_neg u] at H;have ag:decide (x<0)=false:=d2_ u;clear u;obtain rfl:=Option.some.inj H;go_enter Try.func5,Try.ntmps5;go_wp2_with (first|((with_reducible refine gate_dst (N:=2) rfl ?_);refine box_event ?hg (N:=2) ?hd (cs:=#[.string m,.int .i64 a5,.int .i64 a6,.slice O o.length T]) (t:=24) ?hr ?_;(case hd=>rfl);(case hg=>rfl);(case hr=>first|(go_simp;done)|(go_simp;rfl));intro E hg bg hbox hb;have G:=a_ (below_step t1_ hb);have I:=a_ (hbox);have J:=a_ ((by rw [hg];exact (below_size t1_):w.heap.size≤E));have K:=a_ ((by rw [hg];exact (below_size t1_):w.heap.size≤E));clear HB;have HB:=G;have aE:=I;have ar:=J;have GE103:=K;clear G I J K;clear hb hbox hg;have ⟨bF,bG,bH,bI,bR,bS,bT,bU⟩:=bc4_ aE.out)|((with_reducible refine gate_callee (f:=18) rfl ?_);refine goesL_ (some 15) rfl rfl Try.func18 t11_ rfl #[.slice O o.length T,.int .i64 (wrap64 (c - (m.size:Int)))] rfl t2_ ?_;(with_reducible refine (laws_szInt64SS.calls k _ _ o (wrap64 (c - (m.size:Int))) x _ ?Z1 ?Z2 A6.out).mono ?_);(case Z1=>exact qc_ (Kd.C_below HR0_3.out HB.out));(case Z2=>exact au.out);rintro e w' ⟨rfl,⟨nd,rfl⟩⟩;refine ⟨_,rfl,?_⟩));go_ret
   exact ⟨t7_,t40_⟩

def spec_l00In.f (b:Int) (c:Int) (z:Int):Option (Bool):=if b≥c then (some (decide (b≤z))) else (some false)
theorem spec_l00In.calls (b:Int) (c:Int) (z:Int) (r:Bool) (w:World) (h:spec_l00In.f b c z=some r):
  Calls Try.prog 30 #[.int .i64 b,.int .i64 c,.int .i64 z] w fun e w'=>e=.returned (.bool r)∧Drawn0 w w':=by
 have H:(if b≥c then (some (decide (b≤z))) else (some false))=some r:=h;clear h;by_cases j:b≥c
 ·rw [if_pos j] at H;have U:decide (c≤b)=true:=d1_ j;clear j;obtain rfl:=Option.some.inj H;go_enter Try.func30,Try.ntmps30;go_wp2;go_ret
  exact ⟨t4_,t8_⟩
 ·rw [if_neg j] at H;have U:decide (c≤b)=false:=d2_ j;clear j;obtain rfl:=Option.some.inj H;go_enter Try.func30,Try.ntmps30;go_wp2;go_ret
  exact ⟨t4_,t8_⟩

def spec_l01Small.f (b:Int):Option (Bool):=if b≥97 then (some (decide (b≤122))) else (some false)
theorem spec_l01Small.calls (b:Int) (r:Bool) (w:World) (h:spec_l01Small.f b=some r):
  Calls Try.prog 43 #[.int .u8 b] w fun e w'=>e=.returned (.bool r)∧Drawn0 w w':=by
 have H:(if b≥97 then (some (decide (b≤122))) else (some false))=some r:=h;clear h;by_cases s:b≥97
 ·rw [if_pos s] at H;have ac:decide (97≤b)=true:=d1_ s;clear s;obtain rfl:=Option.some.inj H;go_enter Try.func43,Try.ntmps43;go_wp2;go_ret
  exact ⟨t4_,t8_⟩
 ·rw [if_neg s] at H;have ac:decide (97≤b)=false:=d2_ s;clear s;obtain rfl:=Option.some.inj H;go_enter Try.func43,Try.ntmps43;go_wp2;go_ret
  exact ⟨t4_,t8_⟩

def spec_l01Digit.f (b:Int):Option (Bool):=if b≥48 then (some (decide (b≤57))) else (some false)
theorem spec_l01Digit.calls (b:Int) (r:Bool) (w:World) (h:spec_l01Digit.f b=some r):
  Calls Try.prog 44 #[.int .u8 b] w fun e w'=>e=.returned (.bool r)∧Drawn0 w w':=by
 have H:(if b≥48 then (some (decide (b≤57))) else (some false))=some r:=h;clear h;by_cases s:b≥48
 ·rw [if_pos s] at H;have ac:decide (48≤b)=true:=d1_ s;clear s;obtain rfl:=Option.some.inj H;go_enter Try.func44,Try.ntmps44;go_wp2;go_ret
  exact ⟨t4_,t8_⟩
 ·rw [if_neg s] at H;have ac:decide (48≤b)=false:=d2_ s;clear s;obtain rfl:=Option.some.inj H;go_enter Try.func44,Try.ntmps44;go_wp2;go_ret
  exact ⟨t4_,t8_⟩

mutual
def spec_l01Name.j0:Nat→ByteArray→Bool→Option (Bool)
 |0,_,_=>none
 |k+1,y,bD=>if bD=true then (some false) else (spec_l01Name.l0 k y 0)
def spec_l01Name.l0:Nat→ByteArray→Int→Option (Bool)
 |0,_,_=>none
 |k+1,y,x3=>if x3<(y.size:Int) then (if 0≤x3 then ((spec_l01Small.f (bt y x3)).bind fun ak=>(if ak=true then (spec_l01Name.l0 k y (wrap64 (x3+1))) else ((spec_l01Digit.f (bt y x3)).bind fun al=>(if al=true then (spec_l01Name.l0 k y (wrap64 (x3+1))) else (some false))))) else (none)) else (some true)
end
def spec_l01Name.f (k:Nat) (b:ByteArray):Option (Bool):=if b.toList=([]:List UInt8) then (spec_l01Name.j0 k b true) else (if (b.size:Int) > 10 then (spec_l01Name.j0 k b true) else (if 0<(b.size:Int) then ((spec_l01Small.f (bt b 0)).bind fun a9=>(spec_l01Name.j0 k b (!a9))) else (none)))
theorem spec_l01Name.mono_l:∀ k,(∀ B D,LeO (spec_l01Name.j0 k B D) (spec_l01Name.j0 (k+1) B D))∧(∀ B D,LeO (spec_l01Name.l0 k B D) (spec_l01Name.l0 (k+1) B D))
 |0=>⟨fun _ _ r h=>by simp [spec_l01Name.j0] at h,fun _ _ r h=>by simp [spec_l01Name.l0] at h⟩
 |k+1=>by
  obtain ⟨W,ai⟩:=spec_l01Name.mono_l k
  refine ⟨?_,?_⟩<;>intros<;>first|unfold spec_l01Name.j0|unfold spec_l01Name.l0
  all_goals
   with_reducible repeat' first|exact W _ _|exact ai _ _|exact LeO.refl _|exact LeO.none _|refine LeO.ite ?_ ?_|refine LeO.bind ?_ (fun _=>?_)
theorem spec_l01Name.mono:∀ b k,LeO (spec_l01Name.f k b) (spec_l01Name.f (k+1) b):=by
 intro b k;obtain ⟨W,ai⟩:=spec_l01Name.mono_l k;unfold spec_l01Name.f
 with_reducible repeat' first|exact W _ _|exact ai _ _|exact LeO.refl _|exact LeO.none _|refine LeO.ite ?_ ?_|refine LeO.bind ?_ (fun _=>?_)
theorem spec_l01Name.calls (k:Nat) (b:ByteArray) (r:Bool) (w:World) (h:spec_l01Name.f k b=some r):
  Calls Try.prog 36 #[.string b] w fun e w'=>e=.returned (.bool r)∧Drawn0 w w':=by
 have H:(if b.toList=([]:List UInt8) then (spec_l01Name.j0 k b true) else (if (b.size:Int) > 10 then (spec_l01Name.j0 k b true) else (if 0<(b.size:Int) then ((spec_l01Small.f (bt b 0)).bind fun a9=>(spec_l01Name.j0 k b (!a9))) else (none))))=some r:=h;clear h;have aW:=a_ H;clear H;go_enter Try.func36,Try.ntmps36;go_upto_region 1 with (fail);go_cut [16] (fun bA wc=>∃ (kq:Nat) (aR:Bool),bA=.bool aR∧Aside0 (spec_l01Name.j0 kq b aR=some r)∧Aside0 (kq≤k)∧Drawn0 w wc)
 case first=>
  have H:=aW.out;clear aW;by_cases i:b.toList=([]:List UInt8)
  ·rw [if_pos i] at H;have q:(b.toList==([]:List UInt8))=true:=b1_ i;have ad:(b.toList !=([]:List UInt8))=false:=b4_ i;clear i;(first|rw [q]|(simp only [i64_w,i32_w];rw [q])|skip);have H':=a_ H;clear H;go_wp2;go_meet
   case rel=>exact ⟨_,(true),t4_,H',⟨t24_⟩,t8_⟩
  ·rw [if_neg i] at H;have q:(b.toList==([]:List UInt8))=false:=b2_ i;have ad:(b.toList !=([]:List UInt8))=true:=b3_ i;(first|rw [q]|(simp only [i64_w,i32_w];rw [q])|skip);by_cases j:(b.size:Int) > 10
   ·rw [if_pos j] at H;have U:decide (10<(b.size:Int))=true:=d1_ j;have ae:decide (10<b.size)=true:=decide_eq_true t14_;clear j;have H':=a_ H;clear H;go_wp2;go_meet
    case rel=>exact ⟨_,(true),t4_,H',⟨t24_⟩,t8_⟩
   ·rw [if_neg j] at H;have U:decide (10<(b.size:Int))=false:=d2_ j;have ae:decide (10<b.size)=false:=decide_eq_false t14_;clear j;by_cases v:0<(b.size:Int)
    ·rw [if_pos v] at H;have af:decide (0<(b.size:Int))=true:=d1_ v;have av:decide (0<b.size)=true:=decide_eq_true t14_;clear v;replace H:=be_ H;obtain ⟨a9,aq,H⟩:=H;have A7:=a_ aq;clear aq;have H':=a_ H;clear H;have p6:0≤(0:Int):=t14_;have q6:0<b.size:=(by have:(0:Int)<(b.size:Int):=od_;omega);have az:∀ h:0<b.size,((b[0]'h).toNat:Int)=bt b 0:=bt_at b 0;clear p6;have b0:(0<(b.size:Int))=True:=eq_true (od_);replace q6:=eq_true q6;go_wp2_with (first|(go_at_call 43;(with_reducible refine (spec_l01Small.calls (bt b 0) a9 _ A7.out).mono ?_);rintro e w' ⟨rfl,⟨nd,rfl⟩⟩));go_meet
     case rel=>exact ⟨_,(!a9),t4_,H',⟨t24_⟩,t8_⟩
    ·rw [if_neg v] at H;exact absurd H t31_
 case rest=>
  clear aW;(try clear p2);(try clear i);(try clear q);(try clear ad);(try clear j);(try clear U);(try clear ae);(try clear v);(try clear af);(try clear av);(try clear p6);(try clear q6);(try clear az);(try clear b0);(try clear p6);(try clear q6);obtain ⟨kq,aR,rfl,HA,HJ1,⟨mc1,rfl⟩⟩:=hcut;cases kq with
  |zero=>exact absurd HA.out (by simp [spec_l01Name.j0])
  |succ kj1=>
   have H:=HA.out;clear HA;simp only [spec_l01Name.j0] at H;by_cases c8:aR=true
   ·subst c8;replace H:=(if_pos rfl).symm.trans H;obtain rfl:=Option.some.inj H;go_wp2;go_ret
    exact ⟨t4_,t8_⟩
   ·replace c8:=Bool.eq_false_iff.mpr c8;subst c8;replace H:=(if_neg (show ¬ (false=true) by decide)).symm.trans H;have H':=a_ H;clear H;go_wp2;go_loopg [3] kj1 (fun kq v3 w'=>∃ (g:Int),v3=.int .i64 g∧Aside0 (spec_l01Name.l0 kq b g=some r)∧Aside0 (kq≤kj1)∧Drawn0 w w')
    case atStart=>exact ⟨(0),t4_,H',⟨Nat.le_refl _⟩,t8_⟩
    case round=>
     clear H';(try clear c1);(try clear p2);(try clear i);(try clear q);(try clear ad);(try clear j);(try clear U);(try clear ae);(try clear v);(try clear af);(try clear av);(try clear p6);(try clear q6);(try clear az);(try clear b0);(try clear c8);(try clear p2);(try clear p6);(try clear q6);obtain ⟨g,rfl,HA,HK2,⟨m2,rfl⟩⟩:=hrel;cases gk with
     |zero=>exact absurd HA.out (by simp [spec_l01Name.l0])
     |succ k2=>
      have H:=HA.out;clear HA;simp only [spec_l01Name.l0] at H;by_cases c9:g<(b.size:Int)
      ·rw [if_pos c9] at H;have b6:decide (g<(b.size:Int))=true:=d1_ c9;clear c9;by_cases aO:0≤g
       ·rw [if_pos aO] at H;have bE:decide (0≤g)=true:=d1_ aO;clear aO;replace H:=be_ H;obtain ⟨ak,an,H⟩:=H;have aU:=a_ an;clear an;by_cases aP:ak=true
        ·subst aP;replace H:=(if_pos rfl).symm.trans H;have H':=a_ H;clear H;have L:0≤(g:Int):=od_;have M:g<(b.size:Int):=od_;have ay:=bt_at b g;replace L:=eq_true L;replace M:=eq_true M;go_wp2_with (first|((with_reducible refine gate_callee (f:=43) rfl ?_);refine goesL_ (some 26) rfl rfl Try.func43 t11_ rfl #[.int .u8 (bt b g)] rfl t2_ ?_;(with_reducible refine (spec_l01Small.calls (bt b g) true _ aU.out).mono ?_);rintro e w' ⟨rfl,⟨nd,rfl⟩⟩;refine ⟨_,rfl,?_⟩));go_roundg k2
         case measure=>have:=HJ1.out;have:=HK2.out;omega
         case rel=>exact ⟨(wrap64 (g+1)),t4_,H',⟨(by have:=HJ1.out;have:=HK2.out;omega)⟩,t8_⟩
        ·replace aP:=Bool.eq_false_iff.mpr aP;subst aP;replace H:=(if_neg (show ¬ (false=true) by decide)).symm.trans H;replace H:=be_ H;obtain ⟨al,ap,H⟩:=H;have ao:=a_ ap;clear ap;by_cases aQ:al=true
         ·subst aQ;replace H:=(if_pos rfl).symm.trans H;have H':=a_ H;clear H;have L:0≤(g:Int):=od_;have M:g<(b.size:Int):=od_;have ay:=bt_at b g;replace L:=eq_true L;replace M:=eq_true M;go_wp2_with (first|((with_reducible refine gate_callee (f:=43) rfl ?_);refine goesL_ (some 26) rfl rfl Try.func43 t11_ rfl #[.int .u8 (bt b g)] rfl t2_ ?_;(with_reducible refine (spec_l01Small.calls (bt b g) false _ aU.out).mono ?_);rintro e w' ⟨rfl,⟨nd,rfl⟩⟩;refine ⟨_,rfl,?_⟩;have aL:0≤(g:Int):=od_;have aN:g<(b.size:Int):=od_;have b8:=bt_at b g;replace aL:=eq_true aL;replace aN:=eq_true aN)|(go_at_call 44;(with_reducible refine (spec_l01Digit.calls (bt b g) true _ ao.out).mono ?_);rintro e w' ⟨rfl,⟨nd,rfl⟩⟩));go_roundg k2
          case measure=>have:=HJ1.out;have:=HK2.out;omega
          case rel=>exact ⟨(wrap64 (g+1)),t4_,H',⟨(by have:=HJ1.out;have:=HK2.out;omega)⟩,t8_⟩
         ·replace aQ:=Bool.eq_false_iff.mpr aQ;subst aQ;replace H:=(if_neg (show ¬ (false=true) by decide)).symm.trans H;obtain rfl:=Option.some.inj H;have L:0≤(g:Int):=od_;have M:g<(b.size:Int):=od_;have ay:=bt_at b g;replace L:=eq_true L;replace M:=eq_true M;go_wp2_with (first|((with_reducible refine gate_callee (f:=43) rfl ?_);refine goesL_ (some 26) rfl rfl Try.func43 t11_ rfl #[.int .u8 (bt b g)] rfl t2_ ?_;(with_reducible refine (spec_l01Small.calls (bt b g) false _ aU.out).mono ?_);rintro e w' ⟨rfl,⟨nd,rfl⟩⟩;refine ⟨_,rfl,?_⟩;have aL:0≤(g:Int):=od_;have aN:g<(b.size:Int):=od_;have b8:=bt_at b g;replace aL:=eq_true aL;replace aN:=eq_true aN)|(go_at_call 44;(with_reducible refine (spec_l01Digit.calls (bt b g) false _ ao.out).mono ?_);rintro e w' ⟨rfl,⟨nd,rfl⟩⟩));go_ret
          exact ⟨t4_,t8_⟩
       ·rw [if_neg aO] at H;exact absurd H t31_
      ·rw [if_neg c9] at H;have b6:decide (g<(b.size:Int))=false:=d2_ c9;clear c9;obtain rfl:=Option.some.inj H;go_wp2;go_ret
       exact ⟨t4_,t8_⟩

end Go.Proofs.Ytfffhokkhgbibaa.PFnExactYearBill
