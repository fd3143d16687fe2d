-- written by wip/xprint.py, a program of this session, for this claim; not trusted: Lean checks it.
import Derived.Test.YtjelfhmgbhidnaaPFnExactFirstLostx0
namespace Go.Proofs.Ytjelfhmgbhidnaa.PFnExactFirstLost
open Go.RowKit Go.Proofs.YtjelfhmgbhidnaaW.PrintWords Go.Proofs.YtjelfhmgbhidnaaW.PrintLast Go.Proofs.YtjelfhmgbhidnaaW.PrintMore
attribute [local go_sem] leq_less_ max2_int min2_int max_two min_two max_three min_three max_four min_four   -- for this text's walks alone
set_option linter.unusedVariables false
set_option linter.unusedSimpArgs false
set_option maxHeartbeats 8000000
set_option maxRecDepth 100000
def slices_IndexFunc_int64_int64.idxP {α:Type} (p:α→Bool) (l:List α):Int:=if l.any p then (l.findIdx p:Int) else -1
theorem slices_IndexFunc_int64_int64.hit {α:Type} (p:α→Bool) (l:List α) (k:Nat) (d:α) (hk:k<l.length) (h:p (l.getD k d)=true) (hb:∀ j,j<k→p (l.getD j d)=false):slices_IndexFunc_int64_int64.idxP p l=k:=by
  have e:l.getD k d=l[k]:=(by rw [List.getD_eq_getElem?_getD,List.getElem?_eq_getElem hk];rfl);have hany:l.any p=true:=List.any_eq_true.2 ⟨l[k],List.getElem_mem hk,e ▸ h⟩;unfold slices_IndexFunc_int64_int64.idxP
  rw [if_pos hany,(List.findIdx_eq hk).2 ⟨e ▸ h,fun j hj=>by have:=hb j hj;rwa [List.getD_eq_getElem?_getD,List.getElem?_eq_getElem t23_] at this⟩]
theorem slices_IndexFunc_int64_int64.miss {α:Type} (p:α→Bool) (l:List α) (d:α) (hb:∀ j,j<l.length→p (l.getD j d)=false):slices_IndexFunc_int64_int64.idxP p l= -1:=by
  unfold slices_IndexFunc_int64_int64.idxP
  rw [if_neg];intro h;obtain ⟨x,hx,hp⟩:=List.any_eq_true.1 h;obtain ⟨j,hj,rfl⟩:=List.mem_iff_getElem.1 hx;have:=hb j hj;rw [List.getD_eq_getElem?_getD,List.getElem?_eq_getElem hj] at this;simp only [Option.getD_some] at this;rw [this] at hp;cases hp
theorem slices_IndexFunc_int64_int64.nonneg {α:Type} (p:α→Bool) (l:List α):(0≤slices_IndexFunc_int64_int64.idxP p l)↔l.any p=true:=by
  unfold slices_IndexFunc_int64_int64.idxP
  split<;>simp_all<;>omega
set_option maxHeartbeats 1000000 in
theorem slices_IndexFunc_int64_int64.calls_any (p:Int→Bool) (g:Nat) (lb:Array Value) (eg:∀ args w,(callFunc g args).run Try.prog w=.ok (.enter g args) w) (A0:Option Addr) (c0:Nat) (v:List Int) (w:World)
    (hp:∀ (W:World) (x:Int),Below w.heap.size w W→Calls Try.prog g (#[.int .i64 x]++lb) W fun e w'=>e=.returned (.bool (p x))∧Below W.heap.size W w') (aM:Kd.C (Kd.int .i64) w A0 v.length v):
    Calls Try.prog 71 #[.slice A0 v.length c0,.func (.func g) #[] lb] w fun e w'=>e=.returned (.int .i64 (slices_IndexFunc_int64_int64.idxP p v))∧Below w.heap.size w w':=by
  have bf:=a_ aM;have HP:=a_ hp;have hbig:v.length≤9223372036854775807:=aM.2.1;clear aM hp;go_enter Try.func71,Try.ntmps71;go_wp2;go_loopg [5,8] v.length (fun gg _ s8 wr=>∃ kk:Nat,kk≤v.length∧v.length - kk≤gg∧s8=.int .i64 kk∧Aside0 (Below w.heap.size w wr)∧Aside0 (∀ j,j<kk→p (v.getD j 0)=false))
  case atStart=>exact ⟨0,Nat.zero_le _,t23_,rfl,⟨Below.refl _ _⟩,⟨fun j hj=>absurd hj (Nat.not_lt_zero _)⟩⟩
  case round=>
    obtain ⟨kk,hkk,hg,rfl,HB,HA⟩:=hrel;by_cases hlt:kk<v.length
    · have hltz:(kk:Int)<(v.length:Int):=by omega
      obtain ⟨ad,e,hx⟩:=Kd.at_int bf.out kk t23_ hltz;cases e;replace hx:=(HB.out.cell (World.block_lt_of_cell? w _ hx)).trans hx;simp only [Int.toNat_natCast,rd] at hx;obtain ⟨y,hy⟩:∃ y,y=v.getD kk 0:=⟨_,rfl⟩;rw [← hy] at hx;have HY:=a_ hy;clear hy;have hcall:=fun W hb=>HP.out W y hb;cases hq:p y with
      |true=>
        rw [hq] at hcall;have HC:=a_ hcall;clear hcall;have HQ:=a_ hq;clear hq;go_wp2_with (go_at_fn g;refine (HC.out _ HB.out).mono ?_;rintro e w' ⟨rfl,hb'⟩);go_ret
        refine ⟨?_,HB.out.trans (hb'.mono HB.out.size)⟩;rw [slices_IndexFunc_int64_int64.hit p v kk 0 hlt (by rw [← HY.out];exact HQ.out) HA.out];rfl
      |false=>
        rw [hq] at hcall;have HC:=a_ hcall;clear hcall;have HQ:=a_ hq;clear hq;go_wp2_with (go_at_fn g;refine (HC.out _ HB.out).mono ?_;rintro e w' ⟨rfl,hb'⟩);go_roundg (v.length - (kk+1))
        case measure=>omega
        case rel=>
          refine ⟨kk+1,t23_,t23_,(by go_num),⟨HB.out.trans (hb'.mono HB.out.size)⟩,⟨fun j hj=>?_⟩⟩;by_cases e:j=kk
          · subst e
            rw [← HY.out];exact HQ.out
          · exact HA.out j t23_
    · have hltz:¬ (kk:Int)<(v.length:Int):=by omega
      have hkn:kk=v.length:=(by omega);have HK:=a_ hkn;clear hkn;go_wp2;go_ret
      refine ⟨?_,HB.out⟩;rw [slices_IndexFunc_int64_int64.miss p v 0 (fun j hj=>HA.out j (by have:=HK.out;omega))];rfl

set_option maxHeartbeats 1000000 in
theorem slices_ContainsFunc_int64_int64.calls_any (p:Int→Bool) (g:Nat) (lb:Array Value) (eg:∀ args w,(callFunc g args).run Try.prog w=.ok (.enter g args) w) (A0:Option Addr) (c0:Nat) (v:List Int) (w:World)
    (hp:∀ (W:World) (x:Int),Below w.heap.size w W→Calls Try.prog g (#[.int .i64 x]++lb) W fun e w'=>e=.returned (.bool (p x))∧Below W.heap.size W w') (aM:Kd.C (Kd.int .i64) w A0 v.length v):
    Calls Try.prog 94 #[.slice A0 v.length c0,.func (.func g) #[] lb] w fun e w'=>e=.returned (.bool (v.any p))∧Below w.heap.size w w':=by
  have hcon:=slices_IndexFunc_int64_int64.calls_any p g lb eg A0 c0 v w hp aM;have hiff:=a_ (slices_IndexFunc_int64_int64.nonneg p v);generalize slices_IndexFunc_int64_int64.idxP p v=r at hcon hiff;clear aM hp;go_enter Try.func94,Try.ntmps94;go_wp2_with (go_at_call 71;refine hcon.mono ?_;rintro e w' ⟨rfl,hb⟩);go_ret
  refine ⟨?_,hb⟩;have h:=hiff.out;by_cases h0:0≤r
  · rw [h.1 h0];simp [h0]
  · rw [Bool.eq_false_iff.mpr (fun e=>h0 (h.2 e))];simp [h0]

def impl_within.f (c:Int) (A:Int) (K:Int):Option (Bool):=if c≥A then (some (decide (c≤K))) else (some false)
theorem impl_within.calls (c:Int) (A:Int) (K:Int) (r:Bool) (w:World) (h:impl_within.f c A K=some r):
  Calls Try.prog 91 #[.int .i64 c,.int .i64 A,.int .i64 K] w fun e w'=>e=.returned (.bool r)∧Drawn0 w w':=by
 have H:(if c≥A then (some (decide (c≤K))) else (some false))=some r:=h;clear h;by_cases L:c≥A
 ·rw [if_pos L] at H;have bE:decide (A≤c)=true:=d1_ L;clear L;obtain rfl:=Option.some.inj H;go_enter Try.func91,Try.ntmps91;go_wp2;go_ret
  exact ⟨t8_,t15_⟩
 ·rw [if_neg L] at H;have bE:decide (A≤c)=false:=d2_ L;clear L;obtain rfl:=Option.some.inj H;go_enter Try.func91,Try.ntmps91;go_wp2;go_ret
  exact ⟨t8_,t15_⟩

set_option maxHeartbeats 1000000 in
theorem impl_allWithin_1.clos (x lo hi:Int) (g1 g2:Nat) (w:World) (h1:w.cell? ⟨g1,0,none⟩=some (.int .i64 lo)) (h2:w.cell? ⟨g2,0,none⟩=some (.int .i64 hi)):
    Calls Try.prog 95 #[.int .i64 x,.pointer (some ⟨g1,0,none⟩),.pointer (some ⟨g2,0,none⟩)] w fun e w'=>e=.returned (.bool (!(decide (lo≤x∧x≤hi))))∧Below w.heap.size w w':=by
  have hw:=fun w=>impl_within.calls x lo hi (decide (lo≤x∧x≤hi)) w (by unfold impl_within.f;split<;>simp<;>omega);generalize decide (lo≤x∧x≤hi)=b at hw ⊢;go_enter Try.func95,Try.ntmps95;go_wp2_with (go_at_call 91;refine (hw _).mono ?_;rintro e w' ⟨rfl,hd⟩);go_ret
  exact ⟨rfl,hd.below⟩

def impl_allWithin.f (v:List Int) (A:Int) (K:Int):Option (Bool):=some (v.all fun x=>decide (A≤x∧x≤K))
set_option maxHeartbeats 1000000 in
theorem impl_allWithin.calls (A0:Option Addr) (c0:Nat) (v:List Int) (A:Int) (K:Int) (r:Bool) (w:World) (aM:Kd.C (Kd.int .i64) w A0 v.length v) (cY:v.length≤c0) (h:impl_allWithin.f v A K=some r):
    Calls Try.prog 66 #[.slice A0 v.length c0,.int .i64 A,.int .i64 K] w fun e w'=>e=.returned (.bool r)∧Below w.heap.size w w':=by
  have hmf:∀ (fn:Fn) (first cap:Array Value) (w:World),(Instr.makeFunc fn first cap).run Try.prog w=.ok (.func fn first cap) w:=fun _ _ _ _=>rfl;have eg:∀ args w,(callFunc 95 args).run Try.prog w=.ok (.enter 95 args) w:=enters_of Try.func95 t13_ rfl;obtain rfl:=Option.some.inj h;have hb2:Below w.heap.size w ((w.alloc (.cells #[.int .i64 A] 2)).alloc (.cells #[.int .i64 K] 2)):=((Below.refl _ w).alloc (Nat.le_refl _) _).alloc t45_ _;have hcon:=slices_ContainsFunc_int64_int64.calls_any (fun x=>!(decide (A≤x∧x≤K))) 95 #[.pointer (some ⟨w.heap.size,0,none⟩),.pointer (some ⟨w.heap.size+1,0,none⟩)] eg A0 c0 v ((w.alloc (.cells #[.int .i64 A] 2)).alloc (.cells #[.int .i64 K] 2))
    (fun W x hb=>impl_allWithin_1.clos x A K _ _ W
      ((hb.cell (p:=⟨w.heap.size,0,none⟩) (by simp;omega)).trans (by rw [World.cell?_alloc_lt _ _ _ t45_];simp))
      ((hb.cell (p:=⟨w.heap.size+1,0,none⟩) t45_).trans t45_)) (Kd.C_below aM hb2)
  have hall:(!(v.any fun x=>!(decide (A≤x∧x≤K))))=(v.all fun x=>decide (A≤x∧x≤K)):=by
    rw [List.not_any_eq_all_not];simp
  rw [← hall];generalize (v.any fun x=>!(decide (A≤x∧x≤K)))=b at hcon ⊢;clear hall aM eg h;have HB2:=a_ hb2;clear hb2;go_enter Try.func66,Try.ntmps66;go_wp2_with (go_at_call 94;refine hcon.mono ?_;rintro e w' ⟨rfl,hb⟩);go_ret
  exact ⟨rfl,HB2.out.trans (hb.mono HB2.out.size)⟩

def impl_onlyNameBytes.l0:Nat→ByteArray→Int→Int→Option (Bool)
 |0,_,_,_=>none
 |k+1,x0,x6,x7=>if x7<x6 then (if 0≤x7 then (if x7<(x0.size:Int) then (if (bt x0 x7)<97 then (if (bt x0 x7)<48 then (some false) else (if (bt x0 x7) > 57 then (some false) else (impl_onlyNameBytes.l0 k x0 x6 (wrap64 (x7+1))))) else (if (bt x0 x7) > 122 then (if (bt x0 x7)<48 then (some false) else (if (bt x0 x7) > 57 then (some false) else (impl_onlyNameBytes.l0 k x0 x6 (wrap64 (x7+1))))) else (impl_onlyNameBytes.l0 k x0 x6 (wrap64 (x7+1))))) else (none)) else (none)) else (some true)
def impl_onlyNameBytes.f (k:Nat) (c:ByteArray):Option (Bool):=impl_onlyNameBytes.l0 k c (c.size:Int) 0
theorem impl_onlyNameBytes.mono_l:∀ k,(∀ y0 y1 y2,LeO (impl_onlyNameBytes.l0 k y0 y1 y2) (impl_onlyNameBytes.l0 (k+1) y0 y1 y2))
 |0=>fun _ _ _ r h=>by simp [impl_onlyNameBytes.l0] at h
 |k+1=>by
  have bG:=impl_onlyNameBytes.mono_l k
  ·intro y0 y1 y2
   unfold impl_onlyNameBytes.l0
   with_reducible repeat' first|exact bG _ _ _|exact LeO.refl _|exact LeO.none _|refine LeO.ite ?_ ?_|refine LeO.bind ?_ (fun _=>?_)
theorem impl_onlyNameBytes.mono:∀ c k,LeO (impl_onlyNameBytes.f k c) (impl_onlyNameBytes.f (k+1) c):=by
 intro c k;have bG:=impl_onlyNameBytes.mono_l k;unfold impl_onlyNameBytes.f
 with_reducible repeat' first|exact bG _ _ _|exact LeO.refl _|exact LeO.none _|refine LeO.ite ?_ ?_|refine LeO.bind ?_ (fun _=>?_)
theorem impl_onlyNameBytes.calls (k:Nat) (c:ByteArray) (r:Bool) (w:World) (h:impl_onlyNameBytes.f k c=some r):
  Calls Try.prog 82 #[.string c] w fun e w'=>e=.returned (.bool r)∧Drawn0 w w':=by
 have H:(impl_onlyNameBytes.l0 k c (c.size:Int) 0)=some r:=h;clear h;have H':=a_ H;clear H;go_enter Try.func82,Try.ntmps82;go_wp2;go_loopg [7] k (fun kq v7 w'=>∃ (i:Int),v7=.int .i64 i∧Aside0 (impl_onlyNameBytes.l0 kq c (c.size:Int) i=some r)∧Aside0 (kq≤k)∧Drawn0 w w')
 case atStart=>exact ⟨(0),t8_,H',⟨Nat.le_refl _⟩,t15_⟩
 case round=>
  clear H';obtain ⟨i,rfl,HA,HK1,⟨m1,rfl⟩⟩:=hrel;cases gk with
  |zero=>exact absurd HA.out (by simp [impl_onlyNameBytes.l0])
  |succ k1=>
   have H:=HA.out;clear HA;simp only [impl_onlyNameBytes.l0] at H;by_cases c2:i<(c.size:Int)
   ·rw [if_pos c2] at H;have bD:decide (i<(c.size:Int))=true:=d1_ c2;clear c2;by_cases c3:0≤i
    ·rw [if_pos c3] at H;have bT:decide (0≤i)=true:=d1_ c3;clear c3;by_cases L:i<(c.size:Int)
     ·rw [if_pos L] at H;have bE:decide (i<(c.size:Int))=true:=d1_ L;clear L;by_cases c6:(bt c i)<97
      ·rw [if_pos c6] at H;have bF:decide ((bt c i)<97)=true:=d1_ c6;clear c6;by_cases c7:(bt c i)<48
       ·rw [if_pos c7] at H;have bk:decide ((bt c i)<48)=true:=d1_ c7;clear c7;obtain rfl:=Option.some.inj H;have E:0≤(i:Int):=od_;have B:i<(c.size:Int):=od_;have aN:=bt_at c i;replace E:=eq_true E;replace B:=eq_true B;go_wp2;go_ret
        exact ⟨t8_,t15_⟩
       ·rw [if_neg c7] at H;have bk:decide ((bt c i)<48)=false:=d2_ c7;clear c7;by_cases M:(bt c i) > 57
        ·rw [if_pos M] at H;have ab:decide (57<(bt c i))=true:=d1_ M;clear M;obtain rfl:=Option.some.inj H;have E:0≤(i:Int):=od_;have B:i<(c.size:Int):=od_;have aN:=bt_at c i;replace E:=eq_true E;replace B:=eq_true B;go_wp2;go_ret
         exact ⟨t8_,t15_⟩
        ·rw [if_neg M] at H;have ab:decide (57<(bt c i))=false:=d2_ M;clear M;have H':=a_ H;clear H;have E:0≤(i:Int):=od_;have B:i<(c.size:Int):=od_;have aN:=bt_at c i;replace E:=eq_true E;replace B:=eq_true B;go_wp2;go_roundg k1
         case measure=>have:=HK1.out;omega
         case rel=>exact ⟨(wrap64 (i+1)),t8_,H',⟨t49_⟩,t15_⟩
      ·rw [if_neg c6] at H;have bF:decide ((bt c i)<97)=false:=d2_ c6;clear c6;by_cases c9:(bt c i) > 122
       ·rw [if_pos c9] at H;have bm:decide (122<(bt c i))=true:=d1_ c9;clear c9;by_cases aV:(bt c i)<48
        ·rw [if_pos aV] at H;have bg:decide ((bt c i)<48)=true:=d1_ aV;clear aV;obtain rfl:=Option.some.inj H;have E:0≤(i:Int):=od_;have B:i<(c.size:Int):=od_;have aN:=bt_at c i;replace E:=eq_true E;replace B:=eq_true B;go_wp2;go_ret
         exact ⟨t8_,t15_⟩
        ·rw [if_neg aV] at H;have bg:decide ((bt c i)<48)=false:=d2_ aV;clear aV;by_cases aW:(bt c i) > 57
         ·rw [if_pos aW] at H;have bh:decide (57<(bt c i))=true:=d1_ aW;clear aW;obtain rfl:=Option.some.inj H;have E:0≤(i:Int):=od_;have B:i<(c.size:Int):=od_;have aN:=bt_at c i;replace E:=eq_true E;replace B:=eq_true B;go_wp2;go_ret
          exact ⟨t8_,t15_⟩
         ·rw [if_neg aW] at H;have bh:decide (57<(bt c i))=false:=d2_ aW;clear aW;have H':=a_ H;clear H;have E:0≤(i:Int):=od_;have B:i<(c.size:Int):=od_;have aN:=bt_at c i;replace E:=eq_true E;replace B:=eq_true B;go_wp2;go_roundg k1
          case measure=>have:=HK1.out;omega
          case rel=>exact ⟨(wrap64 (i+1)),t8_,H',⟨t49_⟩,t15_⟩
       ·rw [if_neg c9] at H;have bm:decide (122<(bt c i))=false:=d2_ c9;clear c9;have H':=a_ H;clear H;have E:0≤(i:Int):=od_;have B:i<(c.size:Int):=od_;have aN:=bt_at c i;replace E:=eq_true E;replace B:=eq_true B;go_wp2;go_roundg k1
        case measure=>have:=HK1.out;omega
        case rel=>exact ⟨(wrap64 (i+1)),t8_,H',⟨t49_⟩,t15_⟩
     ·rw [if_neg L] at H;exact absurd H t45_
    ·rw [if_neg c3] at H;exact absurd H t45_
   ·rw [if_neg c2] at H;have bD:decide (i<(c.size:Int))=false:=d2_ c2;clear c2;obtain rfl:=Option.some.inj H;go_wp2;go_ret
    exact ⟨t8_,t15_⟩

def impl_IsName.f (k:Nat) (c:ByteArray):Option (Bool):=if (c.size:Int)<1 then (some false) else (if (c.size:Int) > 10 then (some false) else (if 0<(c.size:Int) then (if (bt c 0)<97 then (some false) else (if (bt c 0) > 122 then (some false) else ((impl_onlyNameBytes.f k c).bind fun am=>(some am)))) else (none)))
theorem impl_IsName.mono:∀ c k,LeO (impl_IsName.f k c) (impl_IsName.f (k+1) c):=by
 intro c k;unfold impl_IsName.f
 with_reducible repeat' first|exact impl_onlyNameBytes.mono _ _|exact LeO.refl _|exact LeO.none _|refine LeO.ite ?_ ?_|refine LeO.bind ?_ (fun _=>?_)
theorem impl_IsName.calls (k:Nat) (c:ByteArray) (r:Bool) (w:World) (h:impl_IsName.f k c=some r):
  Calls Try.prog 45 #[.string c] w fun e w'=>e=.returned (.bool r)∧Drawn0 w w':=by
 have H:(if (c.size:Int)<1 then (some false) else (if (c.size:Int) > 10 then (some false) else (if 0<(c.size:Int) then (if (bt c 0)<97 then (some false) else (if (bt c 0) > 122 then (some false) else ((impl_onlyNameBytes.f k c).bind fun am=>(some am)))) else (none))))=some r:=h;clear h;by_cases c2:(c.size:Int)<1
 ·rw [if_pos c2] at H;have bD:decide ((c.size:Int)<1)=true:=d1_ c2;have bi:decide (c.size<1)=true:=decide_eq_true t23_;clear c2;obtain rfl:=Option.some.inj H;go_enter Try.func45,Try.ntmps45;go_wp2;go_ret
  exact ⟨t8_,t15_⟩
 ·rw [if_neg c2] at H;have bD:decide ((c.size:Int)<1)=false:=d2_ c2;have bi:decide (c.size<1)=false:=decide_eq_false t23_;clear c2;by_cases c3:(c.size:Int) > 10
  ·rw [if_pos c3] at H;have bT:decide (10<(c.size:Int))=true:=d1_ c3;have bj:decide (10<c.size)=true:=decide_eq_true t23_;clear c3;obtain rfl:=Option.some.inj H;go_enter Try.func45,Try.ntmps45;go_wp2;go_ret
   exact ⟨t8_,t15_⟩
  ·rw [if_neg c3] at H;have bT:decide (10<(c.size:Int))=false:=d2_ c3;have bj:decide (10<c.size)=false:=decide_eq_false t23_;clear c3;by_cases L:0<(c.size:Int)
   ·rw [if_pos L] at H;have bE:decide (0<(c.size:Int))=true:=d1_ L;have cV:decide (0<c.size)=true:=decide_eq_true t23_;clear L;by_cases c6:(bt c 0)<97
    ·rw [if_pos c6] at H;have bF:decide ((bt c 0)<97)=true:=d1_ c6;clear c6;obtain rfl:=Option.some.inj H;have E:0≤(0:Int):=t23_;have B:0<c.size:=(by have:(0:Int)<(c.size:Int):=od_;omega);have aN:∀ h:0<c.size,((c[0]'h).toNat:Int)=bt c 0:=bt_at c 0;clear E;have bX:(0<(c.size:Int))=True:=eq_true (od_);replace B:=eq_true B;go_enter Try.func45,Try.ntmps45;go_wp2;go_ret
     exact ⟨t8_,t15_⟩
    ·rw [if_neg c6] at H;have bF:decide ((bt c 0)<97)=false:=d2_ c6;clear c6;by_cases M:(bt c 0) > 122
     ·rw [if_pos M] at H;have ab:decide (122<(bt c 0))=true:=d1_ M;clear M;obtain rfl:=Option.some.inj H;have E:0≤(0:Int):=t23_;have B:0<c.size:=(by have:(0:Int)<(c.size:Int):=od_;omega);have aN:∀ h:0<c.size,((c[0]'h).toNat:Int)=bt c 0:=bt_at c 0;clear E;have bX:(0<(c.size:Int))=True:=eq_true (od_);replace B:=eq_true B;have p7:0≤(0:Int):=t23_;have q7:0<c.size:=(by have:(0:Int)<(c.size:Int):=od_;omega);have cO:∀ h:0<c.size,((c[0]'h).toNat:Int)=bt c 0:=bt_at c 0;clear p7;have cP:(0<(c.size:Int))=True:=eq_true (od_);replace q7:=eq_true q7;go_enter Try.func45,Try.ntmps45;go_wp2;go_ret
      exact ⟨t8_,t15_⟩
     ·rw [if_neg M] at H;have ab:decide (122<(bt c 0))=false:=d2_ M;clear M;replace H:=be_ H;obtain ⟨am,bS,H⟩:=H;have A9:=a_ bS;clear bS;obtain rfl:=Option.some.inj H;have E:0≤(0:Int):=t23_;have B:0<c.size:=(by have:(0:Int)<(c.size:Int):=od_;omega);have aN:∀ h:0<c.size,((c[0]'h).toNat:Int)=bt c 0:=bt_at c 0;clear E;have bX:(0<(c.size:Int))=True:=eq_true (od_);replace B:=eq_true B;have p7:0≤(0:Int):=t23_;have q7:0<c.size:=(by have:(0:Int)<(c.size:Int):=od_;omega);have cO:∀ h:0<c.size,((c[0]'h).toNat:Int)=bt c 0:=bt_at c 0;clear p7;have cP:(0<(c.size:Int))=True:=eq_true (od_);replace q7:=eq_true q7;go_enter Try.func45,Try.ntmps45;go_wp2_with (first|((with_reducible refine gate_callee (f:=82) rfl ?_);refine goesL_ (some 22) rfl rfl Try.func82 t13_ rfl #[.string c] rfl t2_ ?_;(with_reducible refine (impl_onlyNameBytes.calls k c am _ A9.out).mono ?_);rintro e w' ⟨rfl,⟨nd,rfl⟩⟩;refine ⟨_,rfl,?_⟩));go_ret
      exact ⟨t8_,t15_⟩
   ·rw [if_neg L] at H;exact absurd H t45_

def impl_nodeOk.f (c:Int):Option (Bool):=(impl_within.f c 0 15).bind fun an=>(some an)
theorem impl_nodeOk.calls (c:Int) (r:Bool) (w:World) (h:impl_nodeOk.f c=some r):
  Calls Try.prog 104 #[.int .i64 c] w fun e w'=>e=.returned (.bool r)∧Drawn0 w w':=by
 have H:((impl_within.f c 0 15).bind fun an=>(some an))=some r:=h;clear h;replace H:=be_ H;obtain ⟨an,aY,H⟩:=H;have A2:=a_ aY;clear aY;obtain rfl:=Option.some.inj H;go_enter Try.func104,Try.ntmps104;go_wp2_with (first|((with_reducible refine gate_callee (f:=91) rfl ?_);refine goesL_ (some 4) rfl rfl Try.func91 t13_ rfl #[.int .i64 c,.int .i64 0,.int .i64 15] rfl t2_ ?_;(with_reducible refine (impl_within.calls c 0 15 an _ A2.out).mono ?_);rintro e w' ⟨rfl,⟨nd,rfl⟩⟩;refine ⟨_,rfl,?_⟩));go_ret
 exact ⟨t8_,t15_⟩

def impl_ValidPipe.f (k:Nat) (D:ByteArray) (G:Int) (I:Int) (a7:Int) (a8:Int) (aC:Int):Option (Bool):=(impl_IsName.f k D).bind fun ao=>(if ao=true then ((impl_nodeOk.f G).bind fun ap=>(if ap=true then ((impl_nodeOk.f I).bind fun aq=>(if aq=true then (if G=I then (some false) else ((impl_within.f a7 1 10000).bind fun ar=>(if ar=true then ((impl_within.f a8 20 1000).bind fun au=>(if au=true then ((impl_within.f aC 0 5000).bind fun av=>(some av)) else (some false))) else (some false)))) else (some false))) else (some false))) else (some false))
theorem impl_ValidPipe.mono:∀ c A K a3 a4 a5 k,LeO (impl_ValidPipe.f k c A K a3 a4 a5) (impl_ValidPipe.f (k+1) c A K a3 a4 a5):=by
 intro c A K a3 a4 a5 k;unfold impl_ValidPipe.f
 with_reducible repeat' first|exact impl_IsName.mono _ _|exact LeO.refl _|exact LeO.none _|refine LeO.ite ?_ ?_|refine LeO.bind ?_ (fun _=>?_)
theorem impl_ValidPipe.calls (k:Nat) (D:ByteArray) (G:Int) (I:Int) (a7:Int) (a8:Int) (aC:Int) (r:Bool) (w:World) (h:impl_ValidPipe.f k D G I a7 a8 aC=some r):
  Calls Try.prog 80 #[.agg #[.string D,.int .i64 G,.int .i64 I,.int .i64 a7,.int .i64 a8,.int .i64 aC]] w fun e w'=>e=.returned (.bool r)∧Below w.heap.size w w':=by
 have cN:=Try.underlying80;have HB:=a_ (Below.refl w.heap.size w);have H:((impl_IsName.f k D).bind fun ao=>(if ao=true then ((impl_nodeOk.f G).bind fun ap=>(if ap=true then ((impl_nodeOk.f I).bind fun aq=>(if aq=true then (if G=I then (some false) else ((impl_within.f a7 1 10000).bind fun ar=>(if ar=true then ((impl_within.f a8 20 1000).bind fun au=>(if au=true then ((impl_within.f aC 0 5000).bind fun av=>(some av)) else (some false))) else (some false)))) else (some false))) else (some false))) else (some false)))=some r:=h;clear h;replace H:=be_ H;obtain ⟨ao,aY,H⟩:=H;have A2:=a_ aY;clear aY;by_cases c3:ao=true
 ·subst c3;replace H:=(if_pos rfl).symm.trans H;replace H:=be_ H;obtain ⟨ap,bP,H⟩:=H;have A4:=a_ bP;clear bP;by_cases c5:ap=true
  ·subst c5;replace H:=(if_pos rfl).symm.trans H;replace H:=be_ H;obtain ⟨aq,bR,H⟩:=H;have A6:=a_ bR;clear bR;by_cases c7:aq=true
   ·subst c7;replace H:=(if_pos rfl).symm.trans H;by_cases M:G=I
    ·rw [if_pos M] at H;have ab:(G==I)=true:=b1_ M;have bl:(G !=I)=false:=b4_ M;clear M;obtain rfl:=Option.some.inj H;go_enter Try.func80,Try.ntmps80;go_wp2_with (first|((with_reducible refine gate_dst (N:=1) rfl ?_);refine box_event ?hg (N:=1) ?hd (cs:=#[.string D,.int .i64 G,.int .i64 I,.int .i64 a7,.int .i64 a8,.int .i64 aC]) (t:=80) ?hr ?_;(case hd=>rfl);(case hg=>rfl);(case hr=>first|(go_simp;done)|(go_simp;rfl));intro O hg w9 hbox hb;have m:=a_ (below_step t1_ hb);have q:=a_ (hbox);have s:=a_ ((by rw [hg];exact (below_size t1_):w.heap.size≤O));have z:=a_ ((by rw [hg];exact (below_size t1_):w.heap.size≤O));clear HB;have HB:=m;have aA:=q;have aU:=s;have GE270:=z;clear m q s z;clear hb hbox hg;have ⟨bn,bo,bp,bq,br,bs,cA,cB,cC,cD,cE,cF⟩:=bc6_ aA.out)|((with_reducible refine gate_callee (f:=45) rfl ?_);refine goesL_ (some 5) rfl rfl Try.func45 t13_ rfl #[.string D] rfl t2_ ?_;(with_reducible refine (impl_IsName.calls k D true _ A2.out).mono ?_);rintro e w' ⟨rfl,⟨nd,rfl⟩⟩;refine ⟨_,rfl,?_⟩)|(go_at_call 104;(with_reducible refine (impl_nodeOk.calls G true _ A4.out).mono ?_);rintro e w' ⟨rfl,⟨nd,rfl⟩⟩)|(go_at_call 104;(with_reducible refine (impl_nodeOk.calls I true _ A6.out).mono ?_);rintro e w' ⟨rfl,⟨nd,rfl⟩⟩));go_ret
     exact ⟨t4_,t32_⟩
    ·rw [if_neg M] at H;have ab:(G==I)=false:=b2_ M;have bl:(G !=I)=true:=b3_ M;replace H:=be_ H;obtain ⟨ar,bL,H⟩:=H;have b7:=a_ bL;clear bL;by_cases b2:ar=true
     ·subst b2;replace H:=(if_pos rfl).symm.trans H;replace H:=be_ H;obtain ⟨au,bN,H⟩:=H;have bM:=a_ bN;clear bN;by_cases b3:au=true
      ·subst b3;replace H:=(if_pos rfl).symm.trans H;replace H:=be_ H;obtain ⟨av,bO,H⟩:=H;have bY:=a_ bO;clear bO;obtain rfl:=Option.some.inj H;go_enter Try.func80,Try.ntmps80;go_wp2_with (first|((with_reducible refine gate_dst (N:=1) rfl ?_);refine box_event ?hg (N:=1) ?hd (cs:=#[.string D,.int .i64 G,.int .i64 I,.int .i64 a7,.int .i64 a8,.int .i64 aC]) (t:=80) ?hr ?_;(case hd=>rfl);(case hg=>rfl);(case hr=>first|(go_simp;done)|(go_simp;rfl));intro O hg cS hbox hb;have m:=a_ (below_step t1_ hb);have q:=a_ (hbox);have s:=a_ ((by rw [hg];exact (below_size t1_):w.heap.size≤O));have z:=a_ ((by rw [hg];exact (below_size t1_):w.heap.size≤O));clear HB;have HB:=m;have aA:=q;have aU:=s;have GE270:=z;clear m q s z;clear hb hbox hg;have ⟨ch,ci,cj,ck,cl,cm,dQ,dR,dS,dT,dU,dV⟩:=bc6_ aA.out)|((with_reducible refine gate_callee (f:=45) rfl ?_);refine goesL_ (some 5) rfl rfl Try.func45 t13_ rfl #[.string D] rfl t2_ ?_;(with_reducible refine (impl_IsName.calls k D true _ A2.out).mono ?_);rintro e w' ⟨rfl,⟨nd,rfl⟩⟩;refine ⟨_,rfl,?_⟩)|(go_at_call 104;(with_reducible refine (impl_nodeOk.calls G true _ A4.out).mono ?_);rintro e w' ⟨rfl,⟨nd,rfl⟩⟩)|(go_at_call 104;(with_reducible refine (impl_nodeOk.calls I true _ A6.out).mono ?_);rintro e w' ⟨rfl,⟨nd,rfl⟩⟩)|(go_at_call 91;(with_reducible refine (impl_within.calls a7 1 10000 true _ b7.out).mono ?_);rintro e w' ⟨rfl,⟨nd,rfl⟩⟩)|(go_at_call 91;(with_reducible refine (impl_within.calls a8 20 1000 true _ bM.out).mono ?_);rintro e w' ⟨rfl,⟨nd,rfl⟩⟩)|(go_at_call 91;(with_reducible refine (impl_within.calls aC 0 5000 av _ bY.out).mono ?_);rintro e w' ⟨rfl,⟨nd,rfl⟩⟩));go_ret
       exact ⟨t4_,t32_⟩
      ·replace b3:=Bool.eq_false_iff.mpr b3;subst b3;replace H:=(if_neg (show ¬ (false=true) by decide)).symm.trans H;obtain rfl:=Option.some.inj H;go_enter Try.func80,Try.ntmps80;go_wp2_with (first|((with_reducible refine gate_dst (N:=1) rfl ?_);refine box_event ?hg (N:=1) ?hd (cs:=#[.string D,.int .i64 G,.int .i64 I,.int .i64 a7,.int .i64 a8,.int .i64 aC]) (t:=80) ?hr ?_;(case hd=>rfl);(case hg=>rfl);(case hr=>first|(go_simp;done)|(go_simp;rfl));intro O hg e5 hbox hb;have m:=a_ (below_step t1_ hb);have q:=a_ (hbox);have s:=a_ ((by rw [hg];exact (below_size t1_):w.heap.size≤O));have z:=a_ ((by rw [hg];exact (below_size t1_):w.heap.size≤O));clear HB;have HB:=m;have aA:=q;have aU:=s;have GE270:=z;clear m q s z;clear hb hbox hg;have ⟨bu,bv,bw,bx,bz,c1,cG,cH,cI,cJ,cK,cL⟩:=bc6_ aA.out)|((with_reducible refine gate_callee (f:=45) rfl ?_);refine goesL_ (some 5) rfl rfl Try.func45 t13_ rfl #[.string D] rfl t2_ ?_;(with_reducible refine (impl_IsName.calls k D true _ A2.out).mono ?_);rintro e w' ⟨rfl,⟨nd,rfl⟩⟩;refine ⟨_,rfl,?_⟩)|(go_at_call 104;(with_reducible refine (impl_nodeOk.calls G true _ A4.out).mono ?_);rintro e w' ⟨rfl,⟨nd,rfl⟩⟩)|(go_at_call 104;(with_reducible refine (impl_nodeOk.calls I true _ A6.out).mono ?_);rintro e w' ⟨rfl,⟨nd,rfl⟩⟩)|(go_at_call 91;(with_reducible refine (impl_within.calls a7 1 10000 true _ b7.out).mono ?_);rintro e w' ⟨rfl,⟨nd,rfl⟩⟩)|(go_at_call 91;(with_reducible refine (impl_within.calls a8 20 1000 false _ bM.out).mono ?_);rintro e w' ⟨rfl,⟨nd,rfl⟩⟩));go_ret
       exact ⟨t4_,t32_⟩
     ·replace b2:=Bool.eq_false_iff.mpr b2;subst b2;replace H:=(if_neg (show ¬ (false=true) by decide)).symm.trans H;obtain rfl:=Option.some.inj H;go_enter Try.func80,Try.ntmps80;go_wp2_with (first|((with_reducible refine gate_dst (N:=1) rfl ?_);refine box_event ?hg (N:=1) ?hd (cs:=#[.string D,.int .i64 G,.int .i64 I,.int .i64 a7,.int .i64 a8,.int .i64 aC]) (t:=80) ?hr ?_;(case hd=>rfl);(case hg=>rfl);(case hr=>first|(go_simp;done)|(go_simp;rfl));intro O hg cT hbox hb;have m:=a_ (below_step t1_ hb);have q:=a_ (hbox);have s:=a_ ((by rw [hg];exact (below_size t1_):w.heap.size≤O));have z:=a_ ((by rw [hg];exact (below_size t1_):w.heap.size≤O));clear HB;have HB:=m;have aA:=q;have aU:=s;have GE270:=z;clear m q s z;clear hb hbox hg;have ⟨cp,cq,cr,ct,cu,cv,dY,dZ,da,db,dc,dd⟩:=bc6_ aA.out)|((with_reducible refine gate_callee (f:=45) rfl ?_);refine goesL_ (some 5) rfl rfl Try.func45 t13_ rfl #[.string D] rfl t2_ ?_;(with_reducible refine (impl_IsName.calls k D true _ A2.out).mono ?_);rintro e w' ⟨rfl,⟨nd,rfl⟩⟩;refine ⟨_,rfl,?_⟩)|(go_at_call 104;(with_reducible refine (impl_nodeOk.calls G true _ A4.out).mono ?_);rintro e w' ⟨rfl,⟨nd,rfl⟩⟩)|(go_at_call 104;(with_reducible refine (impl_nodeOk.calls I true _ A6.out).mono ?_);rintro e w' ⟨rfl,⟨nd,rfl⟩⟩)|(go_at_call 91;(with_reducible refine (impl_within.calls a7 1 10000 false _ b7.out).mono ?_);rintro e w' ⟨rfl,⟨nd,rfl⟩⟩));go_ret
      exact ⟨t4_,t32_⟩
   ·replace c7:=Bool.eq_false_iff.mpr c7;subst c7;replace H:=(if_neg (show ¬ (false=true) by decide)).symm.trans H;obtain rfl:=Option.some.inj H;go_enter Try.func80,Try.ntmps80;go_wp2_with (first|((with_reducible refine gate_dst (N:=1) rfl ?_);refine box_event ?hg (N:=1) ?hd (cs:=#[.string D,.int .i64 G,.int .i64 I,.int .i64 a7,.int .i64 a8,.int .i64 aC]) (t:=80) ?hr ?_;(case hd=>rfl);(case hg=>rfl);(case hr=>first|(go_simp;done)|(go_simp;rfl));intro O hg e6 hbox hb;have m:=a_ (below_step t1_ hb);have q:=a_ (hbox);have s:=a_ ((by rw [hg];exact (below_size t1_):w.heap.size≤O));have z:=a_ ((by rw [hg];exact (below_size t1_):w.heap.size≤O));clear HB;have HB:=m;have aA:=q;have aU:=s;have GE270:=z;clear m q s z;clear hb hbox hg;have ⟨cw,cx,cy,cz,d0,d1,de,df,dg,dh,di,dj⟩:=bc6_ aA.out)|((with_reducible refine gate_callee (f:=45) rfl ?_);refine goesL_ (some 5) rfl rfl Try.func45 t13_ rfl #[.string D] rfl t2_ ?_;(with_reducible refine (impl_IsName.calls k D true _ A2.out).mono ?_);rintro e w' ⟨rfl,⟨nd,rfl⟩⟩;refine ⟨_,rfl,?_⟩)|(go_at_call 104;(with_reducible refine (impl_nodeOk.calls G true _ A4.out).mono ?_);rintro e w' ⟨rfl,⟨nd,rfl⟩⟩)|(go_at_call 104;(with_reducible refine (impl_nodeOk.calls I false _ A6.out).mono ?_);rintro e w' ⟨rfl,⟨nd,rfl⟩⟩));go_ret
    exact ⟨t4_,t32_⟩
  ·replace c5:=Bool.eq_false_iff.mpr c5;subst c5;replace H:=(if_neg (show ¬ (false=true) by decide)).symm.trans H;obtain rfl:=Option.some.inj H;go_enter Try.func80,Try.ntmps80;go_wp2_with (first|((with_reducible refine gate_dst (N:=1) rfl ?_);refine box_event ?hg (N:=1) ?hd (cs:=#[.string D,.int .i64 G,.int .i64 I,.int .i64 a7,.int .i64 a8,.int .i64 aC]) (t:=80) ?hr ?_;(case hd=>rfl);(case hg=>rfl);(case hr=>first|(go_simp;done)|(go_simp;rfl));intro O hg e7 hbox hb;have m:=a_ (below_step t1_ hb);have q:=a_ (hbox);have s:=a_ ((by rw [hg];exact (below_size t1_):w.heap.size≤O));have z:=a_ ((by rw [hg];exact (below_size t1_):w.heap.size≤O));clear HB;have HB:=m;have aA:=q;have aU:=s;have GE270:=z;clear m q s z;clear hb hbox hg;have ⟨d2,d3,d4,d5,d6,d7,dk,dl,dm,dn,dp,dq⟩:=bc6_ aA.out)|((with_reducible refine gate_callee (f:=45) rfl ?_);refine goesL_ (some 5) rfl rfl Try.func45 t13_ rfl #[.string D] rfl t2_ ?_;(with_reducible refine (impl_IsName.calls k D true _ A2.out).mono ?_);rintro e w' ⟨rfl,⟨nd,rfl⟩⟩;refine ⟨_,rfl,?_⟩)|(go_at_call 104;(with_reducible refine (impl_nodeOk.calls G false _ A4.out).mono ?_);rintro e w' ⟨rfl,⟨nd,rfl⟩⟩));go_ret
   exact ⟨t4_,t32_⟩
 ·replace c3:=Bool.eq_false_iff.mpr c3;subst c3;replace H:=(if_neg (show ¬ (false=true) by decide)).symm.trans H;obtain rfl:=Option.some.inj H;go_enter Try.func80,Try.ntmps80;go_wp2_with (first|((with_reducible refine gate_dst (N:=1) rfl ?_);refine box_event ?hg (N:=1) ?hd (cs:=#[.string D,.int .i64 G,.int .i64 I,.int .i64 a7,.int .i64 a8,.int .i64 aC]) (t:=80) ?hr ?_;(case hd=>rfl);(case hg=>rfl);(case hr=>first|(go_simp;done)|(go_simp;rfl));intro O hg e8 hbox hb;have m:=a_ (below_step t1_ hb);have q:=a_ (hbox);have s:=a_ ((by rw [hg];exact (below_size t1_):w.heap.size≤O));have z:=a_ ((by rw [hg];exact (below_size t1_):w.heap.size≤O));clear HB;have HB:=m;have aA:=q;have aU:=s;have GE270:=z;clear m q s z;clear hb hbox hg;have ⟨d8,d9,dA,dB,dC,dD,dr,ds,dt,du,dv,dw⟩:=bc6_ aA.out)|((with_reducible refine gate_callee (f:=45) rfl ?_);refine goesL_ (some 5) rfl rfl Try.func45 t13_ rfl #[.string D] rfl t2_ ?_;(with_reducible refine (impl_IsName.calls k D false _ A2.out).mono ?_);rintro e w' ⟨rfl,⟨nd,rfl⟩⟩;refine ⟨_,rfl,?_⟩));go_ret
  exact ⟨t4_,t32_⟩

def impl_Network_hasNode.f (u:List Int) (l0_1:List (S80)) (A:Int):Option (Bool):=(impl_within.f A 0 (wrap64 ((u.length:Int) - 1))).bind fun aw=>(some aw)
theorem impl_Network_hasNode.calls (T:Option Addr) (X:Nat) (u:List Int) (U:Option Addr) (Y:Nat) (l0_1:List (S80)) (A:Int) (r:Bool) (w:World) (af:Kd.C (Kd.int .i64) w T u.length u) (ac:u.length≤X) (ag:Kd.C k80 w U l0_1.length l0_1) (ae:l0_1.length≤Y) (h:impl_Network_hasNode.f u l0_1 A=some r):
  Calls Try.prog 59 #[.agg #[.slice T u.length X,.slice U l0_1.length Y],.int .i64 A] w fun e w'=>e=.returned (.bool r)∧Below w.heap.size w w':=by
 have cM:=Try.underlying32;have HR0_0:=a_ af;have b0:=a_ ac;clear af ac;have HR0_1:=a_ ag;have b1:=a_ ae;clear ag ae;have HB:=a_ (Below.refl w.heap.size w);have H:((impl_within.f A 0 (wrap64 ((u.length:Int) - 1))).bind fun aw=>(some aw))=some r:=h;clear h;replace H:=be_ H;obtain ⟨aw,aZ,H⟩:=H;have A3:=a_ aZ;clear aZ;obtain rfl:=Option.some.inj H;go_enter Try.func59,Try.ntmps59;go_wp2_with (first|((with_reducible refine gate_dst (N:=2) rfl ?_);refine box_event ?hg (N:=2) ?hd (cs:=#[.slice T u.length X,.slice U l0_1.length Y]) (t:=32) ?hr ?_;(case hd=>rfl);(case hg=>rfl);(case hr=>first|(go_simp;done)|(go_simp;rfl));intro bW hg w4 hbox hb;have m:=a_ (below_step t1_ hb);have q:=a_ (hbox);have s:=a_ ((by rw [hg];exact (below_size t1_):w.heap.size≤bW));have z:=a_ ((by rw [hg];exact (below_size t1_):w.heap.size≤bW));clear HB;have HB:=m;have bb:=q;have cU:=s;have bc:=z;clear m q s z;clear hb hbox hg;have ⟨dE,dF,dx,dy⟩:=bc2_ bb.out)|((with_reducible refine gate_callee (f:=91) rfl ?_);refine goesL_ (some 10) rfl rfl Try.func91 t13_ rfl #[.int .i64 A,.int .i64 0,.int .i64 (wrap64 ((u.length:Int) - 1))] rfl t2_ ?_;(with_reducible refine (impl_within.calls A 0 (wrap64 ((u.length:Int) - 1)) aw _ A3.out).mono ?_);rintro e w' ⟨rfl,⟨nd,rfl⟩⟩;refine ⟨_,rfl,?_⟩));go_ret
 exact ⟨t4_,(by repeat (first|(with_reducible first|exact HB.out|apply below_alloc|apply pw_below_drewN|apply below_drew1|refine below_set ?_ bc.out)|exact HB.out))⟩

def impl_Network_hasEnds.f (u:List Int) (l0_1:List (S80)) (aO:ByteArray) (a9:Int) (aH:Int) (aP:Int) (aQ:Int) (aR:Int):Option (Bool):=(impl_Network_hasNode.f u l0_1 a9).bind fun ax=>(if ax=true then ((impl_Network_hasNode.f u l0_1 aH).bind fun ay=>(some ay)) else (some false))
theorem impl_Network_hasEnds.calls (T:Option Addr) (X:Nat) (u:List Int) (U:Option Addr) (Y:Nat) (l0_1:List (S80)) (aO:ByteArray) (a9:Int) (aH:Int) (aP:Int) (aQ:Int) (aR:Int) (r:Bool) (w:World) (af:Kd.C (Kd.int .i64) w T u.length u) (ac:u.length≤X) (ag:Kd.C k80 w U l0_1.length l0_1) (ae:l0_1.length≤Y) (h:impl_Network_hasEnds.f u l0_1 aO a9 aH aP aQ aR=some r):
  Calls Try.prog 81 #[.agg #[.slice T u.length X,.slice U l0_1.length Y],.agg #[.string aO,.int .i64 a9,.int .i64 aH,.int .i64 aP,.int .i64 aQ,.int .i64 aR]] w fun e w'=>e=.returned (.bool r)∧Below w.heap.size w w':=by
 have cM:=Try.underlying32;have cN:=Try.underlying80;have HR0_0:=a_ af;have b0:=a_ ac;clear af ac;have HR0_1:=a_ ag;have b1:=a_ ae;clear ag ae;have HB:=a_ (Below.refl w.heap.size w);have H:((impl_Network_hasNode.f u l0_1 a9).bind fun ax=>(if ax=true then ((impl_Network_hasNode.f u l0_1 aH).bind fun ay=>(some ay)) else (some false)))=some r:=h;clear h;replace H:=be_ H;obtain ⟨ax,aZ,H⟩:=H;have A3:=a_ aZ;clear aZ;by_cases L:ax=true
 ·subst L;replace H:=(if_pos rfl).symm.trans H;replace H:=be_ H;obtain ⟨ay,bQ,H⟩:=H;have A5:=a_ bQ;clear bQ;obtain rfl:=Option.some.inj H;go_enter Try.func81,Try.ntmps81;go_wp2_with (first|((with_reducible refine gate_dst (N:=2) rfl ?_);refine box_event ?hg (N:=2) ?hd (cs:=#[.slice T u.length X,.slice U l0_1.length Y]) (t:=32) ?hr ?_;(case hd=>rfl);(case hg=>rfl);(case hr=>first|(go_simp;done)|(go_simp;rfl));intro Z hg w6 hbox hb;have m:=a_ (below_step t1_ hb);have q:=a_ (hbox);have s:=a_ ((by rw [hg];exact (below_size t1_):w.heap.size≤Z));have z:=a_ ((by rw [hg];exact (below_size t1_):w.heap.size≤Z));clear HB;have HB:=m;have J:=q;have bd:=s;have GE279:=z;clear m q s z;clear hb hbox hg)|((with_reducible refine gate_dst (N:=3) rfl ?_);refine box_event ?hg (N:=3) ?hd (cs:=#[.string aO,.int .i64 a9,.int .i64 aH,.int .i64 aP,.int .i64 aQ,.int .i64 aR]) (t:=80) ?hr ?_;(case hd=>rfl);(case hg=>rfl);(case hr=>first|(go_simp;done)|(go_simp;rfl));intro aF hg w7 hbox hb;have m:=a_ (blk_below (g:=Z) (o:=.cells #[.slice T u.length X,.slice U l0_1.length Y] 32 (0,0)) (q1_ J.out) hb);have q:=a_ (below_step t36_ hb);have s:=a_ (hbox);have z:=a_ ((by rw [hg];exact (below_size t36_):w.heap.size≤aF));have ah:=a_ ((by rw [hg];exact (below_size t36_):w.heap.size≤aF));have ai:=a_ ((by rw [hg];exact Nat.ne_of_lt (blk_lt (g:=Z) (o:=.cells #[.slice T u.length X,.slice U l0_1.length Y] 32 (0,0)) (q1_ J.out)):Z≠aF));have aj:=a_ ((by rw [hg];exact Nat.ne_of_gt (blk_lt (g:=Z) (o:=.cells #[.slice T u.length X,.slice U l0_1.length Y] 32 (0,0)) (q1_ J.out)):aF≠Z));clear J;clear HB;have J:=m;have HB:=q;have aB:=s;have be:=z;have GE280:=ah;have b8:=ai;have b9:=aj;clear m q s z ah ai aj;clear hb hbox hg;have hnb8:=b8.out;have hnc8:=b9.out;have ⟨dG,dH,dz,e0⟩:=bc2_ J.out;have ⟨bn,bo,bp,bq,br,bs,cA,cB,cC,cD,cE,cF⟩:=bc6_ aB.out)|((with_reducible refine gate_callee (f:=59) rfl ?_);refine goesL_ (some 8) rfl rfl Try.func59 t13_ rfl #[.agg #[.slice T u.length X,.slice U l0_1.length Y],.int .i64 a9] rfl t2_ ?_;(with_reducible refine (impl_Network_hasNode.calls _ _ u _ _ l0_1 a9 true _ ?Z1 ?Z2 ?Z3 ?Z4 A3.out).mono ?_);(case Z1=>exact qc_ (Kd.C_below HR0_0.out HB.out));(case Z2=>exact b0.out);(case Z3=>exact qc_ (Kd.C_below HR0_1.out HB.out));(case Z4=>exact b1.out);rintro e e2 ⟨rfl,hb⟩;refine ⟨_,rfl,?_⟩;have m:=a_ (blk_below (g:=Z) (o:=.cells #[.slice T u.length X,.slice U l0_1.length Y] 32 (0,0)) (q1_ J.out) hb);have q:=a_ (blk_below (g:=aF) (o:=.cells #[.string aO,.int .i64 a9,.int .i64 aH,.int .i64 aP,.int .i64 aQ,.int .i64 aR] 80 (0,0)) (q1_ aB.out) hb);have s:=a_ (below_step t38_ hb);clear J;clear aB;clear HB;have J:=m;have aB:=q;have HB:=s;clear m q s;(try clear hb);(try clear hb2);(try clear hk);(try clear hi);have ⟨cZ,ca,dI,dJ⟩:=bc2_ J.out;have ⟨cb,cc,cd,ce,cf,cg,dK,dL,dM,dN,dO,dP⟩:=bc6_ aB.out)|(go_at_call 59;(with_reducible refine (impl_Network_hasNode.calls _ _ u _ _ l0_1 aH ay _ ?Z1 ?Z2 ?Z3 ?Z4 A5.out).mono ?_);(case Z1=>exact qc_ (Kd.C_below HR0_0.out HB.out));(case Z2=>exact b0.out);(case Z3=>exact qc_ (Kd.C_below HR0_1.out HB.out));(case Z4=>exact b1.out);rintro e e3 ⟨rfl,hb⟩;have m:=a_ (blk_below (g:=Z) (o:=.cells #[.slice T u.length X,.slice U l0_1.length Y] 32 (0,0)) (q1_ J.out) hb);have q:=a_ (blk_below (g:=aF) (o:=.cells #[.string aO,.int .i64 a9,.int .i64 aH,.int .i64 aP,.int .i64 aQ,.int .i64 aR] 80 (0,0)) (q1_ aB.out) hb);have s:=a_ (below_step t38_ hb);clear J;clear aB;clear HB;have J:=m;have aB:=q;have HB:=s;clear m q s;(try clear hb);(try clear hb2);(try clear hk);(try clear hi)));go_ret
  exact ⟨t4_,t38_⟩
 ·replace L:=Bool.eq_false_iff.mpr L;subst L;replace H:=(if_neg (show ¬ (false=true) by decide)).symm.trans H;obtain rfl:=Option.some.inj H;go_enter Try.func81,Try.ntmps81;go_wp2_with (first|((with_reducible refine gate_dst (N:=2) rfl ?_);refine box_event ?hg (N:=2) ?hd (cs:=#[.slice T u.length X,.slice U l0_1.length Y]) (t:=32) ?hr ?_;(case hd=>rfl);(case hg=>rfl);(case hr=>first|(go_simp;done)|(go_simp;rfl));intro Z hg e4 hbox hb;have m:=a_ (below_step t1_ hb);have q:=a_ (hbox);have s:=a_ ((by rw [hg];exact (below_size t1_):w.heap.size≤Z));have z:=a_ ((by rw [hg];exact (below_size t1_):w.heap.size≤Z));clear HB;have HB:=m;have J:=q;have bd:=s;have GE279:=z;clear m q s z;clear hb hbox hg)|((with_reducible refine gate_dst (N:=3) rfl ?_);refine box_event ?hg (N:=3) ?hd (cs:=#[.string aO,.int .i64 a9,.int .i64 aH,.int .i64 aP,.int .i64 aQ,.int .i64 aR]) (t:=80) ?hr ?_;(case hd=>rfl);(case hg=>rfl);(case hr=>first|(go_simp;done)|(go_simp;rfl));intro aF hg cS hbox hb;have m:=a_ (blk_below (g:=Z) (o:=.cells #[.slice T u.length X,.slice U l0_1.length Y] 32 (0,0)) (q1_ J.out) hb);have q:=a_ (below_step t36_ hb);have s:=a_ (hbox);have z:=a_ ((by rw [hg];exact (below_size t36_):w.heap.size≤aF));have ah:=a_ ((by rw [hg];exact (below_size t36_):w.heap.size≤aF));have ai:=a_ ((by rw [hg];exact Nat.ne_of_lt (blk_lt (g:=Z) (o:=.cells #[.slice T u.length X,.slice U l0_1.length Y] 32 (0,0)) (q1_ J.out)):Z≠aF));have aj:=a_ ((by rw [hg];exact Nat.ne_of_gt (blk_lt (g:=Z) (o:=.cells #[.slice T u.length X,.slice U l0_1.length Y] 32 (0,0)) (q1_ J.out)):aF≠Z));clear J;clear HB;have J:=m;have HB:=q;have aB:=s;have be:=z;have GE280:=ah;have b8:=ai;have b9:=aj;clear m q s z ah ai aj;clear hb hbox hg;have hnb17:=b8.out;have hnc17:=b9.out;have ⟨cn,co,dW,dX⟩:=bc2_ J.out;have ⟨bu,bv,bw,bx,bz,c1,cG,cH,cI,cJ,cK,cL⟩:=bc6_ aB.out)|((with_reducible refine gate_callee (f:=59) rfl ?_);refine goesL_ (some 8) rfl rfl Try.func59 t13_ rfl #[.agg #[.slice T u.length X,.slice U l0_1.length Y],.int .i64 a9] rfl t2_ ?_;(with_reducible refine (impl_Network_hasNode.calls _ _ u _ _ l0_1 a9 false _ ?Z1 ?Z2 ?Z3 ?Z4 A3.out).mono ?_);(case Z1=>exact qc_ (Kd.C_below HR0_0.out HB.out));(case Z2=>exact b0.out);(case Z3=>exact qc_ (Kd.C_below HR0_1.out HB.out));(case Z4=>exact b1.out);rintro e cT ⟨rfl,hb⟩;refine ⟨_,rfl,?_⟩;have m:=a_ (blk_below (g:=Z) (o:=.cells #[.slice T u.length X,.slice U l0_1.length Y] 32 (0,0)) (q1_ J.out) hb);have q:=a_ (blk_below (g:=aF) (o:=.cells #[.string aO,.int .i64 a9,.int .i64 aH,.int .i64 aP,.int .i64 aQ,.int .i64 aR] 80 (0,0)) (q1_ aB.out) hb);have s:=a_ (below_step t38_ hb);clear J;clear aB;clear HB;have J:=m;have aB:=q;have HB:=s;clear m q s;(try clear hb);(try clear hb2);(try clear hk);(try clear hi)));go_ret
  exact ⟨t4_,t38_⟩

end Go.Proofs.Ytjelfhmgbhidnaa.PFnExactFirstLost
