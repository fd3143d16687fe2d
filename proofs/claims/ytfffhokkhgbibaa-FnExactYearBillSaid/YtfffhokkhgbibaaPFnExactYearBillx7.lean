-- written by wip/xprint.py, a program of this session, for this claim; not trusted: Lean checks it.
import Derived.Test.YtfffhokkhgbibaaPFnExactYearBillx0
import Derived.Test.YtfffhokkhgbibaaPFnExactYearBillx4
namespace Go.Proofs.Ytfffhokkhgbibaa.PFnExactYearBill
open Go.RowKit Go.Proofs.YtfffhokkhgbibaaW.PrintWords Go.Proofs.YtfffhokkhgbibaaW.PrintLast Go.Proofs.YtfffhokkhgbibaaW.PrintMore
attribute [local go_sem] leq_less_ max2_int min2_int max_two min_two max_three min_three max_four min_four   -- for this text's walks alone
set_option linter.unusedVariables false
set_option linter.unusedSimpArgs false
set_option maxHeartbeats 8000000
set_option maxRecDepth 100000
def slices_IndexFunc_int64_int64.idxP {α:Type} (p:α→Bool) (l:List α):Int:=if l.any p then (l.findIdx p:Int) else -1
theorem slices_IndexFunc_int64_int64.hit {α:Type} (p:α→Bool) (l:List α) (k:Nat) (d:α) (hk:k<l.length) (h:p (l.getD k d)=true) (hb:∀ j,j<k→p (l.getD j d)=false):slices_IndexFunc_int64_int64.idxP p l=k:=by
  have e:l.getD k d=l[k]:=(by rw [List.getD_eq_getElem?_getD,List.getElem?_eq_getElem hk];rfl);have hany:l.any p=true:=List.any_eq_true.2 ⟨l[k],List.getElem_mem hk,e ▸ h⟩;unfold slices_IndexFunc_int64_int64.idxP
  rw [if_pos hany,(List.findIdx_eq hk).2 ⟨e ▸ h,fun j hj=>by have:=hb j hj;rwa [List.getD_eq_getElem?_getD,List.getElem?_eq_getElem t14_] at this⟩]
theorem slices_IndexFunc_int64_int64.miss {α:Type} (p:α→Bool) (l:List α) (d:α) (hb:∀ j,j<l.length→p (l.getD j d)=false):slices_IndexFunc_int64_int64.idxP p l= -1:=by
  unfold slices_IndexFunc_int64_int64.idxP
  rw [if_neg];intro h;obtain ⟨x,hx,hp⟩:=List.any_eq_true.1 h;obtain ⟨j,hj,rfl⟩:=List.mem_iff_getElem.1 hx;have:=hb j hj;rw [List.getD_eq_getElem?_getD,List.getElem?_eq_getElem hj] at this;simp only [Option.getD_some] at this;rw [this] at hp;cases hp
theorem slices_IndexFunc_int64_int64.nonneg {α:Type} (p:α→Bool) (l:List α):(0≤slices_IndexFunc_int64_int64.idxP p l)↔l.any p=true:=by
  unfold slices_IndexFunc_int64_int64.idxP
  split<;>simp_all<;>omega
set_option maxHeartbeats 1000000 in
theorem slices_IndexFunc_int64_int64.calls_any (p:Int→Bool) (g:Nat) (lb:Array Value) (eg:∀ args w,(callFunc g args).run Try.prog w=.ok (.enter g args) w) (Y:Option Addr) (c0:Nat) (s:List Int) (w:World)
    (hp:∀ (W:World) (x:Int),Below w.heap.size w W→Calls Try.prog g (#[.int .i64 x]++lb) W fun e w'=>e=.returned (.bool (p x))∧Below W.heap.size W w') (Z:Kd.C (Kd.int .i64) w Y s.length s):
    Calls Try.prog 48 #[.slice Y s.length c0,.func (.func g) #[] lb] w fun e w'=>e=.returned (.int .i64 (slices_IndexFunc_int64_int64.idxP p s))∧Below w.heap.size w w':=by
  have b6:=a_ Z;have HP:=a_ hp;have hbig:s.length≤9223372036854775807:=Z.2.1;clear Z hp;go_enter Try.func48,Try.ntmps48;go_wp2;go_loopg [5,8] s.length (fun gg _ s8 wr=>∃ kk:Nat,kk≤s.length∧s.length - kk≤gg∧s8=.int .i64 kk∧Aside0 (Below w.heap.size w wr)∧Aside0 (∀ j,j<kk→p (s.getD j 0)=false))
  case atStart=>exact ⟨0,Nat.zero_le _,t14_,rfl,⟨Below.refl _ _⟩,⟨fun j hj=>absurd hj (Nat.not_lt_zero _)⟩⟩
  case round=>
    obtain ⟨kk,hkk,hg,rfl,HB,HA⟩:=hrel;by_cases hlt:kk<s.length
    · have hltz:(kk:Int)<(s.length:Int):=by omega
      obtain ⟨ad,e,hx⟩:=Kd.at_int b6.out kk t14_ hltz;cases e;replace hx:=(HB.out.cell (World.block_lt_of_cell? w _ hx)).trans hx;simp only [Int.toNat_natCast,rd] at hx;obtain ⟨y,hy⟩:∃ y,y=s.getD kk 0:=⟨_,rfl⟩;rw [← hy] at hx;have HY:=a_ hy;clear hy;have hcall:=fun W hb=>HP.out W y hb;cases hq:p y with
      |true=>
        rw [hq] at hcall;have HC:=a_ hcall;clear hcall;have HQ:=a_ hq;clear hq;go_wp2_with (go_at_fn g;refine (HC.out _ HB.out).mono ?_;rintro e w' ⟨rfl,hb'⟩);go_ret
        refine ⟨?_,HB.out.trans (hb'.mono HB.out.size)⟩;rw [slices_IndexFunc_int64_int64.hit p s kk 0 hlt (by rw [← HY.out];exact HQ.out) HA.out];rfl
      |false=>
        rw [hq] at hcall;have HC:=a_ hcall;clear hcall;have HQ:=a_ hq;clear hq;go_wp2_with (go_at_fn g;refine (HC.out _ HB.out).mono ?_;rintro e w' ⟨rfl,hb'⟩);go_roundg (s.length - (kk+1))
        case measure=>omega
        case rel=>
          refine ⟨kk+1,t14_,t14_,(by go_num),⟨HB.out.trans (hb'.mono HB.out.size)⟩,⟨fun j hj=>?_⟩⟩;by_cases e:j=kk
          · subst e
            rw [← HY.out];exact HQ.out
          · exact HA.out j t14_
    · have hltz:¬ (kk:Int)<(s.length:Int):=by omega
      have hkn:kk=s.length:=(by omega);have HK:=a_ hkn;clear hkn;go_wp2;go_ret
      refine ⟨?_,HB.out⟩;rw [slices_IndexFunc_int64_int64.miss p s 0 (fun j hj=>HA.out j (by have:=HK.out;omega))];rfl

set_option maxHeartbeats 1000000 in
theorem slices_ContainsFunc_int64_int64.calls_any (p:Int→Bool) (g:Nat) (lb:Array Value) (eg:∀ args w,(callFunc g args).run Try.prog w=.ok (.enter g args) w) (Y:Option Addr) (c0:Nat) (s:List Int) (w:World)
    (hp:∀ (W:World) (x:Int),Below w.heap.size w W→Calls Try.prog g (#[.int .i64 x]++lb) W fun e w'=>e=.returned (.bool (p x))∧Below W.heap.size W w') (Z:Kd.C (Kd.int .i64) w Y s.length s):
    Calls Try.prog 39 #[.slice Y s.length c0,.func (.func g) #[] lb] w fun e w'=>e=.returned (.bool (s.any p))∧Below w.heap.size w w':=by
  have hcon:=slices_IndexFunc_int64_int64.calls_any p g lb eg Y c0 s w hp Z;have hiff:=a_ (slices_IndexFunc_int64_int64.nonneg p s);generalize slices_IndexFunc_int64_int64.idxP p s=r at hcon hiff;clear Z hp;go_enter Try.func39,Try.ntmps39;go_wp2_with (go_at_call 48;refine hcon.mono ?_;rintro e w' ⟨rfl,hb⟩);go_ret
  refine ⟨?_,hb⟩;have h:=hiff.out;by_cases h0:0≤r
  · rw [h.1 h0];simp [h0]
  · rw [Bool.eq_false_iff.mpr (fun e=>h0 (h.2 e))];simp [h0]

set_option maxHeartbeats 1000000 in
theorem impl_allWithin_1.clos (x lo hi:Int) (g1 g2:Nat) (w:World) (h1:w.cell? ⟨g1,0,none⟩=some (.int .i64 lo)) (h2:w.cell? ⟨g2,0,none⟩=some (.int .i64 hi)):
    Calls Try.prog 40 #[.int .i64 x,.pointer (some ⟨g1,0,none⟩),.pointer (some ⟨g2,0,none⟩)] w fun e w'=>e=.returned (.bool (!(decide (lo≤x∧x≤hi))))∧Below w.heap.size w w':=by
  have hw:=fun w=>impl_within.calls x lo hi (decide (lo≤x∧x≤hi)) w (by unfold impl_within.f;split<;>simp<;>omega);generalize decide (lo≤x∧x≤hi)=b at hw ⊢;go_enter Try.func40,Try.ntmps40;go_wp2_with (go_at_call 32;refine (hw _).mono ?_;rintro e w' ⟨rfl,hd⟩);go_ret
  exact ⟨rfl,hd.below⟩

def impl_allWithin.f (s:List Int) (m:Int) (E:Int):Option (Bool):=some (s.all fun x=>decide (m≤x∧x≤E))
set_option maxHeartbeats 1000000 in
theorem impl_allWithin.calls (Y:Option Addr) (c0:Nat) (s:List Int) (m:Int) (E:Int) (r:Bool) (w:World) (Z:Kd.C (Kd.int .i64) w Y s.length s) (b9:s.length≤c0) (h:impl_allWithin.f s m E=some r):
    Calls Try.prog 25 #[.slice Y s.length c0,.int .i64 m,.int .i64 E] w fun e w'=>e=.returned (.bool r)∧Below w.heap.size w w':=by
  have hmf:∀ (fn:Fn) (first cap:Array Value) (w:World),(Instr.makeFunc fn first cap).run Try.prog w=.ok (.func fn first cap) w:=fun _ _ _ _=>rfl;have eg:∀ args w,(callFunc 40 args).run Try.prog w=.ok (.enter 40 args) w:=enters_of Try.func40 t11_ rfl;obtain rfl:=Option.some.inj h;have hb2:Below w.heap.size w ((w.alloc (.cells #[.int .i64 m] 2)).alloc (.cells #[.int .i64 E] 2)):=((Below.refl _ w).alloc (Nat.le_refl _) _).alloc t31_ _;have hcon:=slices_ContainsFunc_int64_int64.calls_any (fun x=>!(decide (m≤x∧x≤E))) 40 #[.pointer (some ⟨w.heap.size,0,none⟩),.pointer (some ⟨w.heap.size+1,0,none⟩)] eg Y c0 s ((w.alloc (.cells #[.int .i64 m] 2)).alloc (.cells #[.int .i64 E] 2))
    (fun W x hb=>impl_allWithin_1.clos x m E _ _ W
      ((hb.cell (p:=⟨w.heap.size,0,none⟩) (by simp;omega)).trans (by rw [World.cell?_alloc_lt _ _ _ t31_];simp))
      ((hb.cell (p:=⟨w.heap.size+1,0,none⟩) t31_).trans t31_)) (Kd.C_below Z hb2)
  have hall:(!(s.any fun x=>!(decide (m≤x∧x≤E))))=(s.all fun x=>decide (m≤x∧x≤E)):=by
    rw [List.not_any_eq_all_not];simp
  rw [← hall];generalize (s.any fun x=>!(decide (m≤x∧x≤E)))=b at hcon ⊢;clear hall Z eg h;have HB2:=a_ hb2;clear hb2;go_enter Try.func25,Try.ntmps25;go_wp2_with (go_at_call 39;refine hcon.mono ?_;rintro e w' ⟨rfl,hb⟩);go_ret
  exact ⟨rfl,HB2.out.trans (hb.mono HB2.out.size)⟩

def impl_abs.f (u:Int):Option (Int):=some (mx u (wrap64 (-u)))
theorem impl_abs.calls (u:Int) (r:Int) (w:World) (h:impl_abs.f u=some r):
  Calls Try.prog 42 #[.int .i64 u] w fun e w'=>e=.returned (.int .i64 r)∧Below w.heap.size w w':=by
 have HB:=a_ (Below.refl w.heap.size w);have H:(some (mx u (wrap64 (-u))))=some r:=h;clear h;obtain ⟨bp,av⟩:∃ j_:Int,(mx u (wrap64 (-u)))=j_:=⟨_,rfl⟩;replace H:(some bp)=some r:=(by first|(rw [av] at H;exact H)|(simp only [av] at H ⊢;exact H));have dP:(if u<(wrap64 (-u)) then (wrap64 (-u)) else u)=bp:=av;obtain rfl:=Option.some.inj H;go_enter Try.func42,Try.ntmps42;go_wp2;go_ret
 exact ⟨(by first|rfl|(rw [Int.tdiv_eq_ediv_of_nonneg t14_];rfl)|(simp [errW_none,errW_some]<;>rfl)|(simp only [← av];first|rfl|(simp [errW_none,errW_some]<;>rfl))|(simp [*,errW_none,errW_some]<;>rfl)),t1_⟩

def impl_divRound.f (u:Int) (m:Int):Option (Int):=if m=0 then (none) else ((impl_abs.f (Int.tmod u m)).bind fun O=>((impl_abs.f m).bind fun aB=>(if O≥(wrap64 (aB - O)) then (if ((decide (u<0))==(decide (m<0)))=true then (some (wrap64 ((wrap64 (Int.tdiv u m))+1))) else (some (wrap64 ((wrap64 (Int.tdiv u m)) - 1)))) else (some (wrap64 (Int.tdiv u m))))))
def impl_divRound.T1:Bool × List (List Nat × List Nat):=(true,[([],[]),([],[]),([0,1],[0,1]),([],[]),([],[]),([3,4],[3,4]),([5],[5]),([2,6,0,1,2],[2]),([6,7,0,1,2,3,4,5,6,7],[6])])
def impl_divRound.B1:List Nat:=[0,0,3,0,0,24,56,127,255]
theorem impl_divRound.tab1:rtab .any (opsOf Try.f33 1)=impl_divRound.T1:=by kernel_rfl
theorem impl_divRound.bits1:waitsOk impl_divRound.T1.2 impl_divRound.B1=true:=by kernel_rfl
theorem impl_divRound.calls (u:Int) (m:Int) (r:Int) (w:World) (h:impl_divRound.f u m=some r):
  Calls Try.prog 33 #[.int .i64 u,.int .i64 m] w fun e w'=>e=.returned (.int .i64 r)∧Below w.heap.size w w':=by
 have HB:=a_ (Below.refl w.heap.size w);have H:(if m=0 then (none) else ((impl_abs.f (Int.tmod u m)).bind fun O=>((impl_abs.f m).bind fun aB=>(if O≥(wrap64 (aB - O)) then (if ((decide (u<0))==(decide (m<0)))=true then (some (wrap64 ((wrap64 (Int.tdiv u m))+1))) else (some (wrap64 ((wrap64 (Int.tdiv u m)) - 1)))) else (some (wrap64 (Int.tdiv u m)))))))=some r:=h;clear h;by_cases c3:m=0
 ·rw [if_pos c3] at H;exact absurd H t31_
 ·rw [if_neg c3] at H;have cK:(m==0)=false:=b2_ c3;have cz:(m !=0)=true:=b3_ c3;replace H:=be_ H;obtain ⟨O,aV,H⟩:=H;have A4:=a_ aV;clear aV;replace H:=be_ H;obtain ⟨aB,aX,H⟩:=H;have A5:=a_ aX;clear aX;by_cases c6:O≥(wrap64 (aB - O))
  ·rw [if_pos c6] at H;have bi:decide ((wrap64 (aB - O))≤O)=true:=d1_ c6;clear c6;by_cases M:((decide (u<0))==(decide (m<0)))=true
   ·rw [if_pos M] at H;have bj:((decide (u<0))==(decide (m<0)))=true:=M;(try (have cM:decide ((decide (u<0))=(decide (m<0)))=true:=by simpa using M));(try (have cN:((decide (u<0))==(decide (m<0)))=true:=by simpa using M));clear M;obtain rfl:=Option.some.inj H;go_enter Try.func33,Try.ntmps33;(try go_wp2);have z:=a_ (below_drew1 HB.out);clear HB;have HB:=z;clear z;refine start_ (n:=9) (S:=fun w'=>True) (ds:=[]) (tf 0 9) t11_ rfl rfl trivial (fun hHeld=>?_);refine with_tabW impl_divRound.tab1 impl_divRound.bits1 (fun HT_ HW_=>?_);generalize w.drew=w8 at HB hHeld ⊢;refine px 0 (some 7) (tf 1 9) HT_ ?_;refine px 1 (some 8) (tf 2 9) HT_ ?_;refine px 2 (some 9) (tf 3 9) HT_ ?_;refine px 3 (some 10) (tf 4 9) HT_ ?_;refine px 4 (some 11) (tf 5 9) HT_ ?_;refine px 5 (some 12) (tf 6 9) HT_ ?_;refine one_ (i:=6) (N:=some 13) (tf 7 9) rfl rfl (one_of HT_.out t11_) t25_ (fun K hK=>?_);refine goes_ Try.func42 t11_ rfl #[.int .i64 (Int.tmod u m)] t45_ rfl rfl t2_ ?_;(with_reducible refine (impl_abs.calls (Int.tmod u m) O _ A4.out).mono ?_);rintro e w9 ⟨rfl,hb⟩;refine ⟨_,rfl,?_⟩;have z:=a_ (below_step t1_ hb);clear HB;have HB:=z;clear z;(try clear hb);(try clear hb2);(try clear hk);(try clear hi);refine hK.out _ _ trivial (fun hHeld=>?_);clear hK K;refine norm_ (a':=?_) ?_ ?_;rotate_left
    ·show Act.put _ (some 13) _=_
     simp only [Act.put,List.setIfInBounds_toArray,List.set_cons_zero,List.set_cons_succ,i64_w,i32_w];rfl
    refine px 7 (some 5) (tf 8 9) HT_ ?_;refine px 8 (some 6) (tf 9 9) HT_ ?_;refine done_ (done_of HT_.out t11_) ?_;(try go_wp2_with (first|((with_reducible refine gate_callee (f:=42) rfl ?_);refine goesL_ (some 16) rfl rfl Try.func42 t11_ rfl #[.int .i64 m] rfl t2_ ?_;(with_reducible refine (impl_abs.calls m aB _ A5.out).mono ?_);rintro e dZ ⟨rfl,hb⟩;refine ⟨_,rfl,?_⟩;have z:=a_ (below_step t1_ hb);clear HB;have HB:=z;clear z;(try clear hb);(try clear hb2);(try clear hk);(try clear hi))));go_ret
    exact ⟨t15_,t1_⟩
   ·rw [if_neg M] at H;have bj:((decide (u<0))==(decide (m<0)))=false:=(by simpa using M);(try (have cM:decide ((decide (u<0))=(decide (m<0)))=false:=by simpa using M));(try (have cN:((decide (u<0))==(decide (m<0)))=false:=by simpa using M));(try (have d1:¬ ((decide (u<0))=(decide (m<0))):=by simpa using M));clear M;obtain rfl:=Option.some.inj H;go_enter Try.func33,Try.ntmps33;(try go_wp2);have z:=a_ (below_drew1 HB.out);clear HB;have HB:=z;clear z;refine start_ (n:=9) (S:=fun w'=>True) (ds:=[]) (tf 0 9) t11_ rfl rfl trivial (fun hHeld=>?_);refine with_tabW impl_divRound.tab1 impl_divRound.bits1 (fun HT_ HW_=>?_);generalize w.drew=da at HB hHeld ⊢;refine px 0 (some 7) (tf 1 9) HT_ ?_;refine px 1 (some 8) (tf 2 9) HT_ ?_;refine px 2 (some 9) (tf 3 9) HT_ ?_;refine px 3 (some 10) (tf 4 9) HT_ ?_;refine px 4 (some 11) (tf 5 9) HT_ ?_;refine px 5 (some 12) (tf 6 9) HT_ ?_;refine one_ (i:=6) (N:=some 13) (tf 7 9) rfl rfl (one_of HT_.out t11_) t25_ (fun K hK=>?_);refine goes_ Try.func42 t11_ rfl #[.int .i64 (Int.tmod u m)] t45_ rfl rfl t2_ ?_;(with_reducible refine (impl_abs.calls (Int.tmod u m) O _ A4.out).mono ?_);rintro e db ⟨rfl,hb⟩;refine ⟨_,rfl,?_⟩;have z:=a_ (below_step t1_ hb);clear HB;have HB:=z;clear z;(try clear hb);(try clear hb2);(try clear hk);(try clear hi);refine hK.out _ _ trivial (fun hHeld=>?_);clear hK K;refine norm_ (a':=?_) ?_ ?_;rotate_left
    ·show Act.put _ (some 13) _=_
     simp only [Act.put,List.setIfInBounds_toArray,List.set_cons_zero,List.set_cons_succ,i64_w,i32_w];rfl
    refine px 7 (some 5) (tf 8 9) HT_ ?_;refine px 8 (some 6) (tf 9 9) HT_ ?_;refine done_ (done_of HT_.out t11_) ?_;(try go_wp2_with (first|((with_reducible refine gate_callee (f:=42) rfl ?_);refine goesL_ (some 16) rfl rfl Try.func42 t11_ rfl #[.int .i64 m] rfl t2_ ?_;(with_reducible refine (impl_abs.calls m aB _ A5.out).mono ?_);rintro e dc ⟨rfl,hb⟩;refine ⟨_,rfl,?_⟩;have z:=a_ (below_step t1_ hb);clear HB;have HB:=z;clear z;(try clear hb);(try clear hb2);(try clear hk);(try clear hi))));go_ret
    exact ⟨t15_,t1_⟩
  ·rw [if_neg c6] at H;have bi:decide ((wrap64 (aB - O))≤O)=false:=d2_ c6;clear c6;obtain rfl:=Option.some.inj H;go_enter Try.func33,Try.ntmps33;(try go_wp2);have z:=a_ (below_drew1 HB.out);clear HB;have HB:=z;clear z;refine start_ (n:=9) (S:=fun w'=>True) (ds:=[]) (tf 0 9) t11_ rfl rfl trivial (fun hHeld=>?_);refine with_tabW impl_divRound.tab1 impl_divRound.bits1 (fun HT_ HW_=>?_);generalize w.drew=dd at HB hHeld ⊢;refine px 0 (some 7) (tf 1 9) HT_ ?_;refine px 1 (some 8) (tf 2 9) HT_ ?_;refine px 2 (some 9) (tf 3 9) HT_ ?_;refine px 3 (some 10) (tf 4 9) HT_ ?_;refine px 4 (some 11) (tf 5 9) HT_ ?_;refine px 5 (some 12) (tf 6 9) HT_ ?_;refine one_ (i:=6) (N:=some 13) (tf 7 9) rfl rfl (one_of HT_.out t11_) t25_ (fun K hK=>?_);refine goes_ Try.func42 t11_ rfl #[.int .i64 (Int.tmod u m)] t45_ rfl rfl t2_ ?_;(with_reducible refine (impl_abs.calls (Int.tmod u m) O _ A4.out).mono ?_);rintro e de ⟨rfl,hb⟩;refine ⟨_,rfl,?_⟩;have z:=a_ (below_step t1_ hb);clear HB;have HB:=z;clear z;(try clear hb);(try clear hb2);(try clear hk);(try clear hi);refine hK.out _ _ trivial (fun hHeld=>?_);clear hK K;refine norm_ (a':=?_) ?_ ?_;rotate_left
   ·show Act.put _ (some 13) _=_
    simp only [Act.put,List.setIfInBounds_toArray,List.set_cons_zero,List.set_cons_succ,i64_w,i32_w];rfl
   refine px 7 (some 5) (tf 8 9) HT_ ?_;refine px 8 (some 6) (tf 9 9) HT_ ?_;refine done_ (done_of HT_.out t11_) ?_;(try go_wp2_with (first|((with_reducible refine gate_callee (f:=42) rfl ?_);refine goesL_ (some 16) rfl rfl Try.func42 t11_ rfl #[.int .i64 m] rfl t2_ ?_;(with_reducible refine (impl_abs.calls m aB _ A5.out).mono ?_);rintro e df ⟨rfl,hb⟩;refine ⟨_,rfl,?_⟩;have z:=a_ (below_step t1_ hb);clear HB;have HB:=z;clear z;(try clear hb);(try clear hb2);(try clear hk);(try clear hi))));go_ret
   exact ⟨t15_,t1_⟩

def impl_Tariff_heatCost.l0:Nat→Int→Int→List (List Int)→Int→Int→ByteArray→Int→Int→List (List Int)→Option (Int)
 |0,_,_,_,_,_,_,_,_,_=>none
 |k+1,x1,x5,aA,bX,L,bw,bx,bz,aT=>if L<bX then (if 0≤L then (if L<(aA.length:Int) then (if L<(wrap64 ((aT.length:Int) - 1)) then (if 0≤(wrap64 (L+1)) then (if (wrap64 (L+1))<(aT.length:Int) then (if 0<((rd_L1 aT (wrap64 (L+1))).length:Int) then (if 0<((rd_L1 aA L).length:Int) then (if 1<((rd_L1 aA L).length:Int) then (impl_Tariff_heatCost.l0 k x1 (wrap64 (x5+(wrap64 ((mx (wrap64 ((mn x1 (rd (rd_L1 aT (wrap64 (L+1))) 0)) - (rd (rd_L1 aA L) 0))) 0) * (rd (rd_L1 aA L) 1))))) aA bX (wrap64 (L+1)) bw bx bz aT) else (none)) else (none)) else (none)) else (none)) else (none)) else (if 0<((rd_L1 aA L).length:Int) then (if 1<((rd_L1 aA L).length:Int) then (impl_Tariff_heatCost.l0 k x1 (wrap64 (x5+(wrap64 ((mx (wrap64 (x1 - (rd (rd_L1 aA L) 0))) 0) * (rd (rd_L1 aA L) 1))))) aA bX (wrap64 (L+1)) bw bx bz aT) else (none)) else (none))) else (none)) else (none)) else (some x5)
def impl_Tariff_heatCost.f (k:Nat) (D:ByteArray) (A:Int) (B:Int) (c:List (List Int)) (m:Int):Option (Int):=impl_Tariff_heatCost.l0 k m 0 c (c.length:Int) 0 D A B c
theorem impl_Tariff_heatCost.mono_l:∀ k,(∀ y0 y1 y2 y3 y4 y5 y6 y7 y8,LeO (impl_Tariff_heatCost.l0 k y0 y1 y2 y3 y4 y5 y6 y7 y8) (impl_Tariff_heatCost.l0 (k+1) y0 y1 y2 y3 y4 y5 y6 y7 y8))
 |0=>fun _ _ _ _ _ _ _ _ _ r h=>by simp [impl_Tariff_heatCost.l0] at h
 |k+1=>by
  have aI:=impl_Tariff_heatCost.mono_l k
  ·intro y0 y1 y2 y3 y4 y5 y6 y7 y8
   unfold impl_Tariff_heatCost.l0
   with_reducible repeat' first|exact aI _ _ _ _ _ _ _ _ _|exact LeO.refl _|exact LeO.none _|refine LeO.ite ?_ ?_|refine LeO.bind ?_ (fun _=>?_)
theorem impl_Tariff_heatCost.mono:∀ u m E a3 a4 k,LeO (impl_Tariff_heatCost.f k u m E a3 a4) (impl_Tariff_heatCost.f (k+1) u m E a3 a4):=by
 intro u m E a3 a4 k;have aI:=impl_Tariff_heatCost.mono_l k;unfold impl_Tariff_heatCost.f
 with_reducible repeat' first|exact aI _ _ _ _ _ _ _ _ _|exact LeO.refl _|exact LeO.none _|refine LeO.ite ?_ ?_|refine LeO.bind ?_ (fun _=>?_)
theorem impl_Tariff_heatCost.calls (k:Nat) (D:ByteArray) (A:Int) (B:Int) (U:Option Addr) (X:Nat) (c:List (List Int)) (m:Int) (r:Int) (w:World) (ag:Kd.C (Kd.slice 2 (Kd.int .i64)) w U c.length c) (aa:c.length≤X) (h:impl_Tariff_heatCost.f k D A B c m=some r):
  Calls Try.prog 41 #[.agg #[.string D,.int .i64 A,.int .i64 B,.slice U c.length X],.int .i64 m] w fun e w'=>e=.returned (.int .i64 r)∧Below w.heap.size w w':=by
 have cW:=Try.underlying29;have HR0_3:=a_ ag;have bg:=a_ aa;clear ag aa;have HB:=a_ (Below.refl w.heap.size w);have H:(impl_Tariff_heatCost.l0 k m 0 c (c.length:Int) 0 D A B c)=some r:=h;clear h;have H':=a_ H;clear H;go_enter Try.func41,Try.ntmps41;go_wp2_with (first|((with_reducible refine gate_dst (N:=2) rfl ?_);refine box_event ?hg (N:=2) ?hd (cs:=#[.string D,.int .i64 A,.int .i64 B,.slice U c.length X]) (t:=29) ?hr ?_;(case hd=>rfl);(case hg=>rfl);(case hr=>first|(go_simp;done)|(go_simp;rfl));intro aD hg w3 hbox hb;have z:=a_ (below_step t1_ hb);have J:=a_ (hbox);have a8:=a_ ((by rw [hg];exact (below_size t1_):w.heap.size≤aD));have a9:=a_ ((by rw [hg];exact (below_size t1_):w.heap.size≤aD));clear HB;have HB:=z;have BK211:=J;have bf:=a8;have GE211:=a9;clear z J a8 a9;clear hb hbox hg;have ⟨bA,bB,bC,bD,bE,bF,bG,bH⟩:=bc4_ BK211.out));(repeat (go_quiet (first|((with_reducible refine gate_dst (N:=2) rfl ?_);refine box_event ?hg (N:=2) ?hd (cs:=#[.string D,.int .i64 A,.int .i64 B,.slice U c.length X]) (t:=29) ?hr ?_;(case hd=>rfl);(case hg=>rfl);(case hr=>first|(go_simp;done)|(go_simp;rfl));intro aD hg w3 hbox hb;have z:=a_ (below_step t1_ hb);have J:=a_ (hbox);have a8:=a_ ((by rw [hg];exact (below_size t1_):w.heap.size≤aD));have a9:=a_ ((by rw [hg];exact (below_size t1_):w.heap.size≤aD));clear HB;have HB:=z;have BK211:=J;have bf:=a8;have GE211:=a9;clear z J a8 a9;clear hb hbox hg;have ⟨bA,bB,bC,bD,bE,bF,bG,bH⟩:=bc4_ BK211.out));try go_wp2_with (first|((with_reducible refine gate_dst (N:=2) rfl ?_);refine box_event ?hg (N:=2) ?hd (cs:=#[.string D,.int .i64 A,.int .i64 B,.slice U c.length X]) (t:=29) ?hr ?_;(case hd=>rfl);(case hg=>rfl);(case hr=>first|(go_simp;done)|(go_simp;rfl));intro aD hg w3 hbox hb;have z:=a_ (below_step t1_ hb);have J:=a_ (hbox);have a8:=a_ ((by rw [hg];exact (below_size t1_):w.heap.size≤aD));have a9:=a_ ((by rw [hg];exact (below_size t1_):w.heap.size≤aD));clear HB;have HB:=z;have BK211:=J;have bf:=a8;have GE211:=a9;clear z J a8 a9;clear hb hbox hg;have ⟨bA,bB,bC,bD,bE,bF,bG,bH⟩:=bc4_ BK211.out))));go_loopg [5,12] k (fun kq v5 cY w'=>∃ (aE:Int) (q:Int),v5=.int .i64 aE∧cY=.int .i64 q∧Aside0 (impl_Tariff_heatCost.l0 kq m aE c (c.length:Int) q D A B c=some r)∧Aside0 (kq≤k)∧Aside0 (w'.heap[aD]? =some (.cells #[.string D,.int .i64 A,.int .i64 B,(.slice U c.length X)] 29 (0,0)))∧Aside0 (Below w.heap.size w w'))
 case atStart=>exact ⟨(0),(0),t4_,t4_,H',⟨Nat.le_refl _⟩,⟨t48_⟩,⟨t26_⟩⟩
 case round=>
  clear H';(try clear p2);(try clear c4);(try clear bA);(try clear bB);(try clear bC);(try clear bD);(try clear bE);(try clear bF);(try clear bG);(try clear bH);obtain ⟨aE,q,rfl,rfl,HA,HK1,BK211,HB⟩:=hrel;cases gk with
  |zero=>exact absurd HA.out (by simp [impl_Tariff_heatCost.l0])
  |succ k1=>
   have H:=HA.out;clear HA;simp only [impl_Tariff_heatCost.l0] at H;by_cases c5:q<(c.length:Int)
   ·rw [if_pos c5] at H;have cL:decide (q<(c.length:Int))=true:=d1_ c5;clear c5;by_cases c6:0≤q
    ·rw [if_pos c6] at H;have bi:decide (0≤q)=true:=d1_ c6;clear c6;by_cases M:q<(c.length:Int)
     ·rw [if_pos M] at H;have bj:decide (q<(c.length:Int))=true:=d1_ M;clear M;by_cases c8:q<(wrap64 ((c.length:Int) - 1))
      ·rw [if_pos c8] at H;have cO:decide (q<(wrap64 ((c.length:Int) - 1)))=true:=d1_ c8;clear c8;obtain ⟨G,aw⟩:∃ j_:Int,(wrap64 (q+1))=j_:=⟨_,rfl⟩;replace H:(if 0≤(G) then (if (G)<(c.length:Int) then (if 0<((rd_L1 c (G)).length:Int) then (if 0<((rd_L1 c q).length:Int) then (if 1<((rd_L1 c q).length:Int) then (impl_Tariff_heatCost.l0 k1 m (wrap64 (aE+(wrap64 ((mx (wrap64 ((mn m (rd (rd_L1 c (G)) 0)) - (rd (rd_L1 c q) 0))) 0) * (rd (rd_L1 c q) 1))))) c (c.length:Int) G D A B c) else (none)) else (none)) else (none)) else (none)) else (none))=some r:=(by first|(rw [aw] at H;exact H)|(simp only [aw] at H ⊢;exact H));have dQ:(IntKind.i64.wrap (q+1))=G:=(i64_w _).trans aw;by_cases al:0≤(G)
       ·rw [if_pos al] at H;have cl:decide (0≤(G))=true:=d1_ al;clear al;by_cases am:(G)<(c.length:Int)
        ·rw [if_pos am] at H;have cm:decide ((G)<(c.length:Int))=true:=d1_ am;clear am;by_cases an:0<((rd_L1 c (G)).length:Int)
         ·rw [if_pos an] at H;have cn:decide (0<((rd_L1 c (G)).length:Int))=true:=d1_ an;have co:decide (0<(rd_L1 c (G)).length)=true:=decide_eq_true t14_;clear an;obtain ⟨ai,bI⟩:∃ j_:Int,(mn m (rd (rd_L1 c (G)) 0))=j_:=⟨_,rfl⟩;replace H:(if 0<((rd_L1 c q).length:Int) then (if 1<((rd_L1 c q).length:Int) then (impl_Tariff_heatCost.l0 k1 m (wrap64 (aE+(wrap64 ((mx (wrap64 ((ai) - (rd (rd_L1 c q) 0))) 0) * (rd (rd_L1 c q) 1))))) c (c.length:Int) G D A B c) else (none)) else (none))=some r:=(by first|(rw [bI] at H;exact H)|(simp only [bI] at H ⊢;exact H));have dK:(if (rd (rd_L1 c (G)) 0)<m then (rd (rd_L1 c (G)) 0) else m)=ai:=bI;by_cases ao:0<((rd_L1 c q).length:Int)
          ·rw [if_pos ao] at H;have cp:decide (0<((rd_L1 c q).length:Int))=true:=d1_ ao;have cq:decide (0<(rd_L1 c q).length)=true:=decide_eq_true t14_;clear ao;obtain ⟨b2,ac⟩:∃ j_:Int,(mx (wrap64 ((ai) - (rd (rd_L1 c q) 0))) 0)=j_:=⟨_,rfl⟩;replace H:(if 1<((rd_L1 c q).length:Int) then (impl_Tariff_heatCost.l0 k1 m (wrap64 (aE+(wrap64 ((b2) * (rd (rd_L1 c q) 1))))) c (c.length:Int) G D A B c) else (none))=some r:=(by first|(rw [ac] at H;exact H)|(simp only [ac] at H ⊢;exact H));have dM:0≤b2:=(by rw [← ac];unfold mx;split<;>omega);have dL:(if (wrap64 ((ai) - (rd (rd_L1 c q) 0)))<0 then 0 else (wrap64 ((ai) - (rd (rd_L1 c q) 0))))=b2:=ac;by_cases ap:1<((rd_L1 c q).length:Int)
           ·rw [if_pos ap] at H;have cr:decide (1<((rd_L1 c q).length:Int))=true:=d1_ ap;have ct:decide (1<(rd_L1 c q).length)=true:=decide_eq_true t14_;clear ap;have H':=a_ H;clear H;have aJ:0≤(q:Int):=od_;have aK:q<(c.length:Int):=od_;obtain ⟨bh,cA,cI,b8,ah,af,ab⟩:=at_L1 HR0_3.out q aJ aK;cases b8;replace ah:=hb_ HB ah;have aY:=a_ ab;have cB:=a_ af;clear ab af;replace aJ:=eq_true aJ;replace aK:=eq_true aK;have ⟨d4,d5,d6,d7,dC,dD,dE,dF⟩:=bc4_ BK211.out;have bJ:0≤((G):Int):=od_;have bQ:(G)<(c.length:Int):=od_;obtain ⟨cD,cf,cy,cP,bo,bn,bm⟩:=at_L1 HR0_3.out (G) bJ bQ;obtain rfl:bh=cD:=(by injection cP);replace bo:=hb_ HB bo;have cC:=a_ bm;have ci:=a_ bn;clear bm bn;replace bJ:=eq_true bJ;replace bQ:=eq_true bQ;have bK:0≤(0:Int):=t14_;have bR:0<((rd_L1 c (G)).length:Int):=od_;obtain ⟨cj,cQ,ax⟩:=Kd.at_int cC.out 0 bK bR;cases cQ;have dU:(0<(rd_L1 c (G)).length)=True:=eq_true t14_;(try rw [show ((0:Int)).toNat=0 from rfl] at ax);(try rw [Addr.add_zero'] at ax);replace ax:=hb_ HB ax;replace bK:=eq_true bK;replace bR:=eq_true bR;have bL:0≤(0:Int):=t14_;have bS:0<((rd_L1 c q).length:Int):=od_;obtain ⟨cE,cR,ay⟩:=Kd.at_int aY.out 0 bL bS;cases cR;have dV:(0<(rd_L1 c q).length)=True:=eq_true t14_;(try rw [show ((0:Int)).toNat=0 from rfl] at ay);(try rw [Addr.add_zero'] at ay);replace ay:=hb_ HB ay;replace bL:=eq_true bL;replace bS:=eq_true bS;have bM:0≤(1:Int):=t14_;have bT:1<((rd_L1 c q).length:Int):=od_;obtain ⟨cF,cS,az⟩:=Kd.at_int aY.out 1 bM bT;obtain rfl:cE=cF:=(by injection cS);(try simp only [show (1:Int).toNat=1 from rfl,Nat.reduceMul,Nat.reduceEqDiff,Go.Addr.add,↓reduceIte] at az);have dW:(1<(rd_L1 c q).length)=True:=eq_true t14_;(try rw [show ((1:Int)).toNat=1 from rfl] at az);replace az:=hb_ HB az;replace bM:=eq_true bM;replace bT:=eq_true bT;go_wp2;(repeat (go_quiet (fail);try go_wp2));go_roundg k1
            case measure=>have:=HK1.out;omega
            case rel=>exact ⟨(wrap64 (aE+(wrap64 ((b2) * (rd (rd_L1 c q) 1))))),(G),(by first|rfl|(simp;done)|(simp only [← ac]<;>(first|rfl|simp))|(simp [*];done)),(by first|rfl|(simp;done)|(simp only [← aw]<;>(first|rfl|simp))|(simp [*];done)),H',⟨t35_⟩,⟨t48_⟩,⟨t26_⟩⟩
           ·rw [if_neg ap] at H;exact absurd H t31_
          ·rw [if_neg ao] at H;exact absurd H t31_
         ·rw [if_neg an] at H;exact absurd H t31_
        ·rw [if_neg am] at H;exact absurd H t31_
       ·rw [if_neg al] at H;exact absurd H t31_
      ·rw [if_neg c8] at H;have cO:decide (q<(wrap64 ((c.length:Int) - 1)))=false:=d2_ c8;clear c8;by_cases aq:0<((rd_L1 c q).length:Int)
       ·rw [if_pos aq] at H;have cu:decide (0<((rd_L1 c q).length:Int))=true:=d1_ aq;have cv:decide (0<(rd_L1 c q).length)=true:=decide_eq_true t14_;clear aq;obtain ⟨b3,ae⟩:∃ j_:Int,(mx (wrap64 (m - (rd (rd_L1 c q) 0))) 0)=j_:=⟨_,rfl⟩;replace H:(if 1<((rd_L1 c q).length:Int) then (impl_Tariff_heatCost.l0 k1 m (wrap64 (aE+(wrap64 ((b3) * (rd (rd_L1 c q) 1))))) c (c.length:Int) (wrap64 (q+1)) D A B c) else (none))=some r:=(by first|(rw [ae] at H;exact H)|(simp only [ae] at H ⊢;exact H));have dO:0≤b3:=(by rw [← ae];unfold mx;split<;>omega);have dN:(if (wrap64 (m - (rd (rd_L1 c q) 0)))<0 then 0 else (wrap64 (m - (rd (rd_L1 c q) 0))))=b3:=ae;by_cases ar:1<((rd_L1 c q).length:Int)
        ·rw [if_pos ar] at H;have cw:decide (1<((rd_L1 c q).length:Int))=true:=d1_ ar;have cx:decide (1<(rd_L1 c q).length)=true:=decide_eq_true t14_;clear ar;have H':=a_ H;clear H;have aJ:0≤(q:Int):=od_;have aK:q<(c.length:Int):=od_;obtain ⟨bh,cA,cI,b8,ah,af,ab⟩:=at_L1 HR0_3.out q aJ aK;cases b8;replace ah:=hb_ HB ah;have aY:=a_ ab;have cB:=a_ af;clear ab af;replace aJ:=eq_true aJ;replace aK:=eq_true aK;have ⟨d8,d9,dA,dB,dG,dH,dI,dJ⟩:=bc4_ BK211.out;have bN:0≤(0:Int):=t14_;have bU:0<((rd_L1 c q).length:Int):=od_;obtain ⟨cG,cT,b0⟩:=Kd.at_int aY.out 0 bN bU;cases cT;have dX:(0<(rd_L1 c q).length)=True:=eq_true t14_;(try rw [show ((0:Int)).toNat=0 from rfl] at b0);(try rw [Addr.add_zero'] at b0);replace b0:=hb_ HB b0;replace bN:=eq_true bN;replace bU:=eq_true bU;have bO:0≤(1:Int):=t14_;have bV:1<((rd_L1 c q).length:Int):=od_;obtain ⟨cH,cU,b1⟩:=Kd.at_int aY.out 1 bO bV;obtain rfl:cG=cH:=(by injection cU);(try simp only [show (1:Int).toNat=1 from rfl,Nat.reduceMul,Nat.reduceEqDiff,Go.Addr.add,↓reduceIte] at b1);have dY:(1<(rd_L1 c q).length)=True:=eq_true t14_;(try rw [show ((1:Int)).toNat=1 from rfl] at b1);replace b1:=hb_ HB b1;replace bO:=eq_true bO;replace bV:=eq_true bV;go_wp2;(repeat (go_quiet (fail);try go_wp2));go_roundg k1
         case measure=>have:=HK1.out;omega
         case rel=>exact ⟨(wrap64 (aE+(wrap64 ((b3) * (rd (rd_L1 c q) 1))))),(wrap64 (q+1)),(by first|rfl|(simp;done)|(simp only [← ae]<;>(first|rfl|simp))|(simp [*];done)),t4_,H',⟨t35_⟩,⟨t48_⟩,⟨t26_⟩⟩
        ·rw [if_neg ar] at H;exact absurd H t31_
       ·rw [if_neg aq] at H;exact absurd H t31_
     ·rw [if_neg M] at H;exact absurd H t31_
    ·rw [if_neg c6] at H;exact absurd H t31_
   ·rw [if_neg c5] at H;have cL:decide (q<(c.length:Int))=false:=d2_ c5;clear c5;obtain rfl:=Option.some.inj H;go_wp2;(repeat (go_quiet (fail);try go_wp2));go_ret
    exact ⟨t7_,t26_⟩

def impl_Tariff_bill.f (k:Nat) (D:ByteArray) (A:Int) (B:Int) (c:List (List Int)) (m:Int) (E:Int):Option (Int):=(impl_Tariff_heatCost.f k D A B c m).bind fun aL=>((impl_divRound.f aL 100).bind fun aj=>(some (wrap64 ((wrap64 (A+(wrap64 (B * E))))+aj))))
theorem impl_Tariff_bill.mono:∀ u m E a3 a4 a5 k,LeO (impl_Tariff_bill.f k u m E a3 a4 a5) (impl_Tariff_bill.f (k+1) u m E a3 a4 a5):=by
 intro u m E a3 a4 a5 k;unfold impl_Tariff_bill.f
 with_reducible repeat' first|exact impl_Tariff_heatCost.mono _ _ _ _ _ _|exact LeO.refl _|exact LeO.none _|refine LeO.ite ?_ ?_|refine LeO.bind ?_ (fun _=>?_)
def impl_Tariff_bill.T1:Bool × List (List Nat × List Nat):=(true,[([],[]),([0],[0]),([],[]),([2],[2]),([],[]),([3,4],[3,4]),([1,5],[1,5]),([],[]),([],[]),([7,8],[7,8]),([9,9],[9]),([6,10],[6,10]),([11,10,0,1,2,3,4,5,6,7,8,9,10,11],[11])])
def impl_Tariff_bill.B1:List Nat:=[0,1,0,4,0,28,63,0,0,384,896,2047,4095]
theorem impl_Tariff_bill.tab1:rtab .any (opsOf Try.f26 1)=impl_Tariff_bill.T1:=by kernel_rfl
theorem impl_Tariff_bill.bits1:waitsOk impl_Tariff_bill.T1.2 impl_Tariff_bill.B1=true:=by kernel_rfl
theorem impl_Tariff_bill.calls (k:Nat) (D:ByteArray) (A:Int) (B:Int) (U:Option Addr) (X:Nat) (c:List (List Int)) (m:Int) (E:Int) (r:Int) (w:World) (ag:Kd.C (Kd.slice 2 (Kd.int .i64)) w U c.length c) (aa:c.length≤X) (h:impl_Tariff_bill.f k D A B c m E=some r):
  Calls Try.prog 26 #[.agg #[.string D,.int .i64 A,.int .i64 B,.slice U c.length X],.int .i64 m,.int .i64 E] w fun e w'=>e=.returned (.int .i64 r)∧Below w.heap.size w w':=by
 have cW:=Try.underlying29;have HR0_3:=a_ ag;have bg:=a_ aa;clear ag aa;have HB:=a_ (Below.refl w.heap.size w);have H:((impl_Tariff_heatCost.f k D A B c m).bind fun aL=>((impl_divRound.f aL 100).bind fun aj=>(some (wrap64 ((wrap64 (A+(wrap64 (B * E))))+aj)))))=some r:=h;clear h;replace H:=be_ H;obtain ⟨aL,aV,H⟩:=H;have A4:=a_ aV;clear aV;replace H:=be_ H;obtain ⟨aj,aX,H⟩:=H;have A5:=a_ aX;clear aX;obtain rfl:=Option.some.inj H;go_enter Try.func26,Try.ntmps26;(try go_wp2_with (first|((with_reducible refine gate_dst (N:=3) rfl ?_);refine box_event ?hg (N:=3) ?hd (cs:=#[.string D,.int .i64 A,.int .i64 B,.slice U c.length X]) (t:=29) ?hr ?_;(case hd=>rfl);(case hg=>rfl);(case hr=>first|(go_simp;done)|(go_simp;rfl));intro aF hg w6 hbox hb;have z:=a_ (below_step t1_ hb);have J:=a_ (hbox);have a8:=a_ ((by rw [hg];exact (below_size t1_):w.heap.size≤aF));have a9:=a_ ((by rw [hg];exact (below_size t1_):w.heap.size≤aF));clear HB;have HB:=z;have I:=J;have cg:=a8;have GE219:=a9;clear z J a8 a9;clear hb hbox hg)));have z:=a_ (blk_drew I.out);have J:=a_ (below_drew1 HB.out);clear I;clear HB;have I:=z;have HB:=J;clear z J;refine start_ (n:=13) (S:=fun w'=>w'.cell? ⟨aF,0,none⟩=some (.string D)∧w'.cell? ⟨aF,1,none⟩=some (.int .i64 A)∧w'.cell? ⟨aF,2,none⟩=some (.int .i64 B)∧w'.cell? ⟨aF,3,none⟩=some (.slice U c.length X)) (ds:=[]) (tf 0 13) t11_ rfl rfl ⟨(blk_cell I.out 0).trans rfl,(blk_cell I.out 1).trans rfl,(blk_cell I.out 2).trans rfl,(blk_cell I.out 3).trans rfl⟩ (fun hHeld=>?_);refine with_tabW impl_Tariff_bill.tab1 impl_Tariff_bill.bits1 (fun HT_ HW_=>?_);generalize w6.drew=w7 at I HB hHeld ⊢;refine px 0 (some 7) (tf 1 13) HT_ ?_;refine px 2 (some 9) (tb 13 5) HT_ ?_;refine px 4 (some 11) (tb 13 21) HT_ ?_;refine px 8 (some 15) (tb 13 277) HT_ ?_;refine tx (v:=?_) 1 (some 8) (tb 13 279) HT_ HW_ hHeld ?_ ?_;rotate_left;(· rintro w' ⟨s0,s1,s2,s3⟩;go_simp;with_reducible rfl);refine tx (v:=?_) 3 (some 10) (tb 13 287) HT_ HW_ hHeld ?_ ?_;rotate_left;(· rintro w' ⟨s0,s1,s2,s3⟩;go_simp;with_reducible rfl);refine px 5 (some 12) (tb 13 319) HT_ ?_;refine px 6 (some 13) (tb 13 383) HT_ ?_;refine tx (v:=?_) 7 (some 14) (tf 9 13) HT_ HW_ hHeld ?_ ?_;rotate_left;(· rintro w' ⟨s0,s1,s2,s3⟩;go_simp;with_reducible rfl);refine one_ (i:=9) (N:=some 16) (tf 10 13) rfl rfl (one_of HT_.out t11_) t25_ (fun K hK=>?_);refine goes_ Try.func41 t11_ rfl #[.agg #[.string D,.int .i64 A,.int .i64 B,.slice U c.length X],.int .i64 m] t45_ rfl rfl t2_ ?_;(with_reducible refine (impl_Tariff_heatCost.calls k D A B _ _ c m aL _ ?Z1 ?Z2 A4.out).mono ?_);(case Z1=>exact qc_ (Kd.C_below HR0_3.out HB.out));(case Z2=>exact bg.out);rintro e w8 ⟨rfl,hb⟩;refine ⟨_,rfl,?_⟩;have z:=a_ (blk_below (g:=aF) (o:=.cells #[.string D,.int .i64 A,.int .i64 B,.slice U c.length X] 29 (0,0)) (q1_ I.out) hb);have J:=a_ (below_step t38_ hb);clear I;clear HB;have I:=z;have HB:=J;clear z J;(try clear hb);(try clear hb2);(try clear hk);(try clear hi);refine hK.out _ _ ⟨(blk_cell I.out 0).trans rfl,(blk_cell I.out 1).trans rfl,(blk_cell I.out 2).trans rfl,(blk_cell I.out 3).trans rfl⟩ (fun hHeld=>?_);clear hK K;refine norm_ (a':=?_) ?_ ?_;rotate_left
 ·show Act.put _ (some 16) _=_
  simp only [Act.put,List.setIfInBounds_toArray,List.set_cons_zero,List.set_cons_succ,i64_w,i32_w];rfl
 refine one_ (i:=10) (N:=some 17) (tf 11 13) rfl rfl (one_of HT_.out t11_) t25_ (fun K hK=>?_);refine goes_ Try.func33 t11_ rfl #[.int .i64 aL,.int .i64 100] t45_ rfl rfl t2_ ?_;(with_reducible refine (impl_divRound.calls aL 100 aj _ A5.out).mono ?_);rintro e w9 ⟨rfl,hb⟩;refine ⟨_,rfl,?_⟩;have z:=a_ (blk_below (g:=aF) (o:=.cells #[.string D,.int .i64 A,.int .i64 B,.slice U c.length X] 29 (0,0)) (q1_ I.out) hb);have J:=a_ (below_step t38_ hb);clear I;clear HB;have I:=z;have HB:=J;clear z J;(try clear hb);(try clear hb2);(try clear hk);(try clear hi);refine hK.out _ _ ⟨(blk_cell I.out 0).trans rfl,(blk_cell I.out 1).trans rfl,(blk_cell I.out 2).trans rfl,(blk_cell I.out 3).trans rfl⟩ (fun hHeld=>?_);clear hK K;refine norm_ (a':=?_) ?_ ?_;rotate_left
 ·show Act.put _ (some 17) _=_
  simp only [Act.put,List.setIfInBounds_toArray,List.set_cons_zero,List.set_cons_succ,i64_w,i32_w];rfl
 refine px 11 (some 18) (tf 12 13) HT_ ?_;refine px 12 (some 6) (tf 13 13) HT_ ?_;refine done_ (done_of HT_.out t11_) ?_;(try go_wp2);go_ret
 exact ⟨t7_,t38_⟩

def impl_sumOf.l0:Nat→Int→List Int→Int→Int→Option (Int)
 |0,_,_,_,_=>none
 |k+1,x3,x6,x7,x8=>if x8<x7 then (if 0≤x8 then (if x8<(x6.length:Int) then (impl_sumOf.l0 k (wrap64 (x3+(rd x6 x8))) x6 x7 (wrap64 (x8+1))) else (none)) else (none)) else (some x3)
def impl_sumOf.f (k:Nat) (s:List Int):Option (Int):=impl_sumOf.l0 k 0 s (s.length:Int) 0
theorem impl_sumOf.mono_l:∀ k,(∀ y0 y1 y2 y3,LeO (impl_sumOf.l0 k y0 y1 y2 y3) (impl_sumOf.l0 (k+1) y0 y1 y2 y3))
 |0=>fun _ _ _ _ r h=>by simp [impl_sumOf.l0] at h
 |k+1=>by
  have aI:=impl_sumOf.mono_l k
  ·intro y0 y1 y2 y3
   unfold impl_sumOf.l0
   with_reducible repeat' first|exact aI _ _ _ _|exact LeO.refl _|exact LeO.none _|refine LeO.ite ?_ ?_|refine LeO.bind ?_ (fun _=>?_)
theorem impl_sumOf.mono:∀ u k,LeO (impl_sumOf.f k u) (impl_sumOf.f (k+1) u):=by
 intro u k;have aI:=impl_sumOf.mono_l k;unfold impl_sumOf.f
 with_reducible repeat' first|exact aI _ _ _ _|exact LeO.refl _|exact LeO.none _|refine LeO.ite ?_ ?_|refine LeO.bind ?_ (fun _=>?_)
theorem impl_sumOf.calls (k:Nat) (Y:Option Addr) (c0:Nat) (s:List Int) (r:Int) (w:World) (Z:Kd.C (Kd.int .i64) w Y s.length s) (b9:s.length≤c0) (h:impl_sumOf.f k s=some r):
  Calls Try.prog 27 #[.slice Y s.length c0] w fun e w'=>e=.returned (.int .i64 r)∧Drawn0 w w':=by
 have b6:=a_ Z;have ch:=a_ b9;clear Z b9;have H:(impl_sumOf.l0 k 0 s (s.length:Int) 0)=some r:=h;clear h;have H':=a_ H;clear H;go_enter Try.func27,Try.ntmps27;go_wp2;go_loopg [3,8] k (fun kq v3 v8 w'=>∃ (b5:Int) (T:Int),v3=.int .i64 b5∧v8=.int .i64 T∧Aside0 (impl_sumOf.l0 kq b5 s (s.length:Int) T=some r)∧Aside0 (kq≤k)∧Drawn0 w w')
 case atStart=>exact ⟨(0),(0),t4_,t4_,H',⟨Nat.le_refl _⟩,t8_⟩
 case round=>
  clear H';obtain ⟨b5,T,rfl,rfl,HA,HK1,⟨m1,rfl⟩⟩:=hrel;cases gk with
  |zero=>exact absurd HA.out (by simp [impl_sumOf.l0])
  |succ k1=>
   have H:=HA.out;clear HA;simp only [impl_sumOf.l0] at H;by_cases c2:T<(s.length:Int)
   ·rw [if_pos c2] at H;have cJ:decide (T<(s.length:Int))=true:=d1_ c2;clear c2;by_cases c3:0≤T
    ·rw [if_pos c3] at H;have cK:decide (0≤T)=true:=d1_ c3;clear c3;by_cases c4:T<(s.length:Int)
     ·rw [if_pos c4] at H;have d0:decide (T<(s.length:Int))=true:=d1_ c4;clear c4;have H':=a_ H;clear H;have bP:0≤(T:Int):=od_;have bW:T<(s.length:Int):=od_;obtain ⟨ck,cV,dR⟩:=Kd.at_int b6.out T bP bW;cases cV;replace bP:=eq_true bP;replace bW:=eq_true bW;go_wp2;go_roundg k1
      case measure=>have:=HK1.out;omega
      case rel=>exact ⟨(wrap64 (b5+(rd s T))),(wrap64 (T+1)),t4_,t4_,H',⟨t35_⟩,t8_⟩
     ·rw [if_neg c4] at H;exact absurd H t31_
    ·rw [if_neg c3] at H;exact absurd H t31_
   ·rw [if_neg c2] at H;have cJ:decide (T<(s.length:Int))=false:=d2_ c2;clear c2;obtain rfl:=Option.some.inj H;go_wp2;go_ret
    exact ⟨t4_,t8_⟩

end Go.Proofs.Ytfffhokkhgbibaa.PFnExactYearBill
