/- LeastTank of the program returns what the reference's returns, for every tank, level, demands and limit. No condition. -/
import Derived.Test.YtemoomgnffkgbaaPFnExactLeastTankx6
namespace Go.Proofs.Ytemoomgnffkgbaa.Pure
open Go.RowKit Go.Proofs.Ytemoomgnffkgbaa.PFnExactLeastTank Go.Proofs.YtemoomgnffkgbaaW.PrintWords Go.Proofs.YtemoomgnffkgbaaW.PrintLast Go.Proofs.YtemoomgnffkgbaaW.PrintMore
set_option linter.unusedVariables false
set_option linter.unusedSimpArgs false

theorem impl_in (n lo hi:Int):impl_within.f n lo hi=some (decide (lo≤n∧n≤hi)):=by unfold impl_within.f;split<;>simp<;>omega

theorem spec_in (n lo hi:Int):spec_l00In.f n lo hi=some (decide (lo≤n∧n≤hi)):=by unfold spec_l00In.f;split<;>simp<;>omega

theorem wrap_id {x:Int} (h1:-9223372036854775808≤x) (h2:x≤9223372036854775807):wrap64 x=x:=by unfold wrap64;omega
theorem wf_i64 {x:Int} (h:(Lit.int .i64 x).wf=true):-9223372036854775808≤x∧x≤9223372036854775807:=by
  simp [Lit.wf,IntKind.min,IntKind.max,IntKind.bits,IntKind.signed] at h;omega
theorem mul_bounds {a b A B:Int} (h0:0≤a) (hA:a≤A) (h1:-B≤b) (h2:b≤B) (hB:0≤B):-(A * B)≤a * b∧a * b≤A * B:=by
  have e1:=Int.mul_le_mul_of_nonneg_left h2 h0
  have e2:=Int.mul_le_mul_of_nonneg_right hA hB
  have e3:=Int.mul_le_mul_of_nonneg_left h1 h0
  have e4:a * -B= -(a * B):=Int.mul_neg a B
  omega
theorem mul_nonneg' {a b:Int} (h0:0≤a) (h1:0≤b):0≤a * b:=Int.mul_nonneg h0 h1
theorem next_nat {j n:Nat} (h:j<n) (hn:n≤4611686018427387904):wrap64 ((j:Int)+1)=((j+1:Nat):Int):=by
  rw [wrap_id (by omega) (by omega)];omega
theorem rd_nat (l:List Int) (j:Nat):rd l (j:Int)=l.getD j 0:=by unfold rd;simp
theorem ifp {α:Type} {c:Prop} [Decidable c] {a b:α} (h:c):(if c then a else b)=a:=if_pos h
theorem ifn {α:Type} {c:Prop} [Decidable c] {a b:α} (h:¬ c):(if c then a else b)=b:=if_neg h
theorem suc_of {k d:Nat} (h:d<k):∃ m,k=m+1:=⟨k - 1,by omega⟩
theorem getD_lt {α:Type} {l:List α} {j:Nat} {d:α} (h:j<l.length):l.getD j d=l[j]:=by
  rw [List.getD_eq_getElem?_getD,List.getElem?_eq_getElem h];rfl
theorem drop_cons {α:Type} (l:List α) {j:Nat} (h:j<l.length) (d:α):l.drop j=l.getD j d :: l.drop (j+1):=by
  rw [getD_lt h];exact List.drop_eq_getElem_cons h
theorem up {α:Type} {g:Nat→Option α} (hm:∀ k,LeO (g k) (g (k+1))) {k0:Nat} {r:α} (h:g k0=some r):∀ k,k0≤k→g k=some r:=by
  intro k hk
  induction hk with
  |refl=>exact h
  |step _ ih=>exact hm _ _ ih

def rdiv (a b:Int):Int:=if a<0 then -((b - 2 * a) / (2 * b)) else (2 * a+b) / (2 * b)
theorem rdiv_pos_eq {q r b:Int} (hb:0<b) (h0:0≤r) (h1:r<b):(2 * (b * q+r)+b) / (2 * b)=if r≥b - r then q+1 else q:=by
  have e:2 * (b * q+r)+b=(2 * r+b)+(2 * b) * q:=by rw [Int.mul_add,← Int.mul_assoc];omega
  rw [e,Int.add_mul_ediv_left _ _ (by omega:(2 * b:Int)≠0)]
  split
  · have:(2 * r+b) / (2 * b)=1:=by
      have e2:2 * r+b=(2 * r - b)+(2 * b) * 1:=by omega
      rw [e2,Int.add_mul_ediv_left _ _ (by omega:(2 * b:Int)≠0),Int.ediv_eq_zero_of_lt (by omega) (by omega)];rfl
    omega
  · have:(2 * r+b) / (2 * b)=0:=Int.ediv_eq_zero_of_lt (by omega) (by omega)
    omega
theorem abs_def {a:Int} (h:-9223372036854775807≤a) (h2:a≤9223372036854775807):impl_abs.f a=some (if a<0 then -a else a):=by
  unfold impl_abs.f mx
  rw [wrap_id (by omega) (by omega)]
  split<;>split<;>first|rfl|(simp;omega)
theorem impl_div {a b:Int} (hb:0<b) (hb2:b≤2305843009213693951) (ha:-2305843009213693951≤a) (ha2:a≤2305843009213693951):impl_divRound.f a b=some (rdiv a b):=by
  unfold impl_divRound.f
  rw [if_neg (by omega)]
  by_cases h:a<0
  · have hq0:a.tdiv b= -((-a) / b):=by rw [← Int.tdiv_eq_ediv_of_nonneg (by omega),Int.neg_tdiv,Int.neg_neg]
    have hr0:a.tmod b= -((-a) % b):=by rw [← Int.tmod_eq_emod_of_nonneg (by omega),Int.neg_tmod,Int.neg_neg]
    have hr1:=Int.emod_nonneg (-a) (show b≠0 by omega)
    have hr2:=Int.emod_lt_of_pos (-a) hb
    have hd:=Int.mul_ediv_add_emod (-a) b
    have hq1:0≤(-a) / b:=Int.ediv_nonneg (by omega) (by omega)
    have hq2:(-a) / b≤-a:=Int.ediv_le_self _ (by omega)
    rw [hq0,hr0]
    generalize (-a) / b=q at *
    generalize (-a) % b=r at *
    rw [abs_def (by omega) (by omega),abs_def (by omega) (by omega)]
    simp only [Option.bind_some]
    have e1:(if -r<0 then - -r else -r)=r:=by split<;>omega
    have e2:(if b<0 then -b else b)=b:=by rw [if_neg (by omega)]
    rw [e1,e2,wrap_id (x:=b - r) (by omega) (by omega)]
    have hk:rdiv a b= -(if r≥b - r then q+1 else q):=by
      unfold rdiv
      rw [if_pos h,← rdiv_pos_eq (q:=q) hb hr1 hr2,hd]
      congr 2;omega
    rw [hk]
    have w1:wrap64 (-q)= -q:=wrap_id (by omega) (by omega)
    rw [w1]
    by_cases hc:r≥b - r
    · rw [if_pos hc,if_pos hc,if_neg (by simp;omega),wrap_id (by omega) (by omega)]
      congr 1;omega
    · rw [if_neg hc,if_neg hc]
  · have hq0:a.tdiv b=a / b:=Int.tdiv_eq_ediv_of_nonneg (by omega)
    have hr0:a.tmod b=a % b:=Int.tmod_eq_emod_of_nonneg (by omega)
    have hr1:=Int.emod_nonneg a (show b≠0 by omega)
    have hr2:=Int.emod_lt_of_pos a hb
    have hd:=Int.mul_ediv_add_emod a b
    have hq1:0≤a / b:=Int.ediv_nonneg (by omega) (by omega)
    have hq2:a / b≤a:=Int.ediv_le_self _ (by omega)
    rw [hq0,hr0]
    generalize a / b=q at *
    generalize a % b=r at *
    rw [abs_def (by omega) (by omega),abs_def (by omega) (by omega)]
    simp only [Option.bind_some]
    have e1:(if r<0 then - r else r)=r:=by rw [if_neg (by omega)]
    have e2:(if b<0 then -b else b)=b:=by rw [if_neg (by omega)]
    rw [e1,e2,wrap_id (x:=b - r) (by omega) (by omega)]
    have hk:rdiv a b=(if r≥b - r then q+1 else q):=by
      unfold rdiv
      rw [if_neg h,← rdiv_pos_eq (q:=q) hb hr1 hr2,hd]
    rw [hk]
    have w1:wrap64 q=q:=wrap_id (by omega) (by omega)
    rw [w1]
    by_cases hc:r≥b - r
    · rw [if_pos hc,if_pos hc,if_pos (by simp;omega),wrap_id (by omega) (by omega)]
    · rw [if_neg hc,if_neg hc]
theorem rdiv_nonneg {a b:Int} (ha:0≤a) (hb:0<b):0≤rdiv a b:=by
  unfold rdiv;rw [if_neg (by omega)];exact Int.ediv_nonneg (by omega) (by omega)
theorem rdiv_le {a b:Int} (ha:0≤a) (hb:0<b):rdiv a b≤2 * a+b:=by
  unfold rdiv;rw [if_neg (by omega)];exact Int.ediv_le_self _ (by omega)

theorem spec_div {a b:Int} (hb:0<b) (hb2:b≤2305843009213693951) (ha:-2305843009213693951≤a) (ha2:a≤2305843009213693951):spec_l01Div.f a b=some (rdiv a b):=by
  unfold spec_l01Div.f rdiv
  have w2:wrap64 (2 * b)=2 * b:=wrap_id (by omega) (by omega)
  have h2b:(0:Int)<2 * b:=by omega
  rw [if_neg (by omega),w2]
  by_cases h:a<0
  · rw [if_pos h,if_pos h,if_neg (by omega)]
    have e1:wrap64 (2 * a)=2 * a:=wrap_id (by omega) (by omega)
    have e2:wrap64 (b - 2 * a)=b - 2 * a:=wrap_id (by omega) (by omega)
    rw [e1,e2,Int.tdiv_eq_ediv_of_nonneg (by omega)]
    have b1:0≤(b - 2 * a) / (2 * b):=Int.ediv_nonneg (by omega) (by omega)
    have b2:(b - 2 * a) / (2 * b)≤b - 2 * a:=Int.ediv_le_self _ (by omega)
    have e3:wrap64 ((b - 2 * a) / (2 * b))=(b - 2 * a) / (2 * b):=wrap_id (by omega) (by omega)
    have e4:wrap64 (-((b - 2 * a) / (2 * b)))= -((b - 2 * a) / (2 * b)):=wrap_id (by omega) (by omega)
    rw [e3,e4]
  · rw [if_neg h,if_neg h,if_neg (by omega)]
    have e1:wrap64 (2 * a)=2 * a:=wrap_id (by omega) (by omega)
    have e2:wrap64 (2 * a+b)=2 * a+b:=wrap_id (by omega) (by omega)
    rw [e1,e2,Int.tdiv_eq_ediv_of_nonneg (by omega)]
    have b1:0≤(2 * a+b) / (2 * b):=Int.ediv_nonneg (by omega) (by omega)
    have b2:(2 * a+b) / (2 * b)≤2 * a+b:=Int.ediv_le_self _ (by omega)
    rw [wrap_id (by omega) (by omega)]

def tankOk (a b c:Int):Bool:=decide (1≤a∧a≤100)&&(decide (1≤b∧b≤20)&&decide (0≤c∧c≤1000))
theorem tankOk_iff {a b c:Int}:tankOk a b c=true↔(1≤a∧a≤100)∧(1≤b∧b≤20)∧(0≤c∧c≤1000):=by unfold tankOk;simp [and_assoc]
theorem spec_tank (a b c:Int):spec_l14Ok.f [(⟨a,b,c⟩:S25)]=some (tankOk a b c):=by
  unfold spec_l14Ok.f tankOk
  rw [if_pos (by simp)]
  have e:rd_T25 [(⟨a,b,c⟩:S25)] 0=⟨a,b,c⟩:=rfl
  simp only [e,spec_in,Option.bind_some]
  cases decide (1≤a∧a≤100)<;>cases decide (1≤b∧b≤20)<;>rfl
theorem impl_tank (a b c:Int):impl_ValidTank.f a b c=some (tankOk a b c):=by
  unfold impl_ValidTank.f tankOk
  simp only [impl_in,Option.bind_some]
  cases decide (1≤a∧a≤100)<;>cases decide (1≤b∧b≤20)<;>rfl
def change (x:Int):Bool:=decide (-20≤x∧x≤20)
def hour (x:Int):Bool:=decide (0≤x∧x≤1000)
def aft (a b c v ch:Int):Option Int:=if (-b≤ch∧ch≤b)∧(0≤v - rdiv (v * c) 1000+ch∧v - rdiv (v * c) 1000+ch≤a) then some (v - rdiv (v * c) 1000+ch) else none
theorem aft_le {a b c v ch x:Int} (h:aft a b c v ch=some x):0≤x∧x≤a:=by
  unfold aft at h
  split at h
  · cases h;omega
  · cases h
theorem loss_b {c v:Int} (hc0:0≤c) (hc:c≤1000) (hv0:0≤v) (hv:v≤100):(0≤v * c∧v * c≤100000)∧0≤rdiv (v * c) 1000∧rdiv (v * c) 1000≤201000:=by
  have m:=mul_bounds (a:=v) (b:=c) (A:=100) (B:=1000) hv0 hv (by omega) hc (by omega)
  have m0:=mul_nonneg' hv0 hc0
  have r0:=rdiv_nonneg (b:=1000) m0 (by omega)
  have r1:=rdiv_le (b:=1000) m0 (by omega)
  omega
theorem spec_after {a b c v ch:Int} (ht:tankOk a b c=true) (hv0:0≤v) (hv:v≤a) (hc0:-1000≤ch) (hc1:ch≤1000):spec_l14After.f [(⟨a,b,c⟩:S25)] v ch=some (match aft a b c v ch with|some x=>(x,true)|none=>(0,false)):=by
  have t:=tankOk_iff.1 ht
  have l:=loss_b (c:=c) (v:=v) (by omega) (by omega) hv0 (by omega)
  unfold spec_l14After.f aft
  rw [if_pos (by simp)]
  have e:rd_T25 [(⟨a,b,c⟩:S25)] 0=⟨a,b,c⟩:=rfl
  simp only [e]
  rw [wrap_id (x:=v * c) (by omega) (by omega),spec_div (by omega) (by omega) (by omega) (by omega)]
  simp only [Option.bind_some,spec_in]
  generalize rdiv (v * c) 1000=z at *
  rw [wrap_id (x:= -b) (by omega) (by omega),wrap_id (x:=v - z) (by omega) (by omega),wrap_id (x:=v - z+ch) (by omega) (by omega)]
  by_cases h1:-b≤ch∧ch≤b
  · by_cases h2:0≤v - z+ch∧v - z+ch≤a
    · simp [h1,h2]
    · simp [h1,h2]
  · simp [h1]
theorem impl_after {a b c v ch:Int} (ht:tankOk a b c=true) (hv0:0≤v) (hv:v≤a) (hc0:-1000≤ch) (hc1:ch≤1000):∃ y,impl_Tank_after.f a b c v ch=some (match aft a b c v ch with|some x=>(x,true)|none=>(y,false)):=by
  have t:=tankOk_iff.1 ht
  have l:=loss_b (c:=c) (v:=v) (by omega) (by omega) hv0 (by omega)
  refine ⟨v - rdiv (v * c) 1000+ch,?_⟩
  unfold impl_Tank_after.f aft
  rw [wrap_id (x:=v * c) (by omega) (by omega),impl_div (by omega) (by omega) (by omega) (by omega),abs_def (by omega) (by omega)]
  simp only [Option.bind_some,impl_in]
  generalize rdiv (v * c) 1000=z at *
  rw [wrap_id (x:=v - z) (by omega) (by omega),wrap_id (x:=v - z+ch) (by omega) (by omega)]
  by_cases h1:-b≤ch∧ch≤b
  · rw [if_pos (by split<;>omega)]
    by_cases h2:0≤v - z+ch∧v - z+ch≤a
    · simp [h1,h2]
    · simp [h1,h2]
  · rw [if_neg (by split<;>omega)];simp [h1]
def lev (a b c:Int):Int→List Int→Option (List Int)
  |_,[]=>some []
  |v,ch :: t=>match aft a b c v ch with|some x=>(lev a b c x t).map (x :: ·)|none=>none
theorem lev_len {a b c:Int}:∀ (l:List Int) (v:Int) (r:List Int),lev a b c v l=some r→r.length=l.length:=by
  intro l
  induction l with
  |nil=>intro v r h;cases h;rfl
  |cons x t ih=>
    intro v r h
    unfold lev at h
    split at h
    · rename_i y _
      cases h2:lev a b c y t with
      |none=>rw [h2] at h;cases h
      |some s=>rw [h2] at h;cases h;simp [ih _ _ h2]
    · cases h
theorem change_le {x:Int} (h:change x=true):-20≤x∧x≤20:=of_decide_eq_true h
theorem all_getD {l:List Int} {p:Int→Bool} (h:l.all p=true) {j:Nat} (hj:j<l.length):p (l.getD j 0)=true:=by
  rw [getD_lt hj];exact List.all_eq_true.1 h _ (List.getElem_mem hj)

theorem hours_l0 (l:List Int) (hl:l.length≤35184372088832):∀ (d j k:Nat),j+d=l.length→d<k→spec_l14Hours.l0 k l (j:Int)=some ((l.drop j).all hour&&decide ((l.length:Int)≤24)):=by
  intro d
  induction d with
  |zero=>
    intro j k hj hk
    obtain ⟨k,rfl⟩:=suc_of hk
    simp only [spec_l14Hours.l0]
    rw [if_neg (by omega),List.drop_eq_nil_of_le (by omega)];rfl
  |succ d ih=>
    intro j k hj hk
    obtain ⟨k,rfl⟩:=suc_of hk
    simp only [spec_l14Hours.l0]
    rw [if_pos (by omega),if_pos (by omega),spec_in,rd_nat,drop_cons l (by omega:j<l.length) 0,List.all_cons,next_nat (n:=l.length) (by omega) (by omega)]
    simp only [Option.bind_some]
    have e:decide (0≤l.getD j 0∧l.getD j 0≤1000)=hour (l.getD j 0):=rfl
    rw [e]
    cases hour (l.getD j 0)
    · rfl
    · rw [if_pos rfl,Bool.true_and,ih (j+1) k (by omega) (by omega)]
theorem spec_hours (l:List Int) (hl:l.length≤35184372088832) (k:Nat) (hk:l.length<k):spec_l14Hours.f k l=some (l.all hour&&decide ((l.length:Int)≤24)):=
  hours_l0 l hl l.length 0 k (by omega) hk
theorem impl_ok (a b c v m:Int) (ls es:List Int):impl_charging_ok.f a b c ls es m v=some (tankOk a b c&&(decide (0≤v∧v≤a)&&((ls.all hour&&decide ((ls.length:Int)≤24))&&hour m))):=by
  unfold impl_charging_ok.f impl_allWithin.f
  rw [impl_tank]
  have e:(ls.all fun x=>decide (0≤x∧x≤1000))=ls.all hour:=rfl
  have e2:decide (0≤m∧m≤1000)=hour m:=rfl
  simp only [impl_in,e,e2,Option.bind_some]
  cases tankOk a b c
  · rfl
  · cases decide (0≤v∧v≤a)
    · rfl
    · by_cases h:(ls.length:Int)≤24
      · rw [if_pos h,decide_eq_true h];cases ls.all hour<;>rfl
      · rw [if_neg h,decide_eq_false h];simp
theorem hour_le {x:Int} (h:hour x=true):0≤x∧x≤1000:=of_decide_eq_true h

theorem rl_nat (l:List (List Int)) (j:Nat):rd_L3 l (j:Int)=l.getD j []:=by unfold rd_L3;simp
def stp (a b c L most v ch:Int):Option Int:=match aft a b c v ch with
  |some x=>if 0≤L+ch∧L+ch≤most then some x else none
  |none=>none
theorem stp_le {a b c L most v ch x:Int} (h:stp a b c L most v ch=some x):0≤x∧x≤a:=by
  unfold stp at h
  split at h
  · rename_i y e
    split at h
    · cases h;exact aft_le e
    · cases h
  · cases h
theorem set_get {l:List Int} {j:Nat} {x:Int} (h:l.getD j 0=x) (hj:j<l.length):l.set j x=l:=by
  rw [← h,getD_lt hj,List.set_getElem_self]
theorem getD_set {X:List (List Int)} {i j:Nat} {R:List Int} (hi:i<X.length):(X.set i R).getD j []=if i=j then R else X.getD j []:=by
  by_cases e:i=j
  · subst e;rw [if_pos rfl,getD_lt (by rw [List.length_set];exact hi),List.getElem_set_self]
  · rw [if_neg e,List.getD_eq_getElem?_getD,List.getD_eq_getElem?_getD,List.getElem?_set_ne e]
theorem getD_setI {R:List Int} {i j:Nat} {x:Int} (hi:i<R.length):(R.set i x).getD j 0=if i=j then x else R.getD j 0:=by
  by_cases e:i=j
  · subst e;rw [if_pos rfl,getD_lt (by rw [List.length_set];exact hi),List.getElem_set_self]
  · rw [if_neg e,List.getD_eq_getElem?_getD,List.getD_eq_getElem?_getD,List.getElem?_set_ne e]
theorem cafter {a b c:Int} (ht:tankOk a b c=true) (cs es:List Int) (most:Int) (hh:cs.all hour=true) {h:Nat} (hc:h<cs.length) {v ch:Int} (hv0:0≤v) (hv1:v≤a) (h0:-1000≤ch) (h1:ch≤1000):∃ y,impl_charging_after.f a b c cs es most (h:Int) v ch=some (match stp a b c (cs.getD h 0) most v ch with|some x=>(x,true)|none=>(y,false)):=by
  have hb:=hour_le (all_getD hh hc)
  obtain ⟨y,hy⟩:=impl_after (ch:=ch) ht hv0 hv1 h0 h1
  unfold impl_charging_after.f stp
  rw [hy]
  cases ha:aft a b c v ch with
  |none=>exact ⟨y,rfl⟩
  |some x=>
    simp only [Option.bind_some,if_true]
    rw [if_pos (by omega),if_pos (by omega),rd_nat,wrap_id (x:=cs.getD h 0+ch) (by omega) (by omega),impl_in]
    simp only [Option.bind_some]
    by_cases hf:0≤cs.getD h 0+ch∧cs.getD h 0+ch≤most
    · exact ⟨0,by rw [if_pos hf,decide_eq_true hf]⟩
    · exact ⟨x,by rw [if_neg hf,decide_eq_false hf]⟩

def run (a b c most:Int):List Int→Int→List Int→Option Int
  |[],v,[]=>some v
  |L :: t,v,ch :: u=>match stp a b c L most v ch with|some x=>run a b c most t x u|none=>none
  |_,_,_=>none
theorem run_cons (a b c most L ch:Int) (t u:List Int) (v:Int):run a b c most (L :: t) v (ch :: u)=match stp a b c L most v ch with|some x=>run a b c most t x u|none=>none:=rfl
theorem run_some {a b c most L ch x:Int} {t u:List Int} {v:Int} (h:stp a b c L most v ch=some x):run a b c most (L :: t) v (ch :: u)=run a b c most t x u:=by rw [run_cons,h]
theorem run_none {a b c most L ch:Int} {t u:List Int} {v:Int} (h:stp a b c L most v ch=none):run a b c most (L :: t) v (ch :: u)=none:=by rw [run_cons,h]
theorem stp_b {a b c L most v ch x:Int} (h:stp a b c L most v ch=some x):(-b≤ch∧ch≤b)∧(0≤L+ch∧L+ch≤most)∧aft a b c v ch=some x:=by
  unfold stp at h
  split at h
  · rename_i y e
    split at h
    · rename_i f
      cases h
      refine ⟨?_,f,e⟩
      unfold aft at e
      split at e
      · rename_i g;exact g.1
      · cases e
    · cases h
  · cases h
theorem run_len {a b c most:Int}:∀ (cs:List Int) (v:Int) (chs:List Int) (x:Int),run a b c most cs v chs=some x→chs.length=cs.length:=by
  intro cs
  induction cs with
  |nil=>intro v chs x h;cases chs with
    |nil=>rfl
    |cons _ _=>cases h
  |cons L t ih=>
    intro v chs x h
    cases chs with
    |nil=>cases h
    |cons ch u=>
      cases hs:stp a b c L most v ch with
      |none=>rw [run_none hs] at h;cases h
      |some y=>
        rw [run_some hs] at h
        rw [List.length_cons,List.length_cons,ih y u x h]
theorem run_end {a b c most:Int}:∀ (cs:List Int) (v:Int) (chs:List Int) (x:Int),0≤v→v≤a→run a b c most cs v chs=some x→0≤x∧x≤a:=by
  intro cs
  induction cs with
  |nil=>intro v chs x h0 h1 h;cases chs with
    |nil=>cases h;exact ⟨h0,h1⟩
    |cons _ _=>cases h
  |cons L t ih=>
    intro v chs x h0 h1 h
    cases chs with
    |nil=>cases h
    |cons ch u=>
      cases hs:stp a b c L most v ch with
      |none=>rw [run_none hs] at h;cases h
      |some y=>
        rw [run_some hs] at h
        have:=stp_le hs
        exact ih y u x this.1 this.2 h

def wp (a b c L most v:Int) (w:Int→Nat):Nat→Int→Nat
  |0,_=>0
  |n+1,ch=>(match stp a b c L most v ch with|some x=>w x|none=>0)+wp a b c L most v w n (ch+1)
def ways (a b c most:Int):List Int→Int→Nat
  |[],_=>1
  |L :: t,v=>wp a b c L most v (ways a b c most t) (2 * b+1).toNat (-b)

def upd (a b c L most v:Int) (m:List Bool) (ch:Int):List Bool:=match aft a b c v ch with
  |some x=>if 0≤L+ch∧L+ch≤most then m.set x.toNat true else m
  |none=>m
def inn (a b c L most v:Int):Nat→Int→List Bool→List Bool
  |0,_,m=>m
  |n+1,ch,m=>inn a b c L most v n (ch+1) (upd a b c L most v m ch)
def lvl (a b c L most:Int) (x9:List Bool):Nat→Int→List Bool→List Bool
  |0,_,m=>m
  |n+1,v,m=>lvl a b c L most x9 n (v+1) (if x9.getD v.toNat false=true then inn a b c L most v (2 * b+1).toNat (-b) m else m)
def hrs (a b c most:Int):List Int→List Bool→List Bool
  |[],x9=>x9
  |L :: t,x9=>hrs a b c most t (lvl a b c L most x9 (a+1).toNat 0 (List.replicate (a+1).toNat false))
theorem upd_len (a b c L most v:Int) (m:List Bool) (ch:Int):(upd a b c L most v m ch).length=m.length:=by
  unfold upd;split
  · split<;>simp
  · rfl
theorem inn_len (a b c L most v:Int):∀ (n:Nat) (ch:Int) (m:List Bool),(inn a b c L most v n ch m).length=m.length:=by
  intro n
  induction n with
  |zero=>intro ch m;rfl
  |succ n ih=>intro ch m;unfold inn;rw [ih,upd_len]
theorem lvl_len (a b c L most:Int) (x9:List Bool):∀ (n:Nat) (v:Int) (m:List Bool),(lvl a b c L most x9 n v m).length=m.length:=by
  intro n
  induction n with
  |zero=>intro v m;rfl
  |succ n ih=>intro v m;unfold lvl;rw [ih];split<;>simp [inn_len]
theorem hrs_len (a b c most:Int):∀ (l:List Int) (x9:List Bool),x9.length=(a+1).toNat→(hrs a b c most l x9).length=(a+1).toNat:=by
  intro l
  induction l with
  |nil=>intro x9 h;exact h
  |cons x t ih=>intro x9 h;unfold hrs;exact ih _ (by rw [lvl_len];simp)

/-! How many chargings there are, and where they end. -/
theorem wp_pos (a b c L most v:Int) (w:Int→Nat):∀ (n:Nat) (ch:Int),0<wp a b c L most v w n ch↔∃ e x,ch≤e∧e<ch+(n:Int)∧stp a b c L most v e=some x∧0<w x:=by
  intro n
  induction n with
  |zero=>
    intro ch
    refine ⟨fun h=>absurd h (Nat.lt_irrefl 0),fun ⟨e,x,h1,h2,_⟩=>by omega⟩
  |succ n ih=>
    intro ch
    have e0:wp a b c L most v w (n+1) ch=(match stp a b c L most v ch with|some x=>w x|none=>0)+wp a b c L most v w n (ch+1):=rfl
    rw [e0]
    have i:=ih (ch+1)
    constructor
    · intro h
      by_cases g:0<wp a b c L most v w n (ch+1)
      · obtain ⟨e,x,h1,h2,h3⟩:=i.1 g
        exact ⟨e,x,by omega,by omega,h3⟩
      · cases hs:stp a b c L most v ch with
        |none=>rw [hs] at h;simp only [] at h;omega
        |some y=>
          rw [hs] at h
          simp only [] at h
          exact ⟨ch,y,Int.le_refl _,by omega,hs,by omega⟩
    · rintro ⟨e,x,h1,h2,h3,h4⟩
      by_cases g:e=ch
      · subst g;rw [h3];simp only [];omega
      · have:=i.2 ⟨e,x,by omega,by omega,h3,h4⟩
        omega
theorem ways_pos {a b c most:Int}:∀ (cs:List Int) (v:Int),0<ways a b c most cs v↔∃ chs x,run a b c most cs v chs=some x:=by
  intro cs
  induction cs with
  |nil=>intro v;exact ⟨fun _=>⟨[],v,rfl⟩,fun _=>Nat.lt_succ_self 0⟩
  |cons L t ih=>
    intro v
    have e0:ways a b c most (L :: t) v=wp a b c L most v (ways a b c most t) (2 * b+1).toNat (-b):=rfl
    rw [e0,wp_pos]
    constructor
    · rintro ⟨e,x,_,_,h3,h4⟩
      obtain ⟨u,y,h5⟩:=(ih x).1 h4
      exact ⟨e :: u,y,by rw [run_some h3];exact h5⟩
    · rintro ⟨chs,y,h⟩
      cases chs with
      |nil=>cases h
      |cons e u=>
        cases hs:stp a b c L most v e with
        |none=>rw [run_none hs] at h;cases h
        |some x=>
          rw [run_some hs] at h
          have g:=stp_b hs
          exact ⟨e,x,by omega,by omega,hs,(ih x).2 ⟨u,y,h⟩⟩
theorem getD_setB {R:List Bool} {i j:Nat} (hi:i<R.length):(R.set i true).getD j false=true↔R.getD j false=true∨i=j:=by
  rw [List.getD_eq_getElem?_getD,List.getElem?_set,List.getD_eq_getElem?_getD]
  by_cases e:i=j
  · rw [if_pos e,if_pos hi];exact ⟨fun _=>.inr e,fun _=>rfl⟩
  · rw [if_neg e];exact ⟨fun h=>.inl h,fun h=>h.resolve_right e⟩
theorem upd_get {a b c L most v ch:Int} {m:List Bool} (hm:m.length=(a+1).toNat) (j:Nat):(upd a b c L most v m ch).getD j false=true↔m.getD j false=true∨∃ x,stp a b c L most v ch=some x∧x.toNat=j:=by
  unfold upd
  cases ha:aft a b c v ch with
  |none=>
    have hs:stp a b c L most v ch=none:=by unfold stp;rw [ha]
    rw [hs]
    exact ⟨fun h=>.inl h,fun h=>h.resolve_right (fun ⟨x,hx,_⟩=>by cases hx)⟩
  |some y=>
    have hy:=aft_le ha
    simp only []
    by_cases f:0≤L+ch∧L+ch≤most
    · have hs:stp a b c L most v ch=some y:=by unfold stp;rw [ha];exact if_pos f
      rw [if_pos f,getD_setB (by omega),hs]
      exact ⟨fun h=>h.elim .inl (fun g=>.inr ⟨y,rfl,g⟩),fun h=>h.elim .inl (fun ⟨x,hx,g⟩=>.inr (by cases hx;exact g))⟩
    · have hs:stp a b c L most v ch=none:=by unfold stp;rw [ha];exact if_neg f
      rw [if_neg f,hs]
      exact ⟨fun h=>.inl h,fun h=>h.resolve_right (fun ⟨x,hx,_⟩=>by cases hx)⟩
theorem inn_get {a b c L most v:Int} (j:Nat):∀ (n:Nat) (ch:Int) (m:List Bool),m.length=(a+1).toNat→((inn a b c L most v n ch m).getD j false=true↔m.getD j false=true∨∃ e x,ch≤e∧e<ch+(n:Int)∧stp a b c L most v e=some x∧x.toNat=j):=by
  intro n
  induction n with
  |zero=>intro ch m _;exact ⟨fun h=>.inl h,fun h=>h.resolve_right (fun ⟨e,x,h1,h2,_⟩=>by omega)⟩
  |succ n ih=>
    intro ch m hm
    have e0:inn a b c L most v (n+1) ch m=inn a b c L most v n (ch+1) (upd a b c L most v m ch):=rfl
    rw [e0,ih (ch+1) _ (by rw [upd_len];exact hm),upd_get hm]
    constructor
    · rintro ((h|⟨x,h1,h2⟩)|⟨e,x,h1,h2,h3⟩)
      · exact .inl h
      · exact .inr ⟨ch,x,Int.le_refl _,by omega,h1,h2⟩
      · exact .inr ⟨e,x,by omega,by omega,h3⟩
    · rintro (h|⟨e,x,h1,h2,h3,h4⟩)
      · exact .inl (.inl h)
      · by_cases g:e=ch
        · subst g;exact .inl (.inr ⟨x,h3,h4⟩)
        · exact .inr ⟨e,x,by omega,by omega,h3,h4⟩
theorem lvl_get {a b c L most:Int} (x9:List Bool) (j:Nat):∀ (n:Nat) (v:Int) (m:List Bool),m.length=(a+1).toNat→((lvl a b c L most x9 n v m).getD j false=true↔m.getD j false=true∨∃ w e x,v≤w∧w<v+(n:Int)∧x9.getD w.toNat false=true∧stp a b c L most w e=some x∧x.toNat=j):=by
  intro n
  induction n with
  |zero=>intro v m _;exact ⟨fun h=>.inl h,fun h=>h.resolve_right (fun ⟨w,e,x,h1,h2,_⟩=>by omega)⟩
  |succ n ih=>
    intro v m hm
    have e0:lvl a b c L most x9 (n+1) v m=lvl a b c L most x9 n (v+1) (if x9.getD v.toNat false=true then inn a b c L most v (2 * b+1).toNat (-b) m else m):=rfl
    rw [e0]
    by_cases g:x9.getD v.toNat false=true
    · rw [if_pos g,ih (v+1) _ (by rw [inn_len];exact hm),inn_get j _ _ _ hm]
      constructor
      · rintro ((h|⟨e,x,h1,h2,h3,h4⟩)|⟨w,e,x,h1,h2,h3⟩)
        · exact .inl h
        · exact .inr ⟨v,e,x,Int.le_refl _,by omega,g,h3,h4⟩
        · exact .inr ⟨w,e,x,by omega,by omega,h3⟩
      · rintro (h|⟨w,e,x,h1,h2,h3,h4,h5⟩)
        · exact .inl (.inl h)
        · by_cases q:w=v
          · subst q
            have:=stp_b h4
            exact .inl (.inr ⟨e,x,by omega,by omega,h4,h5⟩)
          · exact .inr ⟨w,e,x,by omega,by omega,h3,h4,h5⟩
    · rw [if_neg g,ih (v+1) _ hm]
      constructor
      · rintro (h|⟨w,e,x,h1,h2,h3⟩)
        · exact .inl h
        · exact .inr ⟨w,e,x,by omega,by omega,h3⟩
      · rintro (h|⟨w,e,x,h1,h2,h3,h4⟩)
        · exact .inl h
        · by_cases q:w=v
          · subst q;exact absurd h3 g
          · exact .inr ⟨w,e,x,by omega,by omega,h3,h4⟩
theorem hrs_get {a b c most:Int}:∀ (cs:List Int) (x9:List Bool),x9.length=(a+1).toNat→∀ (x:Int),0≤x→x≤a→((hrs a b c most cs x9).getD x.toNat false=true↔∃ w chs,0≤w∧w≤a∧x9.getD w.toNat false=true∧run a b c most cs w chs=some x):=by
  intro cs
  induction cs with
  |nil=>
    intro x9 _ x h0 h1
    constructor
    · intro h;exact ⟨x,[],h0,h1,h,rfl⟩
    · rintro ⟨w,chs,_,_,h,hr⟩
      cases chs with
      |nil=>cases hr;exact h
      |cons _ _=>cases hr
  |cons L t ih=>
    intro x9 h9 x h0 h1
    have e0:hrs a b c most (L :: t) x9=hrs a b c most t (lvl a b c L most x9 (a+1).toNat 0 (List.replicate (a+1).toNat false)):=rfl
    rw [e0,ih _ (by rw [lvl_len,List.length_replicate]) x h0 h1]
    have z:∀ j,(List.replicate (a+1).toNat false).getD j false=false:=fun j=>by
      rw [List.getD_eq_getElem?_getD,List.getElem?_replicate];split<;>rfl
    constructor
    · rintro ⟨w,chs,w0,w1,hw,hr⟩
      rw [lvl_get x9 _ _ _ _ (by rw [List.length_replicate]),z] at hw
      rcases hw with hw|⟨v,e,y,v0,v1,hv,hs,hy⟩
      · cases hw
      · have q:=stp_le hs
        have:y=w:=by omega
        subst this
        exact ⟨v,e :: chs,v0,by omega,hv,by rw [run_some hs];exact hr⟩
    · rintro ⟨v,chs,v0,v1,hv,hr⟩
      cases chs with
      |nil=>cases hr
      |cons e u=>
        cases hs:stp a b c L most v e with
        |none=>rw [run_none hs] at hr;cases hr
        |some y=>
          rw [run_some hs] at hr
          have q:=stp_le hs
          refine ⟨y,u,q.1,q.2,?_,hr⟩
          rw [lvl_get x9 _ _ _ _ (by rw [List.length_replicate])]
          exact .inr ⟨v,e,y,v0,by omega,hv,hs,rfl⟩

def gup (G:Int→Nat) (x:Int) (y:Nat):Int→Nat:=fun z=>if z=x then G z+y else G z
def cap (x K:Nat):Int:=((min x K:Nat):Int)
theorem cap_b (x K:Nat):0≤cap x K∧cap x K≤(K:Int):=by unfold cap;omega
theorem cap_zero (K:Nat):cap 0 K=0:=by unfold cap;omega
theorem cap_pos {x:Nat} (h:0<x):0<cap x 20000:=by unfold cap;omega
theorem cap_mn (x y:Nat):mn (cap x 20001+cap y 20001) 20001=cap (x+y) 20001:=by unfold mn cap;split<;>omega
theorem cap_fin (x:Nat):mn (cap x 20001) 20000=cap x 20000:=by unfold mn cap;split<;>omega
def Tb (N K:Nat) (T:List Int) (G:Int→Nat):Prop:=T.length=N∧∀ j:Nat,j<N→T.getD j 0=(cap (G (j:Int)) K)
theorem Tb_rd {N K:Nat} {T:List Int} {G:Int→Nat} (h:Tb N K T G) {v:Int} (h0:0≤v) (h1:v<(N:Int)):rd T v=(cap (G v) K):=by
  have:=h.2 v.toNat (by omega)
  rw [show ((v.toNat:Nat):Int)=v by omega] at this
  exact this
theorem Tb_set {N K:Nat} {T:List Int} {G:Int→Nat} (h:Tb N K T G) {x:Int} (h0:0≤x) (h1:x<(N:Int)) (y:Nat):Tb N K (T.set x.toNat (cap (G x+y) K)) (gup G x y):=by
  refine ⟨by rw [List.length_set];exact h.1,fun j hj=>?_⟩
  have hl:=h.1
  rw [getD_setI (by omega)]
  unfold gup
  by_cases e:x.toNat=j
  · rw [if_pos e,if_pos (by omega),show (j:Int)=x by omega]
  · rw [if_neg e,if_neg (by omega),← h.2 j hj]
theorem Tb_none (N K:Nat):Tb N K (List.replicate N 0) (fun _=>0):=⟨by simp,fun j hj=>by rw [getD_lt (by simpa using hj),cap_zero];simp⟩
theorem cnt_inn {a b c:Int} (ht:tankOk a b c=true) (cs es:List Int) (most:Int) (hh:cs.all hour=true) (w:Int→Nat) (Q:List Int) (hQ:Tb (a+1).toNat 20001 Q w) (h:Nat) (hc:h<cs.length) (hc24:cs.length≤24) (v:Nat) (hv1:(v:Int)≤a) (N:Int) (R:List Int) (hR:R.length=(a+1).toNat) (k:Nat) (Good:List (List Int)→Prop):
    ∀ (n:Nat) (ch:Int) (X:List (List Int)) (acc:Nat),X.length=cs.length+1→X.getD (h+1) []=Q→X.getD h []=R.set v (cap acc 20001)→-b≤ch→ch+(n:Int)=b+1→
    (∀ X',X'.length=cs.length+1→X'.getD (h+1) []=Q→X'.getD h []=R.set v (cap (acc+wp a b c (cs.getD h 0) most v w n ch) 20001)→∃ r,impl_charging_counts.l2 k X' (h:Int) N (wrap64 ((v:Int)+1)) a b c cs es most=some r∧Good r)→
    ∃ r,impl_charging_counts.l3 (k+n+1) X (h:Int) (v:Int) ch N (v:Int) a b c cs es most=some r∧Good r:=by
  have t:=tankOk_iff.1 ht
  have hQl:=hQ.1
  intro n
  induction n with
  |zero=>
    intro ch X acc hX hX1 hX0 h0 h1 hyp
    rw [show k+0+1=k+1 by omega]
    simp only [impl_charging_counts.l3]
    rw [if_neg (by omega)]
    unfold wp at hyp
    exact hyp X hX hX1 (by rw [Nat.add_zero];exact hX0)
  |succ n ih=>
    intro ch X acc hX hX1 hX0 h0 h1 hyp
    have hb:=hour_le (all_getD hh hc)
    obtain ⟨K,hK⟩:∃ K,K=k+n+1:=⟨_,rfl⟩
    rw [show k+(n+1)+1=K+1 by omega]
    simp only [← hK] at ih
    obtain ⟨y,hy⟩:=impl_after (ch:=ch) ht (show (0:Int)≤(v:Int) by omega) hv1 (by omega) (by omega)
    simp only [impl_charging_counts.l3]
    unfold impl_charging_after.f
    rw [if_pos (by omega),hy,wrap_id (x:=ch+1) (by omega) (by omega)]
    unfold wp at hyp
    simp only [Option.bind_some]
    cases ha:aft a b c v ch with
    |none=>
      have hs:stp a b c (cs.getD h 0) most v ch=none:=by unfold stp;rw [ha]
      rw [hs] at hyp
      simp only [Nat.zero_add] at hyp
      simpa using ih (ch+1) X acc hX hX1 hX0 (by omega) (by omega) hyp
    |some x=>
      have hx:=aft_le ha
      simp only [if_true]
      rw [if_pos (by omega),if_pos (by omega),rd_nat,wrap_id (x:=cs.getD h 0+ch) (by omega) (by omega),impl_in]
      simp only [Option.bind_some]
      by_cases hf:0≤cs.getD h 0+ch∧cs.getD h 0+ch≤most
      · have hs:stp a b c (cs.getD h 0) most v ch=some x:=by unfold stp;rw [ha];exact if_pos hf
        rw [hs] at hyp
        have ex:=Tb_rd hQ hx.1 (show x<(((a+1).toNat:Nat):Int) by omega)
        have b1:=cap_b acc 20001
        have b2:=cap_b (w x) 20001
        have er:rd (R.set v (cap acc 20001)) (v:Int)=(cap acc 20001):=by
          rw [rd_nat,getD_setI (by omega),if_pos rfl]
        rw [decide_eq_true hf,if_pos rfl,if_pos (by omega),if_pos (by omega),if_pos (by omega),rl_nat,hX0,if_pos (by rw [List.length_set];omega),next_nat (n:=cs.length) (by omega) (by omega),if_pos (by omega),if_pos (by omega),rl_nat,hX1,if_pos (by omega),if_pos (by omega),er,ex,wrap_id (by omega) (by omega),Int.toNat_natCast,Int.toNat_natCast,List.set_set]
        rw [cap_mn]
        refine ih (ch+1) _ (acc+w x) (by rw [List.length_set];exact hX) (by rw [getD_set (by omega),if_neg (by omega)];exact hX1) (by rw [getD_set (by omega),if_pos rfl]) (by omega) (by omega) (fun X' a1 a2 a3=>hyp X' a1 a2 (by rw [a3,Nat.add_assoc]))
      · have hs:stp a b c (cs.getD h 0) most v ch=none:=by unfold stp;rw [ha];exact if_neg hf
        rw [hs] at hyp
        simp only [Nat.zero_add] at hyp
        rw [decide_eq_false hf,if_neg Bool.false_ne_true]
        exact ih (ch+1) X acc hX hX1 hX0 (by omega) (by omega) hyp
theorem cnt_lvl {a b c:Int} (ht:tankOk a b c=true) (cs es:List Int) (most:Int) (hh:cs.all hour=true) (w:Int→Nat) (Q:List Int) (hQ:Tb (a+1).toNat 20001 Q w) (h:Nat) (hc:h<cs.length) (hc24:cs.length≤24) (k:Nat) (Good:List (List Int)→Prop):
    ∀ (n v:Nat) (X:List (List Int)),X.length=cs.length+1→X.getD (h+1) []=Q→(X.getD h []).length=(a+1).toNat→(∀ j,j<v→(X.getD h []).getD j 0=cap (wp a b c (cs.getD h 0) most (j:Int) w (2 * b+1).toNat (-b)) 20001)→(∀ j,v≤j→j<(a+1).toNat→(X.getD h []).getD j 0=0)→v+n=(a+1).toNat→
    (∀ X',X'.length=cs.length+1→Tb (a+1).toNat 20001 (X'.getD h []) (fun z=>wp a b c (cs.getD h 0) most z w (2 * b+1).toNat (-b))→∃ r,impl_charging_counts.l1 k X' (wrap64 ((h:Int) - 1)) a b c cs es most=some r∧Good r)→
    ∃ r,impl_charging_counts.l2 (k+100 * n+1) X (h:Int) (((a+1).toNat:Nat):Int) (v:Int) a b c cs es most=some r∧Good r:=by
  have t:=tankOk_iff.1 ht
  intro n
  induction n with
  |zero=>
    intro v X hX hX1 hXl hA hB hv hyp
    rw [show k+100 * 0+1=k+1 by omega]
    simp only [impl_charging_counts.l2]
    rw [if_neg (by omega)]
    exact hyp X hX ⟨hXl,fun j hj=>hA j (by omega)⟩
  |succ n ih=>
    intro v X hX hX1 hXl hA hB hv hyp
    obtain ⟨Y,hY⟩:∃ Y,Y=k+100 * n+100:=⟨_,rfl⟩
    rw [show k+100 * (n+1)+1=Y+1 by omega]
    simp only [impl_charging_counts.l2]
    rw [if_pos (by omega),wrap_id (x:= -b) (by omega) (by omega)]
    obtain ⟨r,r1,r2⟩:=cnt_inn ht cs es most hh w Q hQ h hc hc24 v (by omega) (((a+1).toNat:Nat):Int) (X.getD h []) hXl (k+100 * n+1) Good (2 * b+1).toNat (-b) X 0 hX hX1 (by rw [cap_zero,set_get (hB v (Nat.le_refl _) (by omega)) (by omega)]) (by omega) (by omega) (fun X' a1 a2 a3=>by
      rw [next_nat (n:=(a+1).toNat) (by omega) (by omega)]
      rw [Nat.zero_add] at a3
      refine ih (v+1) X' a1 a2 (by rw [a3,List.length_set];exact hXl) (fun j hj=>?_) (fun j hj hj2=>?_) (by omega) hyp
      · rw [a3,getD_setI (by omega)]
        by_cases e:v=j
        · subst e;rw [if_pos rfl]
        · rw [if_neg e,← hA j (by omega)]
      · rw [a3,getD_setI (by omega),if_neg (by omega)];exact hB j (by omega) hj2)
    exact ⟨r,up (g:=fun k=>impl_charging_counts.l3 k X (h:Int) (v:Int) (-b) (((a+1).toNat:Nat):Int) (v:Int) a b c cs es most) (fun k=>(impl_charging_counts.mono_l k).2.2.2 _ _ _ _ _ _ _ _ _ _ _ _) r1 _ (by omega),r2⟩
theorem cnt_hrs {a b c:Int} (ht:tankOk a b c=true) (cs es:List Int) (hl:cs.length≤24) (most:Int) (hh:cs.all hour=true):∀ (h:Nat) (X:List (List Int)),h≤cs.length→X.length=cs.length+1→Tb (a+1).toNat 20001 (X.getD h []) (ways a b c most (cs.drop h))→
    ∃ r,impl_charging_counts.l1 (11000 * h+1) X ((h:Int) - 1) a b c cs es most=some r∧(r.length=cs.length+1∧Tb (a+1).toNat 20001 (r.getD 0 []) (ways a b c most cs)):=by
  have t:=tankOk_iff.1 ht
  intro h
  induction h with
  |zero=>
    intro X hd hX hT
    simp only [impl_charging_counts.l1]
    rw [if_neg (by omega)]
    rw [List.drop_zero] at hT
    exact ⟨X,rfl,hX,hT⟩
  |succ h ih=>
    intro X hd hX hT
    obtain ⟨Y,hY⟩:∃ Y,Y=11000 * h+11000:=⟨_,rfl⟩
    rw [show 11000 * (h+1)+1=Y+1 by omega,show ((h+1:Nat):Int) - 1=(h:Int) by omega]
    have eN:wrap64 (a+1)=a+1:=wrap_id (by omega) (by omega)
    simp only [impl_charging_counts.l1,Option.bind_some]
    rw [if_pos (by omega),eN,if_pos (by omega),if_pos (by omega),if_pos (by omega),if_pos (by omega),Int.toNat_natCast,rl_nat,getD_set (by omega),if_pos rfl,List.length_replicate]
    obtain ⟨r,r1,r2⟩:=cnt_lvl ht cs es most hh _ (X.getD (h+1) []) hT h (by omega) hl (11000 * h+1) (fun r=>r.length=cs.length+1∧Tb (a+1).toNat 20001 (r.getD 0 []) (ways a b c most cs)) (a+1).toNat 0 (X.set h (List.replicate (a+1).toNat 0)) (by rw [List.length_set];exact hX) (by rw [getD_set (by omega),if_neg (by omega)]) (by rw [getD_set (by omega),if_pos rfl,List.length_replicate]) (fun j hj=>absurd hj (by omega)) (fun j _ hj=>by rw [getD_set (by omega),if_pos rfl,getD_lt (by rw [List.length_replicate];exact hj),List.getElem_replicate]) (by omega) (fun X' a1 a2=>by
      rw [wrap_id (x:=(h:Int) - 1) (by omega) (by omega)]
      refine ih X' (by omega) a1 ?_
      rw [drop_cons cs (by omega:h<cs.length) 0]
      exact a2)
    exact ⟨r,up (g:=fun k=>impl_charging_counts.l2 k _ (h:Int) _ 0 a b c cs es most) (fun k=>(impl_charging_counts.mono_l k).2.2.1 _ _ _ _ _ _ _ _ _ _) r1 _ (by omega),r2⟩
theorem cnt_ones {a b c:Int} (ht:tankOk a b c=true) (cs es:List Int) (hl:cs.length≤24) (most:Int) (k:Nat) (Good:List (List Int)→Prop) (hyp:∀ X',X'.length=cs.length+1→Tb (a+1).toNat 20001 (X'.getD cs.length []) (fun _=>1)→∃ r,impl_charging_counts.l1 k X' ((cs.length:Int) - 1) a b c cs es most=some r∧Good r):∀ (n v:Nat) (X:List (List Int)),X.length=cs.length+1→(X.getD cs.length []).length=(a+1).toNat→(∀ j,j<v→(X.getD cs.length []).getD j 0=1)→v+n=(a+1).toNat→
    ∃ r,impl_charging_counts.l0 (k+n+1) X (((a+1).toNat:Nat):Int) (v:Int) a b c cs es most=some r∧Good r:=by
  have t:=tankOk_iff.1 ht
  intro n
  induction n with
  |zero=>
    intro v X hX hXl hA hv
    rw [show k+0+1=k+1 by omega]
    simp only [impl_charging_counts.l0]
    rw [if_neg (by omega),wrap_id (by omega) (by omega)]
    exact hyp X hX ⟨hXl,fun j hj=>by rw [hA j (by omega)];rfl⟩
  |succ n ih=>
    intro v X hX hXl hA hv
    obtain ⟨Y,hY⟩:∃ Y,Y=k+n+1:=⟨_,rfl⟩
    rw [show k+(n+1)+1=Y+1 by omega]
    simp only [← hY] at ih
    simp only [impl_charging_counts.l0]
    rw [if_pos (by omega),if_pos (by omega),if_pos (by omega),if_pos (by omega),rl_nat,if_pos (by omega),next_nat (n:=(a+1).toNat) (by omega) (by omega),Int.toNat_natCast,Int.toNat_natCast]
    refine ih (v+1) _ (by rw [List.length_set];exact hX) (by rw [getD_set (by omega),if_pos rfl,List.length_set];exact hXl) (fun j hj=>?_) (by omega)
    rw [getD_set (by omega),if_pos rfl,getD_setI (by omega)]
    by_cases e:v=j
    · rw [if_pos e]
    · rw [if_neg e,← hA j (by omega)]
theorem cnt_all {a b c:Int} (ht:tankOk a b c=true) (cs es:List Int) (hl:cs.length≤24) (most:Int) (hh:cs.all hour=true) (k:Nat) (hk:1000000≤k):∃ r,impl_charging_counts.f k a b c cs es most=some r∧(r.length=cs.length+1∧Tb (a+1).toNat 20001 (r.getD 0 []) (ways a b c most cs)):=by
  have t:=tankOk_iff.1 ht
  have e1:wrap64 ((cs.length:Int)+1)=(cs.length:Int)+1:=wrap_id (by omega) (by omega)
  have eN:wrap64 (a+1)=a+1:=wrap_id (by omega) (by omega)
  have e2:((cs.length:Int)+1).toNat=cs.length+1:=by omega
  have hlen:((List.replicate (cs.length+1) ([]:List Int)).set cs.length (List.replicate (a+1).toNat 0)).length=cs.length+1:=by simp
  have hget:((List.replicate (cs.length+1) ([]:List Int)).set cs.length (List.replicate (a+1).toNat 0)).getD cs.length []=List.replicate (a+1).toNat 0:=by rw [getD_set (by simp),if_pos rfl]
  unfold impl_charging_counts.f
  simp only [Option.bind_some]
  rw [e1,eN,e2,if_pos (by omega),if_pos (by omega),if_pos (by omega),if_pos (by omega),if_pos (by omega),List.length_replicate,if_pos (by omega),Int.toNat_natCast,List.length_replicate]
  obtain ⟨r,r1,r2⟩:=cnt_ones ht cs es hl most (11000 * cs.length+1) (fun r=>r.length=cs.length+1∧Tb (a+1).toNat 20001 (r.getD 0 []) (ways a b c most cs)) (fun X' a1 a2=>by
    refine cnt_hrs ht cs es hl most hh cs.length X' (Nat.le_refl _) a1 ?_
    rw [List.drop_eq_nil_of_le (Nat.le_refl _)]
    exact a2) (a+1).toNat 0 _ hlen (by rw [hget,List.length_replicate]) (fun j hj=>absurd hj (by omega)) (by omega)
  exact ⟨r,up (g:=fun k=>impl_charging_counts.l0 k _ _ 0 a b c cs es most) (fun k=>(impl_charging_counts.mono_l k).1 _ _ _ _ _ _ _ _ _) r1 k (by omega),r2⟩

theorem sla_inn {a b c:Int} (ht:tankOk a b c=true) (cs:List Int) (most:Int) (hh:cs.all hour=true) (x9:List Bool) (h9:x9.length=(a+1).toNat) (h:Nat) (hc:h<cs.length) (v:Int) (hv0:0≤v) (hv1:v≤a) (hr:x9.getD v.toNat false=true) (k:Nat) (r:List Bool):
    ∀ (n:Nat) (ch:Int) (m:List Bool),m.length=(a+1).toNat→-b≤ch→ch+(n:Int)=b+1→
    spec_l14Last.l1 k [(⟨a,b,c⟩:S25)] cs most x9 (h:Int) (inn a b c (cs.getD h 0) most v n ch m) (wrap64 (v+1))=some r→
    spec_l14Last.l2 (k+2 * n+2) [(⟨a,b,c⟩:S25)] cs most x9 (h:Int) m v ch=some r:=by
  have t:=tankOk_iff.1 ht
  have e:rd_T25 [(⟨a,b,c⟩:S25)] 0=⟨a,b,c⟩:=rfl
  intro n
  induction n with
  |zero=>
    intro ch m hm h0 h1 hyp
    simp only [spec_l14Last.l2,spec_l14Last.j3,e]
    rw [if_pos (by simp),if_neg (by omega),if_neg Bool.false_ne_true]
    exact hyp
  |succ n ih=>
    intro ch m hm h0 h1 hyp
    have hb:=hour_le (all_getD hh hc)
    obtain ⟨K,hK⟩:∃ K,K=k+2 * n+2:=⟨_,rfl⟩
    rw [show k+2 * (n+1)+2=K+1+1 by omega]
    simp only [← hK] at ih
    simp only [spec_l14Last.l2,spec_l14Last.j3,e]
    have er:rdOf false x9 v=true:=hr
    rw [if_pos (by simp),if_pos (by omega),if_pos (by omega),if_pos (by omega),er,if_pos rfl,spec_after ht hv0 hv1 (by omega) (by omega),wrap_id (x:=ch+1) (by omega) (by omega)]
    unfold inn at hyp
    have go:=ih (ch+1) (upd a b c (cs.getD h 0) most v m ch) (by rw [upd_len];exact hm) (by omega) (by omega) hyp
    unfold upd at go
    simp only [Option.bind_some]
    cases ha:aft a b c v ch with
    |none=>rw [ha] at go;exact go
    |some x=>
      have hx:=aft_le ha
      rw [ha] at go
      simp only [if_true] at go ⊢
      rw [if_pos (by omega),if_pos (by omega),rd_nat,wrap_id (x:=cs.getD h 0+ch) (by omega) (by omega),spec_in]
      simp only [Option.bind_some]
      by_cases hf:0≤cs.getD h 0+ch∧cs.getD h 0+ch≤most
      · rw [if_pos hf] at go
        rw [decide_eq_true hf,if_pos rfl,if_pos (by omega),if_pos (by omega)]
        exact go
      · rw [if_neg hf] at go
        rw [decide_eq_false hf,if_neg Bool.false_ne_true]
        exact go
theorem sla_lvl {a b c:Int} (ht:tankOk a b c=true) (cs:List Int) (most:Int) (hh:cs.all hour=true) (x9:List Bool) (h9:x9.length=(a+1).toNat) (h:Nat) (hc:h<cs.length) (k:Nat) (r:List Bool):
    ∀ (n:Nat) (v:Int) (m:List Bool),m.length=(a+1).toNat→0≤v→v+(n:Int)=a+1→
    spec_l14Last.l0 k [(⟨a,b,c⟩:S25)] cs most (lvl a b c (cs.getD h 0) most x9 n v m) (wrap64 ((h:Int)+1))=some r→
    spec_l14Last.l1 (k+100 * n+1) [(⟨a,b,c⟩:S25)] cs most x9 (h:Int) m v=some r:=by
  have t:=tankOk_iff.1 ht
  have e:rd_T25 [(⟨a,b,c⟩:S25)] 0=⟨a,b,c⟩:=rfl
  intro n
  induction n with
  |zero=>
    intro v m hm h0 h1 hyp
    rw [show k+100 * 0+1=k+1 by omega]
    simp only [spec_l14Last.l1,e]
    rw [if_pos (by simp),if_neg (by omega)]
    exact hyp
  |succ n ih=>
    intro v m hm h0 h1 hyp
    obtain ⟨F,hF⟩:∃ F,F=k+100 * n+98:=⟨_,rfl⟩
    rw [show k+100 * (n+1)+1=F+1+1+1 by omega]
    simp only [spec_l14Last.l1,e]
    rw [if_pos (by simp),if_pos (by omega),wrap_id (x:= -b) (by omega) (by omega)]
    unfold lvl at hyp
    by_cases hr:x9.getD v.toNat false=true
    · rw [if_pos hr] at hyp
      have go:=ih (v+1) (inn a b c (cs.getD h 0) most v (2 * b+1).toNat (-b) m) (by rw [inn_len];exact hm) (by omega) (by omega) hyp
      rw [← wrap_id (x:=v+1) (by omega) (by omega)] at go
      have go2:=sla_inn ht cs most hh x9 h9 h hc v h0 (by omega) hr _ r (2 * b+1).toNat (-b) m hm (by omega) (by omega) go
      exact up (g:=fun k=>spec_l14Last.l2 k _ cs most x9 (h:Int) m v (-b)) (fun k=>(spec_l14Last.mono_l k).2.2.1 _ _ _ _ _ _ _ _) go2 _ (by omega)
    · rw [if_neg hr] at hyp
      have go:=ih (v+1) m hm (by omega) (by omega) hyp
      simp only [spec_l14Last.l2,spec_l14Last.j3,e]
      have er:rdOf false x9 v=false:=by rw [Bool.not_eq_true] at hr;exact hr
      rw [if_pos (by simp),if_pos (by omega),if_pos (by omega),if_pos (by omega),er,if_neg Bool.false_ne_true,wrap_id (x:=v+1) (by omega) (by omega)]
      exact up (g:=fun k=>spec_l14Last.l1 k _ cs most x9 (h:Int) m (v+1)) (fun k=>(spec_l14Last.mono_l k).2.1 _ _ _ _ _ _ _) go _ (by omega)
theorem sla_hrs {a b c:Int} (ht:tankOk a b c=true) (cs:List Int) (hl:cs.length≤24) (most:Int) (hh:cs.all hour=true):∀ (d h:Nat) (x9:List Bool),h+d=cs.length→x9.length=(a+1).toNat→
    spec_l14Last.l0 (11000 * d+1) [(⟨a,b,c⟩:S25)] cs most x9 (h:Int)=some (hrs a b c most (cs.drop h) x9):=by
  have t:=tankOk_iff.1 ht
  have e:rd_T25 [(⟨a,b,c⟩:S25)] 0=⟨a,b,c⟩:=rfl
  intro d
  induction d with
  |zero=>
    intro h x9 hd h9
    rw [show 11000 * 0+1=0+1 by omega]
    simp only [spec_l14Last.l0]
    rw [if_neg (by omega),List.drop_eq_nil_of_le (by omega)]
    rfl
  |succ d ih=>
    intro h x9 hd h9
    obtain ⟨F,hF⟩:∃ F,F=11000 * d+11000:=⟨_,rfl⟩
    rw [show 11000 * (d+1)+1=F+1 by omega,drop_cons cs (by omega:h<cs.length) 0]
    simp only [spec_l14Last.l0,e,hrs]
    rw [if_pos (by omega),if_pos (by simp),wrap_id (x:=a+1) (by omega) (by omega),if_pos (by omega),if_pos (by omega)]
    have go:=ih (h+1) (lvl a b c (cs.getD h 0) most x9 (a+1).toNat 0 (List.replicate (a+1).toNat false)) (by omega) (by rw [lvl_len];simp)
    rw [← next_nat (n:=cs.length) (by omega) (by omega)] at go
    have go2:=sla_lvl ht cs most hh x9 h9 h (by omega) _ _ (a+1).toNat 0 _ (by simp) (by omega) (by omega) go
    exact up (g:=fun k=>spec_l14Last.l1 k _ cs most x9 (h:Int) _ 0) (fun k=>(spec_l14Last.mono_l k).2.1 _ _ _ _ _ _ _) go2 _ (by omega)

theorem toI_l0 (l:List Int) (hl:l.length≤35184372088832):∀ (d j k:Nat) (m:List Int),j+d=l.length→d<k→m.length=l.length→(∀ i,i<j→m[i]? =l[i]?)→laws_toInt64S.l0 k l m (j:Int)=some l:=by
  intro d
  induction d with
  |zero=>
    intro j k m hj hk hm hp
    obtain ⟨k,rfl⟩:=suc_of hk
    simp only [laws_toInt64S.l0]
    rw [if_neg (by omega)]
    congr 1
    apply List.ext_getElem?
    intro i
    by_cases hi:i<j
    · exact hp i hi
    · rw [List.getElem?_eq_none (by omega),List.getElem?_eq_none (by omega)]
  |succ d ih=>
    intro j k m hj hk hm hp
    obtain ⟨k,rfl⟩:=suc_of hk
    simp only [laws_toInt64S.l0]
    rw [if_pos (by omega),if_pos (by omega),if_pos (by omega),next_nat (n:=l.length) (by omega) (by omega)]
    refine ih (j+1) k _ (by omega) (by omega) (by simpa using hm) (fun i hi=>?_)
    rw [Int.toNat_natCast,rd_nat,List.getElem?_set]
    by_cases e:j=i
    · subst e
      rw [if_pos rfl,if_pos (by omega),getD_lt (by omega),List.getElem?_eq_getElem (by omega)]
    · rw [if_neg e];exact hp i (by omega)
theorem toI (l:List Int) (hl:l.length≤35184372088832) (k:Nat) (hk:l.length<k):laws_toInt64S.f k l=some l:=by
  unfold laws_toInt64S.f
  rw [if_pos (by omega),if_pos (by omega)]
  exact toI_l0 l hl l.length 0 k _ (by omega) hk (by simp) (fun i hi=>absurd hi (by omega))

theorem eqI_l0 (l:List Int) (hl:l.length≤35184372088832):∀ (d j k:Nat),j+d=l.length→d<k→laws_eqInt64S.l0 k l l (j:Int)=some true:=by
  intro d
  induction d with
  |zero=>
    intro j k hj hk
    obtain ⟨k,rfl⟩:=suc_of hk
    simp only [laws_eqInt64S.l0]
    rw [if_neg (by omega)]
  |succ d ih=>
    intro j k hj hk
    obtain ⟨k,rfl⟩:=suc_of hk
    simp only [laws_eqInt64S.l0]
    rw [if_pos (by omega),if_pos (by omega),if_pos (by omega),if_pos trivial,next_nat (n:=l.length) (by omega) (by omega)]
    exact ih (j+1) k (by omega) (by omega)
theorem eqI (l:List Int) (hl:l.length≤35184372088832) (k:Nat) (hk:l.length<k):laws_eqInt64S.f k l l=some true:=by
  unfold laws_eqInt64S.f
  rw [if_pos rfl]
  exact eqI_l0 l hl l.length 0 k (by omega) hk

theorem last_s {a b c:Int} (ht:tankOk a b c=true) (cs:List Int) (h24:cs.length≤24) (most:Int) (hh:cs.all hour=true) (v:Int) (hv:0≤v∧v≤a) (k:Nat) (hk:1000000≤k):spec_l14Last.f k [(⟨a,b,c⟩:S25)] v cs most=some (hrs a b c most cs ((List.replicate (a+1).toNat false).set v.toNat true)):=by
  have t:=tankOk_iff.1 ht
  have hx:((List.replicate (a+1).toNat false).set v.toNat true).length=(a+1).toNat:=by simp
  have hl0:((List.replicate (a+1).toNat false).length:Int)=a+1:=by simp;omega
  have e:rd_T25 [(⟨a,b,c⟩:S25)] 0=⟨a,b,c⟩:=rfl
  unfold spec_l14Last.f
  simp only [Option.bind_some,e]
  rw [if_pos (by simp),wrap_id (x:=a+1) (by omega) (by omega),if_pos (by omega),if_pos (by omega),if_pos (by omega),if_pos (by omega)]
  have go:=sla_hrs ht cs h24 most hh cs.length 0 ((List.replicate (a+1).toNat false).set v.toNat true) (by omega) hx
  rw [List.drop_zero] at go
  have go2:=up (g:=fun k=>spec_l14Last.l0 k [(⟨a,b,c⟩:S25)] cs most ((List.replicate (a+1).toNat false).set v.toNat true) ((0:Nat):Int)) (fun k=>(spec_l14Last.mono_l k).1 _ _ _ _ _) go k (by omega)
  exact go2
/-- Some level is reached exactly if there are ways. -/
theorem some_level {a b c most v:Int} (cs:List Int) (ha:0≤a) (hv:0≤v∧v≤a):(∃ i:Nat,i<(hrs a b c most cs ((List.replicate (a+1).toNat false).set v.toNat true)).length∧(hrs a b c most cs ((List.replicate (a+1).toNat false).set v.toNat true)).getD i false=true)↔0<ways a b c most cs v:=by
  have hx:((List.replicate (a+1).toNat false).set v.toNat true).length=(a+1).toNat:=by simp
  have hlen:=hrs_len a b c most cs _ hx
  have start:∀ w:Int,0≤w→(((List.replicate (a+1).toNat false).set v.toNat true).getD w.toNat false=true↔w=v):=fun w hw=>by
    rw [getD_setB (by rw [List.length_replicate];omega)]
    have z:(List.replicate (a+1).toNat false).getD w.toNat false=false:=by
      rw [List.getD_eq_getElem?_getD,List.getElem?_replicate];split<;>rfl
    rw [z]
    exact ⟨fun h=>by rcases h with h|h;cases h;omega,fun h=>.inr (by rw [h])⟩
  rw [ways_pos]
  constructor
  · rintro ⟨i,i1,i2⟩
    obtain ⟨w,chs,w0,w1,w2,w3⟩:=(hrs_get cs _ hx (i:Int) (by omega) (by omega)).1 (by rw [Int.toNat_natCast];exact i2)
    rw [(start w w0).1 w2] at w3
    exact ⟨chs,_,w3⟩
  · rintro ⟨chs,x,hr⟩
    have b2:=run_end cs v chs x hv.1 hv.2 hr
    have:=(hrs_get cs _ hx x b2.1 b2.2).2 ⟨v,chs,hv.1,hv.2,(start v hv.1).2 rfl,hr⟩
    exact ⟨x.toNat,by omega,this⟩
theorem l1_walk (v:Int) (cs:List Int) (most n a b c:Int) (F:List Bool) (hF:F.length≤200) (R:Option (Int × Int)) (K:Nat) (hR:(∀ i,i<F.length→F.getD i false=false)→∀ k,K<k→spec_LeastTank.l0 k v cs most (wrap64 (n+1)) a b c=R) (hT:(∃ i,i<F.length∧F.getD i false=true)→R=some (n,0)):∀ (d j:Nat),j+d=F.length→(∀ i,i<j→F.getD i false=false)→∀ k,K+d+1<k→spec_LeastTank.l1 k v cs most n F (j:Int) a b c=R:=by
  intro d
  induction d with
  |zero=>
    intro j hj hb k hk
    obtain ⟨k,rfl⟩:=suc_of hk
    simp only [spec_LeastTank.l1]
    rw [if_neg (by omega)]
    exact hR (fun i hi=>hb i (by omega)) k (by omega)
  |succ d ih=>
    intro j hj hb k hk
    obtain ⟨k,rfl⟩:=suc_of hk
    have er:rdOf false F (j:Int)=F.getD j false:=rfl
    simp only [spec_LeastTank.l1]
    rw [if_pos (by omega),if_pos (by omega),er]
    cases hq:F.getD j false with
    |true=>rw [if_pos rfl,hT ⟨j,by omega,hq⟩]
    |false=>
      rw [if_neg Bool.false_ne_true,next_nat (n:=F.length) (by omega) (by omega)]
      exact ih (j+1) (by omega) (fun i hi=>by
        by_cases e:i=j
        · rw [e];exact hq
        · exact hb i (by omega)) k (by omega)
theorem clos_i {a b c:Int} (ht:tankOk a b c=true) (cs:List Int) (h24:cs.length≤24) (most:Int) (hh:cs.all hour=true) (v:Int) (hv:0≤v∧v≤a) (n:Int) (k:Nat) (hk:1000000≤k):impl_LeastTank_1.f k n [(⟨(⟨a,b,c⟩:S25),cs,([]:List Int),most⟩:S69)] [v]=some (decide (0<ways a b c most cs v)):=by
  have t:=tankOk_iff.1 ht
  obtain ⟨r,r1,r2,r3⟩:=cnt_all ht cs [] h24 most hh k hk
  have r3l:=r3.1
  have ev:=Tb_rd r3 hv.1 (show v<(((a+1).toNat:Nat):Int) by omega)
  have e0:rd_L3 r 0=r.getD 0 []:=rl_nat r 0
  have e1:rd [v] 0=v:=rfl
  have hc:decide (cap (ways a b c most cs v) 20001 > 0)=decide (0<ways a b c most cs v):=decide_eq_decide.2 (by unfold cap;omega)
  unfold impl_LeastTank_1.f
  simp only [show rd_T69 [(⟨(⟨a,b,c⟩:S25),cs,([]:List Int),most⟩:S69)] 0=⟨(⟨a,b,c⟩:S25),cs,([]:List Int),most⟩ from rfl,r1,Option.bind_some,e0,e1]
  rw [if_pos (by simp),if_pos (by omega),if_pos (by simp),if_pos hv.1,if_pos (by omega),ev,hc]
theorem tank_at {a b c n:Int} (h:tankOk a b c=true) (h1:1≤n) (h2:n≤100):tankOk n b c=true:=tankOk_iff.2 ⟨⟨h1,h2⟩,(tankOk_iff.1 h).2⟩
theorem both_l0 {a b c:Int} (ht:tankOk a b c=true) (x:Int) (cs:List Int) (h24:cs.length≤24) (most:Int) (hh:cs.all hour=true) (v:Int) (hv:0≤v):∀ (d:Nat) (n:Int),n+(d:Int)=101→1≤n→(v≤n∨d=0)→∃ (r:Int) (e:Int) (y:Int) (q:Bool),(∀ k,1100000+300 * d<k→spec_LeastTank.l0 k v cs most n a b c=some (r,e))∧(∀ k,1100000+300 * d<k→impl_least_c55.l0 k 100 n [(⟨(⟨x,b,c⟩:S25),cs,([]:List Int),most⟩:S69)] [v]=some (y,q))∧((q=true∧y=r∧e=0)∨(q=false∧r=0∧e=3)):=by
  intro d
  induction d with
  |zero=>
    intro n hn h1 _
    refine ⟨0,3,0,false,fun k hk=>?_,fun k hk=>?_,.inr ⟨rfl,rfl,rfl⟩⟩
    · obtain ⟨k,rfl⟩:=suc_of hk
      simp only [spec_LeastTank.l0]
      rw [if_neg (by omega)]
    · obtain ⟨k,rfl⟩:=suc_of hk
      simp only [impl_least_c55.l0]
      rw [if_neg (by omega)]
  |succ d ih=>
    intro n hn h1 hvn
    have hvn:v≤n:=by rcases hvn with h|h<;>omega
    have htn:=tank_at ht h1 (show n≤100 by omega)
    have w1:wrap64 (n+1)=n+1:=wrap_id (by omega) (by omega)
    have hx:((List.replicate (n+1).toNat false).set v.toNat true).length=(n+1).toNat:=by simp
    have hlen:=hrs_len n b c most cs _ hx
    have key1:(hrs n b c most cs ((List.replicate (n+1).toNat false).set v.toNat true)).length≤200:=by omega
    have key2:∀ k,1100000+300 * (d+1)<k+1→1100000+300 * d+(hrs n b c most cs ((List.replicate (n+1).toNat false).set v.toNat true)).length+1<k:=fun k hk=>by omega
    have key3:∀ k,1100000+300 * (d+1)<k+1→1000000≤k:=fun k hk=>by omega
    have key4:n≤100:=by omega
    have lev:=some_level (b:=b) (c:=c) (most:=most) cs (show 0≤n by omega) ⟨hv,hvn⟩
    have si:∀ k,1000000≤k→impl_least_c55.l0 (k+1) 100 n [(⟨(⟨x,b,c⟩:S25),cs,([]:List Int),most⟩:S69)] [v]=if decide (0<ways n b c most cs v)=true then some (n,true) else impl_least_c55.l0 k 100 (n+1) [(⟨(⟨x,b,c⟩:S25),cs,([]:List Int),most⟩:S69)] [v]:=fun k hk=>by
      simp only [impl_least_c55.l0,show rd_T69 [(⟨(⟨x,b,c⟩:S25),cs,([]:List Int),most⟩:S69)] 0=⟨(⟨x,b,c⟩:S25),cs,([]:List Int),most⟩ from rfl]
      rw [if_pos (by omega),clos_i htn cs h24 most hh v ⟨hv,hvn⟩ n k hk,Option.bind_some,w1]
    obtain ⟨r,e,y,q,p1,p2,p3⟩:=ih (n+1) (by omega) (by omega) (by omega)
    have ss:∀ (R:Option (Int × Int)),((∀ i,i<(hrs n b c most cs ((List.replicate (n+1).toNat false).set v.toNat true)).length→(hrs n b c most cs ((List.replicate (n+1).toNat false).set v.toNat true)).getD i false=false)→∀ k,1100000+300 * d<k→spec_LeastTank.l0 k v cs most (wrap64 (n+1)) a b c=R)→((∃ i,i<(hrs n b c most cs ((List.replicate (n+1).toNat false).set v.toNat true)).length∧(hrs n b c most cs ((List.replicate (n+1).toNat false).set v.toNat true)).getD i false=true)→R=some (n,0))→∀ k,1100000+300 * (d+1)<k→spec_LeastTank.l0 k v cs most n a b c=R:=fun R hR hT k hk=>by
      obtain ⟨k,rfl⟩:=suc_of hk
      simp only [spec_LeastTank.l0]
      rw [if_pos key4,last_s htn cs h24 most hh v ⟨hv,hvn⟩ k (key3 k hk),Option.bind_some]
      exact l1_walk v cs most n a b c (hrs n b c most cs ((List.replicate (n+1).toNat false).set v.toNat true)) key1 R (1100000+300 * d) hR hT (hrs n b c most cs ((List.replicate (n+1).toNat false).set v.toNat true)).length 0 (Nat.zero_add _) (fun i hi=>absurd hi (Nat.not_lt_zero i)) k (key2 k hk)
    by_cases hw:0<ways n b c most cs v
    · refine ⟨n,0,n,true,ss _ (fun hno=>?_) (fun _=>rfl),fun k hk=>?_,.inl ⟨rfl,rfl,rfl⟩⟩
      · obtain ⟨i,i1,i2⟩:=lev.2 hw
        rw [hno i i1] at i2;cases i2
      · obtain ⟨k,rfl⟩:=suc_of hk
        rw [si k (by omega),decide_eq_true hw,if_pos rfl]
    · refine ⟨r,e,y,q,ss _ (fun _ k hk=>?_) (fun hex=>absurd (lev.1 hex) hw),fun k hk=>?_,p3⟩
      · rw [w1];exact p1 k hk
      · obtain ⟨k,rfl⟩:=suc_of hk
        rw [si k (by omega),decide_eq_false hw,if_neg Bool.false_ne_true]
        exact p2 k (by omega)
theorem least_both (a b c v most:Int) (cs:List Int) (hl:cs.length≤1048576):∃ r e,(∀ k,2000000≤k→spec_LeastTank.f k a b c v cs most=some (r,e))∧∀ k,2000000≤k→impl_LeastTank.f k a b c v cs most=some (r,e):=by
  have h2:∀ k,2000000≤k→spec_l14Hours.f k cs=some (cs.all hour&&decide ((cs.length:Int)≤24)):=fun k hk=>spec_hours cs (by omega) k (by omega)
  have e2:∀ m:Int,decide (0≤m∧m≤1000)=hour m:=fun _=>rfl
  have bad:∀ k,spec_LeastTank.j0 (k+1) v cs most true a b c=some (0,2):=fun k=>by simp only [spec_LeastTank.j0];rw [if_pos trivial]
  cases ht:tankOk a b c
  · refine ⟨0,1,fun k hk=>?_,fun k hk=>?_⟩
    · unfold spec_LeastTank.f
      rw [spec_tank,ht];rfl
    · unfold impl_LeastTank.f
      rw [impl_tank,ht];rfl
  · have h100:=tank_at ht (show (1:Int)≤100 by omega) (show (100:Int)≤100 by omega)
    cases hb:(decide (0≤v∧v≤100)&&((cs.all hour&&decide ((cs.length:Int)≤24))&&hour most))
    · refine ⟨0,2,fun k hk=>?_,fun k hk=>?_⟩
      · obtain ⟨k,rfl⟩:=suc_of (show 0<k by omega)
        unfold spec_LeastTank.f spec_l14Most.f
        rw [spec_tank,ht,spec_in,h2 _ hk,spec_in,e2,bad]
        simp only [Option.bind_some,if_true]
        revert hb
        cases decide (0≤v∧v≤100)
        · intro _;rfl
        · cases (cs.all hour&&decide ((cs.length:Int)≤24))
          · intro _;rfl
          · cases hour most
            · intro _;exact bad k
            · intro h;cases h
      · unfold impl_LeastTank.f
        rw [impl_tank,ht,impl_ok,h100,hb];rfl
    · have hb':=hb
      simp only [Bool.and_eq_true,decide_eq_true_eq] at hb'
      obtain ⟨hv,⟨hh,h24⟩,hm⟩:=hb'
      obtain ⟨n,hn⟩:∃ n:Int,n=if 1 > v then 1 else v:=⟨_,rfl⟩
      have n1:1≤n∧v≤n∧n≤100:=by rw [hn];split<;>omega
      have em:mx v 1=n:=by rw [hn];unfold mx;split<;>first|rfl|omega|(split<;>omega)
      have es:spec_l00Max.f 1 v=some n:=by rw [hn];unfold spec_l00Max.f;split<;>rfl
      obtain ⟨r,e,y,q,p1,p2,p3⟩:=both_l0 ht 100 cs (by omega) most hh v hv.1 (101 - n).toNat n (by omega) n1.1 (.inl n1.2.1)
      refine ⟨r,e,fun k hk=>?_,fun k hk=>?_⟩
      · obtain ⟨k,rfl⟩:=suc_of (show 0<k by omega)
        unfold spec_LeastTank.f spec_l14Most.f
        rw [spec_tank,ht,spec_in,h2 _ hk,spec_in,e2,decide_eq_true hv,hh,decide_eq_true h24,hm]
        simp only [Option.bind_some,if_true,Bool.and_self,Bool.not_true,spec_LeastTank.j0]
        rw [if_neg Bool.false_ne_true,es,Option.bind_some]
        exact p1 k (by omega)
      · unfold impl_LeastTank.f impl_least_c55.f impl_orNotFound.f
        rw [impl_tank,ht,impl_ok,h100,hb,em]
        simp only [Option.bind_some,if_true,Bool.and_self]
        rw [p2 k (by omega),Option.bind_some]
        rcases p3 with ⟨rfl,rfl,rfl⟩|⟨rfl,rfl,rfl⟩<;>rfl
theorem FnExactLeastTank:laws_FnExactLeastTank.Pure:=by
  intro x v l most _ _ _ _
  obtain ⟨a,b,c⟩:=x
  by_cases hl:l.length≤1048576
  · obtain ⟨k,hk⟩:∃ k,k=3000000:=⟨_,rfl⟩
    refine ⟨k+3,?_⟩
    obtain ⟨r,e,s,i⟩:=least_both a b c v most l hl
    have ee:(e !=e)=false:=by simp
    unfold laws_FnExactLeastTank.f laws_toTank.f
    rw [if_neg (by omega)]
    simp only [toI l (by omega) (k+3) (by omega),s (k+3) (by omega),i (k+3) (by omega),Option.bind_some,if_true,ee]
    simp only [laws_FnExactLeastTank.j0]
    rw [if_neg Bool.false_ne_true]
    simp only [toI l (by omega) (k+2) (by omega),eqI l (by omega) (k+2) (by omega),Option.bind_some,if_true]
  · refine ⟨0,?_⟩
    unfold laws_FnExactLeastTank.f
    rw [if_pos (by omega)]

end Go.Proofs.Ytemoomgnffkgbaa.Pure
