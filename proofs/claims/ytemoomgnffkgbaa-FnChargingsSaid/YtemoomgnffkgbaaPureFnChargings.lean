/- The cheapest charging is one and costs what is told, there is one exactly if some are counted, and its last level is one of those that are told. No condition. -/
import Derived.Test.YtemoomgnffkgbaaPFnChargingsx12
namespace Go.Proofs.Ytemoomgnffkgbaa.Pure
open Go.RowKit Go.Proofs.Ytemoomgnffkgbaa.PFnChargings Go.Proofs.YtemoomgnffkgbaaW.PrintWords Go.Proofs.YtemoomgnffkgbaaW.PrintLast Go.Proofs.YtemoomgnffkgbaaW.PrintMore
set_option linter.unusedVariables false
set_option linter.unusedSimpArgs false

theorem impl_in (n lo hi:Int):impl_within.f n lo hi=some (decide (lo≤n∧n≤hi)):=by unfold impl_within.f;split<;>simp<;>omega

theorem spec_in (n lo hi:Int):spec_l00In.f n lo hi=some (decide (lo≤n∧n≤hi)):=by unfold spec_l00In.f;split<;>simp<;>omega

theorem wrap_id {x:Int} (h1:-9223372036854775808≤x) (h2:x≤9223372036854775807):wrap64 x=x:=by unfold wrap64;omega
theorem wf_i64 {x:Int} (h:(Lit.int .i64 x).wf=true):-9223372036854775808≤x∧x≤9223372036854775807:=by
  simp [Lit.wf,IntKind.min,IntKind.max,IntKind.bits,IntKind.signed] at h;omega
theorem mul_bounds {a b A B:Int} (h0:0≤a) (hA:a≤A) (h1:-B≤b) (h2:b≤B) (hB:0≤B):-(A * B)≤a * b∧a * b≤A * B:=by
  have e1:=Int.mul_le_mul_of_nonneg_left h2 h0
  have e2:=Int.mul_le_mul_of_nonneg_right hA hB
  have e3:=Int.mul_le_mul_of_nonneg_left h1 h0
  have e4:a * -B= -(a * B):=Int.mul_neg a B
  omega
theorem mul_nonneg' {a b:Int} (h0:0≤a) (h1:0≤b):0≤a * b:=Int.mul_nonneg h0 h1
theorem next_nat {j n:Nat} (h:j<n) (hn:n≤4611686018427387904):wrap64 ((j:Int)+1)=((j+1:Nat):Int):=by
  rw [wrap_id (by omega) (by omega)];omega
theorem rd_nat (l:List Int) (j:Nat):rd l (j:Int)=l.getD j 0:=by unfold rd;simp
theorem ifp {α:Type} {c:Prop} [Decidable c] {a b:α} (h:c):(if c then a else b)=a:=if_pos h
theorem ifn {α:Type} {c:Prop} [Decidable c] {a b:α} (h:¬ c):(if c then a else b)=b:=if_neg h
theorem suc_of {k d:Nat} (h:d<k):∃ m,k=m+1:=⟨k - 1,by omega⟩
theorem getD_lt {α:Type} {l:List α} {j:Nat} {d:α} (h:j<l.length):l.getD j d=l[j]:=by
  rw [List.getD_eq_getElem?_getD,List.getElem?_eq_getElem h];rfl
theorem drop_cons {α:Type} (l:List α) {j:Nat} (h:j<l.length) (d:α):l.drop j=l.getD j d :: l.drop (j+1):=by
  rw [getD_lt h];exact List.drop_eq_getElem_cons h
theorem up {α:Type} {g:Nat→Option α} (hm:∀ k,LeO (g k) (g (k+1))) {k0:Nat} {r:α} (h:g k0=some r):∀ k,k0≤k→g k=some r:=by
  intro k hk
  induction hk with
  |refl=>exact h
  |step _ ih=>exact hm _ _ ih

def rdiv (a b:Int):Int:=if a<0 then -((b - 2 * a) / (2 * b)) else (2 * a+b) / (2 * b)
theorem rdiv_pos_eq {q r b:Int} (hb:0<b) (h0:0≤r) (h1:r<b):(2 * (b * q+r)+b) / (2 * b)=if r≥b - r then q+1 else q:=by
  have e:2 * (b * q+r)+b=(2 * r+b)+(2 * b) * q:=by rw [Int.mul_add,← Int.mul_assoc];omega
  rw [e,Int.add_mul_ediv_left _ _ (by omega:(2 * b:Int)≠0)]
  split
  · have:(2 * r+b) / (2 * b)=1:=by
      have e2:2 * r+b=(2 * r - b)+(2 * b) * 1:=by omega
      rw [e2,Int.add_mul_ediv_left _ _ (by omega:(2 * b:Int)≠0),Int.ediv_eq_zero_of_lt (by omega) (by omega)];rfl
    omega
  · have:(2 * r+b) / (2 * b)=0:=Int.ediv_eq_zero_of_lt (by omega) (by omega)
    omega
theorem abs_def {a:Int} (h:-9223372036854775807≤a) (h2:a≤9223372036854775807):impl_abs.f a=some (if a<0 then -a else a):=by
  unfold impl_abs.f mx
  rw [wrap_id (by omega) (by omega)]
  split<;>split<;>first|rfl|(simp;omega)
theorem impl_div {a b:Int} (hb:0<b) (hb2:b≤2305843009213693951) (ha:-2305843009213693951≤a) (ha2:a≤2305843009213693951):impl_divRound.f a b=some (rdiv a b):=by
  unfold impl_divRound.f
  rw [if_neg (by omega)]
  by_cases h:a<0
  · have hq0:a.tdiv b= -((-a) / b):=by rw [← Int.tdiv_eq_ediv_of_nonneg (by omega),Int.neg_tdiv,Int.neg_neg]
    have hr0:a.tmod b= -((-a) % b):=by rw [← Int.tmod_eq_emod_of_nonneg (by omega),Int.neg_tmod,Int.neg_neg]
    have hr1:=Int.emod_nonneg (-a) (show b≠0 by omega)
    have hr2:=Int.emod_lt_of_pos (-a) hb
    have hd:=Int.mul_ediv_add_emod (-a) b
    have hq1:0≤(-a) / b:=Int.ediv_nonneg (by omega) (by omega)
    have hq2:(-a) / b≤-a:=Int.ediv_le_self _ (by omega)
    rw [hq0,hr0]
    generalize (-a) / b=q at *
    generalize (-a) % b=r at *
    rw [abs_def (by omega) (by omega),abs_def (by omega) (by omega)]
    simp only [Option.bind_some]
    have e1:(if -r<0 then - -r else -r)=r:=by split<;>omega
    have e2:(if b<0 then -b else b)=b:=by rw [if_neg (by omega)]
    rw [e1,e2,wrap_id (x:=b - r) (by omega) (by omega)]
    have hk:rdiv a b= -(if r≥b - r then q+1 else q):=by
      unfold rdiv
      rw [if_pos h,← rdiv_pos_eq (q:=q) hb hr1 hr2,hd]
      congr 2;omega
    rw [hk]
    have w1:wrap64 (-q)= -q:=wrap_id (by omega) (by omega)
    rw [w1]
    by_cases hc:r≥b - r
    · rw [if_pos hc,if_pos hc,if_neg (by simp;omega),wrap_id (by omega) (by omega)]
      congr 1;omega
    · rw [if_neg hc,if_neg hc]
  · have hq0:a.tdiv b=a / b:=Int.tdiv_eq_ediv_of_nonneg (by omega)
    have hr0:a.tmod b=a % b:=Int.tmod_eq_emod_of_nonneg (by omega)
    have hr1:=Int.emod_nonneg a (show b≠0 by omega)
    have hr2:=Int.emod_lt_of_pos a hb
    have hd:=Int.mul_ediv_add_emod a b
    have hq1:0≤a / b:=Int.ediv_nonneg (by omega) (by omega)
    have hq2:a / b≤a:=Int.ediv_le_self _ (by omega)
    rw [hq0,hr0]
    generalize a / b=q at *
    generalize a % b=r at *
    rw [abs_def (by omega) (by omega),abs_def (by omega) (by omega)]
    simp only [Option.bind_some]
    have e1:(if r<0 then - r else r)=r:=by rw [if_neg (by omega)]
    have e2:(if b<0 then -b else b)=b:=by rw [if_neg (by omega)]
    rw [e1,e2,wrap_id (x:=b - r) (by omega) (by omega)]
    have hk:rdiv a b=(if r≥b - r then q+1 else q):=by
      unfold rdiv
      rw [if_neg h,← rdiv_pos_eq (q:=q) hb hr1 hr2,hd]
    rw [hk]
    have w1:wrap64 q=q:=wrap_id (by omega) (by omega)
    rw [w1]
    by_cases hc:r≥b - r
    · rw [if_pos hc,if_pos hc,if_pos (by simp;omega),wrap_id (by omega) (by omega)]
    · rw [if_neg hc,if_neg hc]
theorem rdiv_nonneg {a b:Int} (ha:0≤a) (hb:0<b):0≤rdiv a b:=by
  unfold rdiv;rw [if_neg (by omega)];exact Int.ediv_nonneg (by omega) (by omega)
theorem rdiv_le {a b:Int} (ha:0≤a) (hb:0<b):rdiv a b≤2 * a+b:=by
  unfold rdiv;rw [if_neg (by omega)];exact Int.ediv_le_self _ (by omega)

theorem spec_div {a b:Int} (hb:0<b) (hb2:b≤2305843009213693951) (ha:-2305843009213693951≤a) (ha2:a≤2305843009213693951):spec_l01Div.f a b=some (rdiv a b):=by
  unfold spec_l01Div.f rdiv
  have w2:wrap64 (2 * b)=2 * b:=wrap_id (by omega) (by omega)
  have h2b:(0:Int)<2 * b:=by omega
  rw [if_neg (by omega),w2]
  by_cases h:a<0
  · rw [if_pos h,if_pos h,if_neg (by omega)]
    have e1:wrap64 (2 * a)=2 * a:=wrap_id (by omega) (by omega)
    have e2:wrap64 (b - 2 * a)=b - 2 * a:=wrap_id (by omega) (by omega)
    rw [e1,e2,Int.tdiv_eq_ediv_of_nonneg (by omega)]
    have b1:0≤(b - 2 * a) / (2 * b):=Int.ediv_nonneg (by omega) (by omega)
    have b2:(b - 2 * a) / (2 * b)≤b - 2 * a:=Int.ediv_le_self _ (by omega)
    have e3:wrap64 ((b - 2 * a) / (2 * b))=(b - 2 * a) / (2 * b):=wrap_id (by omega) (by omega)
    have e4:wrap64 (-((b - 2 * a) / (2 * b)))= -((b - 2 * a) / (2 * b)):=wrap_id (by omega) (by omega)
    rw [e3,e4]
  · rw [if_neg h,if_neg h,if_neg (by omega)]
    have e1:wrap64 (2 * a)=2 * a:=wrap_id (by omega) (by omega)
    have e2:wrap64 (2 * a+b)=2 * a+b:=wrap_id (by omega) (by omega)
    rw [e1,e2,Int.tdiv_eq_ediv_of_nonneg (by omega)]
    have b1:0≤(2 * a+b) / (2 * b):=Int.ediv_nonneg (by omega) (by omega)
    have b2:(2 * a+b) / (2 * b)≤2 * a+b:=Int.ediv_le_self _ (by omega)
    rw [wrap_id (by omega) (by omega)]

def tankOk (a b c:Int):Bool:=decide (1≤a∧a≤100)&&(decide (1≤b∧b≤20)&&decide (0≤c∧c≤1000))
theorem tankOk_iff {a b c:Int}:tankOk a b c=true↔(1≤a∧a≤100)∧(1≤b∧b≤20)∧(0≤c∧c≤1000):=by unfold tankOk;simp [and_assoc]
theorem spec_tank (a b c:Int):spec_l14Ok.f [(⟨a,b,c⟩:S25)]=some (tankOk a b c):=by
  unfold spec_l14Ok.f tankOk
  rw [if_pos (by simp)]
  have e:rd_T25 [(⟨a,b,c⟩:S25)] 0=⟨a,b,c⟩:=rfl
  simp only [e,spec_in,Option.bind_some]
  cases decide (1≤a∧a≤100)<;>cases decide (1≤b∧b≤20)<;>rfl
theorem impl_tank (a b c:Int):impl_ValidTank.f a b c=some (tankOk a b c):=by
  unfold impl_ValidTank.f tankOk
  simp only [impl_in,Option.bind_some]
  cases decide (1≤a∧a≤100)<;>cases decide (1≤b∧b≤20)<;>rfl
def change (x:Int):Bool:=decide (-20≤x∧x≤20)
def hour (x:Int):Bool:=decide (0≤x∧x≤1000)
def aft (a b c v ch:Int):Option Int:=if (-b≤ch∧ch≤b)∧(0≤v - rdiv (v * c) 1000+ch∧v - rdiv (v * c) 1000+ch≤a) then some (v - rdiv (v * c) 1000+ch) else none
theorem aft_le {a b c v ch x:Int} (h:aft a b c v ch=some x):0≤x∧x≤a:=by
  unfold aft at h
  split at h
  · cases h;omega
  · cases h
theorem loss_b {c v:Int} (hc0:0≤c) (hc:c≤1000) (hv0:0≤v) (hv:v≤100):(0≤v * c∧v * c≤100000)∧0≤rdiv (v * c) 1000∧rdiv (v * c) 1000≤201000:=by
  have m:=mul_bounds (a:=v) (b:=c) (A:=100) (B:=1000) hv0 hv (by omega) hc (by omega)
  have m0:=mul_nonneg' hv0 hc0
  have r0:=rdiv_nonneg (b:=1000) m0 (by omega)
  have r1:=rdiv_le (b:=1000) m0 (by omega)
  omega
theorem spec_after {a b c v ch:Int} (ht:tankOk a b c=true) (hv0:0≤v) (hv:v≤a) (hc0:-1000≤ch) (hc1:ch≤1000):spec_l14After.f [(⟨a,b,c⟩:S25)] v ch=some (match aft a b c v ch with|some x=>(x,true)|none=>(0,false)):=by
  have t:=tankOk_iff.1 ht
  have l:=loss_b (c:=c) (v:=v) (by omega) (by omega) hv0 (by omega)
  unfold spec_l14After.f aft
  rw [if_pos (by simp)]
  have e:rd_T25 [(⟨a,b,c⟩:S25)] 0=⟨a,b,c⟩:=rfl
  simp only [e]
  rw [wrap_id (x:=v * c) (by omega) (by omega),spec_div (by omega) (by omega) (by omega) (by omega)]
  simp only [Option.bind_some,spec_in]
  generalize rdiv (v * c) 1000=z at *
  rw [wrap_id (x:= -b) (by omega) (by omega),wrap_id (x:=v - z) (by omega) (by omega),wrap_id (x:=v - z+ch) (by omega) (by omega)]
  by_cases h1:-b≤ch∧ch≤b
  · by_cases h2:0≤v - z+ch∧v - z+ch≤a
    · simp [h1,h2]
    · simp [h1,h2]
  · simp [h1]
theorem impl_after {a b c v ch:Int} (ht:tankOk a b c=true) (hv0:0≤v) (hv:v≤a) (hc0:-1000≤ch) (hc1:ch≤1000):∃ y,impl_Tank_after.f a b c v ch=some (match aft a b c v ch with|some x=>(x,true)|none=>(y,false)):=by
  have t:=tankOk_iff.1 ht
  have l:=loss_b (c:=c) (v:=v) (by omega) (by omega) hv0 (by omega)
  refine ⟨v - rdiv (v * c) 1000+ch,?_⟩
  unfold impl_Tank_after.f aft
  rw [wrap_id (x:=v * c) (by omega) (by omega),impl_div (by omega) (by omega) (by omega) (by omega),abs_def (by omega) (by omega)]
  simp only [Option.bind_some,impl_in]
  generalize rdiv (v * c) 1000=z at *
  rw [wrap_id (x:=v - z) (by omega) (by omega),wrap_id (x:=v - z+ch) (by omega) (by omega)]
  by_cases h1:-b≤ch∧ch≤b
  · rw [if_pos (by split<;>omega)]
    by_cases h2:0≤v - z+ch∧v - z+ch≤a
    · simp [h1,h2]
    · simp [h1,h2]
  · rw [if_neg (by split<;>omega)];simp [h1]
def lev (a b c:Int):Int→List Int→Option (List Int)
  |_,[]=>some []
  |v,ch :: t=>match aft a b c v ch with|some x=>(lev a b c x t).map (x :: ·)|none=>none
theorem lev_len {a b c:Int}:∀ (l:List Int) (v:Int) (r:List Int),lev a b c v l=some r→r.length=l.length:=by
  intro l
  induction l with
  |nil=>intro v r h;cases h;rfl
  |cons x t ih=>
    intro v r h
    unfold lev at h
    split at h
    · rename_i y _
      cases h2:lev a b c y t with
      |none=>rw [h2] at h;cases h
      |some s=>rw [h2] at h;cases h;simp [ih _ _ h2]
    · cases h
theorem change_le {x:Int} (h:change x=true):-20≤x∧x≤20:=of_decide_eq_true h
theorem all_getD {l:List Int} {p:Int→Bool} (h:l.all p=true) {j:Nat} (hj:j<l.length):p (l.getD j 0)=true:=by
  rw [getD_lt hj];exact List.all_eq_true.1 h _ (List.getElem_mem hj)

theorem hours_l0 (l:List Int) (hl:l.length≤35184372088832):∀ (d j k:Nat),j+d=l.length→d<k→spec_l14Hours.l0 k l (j:Int)=some ((l.drop j).all hour&&decide ((l.length:Int)≤24)):=by
  intro d
  induction d with
  |zero=>
    intro j k hj hk
    obtain ⟨k,rfl⟩:=suc_of hk
    simp only [spec_l14Hours.l0]
    rw [if_neg (by omega),List.drop_eq_nil_of_le (by omega)];rfl
  |succ d ih=>
    intro j k hj hk
    obtain ⟨k,rfl⟩:=suc_of hk
    simp only [spec_l14Hours.l0]
    rw [if_pos (by omega),if_pos (by omega),spec_in,rd_nat,drop_cons l (by omega:j<l.length) 0,List.all_cons,next_nat (n:=l.length) (by omega) (by omega)]
    simp only [Option.bind_some]
    have e:decide (0≤l.getD j 0∧l.getD j 0≤1000)=hour (l.getD j 0):=rfl
    rw [e]
    cases hour (l.getD j 0)
    · rfl
    · rw [if_pos rfl,Bool.true_and,ih (j+1) k (by omega) (by omega)]
theorem spec_hours (l:List Int) (hl:l.length≤35184372088832) (k:Nat) (hk:l.length<k):spec_l14Hours.f k l=some (l.all hour&&decide ((l.length:Int)≤24)):=
  hours_l0 l hl l.length 0 k (by omega) hk
theorem impl_ok (a b c v m:Int) (ls es:List Int):impl_charging_ok.f a b c ls es m v=some (tankOk a b c&&(decide (0≤v∧v≤a)&&((ls.all hour&&decide ((ls.length:Int)≤24))&&hour m))):=by
  unfold impl_charging_ok.f impl_allWithin.f
  rw [impl_tank]
  have e:(ls.all fun x=>decide (0≤x∧x≤1000))=ls.all hour:=rfl
  have e2:decide (0≤m∧m≤1000)=hour m:=rfl
  simp only [impl_in,e,e2,Option.bind_some]
  cases tankOk a b c
  · rfl
  · cases decide (0≤v∧v≤a)
    · rfl
    · by_cases h:(ls.length:Int)≤24
      · rw [if_pos h,decide_eq_true h];cases ls.all hour<;>rfl
      · rw [if_neg h,decide_eq_false h];simp
theorem hour_le {x:Int} (h:hour x=true):0≤x∧x≤1000:=of_decide_eq_true h

theorem rl_nat (l:List (List Int)) (j:Nat):rd_L3 l (j:Int)=l.getD j []:=by unfold rd_L3;simp
def stp (a b c L most v ch:Int):Option Int:=match aft a b c v ch with
  |some x=>if 0≤L+ch∧L+ch≤most then some x else none
  |none=>none
theorem stp_le {a b c L most v ch x:Int} (h:stp a b c L most v ch=some x):0≤x∧x≤a:=by
  unfold stp at h
  split at h
  · rename_i y e
    split at h
    · cases h;exact aft_le e
    · cases h
  · cases h
theorem set_get {l:List Int} {j:Nat} {x:Int} (h:l.getD j 0=x) (hj:j<l.length):l.set j x=l:=by
  rw [← h,getD_lt hj,List.set_getElem_self]
theorem getD_set {X:List (List Int)} {i j:Nat} {R:List Int} (hi:i<X.length):(X.set i R).getD j []=if i=j then R else X.getD j []:=by
  by_cases e:i=j
  · subst e;rw [if_pos rfl,getD_lt (by rw [List.length_set];exact hi),List.getElem_set_self]
  · rw [if_neg e,List.getD_eq_getElem?_getD,List.getD_eq_getElem?_getD,List.getElem?_set_ne e]
theorem getD_setI {R:List Int} {i j:Nat} {x:Int} (hi:i<R.length):(R.set i x).getD j 0=if i=j then x else R.getD j 0:=by
  by_cases e:i=j
  · subst e;rw [if_pos rfl,getD_lt (by rw [List.length_set];exact hi),List.getElem_set_self]
  · rw [if_neg e,List.getD_eq_getElem?_getD,List.getD_eq_getElem?_getD,List.getElem?_set_ne e]
theorem cafter {a b c:Int} (ht:tankOk a b c=true) (cs es:List Int) (most:Int) (hh:cs.all hour=true) {h:Nat} (hc:h<cs.length) {v ch:Int} (hv0:0≤v) (hv1:v≤a) (h0:-1000≤ch) (h1:ch≤1000):∃ y,impl_charging_after.f a b c cs es most (h:Int) v ch=some (match stp a b c (cs.getD h 0) most v ch with|some x=>(x,true)|none=>(y,false)):=by
  have hb:=hour_le (all_getD hh hc)
  obtain ⟨y,hy⟩:=impl_after (ch:=ch) ht hv0 hv1 h0 h1
  unfold impl_charging_after.f stp
  rw [hy]
  cases ha:aft a b c v ch with
  |none=>exact ⟨y,rfl⟩
  |some x=>
    simp only [Option.bind_some,if_true]
    rw [if_pos (by omega),if_pos (by omega),rd_nat,wrap_id (x:=cs.getD h 0+ch) (by omega) (by omega),impl_in]
    simp only [Option.bind_some]
    by_cases hf:0≤cs.getD h 0+ch∧cs.getD h 0+ch≤most
    · exact ⟨0,by rw [if_pos hf,decide_eq_true hf]⟩
    · exact ⟨x,by rw [if_neg hf,decide_eq_false hf]⟩

def upb (a b c L E most v:Int) (Q:List Int) (ch acc:Int):Int:=match stp a b c L most v ch with
  |some x=>if rd Q x<0 then acc else if acc<0 then wrap64 (rd Q x+wrap64 (wrap64 (L+ch) * E)) else if wrap64 (rd Q x+wrap64 (wrap64 (L+ch) * E))<acc then wrap64 (rd Q x+wrap64 (wrap64 (L+ch) * E)) else acc
  |none=>acc
def bst (a b c L E most v:Int) (Q:List Int):Nat→Int→Int→Int
  |0,_,acc=>acc
  |n+1,ch,acc=>bst a b c L E most v Q n (ch+1) (upb a b c L E most v Q ch acc)
def rowOf (a b c most:Int):List Int→List Int→List Int
  |L :: t,E :: u=>(List.range (a+1).toNat).map fun (j:Nat)=>bst a b c L E most (j:Int) (rowOf a b c most t u) (2 * b+1).toNat (-b) (-1)
  |_,_=>List.replicate (a+1).toNat 0
theorem rowOf_len (a b c most:Int) (l m:List Int):(rowOf a b c most l m).length=(a+1).toNat:=by
  unfold rowOf;split<;>simp
theorem rowOf_cons (a b c most L E:Int) (t u:List Int):rowOf a b c most (L :: t) (E :: u)=(List.range (a+1).toNat).map fun (j:Nat)=>bst a b c L E most (j:Int) (rowOf a b c most t u) (2 * b+1).toNat (-b) (-1):=rfl
theorem rowOf_drop (a b c most:Int) (cs es:List Int) (he:es.length=cs.length) (h:Nat) (hc:h<cs.length):rowOf a b c most (cs.drop h) (es.drop h)=(List.range (a+1).toNat).map fun (j:Nat)=>bst a b c (cs.getD h 0) (es.getD h 0) most (j:Int) (rowOf a b c most (cs.drop (h+1)) (es.drop (h+1))) (2 * b+1).toNat (-b) (-1):=by
  rw [drop_cons cs hc 0,drop_cons es (by omega:h<es.length) 0,rowOf_cons]
def TabOk (a b c most:Int) (cs es:List Int) (T:List (List Int)):Prop:=T.length=cs.length+1∧∀ j,j≤cs.length→T.getD j []=rowOf a b c most (cs.drop j) (es.drop j)
theorem cst_b2 {a b c:Int} (ht:tankOk a b c=true) (cs es:List Int) (he:es.length=cs.length) (most:Int) (hh:cs.all hour=true) (Q:List Int) (hQ:Q.length=(a+1).toNat) (h:Nat) (hc:h<cs.length) (hc24:cs.length≤24) (v:Nat) (hv1:(v:Int)≤a) (N:Int) (R:List Int) (hR:R.length=(a+1).toNat) (k:Nat) (Good:List (List Int)→Prop):
    ∀ (n:Nat) (ch:Int) (X:List (List Int)) (acc:Int),X.length=cs.length+1→X.getD (h+1) []=Q→X.getD h []=R.set v acc→-b≤ch→ch+(n:Int)=b+1→
    (∀ X',X'.length=cs.length+1→(∀ j,j≠h→X'.getD j []=X.getD j [])→X'.getD h []=R.set v (bst a b c (cs.getD h 0) (es.getD h 0) most (v:Int) Q n ch acc)→∃ r,impl_charging_costs.l1 k X' (h:Int) N (wrap64 ((v:Int)+1)) a b c cs es most=some r∧Good r)→
    ∃ r,impl_charging_costs.l2 (k+2 * n+1) X (h:Int) (v:Int) ch N (v:Int) a b c cs es most=some r∧Good r:=by
  have t:=tankOk_iff.1 ht
  intro n
  induction n with
  |zero=>
    intro ch X acc hX hX1 hX0 h0 h1 hyp
    rw [show k+2 * 0+1=k+1 by omega]
    simp only [impl_charging_costs.l2]
    rw [if_neg (by omega)]
    exact hyp X hX (fun _ _=>rfl) hX0
  |succ n ih=>
    intro ch X acc hX hX1 hX0 h0 h1 hyp
    obtain ⟨K,hK⟩:∃ K,K=k+2 * n+1:=⟨_,rfl⟩
    rw [show k+2 * (n+1)+1=K+1+1 by omega]
    simp only [← hK] at ih
    unfold bst at hyp
    obtain ⟨y,hy⟩:=cafter (ch:=ch) ht cs es most hh hc (show (0:Int)≤(v:Int) by omega) hv1 (by omega) (by omega)
    have same:=fun z (hz:upb a b c (cs.getD h 0) (es.getD h 0) most (v:Int) Q ch acc=z)=>hz ▸ hyp
    have keep:upb a b c (cs.getD h 0) (es.getD h 0) most (v:Int) Q ch acc=acc→∃ r,impl_charging_costs.l2 K X (h:Int) (v:Int) (ch+1) N (v:Int) a b c cs es most=some r∧Good r:=fun hz=>ih (ch+1) X acc hX hX1 hX0 (by omega) (by omega) (same acc hz)
    have put:∀ z,upb a b c (cs.getD h 0) (es.getD h 0) most (v:Int) Q ch acc=z→∃ r,impl_charging_costs.l2 K (X.set h (R.set v z)) (h:Int) (v:Int) (ch+1) N (v:Int) a b c cs es most=some r∧Good r:=fun z hz=>ih (ch+1) (X.set h (R.set v z)) z (by rw [List.length_set];exact hX) (by rw [getD_set (by omega),if_neg (by omega)];exact hX1) (by rw [getD_set (by omega),if_pos rfl]) (by omega) (by omega) (fun X' a1 a2 a3=>same z hz X' a1 (fun j hj=>by rw [a2 j hj,getD_set (by omega),if_neg (fun e=>hj e.symm)]) a3)
    clear same hyp ih
    simp only [impl_charging_costs.l2,impl_charging_costs.j3]
    rw [if_pos (by omega),hy,wrap_id (x:=ch+1) (by omega) (by omega)]
    simp only [Option.bind_some]
    cases hs:stp a b c (cs.getD h 0) most (v:Int) ch with
    |none=>
      have hz:upb a b c (cs.getD h 0) (es.getD h 0) most (v:Int) Q ch acc=acc:=by unfold upb;rw [hs]
      exact keep hz
    |some x=>
      have hx:=stp_le hs
      have hz:upb a b c (cs.getD h 0) (es.getD h 0) most (v:Int) Q ch acc=if rd Q x<0 then acc else if acc<0 then wrap64 (rd Q x+wrap64 (wrap64 (cs.getD h 0+ch) * es.getD h 0)) else if wrap64 (rd Q x+wrap64 (wrap64 (cs.getD h 0+ch) * es.getD h 0))<acc then wrap64 (rd Q x+wrap64 (wrap64 (cs.getD h 0+ch) * es.getD h 0)) else acc:=by unfold upb;rw [hs]
      have hR0:(R.set v acc).length=(a+1).toNat:=by rw [List.length_set];exact hR
      have er:rd (R.set v acc) (v:Int)=acc:=by rw [rd_nat,getD_setI (by omega),if_pos rfl]
      simp only [if_true]
      unfold impl_charging_price.f
      rw [next_nat (n:=cs.length) (by omega) (by omega)]
      simp only [rl_nat,hX1,hX0,er,rd_nat,Int.toNat_natCast,List.set_set]
      rw [if_pos (by omega),if_pos (by omega),if_pos hx.1,if_pos (show x<(Q.length:Int) by omega)]
      by_cases c1:rd Q x<0
      · rw [if_pos c1] at hz
        rw [decide_eq_true c1,if_pos rfl]
        exact keep hz
      · rw [if_neg c1] at hz
        rw [decide_eq_false c1,if_neg Bool.false_ne_true,if_pos (show (0:Int)≤(h:Int) by omega),if_pos (show (h:Int)<(cs.length:Int) by omega),if_pos (show (h:Int)<(es.length:Int) by omega),Option.bind_some,if_pos (show (0:Int)≤((h+1:Nat):Int) by omega),if_pos (show ((h+1:Nat):Int)<(X.length:Int) by omega),if_pos hx.1,if_pos (show x<(Q.length:Int) by omega),if_pos (show (0:Int)≤(h:Int) by omega),if_pos (show (h:Int)<(X.length:Int) by omega),if_pos (show (0:Int)≤(v:Int) by omega),if_pos (show (v:Int)<((R.set v acc).length:Int) by omega),Int.add_comm (wrap64 (wrap64 (cs.getD h 0+ch) * es.getD h 0)) (rd Q x)]
        by_cases c2:acc<0
        · rw [if_pos c2] at hz ⊢;exact put _ hz
        · rw [if_neg c2] at hz ⊢
          by_cases c3:wrap64 (rd Q x+wrap64 (wrap64 (cs.getD h 0+ch) * es.getD h 0))<acc
          · rw [if_pos c3] at hz ⊢;exact put _ hz
          · rw [if_neg c3] at hz ⊢;exact keep hz
theorem cst_b1 {a b c:Int} (ht:tankOk a b c=true) (cs es:List Int) (he:es.length=cs.length) (most:Int) (hh:cs.all hour=true) (Q:List Int) (hQ:Q.length=(a+1).toNat) (h:Nat) (hc:h<cs.length) (hc24:cs.length≤24) (k:Nat) (Good:List (List Int)→Prop) (X0:List (List Int))
    (hyp:∀ X',X'.length=cs.length+1→(∀ j,j≠h→X'.getD j []=X0.getD j [])→X'.getD h []=((List.range (a+1).toNat).map fun (j:Nat)=>bst a b c (cs.getD h 0) (es.getD h 0) most (j:Int) Q (2 * b+1).toNat (-b) (-1))→∃ r,impl_charging_costs.l0 k X' (wrap64 ((h:Int) - 1)) a b c cs es most=some r∧Good r):
    ∀ (n v:Nat) (X:List (List Int)),X.length=cs.length+1→X.getD (h+1) []=Q→(∀ j,j≠h→X.getD j []=X0.getD j [])→(X.getD h []).length=(a+1).toNat→(∀ j,j<v→(X.getD h []).getD j 0=bst a b c (cs.getD h 0) (es.getD h 0) most (j:Int) Q (2 * b+1).toNat (-b) (-1))→v+n=(a+1).toNat→
    ∃ r,impl_charging_costs.l1 (k+100 * n+1) X (h:Int) (((a+1).toNat:Nat):Int) (v:Int) a b c cs es most=some r∧Good r:=by
  have t:=tankOk_iff.1 ht
  intro n
  induction n with
  |zero=>
    intro v X hX hX1 hXo hXl hA hv
    rw [show k+100 * 0+1=k+1 by omega]
    simp only [impl_charging_costs.l1]
    rw [if_neg (by omega)]
    refine hyp X hX hXo (List.ext_getElem (by rw [hXl];simp) (fun j j1 j2=>?_))
    have:=hA j (by omega)
    rw [getD_lt j1] at this
    rw [this,List.getElem_map,List.getElem_range]
  |succ n ih=>
    intro v X hX hX1 hXo hXl hA hv
    obtain ⟨Y,hY⟩:∃ Y,Y=k+100 * n+100:=⟨_,rfl⟩
    rw [show k+100 * (n+1)+1=Y+1 by omega]
    simp only [impl_charging_costs.l1,rl_nat,Int.toNat_natCast]
    rw [if_pos (by omega),if_pos (by omega),if_pos (by omega),if_pos (by omega),if_pos (by omega),wrap_id (x:= -b) (by omega) (by omega)]
    obtain ⟨r,r1,r2⟩:=cst_b2 ht cs es he most hh Q hQ h hc hc24 v (by omega) (((a+1).toNat:Nat):Int) (X.getD h []) hXl (k+100 * n+1) Good (2 * b+1).toNat (-b) (X.set h ((X.getD h []).set v (-1))) (-1) (by rw [List.length_set];exact hX) (by rw [getD_set (by omega),if_neg (by omega)];exact hX1) (by rw [getD_set (by omega),if_pos rfl]) (by omega) (by omega) (fun X' a1 a2 a3=>by
      rw [next_nat (n:=(a+1).toNat) (by omega) (by omega)]
      have o:∀ j,j≠h→X'.getD j []=X.getD j []:=fun j hj=>by rw [a2 j hj,getD_set (by omega),if_neg (fun e=>hj e.symm)]
      refine ih (v+1) X' a1 (by rw [o _ (by omega)];exact hX1) (fun j hj=>by rw [o j hj,hXo j hj]) (by rw [a3,List.length_set];exact hXl) (fun j hj=>?_) (by omega)
      rw [a3,getD_setI (by omega)]
      by_cases e:v=j
      · subst e;rw [if_pos rfl]
      · rw [if_neg e];exact hA j (by omega))
    exact ⟨r,up (g:=fun k=>impl_charging_costs.l2 k _ (h:Int) (v:Int) (-b) (((a+1).toNat:Nat):Int) (v:Int) a b c cs es most) (fun k=>(impl_charging_costs.mono_l k).2.2.1 _ _ _ _ _ _ _ _ _ _ _ _) r1 _ (by omega),r2⟩
theorem cst_tab {a b c:Int} (ht:tankOk a b c=true) (cs es:List Int) (he:es.length=cs.length) (hl:cs.length≤24) (most:Int) (hh:cs.all hour=true):∀ (h:Nat) (X:List (List Int)),h≤cs.length→X.length=cs.length+1→(∀ j,h≤j→j≤cs.length→X.getD j []=rowOf a b c most (cs.drop j) (es.drop j))→
    ∃ r,impl_charging_costs.l0 (11000 * h+1) X ((h:Int) - 1) a b c cs es most=some r∧TabOk a b c most cs es r:=by
  have t:=tankOk_iff.1 ht
  intro h
  induction h with
  |zero=>
    intro X hd hX hT
    simp only [impl_charging_costs.l0]
    rw [if_neg (by omega)]
    exact ⟨X,rfl,hX,fun j hj=>hT j (by omega) hj⟩
  |succ h ih=>
    intro X hd hX hT
    obtain ⟨Y,hY⟩:∃ Y,Y=11000 * h+11000:=⟨_,rfl⟩
    rw [show 11000 * (h+1)+1=Y+1 by omega,show ((h+1:Nat):Int) - 1=(h:Int) by omega]
    have eN:wrap64 (a+1)=a+1:=wrap_id (by omega) (by omega)
    simp only [impl_charging_costs.l0,Option.bind_some,eN,Int.toNat_natCast,rl_nat]
    clear eN
    rw [if_pos (by omega),if_pos (by omega),if_pos (by omega),if_pos (by omega),if_pos (by omega),getD_set (by omega),if_pos rfl,List.length_replicate]
    obtain ⟨r,r1,r2⟩:=cst_b1 ht cs es he most hh (rowOf a b c most (cs.drop (h+1)) (es.drop (h+1))) (rowOf_len _ _ _ _ _ _) h (by omega) hl (11000 * h+1) (TabOk a b c most cs es) X (fun X' a1 a2 a3=>by
      rw [wrap_id (x:=(h:Int) - 1) (by omega) (by omega)]
      refine ih X' (by omega) a1 (fun j j1 j2=>?_)
      by_cases e:j=h
      · subst e;exact a3.trans (rowOf_drop a b c most cs es he j (by omega)).symm
      · rw [a2 j e];exact hT j (by omega) j2) (a+1).toNat 0 (X.set h (List.replicate (a+1).toNat 0)) (by rw [List.length_set];exact hX) (by rw [getD_set (by omega),if_neg (by omega)];exact hT (h+1) (by omega) (by omega)) (fun j hj=>by rw [getD_set (by omega),if_neg (fun e=>hj e.symm)]) (by rw [getD_set (by omega),if_pos rfl,List.length_replicate]) (fun j hj=>absurd hj (by omega)) (by omega)
    exact ⟨r,up (g:=fun k=>impl_charging_costs.l1 k _ (h:Int) _ 0 a b c cs es most) (fun k=>(impl_charging_costs.mono_l k).2.1 _ _ _ _ _ _ _ _ _ _) r1 _ (by omega),r2⟩
theorem bne_castI (a b:Nat):((a:Int)!=(b:Int))=!(decide (a=b)):=by
  by_cases h:a=b
  · subst h;simp
  · rw [decide_eq_false h];simp;omega
theorem beq_dec (x y:Int):(x==y)=decide (x=y):=rfl

theorem changes_l0 (l:List Int) (hl:l.length≤35184372088832):∀ (d j k:Nat),j+d=l.length→d<k→spec_l14Changes.l0 k l (j:Int)=some ((l.drop j).all change&&decide ((l.length:Int)≤24)):=by
  intro d
  induction d with
  |zero=>
    intro j k hj hk
    obtain ⟨k,rfl⟩:=suc_of hk
    simp only [spec_l14Changes.l0]
    rw [if_neg (by omega),List.drop_eq_nil_of_le (by omega)];rfl
  |succ d ih=>
    intro j k hj hk
    obtain ⟨k,rfl⟩:=suc_of hk
    simp only [spec_l14Changes.l0]
    unfold spec_l14Change.f
    rw [if_pos (by omega),if_pos (by omega),spec_in,rd_nat,drop_cons l (by omega:j<l.length) 0,List.all_cons,next_nat (n:=l.length) (by omega) (by omega)]
    simp only [Option.bind_some]
    have e:decide (-20≤l.getD j 0∧l.getD j 0≤20)=change (l.getD j 0):=rfl
    rw [e]
    cases change (l.getD j 0)
    · rfl
    · rw [if_pos rfl,Bool.true_and,ih (j+1) k (by omega) (by omega)]
theorem spec_changes (l:List Int) (hl:l.length≤35184372088832) (k:Nat) (hk:l.length<k):spec_l14Changes.f k l=some (l.all change&&decide ((l.length:Int)≤24)):=
  changes_l0 l hl l.length 0 k (by omega) hk
theorem impl_changes (l:List Int):impl_changesOk.f l=some (l.all change&&decide ((l.length:Int)≤24)):=by
  unfold impl_changesOk.f impl_allWithin.f
  have e:(l.all fun x=>decide (-20≤x∧x≤20))=l.all change:=rfl
  rw [e]
  by_cases h:(l.length:Int)≤24
  · rw [if_pos h,decide_eq_true h];simp
  · rw [if_neg h,decide_eq_false h];simp
theorem levels_l0 {a b c:Int} (ht:tankOk a b c=true) (l:List Int) (hl:l.length≤24) (hc:l.all change=true):∀ (d j k:Nat) (acc:List Int) (v:Int),j+d=l.length→d<k→0≤v→v≤a→acc.length=j→
    spec_l14Levels.l0 k [(⟨a,b,c⟩:S25)] l acc v (j:Int)=some (match lev a b c v (l.drop j) with|some r=>(acc++r,true)|none=>([],false)):=by
  intro d
  induction d with
  |zero=>
    intro j k acc v hj hk h0 h1 ha
    obtain ⟨k,rfl⟩:=suc_of hk
    simp only [spec_l14Levels.l0]
    rw [if_neg (by omega),List.drop_eq_nil_of_le (by omega)]
    simp [lev]
  |succ d ih=>
    intro j k acc v hj hk h0 h1 ha
    obtain ⟨k,rfl⟩:=suc_of hk
    have cb:=change_le (all_getD hc (show j<l.length by omega))
    simp only [spec_l14Levels.l0]
    rw [if_pos (by omega),if_pos (by omega),rd_nat,spec_after ht h0 h1 (by omega) (by omega),drop_cons l (by omega:j<l.length) 0,next_nat (n:=l.length) (by omega) (by omega)]
    simp only [Option.bind_some,lev]
    cases h:aft a b c v (l.getD j 0) with
    |none=>rfl
    |some x=>
      simp only [if_true]
      have hx:=aft_le h
      rw [if_pos (by omega),ih (j+1) k _ x (by omega) (by omega) hx.1 hx.2 (by simp;omega)]
      cases lev a b c x (l.drop (j+1))<;>simp
theorem spec_levels {a b c v:Int} (ht:tankOk a b c=true) (l:List Int) (hl:l.length≤24) (hc:l.all change=true) (h0:0≤v) (h1:v≤a) (k:Nat) (hk:24<k):
    spec_l14Levels.f k [(⟨a,b,c⟩:S25)] v l=some (match lev a b c v l with|some r=>(r,true)|none=>([],false)):=by
  have:=levels_l0 ht l hl hc l.length 0 k [] v (by omega) (by omega) h0 h1 rfl
  unfold spec_l14Levels.f
  simpa using this

def fits (m:Int) (ls cs:List Int):Bool:=(List.zip ls cs).all fun p=>decide (0≤p.1+p.2∧p.1+p.2≤m)
theorem spec_ch_l0 {a b c m v0:Int} (ht:tankOk a b c=true) (h0:0≤v0) (h1:v0≤a) (cs ls:List Int) (he:cs.length=ls.length) (hl:cs.length≤24) (hc:cs.all change=true) (hh:ls.all hour=true):∀ (d j k:Nat),j+d=cs.length→d+25<k→
    spec_IsCharging.l0 k v0 cs ls m (j:Int) a b c=some (fits m (ls.drop j) (cs.drop j)&&(lev a b c v0 cs).isSome):=by
  intro d
  induction d with
  |zero=>
    intro j k hj hk
    obtain ⟨k,rfl⟩:=suc_of (show 0<k by omega)
    simp only [spec_IsCharging.l0]
    rw [if_neg (by omega),List.drop_eq_nil_of_le (by omega),List.drop_eq_nil_of_le (by omega),spec_levels ht cs hl hc h0 h1 k (by omega)]
    cases lev a b c v0 cs<;>rfl
  |succ d ih=>
    intro j k hj hk
    obtain ⟨k,rfl⟩:=suc_of (show 0<k by omega)
    have cb:=change_le (all_getD hc (show j<cs.length by omega))
    have hb:=hour_le (all_getD hh (show j<ls.length by omega))
    simp only [spec_IsCharging.l0]
    rw [if_pos (by omega),if_pos (by omega),if_pos (by omega),rd_nat,rd_nat,drop_cons cs (by omega:j<cs.length) 0,drop_cons ls (by omega:j<ls.length) 0,next_nat (n:=cs.length) (by omega) (by omega),wrap_id (x:=ls.getD j 0+cs.getD j 0) (by omega) (by omega),spec_in,ih (j+1) k (by omega) (by omega)]
    have e:fits m (ls.getD j 0 :: ls.drop (j+1)) (cs.getD j 0 :: cs.drop (j+1))=(decide (0≤ls.getD j 0+cs.getD j 0∧ls.getD j 0+cs.getD j 0≤m)&&fits m (ls.drop (j+1)) (cs.drop (j+1))):=rfl
    rw [e]
    simp only [Option.bind_some]
    cases decide (0≤ls.getD j 0+cs.getD j 0∧ls.getD j 0+cs.getD j 0≤m)<;>rfl

/-! What a row of the table says: the least cost of a charging from a level on. -/
def run (a b c most:Int):List Int→Int→List Int→Option Int
  |[],v,[]=>some v
  |L :: t,v,ch :: u=>match stp a b c L most v ch with|some x=>run a b c most t x u|none=>none
  |_,_,_=>none
def pay:List Int→List Int→List Int→Int
  |L :: t,E :: u,ch :: w=>(L+ch) * E+pay t u w
  |_,_,_=>0
theorem run_cons (a b c most L ch:Int) (t u:List Int) (v:Int):run a b c most (L :: t) v (ch :: u)=match stp a b c L most v ch with|some x=>run a b c most t x u|none=>none:=rfl
theorem run_some {a b c most L ch x:Int} {t u:List Int} {v:Int} (h:stp a b c L most v ch=some x):run a b c most (L :: t) v (ch :: u)=run a b c most t x u:=by rw [run_cons,h]
theorem run_none {a b c most L ch:Int} {t u:List Int} {v:Int} (h:stp a b c L most v ch=none):run a b c most (L :: t) v (ch :: u)=none:=by rw [run_cons,h]
theorem stp_b {a b c L most v ch x:Int} (h:stp a b c L most v ch=some x):(-b≤ch∧ch≤b)∧(0≤L+ch∧L+ch≤most)∧aft a b c v ch=some x:=by
  unfold stp at h
  split at h
  · rename_i y e
    split at h
    · rename_i f
      cases h
      refine ⟨?_,f,e⟩
      unfold aft at e
      split at e
      · rename_i g;exact g.1
      · cases e
    · cases h
  · cases h
theorem run_len {a b c most:Int}:∀ (cs:List Int) (v:Int) (chs:List Int) (x:Int),run a b c most cs v chs=some x→chs.length=cs.length:=by
  intro cs
  induction cs with
  |nil=>intro v chs x h;cases chs with
    |nil=>rfl
    |cons _ _=>cases h
  |cons L t ih=>
    intro v chs x h
    cases chs with
    |nil=>cases h
    |cons ch u=>
      cases hs:stp a b c L most v ch with
      |none=>rw [run_none hs] at h;cases h
      |some y=>
        rw [run_some hs] at h
        rw [List.length_cons,List.length_cons,ih y u x h]
theorem run_end {a b c most:Int}:∀ (cs:List Int) (v:Int) (chs:List Int) (x:Int),0≤v→v≤a→run a b c most cs v chs=some x→0≤x∧x≤a:=by
  intro cs
  induction cs with
  |nil=>intro v chs x h0 h1 h;cases chs with
    |nil=>cases h;exact ⟨h0,h1⟩
    |cons _ _=>cases h
  |cons L t ih=>
    intro v chs x h0 h1 h
    cases chs with
    |nil=>cases h
    |cons ch u=>
      cases hs:stp a b c L most v ch with
      |none=>rw [run_none hs] at h;cases h
      |some y=>
        rw [run_some hs] at h
        have:=stp_le hs
        exact ih y u x this.1 this.2 h
/-- What a run says of the levels. -/
theorem run_lev {a b c most:Int}:∀ (cs:List Int) (v:Int) (chs:List Int) (x:Int),run a b c most cs v chs=some x→∃ r,lev a b c v chs=some r∧(r=[]→x=v)∧(∀ n,r.length=n+1→r.getD n 0=x):=by
  intro cs
  induction cs with
  |nil=>intro v chs x h;cases chs with
    |nil=>cases h;exact ⟨[],rfl,fun _=>rfl,fun n hn=>by simp at hn⟩
    |cons _ _=>cases h
  |cons L t ih=>
    intro v chs x h
    cases chs with
    |nil=>cases h
    |cons ch u=>
      cases hs:stp a b c L most v ch with
      |none=>rw [run_none hs] at h;cases h
      |some y=>
        rw [run_some hs] at h
        obtain ⟨r,r1,r2,r3⟩:=ih y u x h
        refine ⟨y :: r,?_,fun e=>(by cases e),fun n hn=>?_⟩
        · unfold lev
          rw [(stp_b hs).2.2]
          simp only [r1];rfl
        · cases r with
          |nil=>
            have:n=0:=by simp at hn;omega
            subst this
            rw [r2 rfl];rfl
          |cons z s=>
            obtain ⟨m,rfl⟩:∃ m,n=m+1:=⟨n - 1,by simp at hn;omega⟩
            have:=r3 m (by simp at hn ⊢;omega)
            simpa using this
/-- A run is a charging, and the other way round. -/
theorem run_fits {a b c most:Int} (hb:b≤20):∀ (cs:List Int) (v:Int) (chs:List Int) (x:Int),run a b c most cs v chs=some x→chs.all change=true∧fits most cs chs=true:=by
  intro cs
  induction cs with
  |nil=>intro v chs x h;cases chs with
    |nil=>exact ⟨rfl,rfl⟩
    |cons _ _=>cases h
  |cons L t ih=>
    intro v chs x h
    cases chs with
    |nil=>cases h
    |cons ch u=>
      cases hs:stp a b c L most v ch with
      |none=>rw [run_none hs] at h;cases h
      |some y=>
        rw [run_some hs] at h
        obtain ⟨r1,r2⟩:=ih y u x h
        have q:=stp_b hs
        have e:fits most (L :: t) (ch :: u)=(decide (0≤L+ch∧L+ch≤most)&&fits most t u):=rfl
        rw [e,List.all_cons,r1,r2,decide_eq_true q.2.1]
        have:change ch=true:=decide_eq_true (by omega)
        rw [this]
        exact ⟨rfl,rfl⟩
theorem fits_run {a b c most:Int}:∀ (cs:List Int) (v:Int) (chs:List Int),chs.length=cs.length→fits most cs chs=true→(lev a b c v chs).isSome=true→∃ x,run a b c most cs v chs=some x:=by
  intro cs
  induction cs with
  |nil=>intro v chs h _ _;cases chs with
    |nil=>exact ⟨v,rfl⟩
    |cons _ _=>simp at h
  |cons L t ih=>
    intro v chs h f l
    cases chs with
    |nil=>simp at h
    |cons ch u=>
      have e:fits most (L :: t) (ch :: u)=(decide (0≤L+ch∧L+ch≤most)&&fits most t u):=rfl
      rw [e,Bool.and_eq_true] at f
      unfold lev at l
      cases ha:aft a b c v ch with
      |none=>rw [ha] at l;cases l
      |some y=>
        rw [ha] at l
        simp only [Option.isSome_map] at l
        have hs:stp a b c L most v ch=some y:=by unfold stp;rw [ha];exact if_pos (of_decide_eq_true f.1)
        rw [run_some hs]
        exact ih y u (by simpa using h) f.2 l
/-! The least cost. -/
def okQ (a:Int) (Q:List Int) (M:Int):Prop:=∀ x,0≤x→x≤a→-1≤rd Q x∧rd Q x≤M
theorem pay_b {L E ch:Int} (h0:0≤L+ch) (h1:L+ch≤1020) (hE:0≤E) (hE2:E≤1000):0≤(L+ch) * E∧(L+ch) * E≤1020000:=by
  have m:=mul_bounds (a:=L+ch) (b:=E) (A:=1020) (B:=1000) h0 h1 (by omega) hE2 (by omega)
  have n:=Int.mul_nonneg h0 hE
  omega
def upk (y z acc:Int):Int:=if y<0 then acc else if acc<0 then y+z else if y+z<acc then y+z else acc
theorem upk_key (y z acc:Int) (hz:0≤z) (hacc:-1≤acc):-1≤upk y z acc∧(upk y z acc=acc∨(0≤y∧upk y z acc=y+z))∧(0≤acc→0≤upk y z acc∧upk y z acc≤acc)∧(0≤y→0≤upk y z acc∧upk y z acc≤y+z):=by
  unfold upk
  by_cases c1:y<0
  · rw [if_pos c1];omega
  · rw [if_neg c1]
    by_cases c2:acc<0
    · rw [if_pos c2];omega
    · rw [if_neg c2]
      by_cases c3:y+z<acc
      · rw [if_pos c3];omega
      · rw [if_neg c3];omega
theorem upb_none {a b c L E most v ch acc:Int} {Q:List Int} (h:stp a b c L most v ch=none):upb a b c L E most v Q ch acc=acc:=by unfold upb;rw [h]
theorem upb_some {a b c L E most v ch acc M x:Int} {Q:List Int} (hL:L≤1000) (hE:0≤E) (hE2:E≤1000) (hb:b≤20) (hM:M≤1000000000) (hQ:okQ a Q M) (h:stp a b c L most v ch=some x):upb a b c L E most v Q ch acc=upk (rd Q x) ((L+ch) * E) acc:=by
  have q:=stp_b h
  have hx:=stp_le h
  have hq:=hQ x hx.1 hx.2
  have p:=pay_b (L:=L) (ch:=ch) (E:=E) q.2.1.1 (by omega) hE hE2
  unfold upb upk
  rw [h]
  simp only []
  rw [wrap_id (x:=L+ch) (by omega) (by omega),wrap_id (x:=(L+ch) * E) (by omega) (by omega),wrap_id (x:=rd Q x+(L+ch) * E) (by omega) (by omega)]
theorem bst_mean {a b c L E most v M:Int} {Q:List Int} (hL:L≤1000) (hE:0≤E) (hE2:E≤1000) (hb:b≤20) (hM:M≤1000000000) (hQ:okQ a Q M):∀ (n:Nat) (ch acc:Int),-1≤acc→-1≤bst a b c L E most v Q n ch acc∧
    (bst a b c L E most v Q n ch acc=acc∨∃ e x,ch≤e∧e<ch+(n:Int)∧stp a b c L most v e=some x∧0≤rd Q x∧bst a b c L E most v Q n ch acc=rd Q x+(L+e) * E)∧
    (0≤acc→0≤bst a b c L E most v Q n ch acc∧bst a b c L E most v Q n ch acc≤acc)∧
    ∀ e x,ch≤e→e<ch+(n:Int)→stp a b c L most v e=some x→0≤rd Q x→0≤bst a b c L E most v Q n ch acc∧bst a b c L E most v Q n ch acc≤rd Q x+(L+e) * E:=by
  intro n
  induction n with
  |zero=>intro ch acc h;exact ⟨h,.inl rfl,fun h=>⟨h,Int.le_refl _⟩,fun e x h1 h2=>by omega⟩
  |succ n ih=>
    intro ch acc hacc
    have eb:bst a b c L E most v Q (n+1) ch acc=bst a b c L E most v Q n (ch+1) (upb a b c L E most v Q ch acc):=rfl
    rw [eb]
    cases hs:stp a b c L most v ch with
    |none=>
      rw [upb_none hs]
      obtain ⟨i1,i2,i3,i4⟩:=ih (ch+1) acc hacc
      refine ⟨i1,?_,i3,fun e x h1 h2 h3 h4=>?_⟩
      · rcases i2 with i2|⟨e,x,j1,j2,j3⟩
        · exact .inl i2
        · exact .inr ⟨e,x,by omega,by omega,j3⟩
      · by_cases h:e=ch
        · subst h;rw [hs] at h3;cases h3
        · exact i4 e x (by omega) (by omega) h3 h4
    |some y=>
      rw [upb_some hL hE hE2 hb hM hQ hs]
      have p:=pay_b (L:=L) (ch:=ch) (E:=E) (stp_b hs).2.1.1 (by have:=stp_b hs;omega) hE hE2
      obtain ⟨k1,k2,k3,k4⟩:=upk_key (rd Q y) ((L+ch) * E) acc p.1 hacc
      obtain ⟨i1,i2,i3,i4⟩:=ih (ch+1) (upk (rd Q y) ((L+ch) * E) acc) k1
      refine ⟨i1,?_,fun h=>?_,fun e x h1 h2 h3 h4=>?_⟩
      · rcases i2 with i2|⟨e,x,j1,j2,j3⟩
        · rcases k2 with k2|k2
          · exact .inl (i2.trans k2)
          · exact .inr ⟨ch,y,Int.le_refl _,by omega,hs,k2.1,i2.trans k2.2⟩
        · exact .inr ⟨e,x,by omega,by omega,j3⟩
      · have a1:=k3 h
        have a2:=i3 a1.1
        exact ⟨a2.1,Int.le_trans a2.2 a1.2⟩
      · by_cases h:e=ch
        · subst h
          rw [hs] at h3;cases h3
          have a1:=k4 h4
          have a2:=i3 a1.1
          exact ⟨a2.1,Int.le_trans a2.2 a1.2⟩
        · exact i4 e x (by omega) (by omega) h3 h4
theorem row_rd (a b c most L E:Int) (t u:List Int) {v:Int} (h0:0≤v) (h1:v≤a):rd (rowOf a b c most (L :: t) (E :: u)) v=bst a b c L E most v (rowOf a b c most t u) (2 * b+1).toNat (-b) (-1):=by
  obtain ⟨n,rfl⟩:∃ n:Nat,v=n:=⟨v.toNat,by omega⟩
  rw [rowOf_cons,rd_nat,getD_lt (by rw [List.length_map,List.length_range];omega),List.getElem_map,List.getElem_range]
theorem row_nil (a b c most:Int) {v:Int} (h0:0≤v) (h1:v≤a):rd (rowOf a b c most [] []) v=0:=by
  obtain ⟨n,rfl⟩:∃ n:Nat,v=n:=⟨v.toNat,by omega⟩
  have e:rowOf a b c most [] []=List.replicate (a+1).toNat 0:=rfl
  rw [e,rd_nat,getD_lt (by rw [List.length_replicate];omega),List.getElem_replicate]
theorem row_b {a b c most:Int} (hb:b≤20):∀ (cs es:List Int),es.length=cs.length→cs.all hour=true→es.all hour=true→cs.length≤24→okQ a (rowOf a b c most cs es) (1100000 * (cs.length:Int)):=by
  intro cs
  induction cs with
  |nil=>
    intro es he _ _ _ v h0 h1
    have:es=[]:=List.eq_nil_of_length_eq_zero he
    subst this
    rw [row_nil a b c most h0 h1]
    simp
  |cons L t ih=>
    intro es he hc hm hl v h0 h1
    cases es with
    |nil=>simp at he
    |cons E u=>
      rw [List.all_cons,Bool.and_eq_true] at hc hm
      rw [List.length_cons] at hl he ⊢
      have q:=ih u (by simpa using he) hc.2 hm.2 (by omega)
      have hL:=hour_le hc.1
      have hE:=hour_le hm.1
      obtain ⟨b1,b2,_,_⟩:=bst_mean (b:=b) (c:=c) (most:=most) (v:=v) hL.2 hE.1 hE.2 hb (M:=1100000 * (t.length:Int)) (by omega) q (2 * b+1).toNat (-b) (-1) (by omega)
      rw [row_rd a b c most L E t u h0 h1]
      refine ⟨b1,?_⟩
      rcases b2 with b2|⟨e,x,e1,e2,e3,e4,e5⟩
      · rw [b2];omega
      · have p:=pay_b (L:=L) (ch:=e) (E:=E) (stp_b e3).2.1.1 (by have:=stp_b e3;omega) hE.1 hE.2
        have y:=q x (stp_le e3).1 (stp_le e3).2
        rw [e5];omega
theorem row_le {a b c most:Int} (hb:b≤20):∀ (cs es:List Int),es.length=cs.length→cs.all hour=true→es.all hour=true→cs.length≤24→∀ v,0≤v→v≤a→∀ chs x,run a b c most cs v chs=some x→0≤rd (rowOf a b c most cs es) v∧rd (rowOf a b c most cs es) v≤pay cs es chs:=by
  intro cs
  induction cs with
  |nil=>
    intro es he _ _ _ v h0 h1 chs x _
    have:es=[]:=List.eq_nil_of_length_eq_zero he
    subst this
    rw [row_nil a b c most h0 h1]
    exact ⟨Int.le_refl _,Int.le_refl _⟩
  |cons L t ih=>
    intro es he hc hm hl v h0 h1 chs x hr
    cases es with
    |nil=>simp at he
    |cons E u=>
      cases chs with
      |nil=>cases hr
      |cons ch w=>
        cases hs:stp a b c L most v ch with
        |none=>rw [run_none hs] at hr;cases hr
        |some y=>
          rw [run_some hs] at hr
          rw [List.all_cons,Bool.and_eq_true] at hc hm
          rw [List.length_cons] at hl he
          have q:=row_b (a:=a) (c:=c) (most:=most) hb t u (by simpa using he) hc.2 hm.2 (by omega)
          have hL:=hour_le hc.1
          have hE:=hour_le hm.1
          obtain ⟨_,_,_,b4⟩:=bst_mean (b:=b) (c:=c) (most:=most) (v:=v) hL.2 hE.1 hE.2 hb (M:=1100000 * (t.length:Int)) (by omega) q (2 * b+1).toNat (-b) (-1) (by omega)
          have i:=ih u (by simpa using he) hc.2 hm.2 (by omega) y (stp_le hs).1 (stp_le hs).2 w x hr
          have g:=stp_b hs
          have r:=b4 ch y (by omega) (by omega) hs i.1
          rw [row_rd a b c most L E t u h0 h1]
          have e:pay (L :: t) (E :: u) (ch :: w)=(L+ch) * E+pay t u w:=rfl
          rw [e]
          generalize (L+ch) * E=z at *
          omega
/-- Where there is a cost, some change leads on to it. -/
theorem row_next {a b c most:Int} (hb:b≤20) (L E:Int) (t u:List Int) (he:u.length=t.length) (hc:(L :: t).all hour=true) (hm:(E :: u).all hour=true) (hl:t.length<24) {v:Int} (h0:0≤v) (h1:v≤a) (h:0≤rd (rowOf a b c most (L :: t) (E :: u)) v):∃ e x,-b≤e∧e≤b∧stp a b c L most v e=some x∧0≤rd (rowOf a b c most t u) x∧rd (rowOf a b c most (L :: t) (E :: u)) v=rd (rowOf a b c most t u) x+(L+e) * E:=by
  rw [List.all_cons,Bool.and_eq_true] at hc hm
  have q:=row_b (a:=a) (c:=c) (most:=most) hb t u he hc.2 hm.2 (by omega)
  have hL:=hour_le hc.1
  have hE:=hour_le hm.1
  obtain ⟨_,b2,_,_⟩:=bst_mean (b:=b) (c:=c) (most:=most) (v:=v) hL.2 hE.1 hE.2 hb (M:=1100000 * (t.length:Int)) (by omega) q (2 * b+1).toNat (-b) (-1) (by omega)
  rw [row_rd a b c most L E t u h0 h1] at h ⊢
  rcases b2 with b2|⟨e,x,e1,e2,e3,e4,e5⟩
  · omega
  · exact ⟨e,x,e1,by have:=stp_b e3;omega,e3,e4,e5⟩

def hit (Q R:List Int) (L E ch x v:Int):Bool:=decide (wrap64 (rd Q x+wrap64 (wrap64 (L+ch) * E))=rd R v)
theorem walk_i1 {a b c:Int} (ht:tankOk a b c=true) (cs es:List Int) (he:es.length=cs.length) (hl:cs.length≤24) (most:Int) (hh:cs.all hour=true) (T:List (List Int)) (hT:T.length=cs.length+1) (c0:Int) (h:Nat) (hc:h<cs.length) (hQ:(T.getD (h+1) []).length=(a+1).toNat) (hR:(T.getD h []).length=(a+1).toNat) (ans:List Int) (v:Int) (hv0:0≤v) (hv1:v≤a) (hn:ans.length≤h) (ch:Int) (h0:-b≤ch) (h1:ch≤b):∀ k,impl_BestCharging.l1 (k+1) T c0 ans v (h:Int) ch (cs.length:Int) (h:Int) a b c a b c cs es most=match stp a b c (cs.getD h 0) most v ch with
    |some x=>if rd (T.getD (h+1) []) x≥0 then (if hit (T.getD (h+1) []) (T.getD h []) (cs.getD h 0) (es.getD h 0) ch x v=true then impl_BestCharging.l0 k T c0 (ans++[ch]) x (cs.length:Int) (wrap64 ((h:Int)+1)) a b c a b c cs es most else impl_BestCharging.l1 k T c0 ans v (h:Int) (wrap64 (ch+1)) (cs.length:Int) (h:Int) a b c a b c cs es most) else impl_BestCharging.l1 k T c0 ans v (h:Int) (wrap64 (ch+1)) (cs.length:Int) (h:Int) a b c a b c cs es most
    |none=>impl_BestCharging.l1 k T c0 ans v (h:Int) (wrap64 (ch+1)) (cs.length:Int) (h:Int) a b c a b c cs es most:=by
  have t:=tankOk_iff.1 ht
  have hb:=hour_le (all_getD hh hc)
  obtain ⟨y,hy⟩:=cafter (ch:=ch) ht cs es most hh hc hv0 hv1 (by omega) (by omega)
  intro k
  have hlen:ans.length<17592186044416:=by omega
  have q0:ch≤b:=by omega
  have q1:(0:Int)≤((h+1:Nat):Int):=by omega
  have q2:((h+1:Nat):Int)<(T.length:Int):=by omega
  have q3:(0:Int)≤(h:Int):=by omega
  have q4:(h:Int)<(cs.length:Int):=by omega
  have q5:(h:Int)<(es.length:Int):=by omega
  have q6:(h:Int)<(T.length:Int):=by omega
  have q7:v<((T.getD h []).length:Int):=by omega
  have q8:wrap64 ((h:Int)+1)=((h+1:Nat):Int):=next_nat (n:=cs.length) (by omega) (by omega)
  simp only [impl_BestCharging.l1]
  rw [if_pos q0,hy]
  clear hy
  cases hs:stp a b c (cs.getD h 0) most v ch with
  |none=>rfl
  |some x=>
    have hx:=stp_le hs
    have q9:x<((T.getD (h+1) []).length:Int):=by clear q8;omega
    unfold impl_charging_price.f
    simp only [Option.bind_some,if_true,rd_nat,rl_nat,q8,q1,q2,q3,q4,q5,q6,q7,q9,hlen,hx.1,hv0]
    rw [Int.add_comm (wrap64 (wrap64 (cs.getD h 0+ch) * es.getD h 0))]
    by_cases c1:rd (T.getD (h+1) []) x≥0
    · rw [if_pos c1,if_pos c1]
      by_cases c2:wrap64 (rd (T.getD (h+1) []) x+wrap64 (wrap64 (cs.getD h 0+ch) * es.getD h 0))=rd (T.getD h []) v
      · have c3:hit (T.getD (h+1) []) (T.getD h []) (cs.getD h 0) (es.getD h 0) ch x v=true:=decide_eq_true c2
        rw [if_pos c2,c3,if_pos rfl]
      · have c3:hit (T.getD (h+1) []) (T.getD h []) (cs.getD h 0) (es.getD h 0) ch x v=false:=decide_eq_false c2
        rw [if_neg c2,c3,if_neg Bool.false_ne_true]
    · rw [if_neg c1,if_neg c1]
theorem hit_eq {a b c L E most v ch x M:Int} {Q R:List Int} (hL:L≤1000) (hE:0≤E) (hE2:E≤1000) (hb:b≤20) (hM:M≤1000000000) (hQ:okQ a Q M) (h:stp a b c L most v ch=some x):hit Q R L E ch x v=decide (rd Q x+(L+ch) * E=rd R v):=by
  have q:=stp_b h
  have hx:=stp_le h
  have hq:=hQ x hx.1 hx.2
  have p:=pay_b (L:=L) (ch:=ch) (E:=E) q.2.1.1 (by omega) hE hE2
  unfold hit
  rw [wrap_id (x:=L+ch) (by omega) (by omega),wrap_id (x:=(L+ch) * E) (by omega) (by omega),wrap_id (x:=rd Q x+(L+ch) * E) (by omega) (by omega)]
theorem bw_in {a b c:Int} (ht:tankOk a b c=true) (cs es:List Int) (he:es.length=cs.length) (hl:cs.length≤24) (most:Int) (hh:cs.all hour=true) (hm:es.all hour=true) (T:List (List Int)) (hT:TabOk a b c most cs es T) (c0:Int) (h:Nat) (hc:h<cs.length) (B:Nat)
    (next:∀ (ans:List Int) (v:Int),0≤v→v≤a→ans.length≤h+1→0≤rd (T.getD (h+1) []) v→∃ r x,(∀ k,B<k→impl_BestCharging.l0 k T c0 ans v (cs.length:Int) ((h+1:Nat):Int) a b c a b c cs es most=some (ans++r,c0,0))∧run a b c most (cs.drop (h+1)) v r=some x∧pay (cs.drop (h+1)) (es.drop (h+1)) r=rd (T.getD (h+1) []) v)
    (ans:List Int) (v:Int) (hv0:0≤v) (hv1:v≤a) (hn:ans.length≤h):∀ (n:Nat) (ch:Int),-b≤ch→ch+(n:Int)=b+1→(∃ e x,ch≤e∧e≤b∧stp a b c (cs.getD h 0) most v e=some x∧0≤rd (T.getD (h+1) []) x∧rd (T.getD h []) v=rd (T.getD (h+1) []) x+(cs.getD h 0+e) * es.getD h 0)→
    ∃ r x,(∀ k,B+2 * n+1<k→impl_BestCharging.l1 k T c0 ans v (h:Int) ch (cs.length:Int) (h:Int) a b c a b c cs es most=some (ans++r,c0,0))∧run a b c most (cs.drop h) v r=some x∧pay (cs.drop h) (es.drop h) r=rd (T.getD h []) v:=by
  have t:=tankOk_iff.1 ht
  have hTl:=hT.1
  have hQ:(T.getD (h+1) []).length=(a+1).toNat:=by rw [hT.2 _ (by omega)];exact rowOf_len _ _ _ _ _ _
  have hR:(T.getD h []).length=(a+1).toNat:=by rw [hT.2 _ (by omega)];exact rowOf_len _ _ _ _ _ _
  have hL:=hour_le (all_getD hh hc)
  have hE:=hour_le (all_getD hm (show h<es.length by omega))
  have hdl:(cs.drop (h+1)).length=cs.length - (h+1):=List.length_drop
  have hok:okQ a (T.getD (h+1) []) (1100000 * ((cs.drop (h+1)).length:Int)):=by
    rw [hT.2 _ (by omega)]
    exact row_b t.2.1.2 _ _ (by rw [List.length_drop,List.length_drop,he]) (List.all_eq_true.2 fun x hx=>List.all_eq_true.1 hh x (List.mem_of_mem_drop hx)) (List.all_eq_true.2 fun x hx=>List.all_eq_true.1 hm x (List.mem_of_mem_drop hx)) (by omega)
  intro n
  induction n with
  |zero=>intro ch h0 h1 ⟨e,x,h2,h3,_⟩;omega
  |succ n ih=>
    intro ch h0 h1 hex
    have ei1:=walk_i1 ht cs es he hl most hh T hTl c0 h hc hQ hR ans v hv0 hv1 hn ch (by omega) (by omega)
    obtain ⟨e,x,e1,e2,e3,e4,e5⟩:=hex
    have go:ch≠e→(∀ k,impl_BestCharging.l1 (k+1) T c0 ans v (h:Int) ch (cs.length:Int) (h:Int) a b c a b c cs es most=impl_BestCharging.l1 k T c0 ans v (h:Int) (wrap64 (ch+1)) (cs.length:Int) (h:Int) a b c a b c cs es most)→∃ r x,(∀ k,B+2 * (n+1)+1<k→impl_BestCharging.l1 k T c0 ans v (h:Int) ch (cs.length:Int) (h:Int) a b c a b c cs es most=some (ans++r,c0,0))∧run a b c most (cs.drop h) v r=some x∧pay (cs.drop h) (es.drop h) r=rd (T.getD h []) v:=fun hne hstep=>by
      obtain ⟨r,y,i1,i2⟩:=ih (ch+1) (by omega) (by omega) ⟨e,x,by omega,e2,e3,e4,e5⟩
      refine ⟨r,y,fun k hk=>?_,i2⟩
      obtain ⟨k,rfl⟩:=suc_of (show 0<k by omega)
      rw [hstep,wrap_id (x:=ch+1) (by omega) (by omega)]
      exact i1 k (by omega)
    cases hs:stp a b c (cs.getD h 0) most v ch with
    |none=>
      refine go (fun q=>by subst q;rw [hs] at e3;cases e3) (fun k=>?_)
      rw [ei1,hs]
    |some y=>
      have hy:=stp_le hs
      by_cases c1:rd (T.getD (h+1) []) y≥0
      · have he2:=hit_eq (R:=T.getD h []) (E:=es.getD h 0) hL.2 hE.1 hE.2 t.2.1.2 (M:=1100000 * ((cs.drop (h+1)).length:Int)) (by omega) hok hs
        by_cases c2:rd (T.getD (h+1) []) y+(cs.getD h 0+ch) * es.getD h 0=rd (T.getD h []) v
        · obtain ⟨r,z,i1,i2,i3⟩:=next (ans++[ch]) y hy.1 hy.2 (by simp;omega) c1
          refine ⟨ch :: r,z,fun k hk=>?_,?_,?_⟩
          · obtain ⟨k,rfl⟩:=suc_of (show 0<k by omega)
            rw [ei1,hs]
            simp only []
            rw [if_pos c1,he2,decide_eq_true c2,if_pos rfl,next_nat (n:=cs.length) (by omega) (by omega),i1 k (by omega),List.append_assoc]
            rfl
          · rw [drop_cons cs hc 0,run_some hs];exact i2
          · rw [drop_cons cs hc 0,drop_cons es (by omega:h<es.length) 0,← c2,← i3]
            have e0:pay (cs.getD h 0 :: cs.drop (h+1)) (es.getD h 0 :: es.drop (h+1)) (ch :: r)=(cs.getD h 0+ch) * es.getD h 0+pay (cs.drop (h+1)) (es.drop (h+1)) r:=rfl
            rw [e0,Int.add_comm]
        · refine go (fun q=>by subst q;rw [hs] at e3;cases e3;exact c2 e5.symm) (fun k=>?_)
          rw [ei1,hs]
          simp only []
          rw [if_pos c1,he2,decide_eq_false c2,if_neg Bool.false_ne_true]
      · refine go (fun q=>by subst q;rw [hs] at e3;cases e3;exact c1 e4) (fun k=>?_)
        rw [ei1,hs]
        simp only []
        rw [if_neg c1]
theorem bw_all {a b c:Int} (ht:tankOk a b c=true) (cs es:List Int) (he:es.length=cs.length) (hl:cs.length≤24) (most:Int) (hh:cs.all hour=true) (hm:es.all hour=true) (T:List (List Int)) (hT:TabOk a b c most cs es T) (c0:Int):∀ (d h:Nat) (ans:List Int) (v:Int),h+d=cs.length→0≤v→v≤a→ans.length≤h→0≤rd (T.getD h []) v→∃ r x,(∀ k,100 * d<k→impl_BestCharging.l0 k T c0 ans v (cs.length:Int) (h:Int) a b c a b c cs es most=some (ans++r,c0,0))∧run a b c most (cs.drop h) v r=some x∧pay (cs.drop h) (es.drop h) r=rd (T.getD h []) v:=by
  have t:=tankOk_iff.1 ht
  have hTl:=hT.1
  intro d
  induction d with
  |zero=>
    intro h ans v hd h0 h1 hn _
    refine ⟨[],v,fun k hk=>?_,?_,?_⟩
    · obtain ⟨k,rfl⟩:=suc_of (show 0<k by omega)
      simp only [impl_BestCharging.l0]
      rw [if_neg (by omega),List.append_nil]
    · rw [List.drop_eq_nil_of_le (by omega)];rfl
    · rw [hT.2 _ (by omega),List.drop_eq_nil_of_le (by omega),List.drop_eq_nil_of_le (by omega),row_nil a b c most h0 h1]
      rfl
  |succ d ih=>
    intro h ans v hd h0 h1 hn hp
    have hc:h<cs.length:=by omega
    have ec:=drop_cons cs hc 0
    have ee:=drop_cons es (by omega:h<es.length) 0
    have e1:=hT.2 h (by omega)
    have e2:=hT.2 (h+1) (by omega)
    have hcd:(cs.drop h).all hour=true:=List.all_eq_true.2 fun x hx=>List.all_eq_true.1 hh x (List.mem_of_mem_drop hx)
    have hed:(es.drop h).all hour=true:=List.all_eq_true.2 fun x hx=>List.all_eq_true.1 hm x (List.mem_of_mem_drop hx)
    rw [ec] at hcd
    rw [ee] at hed
    have hp2:=hp
    rw [e1,ec,ee] at hp2
    obtain ⟨e,x,q1,q2,q3,q4,q5⟩:=row_next (a:=a) (b:=b) (c:=c) (most:=most) t.2.1.2 (cs.getD h 0) (es.getD h 0) (cs.drop (h+1)) (es.drop (h+1)) (by rw [List.length_drop,List.length_drop,he]) hcd hed (by rw [List.length_drop];omega) h0 h1 hp2
    obtain ⟨r,z,i1,i2⟩:=bw_in ht cs es he hl most hh hm T hT c0 h hc (100 * d) (fun ans v a1 a2 a3 a4=>ih (h+1) ans v (by omega) a1 a2 a3 a4) ans v h0 h1 hn (2 * b+1).toNat (-b) (by omega) (by omega) ⟨e,x,q1,q2,q3,by rw [e2];exact q4,by rw [e1,e2,ec,ee];exact q5⟩
    refine ⟨r,z,fun k hk=>?_,i2⟩
    obtain ⟨k,rfl⟩:=suc_of (show 0<k by omega)
    simp only [impl_BestCharging.l0]
    rw [if_pos (by omega),wrap_id (x:= -b) (by omega) (by omega)]
    exact i1 k (by omega)

def wp (a b c L most v:Int) (w:Int→Nat):Nat→Int→Nat
  |0,_=>0
  |n+1,ch=>(match stp a b c L most v ch with|some x=>w x|none=>0)+wp a b c L most v w n (ch+1)
def ways (a b c most:Int):List Int→Int→Nat
  |[],_=>1
  |L :: t,v=>wp a b c L most v (ways a b c most t) (2 * b+1).toNat (-b)

def upd (a b c L most v:Int) (m:List Bool) (ch:Int):List Bool:=match aft a b c v ch with
  |some x=>if 0≤L+ch∧L+ch≤most then m.set x.toNat true else m
  |none=>m
def inn (a b c L most v:Int):Nat→Int→List Bool→List Bool
  |0,_,m=>m
  |n+1,ch,m=>inn a b c L most v n (ch+1) (upd a b c L most v m ch)
def lvl (a b c L most:Int) (x9:List Bool):Nat→Int→List Bool→List Bool
  |0,_,m=>m
  |n+1,v,m=>lvl a b c L most x9 n (v+1) (if x9.getD v.toNat false=true then inn a b c L most v (2 * b+1).toNat (-b) m else m)
def hrs (a b c most:Int):List Int→List Bool→List Bool
  |[],x9=>x9
  |L :: t,x9=>hrs a b c most t (lvl a b c L most x9 (a+1).toNat 0 (List.replicate (a+1).toNat false))
theorem upd_len (a b c L most v:Int) (m:List Bool) (ch:Int):(upd a b c L most v m ch).length=m.length:=by
  unfold upd;split
  · split<;>simp
  · rfl
theorem inn_len (a b c L most v:Int):∀ (n:Nat) (ch:Int) (m:List Bool),(inn a b c L most v n ch m).length=m.length:=by
  intro n
  induction n with
  |zero=>intro ch m;rfl
  |succ n ih=>intro ch m;unfold inn;rw [ih,upd_len]
theorem lvl_len (a b c L most:Int) (x9:List Bool):∀ (n:Nat) (v:Int) (m:List Bool),(lvl a b c L most x9 n v m).length=m.length:=by
  intro n
  induction n with
  |zero=>intro v m;rfl
  |succ n ih=>intro v m;unfold lvl;rw [ih];split<;>simp [inn_len]
theorem hrs_len (a b c most:Int):∀ (l:List Int) (x9:List Bool),x9.length=(a+1).toNat→(hrs a b c most l x9).length=(a+1).toNat:=by
  intro l
  induction l with
  |nil=>intro x9 h;exact h
  |cons x t ih=>intro x9 h;unfold hrs;exact ih _ (by rw [lvl_len];simp)

/-! How many chargings there are, and where they end. -/
theorem wp_pos (a b c L most v:Int) (w:Int→Nat):∀ (n:Nat) (ch:Int),0<wp a b c L most v w n ch↔∃ e x,ch≤e∧e<ch+(n:Int)∧stp a b c L most v e=some x∧0<w x:=by
  intro n
  induction n with
  |zero=>
    intro ch
    refine ⟨fun h=>absurd h (Nat.lt_irrefl 0),fun ⟨e,x,h1,h2,_⟩=>by omega⟩
  |succ n ih=>
    intro ch
    have e0:wp a b c L most v w (n+1) ch=(match stp a b c L most v ch with|some x=>w x|none=>0)+wp a b c L most v w n (ch+1):=rfl
    rw [e0]
    have i:=ih (ch+1)
    constructor
    · intro h
      by_cases g:0<wp a b c L most v w n (ch+1)
      · obtain ⟨e,x,h1,h2,h3⟩:=i.1 g
        exact ⟨e,x,by omega,by omega,h3⟩
      · cases hs:stp a b c L most v ch with
        |none=>rw [hs] at h;simp only [] at h;omega
        |some y=>
          rw [hs] at h
          simp only [] at h
          exact ⟨ch,y,Int.le_refl _,by omega,hs,by omega⟩
    · rintro ⟨e,x,h1,h2,h3,h4⟩
      by_cases g:e=ch
      · subst g;rw [h3];simp only [];omega
      · have:=i.2 ⟨e,x,by omega,by omega,h3,h4⟩
        omega
theorem ways_pos {a b c most:Int}:∀ (cs:List Int) (v:Int),0<ways a b c most cs v↔∃ chs x,run a b c most cs v chs=some x:=by
  intro cs
  induction cs with
  |nil=>intro v;exact ⟨fun _=>⟨[],v,rfl⟩,fun _=>Nat.lt_succ_self 0⟩
  |cons L t ih=>
    intro v
    have e0:ways a b c most (L :: t) v=wp a b c L most v (ways a b c most t) (2 * b+1).toNat (-b):=rfl
    rw [e0,wp_pos]
    constructor
    · rintro ⟨e,x,_,_,h3,h4⟩
      obtain ⟨u,y,h5⟩:=(ih x).1 h4
      exact ⟨e :: u,y,by rw [run_some h3];exact h5⟩
    · rintro ⟨chs,y,h⟩
      cases chs with
      |nil=>cases h
      |cons e u=>
        cases hs:stp a b c L most v e with
        |none=>rw [run_none hs] at h;cases h
        |some x=>
          rw [run_some hs] at h
          have g:=stp_b hs
          exact ⟨e,x,by omega,by omega,hs,(ih x).2 ⟨u,y,h⟩⟩
theorem getD_setB {R:List Bool} {i j:Nat} (hi:i<R.length):(R.set i true).getD j false=true↔R.getD j false=true∨i=j:=by
  rw [List.getD_eq_getElem?_getD,List.getElem?_set,List.getD_eq_getElem?_getD]
  by_cases e:i=j
  · rw [if_pos e,if_pos hi];exact ⟨fun _=>.inr e,fun _=>rfl⟩
  · rw [if_neg e];exact ⟨fun h=>.inl h,fun h=>h.resolve_right e⟩
theorem upd_get {a b c L most v ch:Int} {m:List Bool} (hm:m.length=(a+1).toNat) (j:Nat):(upd a b c L most v m ch).getD j false=true↔m.getD j false=true∨∃ x,stp a b c L most v ch=some x∧x.toNat=j:=by
  unfold upd
  cases ha:aft a b c v ch with
  |none=>
    have hs:stp a b c L most v ch=none:=by unfold stp;rw [ha]
    rw [hs]
    exact ⟨fun h=>.inl h,fun h=>h.resolve_right (fun ⟨x,hx,_⟩=>by cases hx)⟩
  |some y=>
    have hy:=aft_le ha
    simp only []
    by_cases f:0≤L+ch∧L+ch≤most
    · have hs:stp a b c L most v ch=some y:=by unfold stp;rw [ha];exact if_pos f
      rw [if_pos f,getD_setB (by omega),hs]
      exact ⟨fun h=>h.elim .inl (fun g=>.inr ⟨y,rfl,g⟩),fun h=>h.elim .inl (fun ⟨x,hx,g⟩=>.inr (by cases hx;exact g))⟩
    · have hs:stp a b c L most v ch=none:=by unfold stp;rw [ha];exact if_neg f
      rw [if_neg f,hs]
      exact ⟨fun h=>.inl h,fun h=>h.resolve_right (fun ⟨x,hx,_⟩=>by cases hx)⟩
theorem inn_get {a b c L most v:Int} (j:Nat):∀ (n:Nat) (ch:Int) (m:List Bool),m.length=(a+1).toNat→((inn a b c L most v n ch m).getD j false=true↔m.getD j false=true∨∃ e x,ch≤e∧e<ch+(n:Int)∧stp a b c L most v e=some x∧x.toNat=j):=by
  intro n
  induction n with
  |zero=>intro ch m _;exact ⟨fun h=>.inl h,fun h=>h.resolve_right (fun ⟨e,x,h1,h2,_⟩=>by omega)⟩
  |succ n ih=>
    intro ch m hm
    have e0:inn a b c L most v (n+1) ch m=inn a b c L most v n (ch+1) (upd a b c L most v m ch):=rfl
    rw [e0,ih (ch+1) _ (by rw [upd_len];exact hm),upd_get hm]
    constructor
    · rintro ((h|⟨x,h1,h2⟩)|⟨e,x,h1,h2,h3⟩)
      · exact .inl h
      · exact .inr ⟨ch,x,Int.le_refl _,by omega,h1,h2⟩
      · exact .inr ⟨e,x,by omega,by omega,h3⟩
    · rintro (h|⟨e,x,h1,h2,h3,h4⟩)
      · exact .inl (.inl h)
      · by_cases g:e=ch
        · subst g;exact .inl (.inr ⟨x,h3,h4⟩)
        · exact .inr ⟨e,x,by omega,by omega,h3,h4⟩
theorem lvl_get {a b c L most:Int} (x9:List Bool) (j:Nat):∀ (n:Nat) (v:Int) (m:List Bool),m.length=(a+1).toNat→((lvl a b c L most x9 n v m).getD j false=true↔m.getD j false=true∨∃ w e x,v≤w∧w<v+(n:Int)∧x9.getD w.toNat false=true∧stp a b c L most w e=some x∧x.toNat=j):=by
  intro n
  induction n with
  |zero=>intro v m _;exact ⟨fun h=>.inl h,fun h=>h.resolve_right (fun ⟨w,e,x,h1,h2,_⟩=>by omega)⟩
  |succ n ih=>
    intro v m hm
    have e0:lvl a b c L most x9 (n+1) v m=lvl a b c L most x9 n (v+1) (if x9.getD v.toNat false=true then inn a b c L most v (2 * b+1).toNat (-b) m else m):=rfl
    rw [e0]
    by_cases g:x9.getD v.toNat false=true
    · rw [if_pos g,ih (v+1) _ (by rw [inn_len];exact hm),inn_get j _ _ _ hm]
      constructor
      · rintro ((h|⟨e,x,h1,h2,h3,h4⟩)|⟨w,e,x,h1,h2,h3⟩)
        · exact .inl h
        · exact .inr ⟨v,e,x,Int.le_refl _,by omega,g,h3,h4⟩
        · exact .inr ⟨w,e,x,by omega,by omega,h3⟩
      · rintro (h|⟨w,e,x,h1,h2,h3,h4,h5⟩)
        · exact .inl (.inl h)
        · by_cases q:w=v
          · subst q
            have:=stp_b h4
            exact .inl (.inr ⟨e,x,by omega,by omega,h4,h5⟩)
          · exact .inr ⟨w,e,x,by omega,by omega,h3,h4,h5⟩
    · rw [if_neg g,ih (v+1) _ hm]
      constructor
      · rintro (h|⟨w,e,x,h1,h2,h3⟩)
        · exact .inl h
        · exact .inr ⟨w,e,x,by omega,by omega,h3⟩
      · rintro (h|⟨w,e,x,h1,h2,h3,h4⟩)
        · exact .inl h
        · by_cases q:w=v
          · subst q;exact absurd h3 g
          · exact .inr ⟨w,e,x,by omega,by omega,h3,h4⟩
theorem hrs_get {a b c most:Int}:∀ (cs:List Int) (x9:List Bool),x9.length=(a+1).toNat→∀ (x:Int),0≤x→x≤a→((hrs a b c most cs x9).getD x.toNat false=true↔∃ w chs,0≤w∧w≤a∧x9.getD w.toNat false=true∧run a b c most cs w chs=some x):=by
  intro cs
  induction cs with
  |nil=>
    intro x9 _ x h0 h1
    constructor
    · intro h;exact ⟨x,[],h0,h1,h,rfl⟩
    · rintro ⟨w,chs,_,_,h,hr⟩
      cases chs with
      |nil=>cases hr;exact h
      |cons _ _=>cases hr
  |cons L t ih=>
    intro x9 h9 x h0 h1
    have e0:hrs a b c most (L :: t) x9=hrs a b c most t (lvl a b c L most x9 (a+1).toNat 0 (List.replicate (a+1).toNat false)):=rfl
    rw [e0,ih _ (by rw [lvl_len,List.length_replicate]) x h0 h1]
    have z:∀ j,(List.replicate (a+1).toNat false).getD j false=false:=fun j=>by
      rw [List.getD_eq_getElem?_getD,List.getElem?_replicate];split<;>rfl
    constructor
    · rintro ⟨w,chs,w0,w1,hw,hr⟩
      rw [lvl_get x9 _ _ _ _ (by rw [List.length_replicate]),z] at hw
      rcases hw with hw|⟨v,e,y,v0,v1,hv,hs,hy⟩
      · cases hw
      · have q:=stp_le hs
        have:y=w:=by omega
        subst this
        exact ⟨v,e :: chs,v0,by omega,hv,by rw [run_some hs];exact hr⟩
    · rintro ⟨v,chs,v0,v1,hv,hr⟩
      cases chs with
      |nil=>cases hr
      |cons e u=>
        cases hs:stp a b c L most v e with
        |none=>rw [run_none hs] at hr;cases hr
        |some y=>
          rw [run_some hs] at hr
          have q:=stp_le hs
          refine ⟨y,u,q.1,q.2,?_,hr⟩
          rw [lvl_get x9 _ _ _ _ (by rw [List.length_replicate])]
          exact .inr ⟨v,e,y,v0,by omega,hv,hs,rfl⟩

def gup (G:Int→Nat) (x:Int) (y:Nat):Int→Nat:=fun z=>if z=x then G z+y else G z
def cap (x K:Nat):Int:=((min x K:Nat):Int)
theorem cap_b (x K:Nat):0≤cap x K∧cap x K≤(K:Int):=by unfold cap;omega
theorem cap_zero (K:Nat):cap 0 K=0:=by unfold cap;omega
theorem cap_pos {x:Nat} (h:0<x):0<cap x 20000:=by unfold cap;omega
theorem cap_mn (x y:Nat):mn (cap x 20001+cap y 20001) 20001=cap (x+y) 20001:=by unfold mn cap;split<;>omega
theorem cap_fin (x:Nat):mn (cap x 20001) 20000=cap x 20000:=by unfold mn cap;split<;>omega
def Tb (N K:Nat) (T:List Int) (G:Int→Nat):Prop:=T.length=N∧∀ j:Nat,j<N→T.getD j 0=(cap (G (j:Int)) K)
theorem Tb_rd {N K:Nat} {T:List Int} {G:Int→Nat} (h:Tb N K T G) {v:Int} (h0:0≤v) (h1:v<(N:Int)):rd T v=(cap (G v) K):=by
  have:=h.2 v.toNat (by omega)
  rw [show ((v.toNat:Nat):Int)=v by omega] at this
  exact this
theorem Tb_set {N K:Nat} {T:List Int} {G:Int→Nat} (h:Tb N K T G) {x:Int} (h0:0≤x) (h1:x<(N:Int)) (y:Nat):Tb N K (T.set x.toNat (cap (G x+y) K)) (gup G x y):=by
  refine ⟨by rw [List.length_set];exact h.1,fun j hj=>?_⟩
  have hl:=h.1
  rw [getD_setI (by omega)]
  unfold gup
  by_cases e:x.toNat=j
  · rw [if_pos e,if_pos (by omega),show (j:Int)=x by omega]
  · rw [if_neg e,if_neg (by omega),← h.2 j hj]
theorem Tb_none (N K:Nat):Tb N K (List.replicate N 0) (fun _=>0):=⟨by simp,fun j hj=>by rw [getD_lt (by simpa using hj),cap_zero];simp⟩
theorem cnt_inn {a b c:Int} (ht:tankOk a b c=true) (cs es:List Int) (most:Int) (hh:cs.all hour=true) (w:Int→Nat) (Q:List Int) (hQ:Tb (a+1).toNat 20001 Q w) (h:Nat) (hc:h<cs.length) (hc24:cs.length≤24) (v:Nat) (hv1:(v:Int)≤a) (N:Int) (R:List Int) (hR:R.length=(a+1).toNat) (k:Nat) (Good:List (List Int)→Prop):
    ∀ (n:Nat) (ch:Int) (X:List (List Int)) (acc:Nat),X.length=cs.length+1→X.getD (h+1) []=Q→X.getD h []=R.set v (cap acc 20001)→-b≤ch→ch+(n:Int)=b+1→
    (∀ X',X'.length=cs.length+1→X'.getD (h+1) []=Q→X'.getD h []=R.set v (cap (acc+wp a b c (cs.getD h 0) most v w n ch) 20001)→∃ r,impl_charging_counts.l2 k X' (h:Int) N (wrap64 ((v:Int)+1)) a b c cs es most=some r∧Good r)→
    ∃ r,impl_charging_counts.l3 (k+n+1) X (h:Int) (v:Int) ch N (v:Int) a b c cs es most=some r∧Good r:=by
  have t:=tankOk_iff.1 ht
  have hQl:=hQ.1
  intro n
  induction n with
  |zero=>
    intro ch X acc hX hX1 hX0 h0 h1 hyp
    rw [show k+0+1=k+1 by omega]
    simp only [impl_charging_counts.l3]
    rw [if_neg (by omega)]
    unfold wp at hyp
    exact hyp X hX hX1 (by rw [Nat.add_zero];exact hX0)
  |succ n ih=>
    intro ch X acc hX hX1 hX0 h0 h1 hyp
    have hb:=hour_le (all_getD hh hc)
    obtain ⟨K,hK⟩:∃ K,K=k+n+1:=⟨_,rfl⟩
    rw [show k+(n+1)+1=K+1 by omega]
    simp only [← hK] at ih
    obtain ⟨y,hy⟩:=impl_after (ch:=ch) ht (show (0:Int)≤(v:Int) by omega) hv1 (by omega) (by omega)
    simp only [impl_charging_counts.l3]
    unfold impl_charging_after.f
    rw [if_pos (by omega),hy,wrap_id (x:=ch+1) (by omega) (by omega)]
    unfold wp at hyp
    simp only [Option.bind_some]
    cases ha:aft a b c v ch with
    |none=>
      have hs:stp a b c (cs.getD h 0) most v ch=none:=by unfold stp;rw [ha]
      rw [hs] at hyp
      simp only [Nat.zero_add] at hyp
      simpa using ih (ch+1) X acc hX hX1 hX0 (by omega) (by omega) hyp
    |some x=>
      have hx:=aft_le ha
      simp only [if_true]
      rw [if_pos (by omega),if_pos (by omega),rd_nat,wrap_id (x:=cs.getD h 0+ch) (by omega) (by omega),impl_in]
      simp only [Option.bind_some]
      by_cases hf:0≤cs.getD h 0+ch∧cs.getD h 0+ch≤most
      · have hs:stp a b c (cs.getD h 0) most v ch=some x:=by unfold stp;rw [ha];exact if_pos hf
        rw [hs] at hyp
        have ex:=Tb_rd hQ hx.1 (show x<(((a+1).toNat:Nat):Int) by omega)
        have b1:=cap_b acc 20001
        have b2:=cap_b (w x) 20001
        have er:rd (R.set v (cap acc 20001)) (v:Int)=(cap acc 20001):=by
          rw [rd_nat,getD_setI (by omega),if_pos rfl]
        rw [decide_eq_true hf,if_pos rfl,if_pos (by omega),if_pos (by omega),if_pos (by omega),rl_nat,hX0,if_pos (by rw [List.length_set];omega),next_nat (n:=cs.length) (by omega) (by omega),if_pos (by omega),if_pos (by omega),rl_nat,hX1,if_pos (by omega),if_pos (by omega),er,ex,wrap_id (by omega) (by omega),Int.toNat_natCast,Int.toNat_natCast,List.set_set]
        rw [cap_mn]
        refine ih (ch+1) _ (acc+w x) (by rw [List.length_set];exact hX) (by rw [getD_set (by omega),if_neg (by omega)];exact hX1) (by rw [getD_set (by omega),if_pos rfl]) (by omega) (by omega) (fun X' a1 a2 a3=>hyp X' a1 a2 (by rw [a3,Nat.add_assoc]))
      · have hs:stp a b c (cs.getD h 0) most v ch=none:=by unfold stp;rw [ha];exact if_neg hf
        rw [hs] at hyp
        simp only [Nat.zero_add] at hyp
        rw [decide_eq_false hf,if_neg Bool.false_ne_true]
        exact ih (ch+1) X acc hX hX1 hX0 (by omega) (by omega) hyp
theorem cnt_lvl {a b c:Int} (ht:tankOk a b c=true) (cs es:List Int) (most:Int) (hh:cs.all hour=true) (w:Int→Nat) (Q:List Int) (hQ:Tb (a+1).toNat 20001 Q w) (h:Nat) (hc:h<cs.length) (hc24:cs.length≤24) (k:Nat) (Good:List (List Int)→Prop):
    ∀ (n v:Nat) (X:List (List Int)),X.length=cs.length+1→X.getD (h+1) []=Q→(X.getD h []).length=(a+1).toNat→(∀ j,j<v→(X.getD h []).getD j 0=cap (wp a b c (cs.getD h 0) most (j:Int) w (2 * b+1).toNat (-b)) 20001)→(∀ j,v≤j→j<(a+1).toNat→(X.getD h []).getD j 0=0)→v+n=(a+1).toNat→
    (∀ X',X'.length=cs.length+1→Tb (a+1).toNat 20001 (X'.getD h []) (fun z=>wp a b c (cs.getD h 0) most z w (2 * b+1).toNat (-b))→∃ r,impl_charging_counts.l1 k X' (wrap64 ((h:Int) - 1)) a b c cs es most=some r∧Good r)→
    ∃ r,impl_charging_counts.l2 (k+100 * n+1) X (h:Int) (((a+1).toNat:Nat):Int) (v:Int) a b c cs es most=some r∧Good r:=by
  have t:=tankOk_iff.1 ht
  intro n
  induction n with
  |zero=>
    intro v X hX hX1 hXl hA hB hv hyp
    rw [show k+100 * 0+1=k+1 by omega]
    simp only [impl_charging_counts.l2]
    rw [if_neg (by omega)]
    exact hyp X hX ⟨hXl,fun j hj=>hA j (by omega)⟩
  |succ n ih=>
    intro v X hX hX1 hXl hA hB hv hyp
    obtain ⟨Y,hY⟩:∃ Y,Y=k+100 * n+100:=⟨_,rfl⟩
    rw [show k+100 * (n+1)+1=Y+1 by omega]
    simp only [impl_charging_counts.l2]
    rw [if_pos (by omega),wrap_id (x:= -b) (by omega) (by omega)]
    obtain ⟨r,r1,r2⟩:=cnt_inn ht cs es most hh w Q hQ h hc hc24 v (by omega) (((a+1).toNat:Nat):Int) (X.getD h []) hXl (k+100 * n+1) Good (2 * b+1).toNat (-b) X 0 hX hX1 (by rw [cap_zero,set_get (hB v (Nat.le_refl _) (by omega)) (by omega)]) (by omega) (by omega) (fun X' a1 a2 a3=>by
      rw [next_nat (n:=(a+1).toNat) (by omega) (by omega)]
      rw [Nat.zero_add] at a3
      refine ih (v+1) X' a1 a2 (by rw [a3,List.length_set];exact hXl) (fun j hj=>?_) (fun j hj hj2=>?_) (by omega) hyp
      · rw [a3,getD_setI (by omega)]
        by_cases e:v=j
        · subst e;rw [if_pos rfl]
        · rw [if_neg e,← hA j (by omega)]
      · rw [a3,getD_setI (by omega),if_neg (by omega)];exact hB j (by omega) hj2)
    exact ⟨r,up (g:=fun k=>impl_charging_counts.l3 k X (h:Int) (v:Int) (-b) (((a+1).toNat:Nat):Int) (v:Int) a b c cs es most) (fun k=>(impl_charging_counts.mono_l k).2.2.2 _ _ _ _ _ _ _ _ _ _ _ _) r1 _ (by omega),r2⟩
theorem cnt_hrs {a b c:Int} (ht:tankOk a b c=true) (cs es:List Int) (hl:cs.length≤24) (most:Int) (hh:cs.all hour=true):∀ (h:Nat) (X:List (List Int)),h≤cs.length→X.length=cs.length+1→Tb (a+1).toNat 20001 (X.getD h []) (ways a b c most (cs.drop h))→
    ∃ r,impl_charging_counts.l1 (11000 * h+1) X ((h:Int) - 1) a b c cs es most=some r∧(r.length=cs.length+1∧Tb (a+1).toNat 20001 (r.getD 0 []) (ways a b c most cs)):=by
  have t:=tankOk_iff.1 ht
  intro h
  induction h with
  |zero=>
    intro X hd hX hT
    simp only [impl_charging_counts.l1]
    rw [if_neg (by omega)]
    rw [List.drop_zero] at hT
    exact ⟨X,rfl,hX,hT⟩
  |succ h ih=>
    intro X hd hX hT
    obtain ⟨Y,hY⟩:∃ Y,Y=11000 * h+11000:=⟨_,rfl⟩
    rw [show 11000 * (h+1)+1=Y+1 by omega,show ((h+1:Nat):Int) - 1=(h:Int) by omega]
    have eN:wrap64 (a+1)=a+1:=wrap_id (by omega) (by omega)
    simp only [impl_charging_counts.l1,Option.bind_some]
    rw [if_pos (by omega),eN,if_pos (by omega),if_pos (by omega),if_pos (by omega),if_pos (by omega),Int.toNat_natCast,rl_nat,getD_set (by omega),if_pos rfl,List.length_replicate]
    obtain ⟨r,r1,r2⟩:=cnt_lvl ht cs es most hh _ (X.getD (h+1) []) hT h (by omega) hl (11000 * h+1) (fun r=>r.length=cs.length+1∧Tb (a+1).toNat 20001 (r.getD 0 []) (ways a b c most cs)) (a+1).toNat 0 (X.set h (List.replicate (a+1).toNat 0)) (by rw [List.length_set];exact hX) (by rw [getD_set (by omega),if_neg (by omega)]) (by rw [getD_set (by omega),if_pos rfl,List.length_replicate]) (fun j hj=>absurd hj (by omega)) (fun j _ hj=>by rw [getD_set (by omega),if_pos rfl,getD_lt (by rw [List.length_replicate];exact hj),List.getElem_replicate]) (by omega) (fun X' a1 a2=>by
      rw [wrap_id (x:=(h:Int) - 1) (by omega) (by omega)]
      refine ih X' (by omega) a1 ?_
      rw [drop_cons cs (by omega:h<cs.length) 0]
      exact a2)
    exact ⟨r,up (g:=fun k=>impl_charging_counts.l2 k _ (h:Int) _ 0 a b c cs es most) (fun k=>(impl_charging_counts.mono_l k).2.2.1 _ _ _ _ _ _ _ _ _ _) r1 _ (by omega),r2⟩
theorem cnt_ones {a b c:Int} (ht:tankOk a b c=true) (cs es:List Int) (hl:cs.length≤24) (most:Int) (k:Nat) (Good:List (List Int)→Prop) (hyp:∀ X',X'.length=cs.length+1→Tb (a+1).toNat 20001 (X'.getD cs.length []) (fun _=>1)→∃ r,impl_charging_counts.l1 k X' ((cs.length:Int) - 1) a b c cs es most=some r∧Good r):∀ (n v:Nat) (X:List (List Int)),X.length=cs.length+1→(X.getD cs.length []).length=(a+1).toNat→(∀ j,j<v→(X.getD cs.length []).getD j 0=1)→v+n=(a+1).toNat→
    ∃ r,impl_charging_counts.l0 (k+n+1) X (((a+1).toNat:Nat):Int) (v:Int) a b c cs es most=some r∧Good r:=by
  have t:=tankOk_iff.1 ht
  intro n
  induction n with
  |zero=>
    intro v X hX hXl hA hv
    rw [show k+0+1=k+1 by omega]
    simp only [impl_charging_counts.l0]
    rw [if_neg (by omega),wrap_id (by omega) (by omega)]
    exact hyp X hX ⟨hXl,fun j hj=>by rw [hA j (by omega)];rfl⟩
  |succ n ih=>
    intro v X hX hXl hA hv
    obtain ⟨Y,hY⟩:∃ Y,Y=k+n+1:=⟨_,rfl⟩
    rw [show k+(n+1)+1=Y+1 by omega]
    simp only [← hY] at ih
    simp only [impl_charging_counts.l0]
    rw [if_pos (by omega),if_pos (by omega),if_pos (by omega),if_pos (by omega),rl_nat,if_pos (by omega),next_nat (n:=(a+1).toNat) (by omega) (by omega),Int.toNat_natCast,Int.toNat_natCast]
    refine ih (v+1) _ (by rw [List.length_set];exact hX) (by rw [getD_set (by omega),if_pos rfl,List.length_set];exact hXl) (fun j hj=>?_) (by omega)
    rw [getD_set (by omega),if_pos rfl,getD_setI (by omega)]
    by_cases e:v=j
    · rw [if_pos e]
    · rw [if_neg e,← hA j (by omega)]
theorem cnt_all {a b c:Int} (ht:tankOk a b c=true) (cs es:List Int) (hl:cs.length≤24) (most:Int) (hh:cs.all hour=true) (k:Nat) (hk:1000000≤k):∃ r,impl_charging_counts.f k a b c cs es most=some r∧(r.length=cs.length+1∧Tb (a+1).toNat 20001 (r.getD 0 []) (ways a b c most cs)):=by
  have t:=tankOk_iff.1 ht
  have e1:wrap64 ((cs.length:Int)+1)=(cs.length:Int)+1:=wrap_id (by omega) (by omega)
  have eN:wrap64 (a+1)=a+1:=wrap_id (by omega) (by omega)
  have e2:((cs.length:Int)+1).toNat=cs.length+1:=by omega
  have hlen:((List.replicate (cs.length+1) ([]:List Int)).set cs.length (List.replicate (a+1).toNat 0)).length=cs.length+1:=by simp
  have hget:((List.replicate (cs.length+1) ([]:List Int)).set cs.length (List.replicate (a+1).toNat 0)).getD cs.length []=List.replicate (a+1).toNat 0:=by rw [getD_set (by simp),if_pos rfl]
  unfold impl_charging_counts.f
  simp only [Option.bind_some]
  rw [e1,eN,e2,if_pos (by omega),if_pos (by omega),if_pos (by omega),if_pos (by omega),if_pos (by omega),List.length_replicate,if_pos (by omega),Int.toNat_natCast,List.length_replicate]
  obtain ⟨r,r1,r2⟩:=cnt_ones ht cs es hl most (11000 * cs.length+1) (fun r=>r.length=cs.length+1∧Tb (a+1).toNat 20001 (r.getD 0 []) (ways a b c most cs)) (fun X' a1 a2=>by
    refine cnt_hrs ht cs es hl most hh cs.length X' (Nat.le_refl _) a1 ?_
    rw [List.drop_eq_nil_of_le (Nat.le_refl _)]
    exact a2) (a+1).toNat 0 _ hlen (by rw [hget,List.length_replicate]) (fun j hj=>absurd hj (by omega)) (by omega)
  exact ⟨r,up (g:=fun k=>impl_charging_counts.l0 k _ _ 0 a b c cs es most) (fun k=>(impl_charging_counts.mono_l k).1 _ _ _ _ _ _ _ _ _) r1 k (by omega),r2⟩

theorem las_inn {a b c:Int} (ht:tankOk a b c=true) (cs:List Int) (most:Int) (hh:cs.all hour=true) (x9:List Bool) (H:Int) (h:Nat) (hc:h<cs.length) (v:Int) (hv0:0≤v) (hv1:v≤a) (W:Int) (k:Nat) (r:List Int × Int):
    ∀ (n:Nat) (ch:Int) (m:List Bool),m.length=(a+1).toNat→-b≤ch→ch+(n:Int)=b+1→
    impl_LastLevels.l1 k (h:Int) (inn a b c (cs.getD h 0) most v n ch m) H (h:Int) x9 W (wrap64 (v+1)) a b c a b c cs most=some r→
    impl_LastLevels.l2 (k+2 * n+2) (h:Int) m v true ch H (h:Int) x9 W v a b c a b c cs most=some r:=by
  have t:=tankOk_iff.1 ht
  intro n
  induction n with
  |zero=>
    intro ch m hm h0 h1 hyp
    simp only [impl_LastLevels.l2,impl_LastLevels.j3]
    have e:decide (ch≤b)=false:=decide_eq_false (by omega)
    rw [if_pos trivial,e,if_neg Bool.false_ne_true]
    exact hyp
  |succ n ih=>
    intro ch m hm h0 h1 hyp
    have hb:=hour_le (all_getD hh hc)
    obtain ⟨K,hK⟩:∃ K,K=k+2 * n+2:=⟨_,rfl⟩
    rw [show k+2 * (n+1)+2=K+1+1 by omega]
    simp only [← hK] at ih
    simp only [impl_LastLevels.l2,impl_LastLevels.j3]
    have e:decide (ch≤b)=true:=decide_eq_true (by omega)
    obtain ⟨y,hy⟩:=impl_after (ch:=ch) ht hv0 hv1 (by omega) (by omega)
    unfold impl_charging_after.f
    rw [if_pos trivial,e,if_pos rfl,hy,wrap_id (x:=ch+1) (by omega) (by omega)]
    unfold inn at hyp
    have go:=ih (ch+1) (upd a b c (cs.getD h 0) most v m ch) (by rw [upd_len];exact hm) (by omega) (by omega) hyp
    unfold upd at go
    simp only [Option.bind_some]
    cases ha:aft a b c v ch with
    |none=>rw [ha] at go;simpa using go
    |some x=>
      have hx:=aft_le ha
      rw [ha] at go
      simp only [if_true] at go ⊢
      rw [if_pos (by omega),if_pos (by omega),rd_nat,wrap_id (x:=cs.getD h 0+ch) (by omega) (by omega),impl_in]
      simp only [Option.bind_some]
      by_cases hf:0≤cs.getD h 0+ch∧cs.getD h 0+ch≤most
      · rw [if_pos hf] at go
        rw [decide_eq_true hf,if_pos rfl,if_pos (by omega),if_pos (by omega)]
        exact go
      · rw [if_neg hf] at go
        rw [decide_eq_false hf,if_neg Bool.false_ne_true]
        exact go
theorem las_lvl {a b c:Int} (ht:tankOk a b c=true) (cs:List Int) (most:Int) (hh:cs.all hour=true) (x9:List Bool) (h9:x9.length=(a+1).toNat) (h:Nat) (hc:h<cs.length) (H:Int) (k:Nat) (r:List Int × Int):
    ∀ (n:Nat) (v:Int) (m:List Bool),m.length=(a+1).toNat→0≤v→v+(n:Int)=a+1→
    impl_LastLevels.l0 k (lvl a b c (cs.getD h 0) most x9 n v m) H (wrap64 ((h:Int)+1)) a b c a b c cs most=some r→
    impl_LastLevels.l1 (k+100 * n+1) (h:Int) m H (h:Int) x9 (x9.length:Int) v a b c a b c cs most=some r:=by
  have t:=tankOk_iff.1 ht
  intro n
  induction n with
  |zero=>
    intro v m hm h0 h1 hyp
    rw [show k+100 * 0+1=k+1 by omega]
    simp only [impl_LastLevels.l1]
    rw [if_neg (by omega)]
    exact hyp
  |succ n ih=>
    intro v m hm h0 h1 hyp
    obtain ⟨F,hF⟩:∃ F,F=k+100 * n+98:=⟨_,rfl⟩
    rw [show k+100 * (n+1)+1=F+1+1+1 by omega]
    simp only [impl_LastLevels.l1]
    rw [if_pos (by omega),if_pos (by omega),if_pos (by omega),wrap_id (x:= -b) (by omega) (by omega)]
    unfold lvl at hyp
    by_cases hr:x9.getD v.toNat false=true
    · rw [if_pos hr] at hyp
      have er:rdOf false x9 v=true:=hr
      have go:=ih (v+1) (inn a b c (cs.getD h 0) most v (2 * b+1).toNat (-b) m) (by rw [inn_len];exact hm) (by omega) (by omega) hyp
      rw [← wrap_id (x:=v+1) (by omega) (by omega)] at go
      have go2:=las_inn ht cs most hh x9 H h hc v h0 (by omega) _ _ r (2 * b+1).toNat (-b) m hm (by omega) (by omega) go
      rw [er]
      exact up (g:=fun k=>impl_LastLevels.l2 k (h:Int) m v true (-b) H (h:Int) x9 (x9.length:Int) v a b c a b c cs most) (fun k=>(impl_LastLevels.mono_l k).2.2.1 _ _ _ _ _ _ _ _ _ _ _ _ _ _ _ _ _ _) go2 _ (by omega)
    · rw [if_neg hr] at hyp
      have er:rdOf false x9 v=false:=by rw [Bool.not_eq_true] at hr;exact hr
      have go:=ih (v+1) m hm (by omega) (by omega) hyp
      rw [er]
      simp only [impl_LastLevels.l2,impl_LastLevels.j3]
      rw [if_neg Bool.false_ne_true,if_neg Bool.false_ne_true,wrap_id (x:=v+1) (by omega) (by omega)]
      exact up (g:=fun k=>impl_LastLevels.l1 k (h:Int) m H (h:Int) x9 (x9.length:Int) (v+1) a b c a b c cs most) (fun k=>(impl_LastLevels.mono_l k).2.1 _ _ _ _ _ _ _ _ _ _ _ _ _ _ _) go _ (by omega)
theorem las_hrs {a b c:Int} (ht:tankOk a b c=true) (cs:List Int) (hl:cs.length≤24) (most:Int) (hh:cs.all hour=true) (k:Nat) (r:List Int × Int):∀ (d h:Nat) (x9:List Bool),h+d=cs.length→x9.length=(a+1).toNat→
    impl_LastLevels.l3 k [] (hrs a b c most (cs.drop h) x9) ((hrs a b c most (cs.drop h) x9).length:Int) 0=some r→
    impl_LastLevels.l0 (k+11000 * d+1) x9 (cs.length:Int) (h:Int) a b c a b c cs most=some r:=by
  have t:=tankOk_iff.1 ht
  intro d
  induction d with
  |zero=>
    intro h x9 hd h9 hyp
    rw [show k+11000 * 0+1=k+1 by omega]
    simp only [impl_LastLevels.l0]
    rw [List.drop_eq_nil_of_le (by omega)] at hyp
    rw [if_neg (by omega)]
    exact hyp
  |succ d ih=>
    intro h x9 hd h9 hyp
    rw [drop_cons cs (by omega:h<cs.length) 0] at hyp
    obtain ⟨F,hF⟩:∃ F,F=k+11000 * d+11000:=⟨_,rfl⟩
    rw [show k+11000 * (d+1)+1=F+1 by omega]
    simp only [impl_LastLevels.l0]
    rw [if_pos (by omega),wrap_id (x:=a+1) (by omega) (by omega),if_pos (by omega),if_pos (by omega)]
    unfold hrs at hyp
    have go:=ih (h+1) (lvl a b c (cs.getD h 0) most x9 (a+1).toNat 0 (List.replicate (a+1).toNat false)) (by omega) (by rw [lvl_len];simp) hyp
    rw [← next_nat (n:=cs.length) (by omega) (by omega)] at go
    have go2:=las_lvl ht cs most hh x9 h9 h (by omega) _ _ _ (a+1).toNat 0 _ (by simp) (by omega) (by omega) go
    exact up (g:=fun k=>impl_LastLevels.l1 k (h:Int) _ (cs.length:Int) (h:Int) x9 (x9.length:Int) 0 a b c a b c cs most) (fun k=>(impl_LastLevels.mono_l k).2.1 _ _ _ _ _ _ _ _ _ _ _ _ _ _ _) go2 _ (by omega)

/-! What the calls return, told by the runs. -/
def okC (a v most:Int) (cs:List Int):Bool:=decide (0≤v∧v≤a)&&((cs.all hour&&decide ((cs.length:Int)≤24))&&hour most)
theorem okC_iff {a v most:Int} {cs:List Int} (h:okC a v most cs=true):(0≤v∧v≤a)∧cs.all hour=true∧cs.length≤24∧hour most=true:=by
  unfold okC at h
  simp only [Bool.and_eq_true,decide_eq_true_eq] at h
  obtain ⟨h1,⟨h2,h3⟩,h4⟩:=h
  exact ⟨h1,h2,by omega,h4⟩
theorem cst_all {a b c:Int} (ht:tankOk a b c=true) (cs es:List Int) (he:es.length=cs.length) (h24:cs.length≤24) (most:Int) (hh:cs.all hour=true):∃ Y,TabOk a b c most cs es Y∧∀ k,1000000≤k→impl_charging_costs.f k a b c cs es most=some Y:=by
  have t:=tankOk_iff.1 ht
  obtain ⟨Y,i1,i2⟩:=cst_tab ht cs es he h24 most hh cs.length ((List.replicate (cs.length+1) []).set cs.length (List.replicate (a+1).toNat 0)) (Nat.le_refl _) (by simp) (fun j j1 j2=>by
    rw [show j=cs.length by omega,getD_set (by simp),if_pos rfl,List.drop_eq_nil_of_le (Nat.le_refl _)];rfl)
  refine ⟨Y,i2,fun k hk=>?_⟩
  have e1:wrap64 ((cs.length:Int)+1)=(cs.length:Int)+1:=wrap_id (by omega) (by omega)
  have e2:wrap64 ((cs.length:Int) - 1)=(cs.length:Int) - 1:=wrap_id (by omega) (by omega)
  have eN:wrap64 (a+1)=a+1:=wrap_id (by omega) (by omega)
  have e3:((cs.length:Int)+1).toNat=cs.length+1:=by omega
  unfold impl_charging_costs.f
  simp only [Option.bind_some]
  rw [e1,eN,e2,e3]
  clear e1 eN e2
  rw [if_pos (by omega),if_pos (by omega),if_pos (by omega),if_pos (by omega),if_pos (by omega),List.length_replicate,if_pos (by omega),Int.toNat_natCast]
  exact up (g:=fun k=>impl_charging_costs.l0 k _ ((cs.length:Int) - 1) a b c cs es most) (fun k=>(impl_charging_costs.mono_l k).1 _ _ _ _ _ _ _ _) i1 k (by omega)
/-- The best charging is one, costs what is told, and no other costs less; none is told only if there is none. -/
def BestMean (a b c v most:Int) (cs es:List Int) (r:List Int) (m e:Int):Prop:=(e≠0∧r=[]∧m=0∧(e=3→tankOk a b c=true∧okC a v most cs=true∧∀ chs x,run a b c most cs v chs≠some x))∨(e=0∧tankOk a b c=true∧okC a v most cs=true∧es.length=cs.length∧es.all hour=true∧∃ x,run a b c most cs v r=some x∧pay cs es r=m∧∀ chs y,run a b c most cs v chs=some y→m≤pay cs es chs)
theorem all_hour (es:List Int):(es.all fun x=>decide (0≤x∧x≤1000))=es.all hour:=rfl
theorem best_i (a b c v most:Int) (cs es:List Int) (hl:cs.length≤1048576) (hm:es.length≤1048576):∃ r m e,(∀ k,2000000≤k→impl_BestCharging.f k a b c v cs es most=some (r,m,e))∧BestMean a b c v most cs es r m e:=by
  cases ht:tankOk a b c
  · refine ⟨[],0,1,fun k hk=>?_,.inl ⟨by omega,rfl,rfl,fun h=>by omega⟩⟩
    unfold impl_BestCharging.f
    rw [impl_tank,ht];simp
  · have t:=tankOk_iff.1 ht
    cases hb:okC a v most cs
    · refine ⟨[],0,2,fun k hk=>?_,.inl ⟨by omega,rfl,rfl,fun h=>by omega⟩⟩
      unfold okC at hb
      unfold impl_BestCharging.f
      rw [impl_tank,impl_ok,ht,hb];simp
    · obtain ⟨hv,hh,h24,hmm⟩:=okC_iff hb
      have hb':=hb
      unfold okC at hb'
      by_cases hlen:es.length=cs.length
      · cases hes:es.all hour
        · refine ⟨[],0,2,fun k hk=>?_,.inl ⟨by omega,rfl,rfl,fun h=>by omega⟩⟩
          unfold impl_BestCharging.f impl_allWithin.f
          rw [impl_tank,impl_ok,ht,hb',all_hour,hes]
          simp only [Option.bind_some,if_true,Bool.and_self]
          rw [if_pos (by omega),if_neg Bool.false_ne_true]
        · obtain ⟨Y,hT,tabI⟩:=cst_all ht cs es hlen h24 most hh
          have hTl:=hT.1
          have e1:=hT.2 0 (by omega)
          rw [List.drop_zero,List.drop_zero] at e1
          have hR:(Y.getD 0 []).length=(a+1).toNat:=by rw [e1];exact rowOf_len _ _ _ _ _ _
          have e0:rd_L3 Y 0=Y.getD 0 []:=rl_nat Y 0
          by_cases hneg:rd (Y.getD 0 []) v<0
          · refine ⟨[],0,3,fun k hk=>?_,.inl ⟨by omega,rfl,rfl,fun _=>⟨ht,hb,fun chs x hr=>?_⟩⟩⟩
            · unfold impl_BestCharging.f impl_allWithin.f
              rw [impl_tank,impl_ok,ht,hb',all_hour,hes,tabI k (by omega)]
              simp only [Option.bind_some,if_true,Bool.and_self,e0]
              rw [if_pos (by omega),if_pos (by omega),if_pos hv.1,if_pos (by omega),if_pos hneg]
            · have:=(row_le t.2.1.2 cs es hlen hh hes h24 v hv.1 hv.2 chs x hr).1
              rw [← e1] at this
              omega
          · obtain ⟨r,x,w2,w3,w4⟩:=bw_all ht cs es hlen h24 most hh hes Y hT (rd (Y.getD 0 []) v) cs.length 0 [] v (by omega) hv.1 hv.2 (by simp) (by omega)
            rw [List.drop_zero] at w3 w4
            rw [List.drop_zero] at w4
            refine ⟨r,rd (Y.getD 0 []) v,0,fun k hk=>?_,.inr ⟨rfl,ht,hb,hlen,hes,x,w3,w4,fun chs y hr=>?_⟩⟩
            · unfold impl_BestCharging.f impl_allWithin.f
              rw [impl_tank,impl_ok,ht,hb',all_hour,hes,tabI k (by omega)]
              simp only [Option.bind_some,if_true,Bool.and_self,e0]
              rw [if_pos (by omega),if_pos (by omega),if_pos hv.1,if_pos (by omega),if_neg hneg]
              exact w2 k (by omega)
            · have:=(row_le t.2.1.2 cs es hlen hh hes h24 v hv.1 hv.2 chs y hr).2
              rw [← e1] at this
              exact this
      · refine ⟨[],0,2,fun k hk=>?_,.inl ⟨by omega,rfl,rfl,fun h=>by omega⟩⟩
        unfold impl_BestCharging.f
        rw [impl_tank,impl_ok,ht,hb']
        simp only [Option.bind_some,if_true,Bool.and_self]
        rw [if_neg (by omega)]
theorem count_i (a b c v most:Int) (cs:List Int) (hl:cs.length≤1048576) (k:Nat) (hk:2000000≤k):impl_CountChargings.f k a b c v cs most=some (if tankOk a b c=true then (if okC a v most cs=true then (cap (ways a b c most cs v) 20000,0) else (0,2)) else (0,1)):=by
  unfold impl_CountChargings.f
  rw [impl_tank,impl_ok]
  cases ht:tankOk a b c
  · simp
  · have t:=tankOk_iff.1 ht
    cases hb:okC a v most cs
    · unfold okC at hb
      rw [hb];simp
    · obtain ⟨hv,hh,h24,hmm⟩:=okC_iff hb
      unfold okC at hb
      rw [hb]
      obtain ⟨r,r1,r2,r3⟩:=cnt_all ht cs [] h24 most hh k (by omega)
      have r3l:=r3.1
      have ev:=Tb_rd r3 hv.1 (show v<(((a+1).toNat:Nat):Int) by omega)
      have e0:rd_L3 r 0=r.getD 0 []:=rl_nat r 0
      simp only [Option.bind_some,if_true,Bool.and_self,r1,e0]
      rw [if_pos (by omega),if_pos (by omega),if_pos (by omega),ev]
      rw [cap_fin]
theorem las_gather (x:List Bool) (hx:x.length≤1000):∀ (d j:Nat) (acc:List Int),j+d=x.length→acc.length≤j→∃ r,(∀ k,d<k→impl_LastLevels.l3 k acc x (x.length:Int) (j:Int)=some (r,0))∧r.length≤1000∧∀ z,z ∈ r↔z ∈ acc∨∃ i:Nat,j≤i∧i<x.length∧x.getD i false=true∧z=(i:Int):=by
  intro d
  induction d with
  |zero=>
    intro j acc hj ha
    refine ⟨acc,fun k hk=>?_,by omega,fun z=>⟨fun h=>.inl h,fun h=>h.resolve_right (fun ⟨i,h1,h2,_⟩=>by omega)⟩⟩
    obtain ⟨k,rfl⟩:=suc_of hk
    simp only [impl_LastLevels.l3]
    rw [if_neg (by omega)]
  |succ d ih=>
    intro j acc hj ha
    have hn:=next_nat (j:=j) (n:=x.length) (by omega) (by omega)
    have er:rdOf false x (j:Int)=x.getD j false:=rfl
    obtain ⟨r,i,hr,hz⟩:=ih (j+1) (if x.getD j false=true then acc++[(j:Int)] else acc) (by omega) (by split<;>first|omega|(simp;done)|(simp;omega))
    refine ⟨r,fun k hk=>?_,hr,fun z=>?_⟩
    · obtain ⟨k,rfl⟩:=suc_of (show 0<k by omega)
      simp only [impl_LastLevels.l3]
      rw [if_pos (by omega),if_pos (by omega),if_pos (by omega),hn,er]
      have s':=i k (by omega)
      by_cases h:x.getD j false=true
      · rw [if_pos h] at s' ⊢;rw [if_pos (by omega)];exact s'
      · rw [if_neg h] at s' ⊢;exact s'
    · rw [hz]
      by_cases h:x.getD j false=true
      · rw [if_pos h,List.mem_append,List.mem_singleton]
        constructor
        · rintro ((q|q)|⟨i,i1,i2,i3⟩)
          · exact .inl q
          · exact .inr ⟨j,Nat.le_refl _,by omega,h,q⟩
          · exact .inr ⟨i,by omega,i2,i3⟩
        · rintro (q|⟨i,i1,i2,i3,i4⟩)
          · exact .inl (.inl q)
          · by_cases e:i=j
            · subst e;exact .inl (.inr i4)
            · exact .inr ⟨i,by omega,i2,i3,i4⟩
      · rw [if_neg h]
        constructor
        · rintro (q|⟨i,i1,i2,i3⟩)
          · exact .inl q
          · exact .inr ⟨i,by omega,i2,i3⟩
        · rintro (q|⟨i,i1,i2,i3,i4⟩)
          · exact .inl q
          · by_cases e:i=j
            · subst e;exact absurd i3 h
            · exact .inr ⟨i,by omega,i2,i3,i4⟩
theorem last_i (a b c v most:Int) (cs:List Int) (hl:cs.length≤1048576):∃ r,(∀ k,2000000≤k→impl_LastLevels.f k a b c v cs most=some (if tankOk a b c=true then (if okC a v most cs=true then (r,0) else ([],2)) else ([],1)))∧r.length≤1000∧(tankOk a b c=true→okC a v most cs=true→∀ z,z ∈ r↔∃ chs,run a b c most cs v chs=some z):=by
  cases ht:tankOk a b c
  · refine ⟨[],fun k hk=>?_,by simp,fun h=>by cases h⟩
    unfold impl_LastLevels.f
    rw [impl_tank,ht];simp
  · have t:=tankOk_iff.1 ht
    cases hb:okC a v most cs
    · refine ⟨[],fun k hk=>?_,by simp,fun _ h=>by cases h⟩
      unfold okC at hb
      unfold impl_LastLevels.f
      rw [impl_tank,impl_ok,ht,hb];simp
    · obtain ⟨hv,hh,h24,hmm⟩:=okC_iff hb
      have hx:((List.replicate (a+1).toNat false).set v.toNat true).length=(a+1).toNat:=by simp
      have hlen:=hrs_len a b c most cs _ hx
      obtain ⟨r,i,hr,hz⟩:=las_gather (hrs a b c most cs ((List.replicate (a+1).toNat false).set v.toNat true)) (by omega) (hrs a b c most cs ((List.replicate (a+1).toNat false).set v.toNat true)).length 0 [] (by omega) (by simp)
      have hl0:((List.replicate (a+1).toNat false).length:Int)=a+1:=by simp;omega
      have start:∀ w:Int,0≤w→(((List.replicate (a+1).toNat false).set v.toNat true).getD w.toNat false=true↔w=v):=fun w hw=>by
        rw [getD_setB (by rw [List.length_replicate];omega)]
        have z:(List.replicate (a+1).toNat false).getD w.toNat false=false:=by
          rw [List.getD_eq_getElem?_getD,List.getElem?_replicate];split<;>rfl
        rw [z]
        exact ⟨fun h=>by rcases h with h|h;cases h;omega,fun h=>.inr (by rw [h])⟩
      refine ⟨r,fun k hk=>?_,hr,fun _ _ z=>?_⟩
      · unfold okC at hb
        unfold impl_LastLevels.f
        rw [impl_tank,impl_ok,ht,hb]
        simp only [Option.bind_some,if_true,Bool.and_self]
        rw [wrap_id (x:=a+1) (by omega) (by omega),if_pos (by omega),if_pos (by omega),if_pos (by omega),if_pos (by omega)]
        have go:=las_hrs ht cs h24 most hh 1000 (r,0) cs.length 0 ((List.replicate (a+1).toNat false).set v.toNat true) (by omega) hx (by rw [List.drop_zero];exact i 1000 (by omega))
        exact up (g:=fun k=>impl_LastLevels.l0 k ((List.replicate (a+1).toNat false).set v.toNat true) (cs.length:Int) 0 a b c a b c cs most) (fun k=>(impl_LastLevels.mono_l k).1 _ _ _ _ _ _ _ _ _ _ _) go k (by omega)
      · rw [hz]
        constructor
        · rintro (q|⟨j,_,j2,j3,rfl⟩)
          · cases q
          · have:=(hrs_get cs _ hx (j:Int) (by omega) (by omega)).1 (by rw [Int.toNat_natCast];exact j3)
            obtain ⟨w,chs,w0,w1,w2,w3⟩:=this
            rw [(start w w0).1 w2] at w3
            exact ⟨chs,w3⟩
        · rintro ⟨chs,hr2⟩
          have b2:=run_end cs v chs z hv.1 hv.2 hr2
          have:=(hrs_get cs _ hx z b2.1 b2.2).2 ⟨v,chs,hv.1,hv.2,(start v hv.1).2 rfl,hr2⟩
          exact .inr ⟨z.toNat,by omega,by omega,this,by omega⟩

/-! The source that the draws read. -/
theorem wf_u8 {x:Int} (h:(Lit.int .u8 x).wf=true):0≤x∧x≤255:=by
  simp [Lit.wf,IntKind.min,IntKind.max,IntKind.bits,IntKind.signed] at h;omega
def bytes (l:List Int):Prop:=∀ x ∈ l,(Lit.int .u8 x).wf=true
theorem and_b (x:Int):0≤Go.bits .and .u64 x 255∧Go.bits .and .u64 x 255≤255:=by
  unfold Go.bits
  simp only [BitVec.toNat_and]
  have h:(BitVec.ofInt IntKind.u64.bits x).toNat &&& (BitVec.ofInt IntKind.u64.bits 255).toNat≤255:=Nat.le_trans Nat.and_le_right (by decide)
  generalize (BitVec.ofInt IntKind.u64.bits x).toNat &&& (BitVec.ofInt IntKind.u64.bits 255).toNat=n at *
  have e:IntKind.u64.wrap (n:Int)=(n:Int):=by
    unfold IntKind.wrap
    simp [IntKind.bits,IntKind.signed]
    omega
  rw [e];omega
theorem and_w (x:Int):wrap64 (Go.bits .and .u64 x 255)=Go.bits .and .u64 x 255:=by
  have b:=and_b x
  exact wrap_id (by omega) (by omega)
theorem src_next (L:List Int) (hL:bytes L) (i s:Int) (h0:0≤i) (h1:i≤1000000):∃ v s',spec_l00Src_next.f L i s=some (v,i+1,s')∧0≤v∧v≤255:=by
  unfold spec_l00Src_next.f
  rw [wrap_id (x:=i+1) (by omega) (by omega)]
  by_cases c:i<(L.length:Int)
  · obtain ⟨n,rfl⟩:∃ n:Nat,i=n:=⟨i.toNat,by omega⟩
    have hb:0≤L.getD n 0∧L.getD n 0≤255:=by rw [getD_lt (by omega)];exact wf_u8 (hL _ (List.getElem_mem (by omega)))
    rw [if_pos c,if_pos h0,if_pos (by omega),rd_nat,wrap_id (x:=L.getD n 0) (by omega) (by omega)]
    exact ⟨_,_,rfl,hb.1,hb.2⟩
  · rw [if_neg c,if_neg (by omega)]
    rw [and_w]
    exact ⟨_,_,rfl,(and_b _).1,(and_b _).2⟩
theorem src_pick (L:List Int) (hL:bytes L) (i s n:Int) (h0:0≤i) (h1:i≤900000):∃ v j s',spec_l00Src_pick.f L i s n=some (v,j,s')∧(0≤v∧(1<n→v<n))∧i≤j∧j≤i+2:=by
  unfold spec_l00Src_pick.f
  by_cases c:n≤1
  · rw [if_pos c];exact ⟨_,_,_,rfl,⟨by omega,fun h=>by omega⟩,by omega,by omega⟩
  · rw [if_neg c]
    obtain ⟨v,s1,e1,v0,v1⟩:=src_next L hL i s h0 (by omega)
    rw [e1,Option.bind_some]
    simp only []
    by_cases d:n > 200
    · obtain ⟨w,s2,e2,w0,w1⟩:=src_next L hL (i+1) s1 (by omega) (by omega)
      rw [if_pos d,e2,Option.bind_some]
      simp only []
      rw [if_neg (by omega),wrap_id (x:=v * 256) (by omega) (by omega),wrap_id (x:=v * 256+w) (by omega) (by omega),Int.tmod_eq_emod_of_nonneg (by omega)]
      exact ⟨_,_,_,rfl,⟨Int.emod_nonneg _ (by omega),fun _=>Int.emod_lt_of_pos _ (by omega)⟩,by omega,by omega⟩
    · rw [if_neg d,if_neg (by omega),Int.tmod_eq_emod_of_nonneg v0]
      exact ⟨_,_,_,rfl,⟨Int.emod_nonneg _ (by omega),fun _=>Int.emod_lt_of_pos _ (by omega)⟩,by omega,by omega⟩
theorem src_among (L:List Int) (hL:bytes L) (i s:Int) (l:List Int) (hl:0<l.length) (h0:0≤i) (h1:i≤900000):∃ v j s',spec_l00Src_among.f L i s l=some (v,j,s')∧v ∈ l∧i≤j∧j≤i+2:=by
  obtain ⟨v,j,s',e,hv,hj⟩:=src_pick L hL i s (l.length:Int) h0 h1
  have hb:v<(l.length:Int):=by
    by_cases c:1<(l.length:Int)
    · exact hv.2 c
    · have e1:(l.length:Int)=1:=by omega
      unfold spec_l00Src_pick.f at e
      rw [if_pos (by omega)] at e
      cases e;omega
  unfold spec_l00Src_among.f
  rw [e,Option.bind_some]
  simp only []
  rw [if_pos hv.1,if_pos hb]
  refine ⟨_,_,_,rfl,?_,hj.1,hj.2⟩
  obtain ⟨n,rfl⟩:∃ n:Nat,v=n:=⟨v.toNat,by omega⟩
  rw [rd_nat,getD_lt (by omega)]
  exact List.getElem_mem _
theorem src_one (L:List Int) (hL:bytes L) (i s n:Int) (h0:0≤i) (h1:i≤900000):∃ v j s',spec_l00Src_one.f L i s n=some (v,j,s')∧i≤j∧j≤i+2:=by
  obtain ⟨v,j,s',e,hv,hj⟩:=src_pick L hL i s n h0 h1
  unfold spec_l00Src_one.f
  rw [e,Option.bind_some]
  exact ⟨_,_,_,rfl,hj⟩

theorem draw_ok (L:List Int) (hL:bytes L) (i s:Int) (h0:0≤i) (h1:i≤800000):∃ a b c j s',spec_l14DrawOk.f L i s=some (a,b,c,j,s')∧i≤j∧j≤i+6:=by
  obtain ⟨v1,j1,s1,e1,_,k1⟩:=src_pick L hL i s 30 h0 (by omega)
  obtain ⟨v2,j2,s2,e2,_,k2⟩:=src_pick L hL j1 s1 6 (by omega) (by omega)
  obtain ⟨v3,j3,s3,e3,_,k3⟩:=src_among L hL j2 s2 [0,0,10,50,200,1000] (by decide) (by omega) (by omega)
  unfold spec_l14DrawOk.f
  rw [e1,Option.bind_some];simp only []
  rw [e2,Option.bind_some];simp only []
  rw [e3,Option.bind_some]
  exact ⟨_,_,_,_,_,rfl,by first|omega|(dsimp only;omega),by first|omega|(dsimp only;omega)⟩
theorem draw_tank (L:List Int) (hL:bytes L) (i s:Int) (h0:0≤i) (h1:i≤700000):∃ a b c j s',spec_l14Draw.f L i s=some (a,b,c,j,s')∧i≤j∧j≤i+10:=by
  obtain ⟨a,b,c,j1,s1,e1,k1⟩:=draw_ok L hL i s h0 (by omega)
  obtain ⟨v2,j2,s2,e2,_,k2⟩:=src_pick L hL j1 s1 18 (by omega) (by omega)
  unfold spec_l14Draw.f
  rw [e1,Option.bind_some];simp only []
  rw [e2,Option.bind_some];simp only []
  by_cases c1:v2=0
  · obtain ⟨v3,j3,s3,e3,_,k3⟩:=src_among L hL j2 s2 [0,100,101] (by decide) (by omega) (by omega)
    rw [if_pos c1,e3,Option.bind_some]
    exact ⟨_,_,_,_,_,rfl,by first|omega|(dsimp only;omega),by first|omega|(dsimp only;omega)⟩
  · rw [if_neg c1]
    by_cases c2:v2=1
    · obtain ⟨v3,j3,s3,e3,_,k3⟩:=src_among L hL j2 s2 [0,20,21] (by decide) (by omega) (by omega)
      rw [if_pos c2,e3,Option.bind_some]
      exact ⟨_,_,_,_,_,rfl,by first|omega|(dsimp only;omega),by first|omega|(dsimp only;omega)⟩
    · rw [if_neg c2]
      by_cases c3:v2=2
      · obtain ⟨v3,j3,s3,e3,_,k3⟩:=src_among L hL j2 s2 [(-1),1000,1001] (by decide) (by omega) (by omega)
        rw [if_pos c3,e3,Option.bind_some]
        exact ⟨_,_,_,_,_,rfl,by first|omega|(dsimp only;omega),by first|omega|(dsimp only;omega)⟩
      · rw [if_neg c3]
        exact ⟨_,_,_,_,_,rfl,by first|omega|(dsimp only;omega),by first|omega|(dsimp only;omega)⟩
theorem draw_level (L:List Int) (hL:bytes L) (i s:Int) (a b c:Int) (h0:0≤i) (h1:i≤700000):∃ v j s',spec_l14DrawLevel.f L i s [(⟨a,b,c⟩:S25)]=some (v,j,s')∧i≤j∧j≤i+4:=by
  obtain ⟨v1,j1,s1,e1,k1⟩:=src_one L hL i s 12 h0 (by omega)
  unfold spec_l14DrawLevel.f
  rw [e1,Option.bind_some];simp only []
  cases v1 with
  |true=>
    obtain ⟨v3,j3,s3,e3,_,k3⟩:=src_among L hL j1 s1 [(-1),(rd_T25 [(⟨a,b,c⟩:S25)] 0).f0,wrap64 (((rd_T25 [(⟨a,b,c⟩:S25)] 0).f0)+1)] (by simp) (by omega) (by omega)
    rw [if_pos rfl,if_pos (by simp),e3,Option.bind_some]
    exact ⟨_,_,_,rfl,by first|omega|(dsimp only;omega),by first|omega|(dsimp only;omega)⟩
  |false=>
    rw [if_neg Bool.false_ne_true,if_pos (by simp)]
    have em:∃ t,spec_l00Max.f 1 (wrap64 (((rd_T25 [(⟨a,b,c⟩:S25)] 0).f0)+1))=some t:=by
      unfold spec_l00Max.f;split<;>exact ⟨_,rfl⟩
    obtain ⟨t,et⟩:=em
    obtain ⟨v3,j3,s3,e3,_,k3⟩:=src_pick L hL j1 s1 t (by omega) (by omega)
    rw [et,Option.bind_some,e3,Option.bind_some]
    exact ⟨_,_,_,rfl,by first|omega|(dsimp only;omega),by first|omega|(dsimp only;omega)⟩
theorem draw_hours (L:List Int) (hL:bytes L) (h n:Int) (hh:h≤25):∀ (d:Nat) (x i s:Int) (out:List Int),x+(d:Int)=h→0≤x→(out.length:Int)≤x→0≤i→i+2 * (d:Int)≤600000→∃ r j s',(∀ k,d<k→spec_l14DrawHours.l0 k h n out x L i s=some (r,j,s'))∧r.length≤26∧i≤j∧j≤i+2 * (d:Int)+4:=by
  intro d
  induction d with
  |zero=>
    intro x i s out hx x0 ho h0 h1
    obtain ⟨v1,j1,s1,e1,k1⟩:=src_one L hL i s 24 h0 (by omega)
    cases v1 with
    |true=>
      obtain ⟨v3,j3,s3,e3,_,k3⟩:=src_among L hL j1 s1 [(-1),0,1000,1001] (by decide) (by omega) (by omega)
      refine ⟨out++[v3],j3,s3,fun k hk=>?_,by simp;omega,by omega,by omega⟩
      obtain ⟨k,rfl⟩:=suc_of hk
      simp only [spec_l14DrawHours.l0]
      rw [if_neg (by omega),e1,Option.bind_some];simp only []
      rw [if_pos trivial,e3,Option.bind_some,if_pos (by omega)]
    |false=>
      refine ⟨out,j1,s1,fun k hk=>?_,by omega,by omega,by omega⟩
      obtain ⟨k,rfl⟩:=suc_of hk
      simp only [spec_l14DrawHours.l0]
      rw [if_neg (by omega),e1,Option.bind_some];simp only []
      rw [if_neg Bool.false_ne_true]
  |succ d ih=>
    intro x i s out hx x0 ho h0 h1
    obtain ⟨v1,j1,s1,e1,_,k1⟩:=src_pick L hL i s n h0 (by omega)
    obtain ⟨r,j,s',e2,hr,k2⟩:=ih (x+1) j1 s1 (out++[v1]) (by omega) (by omega) (by simp;omega) (by omega) (by omega)
    refine ⟨r,j,s',fun k hk=>?_,hr,by omega,by omega⟩
    obtain ⟨k,rfl⟩:=suc_of (show 0<k by omega)
    simp only [spec_l14DrawHours.l0]
    rw [if_pos (by omega),e1,Option.bind_some,if_pos (by omega),wrap_id (x:=x+1) (by omega) (by omega)]
    exact e2 k (by omega)
theorem draw_hours_f (L:List Int) (hL:bytes L) (h n i s:Int) (hh0:0≤h) (hh:h≤25) (h0:0≤i) (h1:i≤500000):∃ r j s',(∀ k,100≤k→spec_l14DrawHours.f k L i s h n=some (r,j,s'))∧r.length≤26∧i≤j∧j≤i+100:=by
  obtain ⟨r,j,s',e,hr,k1⟩:=draw_hours L hL h n hh h.toNat 0 i s [] (by omega) (by omega) (by simp) h0 (by omega)
  exact ⟨r,j,s',fun k hk=>by unfold spec_l14DrawHours.f;exact e k (by omega),hr,k1.1,by omega⟩
theorem draw_best (L:List Int) (hL:bytes L):∃ a b c v cs es most,(∀ k,100≤k→spec_DrawBestCharging.f k L=some (a,b,c,v,cs,es,most))∧cs.length≤26∧es.length≤26:=by
  obtain ⟨a,b,c,j1,s1,e1,k1⟩:=draw_tank L hL 0 0 (by omega) (by omega)
  obtain ⟨v,j2,s2,e2,k2⟩:=draw_level L hL j1 s1 a b c (by omega) (by omega)
  obtain ⟨h,j3,s3,e3,hm,k3⟩:=src_among L hL j2 s2 [0,1,2,4,6,8,5,3,24,25] (by decide) (by omega) (by omega)
  have hb:0≤h∧h≤25:=by simp at hm;omega
  obtain ⟨cs,j4,s4,e4,l4,k4⟩:=draw_hours_f L hL h 12 j3 s3 hb.1 hb.2 (by omega) (by omega)
  obtain ⟨es,j5,s5,e5,l5,k5⟩:=draw_hours_f L hL h 40 j4 s4 hb.1 hb.2 (by omega) (by omega)
  obtain ⟨m,j6,s6,e6,_,k6⟩:=src_among L hL j5 s5 [8,10,12,20,1000,1001,0] (by decide) (by omega) (by omega)
  refine ⟨a,b,c,v,cs,es,m,fun k hk=>?_,l4,l5⟩
  unfold spec_DrawBestCharging.f spec_l00From.f spec_l14DrawMany.f
  rw [Option.bind_some];simp only []
  rw [e1,Option.bind_some];simp only []
  rw [e2,Option.bind_some];simp only []
  rw [e3,Option.bind_some,Option.bind_some];simp only []
  rw [e4 k hk,Option.bind_some];simp only []
  rw [e5 k hk,Option.bind_some];simp only []
  rw [e6,Option.bind_some]
/-! The checks of a run. -/
theorem cost_l0 {a b c most:Int} (hb:b≤20) (cs es:List Int) (he:es.length=cs.length) (hl:cs.length≤24) (hh:cs.all hour=true) (hm:es.all hour=true) (chs:List Int) (hcl:chs.length=cs.length):∀ (d j:Nat) (v x acc:Int),j+d=cs.length→0≤acc→acc≤1100000 * (j:Int)→run a b c most (cs.drop j) v (chs.drop j)=some x→∀ k,d<k→impl_ChargingCost.l0 k cs es acc chs (chs.length:Int) (j:Int)=some (acc+pay (cs.drop j) (es.drop j) (chs.drop j),0):=by
  intro d
  induction d with
  |zero=>
    intro j v x acc hj h0 h1 hr k hk
    obtain ⟨k,rfl⟩:=suc_of hk
    simp only [impl_ChargingCost.l0]
    rw [if_neg (by omega),List.drop_eq_nil_of_le (by omega:cs.length≤j)]
    simp [pay]
  |succ d ih=>
    intro j v x acc hj h0 h1 hr k hk
    obtain ⟨k,rfl⟩:=suc_of hk
    have hL:=hour_le (all_getD hh (show j<cs.length by omega))
    have hE:=hour_le (all_getD hm (show j<es.length by omega))
    rw [drop_cons cs (by omega:j<cs.length) 0,drop_cons chs (by omega:j<chs.length) 0] at hr
    cases hs:stp a b c (cs.getD j 0) most v (chs.getD j 0) with
    |none=>rw [run_none hs] at hr;cases hr
    |some y=>
      rw [run_some hs] at hr
      have g:=stp_b hs
      have p:=pay_b (L:=cs.getD j 0) (ch:=chs.getD j 0) (E:=es.getD j 0) g.2.1.1 (by omega) hE.1 hE.2
      have i:=ih (j+1) y x (acc+(cs.getD j 0+chs.getD j 0) * es.getD j 0) (by omega) (by omega) (by omega) hr k (by omega)
      rw [drop_cons cs (by omega:j<cs.length) 0,drop_cons chs (by omega:j<chs.length) 0,drop_cons es (by omega:j<es.length) 0]
      have e0:pay (cs.getD j 0 :: cs.drop (j+1)) (es.getD j 0 :: es.drop (j+1)) (chs.getD j 0 :: chs.drop (j+1))=(cs.getD j 0+chs.getD j 0) * es.getD j 0+pay (cs.drop (j+1)) (es.drop (j+1)) (chs.drop (j+1)):=rfl
      rw [e0]
      simp only [impl_ChargingCost.l0,rd_nat]
      rw [if_pos (by omega),if_pos (by omega),if_pos (by omega),if_pos (by omega),wrap_id (x:=cs.getD j 0+chs.getD j 0) (by omega) (by omega),if_neg (by omega),if_pos (by omega),wrap_id (x:=(cs.getD j 0+chs.getD j 0) * es.getD j 0) (by omega) (by omega),wrap_id (x:=acc+(cs.getD j 0+chs.getD j 0) * es.getD j 0) (by omega) (by omega),next_nat (n:=cs.length) (by omega) (by omega),i,Int.add_assoc]
theorem cost_run {a b c most:Int} (hb:b≤20) (cs es:List Int) (he:es.length=cs.length) (hl:cs.length≤24) (hh:cs.all hour=true) (hm:es.all hour=true) (chs:List Int) (v x:Int) (hr:run a b c most cs v chs=some x) (k:Nat) (hk:100≤k):impl_ChargingCost.f k chs cs es=some (pay cs es chs,0):=by
  have hcl:=run_len cs v chs x hr
  have hf:=run_fits hb cs v chs x hr
  obtain ⟨k,rfl⟩:=suc_of (show 0<k by omega)
  have i:=cost_l0 hb cs es he hl hh hm chs hcl cs.length 0 v x 0 (by omega) (by omega) (by omega) hr k (by omega)
  simp only [List.drop_zero,Int.zero_add] at i
  have i2:impl_ChargingCost.l0 k cs es 0 chs (chs.length:Int) 0=_:=i
  unfold impl_ChargingCost.f impl_allWithin.f
  rw [impl_changes,hf.1,all_hour,all_hour,hh,hm,decide_eq_true (by omega),Bool.and_self,Option.bind_some,if_pos rfl,if_pos (by omega),if_pos (by omega),Option.bind_some,if_pos rfl,Option.bind_some,Bool.not_true]
  simp only [impl_ChargingCost.j0]
  rw [if_neg Bool.false_ne_true,i2]
theorem levels_run {a b c v:Int} (ht:tankOk a b c=true) (hv:0≤v∧v≤a) (chs r:List Int) (hl:chs.length≤24) (hc:chs.all change=true) (hr:lev a b c v chs=some r) (k:Nat) (hk:100≤k):spec_LevelsOf.f k a b c v chs=some (r,0):=by
  obtain ⟨k,rfl⟩:=suc_of (show 0<k by omega)
  unfold spec_LevelsOf.f
  rw [spec_tank,spec_in,spec_changes chs (by omega) _ (by omega),ht,decide_eq_true hv,hc,decide_eq_true (show (chs.length:Int)≤24 by omega)]
  simp only [Option.bind_some,if_true,spec_LevelsOf.j0,Bool.and_self,Bool.not_true]
  rw [if_neg Bool.false_ne_true,spec_levels ht chs hl hc hv.1 hv.2 k (by omega),hr]
  rfl
theorem ischarging_s {a b c v most:Int} {cs:List Int} (ht:tankOk a b c=true) (hk:okC a v most cs=true) (chs:List Int) (hcl:chs.length=cs.length) (hc:chs.all change=true) (k:Nat) (hk1:100≤k):spec_IsCharging.f k a b c v chs cs most=some (fits most cs chs&&(lev a b c v chs).isSome):=by
  obtain ⟨hv,hh,h24,hm⟩:=okC_iff hk
  obtain ⟨k,rfl⟩:=suc_of (show 0<k by omega)
  have e2:decide (0≤most∧most≤1000)=hour most:=rfl
  unfold spec_IsCharging.f spec_l14Most.f
  rw [spec_tank,spec_in,spec_changes chs (by omega) _ (by omega),spec_hours cs (by omega) _ (by omega),ht,decide_eq_true hv,hc,hh,decide_eq_true (show (chs.length:Int)≤24 by omega),decide_eq_true (show (cs.length:Int)≤24 by omega)]
  simp only [Option.bind_some,if_true,Bool.and_self,spec_in,e2,hm,Bool.not_true]
  rw [if_pos (by omega)]
  simp only [spec_IsCharging.j0]
  rw [if_neg Bool.false_ne_true]
  have s:=spec_ch_l0 (m:=most) ht hv.1 hv.2 chs cs hcl (by omega) hc hh chs.length 0 k (by omega) (by omega)
  simp only [List.drop_zero] at s
  exact s
theorem has_l0 (R:List Int) (hR:R.length≤1000) (x:Int):∀ (d j:Nat),j+d=R.length→x ∈ R.drop j→∀ k,d<k→laws_b10Has.l0 k R x (j:Int)=some true:=by
  intro d
  induction d with
  |zero=>
    intro j hj hx
    rw [List.drop_eq_nil_of_le (by omega)] at hx;cases hx
  |succ d ih=>
    intro j hj hx k hk
    obtain ⟨k,rfl⟩:=suc_of hk
    rw [drop_cons R (by omega:j<R.length) 0] at hx
    simp only [laws_b10Has.l0,rd_nat]
    rw [if_pos (by omega),if_pos (by omega),next_nat (n:=R.length) (by omega) (by omega)]
    by_cases c:R.getD j 0=x
    · rw [if_pos c]
    · rw [if_neg c]
      rcases List.mem_cons.1 hx with h|h
      · exact absurd h.symm c
      · exact ih (j+1) (by omega) h k (by omega)
theorem has_i (R:List Int) (hR:R.length≤1000) (x:Int) (h:x ∈ R) (k:Nat) (hk:1001≤k):laws_b10Has.f k R x=some true:=by
  unfold laws_b10Has.f
  exact has_l0 R hR x R.length 0 (by omega) (by rw [List.drop_zero];exact h) k (by omega)
theorem FnChargings:laws_FnChargings.Pure:=by
  intro L _ _ hL
  obtain ⟨k,hk⟩:∃ k,k=3000000:=⟨_,rfl⟩
  refine ⟨k+9,?_⟩
  unfold laws_FnChargings.f laws_b10Long.f
  rw [Option.bind_some]
  by_cases c0:(L.length:Int) > 1048576
  · rw [decide_eq_true c0,if_pos rfl]
  rw [decide_eq_false c0,if_neg Bool.false_ne_true,laws_FnChargings.j0.eq_def]
  simp only []
  obtain ⟨a,b,c,v,cs,es,most,ed,l1,l2⟩:=draw_best L hL
  obtain ⟨r,m,e,eb,hb⟩:=best_i a b c v most cs es (by omega) (by omega)
  obtain ⟨R,er,hR,hz⟩:=last_i a b c v most cs (by omega)
  rw [ed (k+8) (by omega),Option.bind_some]
  simp only []
  rw [eb (k+8) (by omega),Option.bind_some,count_i a b c v most cs (by omega) (k+8) (by omega),Option.bind_some,er (k+8) (by omega),Option.bind_some]
  simp only []
  by_cases c1:tankOk a b c=true∧okC a v most cs=true
  · obtain ⟨ht,ho⟩:=c1
    obtain ⟨hv,hh,h24,hm⟩:=okC_iff ho
    have t:=tankOk_iff.1 ht
    have hz:=hz ht ho
    rw [if_pos ht,if_pos ho,if_pos ht,if_pos ho]
    simp only []
    rw [if_pos trivial,if_pos trivial]
    have hw:decide (cap (ways a b c most cs v) 20000 > 0)=decide ((R.length:Int) > 0):=by
      refine decide_eq_decide.2 ⟨fun h=>?_,fun h=>?_⟩
      · have hp:0<ways a b c most cs v:=by
          refine Nat.pos_of_ne_zero (fun q=>?_)
          rw [q,cap_zero] at h;omega
        obtain ⟨chs,x,hx⟩:=(ways_pos cs v).1 hp
        have:=List.length_pos_of_mem ((hz x).2 ⟨chs,hx⟩)
        omega
      · obtain ⟨x,hx⟩:=List.exists_mem_of_length_pos (show 0<R.length by omega)
        obtain ⟨chs,hr⟩:=(hz x).1 hx
        exact cap_pos ((ways_pos cs v).2 ⟨chs,x,hr⟩)
    rw [hw,bne_self_eq_false]
    rw [laws_FnChargings.j1.eq_def]
    simp only []
    rw [if_neg Bool.false_ne_true,laws_FnChargings.j2.eq_def]
    simp only []
    rcases hb with ⟨he,rfl,rfl,h3⟩|⟨rfl,_,_,hlen,hes,x,hr,hp,hmin⟩
    · rw [if_neg he,if_pos (by simp),if_pos rfl]
      by_cases c3:e=3
      · rw [if_pos c3,if_pos trivial]
        have hn:=(h3 c3).2.2
        have hp:ways a b c most cs v=0:=Nat.eq_zero_of_not_pos (fun q=>by
          obtain ⟨chs,x,hx⟩:=(ways_pos cs v).1 q
          exact hn chs x hx)
        rw [hp,cap_zero];rfl
      · rw [if_neg c3]
    · have hcl:=run_len cs v r x hr
      have hf:=run_fits t.2.1.2 cs v r x hr
      obtain ⟨lv,g1,g2,g3⟩:=run_lev cs v r x hr
      rw [if_pos trivial,laws_FnChargings.j3.eq_def]
      simp only []
      rw [cost_run t.2.1.2 cs es hlen h24 hh hes r v x hr (k+5) (by omega),levels_run ht hv r lv (by omega) hf.1 g1 (k+5) (by omega),ischarging_s ht ho r hcl hf.1 (k+5) (by omega),hf.2,g1]
      simp only [Option.bind_some]
      rw [if_pos (by first|trivial|rfl),if_pos trivial,if_pos hp,if_pos trivial,if_pos trivial]
      have hpos:=cap_pos ((ways_pos cs v).2 ⟨r,x,hr⟩)
      rw [decide_eq_false (by omega),laws_FnChargings.j4.eq_def]
      simp only []
      rw [if_neg Bool.false_ne_true,laws_FnChargings.j5.eq_def]
      simp only []
      have hll:=lev_len _ _ _ g1
      have fin:laws_FnChargings.j6 (k+3) v cs es most m R x a b c=some true:=by
        rw [laws_FnChargings.j6.eq_def]
        simp only []
        have hst:(List.replicate cs.length (0:Int)).all change=true:=List.all_eq_true.2 fun y hy=>by
          rw [List.eq_of_mem_replicate hy];rfl
        have hsl:(List.replicate cs.length (0:Int)).length=cs.length:=List.length_replicate
        rw [has_i R hR x ((hz x).2 ⟨r,hr⟩) (k+2) (by omega),Option.bind_some,if_pos rfl,laws_FnChargings.j7.eq_def]
        simp only []
        rw [if_pos (by omega),Int.toNat_natCast,if_pos (by omega),Option.bind_some,ischarging_s ht ho _ hsl hst (k+1) (by omega),Option.bind_some]
        cases hq:(fits most cs (List.replicate cs.length 0)&&(lev a b c v (List.replicate cs.length 0)).isSome)
        · rw [if_neg Bool.false_ne_true]
        · rw [Bool.and_eq_true] at hq
          obtain ⟨y,hy⟩:=fits_run cs v _ hsl hq.1 hq.2
          rw [if_pos rfl,cost_run t.2.1.2 cs es hlen h24 hh hes _ v y hy (k+1) (by omega),Option.bind_some]
          simp only []
          rw [if_pos trivial,decide_eq_true (hmin _ y hy)]
      by_cases c5:(lv.length:Int) > 0
      · obtain ⟨n,hn⟩:∃ n,lv.length=n+1:=⟨lv.length - 1,by omega⟩
        have w1:0≤(lv.length:Int) - 1:=by omega
        have w2:(lv.length:Int) - 1<(lv.length:Int):=by omega
        have w3:wrap64 ((lv.length:Int) - 1)=(lv.length:Int) - 1:=wrap_id (by omega) (by omega)
        have w4:(lv.length:Int) - 1=(n:Int):=by omega
        rw [if_pos c5,w3,if_pos w1,if_pos w2,w4,rd_nat,g3 n hn]
        exact fin
      · rw [if_neg c5]
        have:lv=[]:=List.eq_nil_of_length_eq_zero (by omega)
        rw [g2 this] at fin
        exact fin
  · have he:∃ q:Int,q≠0∧(if tankOk a b c=true then (if okC a v most cs=true then (cap (ways a b c most cs v) 20000,(0:Int)) else (0,2)) else (0,1))=(0,q)∧(if tankOk a b c=true then (if okC a v most cs=true then (R,(0:Int)) else ([],2)) else ([],1))=([],q):=by
      by_cases c2:tankOk a b c=true
      · rw [if_pos c2,if_pos c2]
        have c3:¬ okC a v most cs=true:=fun h=>c1 ⟨c2,h⟩
        rw [if_neg c3,if_neg c3]
        exact ⟨2,by omega,rfl,rfl⟩
      · rw [if_neg c2,if_neg c2]
        exact ⟨1,by omega,rfl,rfl⟩
    obtain ⟨q,q0,q1,q2⟩:=he
    rw [q1,q2]
    simp only []
    rw [if_pos trivial,if_neg q0,laws_FnChargings.j1.eq_def]
    simp only []
    rw [if_neg Bool.false_ne_true,laws_FnChargings.j2.eq_def]
    simp only []
    rcases hb with ⟨he,rfl,rfl,h3⟩|⟨_,ht,ho,_⟩
    · rw [if_neg he,if_pos (by simp),if_pos rfl,if_neg (fun h=>c1 ⟨(h3 h).1,(h3 h).2.1⟩)]
    · exact absurd ⟨ht,ho⟩ c1

end Go.Proofs.Ytemoomgnffkgbaa.Pure
