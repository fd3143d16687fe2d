/- KeepsServed of the program returns what the reference's returns, for every network, all sources, closed pipes, closings and promised nodes. No condition. -/
import Derived.Test.YtjelfhmgbhidnaaPFnExactKeepsServedx16
namespace Go.Proofs.Ytjelfhmgbhidnaa.Pure
open Go.RowKit Go.Proofs.Ytjelfhmgbhidnaa.PFnExactKeepsServed Go.Proofs.YtjelfhmgbhidnaaW.PrintWords Go.Proofs.YtjelfhmgbhidnaaW.PrintLast Go.Proofs.YtjelfhmgbhidnaaW.PrintMore
set_option linter.unusedVariables false
set_option linter.unusedSimpArgs false

theorem wrap_id {x:Int} (h1:-9223372036854775808≤x) (h2:x≤9223372036854775807):wrap64 x=x:=by unfold wrap64;omega
theorem wf_i64 {x:Int} (h:(Lit.int .i64 x).wf=true):-9223372036854775808≤x∧x≤9223372036854775807:=by
  simp [Lit.wf,IntKind.min,IntKind.max,IntKind.bits,IntKind.signed] at h;omega
theorem mul_bounds {a b A B:Int} (h0:0≤a) (hA:a≤A) (h1:-B≤b) (h2:b≤B) (hB:0≤B):-(A * B)≤a * b∧a * b≤A * B:=by
  have e1:=Int.mul_le_mul_of_nonneg_left h2 h0
  have e2:=Int.mul_le_mul_of_nonneg_right hA hB
  have e3:=Int.mul_le_mul_of_nonneg_left h1 h0
  have e4:a * -B= -(a * B):=Int.mul_neg a B
  omega
theorem mul_nonneg' {a b:Int} (h0:0≤a) (h1:0≤b):0≤a * b:=Int.mul_nonneg h0 h1
theorem next_nat {j n:Nat} (h:j<n) (hn:n≤4611686018427387904):wrap64 ((j:Int)+1)=((j+1:Nat):Int):=by
  rw [wrap_id (by omega) (by omega)];omega
theorem rd_nat (l:List Int) (j:Nat):rd l (j:Int)=l.getD j 0:=by unfold rd;simp
theorem ifp {α:Type} {c:Prop} [Decidable c] {a b:α} (h:c):(if c then a else b)=a:=if_pos h
theorem ifn {α:Type} {c:Prop} [Decidable c] {a b:α} (h:¬ c):(if c then a else b)=b:=if_neg h
theorem suc_of {k d:Nat} (h:d<k):∃ m,k=m+1:=⟨k - 1,by omega⟩
theorem getD_lt {α:Type} {l:List α} {j:Nat} {d:α} (h:j<l.length):l.getD j d=l[j]:=by
  rw [List.getD_eq_getElem?_getD,List.getElem?_eq_getElem h];rfl
theorem drop_cons {α:Type} (l:List α) {j:Nat} (h:j<l.length) (d:α):l.drop j=l.getD j d :: l.drop (j+1):=by
  rw [getD_lt h];exact List.drop_eq_getElem_cons h
theorem up {α:Type} {g:Nat→Option α} (hm:∀ k,LeO (g k) (g (k+1))) {k0:Nat} {r:α} (h:g k0=some r):∀ k,k0≤k→g k=some r:=by
  intro k hk
  induction hk with
  |refl=>exact h
  |step _ ih=>exact hm _ _ ih

theorem name_same (s:ByteArray):∀ (k:Nat) (i:Int),spec_l01Name.l0 k s i=impl_onlyNameBytes.l0 k s (s.size:Int) i:=by
  intro k
  induction k with
  |zero=>intro i;simp only [spec_l01Name.l0,impl_onlyNameBytes.l0]
  |succ k ih=>
    intro i
    simp only [spec_l01Name.l0,impl_onlyNameBytes.l0]
    unfold spec_l01Small.f spec_l01Digit.f
    rw [ih]
    generalize impl_onlyNameBytes.l0 k s (s.size:Int) (wrap64 (i+1))=e
    generalize bt s i=b
    by_cases h1:i<(s.size:Int)
    · rw [if_pos h1,if_pos h1,if_pos h1]
      by_cases h2:0≤i
      · rw [if_pos h2,if_pos h2]
        by_cases c1:b<97
        · rw [if_pos c1,if_neg (by omega)]
          by_cases c2:b<48
          · rw [if_pos c2,if_neg (by omega)];simp
          · rw [if_neg c2,if_pos (by omega)]
            by_cases c3:b > 57
            · rw [if_pos c3,decide_eq_false (by omega)];simp
            · rw [if_neg c3,decide_eq_true (by omega)];simp
        · rw [if_neg c1,if_pos (by omega)]
          by_cases c4:b > 122
          · rw [if_pos c4,decide_eq_false (by omega),if_pos (by omega),if_neg (by omega),decide_eq_false (by omega),if_pos (by omega)];simp
          · rw [if_neg c4,decide_eq_true (by omega)];simp
      · rw [if_neg h2,if_neg h2]
    · rw [if_neg h1,if_neg h1]
theorem name_total (s:ByteArray) (hs:s.size≤35184372088832):∀ (d j k:Nat),j+d=s.size→d<k→∃ r,impl_onlyNameBytes.l0 k s (s.size:Int) (j:Int)=some r:=by
  intro d
  induction d with
  |zero=>
    intro j k hj hk
    obtain ⟨k,rfl⟩:=suc_of hk
    simp only [impl_onlyNameBytes.l0]
    rw [if_neg (by omega)];exact ⟨_,rfl⟩
  |succ d ih=>
    intro j k hj hk
    obtain ⟨k,rfl⟩:=suc_of hk
    obtain ⟨r,hr⟩:=ih (j+1) k (by omega) (by omega)
    simp only [impl_onlyNameBytes.l0]
    rw [if_pos (by omega),if_pos (by omega),if_pos (by omega),next_nat (n:=s.size) (by omega) (by omega),hr]
    split
    · split
      · exact ⟨_,rfl⟩
      · split
        · exact ⟨_,rfl⟩
        · exact ⟨_,rfl⟩
    · split
      · split
        · exact ⟨_,rfl⟩
        · split
          · exact ⟨_,rfl⟩
          · exact ⟨_,rfl⟩
      · exact ⟨_,rfl⟩
/-- A name is one for both. -/
theorem name_both (s:ByteArray) (hs:s.size≤35184372088832):∃ b:Bool,(∀ k,s.size+3≤k→spec_l01Name.f k s=some b)∧(∀ k,s.size+3≤k→impl_IsName.f k s=some b)∧(b=true→1≤s.size∧s.size≤10):=by
  obtain ⟨r,hr⟩:=name_total s hs s.size 0 (s.size+2) (by omega) (by omega)
  have hr3:impl_onlyNameBytes.l0 (s.size+3) s (s.size:Int) 0=some r:=impl_onlyNameBytes.mono_l (s.size+2) s (s.size:Int) 0 r hr
  have hr2:impl_onlyNameBytes.l0 (s.size+2) s (s.size:Int) 0=some r:=hr
  have key:∃ b:Bool,spec_l01Name.f (s.size+3) s=some b∧impl_IsName.f (s.size+3) s=some b∧(b=true→1≤s.size∧s.size≤10):=by
    have bad:spec_l01Name.j0 (s.size+3) s true=some false:=by simp only [spec_l01Name.j0];simp
    unfold spec_l01Name.f impl_IsName.f impl_onlyNameBytes.f
    by_cases h0:s.size=0
    · have e:s.toList=[]:=by
        rw [ByteArray.toList_eq];exact List.eq_nil_of_length_eq_zero (by rw [Array.length_toList];exact h0)
      rw [if_pos e,if_pos (by omega),bad];exact ⟨_,rfl,rfl,by simp⟩
    · have e:¬ s.toList=[]:=by
        rw [ByteArray.toList_eq]
        intro h
        have:s.data.toList.length=0:=by rw [h];rfl
        rw [Array.length_toList] at this
        exact h0 this
      rw [if_neg e,if_neg (show ¬ (s.size:Int)<1 by omega)]
      by_cases h1:(s.size:Int) > 10
      · rw [if_pos h1,if_pos h1,bad];exact ⟨_,rfl,rfl,by simp⟩
      · rw [if_neg h1,if_neg h1,if_pos (by omega),if_pos (by omega)]
        unfold spec_l01Small.f
        by_cases c1:bt s 0<97
        · rw [if_pos c1,if_neg (by omega)]
          simp only [Option.bind_some,Bool.not_false]
          exact ⟨_,bad,rfl,by simp⟩
        · rw [if_neg c1,if_pos (by omega)]
          by_cases c2:bt s 0 > 122
          · rw [if_pos c2,decide_eq_false (by omega)]
            simp only [Option.bind_some,Bool.not_false]
            exact ⟨_,bad,rfl,by simp⟩
          · rw [if_neg c2,decide_eq_true (by omega),hr3]
            simp only [Option.bind_some,Bool.not_true]
            refine ⟨r,?_,rfl,fun _=>by omega⟩
            simp only [spec_l01Name.j0]
            rw [if_neg Bool.false_ne_true,name_same]
            exact hr2
  obtain ⟨b,h1,h2,h3⟩:=key
  exact ⟨b,up (spec_l01Name.mono s) h1,up (impl_IsName.mono s) h2,h3⟩

theorem impl_in (n lo hi:Int):impl_within.f n lo hi=some (decide (lo≤n∧n≤hi)):=by unfold impl_within.f;split<;>simp<;>omega

theorem spec_in (n lo hi:Int):spec_l00In.f n lo hi=some (decide (lo≤n∧n≤hi)):=by unfold spec_l00In.f;split<;>simp<;>omega

/-- A pipe is valid for both. -/
theorem pipe_both (s:ByteArray) (a b l w c:Int) (hs:s.size≤35184372088832):∃ v:Bool,(∀ k,s.size+4≤k→spec_l03Ok.f k [(⟨s,a,b,l,w,c⟩:S80)]=some v)∧(∀ k,s.size+4≤k→impl_ValidPipe.f k s a b l w c=some v)∧
    (v=true→1≤s.size∧s.size≤10∧0≤a∧a≤15∧0≤b∧b≤15∧a≠b∧1≤l∧l≤10000∧20≤w∧w≤1000∧0≤c∧c≤5000):=by
  obtain ⟨nb,n1,n2,n3⟩:=name_both s hs
  have key:∃ v:Bool,(∀ k,s.size+4≤k→spec_l03Ok.f k [(⟨s,a,b,l,w,c⟩:S80)]=some v∧impl_ValidPipe.f k s a b l w c=some v)∧
    (v=true→1≤s.size∧s.size≤10∧0≤a∧a≤15∧0≤b∧b≤15∧a≠b∧1≤l∧l≤10000∧20≤w∧w≤1000∧0≤c∧c≤5000):=by
    refine ⟨nb&&decide (0≤a∧a≤15)&&decide (0≤b∧b≤15)&&!(a==b)&&decide (1≤l∧l≤10000)&&decide (20≤w∧w≤1000)&&decide (0≤c∧c≤5000),fun k hk=>?_,fun h=>?_⟩
    · obtain ⟨k,rfl⟩:∃ k',k=k' +1:=⟨k - 1,by omega⟩
      have r0:rd_T80 [(⟨s,a,b,l,w,c⟩:S80)] 0=⟨s,a,b,l,w,c⟩:=rfl
      have l0:0<(([(⟨s,a,b,l,w,c⟩:S80)].length:Nat):Int):=by simp
      have bad:spec_l03Ok.j0 (k+1) [(⟨s,a,b,l,w,c⟩:S80)] true=some false:=by simp only [spec_l03Ok.j0];simp
      have good:spec_l03Ok.j0 (k+1) [(⟨s,a,b,l,w,c⟩:S80)] false=some (decide (1≤l∧l≤10000)&&decide (20≤w∧w≤1000)&&decide (0≤c∧c≤5000)):=by
        simp only [spec_l03Ok.j0,r0]
        rw [if_neg Bool.false_ne_true,if_pos l0]
        simp only [spec_in,Option.bind_some]
        cases decide (1≤l∧l≤10000)<;>cases decide (20≤w∧w≤1000)<;>simp
      unfold spec_l03Ok.f impl_ValidPipe.f impl_nodeOk.f
      rw [r0,if_pos l0,n1 (k+1) (by omega),n2 (k+1) (by omega)]
      simp only [spec_in,impl_in,Option.bind_some]
      cases nb
      · simp [bad]
      · cases decide (0≤a∧a≤15)
        · simp [bad]
        · cases decide (0≤b∧b≤15)
          · simp [bad]
          · by_cases e:a=b
            · subst e;simp [bad]
            · have e':(a==b)=false:=by simpa using e
              rw [e',good]
              simp only [if_true,if_neg e,Bool.not_false,Bool.true_and]
              cases decide (1≤l∧l≤10000)<;>cases decide (20≤w∧w≤1000)<;>simp
    · simp only [Bool.and_eq_true,decide_eq_true_eq,Bool.not_eq_true',beq_eq_false_iff_ne] at h
      have:=n3 h.1.1.1.1.1.1
      obtain ⟨⟨⟨⟨⟨⟨h1,h2⟩,h3⟩,h4⟩,h5⟩,h6⟩,h7⟩:=h
      exact ⟨this.1,this.2,h2.1,h2.2,h3.1,h3.2,h4,h5.1,h5.2,h6.1,h6.2,h7.1,h7.2⟩
  obtain ⟨v,h1,h2⟩:=key
  exact ⟨v,fun k hk=>(h1 k hk).1,fun k hk=>(h1 k hk).2,h2⟩

theorem sz_list {α:Type} (z:α) (L:Nat→List α→Int→Int→Option Int) (sz:Nat→α→Int→Option Int) (hL:∀ k x n i,L (k+1) x n i=if i<(x.length:Int) then (if 0≤i then ((sz k (x.getD i.toNat z) n).bind fun t=>if t<0 then some (-1) else L k x t (wrap64 (i+1))) else none) else some n)
    (Wf Sm:α→Prop) (K:Nat) (hsz:∀ k x n,K<k→Wf x→0≤n→n≤1048576→∃ r,sz k x n=some r∧r≤n∧(0≤r→Sm x)) (l:List α) (hl:l.length≤1048576) (hw:∀ x ∈ l,Wf x):
    ∀ (d j k:Nat) (n:Int),j+d=l.length→K+d<k→0≤n→n≤1048576→∃ r,L k l n (j:Int)=some r∧r≤n∧-1≤r∧(0≤r→∀ i (h:i<l.length),j≤i→Sm l[i]):=by
  intro d
  induction d with
  |zero=>
    intro j k n hj hk h0 h1
    obtain ⟨k,rfl⟩:=suc_of hk
    rw [hL,if_neg (by omega)]
    exact ⟨n,rfl,by omega,by omega,fun _ i h hi=>by omega⟩
  |succ d ih=>
    intro j k n hj hk h0 h1
    obtain ⟨k,rfl⟩:=suc_of hk
    rw [hL,if_pos (by omega),if_pos (by omega),Int.toNat_natCast]
    obtain ⟨r,r1,r2,r4⟩:=hsz k (l.getD j z) n (by omega) (by rw [getD_lt (by omega)];exact hw _ (List.getElem_mem _)) h0 h1
    rw [r1,Option.bind_some]
    by_cases c:r<0
    · rw [if_pos c];exact ⟨-1,rfl,by omega,by omega,fun h=>by omega⟩
    · rw [if_neg c,next_nat (n:=l.length) (by omega) (by omega)]
      obtain ⟨q,q1,q2,q3,q4⟩:=ih (j+1) k r (by omega) (by omega) (by omega) (by omega)
      refine ⟨q,q1,by omega,by omega,fun hq i h hi=>?_⟩
      by_cases e:i=j
      · subst e
        have:=r4 (by omega)
        rwa [getD_lt h] at this
      · exact q4 hq i h (by omega)
theorem to_list {α β:Type} (z:α) (L:Nat→List α→List β→Int→Option (List β)) (tov:Nat→α→Option β) (hL:∀ k x m i,L (k+1) x m i=if i<(x.length:Int) then (if 0≤i then ((tov k (x.getD i.toNat z)).bind fun b=>if i<(m.length:Int) then L k x (m.set i.toNat b) (wrap64 (i+1)) else none) else none) else some m)
    (g:α→β) (K:Nat) (l:List α) (hl:l.length≤1048576) (hto:∀ k,K<k→∀ x ∈ l,tov k x=some (g x)):
    ∀ (d j k:Nat) (m:List β),j+d=l.length→K+d<k→m.length=l.length→(∀ i,i<j→m[i]? =(l.map g)[i]?)→L k l m (j:Int)=some (l.map g):=by
  intro d
  induction d with
  |zero=>
    intro j k m hj hk hm hp
    obtain ⟨k,rfl⟩:=suc_of hk
    rw [hL,if_neg (by omega)]
    congr 1
    apply List.ext_getElem?
    intro i
    by_cases hi:i<j
    · exact hp i hi
    · rw [List.getElem?_eq_none (by omega),List.getElem?_eq_none (by simp;omega)]
  |succ d ih=>
    intro j k m hj hk hm hp
    obtain ⟨k,rfl⟩:=suc_of hk
    rw [hL,if_pos (by omega),if_pos (by omega),Int.toNat_natCast,hto k (by omega) _ (by rw [getD_lt (by omega)];exact List.getElem_mem _),Option.bind_some,if_pos (by omega),next_nat (n:=l.length) (by omega) (by omega)]
    refine ih (j+1) k _ (by omega) (by omega) (by simpa using hm) (fun i hi=>?_)
    rw [List.getElem?_set]
    by_cases e:j=i
    · subst e
      rw [if_pos rfl,if_pos (by omega),getD_lt (by omega),List.getElem?_map,List.getElem?_eq_getElem (by omega)];rfl
    · rw [if_neg e];exact hp i (by omega)
theorem eq_list {β:Type} (z:β) (L:Nat→List β→List β→Int→Option Bool) (eq:Nat→β→β→Option Bool) (hL:∀ k x y i,L (k+1) x y i=if i<(x.length:Int) then (if 0≤i then (if i<(y.length:Int) then ((eq k (x.getD i.toNat z) (y.getD i.toNat z)).bind fun t=>if t=true then L k x y (wrap64 (i+1)) else some false) else none) else none) else some true)
    (K:Nat) (l:List β) (hl:l.length≤1048576) (heq:∀ k,K<k→∀ x ∈ l,eq k x x=some true):
    ∀ (d j k:Nat),j+d=l.length→K+d<k→L k l l (j:Int)=some true:=by
  intro d
  induction d with
  |zero=>
    intro j k hj hk
    obtain ⟨k,rfl⟩:=suc_of hk
    rw [hL,if_neg (by omega)]
  |succ d ih=>
    intro j k hj hk
    obtain ⟨k,rfl⟩:=suc_of hk
    rw [hL,if_pos (by omega),if_pos (by omega),if_pos (by omega),Int.toNat_natCast,heq k (by omega) _ (by rw [getD_lt (by omega)];exact List.getElem_mem _),Option.bind_some,if_pos rfl,next_nat (n:=l.length) (by omega) (by omega)]
    exact ih (j+1) k (by omega) (by omega)
theorem bne_cast (a b:Nat):((a:Int)!=(b:Int))=!(decide (a=b)):=by
  by_cases h:a=b
  · subst h;simp
  · have h2:¬ (a:Int)=(b:Int):=by omega
    rw [decide_eq_false h];exact bne_iff_ne.2 h2

theorem toI_l0 (l:List Int) (hl:l.length≤35184372088832):∀ (d j k:Nat) (m:List Int),j+d=l.length→d<k→m.length=l.length→(∀ i,i<j→m[i]? =l[i]?)→laws_toInt64S.l0 k l m (j:Int)=some l:=by
  intro d
  induction d with
  |zero=>
    intro j k m hj hk hm hp
    obtain ⟨k,rfl⟩:=suc_of hk
    simp only [laws_toInt64S.l0]
    rw [if_neg (by omega)]
    congr 1
    apply List.ext_getElem?
    intro i
    by_cases hi:i<j
    · exact hp i hi
    · rw [List.getElem?_eq_none (by omega),List.getElem?_eq_none (by omega)]
  |succ d ih=>
    intro j k m hj hk hm hp
    obtain ⟨k,rfl⟩:=suc_of hk
    simp only [laws_toInt64S.l0]
    rw [if_pos (by omega),if_pos (by omega),if_pos (by omega),next_nat (n:=l.length) (by omega) (by omega)]
    refine ih (j+1) k _ (by omega) (by omega) (by simpa using hm) (fun i hi=>?_)
    rw [Int.toNat_natCast,rd_nat,List.getElem?_set]
    by_cases e:j=i
    · subst e
      rw [if_pos rfl,if_pos (by omega),getD_lt (by omega),List.getElem?_eq_getElem (by omega)]
    · rw [if_neg e];exact hp i (by omega)
theorem toI (l:List Int) (hl:l.length≤35184372088832) (k:Nat) (hk:l.length<k):laws_toInt64S.f k l=some l:=by
  unfold laws_toInt64S.f
  rw [if_pos (by omega),if_pos (by omega)]
  exact toI_l0 l hl l.length 0 k _ (by omega) hk (by simp) (fun i hi=>absurd hi (by omega))

theorem eqI_l0 (l:List Int) (hl:l.length≤35184372088832):∀ (d j k:Nat),j+d=l.length→d<k→laws_eqInt64S.l0 k l l (j:Int)=some true:=by
  intro d
  induction d with
  |zero=>
    intro j k hj hk
    obtain ⟨k,rfl⟩:=suc_of hk
    simp only [laws_eqInt64S.l0]
    rw [if_neg (by omega)]
  |succ d ih=>
    intro j k hj hk
    obtain ⟨k,rfl⟩:=suc_of hk
    simp only [laws_eqInt64S.l0]
    rw [if_pos (by omega),if_pos (by omega),if_pos (by omega),if_pos trivial,next_nat (n:=l.length) (by omega) (by omega)]
    exact ih (j+1) k (by omega) (by omega)
theorem eqI (l:List Int) (hl:l.length≤35184372088832) (k:Nat) (hk:l.length<k):laws_eqInt64S.f k l l=some true:=by
  unfold laws_eqInt64S.f
  rw [if_pos rfl]
  exact eqI_l0 l hl l.length 0 k (by omega) hk

theorem impl_all (l:List Int) (lo hi:Int):impl_allWithin.f l lo hi=some (l.all fun x=>decide (lo≤x∧x≤hi)):=rfl

def pip (x:S99):S80:=⟨x.f0,x.f1,x.f2,x.f3,x.f4,x.f5⟩
theorem szInts (l:List Int) (hl:l.length≤9223372036854775807) (n:Int) (h0:0≤n) (h1:n≤1048576):∃ r,laws_szInt64S.f l n=some r∧r≤n∧-1≤r∧(0≤r→l.length≤1048576):=by
  unfold laws_szInt64S.f
  rw [wrap_id (x:=n - (l.length:Int)) (by omega) (by omega)]
  by_cases c:n - (l.length:Int)<0
  · rw [if_pos c];exact ⟨-1,rfl,by omega,by omega,fun h=>by omega⟩
  · rw [if_neg c];exact ⟨_,rfl,by omega,by omega,fun h=>by omega⟩
theorem szPipes (l:List S99) (hw:wfLT99 l) (n:Int) (h0:0≤n) (h1:n≤1048576) (k:Nat) (hk:1048577<k):∃ r,laws_szPipeS.f k l n=some r∧r≤n∧-1≤r∧(0≤r→l.length≤1048576∧∀ x ∈ l,x.f0.size≤1048576):=by
  obtain ⟨hl,hw⟩:=hw
  unfold laws_szPipeS.f
  rw [wrap_id (x:=n - (l.length:Int)) (by omega) (by omega)]
  by_cases c:n - (l.length:Int)<0
  · rw [if_pos c];exact ⟨-1,rfl,by omega,by omega,fun h=>by omega⟩
  · rw [if_neg c]
    obtain ⟨r,r1,r2,r3,r4⟩:=sz_list z99 laws_szPipeS.l0 (fun _ x n=>laws_szPipe.f x.f0 x.f1 x.f2 x.f3 x.f4 x.f5 n) (fun _ _ _ _=>rfl) wfT99 (fun x=>x.f0.size≤1048576) 0 (fun k x n _ hx h0 h1=>by
      have hs:=hx.1
      simp only [maxLen] at hs
      unfold laws_szPipe.f
      rw [wrap_id (x:=n - (x.f0.size:Int)) (by omega) (by omega)]
      by_cases c:n - (x.f0.size:Int)<0
      · rw [if_pos c];exact ⟨-1,rfl,by omega,fun h=>by omega⟩
      · rw [if_neg c];exact ⟨_,rfl,by omega,fun h=>by omega⟩) l (by omega) hw l.length 0 k (n - (l.length:Int)) (by omega) (by omega) (by omega) (by omega)
    exact ⟨r,r1,by omega,r3,fun h=>⟨by omega,fun x hx=>by
      obtain ⟨i,hi,rfl⟩:=List.mem_iff_getElem.1 hx
      exact r4 h i hi (by omega)⟩⟩
theorem toPipes (l:List S99) (hl:l.length≤1048576) (k:Nat) (hk:1048577<k):laws_toPipeS.f k l=some (l.map pip):=by
  unfold laws_toPipeS.f
  rw [if_pos (by omega),if_pos (by omega)]
  exact to_list z99 laws_toPipeS.l0 (fun _ x=>some (pip x)) (fun k x m i=>by
    simp only [laws_toPipeS.l0,laws_toPipe.f,Option.bind_some];rfl) pip 0 l hl (fun _ _ _ _=>rfl) l.length 0 k _ (by omega) (by omega) (by simp) (fun i hi=>absurd hi (by omega))
theorem eqPipes (l:List S80) (hl:l.length≤1048576) (k:Nat) (hk:1048577<k):laws_eqPipeS.f k l l=some true:=by
  unfold laws_eqPipeS.f
  rw [if_pos rfl]
  exact eq_list z80 laws_eqPipeS.l0 (fun _ a b=>laws_eqPipe.f a.f0 a.f1 a.f2 a.f3 a.f4 a.f5 b.f0 b.f1 b.f2 b.f3 b.f4 b.f5) (fun _ _ _ _=>rfl) 0 l hl (fun _ _ x _=>by simp [laws_eqPipe.f]) l.length 0 k (by omega) (by omega)
/-- The sizes of a network. -/
def NetSm (N:List Int) (P:List S99):Prop:=N.length≤1048576∧P.length≤1048576∧∀ x ∈ P,x.f0.size≤1048576
theorem szNet (x:S25) (hx:wfT25 x) (k:Nat) (hk:1048577<k):∃ r,laws_szNetwork.f k x.f0 x.f1 1048576=some r∧r≤1048576∧-1≤r∧(0≤r→NetSm x.f0 x.f1):=by
  obtain ⟨h1,h2⟩:=hx
  unfold laws_szNetwork.f
  obtain ⟨r,r1,r2,r3,r4⟩:=szInts x.f0 h1.1 1048576 (by omega) (by omega)
  rw [r1,Option.bind_some]
  by_cases c:r<0
  · rw [if_pos c];exact ⟨-1,rfl,by omega,by omega,fun h=>by omega⟩
  · rw [if_neg c]
    obtain ⟨q,q1,q2,q3,q4⟩:=szPipes x.f1 h2 r (by omega) (by omega) k hk
    rw [q1,Option.bind_some]
    by_cases c2:q<0
    · rw [if_pos c2];exact ⟨-1,rfl,by omega,by omega,fun h=>by omega⟩
    · rw [if_neg c2];exact ⟨q,rfl,by omega,by omega,fun h=>⟨r4 (by omega),(q4 h).1,(q4 h).2⟩⟩
theorem toNet (N:List Int) (P:List S99) (h:NetSm N P) (k:Nat) (hk:1048577<k):laws_toNetwork.f k N P=some (N,P.map pip):=by
  unfold laws_toNetwork.f
  have h1:=h.1
  rw [toI N (by omega) k (by omega),Option.bind_some,toPipes P h.2.1 k hk];rfl
theorem eqNet (N:List Int) (P:List S99) (h:NetSm N P) (k:Nat) (hk:1048577<k):laws_eqNetwork.f k N (P.map pip) N (P.map pip)=some true:=by
  unfold laws_eqNetwork.f
  have h1:=h.1
  rw [eqI N (by omega) k (by omega),Option.bind_some,if_pos rfl,eqPipes (P.map pip) (by simpa using h.2.1) k hk];rfl
/-- A pipe's validity. -/
def pv (x:S80):Bool:=(impl_ValidPipe.f 1048620 x.f0 x.f1 x.f2 x.f3 x.f4 x.f5).getD false
theorem pv_spec (x:S80) (hs:x.f0.size≤1048576):(∀ k,1048620≤k→spec_l03Ok.f k [x]=some (pv x))∧(∀ k,1048620≤k→impl_ValidPipe.f k x.f0 x.f1 x.f2 x.f3 x.f4 x.f5=some (pv x))∧(pv x=true→(0≤x.f1∧x.f1≤15)∧(0≤x.f2∧x.f2≤15)∧x.f1≠x.f2):=by
  obtain ⟨v,v1,v2,v3⟩:=pipe_both x.f0 x.f1 x.f2 x.f3 x.f4 x.f5 (by omega)
  have e:pv x=v:=by unfold pv;rw [v2 1048620 (by omega)];rfl
  exact ⟨fun k hk=>by rw [e];exact v1 k (by omega),fun k hk=>by rw [e];exact v2 k (by omega),fun h=>by
    have p:=v3 (e ▸ h)
    exact ⟨⟨p.2.2.1,p.2.2.2.1⟩,⟨p.2.2.2.2.1,p.2.2.2.2.2.1⟩,p.2.2.2.2.2.2.1⟩⟩
def pat (P:List S80) (i:Nat):S80:=P.getD i z80
theorem rdP (P:List S80) (i:Nat):rd_T80 P (i:Int)=pat P i:=rfl
theorem rdN (x:S32):rd_T32 [x] 0=x:=rfl
def less (a b:ByteArray):Bool:=Op.bytesLess a.toList b.toList
def ptOk (n:Nat) (P:List S80) (i:Nat):Bool:=pv (pat P i)&&(decide ((pat P i).f1<(n:Int))&&(decide ((pat P i).f2<(n:Int))&&(if i=0 then true else less (pat P (i - 1)).f0 (pat P i).f0)))
def ptAll (n:Nat) (P:List S80):Nat→Nat→Bool
  |0,_=>true
  |d+1,j=>ptOk n P j&&ptAll n P d (j+1)
theorem fits_spec (N:List Int) (P:List S80) (p:S80) (hp:p.f0.size≤1048576) (k:Nat) (hk:1048620≤k):spec_l04Fits.f k [(⟨N,P⟩:S32)] [p]=some (pv p&&(decide (p.f1<(N.length:Int))&&decide (p.f2<(N.length:Int)))):=by
  unfold spec_l04Fits.f
  rw [(pv_spec p hp).1 k hk,Option.bind_some]
  cases pv p
  · rfl
  · rw [if_pos rfl,if_pos (by simp),if_pos (by simp),rdN,show rd_T80 [p] 0=p from rfl]
    by_cases h:p.f1<(N.length:Int)
    · rw [if_pos h,decide_eq_true h];simp
    · rw [if_neg h,decide_eq_false h];rfl
theorem ends_impl (N:List Int) (P:List S80) (p:S80) (hN:N.length≤1048576) (hv:(0≤p.f1∧p.f1≤15)∧(0≤p.f2∧p.f2≤15)):impl_Network_hasEnds.f N P p.f0 p.f1 p.f2 p.f3 p.f4 p.f5=some (decide (p.f1<(N.length:Int))&&decide (p.f2<(N.length:Int))):=by
  unfold impl_Network_hasEnds.f impl_Network_hasNode.f
  rw [wrap_id (by omega) (by omega),impl_in,Option.bind_some,Option.bind_some,impl_in,Option.bind_some,Option.bind_some]
  have e1:decide (0≤p.f1∧p.f1≤(N.length:Int) - 1)=decide (p.f1<(N.length:Int)):=decide_eq_decide.2 (by omega)
  have e2:decide (0≤p.f2∧p.f2≤(N.length:Int) - 1)=decide (p.f2<(N.length:Int)):=decide_eq_decide.2 (by omega)
  rw [e1,e2]
  cases decide (p.f1<(N.length:Int))<;>rfl
theorem pat_lt {P:List S80} (hs:∀ x ∈ P,x.f0.size≤1048576) {j:Nat} (h:j<P.length):(pat P j).f0.size≤1048576:=by
  unfold pat;rw [getD_lt h];exact hs _ (List.getElem_mem _)
theorem spec_net_l1 (N:List Int) (P:List S80) (hN:N.length≤1048576) (hP:P.length≤1048576) (hs:∀ x ∈ P,x.f0.size≤1048576):∀ (d j k:Nat),j+d=P.length→1048620+d<k→spec_l04Ok.l1 k [(⟨N,P⟩:S32)] (j:Int)=some (ptAll N.length P d j):=by
  intro d
  induction d with
  |zero=>
    intro j k hj hk
    obtain ⟨k,rfl⟩:=suc_of hk
    simp only [spec_l04Ok.l1,show rd_T32 [(⟨N,P⟩:S32)] 0=⟨N,P⟩ from rfl]
    rw [if_pos (by simp),if_neg (by omega)];rfl
  |succ d ih=>
    intro j k hj hk
    obtain ⟨k,rfl⟩:=suc_of hk
    have hr:=ih (j+1) k (by omega) (by omega)
    simp only [spec_l04Ok.l1,show rd_T32 [(⟨N,P⟩:S32)] 0=⟨N,P⟩ from rfl,show ∀ i:Nat,rd_T80 P (i:Int)=pat P i from fun _=>rfl]
    rw [if_pos (by simp),if_pos (by omega),if_pos (by omega),fits_spec N P (pat P j) (pat_lt hs (by omega)) k (by omega),Option.bind_some,next_nat (n:=P.length) (by omega) (by omega),hr]
    rw [show ptAll N.length P (d+1) j=(ptOk N.length P j&&ptAll N.length P d (j+1)) from rfl]
    generalize ptAll N.length P d (j+1)=R
    unfold ptOk
    generalize pv (pat P j)=v
    generalize decide ((pat P j).f1<(N.length:Int))=a
    generalize decide ((pat P j).f2<(N.length:Int))=b
    cases v
    · rfl
    · cases a
      · rfl
      · cases b
        · rfl
        · rw [show (true&&(true&&true))=true from rfl,if_pos rfl]
          simp only [Bool.true_and]
          by_cases hz:j=0
          · rw [if_neg (show ¬ (j:Int) > 0 by omega),if_pos hz];rfl
          · have ew:wrap64 ((j:Int) - 1)=((j - 1:Nat):Int):=by rw [wrap_id (by omega) (by omega)];omega
            rw [if_pos (show (j:Int) > 0 by omega),if_neg hz,ew,rdP,if_pos (by omega),if_pos (by omega)]
            show (if less (pat P (j - 1)).f0 (pat P j).f0=true then _ else _)=_
            cases less (pat P (j - 1)).f0 (pat P j).f0<;>rfl
theorem impl_net_l0 (N:List Int) (P:List S80) (hN:N.length≤1048576) (hP:P.length≤1048576) (hs:∀ x ∈ P,x.f0.size≤1048576):∀ (d j k:Nat),j+d=P.length→1048620+d<k→impl_ValidNetwork.l0 k P (P.length:Int) (j:Int) N P=some (ptAll N.length P d j):=by
  intro d
  induction d with
  |zero=>
    intro j k hj hk
    obtain ⟨k,rfl⟩:=suc_of hk
    simp only [impl_ValidNetwork.l0]
    rw [if_neg (by omega)];rfl
  |succ d ih=>
    intro j k hj hk
    obtain ⟨k,rfl⟩:=suc_of hk
    have hr:=ih (j+1) k (by omega) (by omega)
    have hp:=pv_spec (pat P j) (pat_lt hs (by omega))
    simp only [impl_ValidNetwork.l0,show ∀ i:Nat,rd_T80 P (i:Int)=pat P i from fun _=>rfl]
    rw [if_pos (by omega),if_pos (by omega),if_pos (by omega),hp.2.1 k (by omega),Option.bind_some,next_nat (n:=P.length) (by omega) (by omega),hr]
    rw [show ptAll N.length P (d+1) j=(ptOk N.length P j&&ptAll N.length P d (j+1)) from rfl]
    generalize ptAll N.length P d (j+1)=R
    unfold ptOk
    cases hv:pv (pat P j)
    · rfl
    · rw [if_pos rfl,ends_impl N P (pat P j) hN ⟨(hp.2.2 hv).1,(hp.2.2 hv).2.1⟩,Option.bind_some]
      generalize decide ((pat P j).f1<(N.length:Int))=a
      generalize decide ((pat P j).f2<(N.length:Int))=b
      cases a
      · rfl
      · cases b
        · rfl
        · rw [show (true&&true)=true from rfl,if_pos rfl]
          simp only [Bool.true_and]
          by_cases hz:j=0
          · rw [if_neg (show ¬ (j:Int) > 0 by omega),if_pos hz];rfl
          · have ew:wrap64 ((j:Int) - 1)=((j - 1:Nat):Int):=by rw [wrap_id (by omega) (by omega)];omega
            rw [if_pos (show (j:Int) > 0 by omega),if_neg hz,ew,rdP,if_pos (by omega),if_pos (by omega)]
            show (if less (pat P (j - 1)).f0 (pat P j).f0=true then _ else _)=_
            cases less (pat P (j - 1)).f0 (pat P j).f0<;>rfl
def netw (N:List Int) (P:List S80):Bool:=decide (1≤N.length∧N.length≤16)&&(decide (P.length≤20)&&ptAll N.length P P.length 0)
def netv (N:List Int) (P:List S80):Bool:=(N.all fun x=>decide ((-100000:Int)≤x∧x≤100000))&&netw N P
theorem spec_net_j1 (N:List Int) (P:List S80) (hN:N.length≤1048576) (hP:P.length≤1048576) (hs:∀ x ∈ P,x.f0.size≤1048576) (b:Bool) (k:Nat) (hk:2097200<k):spec_l04Ok.j1 k [(⟨N,P⟩:S32)] b=some (!b&&ptAll N.length P P.length 0):=by
  obtain ⟨k,rfl⟩:=suc_of hk
  simp only [spec_l04Ok.j1]
  cases b
  · rw [if_neg Bool.false_ne_true]
    exact spec_net_l1 N P hN hP hs P.length 0 k (by omega) (by omega)
  · rfl
theorem spec_net_l0 (N:List Int) (P:List S80) (hN:N.length≤1048576) (hP:P.length≤1048576) (hs:∀ x ∈ P,x.f0.size≤1048576):∀ (d j k:Nat),j+d=N.length→2097202+d<k→spec_l04Ok.l0 k [(⟨N,P⟩:S32)] (j:Int)=some (((N.drop j).all fun x=>decide ((-100000:Int)≤x∧x≤100000))&&netw N P):=by
  intro d
  induction d with
  |zero=>
    intro j k hj hk
    obtain ⟨k,rfl⟩:=suc_of hk
    simp only [spec_l04Ok.l0,show rd_T32 [(⟨N,P⟩:S32)] 0=⟨N,P⟩ from rfl]
    rw [if_pos (by simp),if_neg (by omega),List.drop_eq_nil_of_le (by omega)]
    simp only [List.all_nil,Bool.true_and]
    unfold netw
    by_cases c1:(N.length:Int)<1
    · rw [if_pos c1,spec_net_j1 N P hN hP hs true k (by omega),decide_eq_false (by omega)];rfl
    · rw [if_neg c1]
      by_cases c2:(N.length:Int) > 16
      · rw [if_pos c2,spec_net_j1 N P hN hP hs true k (by omega),decide_eq_false (by omega)];rfl
      · rw [if_neg c2,spec_net_j1 N P hN hP hs _ k (by omega),decide_eq_true (p:=1≤N.length∧N.length≤16) (by omega)]
        by_cases c3:P.length≤20
        · rw [decide_eq_true c3,decide_eq_false (by omega)];rfl
        · rw [decide_eq_false c3,decide_eq_true (by omega)];rfl
  |succ d ih=>
    intro j k hj hk
    obtain ⟨k,rfl⟩:=suc_of hk
    have hr:=ih (j+1) k (by omega) (by omega)
    simp only [spec_l04Ok.l0,show rd_T32 [(⟨N,P⟩:S32)] 0=⟨N,P⟩ from rfl]
    rw [if_pos (by simp),if_pos (by omega),if_pos (by omega),spec_in,Option.bind_some,next_nat (n:=N.length) (by omega) (by omega),hr,drop_cons N (j:=j) (by omega) 0,rd_nat]
    simp only [List.all_cons]
    cases decide ((-100000:Int)≤N.getD j 0∧N.getD j 0≤100000)<;>simp
/-- A network is valid for both. -/
theorem net_both (N:List Int) (P:List S80) (hN:N.length≤1048576) (hP:P.length≤1048576) (hs:∀ x ∈ P,x.f0.size≤1048576) (k:Nat) (hk:3145780<k):spec_l04Ok.f k [(⟨N,P⟩:S32)]=some (netv N P)∧impl_ValidNetwork.f k N P=some (netv N P):=by
  refine ⟨?_,?_⟩
  · unfold spec_l04Ok.f netv
    exact spec_net_l0 N P hN hP hs N.length 0 k (by omega) (by omega)
  · obtain ⟨k,rfl⟩:=suc_of hk
    have bad:impl_ValidNetwork.j0 (k+1) true N P=some false:=by simp only [impl_ValidNetwork.j0];simp
    unfold impl_ValidNetwork.f netv netw
    rw [impl_all,bad]
    simp only [Option.bind_some]
    by_cases c1:(N.length:Int)<1
    · rw [if_pos c1,decide_eq_false (p:=1≤N.length∧N.length≤16) (by omega)];simp
    · rw [if_neg c1]
      by_cases c2:(N.length:Int) > 16
      · rw [if_pos c2,decide_eq_false (p:=1≤N.length∧N.length≤16) (by omega)];simp
      · rw [if_neg c2,decide_eq_true (p:=1≤N.length∧N.length≤16) (by omega)]
        cases N.all fun x=>decide ((-100000:Int)≤x∧x≤100000)
        · rfl
        · rw [if_pos rfl]
          simp only [impl_ValidNetwork.j0,Bool.true_and]
          by_cases c3:P.length≤20
          · rw [decide_eq_true c3,decide_eq_false (by omega),if_neg Bool.false_ne_true]
            exact impl_net_l0 N P hN hP hs P.length 0 k (by omega) (by omega)
          · rw [decide_eq_false c3,decide_eq_true (by omega)];rfl
theorem pip_small {P:List S99} (h:∀ x ∈ P,x.f0.size≤1048576):∀ x ∈ P.map pip,x.f0.size≤1048576:=by
  intro x hx
  obtain ⟨y,hy,rfl⟩:=List.mem_map.1 hx
  exact h y hy

theorem impl_has_l0 (B:List Int) (hB:B.length≤35184372088832) (x:Int):∀ (d j k:Nat),j+d=B.length→d<k→∃ t,slices_Index_int64_int64.l0 k B x (B.length:Int) (j:Int)=some t∧decide (t≥0)=decide (x ∈ B.drop j):=by
  intro d
  induction d with
  |zero=>
    intro j k hj hk
    obtain ⟨k,rfl⟩:=suc_of hk
    simp only [slices_Index_int64_int64.l0]
    rw [if_neg (by omega),List.drop_eq_nil_of_le (by omega)];exact ⟨-1,rfl,by simp⟩
  |succ d ih=>
    intro j k hj hk
    obtain ⟨k,rfl⟩:=suc_of hk
    obtain ⟨t,t1,t2⟩:=ih (j+1) k (by omega) (by omega)
    simp only [slices_Index_int64_int64.l0]
    rw [if_pos (by omega),if_pos (by omega),if_pos (by omega),next_nat (n:=B.length) (by omega) (by omega),t1,rd_nat,drop_cons B (j:=j) (by omega) 0]
    by_cases c:x=B.getD j 0
    · rw [if_pos c,← c];exact ⟨(j:Int),rfl,by simp⟩
    · rw [if_neg c];refine ⟨t,rfl,?_⟩;rw [t2];simp only [List.mem_cons,c,false_or]
theorem impl_has (B:List Int) (hB:B.length≤35184372088832) (x:Int) (k:Nat) (hk:B.length<k):slices_Contains_int64_int64.f k B x=some (decide (x ∈ B)):=by
  unfold slices_Contains_int64_int64.f slices_Index_int64_int64.f
  obtain ⟨t,t1,t2⟩:=impl_has_l0 B hB x B.length 0 k (by omega) hk
  rw [show ((0:Nat):Int)=0 from rfl] at t1
  rw [t1,Option.bind_some,t2,List.drop_zero]
/-- The numbers from 0 on. -/
def al (n:Nat):List Int:=(List.range n).map fun i:Nat=>(i:Int)
theorem al_len (n:Nat):(al n).length=n:=by simp [al]
theorem al_get (n i:Nat) (h:i<n):(al n).getD i 0=(i:Int):=by
  rw [getD_lt (by rw [al_len];exact h)];simp [al]
theorem al_mem (n:Nat) (x:Int):x ∈ al n↔0≤x∧x<(n:Int):=by
  unfold al
  rw [List.mem_map]
  constructor
  · rintro ⟨i,hi,rfl⟩
    rw [List.mem_range] at hi;omega
  · intro h
    exact ⟨x.toNat,List.mem_range.2 (by omega),by omega⟩
theorem len_le:∀ (B C:List Int),B.Nodup→(∀ x ∈ B,x ∈ C)→B.length≤C.length
  |[],C,_,_=>by simp
  |b :: B,C,hn,hs=>by
    rw [List.nodup_cons] at hn
    have h:=len_le B (C.erase b) hn.2 (fun x hx=>by
      have:x≠b:=fun e=>hn.1 (e ▸ hx)
      exact (List.mem_erase_of_ne this).2 (hs x (by simp [hx])))
    have hb:b ∈ C:=hs b (by simp)
    rw [List.length_erase_of_mem hb] at h
    have:=List.length_pos_of_mem hb
    simp only [List.length_cons];omega

theorem spec_has_l0 (B:List Int) (hB:B.length≤35184372088832) (x:Int):∀ (d j k:Nat),j+d=B.length→d<k→spec_l00Has.l0 k B x (j:Int)=some (decide (x ∈ B.drop j)):=by
  intro d
  induction d with
  |zero=>
    intro j k hj hk
    obtain ⟨k,rfl⟩:=suc_of hk
    simp only [spec_l00Has.l0]
    rw [if_neg (by omega),List.drop_eq_nil_of_le (by omega)];simp
  |succ d ih=>
    intro j k hj hk
    obtain ⟨k,rfl⟩:=suc_of hk
    have hr:=ih (j+1) k (by omega) (by omega)
    simp only [spec_l00Has.l0]
    rw [if_pos (by omega),if_pos (by omega),next_nat (n:=B.length) (by omega) (by omega),hr,rd_nat,drop_cons B (j:=j) (by omega) 0]
    by_cases c:B.getD j 0=x
    · rw [if_pos c,c];simp
    · rw [if_neg c]
      have c2:¬ x=B.getD j 0:=fun h=>c h.symm
      simp only [List.mem_cons,c2,false_or]
theorem spec_has (B:List Int) (hB:B.length≤35184372088832) (x:Int) (k:Nat) (hk:B.length<k):spec_l00Has.f k B x=some (decide (x ∈ B)):=by
  unfold spec_l00Has.f
  have h:=spec_has_l0 B hB x B.length 0 k (by omega) hk
  rw [List.drop_zero] at h;exact h

def Ends (n:Nat) (P:List S80):Prop:=P.length≤20∧1≤n∧n≤16∧∀ i,i<P.length→(0≤(pat P i).f1∧(pat P i).f1<(n:Int))∧(0≤(pat P i).f2∧(pat P i).f2<(n:Int))
theorem ptAll_at (n:Nat) (P:List S80):∀ (d j:Nat),ptAll n P d j=true→∀ i,j≤i→i<j+d→ptOk n P i=true:=by
  intro d
  induction d with
  |zero=>intro j _ i h1 h2;omega
  |succ d ih=>
    intro j h i h1 h2
    have h3:(ptOk n P j&&ptAll n P d (j+1))=true:=h
    rw [Bool.and_eq_true] at h3
    by_cases e:i=j
    · subst e;exact h3.1
    · exact ih (j+1) h3.2 i (by omega) (by omega)
theorem netv_ends {N:List Int} {P:List S80} (h:netv N P=true) (hs:∀ x ∈ P,x.f0.size≤1048576):Ends N.length P:=by
  unfold netv netw at h
  simp only [Bool.and_eq_true,decide_eq_true_eq] at h
  obtain ⟨_,⟨h1,h2⟩,h3,h4⟩:=h
  refine ⟨h3,h1,h2,fun i hi=>?_⟩
  have h5:=ptAll_at N.length P P.length 0 h4 i (by omega) (by omega)
  unfold ptOk at h5
  simp only [Bool.and_eq_true,decide_eq_true_eq] at h5
  have h6:=(pv_spec (pat P i) (pat_lt hs hi)).2.2 h5.1
  exact ⟨⟨h6.1.1,h5.2.1⟩,⟨h6.2.1.1,h5.2.2.1⟩⟩

theorem getD_app {B e:List Int} {t:Nat} (h:t<B.length):(B++e).getD t 0=B.getD t 0:=by
  rw [getD_lt (by rw [List.length_append];omega),getD_lt h,List.getElem_append_left h]
theorem getD_mem {B:List Int} {t:Nat} (h:t<B.length):B.getD t 0 ∈ B:=by
  rw [getD_lt h];exact List.getElem_mem h

def sel (o:Nat→Bool):Nat→Nat→List Int
  |0,_=>[]
  |d+1,j=>(if o j=true then [(j:Int)] else [])++sel o d (j+1)
theorem sel_s (o:Nat→Bool) (d j:Nat):sel o (d+1) j=(if o j=true then [(j:Int)] else [])++sel o d (j+1):=rfl
theorem sel_mem (o:Nat→Bool) (x:Int):∀ d j,x ∈ sel o d j↔∃ i:Nat,j≤i∧i<j+d∧o i=true∧x=(i:Int):=by
  intro d
  induction d with
  |zero=>intro j;simp only [sel,List.not_mem_nil,false_iff];rintro ⟨i,h1,h2,_⟩;omega
  |succ d ih=>
    intro j
    rw [sel_s,List.mem_append,ih]
    constructor
    · rintro (h|⟨i,h1,h2,h3⟩)
      · split at h
        · rename_i c
          simp only [List.mem_singleton] at h
          exact ⟨j,by omega,by omega,c,h⟩
        · simp at h
      · exact ⟨i,by omega,by omega,h3⟩
    · rintro ⟨i,h1,h2,h3,h4⟩
      by_cases e:i=j
      · subst e;exact Or.inl (by rw [if_pos h3];simp [h4])
      · exact Or.inr ⟨i,by omega,by omega,h3,h4⟩
theorem sel_strict (o:Nat→Bool):∀ d j,(sel o d j).Pairwise (· < ·):=by
  intro d
  induction d with
  |zero=>intro j;simp [sel]
  |succ d ih=>
    intro j
    rw [sel_s,List.pairwise_append]
    refine ⟨by split<;>simp,ih (j+1),fun x hx y hy=>?_⟩
    obtain ⟨i,h1,h2,h3,h4⟩:=(sel_mem o y d (j+1)).1 hy
    split at hx
    · simp only [List.mem_singleton] at hx;omega
    · simp at hx
theorem sel_len (o:Nat→Bool):∀ d j,(sel o d j).length≤d:=by
  intro d
  induction d with
  |zero=>intro j;simp [sel]
  |succ d ih=>
    intro j
    have:=ih (j+1)
    rw [sel_s,List.length_append]
    split<;>simp<;>omega

def srt (l:List Int):List Int:=l.mergeSort fun x y=>decide (x≤y)
theorem srt_len (l:List Int):(srt l).length=l.length:=List.length_mergeSort l
theorem srt_mem (l:List Int) (x:Int):x ∈ srt l↔x ∈ l:=(List.mergeSort_perm l _).mem_iff
theorem sort_f (l:List Int) (h:l.length≤35184372088832):slices_Sort_int64_int64.f l=some (srt l):=by
  unfold slices_Sort_int64_int64.f
  rw [if_pos (by omega)];rfl
theorem strict_eq:∀ (A B:List Int),A.Pairwise (· < ·)→B.Pairwise (· < ·)→(∀ x,x ∈ A↔x ∈ B)→A=B
  |[],[],_,_,_=>rfl
  |[],b :: B,_,_,h=>by have:=(h b).2 (by simp);simp at this
  |a :: A,[],_,_,h=>by have:=(h a).1 (by simp);simp at this
  |a :: A,b :: B,hA,hB,h=>by
    rw [List.pairwise_cons] at hA hB
    have e:a=b:=by
      have h1:=(h a).1 (by simp)
      have h2:=(h b).2 (by simp)
      rcases List.mem_cons.1 h1 with e|e
      · exact e
      · rcases List.mem_cons.1 h2 with e2|e2
        · exact e2.symm
        · have:=hB.1 a e
          have:=hA.1 b e2
          omega
    subst e
    rw [strict_eq A B hA.2 hB.2 (fun x=>by
      have hx:=h x
      simp only [List.mem_cons] at hx
      constructor
      · intro m
        have:=hA.1 x m
        rcases hx.1 (Or.inr m) with e|e
        · omega
        · exact e
      · intro m
        have:=hB.1 x m
        rcases hx.2 (Or.inr m) with e|e
        · omega
        · exact e)]
theorem srt_le (l:List Int):(srt l).Pairwise (·≤·):=by
  have h:=List.pairwise_mergeSort (le:=fun (x y:Int)=>decide (x≤y)) (fun a b c h1 h2=>decide_eq_true (Int.le_trans (of_decide_eq_true h1) (of_decide_eq_true h2))) (fun a b=>by
    show (decide (a≤b) || decide (b≤a))=true
    rcases Int.le_total a b with h|h
    · rw [decide_eq_true h];rfl
    · rw [decide_eq_true h,Bool.or_true]) l
  exact h.imp (fun h=>by simpa using h)

def Inv (P:List S80) (Cl:List Int) (X:Int→Prop):Prop:=∀ i:Nat,i<P.length→¬ (i:Int) ∈ Cl→(X (pat P i).f1↔X (pat P i).f2)
/-- What is reached from some nodes. -/
def Gen (P:List S80) (Cl:List Int) (S:List Int) (x:Int):Prop:=∀ X:Int→Prop,Inv P Cl X→(∀ s ∈ S,X s)→X x
theorem Gen.base {P:List S80} {Cl S:List Int} {s:Int} (h:s ∈ S):Gen P Cl S s:=fun _ _ hs=>hs s h
theorem Gen.inv (P:List S80) (Cl S:List Int):Inv P Cl (Gen P Cl S):=fun i hi hc=>⟨fun h X hX hs=>(hX i hi hc).1 (h X hX hs),fun h X hX hs=>(hX i hi hc).2 (h X hX hs)⟩
theorem Gen_iff {P:List S80} {Cl S:List Int} {x:Int}:Gen P Cl S x↔∃ s ∈ S,Gen P Cl [s] x:=by
  constructor
  · intro h
    refine h (fun x=>∃ s ∈ S,Gen P Cl [s] x) (fun i hi hc=>⟨?_,?_⟩) (fun s hs=>⟨s,hs,Gen.base (by simp)⟩)
    · rintro ⟨s,hs,hg⟩;exact ⟨s,hs,(Gen.inv P Cl [s] i hi hc).1 hg⟩
    · rintro ⟨s,hs,hg⟩;exact ⟨s,hs,(Gen.inv P Cl [s] i hi hc).2 hg⟩
  · rintro ⟨s,hs,hg⟩ X hX hb
    exact hg X hX (fun y hy=>by rw [List.mem_singleton.1 hy];exact hb s hs)
/-! What the program reaches. -/
def GoodR (n:Nat) (P:List S80) (Cl:List Int) (s:Int) (B:List Int):Prop:=B.Nodup∧(∀ x ∈ B,0≤x∧x<(n:Int))∧s ∈ B∧∀ x ∈ B,Gen P Cl [s] x
theorem GoodR.len {n:Nat} {P:List S80} {Cl:List Int} {s:Int} {B:List Int} (h:GoodR n P Cl s B):B.length≤n:=by
  have:=len_le B (al n) h.1 (fun x hx=>(al_mem _ x).2 (h.2.1 x hx))
  rwa [al_len] at this
def Dn (P:List S80) (Cl B:List Int) (v:Int) (i:Nat):Prop:=¬ (i:Int) ∈ Cl→((pat P i).f1=v→(pat P i).f2 ∈ B)∧((pat P i).f2=v→(pat P i).f1 ∈ B)
theorem Dn.up {P:List S80} {Cl B e:List Int} {v:Int} {i:Nat} (h:Dn P Cl B v i):Dn P Cl (B++e) v i:=fun hc=>⟨fun h1=>List.mem_append.2 (Or.inl ((h hc).1 h1)),fun h1=>List.mem_append.2 (Or.inl ((h hc).2 h1))⟩
theorem reach_l1 (N:List Int) (P:List S80) (Cl:List Int) (hE:Ends N.length P) (hC:Cl.length≤1048576) (s:Int) (kk:Nat):∀ (d j:Nat) (B:List Int),j+d=P.length→GoodR N.length P Cl s B→kk<B.length→(∀ i,i<j→Dn P Cl B (B.getD kk 0) i)→
    ∃ B' e,B'=B++e∧GoodR N.length P Cl s B'∧(∀ i,i<P.length→Dn P Cl B' (B.getD kk 0) i)∧∀ (r:List Int) (K:Nat),(∀ k,K≤k→impl_Network_reached.l0 k Cl B' ((kk+1:Nat):Int) N P=some r)→∀ k,K+d<k→1048600+d<k→impl_Network_reached.l1 k Cl B (kk:Int) P (P.length:Int) (j:Int) N P=some r:=by
  intro d
  induction d with
  |zero=>
    intro j B hj hB hk hD
    refine ⟨B,[],by simp,hB,fun i hi=>hD i (by omega),fun r K hr k hk1 hk2=>?_⟩
    obtain ⟨k,rfl⟩:=suc_of hk1
    have hl:=hB.len
    have hn:=hE.2.2.1
    simp only [impl_Network_reached.l1]
    rw [if_neg (by omega),next_nat (n:=17) (by omega) (by omega)]
    exact hr k (by omega)
  |succ d ih=>
    intro j B hj hB hk hD
    have hl:=hB.len
    have hn:=hE.2.2.1
    have hP:=hE.1
    obtain ⟨e1,e2⟩:=hE.2.2.2 j (by omega)
    have hvm:B.getD kk 0 ∈ B:=getD_mem hk
    have stay:(Dn P Cl B (B.getD kk 0) j)→∃ B' e,B'=B++e∧GoodR N.length P Cl s B'∧(∀ i,i<P.length→Dn P Cl B' (B.getD kk 0) i)∧∀ (r:List Int) (K:Nat),(∀ k,K≤k→impl_Network_reached.l0 k Cl B' ((kk+1:Nat):Int) N P=some r)→∀ k,K+d<k→1048600+d<k→impl_Network_reached.l1 k Cl B (kk:Int) P (P.length:Int) ((j+1:Nat):Int) N P=some r:=fun hj0=>ih (j+1) B (by omega) hB hk (fun i hi=>by
      by_cases e:i=j
      · subst e;exact hj0
      · exact hD i (by omega))
    have head:∀ k,1048600<k→impl_Network_reached.l1 (k+1) Cl B (kk:Int) P (P.length:Int) (j:Int) N P=((impl_Pipe_other.f (pat P j).f0 (pat P j).f1 (pat P j).f2 (pat P j).f3 (pat P j).f4 (pat P j).f5 (B.getD kk 0)).bind fun bt=>if bt.2=true then (if decide ((j:Int) ∈ Cl)=true then impl_Network_reached.l1 k Cl B (kk:Int) P (P.length:Int) ((j+1:Nat):Int) N P else if decide (bt.1 ∈ B)=true then impl_Network_reached.l1 k Cl B (kk:Int) P (P.length:Int) ((j+1:Nat):Int) N P else impl_Network_reached.l1 k Cl (B++[bt.1]) (kk:Int) P (P.length:Int) ((j+1:Nat):Int) N P) else impl_Network_reached.l1 k Cl B (kk:Int) P (P.length:Int) ((j+1:Nat):Int) N P):=by
      intro k hk1
      simp only [impl_Network_reached.l1,show ∀ i:Nat,rd_T80 P (i:Int)=pat P i from fun _=>rfl]
      rw [if_pos (by omega),if_pos (by omega),if_pos (by omega),if_pos (by omega),if_pos (by omega),rd_nat,next_nat (n:=21) (by omega) (by omega)]
      congr 1
      funext bt
      rw [impl_has Cl (by omega) _ k (by omega),Option.bind_some,impl_has B (by omega) _ k (by omega),Option.bind_some,if_pos (show B.length<17592186044416 by omega)]
    have go:∀ (o:Int),impl_Pipe_other.f (pat P j).f0 (pat P j).f1 (pat P j).f2 (pat P j).f3 (pat P j).f4 (pat P j).f5 (B.getD kk 0)=some (o,true)→(¬ (j:Int) ∈ Cl→Gen P Cl [s] o)→(0≤o∧o<(N.length:Int))→(∀ B',o ∈ B'→B.getD kk 0 ∈ B'→Dn P Cl B' (B.getD kk 0) j)→
        ∃ B' e,B'=B++e∧GoodR N.length P Cl s B'∧(∀ i,i<P.length→Dn P Cl B' (B.getD kk 0) i)∧∀ (r:List Int) (K:Nat),(∀ k,K≤k→impl_Network_reached.l0 k Cl B' ((kk+1:Nat):Int) N P=some r)→∀ k,K+(d+1)<k→1048600+(d+1)<k→impl_Network_reached.l1 k Cl B (kk:Int) P (P.length:Int) (j:Int) N P=some r:=by
      intro o ho hG hr0 hDn
      by_cases c1:(j:Int) ∈ Cl
      · obtain ⟨B',e,b1,b2,b3,b4⟩:=stay (fun hc=>absurd c1 hc)
        refine ⟨B',e,b1,b2,b3,fun r K hr k hk1 hk2=>?_⟩
        obtain ⟨k,rfl⟩:=suc_of hk1
        rw [head k (by omega),ho,Option.bind_some,if_pos rfl,decide_eq_true c1,if_pos rfl]
        exact b4 r K hr k (by omega) (by omega)
      · by_cases c2:o ∈ B
        · obtain ⟨B',e,b1,b2,b3,b4⟩:=stay (hDn B c2 hvm)
          refine ⟨B',e,b1,b2,b3,fun r K hr k hk1 hk2=>?_⟩
          obtain ⟨k,rfl⟩:=suc_of hk1
          rw [head k (by omega),ho,Option.bind_some,if_pos rfl,decide_eq_false c1,if_neg Bool.false_ne_true,decide_eq_true c2,if_pos rfl]
          exact b4 r K hr k (by omega) (by omega)
        · have hB2:GoodR N.length P Cl s (B++[o]):=by
            refine ⟨?_,?_,?_,?_⟩
            · rw [List.nodup_append]
              refine ⟨hB.1,by simp,fun a ha b hb e=>?_⟩
              simp only [List.mem_singleton] at hb
              subst hb;exact c2 (e ▸ ha)
            · intro x hx
              rcases List.mem_append.1 hx with hx|hx
              · exact hB.2.1 x hx
              · simp only [List.mem_singleton] at hx;subst hx;exact hr0
            · exact List.mem_append.2 (Or.inl hB.2.2.1)
            · intro x hx
              rcases List.mem_append.1 hx with hx|hx
              · exact hB.2.2.2 x hx
              · simp only [List.mem_singleton] at hx;subst hx;exact hG c1
          have hg:(B++[o]).getD kk 0=B.getD kk 0:=getD_app hk
          obtain ⟨B',e,b1,b2,b3,b4⟩:=ih (j+1) (B++[o]) (by omega) hB2 (by rw [List.length_append];omega) (fun i hi=>by
            rw [hg]
            by_cases e:i=j
            · subst e;exact hDn _ (by simp) (List.mem_append.2 (Or.inl hvm))
            · exact (hD i (by omega)).up)
          rw [hg] at b3
          refine ⟨B',[o]++e,by rw [b1,List.append_assoc],b2,b3,fun r K hr k hk1 hk2=>?_⟩
          obtain ⟨k,rfl⟩:=suc_of hk1
          rw [head k (by omega),ho,Option.bind_some,if_pos rfl,decide_eq_false c1,if_neg Bool.false_ne_true,decide_eq_false c2,if_neg Bool.false_ne_true]
          exact b4 r K hr k (by omega) (by omega)
    by_cases a1:B.getD kk 0=(pat P j).f1
    · refine go (pat P j).f2 (by unfold impl_Pipe_other.f;rw [if_pos a1]) (fun hc=>((Gen.inv P Cl [s] j (by omega) hc).1 (a1 ▸ hB.2.2.2 _ hvm))) e2 (fun B' h1 h2 hc=>⟨fun _=>h1,fun _=>a1 ▸ h2⟩)
    · by_cases a2:B.getD kk 0=(pat P j).f2
      · refine go (pat P j).f1 (by unfold impl_Pipe_other.f;rw [if_neg a1,if_pos a2]) (fun hc=>((Gen.inv P Cl [s] j (by omega) hc).2 (a2 ▸ hB.2.2.2 _ hvm))) e1 (fun B' h1 h2 hc=>⟨fun _=>a2 ▸ h2,fun _=>h1⟩)
      · obtain ⟨B',e,b1,b2,b3,b4⟩:=stay (fun hc=>⟨fun h=>absurd h.symm a1,fun h=>absurd h.symm a2⟩)
        refine ⟨B',e,b1,b2,b3,fun r K hr k hk1 hk2=>?_⟩
        obtain ⟨k,rfl⟩:=suc_of hk1
        rw [head k (by omega)]
        unfold impl_Pipe_other.f
        rw [if_neg a1,if_neg a2,Option.bind_some,if_neg Bool.false_ne_true]
        exact b4 r K hr k (by omega) (by omega)
theorem reach_l0 (N:List Int) (P:List S80) (Cl:List Int) (hE:Ends N.length P) (hC:Cl.length≤1048576) (s:Int):∀ (d kk:Nat) (B:List Int),N.length≤kk+d→GoodR N.length P Cl s B→kk≤B.length→(∀ t,t<kk→∀ i,i<P.length→Dn P Cl B (B.getD t 0) i)→
    ∃ B',GoodR N.length P Cl s B'∧(∀ t,t<B'.length→∀ i,i<P.length→Dn P Cl B' (B'.getD t 0) i)∧∀ k,1048700+30 * d<k→impl_Network_reached.l0 k Cl B (kk:Int) N P=some (srt B'):=by
  intro d
  induction d with
  |zero=>
    intro kk B hn hB hk hD
    have hl:=hB.len
    refine ⟨B,hB,fun t ht=>hD t (by omega),fun k hk1=>?_⟩
    obtain ⟨k,rfl⟩:=suc_of hk1
    have:=hE.2.2.1
    simp only [impl_Network_reached.l0]
    rw [if_neg (by omega),sort_f B (by omega)];rfl
  |succ d ih=>
    intro kk B hn hB hk hD
    have hl:=hB.len
    have h16:=hE.2.2.1
    have h20:=hE.1
    by_cases c:kk<B.length
    · obtain ⟨B1,e,b1,b2,b3,b4⟩:=reach_l1 N P Cl hE hC s kk P.length 0 B (by omega) hB c (fun i hi=>by omega)
      obtain ⟨B',g1,g2,g3⟩:=ih (kk+1) B1 (by omega) b2 (by rw [b1,List.length_append];omega) (fun t ht i hi=>by
        by_cases e2:t=kk
        · subst e2
          rw [b1,getD_app c,← b1]
          exact b3 i hi
        · have ht2:t<B.length:=by omega
          rw [b1,getD_app ht2]
          exact (hD t (by omega) i hi).up)
      refine ⟨B',g1,g2,fun k hk1=>?_⟩
      obtain ⟨k,rfl⟩:=suc_of hk1
      simp only [impl_Network_reached.l0]
      rw [if_pos (by omega)]
      exact b4 (srt B') (1048701+30 * d) (fun k hk=>g3 k (by omega)) k (by omega) (by omega)
    · refine ⟨B,hB,fun t ht=>hD t (by omega),fun k hk1=>?_⟩
      obtain ⟨k,rfl⟩:=suc_of hk1
      simp only [impl_Network_reached.l0]
      rw [if_neg (by omega),sort_f B (by omega)];rfl
theorem reached_spec (N:List Int) (P:List S80) (Cl:List Int) (hE:Ends N.length P) (hC:Cl.length≤1048576) (s:Int) (hs:0≤s∧s<(N.length:Int)):∃ R:List Int,(∀ k,1049300<k→impl_Network_reached.f k N P s Cl=some R)∧R.length≤16∧(∀ x ∈ R,0≤x∧x<(N.length:Int))∧∀ x,x ∈ R↔Gen P Cl [s] x:=by
  have h16:=hE.2.2.1
  obtain ⟨B,b1,b2,b3⟩:=reach_l0 N P Cl hE hC s N.length 0 [s] (by omega) ⟨by simp,by simpa using hs,by simp,fun x hx=>Gen.base hx⟩ (by omega) (fun t ht=>by omega)
  have hl:=b1.len
  refine ⟨srt B,fun k hk=>b3 k (by omega),by rw [srt_len];omega,fun x hx=>b1.2.1 x ((srt_mem B x).1 hx),fun x=>?_⟩
  rw [srt_mem]
  refine ⟨b1.2.2.2 x,fun h=>h (fun y=>y ∈ B) (fun i hi hc=>⟨fun h1=>?_,fun h1=>?_⟩) (fun y hy=>by rw [List.mem_singleton.1 hy];exact b1.2.2.1)⟩
  · obtain ⟨t,ht,e⟩:=List.mem_iff_getElem.1 h1
    exact ((b2 t ht i hi) hc).1 (by rw [getD_lt ht];exact e.symm)
  · obtain ⟨t,ht,e⟩:=List.mem_iff_getElem.1 h1
    exact ((b2 t ht i hi) hc).2 (by rw [getD_lt ht];exact e.symm)

def inc:List Int→Bool
  |a :: b :: t=>decide (a<b)&&inc (b :: t)
  |_=>true
theorem inc_cons {l:List Int} {j:Nat} (h:j+1<l.length):inc (l.drop j)=(decide (l.getD j 0<l.getD (j+1) 0)&&inc (l.drop (j+1))):=by
  rw [drop_cons l (by omega:j<l.length) 0,drop_cons l h 0]
  simp only [inc]
theorem inc_last {l:List Int} {j:Nat} (h:l.length≤j+1):inc (l.drop j)=true:=by
  rcases Nat.lt_or_ge j l.length with h1|h1
  · rw [drop_cons l h1 0,List.drop_eq_nil_of_le (by omega)];rfl
  · rw [List.drop_eq_nil_of_le h1];rfl
theorem impl_inc_l0 (l:List Int) (hl:l.length≤35184372088832):∀ (d j k:Nat),j+1+d=l.length→d<k→impl_increasing.l0 k l ((j+1:Nat):Int)=some (inc (l.drop j)):=by
  intro d
  induction d with
  |zero=>
    intro j k hj hk
    obtain ⟨k,rfl⟩:=suc_of hk
    simp only [impl_increasing.l0]
    rw [if_neg (by omega),inc_last (by omega)]
  |succ d ih=>
    intro j k hj hk
    obtain ⟨k,rfl⟩:=suc_of hk
    simp only [impl_increasing.l0]
    have e:wrap64 (((j+1:Nat):Int) - 1)=(j:Int):=by rw [wrap_id (by omega) (by omega)];omega
    rw [e,if_pos (by omega),if_pos (by omega),if_pos (by omega),if_pos (by omega),rd_nat,rd_nat,inc_cons (by omega)]
    by_cases h:l.getD (j+1) 0≤l.getD j 0
    · rw [if_pos h,decide_eq_false (by omega),Bool.false_and]
    · rw [if_neg h,decide_eq_true (by omega),Bool.true_and,next_nat (n:=l.length) (by omega) (by omega)]
      exact ih (j+1) k (by omega) (by omega)
theorem impl_inc (l:List Int) (hl:l.length≤35184372088832) (k:Nat) (hk:l.length<k):impl_increasing.f k l=some (inc l):=by
  unfold impl_increasing.f
  rcases Nat.eq_zero_or_pos l.length with h|h
  · obtain ⟨k,rfl⟩:=suc_of hk
    simp only [impl_increasing.l0]
    rw [if_neg (by omega),List.eq_nil_of_length_eq_zero h];rfl
  · exact impl_inc_l0 l hl (l.length - 1) 0 k (by omega) (by omega)

theorem spec_rises_l0 (l:List Int) (hl:l.length≤35184372088832) (lo hi:Int):∀ (d j k:Nat),j+d=l.length→d<k→spec_l00Rises.l0 k l lo hi (j:Int)=some ((l.drop j).all (fun x=>decide (lo≤x∧x≤hi))&&inc (l.drop (j - 1))):=by
  intro d
  induction d with
  |zero=>
    intro j k hj hk
    obtain ⟨k,rfl⟩:=suc_of hk
    simp only [spec_l00Rises.l0]
    rw [if_neg (by omega),inc_last (by omega),List.drop_eq_nil_of_le (by omega)];rfl
  |succ d ih=>
    intro j k hj hk
    obtain ⟨k,rfl⟩:=suc_of hk
    simp only [spec_l00Rises.l0]
    have hn:wrap64 ((j:Int)+1)=((j+1:Nat):Int):=next_nat (n:=l.length) (by omega) (by omega)
    rw [if_pos (by omega),if_pos (by omega),spec_in,rd_nat,drop_cons l (by omega:j<l.length) 0,List.all_cons,Option.bind_some,hn]
    by_cases h1:lo≤l.getD j 0∧l.getD j 0≤hi
    · rw [decide_eq_true h1,if_pos rfl,Bool.true_and]
      rcases Nat.eq_zero_or_pos j with h0|h0
      · subst h0
        rw [if_neg (by omega)]
        have:=ih 1 k (by omega) (by omega)
        simpa using this
      · have e:wrap64 ((j:Int) - 1)=((j - 1:Nat):Int):=by rw [wrap_id (by omega) (by omega)];omega
        rw [if_pos (by omega),e,if_pos (by omega),if_pos (by omega),rd_nat]
        have hc:=inc_cons (l:=l) (j:=j - 1) (by omega)
        rw [show j - 1+1=j by omega] at hc
        rw [hc]
        by_cases h2:l.getD (j - 1) 0≥l.getD j 0
        · rw [if_pos h2,decide_eq_false (by omega),Bool.false_and,Bool.and_false]
        · rw [if_neg h2,decide_eq_true (by omega),Bool.true_and,ih (j+1) k (by omega) (by omega)];rfl
    · rw [decide_eq_false h1,if_neg (by simp),Bool.false_and,Bool.false_and]
theorem spec_rises (l:List Int) (hl:l.length≤35184372088832) (lo hi:Int) (k:Nat) (hk:l.length<k):spec_l00Rises.f k l lo hi=some (l.all (fun x=>decide (lo≤x∧x≤hi))&&inc l):=by
  unfold spec_l00Rises.f
  have:=spec_rises_l0 l hl lo hi l.length 0 k (by omega) hk
  simpa using this

/-! Runs of equals become one. -/
theorem mem_upTo (d:Array Int) (x:Int):∀ m,x ∈ Lib.compactUpTo d m↔∃ j,j<m∧d[j]! =x:=by
  intro m
  induction m with
  |zero=>simp [Lib.compactUpTo]
  |succ m ih=>
    rw [Lib.compactUpTo_succ,List.mem_append,ih]
    constructor
    · rintro (⟨j,hj,e⟩|h)
      · exact ⟨j,by omega,e⟩
      · split at h
        · simp only [List.mem_singleton] at h
          exact ⟨m,by omega,h.symm⟩
        · simp at h
    · rintro ⟨j,hj,e⟩
      by_cases c:j<m
      · exact Or.inl ⟨j,c,e⟩
      · have hjm:j=m:=by omega
        subst hjm
        cases h:Lib.keeps d j with
        |true=>exact Or.inr (by simp [e])
        |false=>
          unfold Lib.keeps at h
          rw [decide_eq_false_iff_not] at h
          have h1:j≠0:=fun h0=>h (Or.inl h0)
          have h2:d[j]! =d[j - 1]! :=by
            by_cases q:d[j]! =d[j - 1]!
            · exact q
            · exact absurd (Or.inr q) h
          exact Or.inl ⟨j - 1,by omega,by rw [← h2];exact e⟩
theorem compact_mem (l:List Int) (x:Int):x ∈ Lib.compact l↔x ∈ l:=by
  unfold Lib.compact
  rw [mem_upTo]
  constructor
  · rintro ⟨j,hj,e⟩
    rw [getElem!_pos l.toArray j (by simpa using hj)] at e
    rw [← e];simp
  · intro h
    obtain ⟨j,hj,e⟩:=List.mem_iff_getElem.1 h
    exact ⟨j,hj,by rw [getElem!_pos l.toArray j (by simpa using hj)];simpa using e⟩
theorem compact_length (l:List Int):(Lib.compact l).length≤l.length:=by
  unfold Lib.compact Lib.compactUpTo
  rw [List.length_map]
  refine Nat.le_trans (List.length_filter_le _ _) ?_
  simp
theorem served_l0 (N:List Int) (P:List S80) (Cl:List Int) (hE:Ends N.length P) (hC:Cl.length≤1048576) (S:List Int) (hS:S.length≤1048576) (hr:∀ x ∈ S,0≤x∧x<(N.length:Int)):∀ (d j:Nat) (V:List Int),j+d=S.length→V.length≤16 * j→(∀ x ∈ V,0≤x∧x<(N.length:Int))→
    ∃ V':List Int,V'.length≤16 * S.length∧(∀ x ∈ V',0≤x∧x<(N.length:Int))∧(∀ x,x ∈ V'↔x ∈ V∨∃ s ∈ S.drop j,Gen P Cl [s] x)∧∀ k,1049400+d<k→impl_Network_served.l0 k Cl V S (S.length:Int) (j:Int) N P=some (Lib.compact (srt V')):=by
  intro d
  induction d with
  |zero=>
    intro j V hj hV hr0
    refine ⟨V,by omega,hr0,fun x=>?_,fun k hk=>?_⟩
    · rw [List.drop_eq_nil_of_le (by omega)];simp
    · obtain ⟨k,rfl⟩:=suc_of hk
      simp only [impl_Network_served.l0]
      rw [if_neg (by omega),sort_f V (by omega)];rfl
  |succ d ih=>
    intro j V hj hV hr0
    have hm:S.getD j 0 ∈ S:=getD_mem (by omega)
    obtain ⟨R,r1,r2,r3,r4⟩:=reached_spec N P Cl hE hC (S.getD j 0) (hr _ hm)
    obtain ⟨V',v1,v2,v3,v4⟩:=ih (j+1) (V++R) (by omega) (by rw [List.length_append];omega) (fun x hx=>by
      rcases List.mem_append.1 hx with h|h
      · exact hr0 x h
      · exact r3 x h)
    refine ⟨V',v1,v2,fun x=>?_,fun k hk=>?_⟩
    · rw [v3,List.mem_append,r4,drop_cons S (j:=j) (by omega) 0]
      simp only [List.mem_cons,exists_eq_or_imp,or_assoc]
    · obtain ⟨k,rfl⟩:=suc_of hk
      simp only [impl_Network_served.l0]
      rw [if_pos (by omega),if_pos (by omega),if_pos (by omega),rd_nat,r1 k (by omega),Option.bind_some,if_pos (by omega),next_nat (n:=S.length) (by omega) (by omega)]
      exact v4 k (by omega)
/-- The nodes that the program says are served. -/
theorem served_spec (N:List Int) (P:List S80) (Cl:List Int) (hE:Ends N.length P) (hC:Cl.length≤1048576) (S:List Int) (hS:S.length≤1048576) (hr:∀ x ∈ S,0≤x∧x<(N.length:Int)):∃ V:List Int,V.length≤16777216∧(∀ x ∈ V,0≤x∧x<(N.length:Int))∧(∀ x,x ∈ V↔Gen P Cl S x)∧∀ k,2098000<k→impl_Network_served.f k N P S Cl=some (Lib.compact (srt V)):=by
  obtain ⟨V,v1,v2,v3,v4⟩:=served_l0 N P Cl hE hC S hS hr S.length 0 [] (by omega) (by simp) (by simp)
  refine ⟨V,by omega,v2,fun x=>?_,fun k hk=>v4 k (by omega)⟩
  rw [v3,Gen_iff];simp

theorem getD_setB (l:List Bool) (i x:Nat) (hi:i<l.length):(l.set i true).getD x false=if i=x then true else l.getD x false:=by
  rw [List.getD_eq_getElem?_getD,List.getElem?_set,List.getD_eq_getElem?_getD]
  by_cases e:i=x
  · rw [if_pos e,if_pos e,if_pos (by omega)];rfl
  · rw [if_neg e,if_neg e]
theorem cnt_set:∀ (l:List Bool) (i:Nat),i<l.length→(l.set i true).count true=l.count true+(if l.getD i false=true then 0 else 1)
  |[],i,h=>absurd h (by simp)
  |b :: l,0,_=>by cases b<;>simp
  |b :: l,i+1,h=>by
    have h2:=cnt_set l i (by simpa using h)
    simp only [List.set_cons_succ,List.count_cons,List.getD_cons_succ]
    rw [h2];omega
def Ob (P:List S80) (Cl:List Int) (o:List Bool) (i:Nat):Prop:=¬ (i:Int) ∈ Cl→o.getD (pat P i).f1.toNat false=o.getD (pat P i).f2.toNat false
def GoodO (n:Nat) (P:List S80) (Cl S:List Int) (o:List Bool):Prop:=o.length=n∧∀ x:Nat,x<n→o.getD x false=true→Gen P Cl S (x:Int)
theorem pass_l2 (N:List Int) (P:List S80) (Cl S:List Int) (hE:Ends N.length P) (hC:Cl.length≤1048576) (t:Nat) (ht:t<N.length):∀ (d j:Nat) (o:List Bool),j+d=P.length→GoodO N.length P Cl S o→
    ∃ o',GoodO N.length P Cl S o'∧(∀ x,o.getD x false=true→o'.getD x false=true)∧((∀ i,j≤i→i<P.length→Ob P Cl o i)→o'=o)∧((o'=o∧∀ i,j≤i→i<P.length→Ob P Cl o i)∨o.count true<o'.count true)∧
    ∀ (r:List Bool) (K:Nat),(∀ k,K≤k→spec_l19Served.l1 k [(⟨N,P⟩:S32)] Cl o' ((t+1:Nat):Int)=some r)→∀ k,K+d<k→1048600+d<k→spec_l19Served.l2 k [(⟨N,P⟩:S32)] Cl o (t:Int) (j:Int)=some r:=by
  intro d
  induction d with
  |zero=>
    intro j o hj ho
    refine ⟨o,ho,fun x h=>h,fun _=>rfl,Or.inl ⟨rfl,fun i h1 h2=>by omega⟩,fun r K hr k hk hk2=>?_⟩
    obtain ⟨k,rfl⟩:=suc_of hk
    have:=hE.2.2.1
    simp only [spec_l19Served.l2,show rd_T32 [(⟨N,P⟩:S32)] 0=⟨N,P⟩ from rfl]
    rw [if_pos (by simp),if_neg (by omega),next_nat (n:=17) (by omega) (by omega)]
    exact hr k (by omega)
  |succ d ih=>
    intro j o hj ho
    have h16:=hE.2.2.1
    have h20:=hE.1
    obtain ⟨e1,e2⟩:=hE.2.2.2 j (by omega)
    have hl:=ho.1
    have head:∀ k,1048600<k→spec_l19Served.l2 (k+1) [(⟨N,P⟩:S32)] Cl o (t:Int) (j:Int)=if decide ((j:Int) ∈ Cl)=true then spec_l19Served.l2 k [(⟨N,P⟩:S32)] Cl o (t:Int) ((j+1:Nat):Int) else if (o.getD (pat P j).f1.toNat false==o.getD (pat P j).f2.toNat false)=true then spec_l19Served.l2 k [(⟨N,P⟩:S32)] Cl o (t:Int) ((j+1:Nat):Int) else spec_l19Served.l2 k [(⟨N,P⟩:S32)] Cl ((o.set (pat P j).f1.toNat true).set (pat P j).f2.toNat true) (t:Int) ((j+1:Nat):Int):=by
      intro k hk
      simp only [spec_l19Served.l2,show rd_T32 [(⟨N,P⟩:S32)] 0=⟨N,P⟩ from rfl,show ∀ i:Nat,rd_T80 P (i:Int)=pat P i from fun _=>rfl,show ∀ (l:List Bool) (x:Int),rdOf false l x=l.getD x.toNat false from fun _ _=>rfl]
      rw [if_pos (by simp),if_pos (by omega),if_pos (by omega),spec_has Cl (by omega) _ k (by omega),Option.bind_some,next_nat (n:=21) (by omega) (by omega),if_pos (show (0:Int)≤(pat P j).f1 by omega),if_pos (show (pat P j).f1<(o.length:Int) by omega),if_pos (show (0:Int)≤(pat P j).f2 by omega),if_pos (show (pat P j).f2<(o.length:Int) by omega)]
    have same:(Ob P Cl o j)→(∀ k,1048600<k→spec_l19Served.l2 (k+1) [(⟨N,P⟩:S32)] Cl o (t:Int) (j:Int)=spec_l19Served.l2 k [(⟨N,P⟩:S32)] Cl o (t:Int) ((j+1:Nat):Int))→∃ o',GoodO N.length P Cl S o'∧(∀ x,o.getD x false=true→o'.getD x false=true)∧((∀ i,j≤i→i<P.length→Ob P Cl o i)→o'=o)∧((o'=o∧∀ i,j≤i→i<P.length→Ob P Cl o i)∨o.count true<o'.count true)∧
        ∀ (r:List Bool) (K:Nat),(∀ k,K≤k→spec_l19Served.l1 k [(⟨N,P⟩:S32)] Cl o' ((t+1:Nat):Int)=some r)→∀ k,K+(d+1)<k→1048600+(d+1)<k→spec_l19Served.l2 k [(⟨N,P⟩:S32)] Cl o (t:Int) (j:Int)=some r:=by
      intro hob hst
      obtain ⟨o',b1,b2,b3,b4,b5⟩:=ih (j+1) o (by omega) ho
      refine ⟨o',b1,b2,fun h=>b3 (fun i h1 h2=>h i (by omega) h2),?_,fun r K hr k hk hk2=>?_⟩
      · rcases b4 with ⟨e,h⟩|h
        · refine Or.inl ⟨e,fun i h1 h2=>?_⟩
          by_cases e3:i=j
          · subst e3;exact hob
          · exact h i (by omega) h2
        · exact Or.inr h
      · obtain ⟨k,rfl⟩:=suc_of hk
        rw [hst k (by omega)]
        exact b5 r K hr k (by omega) (by omega)
    by_cases c1:(j:Int) ∈ Cl
    · exact same (fun hc=>absurd c1 hc) (fun k hk=>by rw [head k hk,decide_eq_true c1,if_pos rfl])
    · by_cases c2:o.getD (pat P j).f1.toNat false=o.getD (pat P j).f2.toNat false
      · exact same (fun _=>c2) (fun k hk=>by rw [head k hk,decide_eq_false c1,if_neg Bool.false_ne_true,if_pos (by rw [c2];simp)])
      · have l1:(pat P j).f1.toNat<o.length:=by omega
        have l2:(pat P j).f2.toNat<(o.set (pat P j).f1.toNat true).length:=by rw [List.length_set];omega
        have get2:∀ x,((o.set (pat P j).f1.toNat true).set (pat P j).f2.toNat true).getD x false=if (pat P j).f2.toNat=x then true else if (pat P j).f1.toNat=x then true else o.getD x false:=fun x=>by rw [getD_setB _ _ _ l2,getD_setB _ _ _ l1]
        have hgen:Gen P Cl S (pat P j).f1∧Gen P Cl S (pat P j).f2:=by
          have iff:=Gen.inv P Cl S j (by omega) c1
          cases q1:o.getD (pat P j).f1.toNat false with
          |true=>
            have h:=ho.2 (pat P j).f1.toNat (by omega) q1
            rw [show (((pat P j).f1.toNat:Nat):Int)=(pat P j).f1 by omega] at h
            exact ⟨h,iff.1 h⟩
          |false=>
            cases q2:o.getD (pat P j).f2.toNat false with
            |true=>
              have h:=ho.2 (pat P j).f2.toNat (by omega) q2
              rw [show (((pat P j).f2.toNat:Nat):Int)=(pat P j).f2 by omega] at h
              exact ⟨iff.2 h,h⟩
            |false=>exact absurd (q1.trans q2.symm) c2
        have ho2:GoodO N.length P Cl S ((o.set (pat P j).f1.toNat true).set (pat P j).f2.toNat true):=by
          refine ⟨by rw [List.length_set,List.length_set];exact hl,fun x hx h=>?_⟩
          rw [get2] at h
          by_cases x2:(pat P j).f2.toNat=x
          · rw [← x2,show (((pat P j).f2.toNat:Nat):Int)=(pat P j).f2 by omega];exact hgen.2
          · rw [if_neg x2] at h
            by_cases x1:(pat P j).f1.toNat=x
            · rw [← x1,show (((pat P j).f1.toNat:Nat):Int)=(pat P j).f1 by omega];exact hgen.1
            · rw [if_neg x1] at h;exact ho.2 x hx h
        have hcnt:o.count true<((o.set (pat P j).f1.toNat true).set (pat P j).f2.toNat true).count true:=by
          rw [cnt_set _ _ l2,cnt_set _ _ l1,getD_setB _ _ _ l1]
          cases q1:o.getD (pat P j).f1.toNat false with
          |true=>
            cases q2:o.getD (pat P j).f2.toNat false with
            |true=>exact absurd (q1.trans q2.symm) c2
            |false=>
              rw [if_neg (show ¬ (if (pat P j).f1.toNat=(pat P j).f2.toNat then true else false)=true from fun h=>by
                split at h
                · rename_i e;rw [e] at q1;rw [q1] at q2;cases q2
                · cases h)]
              omega
          |false=>rw [if_neg Bool.false_ne_true];omega
        obtain ⟨o',b1,b2,b3,b4,b5⟩:=ih (j+1) _ (by omega) ho2
        have mono:∀ x,o.getD x false=true→((o.set (pat P j).f1.toNat true).set (pat P j).f2.toNat true).getD x false=true:=fun x h=>by
          rw [get2];split
          · rfl
          · split
            · rfl
            · exact h
        refine ⟨o',b1,fun x h=>b2 x (mono x h),fun h=>absurd (h j (by omega) (by omega) c1) c2,Or.inr ?_,fun r K hr k hk hk2=>?_⟩
        · rcases b4 with ⟨e,_⟩|h
          · rw [e];exact hcnt
          · omega
        · obtain ⟨k,rfl⟩:=suc_of hk
          rw [head k (by omega),decide_eq_false c1,if_neg Bool.false_ne_true,if_neg (fun h=>c2 (by simpa using h))]
          exact b5 r K hr k (by omega) (by omega)
theorem rounds_l1 (N:List Int) (P:List S80) (Cl S:List Int) (hE:Ends N.length P) (hC:Cl.length≤1048576):∀ (e t:Nat) (o:List Bool),t+e=N.length→GoodO N.length P Cl S o→((∀ i,i<P.length→Ob P Cl o i)∨t≤o.count true)→
    ∃ o',GoodO N.length P Cl S o'∧(∀ x,o.getD x false=true→o'.getD x false=true)∧((∀ i,i<P.length→Ob P Cl o' i)∨N.length≤o'.count true)∧∀ k,1048700+30 * e<k→spec_l19Served.l1 k [(⟨N,P⟩:S32)] Cl o (t:Int)=some o':=by
  intro e
  induction e with
  |zero=>
    intro t o ht ho hc
    refine ⟨o,ho,fun x h=>h,?_,fun k hk=>?_⟩
    · rcases hc with h|h
      · exact Or.inl h
      · exact Or.inr (by omega)
    · obtain ⟨k,rfl⟩:=suc_of hk
      simp only [spec_l19Served.l1,show rd_T32 [(⟨N,P⟩:S32)] 0=⟨N,P⟩ from rfl]
      rw [if_pos (by simp),if_neg (by omega)]
  |succ e ih=>
    intro t o ht ho hc
    have h20:=hE.1
    obtain ⟨o1,b1,b2,b3,b4,b5⟩:=pass_l2 N P Cl S hE hC t (by omega) P.length 0 o (by omega) ho
    have hc1:(∀ i,i<P.length→Ob P Cl o1 i)∨t+1≤o1.count true:=by
      rcases b4 with ⟨e,h⟩|h
      · rw [e];exact Or.inl (fun i hi=>h i (by omega) hi)
      · rcases hc with hc|hc
        · rw [b3 (fun i _ hi=>hc i hi)] at h;omega
        · exact Or.inr (by omega)
    obtain ⟨o',g1,g2,g3,g4⟩:=ih (t+1) o1 (by omega) b1 hc1
    refine ⟨o',g1,fun x h=>g2 x (b2 x h),g3,fun k hk=>?_⟩
    obtain ⟨k,rfl⟩:=suc_of hk
    simp only [spec_l19Served.l1,show rd_T32 [(⟨N,P⟩:S32)] 0=⟨N,P⟩ from rfl]
    rw [if_pos (by simp),if_pos (by omega)]
    exact b5 o' (1048701+30 * e) (fun k hk=>g4 k (by omega)) k (by omega) (by omega)
theorem marks_l0 (N:List Int) (P:List S80) (Cl S:List Int) (hS:S.length≤1048576) (hr:∀ x ∈ S,0≤x∧x<(N.length:Int)):∀ (d j:Nat) (o:List Bool),j+d=S.length→GoodO N.length P Cl S o→
    ∃ o',GoodO N.length P Cl S o'∧(∀ x,o.getD x false=true→o'.getD x false=true)∧(∀ s ∈ S.drop j,o'.getD s.toNat false=true)∧∀ (r:List Bool) (K:Nat),(∀ k,K≤k→spec_l19Served.l1 k [(⟨N,P⟩:S32)] Cl o' 0=some r)→∀ k,K+d<k→spec_l19Served.l0 k [(⟨N,P⟩:S32)] S Cl o (j:Int)=some r:=by
  intro d
  induction d with
  |zero=>
    intro j o hj ho
    refine ⟨o,ho,fun x h=>h,fun s hs=>?_,fun r K hr2 k hk=>?_⟩
    · rw [List.drop_eq_nil_of_le (by omega)] at hs;simp at hs
    · obtain ⟨k,rfl⟩:=suc_of hk
      simp only [spec_l19Served.l0]
      rw [if_neg (by omega)]
      exact hr2 k (by omega)
  |succ d ih=>
    intro j o hj ho
    have hm:S.getD j 0 ∈ S:=getD_mem (by omega)
    have hx:=hr _ hm
    have hl:=ho.1
    have l1:(S.getD j 0).toNat<o.length:=by omega
    have ho2:GoodO N.length P Cl S (o.set (S.getD j 0).toNat true):=by
      refine ⟨by rw [List.length_set];exact hl,fun x hx2 h=>?_⟩
      rw [getD_setB _ _ _ l1] at h
      by_cases e:(S.getD j 0).toNat=x
      · rw [← e,show (((S.getD j 0).toNat:Nat):Int)=S.getD j 0 by omega];exact Gen.base hm
      · rw [if_neg e] at h;exact ho.2 x hx2 h
    obtain ⟨o',b1,b2,b3,b4⟩:=ih (j+1) _ (by omega) ho2
    refine ⟨o',b1,fun x h=>b2 x (by rw [getD_setB _ _ _ l1];split;rfl;exact h),fun s hs=>?_,fun r K hr2 k hk=>?_⟩
    · rw [drop_cons S (j:=j) (by omega) 0] at hs
      rcases List.mem_cons.1 hs with h|h
      · rw [h];exact b2 _ (by rw [getD_setB _ _ _ l1,if_pos rfl])
      · exact b3 s h
    · obtain ⟨k,rfl⟩:=suc_of hk
      simp only [spec_l19Served.l0]
      rw [if_pos (by omega),if_pos (by omega),rd_nat,if_pos hx.1,if_pos (by omega),next_nat (n:=S.length) (by omega) (by omega)]
      exact b4 r K hr2 k (by omega)
/-- The nodes that the reference says are served. -/
theorem served_ref (N:List Int) (P:List S80) (Cl S:List Int) (hE:Ends N.length P) (hC:Cl.length≤1048576) (hS:S.length≤1048576) (hr:∀ x ∈ S,0≤x∧x<(N.length:Int)):∃ o:List Bool,o.length=N.length∧(∀ x:Nat,x<N.length→(o.getD x false=true↔Gen P Cl S (x:Int)))∧∀ k,2100000<k→spec_l19Served.f k [(⟨N,P⟩:S32)] S Cl=some o:=by
  have h16:=hE.2.2.1
  have h0:GoodO N.length P Cl S (List.replicate N.length false):=⟨by simp,fun x hx h=>by rw [getD_lt (by simpa using hx)] at h;simp at h⟩
  obtain ⟨o1,a1,a2,a3,a4⟩:=marks_l0 N P Cl S hS hr S.length 0 _ (by omega) h0
  obtain ⟨o,b1,b2,b3,b4⟩:=rounds_l1 N P Cl S hE hC N.length 0 o1 (by omega) a1 (Or.inr (by omega))
  refine ⟨o,b1.1,fun x hx=>⟨b1.2 x hx,fun h=>?_⟩,fun k hk=>?_⟩
  · rcases b3 with b3|b3
    · refine (h (fun y=>o.getD y.toNat false=true) (fun i hi hc=>?_) (fun s hs=>b2 _ (a3 s hs)))
      have:=b3 i hi hc
      show (o.getD (pat P i).f1.toNat false=true↔o.getD (pat P i).f2.toNat false=true)
      rw [this]
    · have hle:o.count true≤o.length:=List.count_le_length
      have hl:=b1.1
      have hall:=List.count_eq_length.1 (show o.count true=o.length by omega)
      rw [getD_lt (by omega)]
      exact (hall _ (List.getElem_mem (by omega))).symm
  · unfold spec_l19Served.f
    simp only [show rd_T32 [(⟨N,P⟩:S32)] 0=⟨N,P⟩ from rfl]
    rw [if_pos (by simp),if_pos (by omega),if_pos (by omega),Int.toNat_natCast]
    exact a4 o 1050000 (fun k hk=>b4 k (by omega)) k (by omega)

def ask (N:List Int) (P:List S80) (S C:List Int):Int:=if netv N P=true then (if (S.all (fun x=>decide ((0:Int)≤x∧x≤(N.length:Int) - 1))&&inc S)=true then (if (C.all (fun x=>decide ((0:Int)≤x∧x≤(P.length:Int) - 1))&&inc C)=true then 0 else 7) else 7) else 1
theorem spec_askS (N:List Int) (P:List S80) (S C:List Int) (hN:N.length≤1048576) (hP:P.length≤1048576) (hs:∀ x ∈ P,x.f0.size≤1048576) (hS:S.length≤1048576) (hC:C.length≤1048576) (k:Nat) (hk:3145790<k):spec_l19Ask.f k [(⟨N,P⟩:S32)] S C=some (ask N P S C):=by
  unfold spec_l19Ask.f spec_l04Closed.f ask
  rw [(net_both N P hN hP hs k (by omega)).1,Option.bind_some]
  cases netv N P
  · rfl
  · rw [if_pos rfl,if_pos rfl,if_pos (by simp)]
    simp only [show rd_T32 [(⟨N,P⟩:S32)] 0=⟨N,P⟩ from rfl]
    rw [wrap_id (x:=(N.length:Int) - 1) (by omega) (by omega),wrap_id (x:=(P.length:Int) - 1) (by omega) (by omega),spec_rises S (by omega) _ _ k (by omega),Option.bind_some,if_pos (show (0:Int)<(([(⟨N,P⟩:S32)].length:Nat):Int) by simp),spec_rises C (by omega) _ _ k (by omega),Option.bind_some,Option.bind_some]
    generalize (S.all (fun x=>decide ((0:Int)≤x∧x≤(N.length:Int) - 1))&&inc S)=a
    generalize (C.all (fun x=>decide ((0:Int)≤x∧x≤(P.length:Int) - 1))&&inc C)=b
    cases a<;>cases b<;>rfl
theorem impl_askS (N:List Int) (P:List S80) (S C:List Int) (hN:N.length≤1048576) (hP:P.length≤1048576) (hs:∀ x ∈ P,x.f0.size≤1048576) (hS:S.length≤1048576) (hC:C.length≤1048576) (k:Nat) (hk:3145790<k):impl_serviceCode.f k N P S C [] []=some (ask N P S C):=by
  obtain ⟨k,rfl⟩:=suc_of hk
  have b1:impl_serviceCode.j0 (k+1) [] true N P=some 7:=by simp only [impl_serviceCode.j0];rfl
  have b2:impl_serviceCode.j0 (k+1) [] false N P=some 0:=by
    simp only [impl_serviceCode.j0,impl_all]
    rw [if_neg Bool.false_ne_true,if_neg (by simp),Option.bind_some,if_pos (by simp)]
  unfold impl_serviceCode.f impl_Network_hasNodes.f impl_Network_hasPipes.f ask
  rw [(net_both N P hN hP hs (k+1) (by omega)).2,Option.bind_some]
  cases netv N P
  · rfl
  · rw [if_pos rfl,if_pos rfl,impl_inc S (by omega) (k+1) (by omega),impl_inc C (by omega) (k+1) (by omega),impl_inc [] (by simp) (k+1) (by simp),impl_all,impl_all,impl_all,wrap_id (x:=(N.length:Int) - 1) (by omega) (by omega),wrap_id (x:=(P.length:Int) - 1) (by omega) (by omega)]
    simp only [Option.bind_some]
    generalize (S.all fun x=>decide ((0:Int)≤x∧x≤(N.length:Int) - 1))=a
    generalize (C.all fun x=>decide ((0:Int)≤x∧x≤(P.length:Int) - 1))=b
    cases inc S<;>cases a<;>cases inc C<;>cases b<;>first|exact b1|exact b2
theorem ask_cases (N:List Int) (P:List S80) (S C:List Int):(netv N P=false∧ask N P S C=1)∨(netv N P=true∧ask N P S C=7)∨(netv N P=true∧ask N P S C=0∧(∀ x ∈ S,0≤x∧x<(N.length:Int))∧(∀ x ∈ C,0≤x∧x<(P.length:Int))∧inc S=true∧inc C=true):=by
  unfold ask
  cases netv N P
  · exact Or.inl ⟨rfl,rfl⟩
  · rw [if_pos rfl]
    by_cases a:(S.all (fun x=>decide ((0:Int)≤x∧x≤(N.length:Int) - 1))&&inc S)=true
    · rw [if_pos a]
      by_cases b:(C.all (fun x=>decide ((0:Int)≤x∧x≤(P.length:Int) - 1))&&inc C)=true
      · rw [if_pos b]
        rw [Bool.and_eq_true,List.all_eq_true] at a b
        refine Or.inr (Or.inr ⟨rfl,rfl,fun x hx=>?_,fun x hx=>?_,a.2,b.2⟩)
        · have:=of_decide_eq_true (a.1 x hx);omega
        · have:=of_decide_eq_true (b.1 x hx);omega
      · rw [if_neg b];exact Or.inr (Or.inl ⟨rfl,rfl⟩)
    · rw [if_neg a];exact Or.inr (Or.inl ⟨rfl,rfl⟩)

theorem upTo_strict (d:Array Int) (hd:∀ j,j+1<d.size→d[j]!≤d[j+1]!):∀ m,m≤d.size→(Lib.compactUpTo d m).Pairwise (· < ·)∧∀ x ∈ Lib.compactUpTo d m,x≤d[m - 1]! :=by
  intro m
  induction m with
  |zero=>intro _;simp [Lib.compactUpTo]
  |succ m ih=>
    intro hm
    obtain ⟨h1,h2⟩:=ih (by omega)
    rw [Lib.compactUpTo_succ]
    have hle:0<m→d[m - 1]!≤d[m]! :=fun h0=>by
      have:=hd (m - 1) (by omega)
      rwa [show m - 1+1=m by omega] at this
    have hup:∀ x ∈ Lib.compactUpTo d m,x≤d[m]! :=fun x hx=>by
      rcases Nat.eq_zero_or_pos m with h0|h0
      · subst h0;simp [Lib.compactUpTo] at hx
      · exact Int.le_trans (h2 x hx) (hle h0)
    cases hk:Lib.keeps d m with
    |false=>
      rw [if_neg Bool.false_ne_true,List.append_nil]
      exact ⟨h1,fun x hx=>by simpa using hup x hx⟩
    |true=>
      rw [if_pos rfl]
      refine ⟨?_,?_⟩
      · rw [List.pairwise_append]
        refine ⟨h1,by simp,fun x hx y hy=>?_⟩
        simp only [List.mem_singleton] at hy
        subst hy
        rcases Nat.eq_zero_or_pos m with h0|h0
        · subst h0;simp [Lib.compactUpTo] at hx
        · have a:=h2 x hx
          have b:=hle h0
          unfold Lib.keeps at hk
          have hk2:=of_decide_eq_true hk
          rcases hk2 with h|h
          · omega
          · omega
      · intro x hx
        rcases List.mem_append.1 hx with h|h
        · simpa using hup x h
        · simp only [List.mem_singleton] at h;subst h;simp
theorem compact_strict (V:List Int):(Lib.compact (srt V)).Pairwise (· < ·):=by
  have h:=srt_le V
  refine (upTo_strict (srt V).toArray (fun j hj=>?_) (srt V).length (by simp)).1
  have hj2:j+1<(srt V).length:=by simpa using hj
  rw [getElem!_pos (srt V).toArray j (by omega),getElem!_pos (srt V).toArray (j+1) (by omega)]
  simpa using (List.pairwise_iff_getElem.1 h) j (j+1) (by omega) hj2 (by omega)
/-- The numbers that are chosen, from j on. -/
theorem served_list (n:Nat) (V:List Int) (o:List Bool) (hr:∀ x ∈ V,0≤x∧x<(n:Int)) (h:∀ x:Nat,x<n→(o.getD x false=true↔(x:Int) ∈ V)):Lib.compact (srt V)=sel (fun x=>o.getD x false) n 0:=by
  refine strict_eq _ _ (compact_strict V) (sel_strict _ n 0) (fun x=>?_)
  rw [compact_mem,srt_mem,sel_mem]
  constructor
  · intro hx
    have hx2:=hr x hx
    refine ⟨x.toNat,by omega,by omega,?_,by omega⟩
    show o.getD x.toNat false=true
    rw [h x.toNat (by omega),show ((x.toNat:Nat):Int)=x by omega]
    exact hx
  · rintro ⟨i,_,h2,h3,rfl⟩
    exact (h i (by omega)).1 h3

theorem Gen_congr {P:List S80} {A B S:List Int} (h:∀ x,x ∈ A↔x ∈ B) (x:Int):Gen P A S x↔Gen P B S x:=by
  have e:∀ X,Inv P A X↔Inv P B X:=fun X=>⟨fun hx i hi hc=>hx i hi (fun m=>hc ((h _).1 m)),fun hx i hi hc=>hx i hi (fun m=>hc ((h _).2 m))⟩
  exact ⟨fun g X hX hs=>g X ((e X).2 hX) hs,fun g X hX hs=>g X ((e X).1 hX) hs⟩
theorem inc_pw:∀ l:List Int,inc l=true→l.Pairwise (· < ·)
  |[],_=>by simp
  |[a],_=>by simp
  |a :: b :: t,h=>by
    simp only [inc,Bool.and_eq_true,decide_eq_true_eq] at h
    have hp:=inc_pw (b :: t) h.2
    refine List.pairwise_cons.2 ⟨fun x hx=>?_,hp⟩
    rcases List.mem_cons.1 hx with e|e
    · rw [e];exact h.1
    · exact Int.lt_trans h.1 ((List.pairwise_cons.1 hp).1 x e)
theorem inc_len (l:List Int) (n:Nat) (h:inc l=true) (hr:∀ x ∈ l,0≤x∧x<(n:Int)):l.length≤n:=by
  have:=len_le l (al n) ((inc_pw l h).imp (fun h=>by omega)) (fun x hx=>(al_mem _ x).2 (hr x hx))
  rwa [al_len] at this
/-- A number is put into a list: nothing else changes. -/
theorem put_l0 (A:List Int) (v:Int) (hA:A.length≤1048576):∀ (d j:Nat) (B:List Int) (b:Bool),j+d=A.length→B.length≤j+b.toNat→(b=true→v ∈ B)→
    ∃ B':List Int,(∀ k,2 * d<k→spec_l00Put.l0 k A v B b (j:Int)=some B')∧B'.length≤A.length+1∧∀ x,x ∈ B'↔x ∈ B∨x ∈ A.drop j∨x=v:=by
  intro d
  induction d with
  |zero=>
    intro j B b hj hB hb
    cases b
    · have hB':B.length≤j:=hB
      refine ⟨B++[v],fun k hk=>?_,by simp;omega,fun x=>?_⟩
      · obtain ⟨k,rfl⟩:=suc_of hk
        simp only [spec_l00Put.l0]
        rw [if_neg (by omega),if_neg Bool.false_ne_true,if_pos (by omega)]
      · rw [List.drop_eq_nil_of_le (by omega)];simp
    · have hB':B.length≤j+1:=hB
      refine ⟨B,fun k hk=>?_,by omega,fun x=>?_⟩
      · obtain ⟨k,rfl⟩:=suc_of hk
        simp only [spec_l00Put.l0]
        rw [if_neg (by omega),if_pos trivial]
      · rw [List.drop_eq_nil_of_le (by omega)]
        constructor
        · intro h;exact Or.inl h
        · rintro (h|h|h)
          · exact h
          · simp at h
          · rw [h];exact hb rfl
  |succ d ih=>
    intro j B b hj hB hb
    have hd:=drop_cons A (j:=j) (by omega) 0
    have go:∀ (B2:List Int) (b2:Bool),B2.length≤j+1+b2.toNat→(b2=true→v ∈ B2)→(∀ x,(x ∈ B2∨x=v)↔(x ∈ B∨x=A.getD j 0∨x=v))→(∀ k,spec_l00Put.l0 (k+1+1) A v B b (j:Int)=spec_l00Put.l0 k A v B2 b2 ((j+1:Nat):Int))→∃ B':List Int,(∀ k,2 * (d+1)<k→spec_l00Put.l0 k A v B b (j:Int)=some B')∧B'.length≤A.length+1∧∀ x,x ∈ B'↔x ∈ B∨x ∈ A.drop j∨x=v:=by
      intro B2 b2 h1 h2 h3 h4
      obtain ⟨B',c1,c2,c3⟩:=ih (j+1) B2 b2 (by omega) h1 h2
      refine ⟨B',fun k hk=>?_,c2,fun x=>?_⟩
      · obtain ⟨k,rfl⟩:∃ m,k=m+1+1:=⟨k - 2,by omega⟩
        rw [h4];exact c1 k (by omega)
      · rw [c3,hd,List.mem_cons]
        have:=h3 x
        constructor
        · rintro (h|h|h)
          · rcases this.1 (Or.inl h) with q|q|q
            · exact Or.inl q
            · exact Or.inr (Or.inl (Or.inl q))
            · exact Or.inr (Or.inr q)
          · exact Or.inr (Or.inl (Or.inr h))
          · exact Or.inr (Or.inr h)
        · rintro (h|(h|h)|h)
          · rcases this.2 (Or.inl h) with q|q
            · exact Or.inl q
            · exact Or.inr (Or.inr q)
          · rcases this.2 (Or.inr (Or.inl h)) with q|q
            · exact Or.inl q
            · exact Or.inr (Or.inr q)
          · exact Or.inr (Or.inl h)
          · exact Or.inr (Or.inr h)
    have nx:wrap64 ((j:Int)+1)=((j+1:Nat):Int):=next_nat (n:=A.length) (by omega) (by omega)
    cases b
    · have hB':B.length≤j:=hB
      by_cases c1:A.getD j 0≥v
      · by_cases c2:A.getD j 0 > v
        · refine go (B++[v]++[A.getD j 0]) true (by show _≤j+1+1;simp;omega) (fun _=>by simp) (fun x=>by
          simp only [List.mem_append,List.mem_singleton]
          constructor
          · rintro (((h|h)|h)|h)
            · exact Or.inl h
            · exact Or.inr (Or.inr h)
            · exact Or.inr (Or.inl h)
            · exact Or.inr (Or.inr h)
          · rintro (h|h|h)
            · exact Or.inl (Or.inl (Or.inl h))
            · exact Or.inl (Or.inr h)
            · exact Or.inr h) (fun k=>?_)
          simp only [spec_l00Put.l0,spec_l00Put.j1]
          rw [if_pos (by omega),if_neg Bool.false_ne_true,if_pos (by omega),rd_nat,decide_eq_true c1,if_pos rfl,if_pos (by omega),if_pos (by omega),if_pos c2,if_pos (by omega),Option.bind_some,if_pos (by simp;omega),nx]
        · have e:A.getD j 0=v:=by omega
          refine go (B++[A.getD j 0]) true (by show _≤j+1+1;simp;omega) (fun _=>by rw [e];simp) (fun x=>by rw [e];simp only [List.mem_append,List.mem_singleton];constructor<;>intro h<;>(rcases h with h|h<;>first|(rcases h with h|h<;>simp [h])|simp [h])) (fun k=>?_)
          simp only [spec_l00Put.l0,spec_l00Put.j1]
          rw [if_pos (by omega),if_neg Bool.false_ne_true,if_pos (by omega),rd_nat,decide_eq_true c1,if_pos rfl,if_pos (by omega),if_pos (by omega),if_neg c2,if_pos (by omega),nx]
      · refine go (B++[A.getD j 0]) false (by show _≤j+1+0;simp;omega) (by simp) (fun x=>by simp only [List.mem_append,List.mem_singleton,or_assoc]) (fun k=>?_)
        simp only [spec_l00Put.l0,spec_l00Put.j1]
        rw [if_pos (by omega),if_neg Bool.false_ne_true,if_pos (by omega),rd_nat,decide_eq_false c1,if_neg Bool.false_ne_true,if_pos (by omega),if_pos (by omega),if_pos (by omega),nx]
    · have hB':B.length≤j+1:=hB
      refine go (B++[A.getD j 0]) true (by show _≤j+1+1;simp;omega) (fun _=>List.mem_append.2 (Or.inl (hb rfl))) (fun x=>by simp only [List.mem_append,List.mem_singleton,or_assoc]) (fun k=>?_)
      simp only [spec_l00Put.l0,spec_l00Put.j1]
      rw [if_pos (by omega),if_pos trivial,if_neg Bool.false_ne_true,if_pos (by omega),if_pos (by omega),if_pos (by omega),rd_nat,nx]
theorem with_len (C:List Int) (v:Int) (hC:C.length≤1048575):∃ D:List Int,(∀ k,2 * C.length<k→spec_l19With.f k C v=some D)∧D.length≤C.length+1∧∀ x,x ∈ D↔x ∈ C∨x=v:=by
  obtain ⟨D,d1,d2,d3⟩:=put_l0 C v (by omega) C.length 0 [] false (by omega) (by simp) (by simp)
  refine ⟨D,fun k hk=>?_,by omega,fun x=>by rw [d3];simp⟩
  unfold spec_l19With.f spec_l00Own.f spec_l00Put.f
  rw [Option.bind_some,if_pos (by simp;omega),Option.bind_some,List.nil_append]
  have:=d1 k (by omega)
  rw [show ((0:Nat):Int)=0 from rfl] at this
  rw [this];rfl
theorem with_spec (C:List Int) (v:Int) (hC:C.length≤20):∃ D:List Int,(∀ k,50<k→spec_l19With.f k C v=some D)∧D.length≤41∧∀ x,x ∈ D↔x ∈ C∨x=v:=by
  obtain ⟨D,d1,d2,d3⟩:=with_len C v (by omega)
  exact ⟨D,fun k hk=>d1 k (by omega),by omega,d3⟩

/-! The first closing with which a promised node is lost. -/
theorem rlN (l:List (List Int)) (j:Nat):rd_L4 l (j:Int)=l.getD j []:=by unfold rd_L4;simp
theorem wr01:wrap64 ((0:Int)+1)=1:=wrap_id (by omega) (by omega)
theorem wr12:wrap64 ((1:Int)+1)=2:=wrap_id (by omega) (by omega)
theorem concat2 (A B:List Int) (hA:A.length≤1048576) (hB:B.length≤1048576) (k:Nat) (hk:10<k):slices_Concat_int64_int64.f k [A,B]=some (A++B):=by
  obtain ⟨k,rfl⟩:∃ m,k=m+6:=⟨k - 6,by omega⟩
  have r0:rd_L4 [A,B] 0=A:=rlN [A,B] 0
  have r1:rd_L4 [A,B] 1=B:=rlN [A,B] 1
  have s0:∀ k,slices_Concat_int64_int64.l0 (k+1) [A,B] 0 [A,B] 2 0=slices_Concat_int64_int64.l0 k [A,B] (A.length:Int) [A,B] 2 1:=fun k=>by
    simp only [slices_Concat_int64_int64.l0,r0]
    rw [if_pos (by decide),if_pos (by decide),if_pos (by simp),wrap_id (x:=0+(A.length:Int)) (by omega) (by omega),if_neg (by omega),Int.zero_add,wr01]
  have s1:∀ k,slices_Concat_int64_int64.l0 (k+1) [A,B] (A.length:Int) [A,B] 2 1=slices_Concat_int64_int64.l0 k [A,B] ((A.length:Int)+(B.length:Int)) [A,B] 2 2:=fun k=>by
    simp only [slices_Concat_int64_int64.l0,r1]
    rw [if_pos (by decide),if_pos (by decide),if_pos (by simp),wrap_id (x:=(A.length:Int)+(B.length:Int)) (by omega) (by omega),if_neg (by omega),wr12]
  have s2:∀ k,slices_Concat_int64_int64.l0 (k+1) [A,B] ((A.length:Int)+(B.length:Int)) [A,B] 2 2=slices_Concat_int64_int64.l1 k [] [A,B] 2 0:=fun k=>by
    simp only [slices_Concat_int64_int64.l0,slices_Grow_int64_int64.f]
    rw [if_neg (by decide),if_pos (by omega),Option.bind_some]
    rfl
  have t0:∀ k,slices_Concat_int64_int64.l1 (k+1) [] [A,B] 2 0=slices_Concat_int64_int64.l1 k A [A,B] 2 1:=fun k=>by
    simp only [slices_Concat_int64_int64.l1,r0]
    rw [if_pos (by decide),if_pos (by decide),if_pos (by simp),if_pos (by simp;omega),List.nil_append,wr01]
  have t1:∀ k,slices_Concat_int64_int64.l1 (k+1) A [A,B] 2 1=slices_Concat_int64_int64.l1 k (A++B) [A,B] 2 2:=fun k=>by
    simp only [slices_Concat_int64_int64.l1,r1]
    rw [if_pos (by decide),if_pos (by decide),if_pos (by simp),if_pos (by omega),wr12]
  have t2:∀ k,slices_Concat_int64_int64.l1 (k+1) (A++B) [A,B] 2 2=some (A++B):=fun k=>by
    simp only [slices_Concat_int64_int64.l1]
    rw [if_neg (by decide)]
  unfold slices_Concat_int64_int64.f
  show slices_Concat_int64_int64.l0 (k+5+1) [A,B] 0 [A,B] 2 0=_
  rw [s0,show k+5=k+4+1 from rfl,s1,show k+4=k+3+1 from rfl,s2,show k+3=k+2+1 from rfl,t0,show k+2=k+1+1 from rfl,t1,t2]
def miss (W Pr:List Int):Nat→Nat→Int
  |0,_=> -1
  |d+1,j=>if decide (Pr.getD j 0 ∈ W)=true then miss W Pr d (j+1) else (j:Int)
theorem miss_s (W Pr:List Int) (d j:Nat):miss W Pr (d+1) j=if decide (Pr.getD j 0 ∈ W)=true then miss W Pr d (j+1) else (j:Int):=rfl
theorem miss_r (W Pr:List Int):∀ d j,miss W Pr d j= -1∨(0≤miss W Pr d j∧miss W Pr d j<((j+d:Nat):Int)):=by
  intro d
  induction d with
  |zero=>intro j;exact Or.inl rfl
  |succ d ih=>
    intro j
    rw [miss_s]
    by_cases c:decide (Pr.getD j 0 ∈ W)=true
    · rw [if_pos c]
      rcases ih (j+1) with h|h
      · exact Or.inl h
      · exact Or.inr ⟨h.1,by omega⟩
    · rw [if_neg c];exact Or.inr ⟨by omega,by omega⟩
theorem idx_lost (W:List Int) (hW:W.length≤16) (Pr:List Int) (hP:Pr.length≤1048576):∀ (d j k:Nat),j+d=Pr.length→100+d<k→slices_IndexFunc_int64_int64_c72.l0 k Pr (Pr.length:Int) (j:Int) [W]=some (miss W Pr d j):=by
  intro d
  induction d with
  |zero=>
    intro j k hj hk
    obtain ⟨k,rfl⟩:=suc_of hk
    simp only [slices_IndexFunc_int64_int64_c72.l0]
    rw [if_neg (by omega)];rfl
  |succ d ih=>
    intro j k hj hk
    obtain ⟨k,rfl⟩:=suc_of hk
    have e:impl_FirstLost_1.f k (Pr.getD j 0) [W]=some (!decide (Pr.getD j 0 ∈ W)):=by
      unfold impl_FirstLost_1.f
      have r0:rd_L4 [W] 0=W:=rlN [W] 0
      rw [if_pos (by simp),r0,impl_has W (by omega) _ k (by omega),Option.bind_some]
    simp only [slices_IndexFunc_int64_int64_c72.l0]
    rw [if_pos (by omega),if_pos (by omega),if_pos (by omega),rd_nat,e,Option.bind_some,next_nat (n:=Pr.length) (by omega) (by omega),ih (j+1) k (by omega) (by omega),miss_s]
    cases decide (Pr.getD j 0 ∈ W)
    · rw [if_neg Bool.false_ne_true];rfl
    · rw [if_pos rfl];rfl
theorem sp_lost_l1 (X:List S32) (S Cl Pr D W:List Int) (i:Int) (o:List Bool) (n:Nat) (ho:o.length=n) (hoW:∀ x:Nat,x<n→o.getD x false=decide ((x:Int) ∈ W)) (hP:Pr.length≤1048576) (hr:∀ x ∈ Pr,0≤x∧x<(n:Int)) (R:Option (Int × Int)) (K:Nat):∀ (d j:Nat),j+d=Pr.length→(∀ k,K<k→(if miss W Pr d j<0 then spec_l19Lost.l0 k X S Cl Pr D (wrap64 (i+1)) else some (wrap64 (i+1),rd Pr (miss W Pr d j)))=R)→∀ k,K+d+1<k→spec_l19Lost.l1 k X S Cl Pr D i o (j:Int)=R:=by
  intro d
  induction d with
  |zero=>
    intro j hj hR k hk
    obtain ⟨k,rfl⟩:=suc_of hk
    simp only [spec_l19Lost.l1]
    rw [if_neg (by omega)]
    exact hR k (by omega)
  |succ d ih=>
    intro j hj hR k hk
    obtain ⟨k,rfl⟩:=suc_of hk
    have hm:Pr.getD j 0 ∈ Pr:=getD_mem (by omega)
    obtain ⟨s0,s1⟩:=hr _ hm
    have e:o.getD (Pr.getD j 0).toNat false=decide (Pr.getD j 0 ∈ W):=by
      rw [hoW _ (by omega),Int.toNat_of_nonneg s0]
    simp only [spec_l19Lost.l1,show ∀ (l:List Bool) (x:Int),rdOf false l x=l.getD x.toNat false from fun _ _=>rfl]
    rw [if_pos (show (j:Int)<(Pr.length:Int) by omega),if_pos (show (0:Int)≤(j:Int) by omega),rd_nat,if_pos s0,if_pos (by omega),e,next_nat (n:=Pr.length) (by omega) (by omega)]
    rw [miss_s] at hR
    by_cases c:decide (Pr.getD j 0 ∈ W)=true
    · rw [if_pos c]
      refine ih (j+1) (by omega) (fun k hk=>?_) k (by omega)
      have:=hR k hk
      rw [if_pos c] at this;exact this
    · rw [if_neg c]
      have:=hR (K+1) (by omega)
      rw [if_neg c,if_neg (show ¬ ((j:Int)<0) by omega),rd_nat] at this
      exact this
theorem served_two (N:List Int) (P:List S80) (A B:List Int) (hE:Ends N.length P) (hA:A.length≤1048576) (hB:B.length≤1048576) (S:List Int) (hS:S.length≤1048576) (hr:∀ x ∈ S,0≤x∧x<(N.length:Int)) (hm:∀ x,x ∈ A↔x ∈ B):∃ (W:List Int) (o:List Bool),W.length≤16∧(∀ k,2100000<k→impl_Network_served.f k N P S A=some W)∧o.length=N.length∧(∀ x:Nat,x<N.length→o.getD x false=decide ((x:Int) ∈ W))∧∀ k,2100000<k→spec_l19Served.f k [(⟨N,P⟩:S32)] S B=some o:=by
  obtain ⟨V,v1,v2,v3,v4⟩:=served_spec N P A hE hA S hS hr
  obtain ⟨o,o1,o2,o3⟩:=served_ref N P B S hE hB hS hr
  have h16:=hE.2.2.1
  have hl:=served_list N.length V o v2 (fun x hx=>by rw [o2 x hx,v3,Gen_congr hm])
  refine ⟨sel (fun x=>o.getD x false) N.length 0,o,Nat.le_trans (sel_len _ _ _) h16,fun k hk=>by rw [v4 k (by omega),hl],o1,fun x hx=>?_,o3⟩
  have e:((x:Int) ∈ sel (fun x=>o.getD x false) N.length 0)↔o.getD x false=true:=by
    rw [sel_mem]
    constructor
    · rintro ⟨i,_,_,h3,h4⟩
      have:i=x:=by omega
      subst this;exact h3
    · intro h;exact ⟨x,by omega,by omega,h,rfl⟩
  cases q:o.getD x false
  · rw [q] at e
    rw [decide_eq_false (fun h=>by have:=e.1 h;cases this)]
  · rw [q] at e
    rw [decide_eq_true (e.2 rfl)]
theorem lost_walk (N:List Int) (P:List S80) (S C Cl Pr:List Int) (hE:Ends N.length P) (hC:C.length≤20) (hCl:Cl.length≤64) (hS:S.length≤1048576) (hPr:Pr.length≤16) (hr:∀ x ∈ S,0≤x∧x<(N.length:Int)) (hp:∀ x ∈ Pr,0≤x∧x<(N.length:Int)):∀ (d t:Nat) (D:List Int),t+d=Cl.length+1→D.length≤20+t→(∀ x,x ∈ D↔x ∈ C∨x ∈ Cl.take (t - 1))→∃ a b:Int,(∀ k,2200000+30 * d<k→spec_l19Lost.l0 k [(⟨N,P⟩:S32)] S Cl Pr D ((t:Int) - 1)=some (a,b))∧∀ k,2200000+30 * d<k→impl_FirstLost.l0 k S C Cl Pr (t:Int) N P=some (if a<0 then (0,0,3) else (a,b,0)):=by
  intro d
  induction d with
  |zero=>
    intro t D ht hD hm
    refine ⟨-1,0,fun k hk=>?_,fun k hk=>?_⟩
    · obtain ⟨k,rfl⟩:=suc_of hk
      simp only [spec_l19Lost.l0]
      rw [if_neg (by omega)]
    · obtain ⟨k,rfl⟩:=suc_of hk
      simp only [impl_FirstLost.l0]
      rw [if_neg (by omega),if_pos (by decide)]
  |succ d ih=>
    intro t D ht hD hm
    obtain ⟨D',d1,d2,d3⟩:∃ D':List Int,(∀ k,2200<k→∀ R:Option (Int × Int),(spec_l19Lost.j1 k [(⟨N,P⟩:S32)] S Cl Pr D' ((t:Int) - 1)=R)→spec_l19Lost.l0 (k+1) [(⟨N,P⟩:S32)] S Cl Pr D ((t:Int) - 1)=R)∧D'.length≤20+(t+1)∧∀ x,x ∈ D'↔x ∈ C∨x ∈ Cl.take t:=by
      by_cases c:t=0
      · refine ⟨D,fun k hk R h=>?_,by omega,fun x=>?_⟩
        · simp only [spec_l19Lost.l0]
          rw [if_pos (by omega),if_neg (by omega)]
          exact h
        · rw [hm,c]
      · obtain ⟨D',e1,e2,e3⟩:=with_len D (Cl.getD (t - 1) 0) (by omega)
        have et:((t:Int) - 1)=((t - 1:Nat):Int):=by omega
        refine ⟨D',fun k hk R h=>?_,by omega,fun x=>?_⟩
        · rw [et] at h ⊢
          simp only [spec_l19Lost.l0]
          rw [if_pos (by omega),if_pos (by omega),if_pos (by omega),rd_nat,e1 k (by omega),Option.bind_some]
          exact h
        · rw [e3,hm,show Cl.take t=Cl.take (t - 1)++[Cl.getD (t - 1) 0] from by
            obtain ⟨s,rfl⟩:∃ s,t=s+1:=⟨t - 1,by omega⟩
            rw [Nat.add_sub_cancel,getD_lt (by omega),List.take_succ_eq_append_getElem (by omega)]]
          simp only [List.mem_append,List.mem_singleton,or_assoc]
    have lt:(Cl.take t).length≤64:=by simp;omega
    obtain ⟨W,o,w1,w2,w3,w4,w5⟩:=served_two N P (C++Cl.take t) D' hE (by rw [List.length_append];omega) (by omega) S hS hr (fun x=>by rw [d3,List.mem_append])
    obtain ⟨a,b,i1,i2⟩:=ih (t+1) D' (by omega) d2 (by rw [Nat.add_sub_cancel];exact d3)
    have wt:Unit→wrap64 ((t:Int) - 1+1)=(t:Int):=fun _=>by rw [show (t:Int) - 1+1=(t:Int) by omega];exact wrap_id (by omega) (by omega)
    have wn:Unit→wrap64 ((t:Int)+1)=((t+1:Nat):Int):=fun _=>next_nat (n:=70) (by omega) (by omega)
    have et2:((t:Int))=(((t+1:Nat):Int) - 1):=by omega
    rcases miss_r W Pr Pr.length 0 with q|q
    · refine ⟨a,b,fun k hk=>?_,fun k hk=>?_⟩
      · obtain ⟨k,rfl⟩:∃ m,k=m+1+1:=⟨k - 2,by omega⟩
        refine d1 (k+1) (by omega) _ ?_
        simp only [spec_l19Lost.j1]
        rw [w5 k (by omega),Option.bind_some]
        have:=sp_lost_l1 [(⟨N,P⟩:S32)] S Cl Pr D' W ((t:Int) - 1) o N.length w3 w4 (by omega) hp (some (a,b)) (2200000+30 * d) Pr.length 0 (by omega) (fun k hk=>by
          rw [q,if_pos (by decide),wt (),et2];exact i1 k hk) k (by omega)
        exact this
      · obtain ⟨k,rfl⟩:=suc_of hk
        have ix:=idx_lost W w1 Pr (by omega) Pr.length 0 k (by omega) (by omega)
        rw [show ((0:Nat):Int)=0 from rfl,q] at ix
        simp only [impl_FirstLost.l0,slices_IndexFunc_int64_int64_c72.f,Int.toNat_natCast]
        rw [if_pos (by omega),if_pos (by omega),concat2 C (Cl.take t) (by omega) (by omega) k (by omega),Option.bind_some,w2 k (by omega),Option.bind_some,ix,Option.bind_some,if_neg (by decide),wn ()]
        exact i2 k (by omega)
    · refine ⟨(t:Int),rd Pr (miss W Pr Pr.length 0),fun k hk=>?_,fun k hk=>?_⟩
      · obtain ⟨k,rfl⟩:∃ m,k=m+1+1:=⟨k - 2,by omega⟩
        refine d1 (k+1) (by omega) _ ?_
        simp only [spec_l19Lost.j1]
        rw [w5 k (by omega),Option.bind_some]
        have:=sp_lost_l1 [(⟨N,P⟩:S32)] S Cl Pr D' W ((t:Int) - 1) o N.length w3 w4 (by omega) hp (some ((t:Int),rd Pr (miss W Pr Pr.length 0))) 0 Pr.length 0 (by omega) (fun k hk=>by
          rw [if_neg (by omega),wt ()]) k (by omega)
        exact this
      · obtain ⟨k,rfl⟩:=suc_of hk
        have ix:=idx_lost W w1 Pr (by omega) Pr.length 0 k (by omega) (by omega)
        rw [show ((0:Nat):Int)=0 from rfl] at ix
        simp only [impl_FirstLost.l0,slices_IndexFunc_int64_int64_c72.f,Int.toNat_natCast]
        rw [if_pos (by omega),if_pos (by omega),concat2 C (Cl.take t) (by omega) (by omega) k (by omega),Option.bind_some,w2 k (by omega),Option.bind_some,ix,Option.bind_some,if_pos (show miss W Pr Pr.length 0≥0 by omega),if_pos q.1,if_pos (by omega),if_neg (by omega)]
/-! The code. -/
def lask (N:List Int) (P:List S80) (S C Cl Pr:List Int):Int:=if netv N P=true then (if (((S.all (fun x=>decide ((0:Int)≤x∧x≤(N.length:Int) - 1))&&inc S)&&(C.all (fun x=>decide ((0:Int)≤x∧x≤(P.length:Int) - 1))&&inc C))&&((Pr.all (fun x=>decide ((0:Int)≤x∧x≤(N.length:Int) - 1))&&inc Pr)&&(decide ((Cl.length:Int)≤64)&&Cl.all (fun x=>decide ((0:Int)≤x∧x≤(P.length:Int) - 1)))))=true then 0 else 7) else 1
theorem impl_lask (N:List Int) (P:List S80) (S C Cl Pr:List Int) (hN:N.length≤1048576) (hP:P.length≤1048576) (hs:∀ x ∈ P,x.f0.size≤1048576) (hS:S.length≤1048576) (hC:C.length≤1048576) (hCl:Cl.length≤1048576) (hPr:Pr.length≤1048576) (k:Nat) (hk:3145790<k):impl_serviceCode.f k N P S C Cl Pr=some (lask N P S C Cl Pr):=by
  obtain ⟨k,rfl⟩:=suc_of hk
  have b1:impl_serviceCode.j0 (k+1) Cl true N P=some 7:=by simp only [impl_serviceCode.j0];rfl
  have b2:impl_serviceCode.j0 (k+1) Cl false N P=some (if (decide ((Cl.length:Int)≤64)&&Cl.all (fun x=>decide ((0:Int)≤x∧x≤(P.length:Int) - 1)))=true then 0 else 7):=by
    simp only [impl_serviceCode.j0,impl_all]
    rw [if_neg Bool.false_ne_true,wrap_id (x:=(P.length:Int) - 1) (by omega) (by omega),Option.bind_some]
    generalize (Cl.all fun x=>decide ((0:Int)≤x∧x≤(P.length:Int) - 1))=a
    by_cases c:(Cl.length:Int) > 64
    · rw [if_pos c,decide_eq_false (by omega)];rfl
    · rw [if_neg c,decide_eq_true (by omega),Bool.true_and]
      cases a<;>rfl
  unfold impl_serviceCode.f impl_Network_hasNodes.f impl_Network_hasPipes.f lask
  rw [(net_both N P hN hP hs (k+1) (by omega)).2,Option.bind_some]
  cases netv N P
  · rfl
  · rw [if_pos rfl,if_pos rfl,impl_inc S (by omega) (k+1) (by omega),impl_inc C (by omega) (k+1) (by omega),impl_inc Pr (by omega) (k+1) (by omega),impl_all,impl_all,impl_all,wrap_id (x:=(N.length:Int) - 1) (by omega) (by omega),wrap_id (x:=(P.length:Int) - 1) (by omega) (by omega)]
    simp only [Option.bind_some]
    generalize (decide ((Cl.length:Int)≤64)&&Cl.all (fun x=>decide ((0:Int)≤x∧x≤(P.length:Int) - 1)))=e at b2 ⊢
    generalize (S.all fun x=>decide ((0:Int)≤x∧x≤(N.length:Int) - 1))=a
    generalize (C.all fun x=>decide ((0:Int)≤x∧x≤(P.length:Int) - 1))=b
    generalize (Pr.all fun x=>decide ((0:Int)≤x∧x≤(N.length:Int) - 1))=c
    cases inc S<;>cases a<;>cases inc C<;>cases b<;>cases inc Pr<;>cases c<;>first|exact b1|(refine b2.trans ?_;cases e<;>rfl)
theorem lists_l0 (N:List Int) (P:List S80) (Cl Pr:List Int) (hN:N.length≤1048576) (hP:P.length≤1048576) (hCl:Cl.length≤1048576) (hPr:Pr.length≤1048576):∀ (d j k:Nat),j+d=Cl.length→1048600+d<k→spec_l19Lists.l0 k [(⟨N,P⟩:S32)] Cl Pr (j:Int)=some (if ((Pr.all (fun x=>decide ((0:Int)≤x∧x≤(N.length:Int) - 1))&&inc Pr)&&(decide ((Cl.length:Int)≤64)&&(Cl.drop j).all (fun x=>decide ((0:Int)≤x∧x≤(P.length:Int) - 1))))=true then 0 else 7):=by
  intro d
  induction d with
  |zero=>
    intro j k hj hk
    obtain ⟨k,rfl⟩:=suc_of hk
    simp only [spec_l19Lists.l0,show rd_T32 [(⟨N,P⟩:S32)] 0=⟨N,P⟩ from rfl]
    rw [if_neg (by omega),if_pos (show (0:Int)<(([(⟨N,P⟩:S32)].length:Nat):Int) by simp),wrap_id (x:=(N.length:Int) - 1) (by omega) (by omega),spec_rises Pr (by omega) _ _ k (by omega),Option.bind_some,List.drop_eq_nil_of_le (by omega),List.all_nil]
    generalize (Pr.all (fun x=>decide ((0:Int)≤x∧x≤(N.length:Int) - 1))&&inc Pr)=a
    by_cases c:(Cl.length:Int) > 64
    · rw [if_pos c,decide_eq_false (by omega)];cases a<;>rfl
    · rw [if_neg c,decide_eq_true (by omega)];cases a<;>rfl
  |succ d ih=>
    intro j k hj hk
    obtain ⟨k,rfl⟩:=suc_of hk
    simp only [spec_l19Lists.l0,show rd_T32 [(⟨N,P⟩:S32)] 0=⟨N,P⟩ from rfl]
    rw [if_pos (by omega),if_pos (by omega),if_pos (show (0:Int)<(([(⟨N,P⟩:S32)].length:Nat):Int) by simp),wrap_id (x:=(P.length:Int) - 1) (by omega) (by omega),spec_in,Option.bind_some,next_nat (n:=Cl.length) (by omega) (by omega),ih (j+1) k (by omega) (by omega),rd_nat,drop_cons Cl (j:=j) (by omega) 0,List.all_cons]
    generalize (Pr.all (fun x=>decide ((0:Int)≤x∧x≤(N.length:Int) - 1))&&inc Pr)=a
    generalize ((Cl.drop (j+1)).all fun x=>decide ((0:Int)≤x∧x≤(P.length:Int) - 1))=b
    generalize decide ((Cl.length:Int)≤64)=c
    generalize decide ((0:Int)≤Cl.getD j 0∧Cl.getD j 0≤(P.length:Int) - 1)=e
    cases a<;>cases b<;>cases c<;>cases e<;>rfl
theorem spec_lask (N:List Int) (P:List S80) (S C Cl Pr:List Int) (hN:N.length≤1048576) (hP:P.length≤1048576) (hs:∀ x ∈ P,x.f0.size≤1048576) (hS:S.length≤1048576) (hC:C.length≤1048576) (hCl:Cl.length≤1048576) (hPr:Pr.length≤1048576) (k:Nat) (hk:3145790<k):spec_l19Lists.f k [(⟨N,P⟩:S32)] S C Cl Pr=some (lask N P S C Cl Pr):=by
  unfold spec_l19Lists.f
  have l0:=lists_l0 N P Cl Pr hN hP hCl hPr Cl.length 0 k (by omega) (by omega)
  rw [show ((0:Nat):Int)=0 from rfl,List.drop_zero] at l0
  rw [spec_askS N P S C hN hP hs hS hC k hk,Option.bind_some,l0]
  unfold ask lask
  generalize (Pr.all (fun x=>decide ((0:Int)≤x∧x≤(N.length:Int) - 1))&&inc Pr)=a
  generalize (decide ((Cl.length:Int)≤64)&&Cl.all (fun x=>decide ((0:Int)≤x∧x≤(P.length:Int) - 1)))=b
  generalize (S.all (fun x=>decide ((0:Int)≤x∧x≤(N.length:Int) - 1))&&inc S)=c
  generalize (C.all (fun x=>decide ((0:Int)≤x∧x≤(P.length:Int) - 1))&&inc C)=e
  cases netv N P<;>cases a<;>cases b<;>cases c<;>cases e<;>rfl
theorem lask_cases (N:List Int) (P:List S80) (S C Cl Pr:List Int):lask N P S C Cl Pr=1∨lask N P S C Cl Pr=7∨(lask N P S C Cl Pr=0∧netv N P=true∧(∀ x ∈ S,0≤x∧x<(N.length:Int))∧(∀ x ∈ C,0≤x∧x<(P.length:Int))∧inc C=true∧(∀ x ∈ Pr,0≤x∧x<(N.length:Int))∧Cl.length≤64∧inc Pr=true):=by
  unfold lask
  cases netv N P
  · exact Or.inl rfl
  · rw [if_pos rfl]
    split
    · rename_i h
      simp only [Bool.and_eq_true,List.all_eq_true,decide_eq_true_eq] at h
      refine Or.inr (Or.inr ⟨rfl,rfl,fun x hx=>?_,fun x hx=>?_,h.1.2.2,fun x hx=>?_,by omega,h.2.1.2⟩)
      · have:=h.1.1.1 x hx;omega
      · have:=h.1.2.1 x hx;omega
      · have:=h.2.1.1 x hx;omega
    · exact Or.inr (Or.inl rfl)
/-- Both, once the code is that nothing is wrong. -/
theorem lost_both (N:List Int) (P:List S80) (S C Cl Pr:List Int) (hs:∀ x ∈ P,x.f0.size≤1048576) (hS:S.length≤1048576) (hC:C.length≤1048576) (hPr:Pr.length≤1048576) (h:lask N P S C Cl Pr=0):∃ a b:Int,(∀ k,4000000<k→spec_l19Lost.f k [(⟨N,P⟩:S32)] S C Cl Pr=some (a,b))∧∀ k,4000000<k→impl_FirstLost.l0 k S C Cl Pr 0 N P=some (if a<0 then (0,0,3) else (a,b,0)):=by
  rcases lask_cases N P S C Cl Pr with q|q|⟨_,h1,h2,h3,h4,h5,h6,h7⟩
  · omega
  · omega
  · have hE:=netv_ends h1 hs
    have h20:=hE.1
    have hC20:=inc_len C P.length h4 h3
    have hP16:=inc_len Pr N.length h7 h5
    have h16:=hE.2.2.1
    obtain ⟨a,b,w1,w2⟩:=lost_walk N P S C Cl Pr hE (by omega) h6 hS (by omega) h2 h5 (Cl.length+1) 0 C (by omega) (by omega) (fun x=>by simp)
    refine ⟨a,b,fun k hk=>?_,fun k hk=>?_⟩
    · unfold spec_l19Lost.f spec_l00Own.f
      rw [Option.bind_some,if_pos (by simp;omega),Option.bind_some,List.nil_append]
      have:=w1 k (by omega)
      exact this
    · have:=w2 k (by omega)
      exact this

theorem keeps_both (N:List Int) (P:List S80) (S C Cl Pr:List Int) (hN:N.length≤1048576) (hP:P.length≤1048576) (hs:∀ x ∈ P,x.f0.size≤1048576) (hS:S.length≤1048576) (hC:C.length≤1048576) (hCl:Cl.length≤1048576) (hPr:Pr.length≤1048576):∃ b:Bool,(∀ k,4000000<k→spec_KeepsServed.f k N P S C Cl Pr=some b)∧∀ k,4000000<k→impl_KeepsServed.f k N P S C Cl Pr=some b:=by
  have a1:=fun k hk=>spec_lask N P S C Cl Pr hN hP hs hS hC hCl hPr k hk
  have a2:=fun k hk=>impl_lask N P S C Cl Pr hN hP hs hS hC hCl hPr k hk
  by_cases h:lask N P S C Cl Pr=0
  · obtain ⟨a,b,l1,l2⟩:=lost_both N P S C Cl Pr hs hS hC hPr h
    refine ⟨decide (a<0),fun k hk=>?_,fun k hk=>?_⟩
    · unfold spec_KeepsServed.f
      rw [a1 k (by omega),Option.bind_some,if_pos h,l1 k hk,Option.bind_some]
    · unfold impl_KeepsServed.f impl_FirstLost.f
      rw [a2 k (by omega),Option.bind_some,if_pos h,l2 k hk]
      by_cases c:a<0
      · rw [if_pos c,decide_eq_true c];rfl
      · rw [if_neg c,decide_eq_false c];rfl
  · refine ⟨false,fun k hk=>?_,fun k hk=>?_⟩
    · unfold spec_KeepsServed.f
      rw [a1 k (by omega),Option.bind_some,if_neg h]
    · unfold impl_KeepsServed.f impl_FirstLost.f
      rw [a2 k (by omega),Option.bind_some,if_neg h]
      rcases lask_cases N P S C Cl Pr with q|q|q
      · rw [q];rfl
      · rw [q];rfl
      · exact absurd q.1 h
theorem FnExactKeepsServed:laws_FnExactKeepsServed.Pure:=by
  intro x S C Cl Pr hx _ _ _ _
  obtain ⟨k,hk⟩:∃ k,k=5000000:=⟨_,rfl⟩
  refine ⟨k+10,?_⟩
  unfold laws_FnExactKeepsServed.f
  by_cases c1:(S.length:Int) > 1048576
  · rw [if_pos c1]
  rw [if_neg c1,laws_FnExactKeepsServed.j0.eq_def]
  simp only []
  by_cases c2:(C.length:Int) > 1048576
  · rw [if_pos c2]
  rw [if_neg c2,laws_FnExactKeepsServed.j1.eq_def]
  simp only []
  by_cases c3:(Cl.length:Int) > 1048576
  · rw [if_pos c3]
  rw [if_neg c3,laws_FnExactKeepsServed.j2.eq_def]
  simp only []
  by_cases c4:(Pr.length:Int) > 1048576
  · rw [if_pos c4]
  rw [if_neg c4,laws_FnExactKeepsServed.j3.eq_def]
  simp only []
  obtain ⟨r,r1,r2,r3,r4⟩:=szNet x hx (k+6) (by omega)
  rw [r1,Option.bind_some]
  by_cases c:r<0
  · rw [if_pos c]
  · rw [if_neg c,laws_FnExactKeepsServed.j4.eq_def]
    simp only []
    have hn:=r4 (by omega)
    have hP:(x.f1.map pip).length≤1048576:=by simpa using hn.2.1
    obtain ⟨b,s,i⟩:=keeps_both x.f0 (x.f1.map pip) S C Cl Pr hn.1 hP (pip_small hn.2.2) (by omega) (by omega) (by omega) (by omega)
    rw [toNet x.f0 x.f1 hn (k+5) (by omega),toI S (by omega) (k+5) (by omega),toI C (by omega) (k+5) (by omega),toI Cl (by omega) (k+5) (by omega),toI Pr (by omega) (k+5) (by omega)]
    simp only [s (k+5) (by omega),i (k+5) (by omega),Option.bind_some]
    rw [if_neg (by simp),laws_FnExactKeepsServed.j5.eq_def]
    simp only []
    rw [toNet x.f0 x.f1 hn (k+4) (by omega)]
    simp only [Option.bind_some]
    rw [eqNet x.f0 x.f1 hn (k+4) (by omega),Option.bind_some,if_pos rfl,laws_FnExactKeepsServed.j6.eq_def]
    simp only []
    rw [toI S (by omega) (k+3) (by omega),Option.bind_some,eqI S (by omega) (k+3) (by omega),Option.bind_some,if_pos rfl,laws_FnExactKeepsServed.j7.eq_def]
    simp only []
    rw [toI C (by omega) (k+2) (by omega),Option.bind_some,eqI C (by omega) (k+2) (by omega),Option.bind_some,if_pos rfl,laws_FnExactKeepsServed.j8.eq_def]
    simp only []
    rw [toI Cl (by omega) (k+1) (by omega),Option.bind_some,eqI Cl (by omega) (k+1) (by omega),Option.bind_some,if_pos rfl,laws_FnExactKeepsServed.j9.eq_def]
    simp only []
    rw [toI Pr (by omega) k (by omega),Option.bind_some,eqI Pr (by omega) k (by omega),Option.bind_some,if_pos rfl]

end Go.Proofs.Ytjelfhmgbhidnaa.Pure
