/- RouteTo of the program returns what the reference's returns, for every network, all sources, closed pipes and nodes. No condition. -/
import Derived.Test.YtjelfhmgbhidnaaPFnExactRouteTox14
namespace Go.Proofs.Ytjelfhmgbhidnaa.Pure
open Go.RowKit Go.Proofs.Ytjelfhmgbhidnaa.PFnExactRouteTo Go.Proofs.YtjelfhmgbhidnaaW.PrintWords Go.Proofs.YtjelfhmgbhidnaaW.PrintLast Go.Proofs.YtjelfhmgbhidnaaW.PrintMore
set_option linter.unusedVariables false
set_option linter.unusedSimpArgs false

theorem wrap_id {x:Int} (h1:-9223372036854775808≤x) (h2:x≤9223372036854775807):wrap64 x=x:=by unfold wrap64;omega
theorem wf_i64 {x:Int} (h:(Lit.int .i64 x).wf=true):-9223372036854775808≤x∧x≤9223372036854775807:=by
  simp [Lit.wf,IntKind.min,IntKind.max,IntKind.bits,IntKind.signed] at h;omega
theorem mul_bounds {a b A B:Int} (h0:0≤a) (hA:a≤A) (h1:-B≤b) (h2:b≤B) (hB:0≤B):-(A * B)≤a * b∧a * b≤A * B:=by
  have e1:=Int.mul_le_mul_of_nonneg_left h2 h0
  have e2:=Int.mul_le_mul_of_nonneg_right hA hB
  have e3:=Int.mul_le_mul_of_nonneg_left h1 h0
  have e4:a * -B= -(a * B):=Int.mul_neg a B
  omega
theorem mul_nonneg' {a b:Int} (h0:0≤a) (h1:0≤b):0≤a * b:=Int.mul_nonneg h0 h1
theorem next_nat {j n:Nat} (h:j<n) (hn:n≤4611686018427387904):wrap64 ((j:Int)+1)=((j+1:Nat):Int):=by
  rw [wrap_id (by omega) (by omega)];omega
theorem rd_nat (l:List Int) (j:Nat):rd l (j:Int)=l.getD j 0:=by unfold rd;simp
theorem ifp {α:Type} {c:Prop} [Decidable c] {a b:α} (h:c):(if c then a else b)=a:=if_pos h
theorem ifn {α:Type} {c:Prop} [Decidable c] {a b:α} (h:¬ c):(if c then a else b)=b:=if_neg h
theorem suc_of {k d:Nat} (h:d<k):∃ m,k=m+1:=⟨k - 1,by omega⟩
theorem getD_lt {α:Type} {l:List α} {j:Nat} {d:α} (h:j<l.length):l.getD j d=l[j]:=by
  rw [List.getD_eq_getElem?_getD,List.getElem?_eq_getElem h];rfl
theorem drop_cons {α:Type} (l:List α) {j:Nat} (h:j<l.length) (d:α):l.drop j=l.getD j d :: l.drop (j+1):=by
  rw [getD_lt h];exact List.drop_eq_getElem_cons h
theorem up {α:Type} {g:Nat→Option α} (hm:∀ k,LeO (g k) (g (k+1))) {k0:Nat} {r:α} (h:g k0=some r):∀ k,k0≤k→g k=some r:=by
  intro k hk
  induction hk with
  |refl=>exact h
  |step _ ih=>exact hm _ _ ih

theorem name_same (s:ByteArray):∀ (k:Nat) (i:Int),spec_l01Name.l0 k s i=impl_onlyNameBytes.l0 k s (s.size:Int) i:=by
  intro k
  induction k with
  |zero=>intro i;simp only [spec_l01Name.l0,impl_onlyNameBytes.l0]
  |succ k ih=>
    intro i
    simp only [spec_l01Name.l0,impl_onlyNameBytes.l0]
    unfold spec_l01Small.f spec_l01Digit.f
    rw [ih]
    generalize impl_onlyNameBytes.l0 k s (s.size:Int) (wrap64 (i+1))=e
    generalize bt s i=b
    by_cases h1:i<(s.size:Int)
    · rw [if_pos h1,if_pos h1,if_pos h1]
      by_cases h2:0≤i
      · rw [if_pos h2,if_pos h2]
        by_cases c1:b<97
        · rw [if_pos c1,if_neg (by omega)]
          by_cases c2:b<48
          · rw [if_pos c2,if_neg (by omega)];simp
          · rw [if_neg c2,if_pos (by omega)]
            by_cases c3:b > 57
            · rw [if_pos c3,decide_eq_false (by omega)];simp
            · rw [if_neg c3,decide_eq_true (by omega)];simp
        · rw [if_neg c1,if_pos (by omega)]
          by_cases c4:b > 122
          · rw [if_pos c4,decide_eq_false (by omega),if_pos (by omega),if_neg (by omega),decide_eq_false (by omega),if_pos (by omega)];simp
          · rw [if_neg c4,decide_eq_true (by omega)];simp
      · rw [if_neg h2,if_neg h2]
    · rw [if_neg h1,if_neg h1]
theorem name_total (s:ByteArray) (hs:s.size≤35184372088832):∀ (d j k:Nat),j+d=s.size→d<k→∃ r,impl_onlyNameBytes.l0 k s (s.size:Int) (j:Int)=some r:=by
  intro d
  induction d with
  |zero=>
    intro j k hj hk
    obtain ⟨k,rfl⟩:=suc_of hk
    simp only [impl_onlyNameBytes.l0]
    rw [if_neg (by omega)];exact ⟨_,rfl⟩
  |succ d ih=>
    intro j k hj hk
    obtain ⟨k,rfl⟩:=suc_of hk
    obtain ⟨r,hr⟩:=ih (j+1) k (by omega) (by omega)
    simp only [impl_onlyNameBytes.l0]
    rw [if_pos (by omega),if_pos (by omega),if_pos (by omega),next_nat (n:=s.size) (by omega) (by omega),hr]
    split
    · split
      · exact ⟨_,rfl⟩
      · split
        · exact ⟨_,rfl⟩
        · exact ⟨_,rfl⟩
    · split
      · split
        · exact ⟨_,rfl⟩
        · split
          · exact ⟨_,rfl⟩
          · exact ⟨_,rfl⟩
      · exact ⟨_,rfl⟩
/-- A name is one for both. -/
theorem name_both (s:ByteArray) (hs:s.size≤35184372088832):∃ b:Bool,(∀ k,s.size+3≤k→spec_l01Name.f k s=some b)∧(∀ k,s.size+3≤k→impl_IsName.f k s=some b)∧(b=true→1≤s.size∧s.size≤10):=by
  obtain ⟨r,hr⟩:=name_total s hs s.size 0 (s.size+2) (by omega) (by omega)
  have hr3:impl_onlyNameBytes.l0 (s.size+3) s (s.size:Int) 0=some r:=impl_onlyNameBytes.mono_l (s.size+2) s (s.size:Int) 0 r hr
  have hr2:impl_onlyNameBytes.l0 (s.size+2) s (s.size:Int) 0=some r:=hr
  have key:∃ b:Bool,spec_l01Name.f (s.size+3) s=some b∧impl_IsName.f (s.size+3) s=some b∧(b=true→1≤s.size∧s.size≤10):=by
    have bad:spec_l01Name.j0 (s.size+3) s true=some false:=by simp only [spec_l01Name.j0];simp
    unfold spec_l01Name.f impl_IsName.f impl_onlyNameBytes.f
    by_cases h0:s.size=0
    · have e:s.toList=[]:=by
        rw [ByteArray.toList_eq];exact List.eq_nil_of_length_eq_zero (by rw [Array.length_toList];exact h0)
      rw [if_pos e,if_pos (by omega),bad];exact ⟨_,rfl,rfl,by simp⟩
    · have e:¬ s.toList=[]:=by
        rw [ByteArray.toList_eq]
        intro h
        have:s.data.toList.length=0:=by rw [h];rfl
        rw [Array.length_toList] at this
        exact h0 this
      rw [if_neg e,if_neg (show ¬ (s.size:Int)<1 by omega)]
      by_cases h1:(s.size:Int) > 10
      · rw [if_pos h1,if_pos h1,bad];exact ⟨_,rfl,rfl,by simp⟩
      · rw [if_neg h1,if_neg h1,if_pos (by omega),if_pos (by omega)]
        unfold spec_l01Small.f
        by_cases c1:bt s 0<97
        · rw [if_pos c1,if_neg (by omega)]
          simp only [Option.bind_some,Bool.not_false]
          exact ⟨_,bad,rfl,by simp⟩
        · rw [if_neg c1,if_pos (by omega)]
          by_cases c2:bt s 0 > 122
          · rw [if_pos c2,decide_eq_false (by omega)]
            simp only [Option.bind_some,Bool.not_false]
            exact ⟨_,bad,rfl,by simp⟩
          · rw [if_neg c2,decide_eq_true (by omega),hr3]
            simp only [Option.bind_some,Bool.not_true]
            refine ⟨r,?_,rfl,fun _=>by omega⟩
            simp only [spec_l01Name.j0]
            rw [if_neg Bool.false_ne_true,name_same]
            exact hr2
  obtain ⟨b,h1,h2,h3⟩:=key
  exact ⟨b,up (spec_l01Name.mono s) h1,up (impl_IsName.mono s) h2,h3⟩

theorem impl_in (n lo hi:Int):impl_within.f n lo hi=some (decide (lo≤n∧n≤hi)):=by unfold impl_within.f;split<;>simp<;>omega

theorem spec_in (n lo hi:Int):spec_l00In.f n lo hi=some (decide (lo≤n∧n≤hi)):=by unfold spec_l00In.f;split<;>simp<;>omega

/-- A pipe is valid for both. -/
theorem pipe_both (s:ByteArray) (a b l w c:Int) (hs:s.size≤35184372088832):∃ v:Bool,(∀ k,s.size+4≤k→spec_l03Ok.f k [(⟨s,a,b,l,w,c⟩:S80)]=some v)∧(∀ k,s.size+4≤k→impl_ValidPipe.f k s a b l w c=some v)∧
    (v=true→1≤s.size∧s.size≤10∧0≤a∧a≤15∧0≤b∧b≤15∧a≠b∧1≤l∧l≤10000∧20≤w∧w≤1000∧0≤c∧c≤5000):=by
  obtain ⟨nb,n1,n2,n3⟩:=name_both s hs
  have key:∃ v:Bool,(∀ k,s.size+4≤k→spec_l03Ok.f k [(⟨s,a,b,l,w,c⟩:S80)]=some v∧impl_ValidPipe.f k s a b l w c=some v)∧
    (v=true→1≤s.size∧s.size≤10∧0≤a∧a≤15∧0≤b∧b≤15∧a≠b∧1≤l∧l≤10000∧20≤w∧w≤1000∧0≤c∧c≤5000):=by
    refine ⟨nb&&decide (0≤a∧a≤15)&&decide (0≤b∧b≤15)&&!(a==b)&&decide (1≤l∧l≤10000)&&decide (20≤w∧w≤1000)&&decide (0≤c∧c≤5000),fun k hk=>?_,fun h=>?_⟩
    · obtain ⟨k,rfl⟩:∃ k',k=k' +1:=⟨k - 1,by omega⟩
      have r0:rd_T80 [(⟨s,a,b,l,w,c⟩:S80)] 0=⟨s,a,b,l,w,c⟩:=rfl
      have l0:0<(([(⟨s,a,b,l,w,c⟩:S80)].length:Nat):Int):=by simp
      have bad:spec_l03Ok.j0 (k+1) [(⟨s,a,b,l,w,c⟩:S80)] true=some false:=by simp only [spec_l03Ok.j0];simp
      have good:spec_l03Ok.j0 (k+1) [(⟨s,a,b,l,w,c⟩:S80)] false=some (decide (1≤l∧l≤10000)&&decide (20≤w∧w≤1000)&&decide (0≤c∧c≤5000)):=by
        simp only [spec_l03Ok.j0,r0]
        rw [if_neg Bool.false_ne_true,if_pos l0]
        simp only [spec_in,Option.bind_some]
        cases decide (1≤l∧l≤10000)<;>cases decide (20≤w∧w≤1000)<;>simp
      unfold spec_l03Ok.f impl_ValidPipe.f impl_nodeOk.f
      rw [r0,if_pos l0,n1 (k+1) (by omega),n2 (k+1) (by omega)]
      simp only [spec_in,impl_in,Option.bind_some]
      cases nb
      · simp [bad]
      · cases decide (0≤a∧a≤15)
        · simp [bad]
        · cases decide (0≤b∧b≤15)
          · simp [bad]
          · by_cases e:a=b
            · subst e;simp [bad]
            · have e':(a==b)=false:=by simpa using e
              rw [e',good]
              simp only [if_true,if_neg e,Bool.not_false,Bool.true_and]
              cases decide (1≤l∧l≤10000)<;>cases decide (20≤w∧w≤1000)<;>simp
    · simp only [Bool.and_eq_true,decide_eq_true_eq,Bool.not_eq_true',beq_eq_false_iff_ne] at h
      have:=n3 h.1.1.1.1.1.1
      obtain ⟨⟨⟨⟨⟨⟨h1,h2⟩,h3⟩,h4⟩,h5⟩,h6⟩,h7⟩:=h
      exact ⟨this.1,this.2,h2.1,h2.2,h3.1,h3.2,h4,h5.1,h5.2,h6.1,h6.2,h7.1,h7.2⟩
  obtain ⟨v,h1,h2⟩:=key
  exact ⟨v,fun k hk=>(h1 k hk).1,fun k hk=>(h1 k hk).2,h2⟩

theorem sz_list {α:Type} (z:α) (L:Nat→List α→Int→Int→Option Int) (sz:Nat→α→Int→Option Int) (hL:∀ k x n i,L (k+1) x n i=if i<(x.length:Int) then (if 0≤i then ((sz k (x.getD i.toNat z) n).bind fun t=>if t<0 then some (-1) else L k x t (wrap64 (i+1))) else none) else some n)
    (Wf Sm:α→Prop) (K:Nat) (hsz:∀ k x n,K<k→Wf x→0≤n→n≤1048576→∃ r,sz k x n=some r∧r≤n∧(0≤r→Sm x)) (l:List α) (hl:l.length≤1048576) (hw:∀ x ∈ l,Wf x):
    ∀ (d j k:Nat) (n:Int),j+d=l.length→K+d<k→0≤n→n≤1048576→∃ r,L k l n (j:Int)=some r∧r≤n∧-1≤r∧(0≤r→∀ i (h:i<l.length),j≤i→Sm l[i]):=by
  intro d
  induction d with
  |zero=>
    intro j k n hj hk h0 h1
    obtain ⟨k,rfl⟩:=suc_of hk
    rw [hL,if_neg (by omega)]
    exact ⟨n,rfl,by omega,by omega,fun _ i h hi=>by omega⟩
  |succ d ih=>
    intro j k n hj hk h0 h1
    obtain ⟨k,rfl⟩:=suc_of hk
    rw [hL,if_pos (by omega),if_pos (by omega),Int.toNat_natCast]
    obtain ⟨r,r1,r2,r4⟩:=hsz k (l.getD j z) n (by omega) (by rw [getD_lt (by omega)];exact hw _ (List.getElem_mem _)) h0 h1
    rw [r1,Option.bind_some]
    by_cases c:r<0
    · rw [if_pos c];exact ⟨-1,rfl,by omega,by omega,fun h=>by omega⟩
    · rw [if_neg c,next_nat (n:=l.length) (by omega) (by omega)]
      obtain ⟨q,q1,q2,q3,q4⟩:=ih (j+1) k r (by omega) (by omega) (by omega) (by omega)
      refine ⟨q,q1,by omega,by omega,fun hq i h hi=>?_⟩
      by_cases e:i=j
      · subst e
        have:=r4 (by omega)
        rwa [getD_lt h] at this
      · exact q4 hq i h (by omega)
theorem to_list {α β:Type} (z:α) (L:Nat→List α→List β→Int→Option (List β)) (tov:Nat→α→Option β) (hL:∀ k x m i,L (k+1) x m i=if i<(x.length:Int) then (if 0≤i then ((tov k (x.getD i.toNat z)).bind fun b=>if i<(m.length:Int) then L k x (m.set i.toNat b) (wrap64 (i+1)) else none) else none) else some m)
    (g:α→β) (K:Nat) (l:List α) (hl:l.length≤1048576) (hto:∀ k,K<k→∀ x ∈ l,tov k x=some (g x)):
    ∀ (d j k:Nat) (m:List β),j+d=l.length→K+d<k→m.length=l.length→(∀ i,i<j→m[i]? =(l.map g)[i]?)→L k l m (j:Int)=some (l.map g):=by
  intro d
  induction d with
  |zero=>
    intro j k m hj hk hm hp
    obtain ⟨k,rfl⟩:=suc_of hk
    rw [hL,if_neg (by omega)]
    congr 1
    apply List.ext_getElem?
    intro i
    by_cases hi:i<j
    · exact hp i hi
    · rw [List.getElem?_eq_none (by omega),List.getElem?_eq_none (by simp;omega)]
  |succ d ih=>
    intro j k m hj hk hm hp
    obtain ⟨k,rfl⟩:=suc_of hk
    rw [hL,if_pos (by omega),if_pos (by omega),Int.toNat_natCast,hto k (by omega) _ (by rw [getD_lt (by omega)];exact List.getElem_mem _),Option.bind_some,if_pos (by omega),next_nat (n:=l.length) (by omega) (by omega)]
    refine ih (j+1) k _ (by omega) (by omega) (by simpa using hm) (fun i hi=>?_)
    rw [List.getElem?_set]
    by_cases e:j=i
    · subst e
      rw [if_pos rfl,if_pos (by omega),getD_lt (by omega),List.getElem?_map,List.getElem?_eq_getElem (by omega)];rfl
    · rw [if_neg e];exact hp i (by omega)
theorem eq_list {β:Type} (z:β) (L:Nat→List β→List β→Int→Option Bool) (eq:Nat→β→β→Option Bool) (hL:∀ k x y i,L (k+1) x y i=if i<(x.length:Int) then (if 0≤i then (if i<(y.length:Int) then ((eq k (x.getD i.toNat z) (y.getD i.toNat z)).bind fun t=>if t=true then L k x y (wrap64 (i+1)) else some false) else none) else none) else some true)
    (K:Nat) (l:List β) (hl:l.length≤1048576) (heq:∀ k,K<k→∀ x ∈ l,eq k x x=some true):
    ∀ (d j k:Nat),j+d=l.length→K+d<k→L k l l (j:Int)=some true:=by
  intro d
  induction d with
  |zero=>
    intro j k hj hk
    obtain ⟨k,rfl⟩:=suc_of hk
    rw [hL,if_neg (by omega)]
  |succ d ih=>
    intro j k hj hk
    obtain ⟨k,rfl⟩:=suc_of hk
    rw [hL,if_pos (by omega),if_pos (by omega),if_pos (by omega),Int.toNat_natCast,heq k (by omega) _ (by rw [getD_lt (by omega)];exact List.getElem_mem _),Option.bind_some,if_pos rfl,next_nat (n:=l.length) (by omega) (by omega)]
    exact ih (j+1) k (by omega) (by omega)
theorem bne_cast (a b:Nat):((a:Int)!=(b:Int))=!(decide (a=b)):=by
  by_cases h:a=b
  · subst h;simp
  · have h2:¬ (a:Int)=(b:Int):=by omega
    rw [decide_eq_false h];exact bne_iff_ne.2 h2

theorem toI_l0 (l:List Int) (hl:l.length≤35184372088832):∀ (d j k:Nat) (m:List Int),j+d=l.length→d<k→m.length=l.length→(∀ i,i<j→m[i]? =l[i]?)→laws_toInt64S.l0 k l m (j:Int)=some l:=by
  intro d
  induction d with
  |zero=>
    intro j k m hj hk hm hp
    obtain ⟨k,rfl⟩:=suc_of hk
    simp only [laws_toInt64S.l0]
    rw [if_neg (by omega)]
    congr 1
    apply List.ext_getElem?
    intro i
    by_cases hi:i<j
    · exact hp i hi
    · rw [List.getElem?_eq_none (by omega),List.getElem?_eq_none (by omega)]
  |succ d ih=>
    intro j k m hj hk hm hp
    obtain ⟨k,rfl⟩:=suc_of hk
    simp only [laws_toInt64S.l0]
    rw [if_pos (by omega),if_pos (by omega),if_pos (by omega),next_nat (n:=l.length) (by omega) (by omega)]
    refine ih (j+1) k _ (by omega) (by omega) (by simpa using hm) (fun i hi=>?_)
    rw [Int.toNat_natCast,rd_nat,List.getElem?_set]
    by_cases e:j=i
    · subst e
      rw [if_pos rfl,if_pos (by omega),getD_lt (by omega),List.getElem?_eq_getElem (by omega)]
    · rw [if_neg e];exact hp i (by omega)
theorem toI (l:List Int) (hl:l.length≤35184372088832) (k:Nat) (hk:l.length<k):laws_toInt64S.f k l=some l:=by
  unfold laws_toInt64S.f
  rw [if_pos (by omega),if_pos (by omega)]
  exact toI_l0 l hl l.length 0 k _ (by omega) hk (by simp) (fun i hi=>absurd hi (by omega))

theorem eqI_l0 (l:List Int) (hl:l.length≤35184372088832):∀ (d j k:Nat),j+d=l.length→d<k→laws_eqInt64S.l0 k l l (j:Int)=some true:=by
  intro d
  induction d with
  |zero=>
    intro j k hj hk
    obtain ⟨k,rfl⟩:=suc_of hk
    simp only [laws_eqInt64S.l0]
    rw [if_neg (by omega)]
  |succ d ih=>
    intro j k hj hk
    obtain ⟨k,rfl⟩:=suc_of hk
    simp only [laws_eqInt64S.l0]
    rw [if_pos (by omega),if_pos (by omega),if_pos (by omega),if_pos trivial,next_nat (n:=l.length) (by omega) (by omega)]
    exact ih (j+1) k (by omega) (by omega)
theorem eqI (l:List Int) (hl:l.length≤35184372088832) (k:Nat) (hk:l.length<k):laws_eqInt64S.f k l l=some true:=by
  unfold laws_eqInt64S.f
  rw [if_pos rfl]
  exact eqI_l0 l hl l.length 0 k (by omega) hk

theorem impl_all (l:List Int) (lo hi:Int):impl_allWithin.f l lo hi=some (l.all fun x=>decide (lo≤x∧x≤hi)):=rfl

def pip (x:S99):S80:=⟨x.f0,x.f1,x.f2,x.f3,x.f4,x.f5⟩
theorem szInts (l:List Int) (hl:l.length≤9223372036854775807) (n:Int) (h0:0≤n) (h1:n≤1048576):∃ r,laws_szInt64S.f l n=some r∧r≤n∧-1≤r∧(0≤r→l.length≤1048576):=by
  unfold laws_szInt64S.f
  rw [wrap_id (x:=n - (l.length:Int)) (by omega) (by omega)]
  by_cases c:n - (l.length:Int)<0
  · rw [if_pos c];exact ⟨-1,rfl,by omega,by omega,fun h=>by omega⟩
  · rw [if_neg c];exact ⟨_,rfl,by omega,by omega,fun h=>by omega⟩
theorem szPipes (l:List S99) (hw:wfLT99 l) (n:Int) (h0:0≤n) (h1:n≤1048576) (k:Nat) (hk:1048577<k):∃ r,laws_szPipeS.f k l n=some r∧r≤n∧-1≤r∧(0≤r→l.length≤1048576∧∀ x ∈ l,x.f0.size≤1048576):=by
  obtain ⟨hl,hw⟩:=hw
  unfold laws_szPipeS.f
  rw [wrap_id (x:=n - (l.length:Int)) (by omega) (by omega)]
  by_cases c:n - (l.length:Int)<0
  · rw [if_pos c];exact ⟨-1,rfl,by omega,by omega,fun h=>by omega⟩
  · rw [if_neg c]
    obtain ⟨r,r1,r2,r3,r4⟩:=sz_list z99 laws_szPipeS.l0 (fun _ x n=>laws_szPipe.f x.f0 x.f1 x.f2 x.f3 x.f4 x.f5 n) (fun _ _ _ _=>rfl) wfT99 (fun x=>x.f0.size≤1048576) 0 (fun k x n _ hx h0 h1=>by
      have hs:=hx.1
      simp only [maxLen] at hs
      unfold laws_szPipe.f
      rw [wrap_id (x:=n - (x.f0.size:Int)) (by omega) (by omega)]
      by_cases c:n - (x.f0.size:Int)<0
      · rw [if_pos c];exact ⟨-1,rfl,by omega,fun h=>by omega⟩
      · rw [if_neg c];exact ⟨_,rfl,by omega,fun h=>by omega⟩) l (by omega) hw l.length 0 k (n - (l.length:Int)) (by omega) (by omega) (by omega) (by omega)
    exact ⟨r,r1,by omega,r3,fun h=>⟨by omega,fun x hx=>by
      obtain ⟨i,hi,rfl⟩:=List.mem_iff_getElem.1 hx
      exact r4 h i hi (by omega)⟩⟩
theorem toPipes (l:List S99) (hl:l.length≤1048576) (k:Nat) (hk:1048577<k):laws_toPipeS.f k l=some (l.map pip):=by
  unfold laws_toPipeS.f
  rw [if_pos (by omega),if_pos (by omega)]
  exact to_list z99 laws_toPipeS.l0 (fun _ x=>some (pip x)) (fun k x m i=>by
    simp only [laws_toPipeS.l0,laws_toPipe.f,Option.bind_some];rfl) pip 0 l hl (fun _ _ _ _=>rfl) l.length 0 k _ (by omega) (by omega) (by simp) (fun i hi=>absurd hi (by omega))
theorem eqPipes (l:List S80) (hl:l.length≤1048576) (k:Nat) (hk:1048577<k):laws_eqPipeS.f k l l=some true:=by
  unfold laws_eqPipeS.f
  rw [if_pos rfl]
  exact eq_list z80 laws_eqPipeS.l0 (fun _ a b=>laws_eqPipe.f a.f0 a.f1 a.f2 a.f3 a.f4 a.f5 b.f0 b.f1 b.f2 b.f3 b.f4 b.f5) (fun _ _ _ _=>rfl) 0 l hl (fun _ _ x _=>by simp [laws_eqPipe.f]) l.length 0 k (by omega) (by omega)
/-- The sizes of a network. -/
def NetSm (N:List Int) (P:List S99):Prop:=N.length≤1048576∧P.length≤1048576∧∀ x ∈ P,x.f0.size≤1048576
theorem szNet (x:S25) (hx:wfT25 x) (k:Nat) (hk:1048577<k):∃ r,laws_szNetwork.f k x.f0 x.f1 1048576=some r∧r≤1048576∧-1≤r∧(0≤r→NetSm x.f0 x.f1):=by
  obtain ⟨h1,h2⟩:=hx
  unfold laws_szNetwork.f
  obtain ⟨r,r1,r2,r3,r4⟩:=szInts x.f0 h1.1 1048576 (by omega) (by omega)
  rw [r1,Option.bind_some]
  by_cases c:r<0
  · rw [if_pos c];exact ⟨-1,rfl,by omega,by omega,fun h=>by omega⟩
  · rw [if_neg c]
    obtain ⟨q,q1,q2,q3,q4⟩:=szPipes x.f1 h2 r (by omega) (by omega) k hk
    rw [q1,Option.bind_some]
    by_cases c2:q<0
    · rw [if_pos c2];exact ⟨-1,rfl,by omega,by omega,fun h=>by omega⟩
    · rw [if_neg c2];exact ⟨q,rfl,by omega,by omega,fun h=>⟨r4 (by omega),(q4 h).1,(q4 h).2⟩⟩
theorem toNet (N:List Int) (P:List S99) (h:NetSm N P) (k:Nat) (hk:1048577<k):laws_toNetwork.f k N P=some (N,P.map pip):=by
  unfold laws_toNetwork.f
  have h1:=h.1
  rw [toI N (by omega) k (by omega),Option.bind_some,toPipes P h.2.1 k hk];rfl
theorem eqNet (N:List Int) (P:List S99) (h:NetSm N P) (k:Nat) (hk:1048577<k):laws_eqNetwork.f k N (P.map pip) N (P.map pip)=some true:=by
  unfold laws_eqNetwork.f
  have h1:=h.1
  rw [eqI N (by omega) k (by omega),Option.bind_some,if_pos rfl,eqPipes (P.map pip) (by simpa using h.2.1) k hk];rfl
/-- A pipe's validity. -/
def pv (x:S80):Bool:=(impl_ValidPipe.f 1048620 x.f0 x.f1 x.f2 x.f3 x.f4 x.f5).getD false
theorem pv_spec (x:S80) (hs:x.f0.size≤1048576):(∀ k,1048620≤k→spec_l03Ok.f k [x]=some (pv x))∧(∀ k,1048620≤k→impl_ValidPipe.f k x.f0 x.f1 x.f2 x.f3 x.f4 x.f5=some (pv x))∧(pv x=true→(0≤x.f1∧x.f1≤15)∧(0≤x.f2∧x.f2≤15)∧x.f1≠x.f2):=by
  obtain ⟨v,v1,v2,v3⟩:=pipe_both x.f0 x.f1 x.f2 x.f3 x.f4 x.f5 (by omega)
  have e:pv x=v:=by unfold pv;rw [v2 1048620 (by omega)];rfl
  exact ⟨fun k hk=>by rw [e];exact v1 k (by omega),fun k hk=>by rw [e];exact v2 k (by omega),fun h=>by
    have p:=v3 (e ▸ h)
    exact ⟨⟨p.2.2.1,p.2.2.2.1⟩,⟨p.2.2.2.2.1,p.2.2.2.2.2.1⟩,p.2.2.2.2.2.2.1⟩⟩
def pat (P:List S80) (i:Nat):S80:=P.getD i z80
theorem rdP (P:List S80) (i:Nat):rd_T80 P (i:Int)=pat P i:=rfl
theorem rdN (x:S32):rd_T32 [x] 0=x:=rfl
def less (a b:ByteArray):Bool:=Op.bytesLess a.toList b.toList
def ptOk (n:Nat) (P:List S80) (i:Nat):Bool:=pv (pat P i)&&(decide ((pat P i).f1<(n:Int))&&(decide ((pat P i).f2<(n:Int))&&(if i=0 then true else less (pat P (i - 1)).f0 (pat P i).f0)))
def ptAll (n:Nat) (P:List S80):Nat→Nat→Bool
  |0,_=>true
  |d+1,j=>ptOk n P j&&ptAll n P d (j+1)
theorem fits_spec (N:List Int) (P:List S80) (p:S80) (hp:p.f0.size≤1048576) (k:Nat) (hk:1048620≤k):spec_l04Fits.f k [(⟨N,P⟩:S32)] [p]=some (pv p&&(decide (p.f1<(N.length:Int))&&decide (p.f2<(N.length:Int)))):=by
  unfold spec_l04Fits.f
  rw [(pv_spec p hp).1 k hk,Option.bind_some]
  cases pv p
  · rfl
  · rw [if_pos rfl,if_pos (by simp),if_pos (by simp),rdN,show rd_T80 [p] 0=p from rfl]
    by_cases h:p.f1<(N.length:Int)
    · rw [if_pos h,decide_eq_true h];simp
    · rw [if_neg h,decide_eq_false h];rfl
theorem ends_impl (N:List Int) (P:List S80) (p:S80) (hN:N.length≤1048576) (hv:(0≤p.f1∧p.f1≤15)∧(0≤p.f2∧p.f2≤15)):impl_Network_hasEnds.f N P p.f0 p.f1 p.f2 p.f3 p.f4 p.f5=some (decide (p.f1<(N.length:Int))&&decide (p.f2<(N.length:Int))):=by
  unfold impl_Network_hasEnds.f impl_Network_hasNode.f
  rw [wrap_id (by omega) (by omega),impl_in,Option.bind_some,Option.bind_some,impl_in,Option.bind_some,Option.bind_some]
  have e1:decide (0≤p.f1∧p.f1≤(N.length:Int) - 1)=decide (p.f1<(N.length:Int)):=decide_eq_decide.2 (by omega)
  have e2:decide (0≤p.f2∧p.f2≤(N.length:Int) - 1)=decide (p.f2<(N.length:Int)):=decide_eq_decide.2 (by omega)
  rw [e1,e2]
  cases decide (p.f1<(N.length:Int))<;>rfl
theorem pat_lt {P:List S80} (hs:∀ x ∈ P,x.f0.size≤1048576) {j:Nat} (h:j<P.length):(pat P j).f0.size≤1048576:=by
  unfold pat;rw [getD_lt h];exact hs _ (List.getElem_mem _)
theorem spec_net_l1 (N:List Int) (P:List S80) (hN:N.length≤1048576) (hP:P.length≤1048576) (hs:∀ x ∈ P,x.f0.size≤1048576):∀ (d j k:Nat),j+d=P.length→1048620+d<k→spec_l04Ok.l1 k [(⟨N,P⟩:S32)] (j:Int)=some (ptAll N.length P d j):=by
  intro d
  induction d with
  |zero=>
    intro j k hj hk
    obtain ⟨k,rfl⟩:=suc_of hk
    simp only [spec_l04Ok.l1,show rd_T32 [(⟨N,P⟩:S32)] 0=⟨N,P⟩ from rfl]
    rw [if_pos (by simp),if_neg (by omega)];rfl
  |succ d ih=>
    intro j k hj hk
    obtain ⟨k,rfl⟩:=suc_of hk
    have hr:=ih (j+1) k (by omega) (by omega)
    simp only [spec_l04Ok.l1,show rd_T32 [(⟨N,P⟩:S32)] 0=⟨N,P⟩ from rfl,show ∀ i:Nat,rd_T80 P (i:Int)=pat P i from fun _=>rfl]
    rw [if_pos (by simp),if_pos (by omega),if_pos (by omega),fits_spec N P (pat P j) (pat_lt hs (by omega)) k (by omega),Option.bind_some,next_nat (n:=P.length) (by omega) (by omega),hr]
    rw [show ptAll N.length P (d+1) j=(ptOk N.length P j&&ptAll N.length P d (j+1)) from rfl]
    generalize ptAll N.length P d (j+1)=R
    unfold ptOk
    generalize pv (pat P j)=v
    generalize decide ((pat P j).f1<(N.length:Int))=a
    generalize decide ((pat P j).f2<(N.length:Int))=b
    cases v
    · rfl
    · cases a
      · rfl
      · cases b
        · rfl
        · rw [show (true&&(true&&true))=true from rfl,if_pos rfl]
          simp only [Bool.true_and]
          by_cases hz:j=0
          · rw [if_neg (show ¬ (j:Int) > 0 by omega),if_pos hz];rfl
          · have ew:wrap64 ((j:Int) - 1)=((j - 1:Nat):Int):=by rw [wrap_id (by omega) (by omega)];omega
            rw [if_pos (show (j:Int) > 0 by omega),if_neg hz,ew,rdP,if_pos (by omega),if_pos (by omega)]
            show (if less (pat P (j - 1)).f0 (pat P j).f0=true then _ else _)=_
            cases less (pat P (j - 1)).f0 (pat P j).f0<;>rfl
theorem impl_net_l0 (N:List Int) (P:List S80) (hN:N.length≤1048576) (hP:P.length≤1048576) (hs:∀ x ∈ P,x.f0.size≤1048576):∀ (d j k:Nat),j+d=P.length→1048620+d<k→impl_ValidNetwork.l0 k P (P.length:Int) (j:Int) N P=some (ptAll N.length P d j):=by
  intro d
  induction d with
  |zero=>
    intro j k hj hk
    obtain ⟨k,rfl⟩:=suc_of hk
    simp only [impl_ValidNetwork.l0]
    rw [if_neg (by omega)];rfl
  |succ d ih=>
    intro j k hj hk
    obtain ⟨k,rfl⟩:=suc_of hk
    have hr:=ih (j+1) k (by omega) (by omega)
    have hp:=pv_spec (pat P j) (pat_lt hs (by omega))
    simp only [impl_ValidNetwork.l0,show ∀ i:Nat,rd_T80 P (i:Int)=pat P i from fun _=>rfl]
    rw [if_pos (by omega),if_pos (by omega),if_pos (by omega),hp.2.1 k (by omega),Option.bind_some,next_nat (n:=P.length) (by omega) (by omega),hr]
    rw [show ptAll N.length P (d+1) j=(ptOk N.length P j&&ptAll N.length P d (j+1)) from rfl]
    generalize ptAll N.length P d (j+1)=R
    unfold ptOk
    cases hv:pv (pat P j)
    · rfl
    · rw [if_pos rfl,ends_impl N P (pat P j) hN ⟨(hp.2.2 hv).1,(hp.2.2 hv).2.1⟩,Option.bind_some]
      generalize decide ((pat P j).f1<(N.length:Int))=a
      generalize decide ((pat P j).f2<(N.length:Int))=b
      cases a
      · rfl
      · cases b
        · rfl
        · rw [show (true&&true)=true from rfl,if_pos rfl]
          simp only [Bool.true_and]
          by_cases hz:j=0
          · rw [if_neg (show ¬ (j:Int) > 0 by omega),if_pos hz];rfl
          · have ew:wrap64 ((j:Int) - 1)=((j - 1:Nat):Int):=by rw [wrap_id (by omega) (by omega)];omega
            rw [if_pos (show (j:Int) > 0 by omega),if_neg hz,ew,rdP,if_pos (by omega),if_pos (by omega)]
            show (if less (pat P (j - 1)).f0 (pat P j).f0=true then _ else _)=_
            cases less (pat P (j - 1)).f0 (pat P j).f0<;>rfl
def netw (N:List Int) (P:List S80):Bool:=decide (1≤N.length∧N.length≤16)&&(decide (P.length≤20)&&ptAll N.length P P.length 0)
def netv (N:List Int) (P:List S80):Bool:=(N.all fun x=>decide ((-100000:Int)≤x∧x≤100000))&&netw N P
theorem spec_net_j1 (N:List Int) (P:List S80) (hN:N.length≤1048576) (hP:P.length≤1048576) (hs:∀ x ∈ P,x.f0.size≤1048576) (b:Bool) (k:Nat) (hk:2097200<k):spec_l04Ok.j1 k [(⟨N,P⟩:S32)] b=some (!b&&ptAll N.length P P.length 0):=by
  obtain ⟨k,rfl⟩:=suc_of hk
  simp only [spec_l04Ok.j1]
  cases b
  · rw [if_neg Bool.false_ne_true]
    exact spec_net_l1 N P hN hP hs P.length 0 k (by omega) (by omega)
  · rfl
theorem spec_net_l0 (N:List Int) (P:List S80) (hN:N.length≤1048576) (hP:P.length≤1048576) (hs:∀ x ∈ P,x.f0.size≤1048576):∀ (d j k:Nat),j+d=N.length→2097202+d<k→spec_l04Ok.l0 k [(⟨N,P⟩:S32)] (j:Int)=some (((N.drop j).all fun x=>decide ((-100000:Int)≤x∧x≤100000))&&netw N P):=by
  intro d
  induction d with
  |zero=>
    intro j k hj hk
    obtain ⟨k,rfl⟩:=suc_of hk
    simp only [spec_l04Ok.l0,show rd_T32 [(⟨N,P⟩:S32)] 0=⟨N,P⟩ from rfl]
    rw [if_pos (by simp),if_neg (by omega),List.drop_eq_nil_of_le (by omega)]
    simp only [List.all_nil,Bool.true_and]
    unfold netw
    by_cases c1:(N.length:Int)<1
    · rw [if_pos c1,spec_net_j1 N P hN hP hs true k (by omega),decide_eq_false (by omega)];rfl
    · rw [if_neg c1]
      by_cases c2:(N.length:Int) > 16
      · rw [if_pos c2,spec_net_j1 N P hN hP hs true k (by omega),decide_eq_false (by omega)];rfl
      · rw [if_neg c2,spec_net_j1 N P hN hP hs _ k (by omega),decide_eq_true (p:=1≤N.length∧N.length≤16) (by omega)]
        by_cases c3:P.length≤20
        · rw [decide_eq_true c3,decide_eq_false (by omega)];rfl
        · rw [decide_eq_false c3,decide_eq_true (by omega)];rfl
  |succ d ih=>
    intro j k hj hk
    obtain ⟨k,rfl⟩:=suc_of hk
    have hr:=ih (j+1) k (by omega) (by omega)
    simp only [spec_l04Ok.l0,show rd_T32 [(⟨N,P⟩:S32)] 0=⟨N,P⟩ from rfl]
    rw [if_pos (by simp),if_pos (by omega),if_pos (by omega),spec_in,Option.bind_some,next_nat (n:=N.length) (by omega) (by omega),hr,drop_cons N (j:=j) (by omega) 0,rd_nat]
    simp only [List.all_cons]
    cases decide ((-100000:Int)≤N.getD j 0∧N.getD j 0≤100000)<;>simp
/-- A network is valid for both. -/
theorem net_both (N:List Int) (P:List S80) (hN:N.length≤1048576) (hP:P.length≤1048576) (hs:∀ x ∈ P,x.f0.size≤1048576) (k:Nat) (hk:3145780<k):spec_l04Ok.f k [(⟨N,P⟩:S32)]=some (netv N P)∧impl_ValidNetwork.f k N P=some (netv N P):=by
  refine ⟨?_,?_⟩
  · unfold spec_l04Ok.f netv
    exact spec_net_l0 N P hN hP hs N.length 0 k (by omega) (by omega)
  · obtain ⟨k,rfl⟩:=suc_of hk
    have bad:impl_ValidNetwork.j0 (k+1) true N P=some false:=by simp only [impl_ValidNetwork.j0];simp
    unfold impl_ValidNetwork.f netv netw
    rw [impl_all,bad]
    simp only [Option.bind_some]
    by_cases c1:(N.length:Int)<1
    · rw [if_pos c1,decide_eq_false (p:=1≤N.length∧N.length≤16) (by omega)];simp
    · rw [if_neg c1]
      by_cases c2:(N.length:Int) > 16
      · rw [if_pos c2,decide_eq_false (p:=1≤N.length∧N.length≤16) (by omega)];simp
      · rw [if_neg c2,decide_eq_true (p:=1≤N.length∧N.length≤16) (by omega)]
        cases N.all fun x=>decide ((-100000:Int)≤x∧x≤100000)
        · rfl
        · rw [if_pos rfl]
          simp only [impl_ValidNetwork.j0,Bool.true_and]
          by_cases c3:P.length≤20
          · rw [decide_eq_true c3,decide_eq_false (by omega),if_neg Bool.false_ne_true]
            exact impl_net_l0 N P hN hP hs P.length 0 k (by omega) (by omega)
          · rw [decide_eq_false c3,decide_eq_true (by omega)];rfl
theorem pip_small {P:List S99} (h:∀ x ∈ P,x.f0.size≤1048576):∀ x ∈ P.map pip,x.f0.size≤1048576:=by
  intro x hx
  obtain ⟨y,hy,rfl⟩:=List.mem_map.1 hx
  exact h y hy

def inc:List Int→Bool
  |a :: b :: t=>decide (a<b)&&inc (b :: t)
  |_=>true
theorem inc_cons {l:List Int} {j:Nat} (h:j+1<l.length):inc (l.drop j)=(decide (l.getD j 0<l.getD (j+1) 0)&&inc (l.drop (j+1))):=by
  rw [drop_cons l (by omega:j<l.length) 0,drop_cons l h 0]
  simp only [inc]
theorem inc_last {l:List Int} {j:Nat} (h:l.length≤j+1):inc (l.drop j)=true:=by
  rcases Nat.lt_or_ge j l.length with h1|h1
  · rw [drop_cons l h1 0,List.drop_eq_nil_of_le (by omega)];rfl
  · rw [List.drop_eq_nil_of_le h1];rfl
theorem impl_inc_l0 (l:List Int) (hl:l.length≤35184372088832):∀ (d j k:Nat),j+1+d=l.length→d<k→impl_increasing.l0 k l ((j+1:Nat):Int)=some (inc (l.drop j)):=by
  intro d
  induction d with
  |zero=>
    intro j k hj hk
    obtain ⟨k,rfl⟩:=suc_of hk
    simp only [impl_increasing.l0]
    rw [if_neg (by omega),inc_last (by omega)]
  |succ d ih=>
    intro j k hj hk
    obtain ⟨k,rfl⟩:=suc_of hk
    simp only [impl_increasing.l0]
    have e:wrap64 (((j+1:Nat):Int) - 1)=(j:Int):=by rw [wrap_id (by omega) (by omega)];omega
    rw [e,if_pos (by omega),if_pos (by omega),if_pos (by omega),if_pos (by omega),rd_nat,rd_nat,inc_cons (by omega)]
    by_cases h:l.getD (j+1) 0≤l.getD j 0
    · rw [if_pos h,decide_eq_false (by omega),Bool.false_and]
    · rw [if_neg h,decide_eq_true (by omega),Bool.true_and,next_nat (n:=l.length) (by omega) (by omega)]
      exact ih (j+1) k (by omega) (by omega)
theorem impl_inc (l:List Int) (hl:l.length≤35184372088832) (k:Nat) (hk:l.length<k):impl_increasing.f k l=some (inc l):=by
  unfold impl_increasing.f
  rcases Nat.eq_zero_or_pos l.length with h|h
  · obtain ⟨k,rfl⟩:=suc_of hk
    simp only [impl_increasing.l0]
    rw [if_neg (by omega),List.eq_nil_of_length_eq_zero h];rfl
  · exact impl_inc_l0 l hl (l.length - 1) 0 k (by omega) (by omega)

theorem spec_rises_l0 (l:List Int) (hl:l.length≤35184372088832) (lo hi:Int):∀ (d j k:Nat),j+d=l.length→d<k→spec_l00Rises.l0 k l lo hi (j:Int)=some ((l.drop j).all (fun x=>decide (lo≤x∧x≤hi))&&inc (l.drop (j - 1))):=by
  intro d
  induction d with
  |zero=>
    intro j k hj hk
    obtain ⟨k,rfl⟩:=suc_of hk
    simp only [spec_l00Rises.l0]
    rw [if_neg (by omega),inc_last (by omega),List.drop_eq_nil_of_le (by omega)];rfl
  |succ d ih=>
    intro j k hj hk
    obtain ⟨k,rfl⟩:=suc_of hk
    simp only [spec_l00Rises.l0]
    have hn:wrap64 ((j:Int)+1)=((j+1:Nat):Int):=next_nat (n:=l.length) (by omega) (by omega)
    rw [if_pos (by omega),if_pos (by omega),spec_in,rd_nat,drop_cons l (by omega:j<l.length) 0,List.all_cons,Option.bind_some,hn]
    by_cases h1:lo≤l.getD j 0∧l.getD j 0≤hi
    · rw [decide_eq_true h1,if_pos rfl,Bool.true_and]
      rcases Nat.eq_zero_or_pos j with h0|h0
      · subst h0
        rw [if_neg (by omega)]
        have:=ih 1 k (by omega) (by omega)
        simpa using this
      · have e:wrap64 ((j:Int) - 1)=((j - 1:Nat):Int):=by rw [wrap_id (by omega) (by omega)];omega
        rw [if_pos (by omega),e,if_pos (by omega),if_pos (by omega),rd_nat]
        have hc:=inc_cons (l:=l) (j:=j - 1) (by omega)
        rw [show j - 1+1=j by omega] at hc
        rw [hc]
        by_cases h2:l.getD (j - 1) 0≥l.getD j 0
        · rw [if_pos h2,decide_eq_false (by omega),Bool.false_and,Bool.and_false]
        · rw [if_neg h2,decide_eq_true (by omega),Bool.true_and,ih (j+1) k (by omega) (by omega)];rfl
    · rw [decide_eq_false h1,if_neg (by simp),Bool.false_and,Bool.false_and]
theorem spec_rises (l:List Int) (hl:l.length≤35184372088832) (lo hi:Int) (k:Nat) (hk:l.length<k):spec_l00Rises.f k l lo hi=some (l.all (fun x=>decide (lo≤x∧x≤hi))&&inc l):=by
  unfold spec_l00Rises.f
  have:=spec_rises_l0 l hl lo hi l.length 0 k (by omega) hk
  simpa using this

theorem impl_has_l0 (B:List Int) (hB:B.length≤35184372088832) (x:Int):∀ (d j k:Nat),j+d=B.length→d<k→∃ t,slices_Index_int64_int64.l0 k B x (B.length:Int) (j:Int)=some t∧decide (t≥0)=decide (x ∈ B.drop j):=by
  intro d
  induction d with
  |zero=>
    intro j k hj hk
    obtain ⟨k,rfl⟩:=suc_of hk
    simp only [slices_Index_int64_int64.l0]
    rw [if_neg (by omega),List.drop_eq_nil_of_le (by omega)];exact ⟨-1,rfl,by simp⟩
  |succ d ih=>
    intro j k hj hk
    obtain ⟨k,rfl⟩:=suc_of hk
    obtain ⟨t,t1,t2⟩:=ih (j+1) k (by omega) (by omega)
    simp only [slices_Index_int64_int64.l0]
    rw [if_pos (by omega),if_pos (by omega),if_pos (by omega),next_nat (n:=B.length) (by omega) (by omega),t1,rd_nat,drop_cons B (j:=j) (by omega) 0]
    by_cases c:x=B.getD j 0
    · rw [if_pos c,← c];exact ⟨(j:Int),rfl,by simp⟩
    · rw [if_neg c];refine ⟨t,rfl,?_⟩;rw [t2];simp only [List.mem_cons,c,false_or]
theorem impl_has (B:List Int) (hB:B.length≤35184372088832) (x:Int) (k:Nat) (hk:B.length<k):slices_Contains_int64_int64.f k B x=some (decide (x ∈ B)):=by
  unfold slices_Contains_int64_int64.f slices_Index_int64_int64.f
  obtain ⟨t,t1,t2⟩:=impl_has_l0 B hB x B.length 0 k (by omega) hk
  rw [show ((0:Nat):Int)=0 from rfl] at t1
  rw [t1,Option.bind_some,t2,List.drop_zero]
/-- The numbers from 0 on. -/
def al (n:Nat):List Int:=(List.range n).map fun i:Nat=>(i:Int)
theorem al_len (n:Nat):(al n).length=n:=by simp [al]
theorem al_get (n i:Nat) (h:i<n):(al n).getD i 0=(i:Int):=by
  rw [getD_lt (by rw [al_len];exact h)];simp [al]
theorem al_mem (n:Nat) (x:Int):x ∈ al n↔0≤x∧x<(n:Int):=by
  unfold al
  rw [List.mem_map]
  constructor
  · rintro ⟨i,hi,rfl⟩
    rw [List.mem_range] at hi;omega
  · intro h
    exact ⟨x.toNat,List.mem_range.2 (by omega),by omega⟩
theorem len_le:∀ (B C:List Int),B.Nodup→(∀ x ∈ B,x ∈ C)→B.length≤C.length
  |[],C,_,_=>by simp
  |b :: B,C,hn,hs=>by
    rw [List.nodup_cons] at hn
    have h:=len_le B (C.erase b) hn.2 (fun x hx=>by
      have:x≠b:=fun e=>hn.1 (e ▸ hx)
      exact (List.mem_erase_of_ne this).2 (hs x (by simp [hx])))
    have hb:b ∈ C:=hs b (by simp)
    rw [List.length_erase_of_mem hb] at h
    have:=List.length_pos_of_mem hb
    simp only [List.length_cons];omega

theorem spec_has_l0 (B:List Int) (hB:B.length≤35184372088832) (x:Int):∀ (d j k:Nat),j+d=B.length→d<k→spec_l00Has.l0 k B x (j:Int)=some (decide (x ∈ B.drop j)):=by
  intro d
  induction d with
  |zero=>
    intro j k hj hk
    obtain ⟨k,rfl⟩:=suc_of hk
    simp only [spec_l00Has.l0]
    rw [if_neg (by omega),List.drop_eq_nil_of_le (by omega)];simp
  |succ d ih=>
    intro j k hj hk
    obtain ⟨k,rfl⟩:=suc_of hk
    have hr:=ih (j+1) k (by omega) (by omega)
    simp only [spec_l00Has.l0]
    rw [if_pos (by omega),if_pos (by omega),next_nat (n:=B.length) (by omega) (by omega),hr,rd_nat,drop_cons B (j:=j) (by omega) 0]
    by_cases c:B.getD j 0=x
    · rw [if_pos c,c];simp
    · rw [if_neg c]
      have c2:¬ x=B.getD j 0:=fun h=>c h.symm
      simp only [List.mem_cons,c2,false_or]
theorem spec_has (B:List Int) (hB:B.length≤35184372088832) (x:Int) (k:Nat) (hk:B.length<k):spec_l00Has.f k B x=some (decide (x ∈ B)):=by
  unfold spec_l00Has.f
  have h:=spec_has_l0 B hB x B.length 0 k (by omega) hk
  rw [List.drop_zero] at h;exact h

def Ends (n:Nat) (P:List S80):Prop:=P.length≤20∧1≤n∧n≤16∧∀ i,i<P.length→(0≤(pat P i).f1∧(pat P i).f1<(n:Int))∧(0≤(pat P i).f2∧(pat P i).f2<(n:Int))
theorem ptAll_at (n:Nat) (P:List S80):∀ (d j:Nat),ptAll n P d j=true→∀ i,j≤i→i<j+d→ptOk n P i=true:=by
  intro d
  induction d with
  |zero=>intro j _ i h1 h2;omega
  |succ d ih=>
    intro j h i h1 h2
    have h3:(ptOk n P j&&ptAll n P d (j+1))=true:=h
    rw [Bool.and_eq_true] at h3
    by_cases e:i=j
    · subst e;exact h3.1
    · exact ih (j+1) h3.2 i (by omega) (by omega)
theorem netv_ends {N:List Int} {P:List S80} (h:netv N P=true) (hs:∀ x ∈ P,x.f0.size≤1048576):Ends N.length P:=by
  unfold netv netw at h
  simp only [Bool.and_eq_true,decide_eq_true_eq] at h
  obtain ⟨_,⟨h1,h2⟩,h3,h4⟩:=h
  refine ⟨h3,h1,h2,fun i hi=>?_⟩
  have h5:=ptAll_at N.length P P.length 0 h4 i (by omega) (by omega)
  unfold ptOk at h5
  simp only [Bool.and_eq_true,decide_eq_true_eq] at h5
  have h6:=(pv_spec (pat P i) (pat_lt hs hi)).2.2 h5.1
  exact ⟨⟨h6.1.1,h5.2.1⟩,⟨h6.2.1.1,h5.2.2.1⟩⟩

theorem getD_app {B e:List Int} {t:Nat} (h:t<B.length):(B++e).getD t 0=B.getD t 0:=by
  rw [getD_lt (by rw [List.length_append];omega),getD_lt h,List.getElem_append_left h]
theorem getD_mem {B:List Int} {t:Nat} (h:t<B.length):B.getD t 0 ∈ B:=by
  rw [getD_lt h];exact List.getElem_mem h

def ask (N:List Int) (P:List S80) (S C:List Int):Int:=if netv N P=true then (if (S.all (fun x=>decide ((0:Int)≤x∧x≤(N.length:Int) - 1))&&inc S)=true then (if (C.all (fun x=>decide ((0:Int)≤x∧x≤(P.length:Int) - 1))&&inc C)=true then 0 else 7) else 7) else 1
theorem spec_askS (N:List Int) (P:List S80) (S C:List Int) (hN:N.length≤1048576) (hP:P.length≤1048576) (hs:∀ x ∈ P,x.f0.size≤1048576) (hS:S.length≤1048576) (hC:C.length≤1048576) (k:Nat) (hk:3145790<k):spec_l19Ask.f k [(⟨N,P⟩:S32)] S C=some (ask N P S C):=by
  unfold spec_l19Ask.f spec_l04Closed.f ask
  rw [(net_both N P hN hP hs k (by omega)).1,Option.bind_some]
  cases netv N P
  · rfl
  · rw [if_pos rfl,if_pos rfl,if_pos (by simp)]
    simp only [show rd_T32 [(⟨N,P⟩:S32)] 0=⟨N,P⟩ from rfl]
    rw [wrap_id (x:=(N.length:Int) - 1) (by omega) (by omega),wrap_id (x:=(P.length:Int) - 1) (by omega) (by omega),spec_rises S (by omega) _ _ k (by omega),Option.bind_some,if_pos (show (0:Int)<(([(⟨N,P⟩:S32)].length:Nat):Int) by simp),spec_rises C (by omega) _ _ k (by omega),Option.bind_some,Option.bind_some]
    generalize (S.all (fun x=>decide ((0:Int)≤x∧x≤(N.length:Int) - 1))&&inc S)=a
    generalize (C.all (fun x=>decide ((0:Int)≤x∧x≤(P.length:Int) - 1))&&inc C)=b
    cases a<;>cases b<;>rfl
theorem impl_askS (N:List Int) (P:List S80) (S C:List Int) (hN:N.length≤1048576) (hP:P.length≤1048576) (hs:∀ x ∈ P,x.f0.size≤1048576) (hS:S.length≤1048576) (hC:C.length≤1048576) (k:Nat) (hk:3145790<k):impl_serviceCode.f k N P S C [] []=some (ask N P S C):=by
  obtain ⟨k,rfl⟩:=suc_of hk
  have b1:impl_serviceCode.j0 (k+1) [] true N P=some 7:=by simp only [impl_serviceCode.j0];rfl
  have b2:impl_serviceCode.j0 (k+1) [] false N P=some 0:=by
    simp only [impl_serviceCode.j0,impl_all]
    rw [if_neg Bool.false_ne_true,if_neg (by simp),Option.bind_some,if_pos (by simp)]
  unfold impl_serviceCode.f impl_Network_hasNodes.f impl_Network_hasPipes.f ask
  rw [(net_both N P hN hP hs (k+1) (by omega)).2,Option.bind_some]
  cases netv N P
  · rfl
  · rw [if_pos rfl,if_pos rfl,impl_inc S (by omega) (k+1) (by omega),impl_inc C (by omega) (k+1) (by omega),impl_inc [] (by simp) (k+1) (by simp),impl_all,impl_all,impl_all,wrap_id (x:=(N.length:Int) - 1) (by omega) (by omega),wrap_id (x:=(P.length:Int) - 1) (by omega) (by omega)]
    simp only [Option.bind_some]
    generalize (S.all fun x=>decide ((0:Int)≤x∧x≤(N.length:Int) - 1))=a
    generalize (C.all fun x=>decide ((0:Int)≤x∧x≤(P.length:Int) - 1))=b
    cases inc S<;>cases a<;>cases inc C<;>cases b<;>first|exact b1|exact b2
theorem ask_cases (N:List Int) (P:List S80) (S C:List Int):(netv N P=false∧ask N P S C=1)∨(netv N P=true∧ask N P S C=7)∨(netv N P=true∧ask N P S C=0∧(∀ x ∈ S,0≤x∧x<(N.length:Int))∧(∀ x ∈ C,0≤x∧x<(P.length:Int))∧inc S=true∧inc C=true):=by
  unfold ask
  cases netv N P
  · exact Or.inl ⟨rfl,rfl⟩
  · rw [if_pos rfl]
    by_cases a:(S.all (fun x=>decide ((0:Int)≤x∧x≤(N.length:Int) - 1))&&inc S)=true
    · rw [if_pos a]
      by_cases b:(C.all (fun x=>decide ((0:Int)≤x∧x≤(P.length:Int) - 1))&&inc C)=true
      · rw [if_pos b]
        rw [Bool.and_eq_true,List.all_eq_true] at a b
        refine Or.inr (Or.inr ⟨rfl,rfl,fun x hx=>?_,fun x hx=>?_,a.2,b.2⟩)
        · have:=of_decide_eq_true (a.1 x hx);omega
        · have:=of_decide_eq_true (b.1 x hx);omega
      · rw [if_neg b];exact Or.inr (Or.inl ⟨rfl,rfl⟩)
    · rw [if_neg a];exact Or.inr (Or.inl ⟨rfl,rfl⟩)

def sel (o:Nat→Bool):Nat→Nat→List Int
  |0,_=>[]
  |d+1,j=>(if o j=true then [(j:Int)] else [])++sel o d (j+1)
theorem sel_s (o:Nat→Bool) (d j:Nat):sel o (d+1) j=(if o j=true then [(j:Int)] else [])++sel o d (j+1):=rfl
theorem sel_mem (o:Nat→Bool) (x:Int):∀ d j,x ∈ sel o d j↔∃ i:Nat,j≤i∧i<j+d∧o i=true∧x=(i:Int):=by
  intro d
  induction d with
  |zero=>intro j;simp only [sel,List.not_mem_nil,false_iff];rintro ⟨i,h1,h2,_⟩;omega
  |succ d ih=>
    intro j
    rw [sel_s,List.mem_append,ih]
    constructor
    · rintro (h|⟨i,h1,h2,h3⟩)
      · split at h
        · rename_i c
          simp only [List.mem_singleton] at h
          exact ⟨j,by omega,by omega,c,h⟩
        · simp at h
      · exact ⟨i,by omega,by omega,h3⟩
    · rintro ⟨i,h1,h2,h3,h4⟩
      by_cases e:i=j
      · subst e;exact Or.inl (by rw [if_pos h3];simp [h4])
      · exact Or.inr ⟨i,by omega,by omega,h3,h4⟩
theorem sel_strict (o:Nat→Bool):∀ d j,(sel o d j).Pairwise (· < ·):=by
  intro d
  induction d with
  |zero=>intro j;simp [sel]
  |succ d ih=>
    intro j
    rw [sel_s,List.pairwise_append]
    refine ⟨by split<;>simp,ih (j+1),fun x hx y hy=>?_⟩
    obtain ⟨i,h1,h2,h3,h4⟩:=(sel_mem o y d (j+1)).1 hy
    split at hx
    · simp only [List.mem_singleton] at hx;omega
    · simp at hx
theorem sel_len (o:Nat→Bool):∀ d j,(sel o d j).length≤d:=by
  intro d
  induction d with
  |zero=>intro j;simp [sel]
  |succ d ih=>
    intro j
    have:=ih (j+1)
    rw [sel_s,List.length_append]
    split<;>simp<;>omega

/-! Ways over open pipes. -/
def opn (P:List S80) (Cl:List Int):Nat→Nat→List S80
  |0,_=>[]
  |d+1,j=>(if decide ((j:Int) ∈ Cl)=true then [] else [pat P j])++opn P Cl d (j+1)
theorem opn_s (P:List S80) (Cl:List Int) (d j:Nat):opn P Cl (d+1) j=(if decide ((j:Int) ∈ Cl)=true then [] else [pat P j])++opn P Cl d (j+1):=rfl
def OkO (n:Nat) (O:List S80):Prop:=∀ p ∈ O,(0≤p.f1∧p.f1<(n:Int))∧(0≤p.f2∧p.f2<(n:Int))
theorem opn_ok {n:Nat} {P:List S80} (hE:Ends n P) (Cl:List Int):∀ d j,j+d=P.length→OkO n (opn P Cl d j):=by
  intro d
  induction d with
  |zero=>intro j _ p hp;simp [opn] at hp
  |succ d ih=>
    intro j hj p hp
    rw [opn_s] at hp
    rcases List.mem_append.1 hp with h|h
    · split at h
      · simp at h
      · simp only [List.mem_singleton] at h
        subst h;exact hE.2.2.2 j (by omega)
    · exact ih (j+1) (by omega) p h
theorem opn_len (P:List S80) (Cl:List Int):∀ d j,(opn P Cl d j).length≤d:=by
  intro d
  induction d with
  |zero=>intro j;simp [opn]
  |succ d ih=>
    intro j
    have:=ih (j+1)
    rw [opn_s,List.length_append]
    split<;>simp<;>omega
def Adj (O:List S80) (y x:Int):Prop:=∃ p ∈ O,(p.f1=y∧p.f2=x)∨(p.f2=y∧p.f1=x)
theorem Adj.ok {n:Nat} {O:List S80} (hO:OkO n O) {y x:Int} (h:Adj O y x):(0≤y∧y<(n:Int))∧(0≤x∧x<(n:Int)):=by
  obtain ⟨p,hp,h|h⟩:=h
  · have:=hO p hp;rw [h.1,h.2] at this;exact this
  · have:=hO p hp;rw [h.1,h.2] at this;exact ⟨this.2,this.1⟩
def Way (O:List S80) (s:Int):Nat→Int→Prop
  |0,x=>x=s
  |d+1,x=>∃ y,Way O s d y∧Adj O y x
theorem Way.ok {n:Nat} {O:List S80} (hO:OkO n O) {s:Int} (hs:0≤s∧s<(n:Int)):∀ d x,Way O s d x→0≤x∧x<(n:Int)
  |0,x,h=>by have h2:x=s:=h;rw [h2];exact hs
  |d+1,x,⟨y,_,ha⟩=>(ha.ok hO).2
def fat (F:List Int) (x:Int):Int:=F.getD x.toNat 0
theorem fat_set {F:List Int} {a:Int} {v:Int} (ha:0≤a∧a.toNat<F.length) {x:Int} (hx:0≤x):fat (F.set a.toNat v) x=if x=a then v else fat F x:=by
  unfold fat
  rw [List.getD_eq_getElem?_getD,List.getElem?_set,List.getD_eq_getElem?_getD]
  by_cases e:x=a
  · subst e;rw [if_pos rfl,if_pos rfl,if_pos ha.2];rfl
  · rw [if_neg (by omega),if_neg e]
def Right (n:Nat) (O:List S80) (s:Int) (F:List Int):Prop:=F.length=n∧∀ x:Int,0≤x→x<(n:Int)→-1≤fat F x∧(0≤fat F x→Way O s (fat F x).toNat x)∧∀ d:Nat,Way O s d x→0≤fat F x∧fat F x≤(d:Int)
theorem right_uniq {n:Nat} {O:List S80} {s:Int} {F G:List Int} (hF:Right n O s F) (hG:Right n O s G):F=G:=by
  have l1:=hF.1
  have l2:=hG.1
  refine List.ext_getElem (by omega) (fun i h1 h2=>?_)
  obtain ⟨a1,a2,a3⟩:=hF.2 (i:Int) (by omega) (by omega)
  obtain ⟨b1,b2,b3⟩:=hG.2 (i:Int) (by omega) (by omega)
  have e1:fat F (i:Int)=F[i]:=by unfold fat;rw [Int.toNat_natCast];exact getD_lt h1
  have e2:fat G (i:Int)=G[i]:=by unfold fat;rw [Int.toNat_natCast];exact getD_lt h2
  rw [← e1,← e2]
  by_cases c:0≤fat F (i:Int)
  · have q:=b3 _ (a2 c)
    have q2:=a3 _ (b2 q.1)
    omega
  · by_cases c2:0≤fat G (i:Int)
    · have q:=a3 _ (b2 c2);omega
    · omega
/-! Labels, round by round. -/
def lab (r:Nat) (F:List Int) (a b:Int):List Int:=if fat F a=(r:Int)∧fat F b<0 then F.set b.toNat ((r:Int)+1) else F
def stepF (r:Nat) (F:List Int) (p:S80):List Int:=lab r (lab r F p.f1 p.f2) p.f2 p.f1
def Inv2 (n:Nat) (O:List S80) (s:Int) (r:Nat) (F:List Int):Prop:=F.length=n∧∀ x:Int,0≤x→x<(n:Int)→(-1≤fat F x∧fat F x≤(r:Int)+1)∧(0≤fat F x→Way O s (fat F x).toNat x∧∀ e:Nat,Way O s e x→fat F x≤(e:Int))∧(fat F x<0→∀ e:Nat,e≤r→¬ Way O s e x)
def Mono (n:Nat) (r:Nat) (F G:List Int):Prop:=∀ x:Int,0≤x→x<(n:Int)→(0≤fat F x→fat G x=fat F x)∧(fat G x=(r:Int)→fat F x=(r:Int))
theorem Mono.refl (n r:Nat) (F:List Int):Mono n r F F:=fun _ _ _=>⟨fun _=>rfl,id⟩
theorem Mono.trans {n r:Nat} {F G H:List Int} (h1:Mono n r F G) (h2:Mono n r G H):Mono n r F H:=fun x h0 hn=>⟨fun h=>by
  have a:=(h1 x h0 hn).1 h
  rw [(h2 x h0 hn).1 (by omega),a],fun h=>(h1 x h0 hn).2 ((h2 x h0 hn).2 h)⟩
theorem lab_inv {n:Nat} {O:List S80} {s:Int} {r:Nat} {F:List Int} (h:Inv2 n O s r F) {a b:Int} (hO:OkO n O) (hab:Adj O a b):Inv2 n O s r (lab r F a b)∧Mono n r F (lab r F a b)∧(fat (lab r F a b) a=(r:Int)→0≤fat (lab r F a b) b):=by
  obtain ⟨ha,hb⟩:=hab.ok hO
  have hl:=h.1
  unfold lab
  by_cases c:fat F a=(r:Int)∧fat F b<0
  · rw [if_pos c]
    have hset:∀ x:Int,0≤x→fat (F.set b.toNat ((r:Int)+1)) x=if x=b then (r:Int)+1 else fat F x:=fun x hx=>fat_set ⟨hb.1,by omega⟩ hx
    obtain ⟨_,w,_⟩:=h.2 a ha.1 ha.2
    obtain ⟨_,_,w2⟩:=h.2 b hb.1 hb.2
    refine ⟨⟨by rw [List.length_set];exact hl,fun x h0 hn=>?_⟩,fun x h0 hn=>?_,fun _=>?_⟩
    · rw [hset x h0]
      by_cases e:x=b
      · subst e
        rw [if_pos rfl]
        refine ⟨⟨by omega,by omega⟩,fun _=>⟨?_,fun e he=>?_⟩,fun q=>by omega⟩
        · rw [show ((r:Int)+1).toNat=r+1 by omega]
          have:=(w (by omega)).1
          rw [c.1,Int.toNat_natCast] at this
          exact ⟨a,this,hab⟩
        · rcases Nat.lt_or_ge r e with q|q
          · omega
          · exact absurd he (w2 c.2 e q)
      · rw [if_neg e];exact h.2 x h0 hn
    · rw [hset x h0]
      by_cases e:x=b
      · subst e;rw [if_pos rfl];exact ⟨fun q=>by omega,fun q=>by omega⟩
      · rw [if_neg e];exact ⟨fun _=>rfl,id⟩
    · rw [hset b hb.1,if_pos rfl];omega
  · rw [if_neg c]
    refine ⟨h,Mono.refl _ _ _,fun q=>?_⟩
    rcases Int.lt_or_le (fat F b) 0 with q2|q2
    · exact absurd ⟨q,q2⟩ c
    · exact q2
def Shut (r:Nat) (F:List Int) (p:S80):Prop:=(fat F p.f1=(r:Int)→0≤fat F p.f2)∧(fat F p.f2=(r:Int)→0≤fat F p.f1)
theorem Shut.up {n:Nat} {O:List S80} (hO:OkO n O) {r:Nat} {F G:List Int} {p:S80} (hp:p ∈ O) (h:Shut r F p) (hm:Mono n r F G):Shut r G p:=by
  obtain ⟨a,b⟩:=hO p hp
  have m1:=hm p.f1 a.1 a.2
  have m2:=hm p.f2 b.1 b.2
  refine ⟨fun q=>?_,fun q=>?_⟩
  · have:=h.1 (m1.2 q);rw [m2.1 this];exact this
  · have:=h.2 (m2.2 q);rw [m1.1 this];exact this
theorem stepF_inv {n:Nat} {O:List S80} {s:Int} {r:Nat} {F:List Int} (h:Inv2 n O s r F) (hO:OkO n O) {p:S80} (hp:p ∈ O):Inv2 n O s r (stepF r F p)∧Mono n r F (stepF r F p)∧Shut r (stepF r F p) p:=by
  obtain ⟨a,b⟩:=hO p hp
  obtain ⟨i1,m1,s1⟩:=lab_inv h hO (a:=p.f1) (b:=p.f2) ⟨p,hp,Or.inl ⟨rfl,rfl⟩⟩
  obtain ⟨i2,m2,s2⟩:=lab_inv i1 hO (a:=p.f2) (b:=p.f1) ⟨p,hp,Or.inr ⟨rfl,rfl⟩⟩
  refine ⟨i2,m1.trans m2,fun q=>?_,s2⟩
  have q1:=(m2 p.f1 a.1 a.2).2 q
  have q2:=s1 q1
  unfold stepF
  rw [(m2 p.f2 b.1 b.2).1 q2];exact q2
theorem fold_inv {n:Nat} {O:List S80} {s:Int} {r:Nat} (hO:OkO n O):∀ (L:List S80) (F:List Int),(∀ p ∈ L,p ∈ O)→Inv2 n O s r F→Inv2 n O s r (L.foldl (stepF r) F)∧Mono n r F (L.foldl (stepF r) F)∧∀ p ∈ L,Shut r (L.foldl (stepF r) F) p
  |[],F,_,h=>⟨h,Mono.refl _ _ _,by simp⟩
  |p :: L,F,hL,h=>by
    obtain ⟨a1,a2,a3⟩:=stepF_inv h hO (hL p (by simp))
    obtain ⟨b1,b2,b3⟩:=fold_inv hO L (stepF r F p) (fun q hq=>hL q (by simp [hq])) a1
    refine ⟨b1,a2.trans b2,fun q hq=>?_⟩
    rcases List.mem_cons.1 hq with e|e
    · subst e;exact a3.up hO (hL q (by simp)) b2
    · exact b3 q e
def Inv1 (n:Nat) (O:List S80) (s:Int) (r:Nat) (F:List Int):Prop:=Inv2 n O s r F∧∀ x:Int,0≤x→x<(n:Int)→fat F x≤(r:Int)
theorem round_inv {n:Nat} {O:List S80} {s:Int} {r:Nat} (hO:OkO n O) {F:List Int} (h:Inv1 n O s r F):Inv1 n O s (r+1) (O.foldl (stepF r) F):=by
  obtain ⟨b1,b2,b3⟩:=fold_inv hO O F (fun _ h=>h) h.1
  refine ⟨⟨b1.1,fun x h0 hn=>?_⟩,fun x h0 hn=>by have:=(b1.2 x h0 hn).1.2;omega⟩
  obtain ⟨c1,c2,c3⟩:=b1.2 x h0 hn
  refine ⟨⟨c1.1,by omega⟩,c2,fun q e he hw=>?_⟩
  rcases Nat.lt_or_ge r e with q2|q2
  · have:e=r+1:=by omega
    subst this
    obtain ⟨y,wy,ha⟩:=hw
    obtain ⟨⟨y0,y1⟩,_⟩:=ha.ok hO
    obtain ⟨d1,d2,d3⟩:=b1.2 y y0 y1
    have hy:0≤fat (O.foldl (stepF r) F) y:=by
      rcases Int.lt_or_le (fat (O.foldl (stepF r) F) y) 0 with z|z
      · exact absurd wy (d3 z r (Nat.le_refl _))
      · exact z
    obtain ⟨w1,w2⟩:=d2 hy
    have le:=w2 r wy
    have eq:fat (O.foldl (stepF r) F) y=(r:Int):=by
      rcases Int.lt_or_le (fat (O.foldl (stepF r) F) y) (r:Int) with z|z
      · exact absurd (show Way O s ((fat (O.foldl (stepF r) F) y).toNat+1) x from ⟨y,w1,ha⟩) (c3 q ((fat (O.foldl (stepF r) F) y).toNat+1) (by omega))
      · omega
    obtain ⟨p,hp,z|z⟩:=ha
    · have:=(b3 p hp).1 (by rw [z.1];exact eq)
      rw [z.2] at this;omega
    · have:=(b3 p hp).2 (by rw [z.1];exact eq)
      rw [z.2] at this;omega
  · exact c3 q e q2 hw
theorem sel_all_len:∀ d j,(sel (fun _=>true) d j).length=d:=by
  intro d
  induction d with
  |zero=>intro j;rfl
  |succ d ih=>intro j;rw [sel_s,List.length_append,ih];simp;omega
/-- Where there is a way at all, there is one of each lesser least length. -/
theorem levels {O:List S80} {s:Int}:∀ (d m:Nat) (x:Int),Way O s (m+d) x→(∀ e,e<m+d→¬ Way O s e x)→∃ y,Way O s m y∧∀ e,e<m→¬ Way O s e y:=by
  intro d
  induction d with
  |zero=>intro m x h1 h2;exact ⟨x,h1,h2⟩
  |succ d ih=>
    intro m x h1 h2
    obtain ⟨y,wy,ha⟩:=(h1:Way O s (m+d+1) x)
    exact ih m y wy (fun e he hw=>h2 (e+1) (by omega) ⟨y,hw,ha⟩)
theorem least {O:List S80} {s x:Int}:∀ e,Way O s e x→∃ m,Way O s m x∧∀ e,e<m→¬ Way O s e x:=by
  intro e
  induction e using Nat.strongRecOn with
  |_ e ih=>
    intro h
    by_cases c:∃ e2,e2<e∧Way O s e2 x
    · obtain ⟨e2,h1,h2⟩:=c;exact ih e2 h1 h2
    · exact ⟨e,h,fun e2 h1 h2=>c ⟨e2,h1,h2⟩⟩
theorem inv_right {n:Nat} {O:List S80} {s:Int} (hO:OkO n O) (hs:0≤s∧s<(n:Int)) {F:List Int} (h:Inv1 n O s n F):Right n O s F:=by
  have hl:=h.1.1
  have none:∀ x:Int,0≤x→x<(n:Int)→fat F x<0→∀ e,¬ Way O s e x:=by
    intro x h0 hn hx e hw
    obtain ⟨m,w,wm⟩:=least e hw
    have hm:n<m:=by
      rcases Nat.lt_or_ge n m with q|q
      · exact q
      · exact absurd w ((h.1.2 x h0 hn).2.2 hx m q)
    have sub:∀ y ∈ sel (fun _=>true) (n+1) 0,y ∈ F:=by
      intro y hy
      obtain ⟨l,_,l2,_,rfl⟩:=(sel_mem _ _ _ _).1 hy
      obtain ⟨z,wz,wm2⟩:=levels (m - l) l x (by rw [show l+(m - l)=m by omega];exact w) (by rw [show l+(m - l)=m by omega];exact wm)
      have rz:=Way.ok hO hs l z wz
      obtain ⟨c1,c2,c3⟩:=h.1.2 z rz.1 rz.2
      have hz:0≤fat F z:=by
        rcases Int.lt_or_le (fat F z) 0 with q|q
        · exact absurd wz (c3 q l (by omega))
        · exact q
      obtain ⟨d1,d2⟩:=c2 hz
      have le:=d2 l wz
      have eq:fat F z=(l:Int):=by
        rcases Int.lt_or_le (fat F z) (l:Int) with q|q
        · exact absurd d1 (wm2 _ (by omega))
        · omega
      rw [← eq]
      unfold fat
      exact getD_mem (by omega)
    have:=len_le _ _ ((sel_strict (fun _=>true) (n+1) 0).imp (fun h=>by omega)) sub
    rw [sel_all_len] at this
    omega
  refine ⟨hl,fun x h0 hn=>?_⟩
  obtain ⟨c1,c2,c3⟩:=h.1.2 x h0 hn
  refine ⟨c1.1,fun q=>(c2 q).1,fun d hw=>?_⟩
  rcases Int.lt_or_le (fat F x) 0 with q|q
  · exact absurd hw (none x h0 hn q d)
  · exact ⟨q,(c2 q).2 d hw⟩

/-! A search in width. -/
def neg (F:List Int):Nat:=F.countP fun v=>decide (v<0)
theorem neg_set:∀ (F:List Int) (i:Nat) (v:Int),i<F.length→F.getD i 0<0→0≤v→neg (F.set i v)+1=neg F
  |[],i,_,h,_,_=>absurd h (by simp)
  |a :: F,0,v,_,h,hv=>by
    have h2:a<0:=h
    unfold neg
    rw [List.set_cons_zero,List.countP_cons,List.countP_cons,if_neg (by simp;omega),if_pos (by simpa using h2)]
  |a :: F,i+1,v,h,h1,hv=>by
    have ih:=neg_set F i v (by simpa using h) h1 hv
    unfold neg at ih ⊢
    rw [List.set_cons_succ,List.countP_cons,List.countP_cons]
    omega
def oth (v:Int) (p:S80):Int:=if v=p.f1 then p.f2 else p.f1
def visit (v:Int) (t:List Int × List Int) (p:S80):List Int × List Int:=if (v=p.f1∨v=p.f2)∧fat t.1 (oth v p)<0 then (t.1.set (oth v p).toNat (fat t.1 v+1),t.2++[oth v p]) else t
def Done (O:List S80) (F:List Int) (x:Int):Prop:=∀ u,Adj O x u→0≤fat F u∧fat F u≤fat F x+1
def BInv (n:Nat) (O:List S80) (s:Int) (F Q:List Int):Prop:=F.length=n∧(∀ x:Int,0≤x→x<(n:Int)→-1≤fat F x∧(0≤fat F x→Way O s (fat F x).toNat x∧fat F x+(neg F:Int)≤(n:Int) - 1))∧fat F s=0∧(∀ q ∈ Q,(0≤q∧q<(n:Int))∧0≤fat F q)∧Q.Pairwise (fun a b=>fat F a≤fat F b)∧(∀ x:Int,0≤x→x<(n:Int)→0≤fat F x→x ∈ Q∨Done O F x)∧∀ x:Int,0≤x→x<(n:Int)→∀ q ∈ Q,fat F x≤fat F q+1
theorem visit_inv {n:Nat} {O:List S80} {s:Int} (hO:OkO n O) (hs:0≤s∧s<(n:Int)) {F Q:List Int} {v:Int} (h:BInv n O s F (v :: Q)) {p:S80} (hp:p ∈ O):∃ (F' E:List Int),visit v (F,v :: Q) p=(F',(v :: Q)++E)∧BInv n O s F' (v :: (Q++E))∧neg F' +E.length=neg F∧(∀ x:Int,0≤x→x<(n:Int)→0≤fat F x→fat F' x=fat F x)∧((v=p.f1∨v=p.f2)→0≤fat F' (oth v p)∧fat F' (oth v p)≤fat F' v+1):=by
  obtain ⟨h1,h2,h3,h4,h5,h6,h7⟩:=h
  obtain ⟨⟨hv0,hv1⟩,hv2⟩:=h4 v (by simp)
  by_cases c:(v=p.f1∨v=p.f2)∧fat F (oth v p)<0
  · have adj:Adj O v (oth v p):=by
      unfold oth
      by_cases e:v=p.f1
      · rw [if_pos e];exact ⟨p,hp,Or.inl ⟨e.symm,rfl⟩⟩
      · rw [if_neg e]
        rcases c.1 with e2|e2
        · exact absurd e2 e
        · exact ⟨p,hp,Or.inr ⟨e2.symm,rfl⟩⟩
    obtain ⟨_,ho0,ho1⟩:=adj.ok hO
    generalize ho:oth v p=o at *
    have hset:∀ x:Int,0≤x→fat (F.set o.toNat (fat F v+1)) x=if x=o then fat F v+1 else fat F x:=fun x hx=>fat_set ⟨ho0,by omega⟩ hx
    have hng:=neg_set F o.toNat (fat F v+1) (by omega) c.2 (by omega)
    have keep:∀ x:Int,0≤x→0≤fat F x→fat (F.set o.toNat (fat F v+1)) x=fat F x:=fun x hx hf=>by
      rw [hset x hx,if_neg (fun e=>by rw [e] at hf;omega)]
    have hvk:=keep v hv0 hv2
    refine ⟨F.set o.toNat (fat F v+1),[o],?_,⟨by rw [List.length_set];exact h1,fun x h0 hn=>?_,?_,fun q hq=>?_,?_,fun x h0 hn hx=>?_,fun x h0 hn q hq=>?_⟩,by simpa using hng,fun x h0 _ hx=>keep x h0 hx,fun _=>?_⟩
    · unfold visit
      rw [if_pos (by rw [ho];exact c),ho]
    · rw [hset x h0]
      by_cases e:x=o
      · subst e
        rw [if_pos rfl]
        obtain ⟨w1,w2⟩:=(h2 v hv0 hv1).2 hv2
        refine ⟨by omega,fun _=>⟨?_,by omega⟩⟩
        rw [show (fat F v+1).toNat=(fat F v).toNat+1 by omega]
        exact ⟨v,w1,adj⟩
      · rw [if_neg e]
        obtain ⟨a,b⟩:=h2 x h0 hn
        exact ⟨a,fun q=>⟨(b q).1,by have:=(b q).2;omega⟩⟩
    · rw [keep s hs.1 (by omega)];exact h3
    · rw [← List.cons_append] at hq
      rcases List.mem_append.1 hq with hq|hq
      · have:=h4 q hq
        rw [keep q this.1.1 this.2];exact this
      · simp only [List.mem_singleton] at hq
        subst hq
        rw [hset q ho0,if_pos rfl];exact ⟨⟨ho0,ho1⟩,by omega⟩
    · rw [← List.cons_append,List.pairwise_append]
      refine ⟨?_,by simp,fun a ha b hb=>?_⟩
      · refine h5.imp_of_mem (fun {a b} ha hb hab=>?_)
        rw [keep a (h4 a ha).1.1 (h4 a ha).2,keep b (h4 b hb).1.1 (h4 b hb).2];exact hab
      · simp only [List.mem_singleton] at hb
        subst hb
        rw [keep a (h4 a ha).1.1 (h4 a ha).2,hset b ho0,if_pos rfl]
        exact h7 a (h4 a ha).1.1 (h4 a ha).1.2 v (by simp)
    · rw [hset x h0] at hx
      by_cases e:x=o
      · subst e;exact Or.inl (by simp)
      · rw [if_neg e] at hx
        rcases h6 x h0 hn hx with m|m
        · exact Or.inl (by rw [← List.cons_append];exact List.mem_append.2 (Or.inl m))
        · refine Or.inr (fun u hu=>?_)
          obtain ⟨_,u0,u1⟩:=hu.ok hO
          have:=m u hu
          rw [keep u u0 this.1,keep x h0 hx];exact this
    · have hhead:∀ q ∈ v :: Q,fat F v≤fat F q:=by
        intro q hq
        rcases List.mem_cons.1 hq with e|e
        · rw [e];exact Int.le_refl _
        · exact (List.pairwise_cons.1 h5).1 q e
      rw [hset x h0]
      rw [← List.cons_append] at hq
      rcases List.mem_append.1 hq with hq|hq
      · rw [keep q (h4 q hq).1.1 (h4 q hq).2]
        split
        · have:=hhead q hq;omega
        · exact h7 x h0 hn q hq
      · simp only [List.mem_singleton] at hq
        subst hq
        rw [hset q ho0,if_pos rfl]
        split
        · omega
        · have:=h7 x h0 hn v (by simp);omega
    · rw [hset o ho0,if_pos rfl,hvk];omega
  · refine ⟨F,[],?_,by rw [List.append_nil];exact ⟨h1,h2,h3,h4,h5,h6,h7⟩,by simp,fun _ _ _ _=>rfl,fun q=>?_⟩
    · unfold visit;rw [if_neg c,List.append_nil]
    · have hr:0≤oth v p∧oth v p<(n:Int):=by
        obtain ⟨a,b⟩:=hO p hp
        unfold oth;split
        · exact b
        · exact a
      rcases Int.lt_or_le (fat F (oth v p)) 0 with z|z
      · exact absurd ⟨q,z⟩ c
      · exact ⟨z,h7 _ hr.1 hr.2 v (by simp)⟩
theorem visits {n:Nat} {O:List S80} {s:Int} (hO:OkO n O) (hs:0≤s∧s<(n:Int)) {v:Int}:∀ (L:List S80) (F Q:List Int),(∀ p ∈ L,p ∈ O)→BInv n O s F (v :: Q)→∃ (F' E:List Int),L.foldl (visit v) (F,v :: Q)=(F',v :: (Q++E))∧BInv n O s F' (v :: (Q++E))∧neg F' +E.length=neg F∧(∀ x:Int,0≤x→x<(n:Int)→0≤fat F x→fat F' x=fat F x)∧∀ p ∈ L,(v=p.f1∨v=p.f2)→0≤fat F' (oth v p)∧fat F' (oth v p)≤fat F' v+1
  |[],F,Q,_,h=>⟨F,[],by simp,by simpa using h,by simp,fun _ _ _ _=>rfl,by simp⟩
  |p :: L,F,Q,hL,h=>by
    obtain ⟨F1,E1,a1,a2,a3,a4,a5⟩:=visit_inv hO hs h (hL p (by simp))
    obtain ⟨F2,E2,b1,b2,b3,b4,b5⟩:=visits hO hs L F1 (Q++E1) (fun q hq=>hL q (by simp [hq])) a2
    have hv:=(h.2.2.2.1 v (by simp))
    have hv1:=a4 v hv.1.1 hv.1.2 hv.2
    refine ⟨F2,E1++E2,by rw [List.foldl_cons,a1,List.cons_append,b1,List.append_assoc],by rw [← List.append_assoc];exact b2,by rw [List.length_append];omega,fun x h0 hn hx=>?_,fun q hq=>?_⟩
    · have:=a4 x h0 hn hx
      rw [b4 x h0 hn (by omega),this]
    · rcases List.mem_cons.1 hq with e|e
      · subst e
        intro c
        have c2:=a5 c
        have hr:0≤oth v q∧oth v q<(n:Int):=by
          obtain ⟨a,b⟩:=hO q (hL q (by simp))
          unfold oth;split
          · exact b
          · exact a
        rw [b4 _ hr.1 hr.2 c2.1,b4 v hv.1.1 hv.1.2 (by omega)];exact c2
      · exact b5 q e
theorem pop {n:Nat} {O:List S80} {s:Int} (hO:OkO n O) (hs:0≤s∧s<(n:Int)) {v:Int} {F Q:List Int} (h:BInv n O s F (v :: Q)):∃ (F' E:List Int),O.foldl (visit v) (F,v :: Q)=(F',v :: (Q++E))∧BInv n O s F' (Q++E)∧neg F' +E.length=neg F:=by
  obtain ⟨F',E,a1,a2,a3,_,a5⟩:=visits hO hs O F Q (fun _ h=>h) h
  obtain ⟨h1,h2,h3,h4,h5,h6,h7⟩:=a2
  refine ⟨F',E,a1,⟨h1,h2,h3,fun q hq=>h4 q (by simp only [List.mem_cons];exact Or.inr hq),(List.pairwise_cons.1 h5).2,fun x h0 hn hx=>?_,fun x h0 hn q hq=>h7 x h0 hn q (by simp only [List.mem_cons];exact Or.inr hq)⟩,a3⟩
  rcases h6 x h0 hn hx with m|m
  · rcases List.mem_cons.1 m with e|e
    · subst e
      refine Or.inr (fun u hu=>?_)
      obtain ⟨p,hp,z|z⟩:=hu
      · have:=a5 p hp (Or.inl z.1.symm)
        rw [show oth x p=u from by unfold oth;rw [if_pos z.1.symm];exact z.2] at this;exact this
      · have:=a5 p hp (Or.inr z.1.symm)
        by_cases e:x=p.f1
        · rw [show oth x p=p.f2 from if_pos e,z.1] at this
          rw [← z.2,← e];exact this
        · rw [show oth x p=u from by unfold oth;rw [if_neg e];exact z.2] at this;exact this
    · exact Or.inl e
  · exact Or.inr m
theorem empty_right {n:Nat} {O:List S80} {s:Int} (hO:OkO n O) (hs:0≤s∧s<(n:Int)) {F:List Int} (h:BInv n O s F []):Right n O s F:=by
  obtain ⟨h1,h2,h3,h4,h5,h6,h7⟩:=h
  have all:∀ (d:Nat) (x:Int),Way O s d x→0≤fat F x∧fat F x≤(d:Int):=by
    intro d
    induction d with
    |zero=>
      intro x hw
      have e:x=s:=hw
      rw [e,h3];omega
    |succ d ih=>
      rintro x ⟨y,wy,ha⟩
      obtain ⟨⟨y0,y1⟩,x0,x1⟩:=ha.ok hO
      have hy:=ih y wy
      rcases h6 y y0 y1 hy.1 with m|m
      · simp at m
      · have:=m x ha;omega
  exact ⟨h1,fun x h0 hn=>⟨(h2 x h0 hn).1,fun q=>((h2 x h0 hn).2 q).1,fun d hw=>all d x hw⟩⟩

/-! The next node of a route. -/
def cnd (F:List Int) (v:Int) (p:S80):Prop:=(v=p.f1∨v=p.f2)∧fat F (oth v p)=fat F v - 1
instance (F:List Int) (v:Int) (p:S80):Decidable (cnd F v p):=by unfold cnd;infer_instance
def nrI (F:List Int) (v:Int) (y:Int) (p:S80):Int:=if cnd F v p then (if oth v p<y then oth v p else y) else y
def nrS (F:List Int) (v:Int) (x:Int) (p:S80):Int:=if cnd F v p∧(x<0∨oth v p<x) then oth v p else x
def NR (n:Nat) (F:List Int) (O:List S80) (v x y:Int):Prop:=(x= -1∧y=(n:Int))∨(x=y∧(0≤x∧x<(n:Int))∧fat F x=fat F v - 1∧Adj O v x)
theorem near_step {n:Nat} {O:List S80} (hO:OkO n O) {F:List Int} {v x y:Int} (h:NR n F O v x y) {p:S80} (hp:p ∈ O):NR n F O v (nrS F v x p) (nrI F v y p)∧(cnd F v p∨0≤x→0≤nrS F v x p):=by
  unfold nrI nrS
  by_cases c:cnd F v p
  · have adj:Adj O v (oth v p):=by
      unfold oth
      by_cases e:v=p.f1
      · rw [if_pos e];exact ⟨p,hp,Or.inl ⟨e.symm,rfl⟩⟩
      · rw [if_neg e]
        rcases c.1 with e2|e2
        · exact absurd e2 e
        · exact ⟨p,hp,Or.inr ⟨e2.symm,rfl⟩⟩
    obtain ⟨_,ho0,ho1⟩:=adj.ok hO
    have hf:=c.2
    rw [if_pos c]
    rcases h with ⟨h1,h2⟩|⟨h1,h2,h3⟩
    · rw [if_pos ⟨c,Or.inl (by omega)⟩,if_pos (by omega)]
      exact ⟨Or.inr ⟨rfl,⟨ho0,ho1⟩,hf,adj⟩,fun _=>ho0⟩
    · by_cases c2:oth v p<y
      · rw [if_pos ⟨c,Or.inr (by omega)⟩,if_pos c2]
        exact ⟨Or.inr ⟨rfl,⟨ho0,ho1⟩,hf,adj⟩,fun _=>ho0⟩
      · rw [if_neg (fun q=>by rcases q.2 with q|q<;>omega),if_neg c2]
        exact ⟨Or.inr ⟨h1,h2,h3⟩,fun _=>h2.1⟩
  · rw [if_neg c,if_neg (fun q=>c q.1)]
    refine ⟨h,fun q=>?_⟩
    rcases q with q|q
    · exact absurd q c
    · exact q
theorem near_fold {n:Nat} {O:List S80} (hO:OkO n O) {F:List Int} {v:Int}:∀ (L:List S80) (x y:Int),(∀ p ∈ L,p ∈ O)→NR n F O v x y→NR n F O v (L.foldl (nrS F v) x) (L.foldl (nrI F v) y)∧((0≤x∨∃ p ∈ L,cnd F v p)→0≤L.foldl (nrS F v) x)
  |[],x,y,_,h=>⟨h,fun q=>by rcases q with q|⟨p,hp,_⟩;exact q;simp at hp⟩
  |p :: L,x,y,hL,h=>by
    obtain ⟨a1,a2⟩:=near_step hO h (hL p (by simp))
    obtain ⟨b1,b2⟩:=near_fold hO L _ _ (fun q hq=>hL q (by simp [hq])) a1
    refine ⟨b1,fun q=>b2 ?_⟩
    rcases q with q|⟨z,hz,hc⟩
    · exact Or.inl (a2 (Or.inr q))
    · rcases List.mem_cons.1 hz with e|e
      · subst e;exact Or.inl (a2 (Or.inl hc))
      · exact Or.inr ⟨z,e,hc⟩
/-- There is a next node, and both find the same one. -/
theorem near_both {n:Nat} {O:List S80} {s:Int} (hO:OkO n O) (hs:0≤s∧s<(n:Int)) {F:List Int} (h:Right n O s F) {v:Int} (hv:0≤v∧v<(n:Int)) (hd:0<fat F v):O.foldl (nrS F v) (-1)=O.foldl (nrI F v) (n:Int)∧(0≤O.foldl (nrS F v) (-1)∧O.foldl (nrS F v) (-1)<(n:Int))∧fat F (O.foldl (nrS F v) (-1))=fat F v - 1:=by
  obtain ⟨_,w,_⟩:=h.2 v hv.1 hv.2
  have hw:=w (by omega)
  obtain ⟨d,hd2⟩:∃ d:Nat,(fat F v).toNat=d+1:=⟨(fat F v).toNat - 1,by omega⟩
  rw [hd2] at hw
  obtain ⟨y,wy,ha⟩:=hw
  obtain ⟨⟨y0,y1⟩,_⟩:=ha.ok hO
  obtain ⟨_,wy2,wy3⟩:=h.2 y y0 y1
  have hy:=wy3 d wy
  have hv3:=(h.2 v hv.1 hv.2).2.2 ((fat F y).toNat+1) ⟨y,wy2 hy.1,ha⟩
  have ex:∃ p ∈ O,cnd F v p:=by
    obtain ⟨p,hp,z⟩:=ha
    refine ⟨p,hp,?_⟩
    by_cases e:v=p.f1
    · -- the way back may be the other end
      rcases z with z|z
      · refine ⟨Or.inl e,?_⟩
        unfold oth
        rw [if_pos e]
        have:y=v:=by rw [← z.1,e]
        rw [this] at hv3 hy;omega
      · refine ⟨Or.inl e,?_⟩
        unfold oth
        rw [if_pos e,z.1];omega
    · rcases z with z|z
      · refine ⟨Or.inr z.2.symm,?_⟩
        unfold oth
        rw [if_neg e,z.1];omega
      · exact absurd z.2.symm e
  obtain ⟨b1,b2⟩:=near_fold hO (F:=F) (v:=v) O (-1) (n:Int) (fun _ h=>h) (Or.inl ⟨rfl,rfl⟩)
  have hp:=b2 (Or.inr ex)
  rcases b1 with ⟨q,_⟩|⟨q1,q2,q3,_⟩
  · omega
  · exact ⟨q1,q2,q3⟩

theorem markc_l0 (c0:Int) (hc0:0≤c0) (hc1:c0≤1000000000000000):∀ (d j k:Nat) (m:List Int) (c:Int),j+d=m.length→m.length≤35184372088832→d<k→c=c0+(j:Int)→(∀ i,i<j→m[i]? =some (c0+(i:Int)))→
    ∃ m',laws_markInt64S.l0 k m c (j:Int)=some (c0+(m.length:Int),m')∧m'.length=m.length∧∀ i,i<m'.length→m'[i]? =some (c0+(i:Int)):=by
  intro d
  induction d with
  |zero=>
    intro j k m c hj hl hk hc hp
    obtain ⟨k,rfl⟩:=suc_of hk
    simp only [laws_markInt64S.l0]
    rw [if_neg (by omega)]
    exact ⟨m,by rw [hc];congr 2;omega,rfl,fun i hi=>hp i (by omega)⟩
  |succ d ih=>
    intro j k m c hj hl hk hc hp
    obtain ⟨k,rfl⟩:=suc_of hk
    simp only [laws_markInt64S.l0]
    rw [if_pos (by omega),if_pos (by omega),next_nat (n:=m.length) (by omega) (by omega),wrap_id (x:=c+1) (by omega) (by omega),Int.toNat_natCast]
    obtain ⟨m',h1,h2,h3⟩:=ih (j+1) k (m.set j c) (c+1) (by simp;omega) (by simpa using hl) (by omega) (by omega) (fun i hi=>by
      rw [List.getElem?_set]
      by_cases e:j=i
      · subst e;rw [if_pos rfl,if_pos (by omega),hc]
      · rw [if_neg e];exact hp i (by omega))
    exact ⟨m',by rw [h1];simp,by simpa using h2,h3⟩
theorem heldc_l0 (c0:Int) (hc0:0≤c0) (hc1:c0≤1000000000000000) (m:List Int) (hl:m.length≤35184372088832) (hm:∀ i,i<m.length→m[i]? =some (c0+(i:Int))):∀ (d j k:Nat) (c:Int),j+d=m.length→d<k→c=c0+(j:Int)→laws_heldInt64S.l0 k m c (j:Int)=some (c0+(m.length:Int)):=by
  intro d
  induction d with
  |zero=>
    intro j k c hj hk hc
    obtain ⟨k,rfl⟩:=suc_of hk
    simp only [laws_heldInt64S.l0]
    rw [if_neg (by omega)]
    congr 1;omega
  |succ d ih=>
    intro j k c hj hk hc
    obtain ⟨k,rfl⟩:=suc_of hk
    simp only [laws_heldInt64S.l0]
    have e:rd m (j:Int)=c:=by
      rw [rd_nat,List.getD_eq_getElem?_getD,hm j (by omega),hc];rfl
    rw [if_pos (by omega),if_pos (by omega),if_pos e,next_nat (n:=m.length) (by omega) (by omega),wrap_id (x:=c+1) (by omega) (by omega)]
    exact ih (j+1) k (c+1) (by omega) (by omega) (by omega)
theorem markc_held (l:List Int) (c0:Int) (hc0:0≤c0) (hc1:c0≤1000000000000000) (hl:l.length≤35184372088832) (k:Nat) (hk:l.length<k):∃ m',laws_markInt64S.f k l c0=some (c0+(l.length:Int),m')∧m'.length=l.length∧(∀ k',l.length<k'→laws_heldInt64S.f k' m' c0=some (c0+(l.length:Int))):=by
  obtain ⟨m',h1,h2,h3⟩:=markc_l0 c0 hc0 hc1 l.length 0 k l c0 (by omega) hl hk (by omega) (fun i hi=>absurd hi (by omega))
  refine ⟨m',h1,h2,fun k' hk'=>?_⟩
  have:=heldc_l0 c0 hc0 hc1 m' (by omega) h3 m'.length 0 k' c0 (by omega) (by omega) (by omega)
  rw [h2] at this
  exact this

theorem markText_l0:∀ (d:Nat) (x:Int) (s:ByteArray) (k:Nat),0≤x→x≤1000000000000000→x<10 ^ d→d<k→s.size+d≤1000→∃ r,laws_markText.l0 k x s=some r:=by
  intro d
  induction d with
  |zero=>
    intro x s k h0 hb h1 hk hs
    obtain ⟨k,rfl⟩:=suc_of hk
    simp only [laws_markText.l0]
    have:x=0:=by simp at h1;omega
    rw [if_neg (by omega),if_pos (by omega)];exact ⟨_,rfl⟩
  |succ d ih=>
    intro x s k h0 hb h1 hk hs
    obtain ⟨k,rfl⟩:=suc_of hk
    simp only [laws_markText.l0]
    by_cases c:x > 0
    · rw [if_pos c,Option.bind_some]
      have e:∀ n:Int,(strOfNums [n]).size=1:=fun n=>rfl
      have h10:Int.tdiv x 10=x / 10:=Int.tdiv_eq_ediv_of_nonneg h0
      have hp:(10:Int) ^ (d+1)=10 ^ d * 10:=Int.pow_succ 10 d
      rw [hp] at h1
      rw [e,if_pos (by omega),h10,wrap_id (x:=x / 10) (by omega) (by omega)]
      refine ih (x / 10) _ k (by omega) (by omega) (by omega) (by omega) ?_
      rw [ByteArray.size_append,e];omega
    · rw [if_neg c,if_pos (by omega)];exact ⟨_,rfl⟩
theorem markText (x:Int) (hb:x≤1000000000000000) (k:Nat) (hk:20<k):∃ r,laws_markText.f k x=some r:=by
  unfold laws_markText.f
  by_cases c:x≤0
  · rw [if_pos c];exact ⟨_,rfl⟩
  · rw [if_neg c]
    exact markText_l0 20 x _ k (by omega) hb (by omega) hk (by decide)
theorem markPipes_l0:∀ (d j k:Nat) (m:List S80) (c:Int),j+d=m.length→m.length≤1048576→30+d<k→0≤c→c+6 * (d:Int)≤1000000000→∃ m',laws_markPipeS.l0 k m c (j:Int)=some (c+6 * (d:Int),m'):=by
  intro d
  induction d with
  |zero=>
    intro j k m c hj hl hk h0 h1
    obtain ⟨k,rfl⟩:=suc_of hk
    simp only [laws_markPipeS.l0]
    rw [if_neg (by omega)]
    exact ⟨m,by congr 2;omega⟩
  |succ d ih=>
    intro j k m c hj hl hk h0 h1
    obtain ⟨k,rfl⟩:=suc_of hk
    obtain ⟨t,ht⟩:=markText c (by omega) k (by omega)
    simp only [laws_markPipeS.l0]
    rw [if_pos (by omega),ht,Option.bind_some,if_pos (by omega)]
    simp only [Option.bind_some]
    rw [wrap_id (x:=c+1) (by omega) (by omega),wrap_id (x:=c+1+1) (by omega) (by omega),wrap_id (x:=c+1+1+1) (by omega) (by omega),wrap_id (x:=c+1+1+1+1) (by omega) (by omega),wrap_id (x:=c+1+1+1+1+1) (by omega) (by omega),wrap_id (x:=c+1+1+1+1+1+1) (by omega) (by omega),next_nat (n:=m.length) (by omega) (by omega)]
    rw [show c+6 * ((d+1:Nat):Int)=c+1+1+1+1+1+1+6 * (d:Int) by omega]
    exact ih (j+1) k _ _ (by simp only [List.length_set];omega) (by simp only [List.length_set];omega) (by omega) (by omega) (by omega)
theorem markNet (N:List Int) (P:List S80) (hN:N.length≤1048576) (hP:P.length≤1048576) (k:Nat) (hk:1048700<k):∃ N' P',laws_markNetwork.f k N P 1=some (1+(N.length:Int)+6 * (P.length:Int),N',P'):=by
  unfold laws_markNetwork.f laws_markPipeS.f
  obtain ⟨m1,a1,_,_⟩:=markc_held N 1 (by omega) (by omega) (by omega) k (by omega)
  obtain ⟨m2,a2⟩:=markPipes_l0 P.length 0 k P (1+(N.length:Int)) (by omega) (by omega) (by omega) (by omega) (by omega)
  rw [a1,Option.bind_some]
  rw [show ((0:Nat):Int)=0 from rfl] at a2
  simp only [a2,Option.bind_some]
  exact ⟨_,_,rfl⟩

theorem rd_fat (F:List Int) (x:Int):rd F x=fat F x:=rfl
theorem stepF_len (r:Nat) (F:List Int) (p:S80):(stepF r F p).length=F.length:=by
  have:∀ (F:List Int) (a b:Int),(lab r F a b).length=F.length:=fun F a b=>by
    unfold lab;split
    · rw [List.length_set]
    · rfl
  unfold stepF
  rw [this,this]
theorem neg_one (n:Nat) (F:List Int) (hl:F.length=n) (h:∀ x,x<n→F.getD x 0= -1):F=List.replicate n (-1):=by
  refine List.ext_getElem (by rw [List.length_replicate];exact hl) (fun i h1 h2=>?_)
  have:=h i (by omega)
  rw [getD_lt h1] at this
  rw [this,List.getElem_replicate]
theorem setF_get (F:List Int) (i x:Nat) (v:Int) (hi:i<F.length):(F.set i v).getD x 0=if i=x then v else F.getD x 0:=by
  rw [List.getD_eq_getElem?_getD,List.getElem?_set,List.getD_eq_getElem?_getD]
  by_cases e:i=x
  · rw [if_pos e,if_pos e,if_pos hi];rfl
  · rw [if_neg e,if_neg e]
def F0 (n:Nat) (v:Int):List Int:=(List.replicate n (-1)).set v.toNat 0
theorem F0_len (n:Nat) (v:Int):(F0 n v).length=n:=by unfold F0;rw [List.length_set,List.length_replicate]
theorem F0_fat {n:Nat} {v:Int} (hv:0≤v∧v<(n:Int)) {x:Int} (h0:0≤x) (hn:x<(n:Int)):fat (F0 n v) x=if x=v then 0 else -1:=by
  unfold F0
  rw [fat_set ⟨hv.1,by rw [List.length_replicate];omega⟩ h0]
  by_cases e:x=v
  · rw [if_pos e,if_pos e]
  · rw [if_neg e,if_neg e]
    unfold fat
    rw [getD_lt (by rw [List.length_replicate];omega),List.getElem_replicate]
theorem F0_inv {n:Nat} {O:List S80} {v:Int} (hv:0≤v∧v<(n:Int)):Inv1 n O v 0 (F0 n v):=by
  refine ⟨⟨F0_len n v,fun x h0 hn=>?_⟩,fun x h0 hn=>?_⟩
  · rw [F0_fat hv h0 hn]
    by_cases e:x=v
    · rw [if_pos e]
      refine ⟨by omega,fun _=>⟨e,fun e _=>by omega⟩,fun q=>by omega⟩
    · rw [if_neg e]
      refine ⟨by omega,fun q=>by omega,fun _ d hd hw=>?_⟩
      have:d=0:=by omega
      subst this
      exact e hw
  · rw [F0_fat hv h0 hn]
    split<;>omega
theorem neg_rep:∀ n:Nat,neg (List.replicate n (-1))=n:=by
  intro n
  unfold neg
  induction n with
  |zero=>rfl
  |succ n ih=>rw [List.replicate_succ,List.countP_cons,ih,if_pos (by decide)]
theorem F0_binv {n:Nat} {O:List S80} {v:Int} (hv:0≤v∧v<(n:Int)):BInv n O v (F0 n v) [v]∧neg (F0 n v)+1=n:=by
  have hng:neg (F0 n v)+1=n:=by
    have:=neg_set (List.replicate n (-1)) v.toNat 0 (by rw [List.length_replicate];omega) (by rw [getD_lt (by rw [List.length_replicate];omega),List.getElem_replicate];omega) (by omega)
    rw [neg_rep] at this
    exact this
  refine ⟨⟨F0_len n v,fun x h0 hn=>?_,?_,fun q hq=>?_,by simp,fun x h0 hn hx=>?_,fun x h0 hn q hq=>?_⟩,hng⟩
  · rw [F0_fat hv h0 hn]
    by_cases e:x=v
    · rw [if_pos e];exact ⟨by omega,fun _=>⟨e,by omega⟩⟩
    · rw [if_neg e];exact ⟨by omega,fun q=>by omega⟩
  · rw [F0_fat hv hv.1 hv.2,if_pos rfl]
  · rw [List.mem_singleton.1 hq]
    exact ⟨hv,by rw [F0_fat hv hv.1 hv.2,if_pos rfl];omega⟩
  · rw [F0_fat hv h0 hn] at hx
    by_cases e:x=v
    · exact Or.inl (by simp [e])
    · rw [if_neg e] at hx;omega
  · rw [List.mem_singleton.1 hq,F0_fat hv h0 hn,F0_fat hv hv.1 hv.2,if_pos rfl]
    split<;>omega
/-! The reference's labels. -/
theorem sp_l0 (N:List Int) (P:List S80) (S C:List Int) (v:Int) (hn:N.length≤16) (hv:0≤v∧v<(N.length:Int)) (R:Option (List Int × Int)) (K:Nat) (hR:∀ k,K<k→spec_RouteTo.l1 k S C v (F0 N.length v) 0 N P=R):∀ (d j:Nat) (F:List Int),j+d=N.length→F.length=N.length→(∀ x,x<j→F.getD x 0= -1)→∀ k,K+d+1<k→spec_RouteTo.l0 k S C v F (j:Int) N P=R:=by
  intro d
  induction d with
  |zero=>
    intro j F hj hF hx k hk
    obtain ⟨k,rfl⟩:=suc_of hk
    simp only [spec_RouteTo.l0]
    rw [if_neg (by omega),if_pos hv.1,if_pos (by omega),neg_one N.length F hF (fun x h=>hx x (by omega))]
    exact hR k (by omega)
  |succ d ih=>
    intro j F hj hF hx k hk
    obtain ⟨k,rfl⟩:=suc_of hk
    simp only [spec_RouteTo.l0]
    rw [if_pos (by omega),if_pos (by omega),next_nat (n:=17) (by omega) (by omega),Int.toNat_natCast]
    refine ih (j+1) _ (by omega) (by rw [List.length_set];exact hF) (fun x h=>?_) k (by omega)
    rw [setF_get _ _ _ _ (by omega)]
    by_cases e:j=x
    · rw [if_pos e]
    · rw [if_neg e];exact hx x (by omega)
theorem sp_l2 (N:List Int) (P:List S80) (S C:List Int) (v:Int) (hE:Ends N.length P) (hC:C.length≤1048576) (r:Nat) (hr:r≤16) (R:Option (List Int × Int)) (K:Nat) (hK:1048600≤K):∀ (d j:Nat) (F:List Int),j+d=P.length→F.length=N.length→(∀ k,K<k→spec_RouteTo.l1 k S C v ((opn P C d j).foldl (stepF r) F) ((r+1:Nat):Int) N P=R)→∀ k,K+4 * d+1<k→spec_RouteTo.l2 k S C v F (r:Int) (j:Int) N P=R:=by
  have h20:=hE.1
  intro d
  induction d with
  |zero=>
    intro j F hj hF hR k hk
    obtain ⟨k,rfl⟩:=suc_of hk
    simp only [spec_RouteTo.l2]
    rw [if_neg (by omega),next_nat (n:=17) (by omega) (by omega)]
    exact hR k (by omega)
  |succ d ih=>
    intro j F hj hF hR k hk
    obtain ⟨⟨e0,e1⟩,g0,g1⟩:=hE.2.2.2 j (by omega)
    obtain ⟨k,rfl⟩:∃ m,k=m+1+1+1+1:=⟨k - 4,by omega⟩
    have nx:Unit→wrap64 ((j:Int)+1)=((j+1:Nat):Int):=fun _=>next_nat (n:=21) (by omega) (by omega)
    have rx:Unit→wrap64 ((r:Int)+1)=(r:Int)+1:=fun _=>wrap_id (by omega) (by omega)
    have rp:∀ i:Nat,rd_T80 P (i:Int)=pat P i:=fun _=>rfl
    rw [opn_s] at hR
    have step:spec_RouteTo.l2 (k+1+1+1+1) S C v F (r:Int) (j:Int) N P=if decide ((j:Int) ∈ C)=true then spec_RouteTo.l2 (k+1+1+1) S C v F (r:Int) ((j+1:Nat):Int) N P else spec_RouteTo.l2 k S C v (stepF r F (pat P j)) (r:Int) ((j+1:Nat):Int) N P:=by
      have s5:∀ (G:List Int) (b:Bool),G.length=N.length→spec_RouteTo.j5 (k+1) S C v G (r:Int) (j:Int) b N P=if b=true then spec_RouteTo.l2 k S C v (G.set (pat P j).f1.toNat ((r:Int)+1)) (r:Int) ((j+1:Nat):Int) N P else spec_RouteTo.l2 k S C v G (r:Int) ((j+1:Nat):Int) N P:=fun G b hG=>by
        rw [spec_RouteTo.j5.eq_def]
        simp only [rp]
        rw [if_pos (show (0:Int)≤(j:Int) by omega),if_pos (show (j:Int)<(P.length:Int) by omega),if_pos e0,if_pos (show (pat P j).f1<(G.length:Int) by omega),rx (),nx ()]
      have s4:∀ (G:List Int),G.length=N.length→spec_RouteTo.j4 (k+1+1) S C v G (r:Int) (j:Int) N P=spec_RouteTo.l2 k S C v (lab r G (pat P j).f2 (pat P j).f1) (r:Int) ((j+1:Nat):Int) N P:=fun G hG=>by
        rw [spec_RouteTo.j4.eq_def]
        simp only [rp,rd_fat]
        rw [if_pos (show (0:Int)≤(j:Int) by omega),if_pos (show (j:Int)<(P.length:Int) by omega),if_pos g0,if_pos (show (pat P j).f2<(G.length:Int) by omega),if_pos e0,if_pos (show (pat P j).f1<(G.length:Int) by omega),s5 G _ hG,s5 G _ hG,if_neg Bool.false_ne_true]
        unfold lab
        by_cases c1:fat G (pat P j).f2=(r:Int)
        · rw [if_pos c1]
          by_cases c2:fat G (pat P j).f1<0
          · rw [decide_eq_true c2,if_pos rfl,if_pos ⟨c1,c2⟩]
          · rw [decide_eq_false c2,if_neg Bool.false_ne_true,if_neg (fun q=>c2 q.2)]
        · rw [if_neg c1,if_neg (fun q=>c1 q.1)]
      have s3:∀ (b:Bool),spec_RouteTo.j3 (k+1+1+1) S C v F (r:Int) (j:Int) b N P=spec_RouteTo.j4 (k+1+1) S C v (if b=true then F.set (pat P j).f2.toNat ((r:Int)+1) else F) (r:Int) (j:Int) N P:=fun b=>by
        rw [spec_RouteTo.j3.eq_def]
        simp only [rp]
        rw [if_pos (show (0:Int)≤(j:Int) by omega),if_pos (show (j:Int)<(P.length:Int) by omega),if_pos g0,if_pos (show (pat P j).f2<(F.length:Int) by omega),rx ()]
        cases b
        · rw [if_neg Bool.false_ne_true,if_neg Bool.false_ne_true]
        · rw [if_pos rfl,if_pos rfl]
      have fin:∀ b:Bool,(if b=true then F.set (pat P j).f2.toNat ((r:Int)+1) else F)=lab r F (pat P j).f1 (pat P j).f2→spec_RouteTo.j3 (k+1+1+1) S C v F (r:Int) (j:Int) b N P=spec_RouteTo.l2 k S C v (stepF r F (pat P j)) (r:Int) ((j+1:Nat):Int) N P:=fun b hb=>by
        rw [s3,hb,s4 _ (by
          unfold lab
          split
          · rw [List.length_set];exact hF
          · exact hF)]
        rfl
      rw [spec_RouteTo.l2.eq_def]
      simp only [rp,rd_fat]
      rw [if_pos (show (j:Int)<(P.length:Int) by omega),if_pos (show (0:Int)≤(j:Int) by omega),spec_has C (by omega) _ (k+1+1+1) (by omega),Option.bind_some,nx (),if_pos e0,if_pos (show (pat P j).f1<(F.length:Int) by omega),if_pos g0,if_pos (show (pat P j).f2<(F.length:Int) by omega)]
      by_cases c:decide ((j:Int) ∈ C)=true
      · rw [if_pos c,if_pos c]
      · rw [if_neg c,if_neg c]
        by_cases c1:fat F (pat P j).f1=(r:Int)
        · rw [if_pos c1]
          refine fin _ ?_
          unfold lab
          by_cases c2:fat F (pat P j).f2<0
          · rw [decide_eq_true c2,if_pos rfl,if_pos ⟨c1,c2⟩]
          · rw [decide_eq_false c2,if_neg Bool.false_ne_true,if_neg (fun q=>c2 q.2)]
        · rw [if_neg c1]
          refine fin _ ?_
          unfold lab
          rw [if_neg Bool.false_ne_true,if_neg (fun q=>c1 q.1)]
    rw [step]
    by_cases c:decide ((j:Int) ∈ C)=true
    · rw [if_pos c]
      refine ih (j+1) F (by omega) hF (fun k hk=>?_) (k+1+1+1) (by omega)
      have:=hR k hk
      rw [if_pos c,List.nil_append] at this
      exact this
    · rw [if_neg c]
      refine ih (j+1) _ (by omega) (by rw [stepF_len];exact hF) (fun k hk=>?_) k (by omega)
      have:=hR k hk
      rw [if_neg c] at this
      exact this
theorem sp_l1 (N:List Int) (P:List S80) (S C:List Int) (v:Int) (hE:Ends N.length P) (hC:C.length≤1048576) (hv:0≤v∧v<(N.length:Int)):∀ (e r:Nat) (F:List Int),r+e=N.length→Inv1 N.length (opn P C P.length 0) v r F→∃ G,Right N.length (opn P C P.length 0) v G∧(∀ x:Int,0≤x→x<(N.length:Int)→fat G x≤16)∧∀ (R:Option (List Int × Int)) (K:Nat),1048600≤K→(∀ k,K<k→spec_RouteTo.l3 k S C v G (-1) 0 N P=R)→∀ k,K+100 * e+1<k→spec_RouteTo.l1 k S C v F (r:Int) N P=R:=by
  have h20:=hE.1
  have h16:=hE.2.2.1
  have hO:=opn_ok hE C P.length 0 (by omega)
  intro e
  induction e with
  |zero=>
    intro r F hr hF
    have e:r=N.length:=by omega
    subst e
    have hl:=hF.1.1
    refine ⟨F,inv_right hO hv hF,fun x h0 hn=>by have:=hF.2 x h0 hn;omega,fun R K _ hR k hk=>?_⟩
    obtain ⟨k,rfl⟩:=suc_of hk
    simp only [spec_RouteTo.l1]
    rw [if_neg (by omega)]
    exact hR k (by omega)
  |succ e ih=>
    intro r F hr hF
    have hl:=hF.1.1
    obtain ⟨G,g1,g2,g3⟩:=ih (r+1) _ (by omega) (round_inv hO hF)
    refine ⟨G,g1,g2,fun R K hK hR k hk=>?_⟩
    obtain ⟨k,rfl⟩:=suc_of hk
    simp only [spec_RouteTo.l1]
    rw [if_pos (by omega)]
    have:=sp_l2 N P S C v hE hC r (by omega) R (K+100 * e+1) (by omega) P.length 0 F (by omega) hl (fun k hk=>g3 R K hK hR k hk) k (by omega)
    exact this
/-! The program's search. -/
theorem other_eq (p:S80) (v:Int):impl_Pipe_other.f p.f0 p.f1 p.f2 p.f3 p.f4 p.f5 v=if v=p.f1∨v=p.f2 then some (oth v p,true) else some (0,false):=by
  unfold impl_Pipe_other.f oth
  by_cases c1:v=p.f1
  · rw [if_pos c1,if_pos (Or.inl c1),if_pos c1]
  · rw [if_neg c1]
    by_cases c2:v=p.f2
    · rw [if_pos c2,if_pos (Or.inr c2),if_neg c1]
    · rw [if_neg c2,if_neg (fun q=>q.elim c1 c2)]
theorem oth_ok {n:Nat} {O:List S80} (hO:OkO n O) {p:S80} (hp:p ∈ O) (v:Int):0≤oth v p∧oth v p<(n:Int):=by
  obtain ⟨a,b⟩:=hO p hp
  unfold oth;split
  · exact b
  · exact a
theorem im_l2 (N:List Int) (O:List S80) (hn:N.length≤16) (hO:OkO N.length O) (h20:O.length≤20) (s:Int) (hs:0≤s∧s<(N.length:Int)) (v:Int) (R:Option (List Int)) (K:Nat) (F' Q':List Int) (hR:∀ k,K<k→impl_Network_distances.l1 k F' Q' N O=R):∀ (d j:Nat) (F Q:List Int),j+d=O.length→BInv N.length O s F (v :: Q)→neg F+Q.length≤100→(O.drop j).foldl (visit v) (F,v :: Q)=(F',v :: Q')→∀ k,K+d+1<k→impl_Network_distances.l2 k F (v :: Q) O (O.length:Int) (j:Int) N O=R:=by
  intro d
  induction d with
  |zero=>
    intro j F Q hj hB hq hf k hk
    obtain ⟨k,rfl⟩:=suc_of hk
    rw [List.drop_eq_nil_of_le (by omega)] at hf
    have hf2:(F,v :: Q)=(F',v :: Q'):=hf
    injection hf2 with h1 h2
    injection h2 with _ h2
    subst h1;subst h2
    simp only [impl_Network_distances.l2]
    rw [if_neg (by omega),if_pos (by simp;omega)]
    exact hR k (by omega)
  |succ d ih=>
    intro j F Q hj hB hq hf k hk
    obtain ⟨k,rfl⟩:=suc_of hk
    have hjl:j<O.length:=by omega
    have hp:O.getD j z80 ∈ O:=by rw [getD_lt hjl];exact List.getElem_mem _
    rw [drop_cons O hjl z80,List.foldl_cons] at hf
    obtain ⟨F1,E1,a1,a2,a3,a4,a5⟩:=visit_inv hO hs hB hp
    have hvb:=hB.2.2.2.1 v (by simp)
    have hvl:=(hB.2.1 v hvb.1.1 hvb.1.2).2 hvb.2
    have hFl:=hB.1
    rw [a1] at hf
    have hr:=ih (j+1) F1 (Q++E1) (by omega) a2 (by rw [List.length_append];omega) (by rw [List.cons_append] at hf;exact hf) k (by omega)
    rw [← List.cons_append] at hr
    have hol:=oth_ok hO hp v
    have wv:Unit→wrap64 (fat F v+1)=fat F v+1:=fun _=>wrap_id (by omega) (by omega)
    have rp:rd_T80 O (j:Int)=pat O j:=rfl
    have pe:O.getD j z80=pat O j:=rfl
    rw [pe] at a1 hol hp
    simp only [impl_Network_distances.l2,rp,show rd (v :: Q) 0=v from rfl,rd_fat]
    rw [if_pos (show (j:Int)<(O.length:Int) by omega),if_pos (show (0:Int)≤(j:Int) by omega),if_pos (show (j:Int)<(O.length:Int) by omega),if_pos (show (0:Int)<((v :: Q).length:Int) by rw [List.length_cons];omega),other_eq,next_nat (n:=21) (by omega) (by omega)]
    unfold visit at a1
    by_cases c:v=(pat O j).f1∨v=(pat O j).f2
    · rw [if_pos c,Option.bind_some]
      simp only []
      rw [if_pos trivial,if_pos hol.1,if_pos (by omega)]
      by_cases c2:fat F (oth v (pat O j))<0
      · rw [if_pos ⟨c,c2⟩] at a1
        injection a1 with b1 b2
        simp only [] at b1 b2
        rw [if_pos c2,if_pos hvb.1.1,if_pos (by omega),if_pos (show (v :: Q).length<17592186044416 by rw [List.length_cons];omega),wv (),b1,b2]
        exact hr
      · rw [if_neg (fun q=>c2 q.2)] at a1
        injection a1 with b1 b2
        rw [if_neg c2]
        rw [← b1,← b2] at hr
        exact hr
    · rw [if_neg (fun q=>c q.1)] at a1
      injection a1 with b1 b2
      rw [← b1,← b2] at hr
      rw [if_neg c,Option.bind_some]
      simp only []
      first|rw [if_neg Bool.false_ne_true]|rw [if_neg (fun h=>h)]
      exact hr
theorem im_l1 (N:List Int) (O:List S80) (hn:N.length≤16) (hO:OkO N.length O) (h20:O.length≤20) (s:Int) (hs:0≤s∧s<(N.length:Int)):∀ (m:Nat) (F Q:List Int),neg F+Q.length≤m→m≤100→BInv N.length O s F Q→∃ G,Right N.length O s G∧∀ k,30 * m+5<k→impl_Network_distances.l1 k F Q N O=some G:=by
  intro m
  induction m with
  |zero=>
    intro F Q hq _ hB
    have e:Q=[]:=List.length_eq_zero_iff.1 (by omega)
    subst e
    refine ⟨F,empty_right hO hs hB,fun k hk=>?_⟩
    obtain ⟨k,rfl⟩:=suc_of hk
    simp only [impl_Network_distances.l1]
    rw [if_neg (by simp)]
  |succ m ih=>
    intro F Q hq hm hB
    cases Q with
    |nil=>
      refine ⟨F,empty_right hO hs hB,fun k hk=>?_⟩
      obtain ⟨k,rfl⟩:=suc_of hk
      simp only [impl_Network_distances.l1]
      rw [if_neg (by simp)]
    |cons v Q=>
      simp only [List.length_cons] at hq
      obtain ⟨F',E,p1,p2,p3⟩:=pop hO hs hB
      obtain ⟨G,g1,g2⟩:=ih F' (Q++E) (by rw [List.length_append];omega) (by omega) p2
      refine ⟨G,g1,fun k hk=>?_⟩
      obtain ⟨k,rfl⟩:=suc_of hk
      simp only [impl_Network_distances.l1]
      rw [if_pos (by rw [List.length_cons];omega)]
      have:=im_l2 N O hn hO h20 s hs v (some G) (30 * m+5) F' (Q++E) g2 O.length 0 F Q (by omega) hB (by omega) (by rw [List.drop_zero];exact p1) k (by omega)
      exact this
theorem im_l0 (N:List Int) (O:List S80) (v:Int) (hn:N.length≤16) (hv:0≤v∧v<(N.length:Int)) (R:Option (List Int)) (K:Nat) (hR:∀ k,K<k→impl_Network_distances.l1 k (F0 N.length v) [v] N O=R):∀ (d j:Nat) (F:List Int),j+d=N.length→F.length=N.length→(∀ x,x<j→F.getD x 0= -1)→∀ k,K+d+1<k→impl_Network_distances.l0 k v F (N.length:Int) (j:Int) N O=R:=by
  intro d
  induction d with
  |zero=>
    intro j F hj hF hx k hk
    obtain ⟨k,rfl⟩:=suc_of hk
    simp only [impl_Network_distances.l0]
    rw [if_neg (by omega),if_pos hv.1,if_pos (by omega),neg_one N.length F hF (fun x h=>hx x (by omega))]
    exact hR k (by omega)
  |succ d ih=>
    intro j F hj hF hx k hk
    obtain ⟨k,rfl⟩:=suc_of hk
    simp only [impl_Network_distances.l0]
    rw [if_pos (by omega),if_pos (by omega),if_pos (by omega),next_nat (n:=17) (by omega) (by omega),Int.toNat_natCast]
    refine ih (j+1) _ (by omega) (by rw [List.length_set];exact hF) (fun x h=>?_) k (by omega)
    rw [setF_get _ _ _ _ (by omega)]
    by_cases e:j=x
    · rw [if_pos e]
    · rw [if_neg e];exact hx x (by omega)
theorem im_dist (N:List Int) (O:List S80) (v:Int) (h1:1≤N.length) (hn:N.length≤16) (hO:OkO N.length O) (h20:O.length≤20) (hv:0≤v∧v<(N.length:Int)):∃ G,Right N.length O v G∧∀ k,1000<k→impl_Network_distances.f k N O v=some G:=by
  obtain ⟨b1,b2⟩:=F0_binv (O:=O) hv
  obtain ⟨G,g1,g2⟩:=im_l1 N O hn hO h20 v hv 16 (F0 N.length v) [v] (by simp;omega) (by omega) b1
  refine ⟨G,g1,fun k hk=>?_⟩
  unfold impl_Network_distances.f
  rw [if_pos (by omega),if_pos (by omega),Option.bind_some,Int.toNat_natCast,List.length_replicate]
  exact im_l0 N O v hn hv (some G) 600 (fun k hk=>g2 k (by omega)) N.length 0 _ (by omega) (by simp) (fun x h=>absurd h (by omega)) k (by omega)
/-! The open network. -/
theorem im_open (N:List Int) (P:List S80) (S C:List Int) (v:Int) (h20:P.length≤20) (hC:C.length≤1048576) (R:Option (List Int × Int)) (K:Nat) (hK:1048600≤K):∀ (d j:Nat) (A:List S80),j+d=P.length→A.length≤j→(∀ k,K<k→(impl_Network_distances.f k N (A++opn P C d j) v).bind (fun t=>impl_RouteTo.l1 k v t (-1) S (S.length:Int) 0 N P N (A++opn P C d j))=R)→∀ k,K+d+1<k→impl_RouteTo.l0 k S C v P (P.length:Int) (j:Int) N P N A=R:=by
  intro d
  induction d with
  |zero=>
    intro j A hj hA hR k hk
    obtain ⟨k,rfl⟩:=suc_of hk
    simp only [impl_RouteTo.l0]
    rw [if_neg (by omega)]
    have:=hR k (by omega)
    rw [show opn P C 0 j=[] from rfl,List.append_nil] at this
    exact this
  |succ d ih=>
    intro j A hj hA hR k hk
    obtain ⟨k,rfl⟩:=suc_of hk
    rw [opn_s] at hR
    simp only [impl_RouteTo.l0,show ∀ i:Nat,rd_T80 P (i:Int)=pat P i from fun _=>rfl]
    rw [if_pos (show (j:Int)<(P.length:Int) by omega),if_pos (show (0:Int)≤(j:Int) by omega),if_pos (show (j:Int)<(P.length:Int) by omega),impl_has C (by omega) _ k (by omega),Option.bind_some,next_nat (n:=21) (by omega) (by omega),if_pos (show A.length<2513169434916 by omega)]
    by_cases c:decide ((j:Int) ∈ C)=true
    · rw [if_pos c]
      refine ih (j+1) A (by omega) (by omega) (fun k hk=>?_) k (by omega)
      have:=hR k hk
      rw [if_pos c,List.nil_append] at this
      exact this
    · rw [if_neg c]
      refine ih (j+1) _ (by omega) (by rw [List.length_append];simp;omega) (fun k hk=>?_) k (by omega)
      have:=hR k hk
      rw [if_neg c,← List.append_assoc] at this
      exact this
/-! The nearest source. -/
def okb (n:Nat) (F:List Int) (b:Int):Prop:=b= -1∨((0≤b∧b<(n:Int))∧0≤fat F b)
theorem best_both (N:List Int) (P O:List S80) (S C:List Int) (v:Int) (F:List Int) (hF:F.length=N.length) (hS:S.length≤1048576) (hr:∀ x ∈ S,0≤x∧x<(N.length:Int)):∀ (d j:Nat) (b:Int),j+d=S.length→okb N.length F b→∃ b',okb N.length F b'∧(∀ (R:Option (List Int × Int)) (K:Nat),(∀ k,K<k→(if b' <0 then some (([]:List Int),(3:Int)) else spec_RouteTo.l4 k C v F b' [b'] N P)=R)→∀ k,K+2 * d+1<k→spec_RouteTo.l3 k S C v F b (j:Int) N P=R)∧∀ (R:Option (List Int × Int)) (K:Nat),(∀ k,K<k→(if b' <0 then some (([]:List Int),(3:Int)) else impl_RouteTo.l2 k v F [b'] b' N P N O)=R)→∀ k,K+2 * d+1<k→impl_RouteTo.l1 k v F b S (S.length:Int) (j:Int) N P N O=R:=by
  intro d
  induction d with
  |zero=>
    intro j b hj hb
    refine ⟨b,hb,fun R K hR k hk=>?_,fun R K hR k hk=>?_⟩
    · obtain ⟨k,rfl⟩:=suc_of hk
      simp only [spec_RouteTo.l3]
      rw [if_neg (by omega)]
      exact hR k (by omega)
    · obtain ⟨k,rfl⟩:=suc_of hk
      simp only [impl_RouteTo.l1]
      rw [if_neg (by omega)]
      exact hR k (by omega)
  |succ d ih=>
    intro j b hj hb
    have hm:S.getD j 0 ∈ S:=getD_mem (by omega)
    obtain ⟨s0,s1⟩:=hr _ hm
    have nx:Unit→wrap64 ((j:Int)+1)=((j+1:Nat):Int):=fun _=>next_nat (n:=S.length) (by omega) (by omega)
    have go:∀ t:Bool,(t=true→0≤fat F (S.getD j 0))→(∀ k,spec_RouteTo.l3 (k+1+1) S C v F b (j:Int) N P=spec_RouteTo.j7 (k+1) S C v F b (j:Int) (S.getD j 0) t N P)→(∀ k,impl_RouteTo.l1 (k+1+1) v F b S (S.length:Int) (j:Int) N P N O=impl_RouteTo.j2 (k+1) v F b (S.getD j 0) S (S.length:Int) (j:Int) t N P N O)→∃ b',okb N.length F b'∧(∀ (R:Option (List Int × Int)) (K:Nat),(∀ k,K<k→(if b' <0 then some (([]:List Int),(3:Int)) else spec_RouteTo.l4 k C v F b' [b'] N P)=R)→∀ k,K+2 * (d+1)+1<k→spec_RouteTo.l3 k S C v F b (j:Int) N P=R)∧∀ (R:Option (List Int × Int)) (K:Nat),(∀ k,K<k→(if b' <0 then some (([]:List Int),(3:Int)) else impl_RouteTo.l2 k v F [b'] b' N P N O)=R)→∀ k,K+2 * (d+1)+1<k→impl_RouteTo.l1 k v F b S (S.length:Int) (j:Int) N P N O=R:=by
      intro t ht e1 e2
      obtain ⟨b',q1,q2,q3⟩:=ih (j+1) (if t=true then S.getD j 0 else b) (by omega) (by
        cases t
        · exact hb
        · exact Or.inr ⟨⟨s0,s1⟩,ht rfl⟩)
      refine ⟨b',q1,fun R K hR k hk=>?_,fun R K hR k hk=>?_⟩
      · obtain ⟨k,rfl⟩:∃ m,k=m+1+1:=⟨k - 2,by omega⟩
        have h:=q2 R K hR k (by omega)
        rw [e1 k]
        rw [spec_RouteTo.j7.eq_def]
        simp only [nx ()]
        cases t
        · exact h
        · exact h
      · obtain ⟨k,rfl⟩:∃ m,k=m+1+1:=⟨k - 2,by omega⟩
        have h:=q3 R K hR k (by omega)
        rw [e2 k]
        rw [impl_RouteTo.j2.eq_def]
        simp only [nx ()]
        cases t
        · exact h
        · exact h
    have hs:∀ k,spec_RouteTo.l3 (k+1+1) S C v F b (j:Int) N P=if fat F (S.getD j 0)≥0 then (if b<0 then spec_RouteTo.j7 (k+1) S C v F b (j:Int) (S.getD j 0) true N P else if 0≤b then (if b<(F.length:Int) then spec_RouteTo.j7 (k+1) S C v F b (j:Int) (S.getD j 0) (decide (fat F (S.getD j 0)<fat F b)) N P else none) else none) else spec_RouteTo.j7 (k+1) S C v F b (j:Int) (S.getD j 0) false N P:=fun k=>by
      rw [spec_RouteTo.l3.eq_def]
      simp only [rd_nat]
      simp only [rd_fat]
      rw [if_pos (show (j:Int)<(S.length:Int) by omega),if_pos (show (0:Int)≤(j:Int) by omega),if_pos s0,if_pos (show S.getD j 0<(F.length:Int) by omega)]
      rfl
    have hi:∀ k,impl_RouteTo.l1 (k+1+1) v F b S (S.length:Int) (j:Int) N P N O=if fat F (S.getD j 0)≥0 then (if b<0 then impl_RouteTo.j2 (k+1) v F b (S.getD j 0) S (S.length:Int) (j:Int) true N P N O else if 0≤b then (if b<(F.length:Int) then impl_RouteTo.j2 (k+1) v F b (S.getD j 0) S (S.length:Int) (j:Int) (decide (fat F (S.getD j 0)<fat F b)) N P N O else none) else none) else impl_RouteTo.j2 (k+1) v F b (S.getD j 0) S (S.length:Int) (j:Int) false N P N O:=fun k=>by
      rw [impl_RouteTo.l1.eq_def]
      simp only [rd_nat]
      simp only [rd_fat]
      rw [if_pos (show (j:Int)<(S.length:Int) by omega),if_pos (show (0:Int)≤(j:Int) by omega),if_pos (show (j:Int)<(S.length:Int) by omega),if_pos s0,if_pos (show S.getD j 0<(F.length:Int) by omega)]
      rfl
    by_cases c1:fat F (S.getD j 0)≥0
    · by_cases c2:b<0
      · exact go true (fun _=>c1) (fun k=>by rw [hs,if_pos c1,if_pos c2]) (fun k=>by rw [hi,if_pos c1,if_pos c2])
      · obtain ⟨b0,b1⟩:0≤b∧b<(N.length:Int):=by
          rcases hb with h|h
          · omega
          · exact h.1
        exact go _ (fun _=>c1) (fun k=>by rw [hs,if_pos c1,if_neg c2,if_pos b0,if_pos (by omega)]) (fun k=>by rw [hi,if_pos c1,if_neg c2,if_pos b0,if_pos (by omega)])
    · exact go false (fun h=>by cases h) (fun k=>by rw [hs,if_neg c1]) (fun k=>by rw [hi,if_neg c1])
/-! The route. -/
theorem sp_l5 (N:List Int) (P:List S80) (C:List Int) (v:Int) (F:List Int) (hF:F.length=N.length) (hE:Ends N.length P) (hC:C.length≤1048576) (hb:∀ x:Int,0≤x→x<(N.length:Int)→fat F x≤16) (a:Int) (ha:0≤a∧a<(N.length:Int)) (h0:0≤fat F a) (A:List Int) (hA:A.length≤100) (R:Option (List Int × Int)) (K:Nat) (hK:1048600≤K):∀ (d j:Nat) (x:Int),j+d=P.length→(∀ k,K<k→spec_RouteTo.l4 k C v F ((opn P C d j).foldl (nrS F a) x) (A++[(opn P C d j).foldl (nrS F a) x]) N P=R)→∀ k,K+3 * d+1<k→spec_RouteTo.l5 k C v F a A x (j:Int) N P=R:=by
  have h20:=hE.1
  intro d
  induction d with
  |zero=>
    intro j x hj hR k hk
    obtain ⟨k,rfl⟩:=suc_of hk
    simp only [spec_RouteTo.l5]
    rw [if_neg (by omega),if_pos (show A.length<17592186044416 by omega)]
    exact hR k (by omega)
  |succ d ih=>
    intro j x hj hR k hk
    obtain ⟨⟨e0,e1⟩,g0,g1⟩:=hE.2.2.2 j (by omega)
    obtain ⟨k,rfl⟩:∃ m,k=m+1+1+1:=⟨k - 3,by omega⟩
    have nx:Unit→wrap64 ((j:Int)+1)=((j+1:Nat):Int):=fun _=>next_nat (n:=21) (by omega) (by omega)
    have wx:Unit→wrap64 (fat F a - 1)=fat F a - 1:=fun _=>by have:=hb a ha.1 ha.2;exact wrap_id (by omega) (by omega)
    rw [opn_s] at hR
    have s11:∀ (o:Int) (b:Bool),spec_RouteTo.j11 (k+1) C v F a A x (j:Int) o b N P=if b=true then spec_RouteTo.l5 k C v F a A o ((j+1:Nat):Int) N P else spec_RouteTo.l5 k C v F a A x ((j+1:Nat):Int) N P:=fun o b=>by
      rw [spec_RouteTo.j11.eq_def]
      simp only [nx ()]
      rw [if_pos (show (0:Int)≤(j:Int) by omega),if_pos (show (j:Int)<(P.length:Int) by omega)]
    have s10:∀ (o:Int),0≤o∧o<(N.length:Int)→spec_RouteTo.j10 (k+1+1) C v F a A x (j:Int) o N P=spec_RouteTo.l5 k C v F a A (if fat F o=fat F a - 1∧(x<0∨o<x) then o else x) ((j+1:Nat):Int) N P:=fun o ho=>by
      rw [spec_RouteTo.j10.eq_def]
      simp only [rd_fat,wx ()]
      rw [if_pos (show (0:Int)≤(j:Int) by omega),if_pos (show (j:Int)<(P.length:Int) by omega),if_pos (show o≥0 by omega),if_pos ho.1,if_pos (show o<(F.length:Int) by omega),if_pos ha.1,if_pos (show a<(F.length:Int) by omega)]
      by_cases c1:fat F o=fat F a - 1
      · rw [if_pos c1]
        by_cases c2:x<0
        · rw [if_pos c2,s11,if_pos rfl,if_pos ⟨c1,Or.inl c2⟩]
        · rw [if_neg c2,s11]
          by_cases c3:o<x
          · rw [decide_eq_true c3,if_pos rfl,if_pos ⟨c1,Or.inr c3⟩]
          · rw [decide_eq_false c3,if_neg Bool.false_ne_true,if_neg (fun q=>q.2.elim c2 c3)]
      · rw [if_neg c1,s11,if_neg Bool.false_ne_true,if_neg (fun q=>c1 q.1)]
    have s10n:spec_RouteTo.j10 (k+1+1) C v F a A x (j:Int) (-1) N P=spec_RouteTo.l5 k C v F a A x ((j+1:Nat):Int) N P:=by
      rw [spec_RouteTo.j10.eq_def]
      simp only []
      rw [if_pos (show (0:Int)≤(j:Int) by omega),if_pos (show (j:Int)<(P.length:Int) by omega),if_neg (show ¬ ((-1:Int)≥0) by omega),s11,if_neg Bool.false_ne_true]
    rw [spec_RouteTo.l5.eq_def]
    simp only [nx (),show ∀ i:Nat,rd_T80 P (i:Int)=pat P i from fun _=>rfl]
    rw [if_pos (show (j:Int)<(P.length:Int) by omega),if_pos (show (0:Int)≤(j:Int) by omega),spec_has C (by omega) _ (k+1+1) (by omega),Option.bind_some]
    by_cases c:decide ((j:Int) ∈ C)=true
    · rw [if_pos c]
      refine ih (j+1) x (by omega) (fun k hk=>?_) (k+1+1) (by omega)
      have:=hR k hk
      rw [if_pos c,List.nil_append] at this
      exact this
    · rw [if_neg c]
      have hR2:∀ k,K<k→spec_RouteTo.l4 k C v F ((opn P C d (j+1)).foldl (nrS F a) (nrS F a x (pat P j))) (A++[(opn P C d (j+1)).foldl (nrS F a) (nrS F a x (pat P j))]) N P=R:=fun k hk=>by
        have:=hR k hk
        rw [if_neg c] at this
        exact this
      have fin:=ih (j+1) (nrS F a x (pat P j)) (by omega) hR2 k (by omega)
      by_cases c1:(pat P j).f1=a
      · rw [if_pos c1,s10 _ ⟨g0,g1⟩]
        have e:nrS F a x (pat P j)=if fat F (pat P j).f2=fat F a - 1∧(x<0∨(pat P j).f2<x) then (pat P j).f2 else x:=by
          have eo:oth a (pat P j)=(pat P j).f2:=if_pos c1.symm
          unfold nrS
          by_cases q:fat F (pat P j).f2=fat F a - 1∧(x<0∨(pat P j).f2<x)
          · rw [if_pos q,if_pos ⟨⟨Or.inl c1.symm,by rw [eo];exact q.1⟩,by rw [eo];exact q.2⟩,eo]
          · rw [if_neg q,if_neg (fun z=>q ⟨by have y:=z.1.2;rwa [eo] at y,by have y:=z.2;rwa [eo] at y⟩)]
        rw [← e];exact fin
      · rw [if_neg c1]
        by_cases c2:(pat P j).f2=a
        · rw [if_pos c2,s10 _ ⟨e0,e1⟩]
          have e:nrS F a x (pat P j)=if fat F (pat P j).f1=fat F a - 1∧(x<0∨(pat P j).f1<x) then (pat P j).f1 else x:=by
            have eo:oth a (pat P j)=(pat P j).f1:=if_neg (fun q=>c1 q.symm)
            unfold nrS
            by_cases q:fat F (pat P j).f1=fat F a - 1∧(x<0∨(pat P j).f1<x)
            · rw [if_pos q,if_pos ⟨⟨Or.inr c2.symm,by rw [eo];exact q.1⟩,by rw [eo];exact q.2⟩,eo]
            · rw [if_neg q,if_neg (fun z=>q ⟨by have y:=z.1.2;rwa [eo] at y,by have y:=z.2;rwa [eo] at y⟩)]
          rw [← e];exact fin
        · rw [if_neg c2,s10n]
          have e:nrS F a x (pat P j)=x:=by
            unfold nrS cnd
            rw [if_neg (fun z=>z.1.1.elim (fun q=>c1 q.symm) (fun q=>c2 q.symm))]
          rw [e] at fin;exact fin
theorem im_l3 (N:List Int) (P O:List S80) (v:Int) (F:List Int) (hF:F.length=N.length) (hO:OkO N.length O) (h20:O.length≤20) (hb:∀ x:Int,0≤x→x<(N.length:Int)→fat F x≤16) (a:Int) (ha:0≤a∧a<(N.length:Int)) (h0:0≤fat F a) (A:List Int) (hA:A.length≤100) (R:Option (List Int × Int)) (K:Nat):∀ (d j:Nat) (y:Int),j+d=O.length→(∀ k,K<k→impl_RouteTo.l2 k v F (A++[(O.drop j).foldl (nrI F a) y]) ((O.drop j).foldl (nrI F a) y) N P N O=R)→∀ k,K+2 * d+1<k→impl_RouteTo.l3 k v F A a y O (O.length:Int) (j:Int) N P N O=R:=by
  intro d
  induction d with
  |zero=>
    intro j y hj hR k hk
    obtain ⟨k,rfl⟩:=suc_of hk
    rw [List.drop_eq_nil_of_le (by omega)] at hR
    simp only [impl_RouteTo.l3]
    rw [if_neg (by omega),if_pos (show A.length<17592186044416 by omega)]
    exact hR k (by omega)
  |succ d ih=>
    intro j y hj hR k hk
    have hjl:j<O.length:=by omega
    have hp:pat O j ∈ O:=by unfold pat;rw [getD_lt hjl];exact List.getElem_mem _
    have hol:=oth_ok hO hp a
    obtain ⟨k,rfl⟩:∃ m,k=m+1+1:=⟨k - 2,by omega⟩
    have nx:Unit→wrap64 ((j:Int)+1)=((j+1:Nat):Int):=fun _=>next_nat (n:=21) (by omega) (by omega)
    have wx:Unit→wrap64 (fat F a - 1)=fat F a - 1:=fun _=>by have:=hb a ha.1 ha.2;exact wrap_id (by omega) (by omega)
    rw [drop_cons O hjl z80] at hR
    have hR2:∀ k,K<k→impl_RouteTo.l2 k v F (A++[(O.drop (j+1)).foldl (nrI F a) (nrI F a y (pat O j))]) ((O.drop (j+1)).foldl (nrI F a) (nrI F a y (pat O j))) N P N O=R:=hR
    have fin:=ih (j+1) (nrI F a y (pat O j)) (by omega) hR2 k (by omega)
    have s5:∀ (o:Int) (b:Bool),impl_RouteTo.j5 (k+1) v F A a y o O (O.length:Int) (j:Int) b N P N O=if b=true then impl_RouteTo.l3 k v F A a (mn y o) O (O.length:Int) ((j+1:Nat):Int) N P N O else impl_RouteTo.l3 k v F A a y O (O.length:Int) ((j+1:Nat):Int) N P N O:=fun o b=>by
      rw [impl_RouteTo.j5.eq_def]
      simp only [nx ()]
    rw [impl_RouteTo.l3.eq_def]
    simp only [rd_fat,wx (),show ∀ i:Nat,rd_T80 O (i:Int)=pat O i from fun _=>rfl]
    rw [if_pos (show (j:Int)<(O.length:Int) by omega),if_pos (show (0:Int)≤(j:Int) by omega),if_pos (show (j:Int)<(O.length:Int) by omega),other_eq]
    by_cases c:a=(pat O j).f1∨a=(pat O j).f2
    · rw [if_pos c,Option.bind_some]
      simp only []
      rw [if_pos trivial,if_pos hol.1,if_pos (by omega),if_pos ha.1,if_pos (by omega),s5]
      by_cases c2:fat F (oth a (pat O j))=fat F a - 1
      · rw [if_pos (by rw [c2];simp)]
        have e:nrI F a y (pat O j)=mn y (oth a (pat O j)):=by
          unfold nrI
          rw [if_pos (show cnd F a (pat O j) from ⟨c,c2⟩)]
          rfl
        rw [← e];exact fin
      · rw [if_neg (fun q=>c2 (by simpa using q))]
        have e:nrI F a y (pat O j)=y:=by
          unfold nrI
          rw [if_neg (fun q:cnd F a (pat O j)=>c2 q.2)]
        rw [e] at fin;exact fin
    · rw [if_neg c,Option.bind_some]
      simp only []
      first|rw [if_neg Bool.false_ne_true]|rw [if_neg (fun h=>h)]
      rw [s5,if_neg Bool.false_ne_true]
      have e:nrI F a y (pat O j)=y:=by
        unfold nrI
        rw [if_neg (fun q:cnd F a (pat O j)=>c q.1)]
      rw [e] at fin;exact fin
theorem way_both (N:List Int) (P:List S80) (C:List Int) (v:Int) (F:List Int) (hE:Ends N.length P) (hC:C.length≤1048576) (hv:0≤v∧v<(N.length:Int)) (hR:Right N.length (opn P C P.length 0) v F) (hb:∀ x:Int,0≤x→x<(N.length:Int)→fat F x≤16):∀ (d:Nat) (a:Int) (A:List Int),(0≤a∧a<(N.length:Int))→fat F a=(d:Int)→A.length+d≤40→∃ r:List Int,r.length=A.length+d∧(∀ k,1048700+100 * d<k→spec_RouteTo.l4 k C v F a A N P=some (r,0))∧∀ k,1048700+100 * d<k→impl_RouteTo.l2 k v F A a N P N (opn P C P.length 0)=some (r,0):=by
  have h20:=hE.1
  have hO:=opn_ok hE C P.length 0 (by omega)
  have hOl:=opn_len P C P.length 0
  have hF:=hR.1
  intro d
  induction d with
  |zero=>
    intro a A ha hd hA
    have e:a=v:=by
      have:=(hR.2 a ha.1 ha.2).2.1 (by omega)
      rw [hd] at this
      exact this
    refine ⟨A,by omega,fun k hk=>?_,fun k hk=>?_⟩
    · obtain ⟨k,rfl⟩:=suc_of hk
      simp only [spec_RouteTo.l4]
      rw [if_pos e]
    · obtain ⟨k,rfl⟩:=suc_of hk
      simp only [impl_RouteTo.l2]
      rw [if_pos e]
  |succ d ih=>
    intro a A ha hd hA
    have hne:a≠v:=by
      intro e
      have:=((hR.2 v hv.1 hv.2).2.2 0 rfl)
      rw [← e] at this
      omega
    obtain ⟨n1,n2,n3⟩:=near_both hO hv hR ha (by omega)
    obtain ⟨r,r1,r2,r3⟩:=ih _ (A++[(opn P C P.length 0).foldl (nrS F a) (-1)]) n2 (by rw [n3];omega) (by simp;omega)
    refine ⟨r,by rw [r1];simp;omega,fun k hk=>?_,fun k hk=>?_⟩
    · obtain ⟨k,rfl⟩:=suc_of hk
      simp only [spec_RouteTo.l4]
      rw [if_neg hne]
      exact sp_l5 N P C v F hF hE hC hb a ha (by omega) A (by omega) (some (r,0)) (1048700+100 * d) (by omega) P.length 0 (-1) (by omega) r2 k (by omega)
    · obtain ⟨k,rfl⟩:=suc_of hk
      simp only [impl_RouteTo.l2]
      rw [if_neg hne]
      refine im_l3 N P _ v F hF hO (by omega) hb a ha (by omega) A (by omega) (some (r,0)) (1048700+100 * d) (opn P C P.length 0).length 0 (N.length:Int) (by omega) (fun k hk=>?_) k (by omega)
      rw [List.drop_zero,← n1]
      exact r3 k hk
theorem route_both (N:List Int) (P:List S80) (S C:List Int) (v:Int) (hN:N.length≤1048576) (hP:P.length≤1048576) (hs:∀ x ∈ P,x.f0.size≤1048576) (hS:S.length≤1048576) (hC:C.length≤1048576):∃ (r:List Int) (e:Int),(∀ k,4000000<k→spec_RouteTo.f k N P S C v=some (r,e))∧(∀ k,4000000<k→impl_RouteTo.f k N P S C v=some (r,e))∧r.length≤40:=by
  have a1:=spec_askS N P S C hN hP hs hS hC
  have a2:=impl_askS N P S C hN hP hs hS hC
  have a3:=fun k hk=>(net_both N P hN hP hs k hk).1
  have hin:N.length≥1→spec_l04Node.f [(⟨N,P⟩:S32)] v=some (decide (0≤v∧v≤(N.length:Int) - 1)):=fun h=>by
    unfold spec_l04Node.f
    simp only [show rd_T32 [(⟨N,P⟩:S32)] 0=⟨N,P⟩ from rfl]
    rw [if_pos (by simp),wrap_id (by omega) (by omega),spec_in,Option.bind_some]
  have hin2:impl_Network_hasNode.f N P v=some (decide (0≤v∧v≤(N.length:Int) - 1)):=by
    unfold impl_Network_hasNode.f
    rw [wrap_id (by omega) (by omega),impl_in,Option.bind_some]
  cases hn:netv N P with
  |false=>
    have ha:ask N P S C=1:=by unfold ask;rw [hn];rfl
    refine ⟨[],1,fun k hk=>?_,fun k hk=>?_,by simp⟩
    · unfold spec_RouteTo.f
      rw [a3 k (by omega),hn,Option.bind_some,if_neg Bool.false_ne_true]
    · unfold impl_RouteTo.f
      rw [a2 k (by omega),ha,Option.bind_some,if_pos rfl]
  |true=>
    have hE:=netv_ends hn hs
    have h20:=hE.1
    have h1:=hE.2.1
    have h16:=hE.2.2.1
    have hne:¬ ask N P S C=1:=by
      rcases ask_cases N P S C with ⟨q,_⟩|⟨_,q⟩|⟨_,q,_⟩
      · rw [hn] at q;cases q
      · omega
      · omega
    by_cases cv:0≤v∧v≤(N.length:Int) - 1
    · have hv:0≤v∧v<(N.length:Int):=⟨cv.1,by omega⟩
      by_cases h:ask N P S C=0
      · obtain ⟨h3,h4⟩:(∀ x ∈ S,0≤x∧x<(N.length:Int))∧inc C=true:=by
          rcases ask_cases N P S C with ⟨_,q⟩|⟨_,q⟩|⟨_,_,q2,_,_,q4⟩
          · omega
          · omega
          · exact ⟨q2,q4⟩
        have hO:=opn_ok hE C P.length 0 (by omega)
        have hOl:=opn_len P C P.length 0
        obtain ⟨F,f1,f2,f3⟩:=sp_l1 N P S C v hE hC hv N.length 0 (F0 N.length v) (by omega) (F0_inv hv)
        obtain ⟨G,g1,g2⟩:=im_dist N (opn P C P.length 0) v h1 h16 hO (by omega) hv
        have e:G=F:=right_uniq g1 f1
        subst e
        have hFl:=f1.1
        obtain ⟨b,b1,b2,b3⟩:=best_both N P (opn P C P.length 0) S C v G hFl hS h3 S.length 0 (-1) (by omega) (Or.inl rfl)
        obtain ⟨r,c,r1,r2,r3⟩:∃ (r:List Int) (c:Int),r.length≤40∧(∀ k,1060000<k→(if b<0 then some (([]:List Int),(3:Int)) else spec_RouteTo.l4 k C v G b [b] N P)=some (r,c))∧∀ k,1060000<k→(if b<0 then some (([]:List Int),(3:Int)) else impl_RouteTo.l2 k v G [b] b N P N (opn P C P.length 0))=some (r,c):=by
          rcases b1 with q|⟨q1,q2⟩
          · exact ⟨[],3,by simp,fun k _=>by rw [if_pos (by omega)],fun k _=>by rw [if_pos (by omega)]⟩
          · have q3:=f2 b q1.1 q1.2
            obtain ⟨r,w1,w2,w3⟩:=way_both N P C v G hE hC hv f1 f2 (fat G b).toNat b [b] q1 (by omega) (by simp;omega)
            exact ⟨r,0,by rw [w1];simp;omega,fun k hk=>by rw [if_neg (by omega),w2 k (by omega)],fun k hk=>by rw [if_neg (by omega),w3 k (by omega)]⟩
        have s1:=b2 (some (r,c)) 1060000 r2
        have s2:=b3 (some (r,c)) 1060000 r3
        rw [show ((0:Nat):Int)=0 from rfl] at s1 s2
        have s3:=f3 (some (r,c)) (1060000+2 * S.length+1) (by omega) s1
        rw [show ((0:Nat):Int)=0 from rfl] at s3
        refine ⟨r,c,fun k hk=>?_,fun k hk=>?_,r1⟩
        · unfold spec_RouteTo.f
          rw [a3 k (by omega),hn,Option.bind_some,if_pos rfl,hin h1,decide_eq_true cv,Option.bind_some,if_pos rfl,a1 k (by omega),h,Option.bind_some,if_pos rfl,if_pos (by omega),if_pos (by omega),Int.toNat_natCast]
          exact sp_l0 N P S C v h16 hv (some (r,c)) (1060000+2 * S.length+1+100 * N.length+1) s3 N.length 0 _ (by omega) (by simp) (fun x h=>absurd h (by omega)) k (by omega)
        · unfold impl_RouteTo.f
          rw [a2 k (by omega),h,Option.bind_some,if_neg (by decide),hin2,decide_eq_true cv,Option.bind_some,if_pos rfl,if_pos rfl]
          have:=im_open N P S C v h20 hC (some (r,c)) (1060000+2 * S.length+1) (by omega) P.length 0 [] (by omega) (by simp) (fun k hk=>by
            rw [List.nil_append,g2 k (by omega),Option.bind_some]
            exact s2 k hk) k (by omega)
          exact this
      · refine ⟨[],ask N P S C,fun k hk=>?_,fun k hk=>?_,by simp⟩
        · unfold spec_RouteTo.f
          rw [a3 k (by omega),hn,Option.bind_some,if_pos rfl,hin h1,decide_eq_true cv,Option.bind_some,if_pos rfl,a1 k (by omega),Option.bind_some,if_neg h]
        · unfold impl_RouteTo.f
          rw [a2 k (by omega),Option.bind_some,if_neg hne,hin2,decide_eq_true cv,Option.bind_some,if_pos rfl,if_neg h]
    · refine ⟨[],2,fun k hk=>?_,fun k hk=>?_,by simp⟩
      · unfold spec_RouteTo.f
        rw [a3 k (by omega),hn,Option.bind_some,if_pos rfl,hin h1,decide_eq_false cv,Option.bind_some,if_neg Bool.false_ne_true]
      · unfold impl_RouteTo.f
        rw [a2 k (by omega),Option.bind_some,if_neg hne,hin2,decide_eq_false cv,Option.bind_some,if_neg Bool.false_ne_true]
theorem FnExactRouteTo:laws_FnExactRouteTo.Pure:=by
  intro x S C v hx _ _ _
  obtain ⟨k,hk⟩:∃ k,k=5000000:=⟨_,rfl⟩
  refine ⟨k+3,?_⟩
  unfold laws_FnExactRouteTo.f
  by_cases c1:(S.length:Int) > 1048576
  · rw [if_pos c1]
  · rw [if_neg c1]
    by_cases c2:(C.length:Int) > 1048576
    · rw [if_pos c2]
    · rw [if_neg c2]
      obtain ⟨r,r1,r2,r3,r4⟩:=szNet x hx (k+3) (by omega)
      rw [r1,Option.bind_some]
      by_cases c:r<0
      · rw [if_pos c]
      · rw [if_neg c]
        have hn:=r4 (by omega)
        have hP:(x.f1.map pip).length≤1048576:=by simpa using hn.2.1
        obtain ⟨q,e,s,i,hq⟩:=route_both x.f0 (x.f1.map pip) S C v hn.1 hP (pip_small hn.2.2) (by omega) (by omega)
        obtain ⟨N',P',hm⟩:=markNet x.f0 (x.f1.map pip) hn.1 hP (k+2) (by omega)
        have h0:=hn.1
        obtain ⟨c0,hc0,hc1,hc2⟩:∃ c0:Int,c0=1+(x.f0.length:Int)+6 * ((x.f1.map pip).length:Int)∧0≤c0∧c0≤100000000:=⟨_,rfl,by omega,by omega⟩
        rw [← hc0] at hm
        obtain ⟨m1,a1,_,_⟩:=markc_held S c0 (by omega) (by omega) (by omega) (k+2) (by omega)
        obtain ⟨m2,a2,_,_⟩:=markc_held C (c0+(S.length:Int)) (by omega) (by omega) (by omega) (k+2) (by omega)
        obtain ⟨m3,a3,b3,d3⟩:=markc_held q 1 (by omega) (by omega) (by omega) (k+1) (by omega)
        have ee:(e !=e)=false:=by simp
        rw [toNet x.f0 x.f1 hn (k+3) (by omega),toI S (by omega) (k+3) (by omega),toI C (by omega) (k+3) (by omega)]
        simp only [s (k+3) (by omega),i (k+3) (by omega),eqI q (by omega) (k+3) (by omega),Option.bind_some,if_true,ee]
        simp only [laws_FnExactRouteTo.j0]
        rw [if_neg Bool.false_ne_true,toNet x.f0 x.f1 hn (k+2) (by omega)]
        simp only [Option.bind_some]
        rw [eqNet x.f0 x.f1 hn (k+2) (by omega),Option.bind_some,if_pos rfl,toI S (by omega) (k+2) (by omega),Option.bind_some,eqI S (by omega) (k+2) (by omega),Option.bind_some,if_pos rfl,toI C (by omega) (k+2) (by omega),Option.bind_some,eqI C (by omega) (k+2) (by omega),Option.bind_some,if_pos rfl,hm]
        simp only [a1,a2,eqI q (by omega) (k+2) (by omega),Option.bind_some,if_true,ee]
        rw [if_neg (by omega)]
        simp only [laws_FnExactRouteTo.j1]
        rw [if_neg Bool.false_ne_true,a3,toNet x.f0 x.f1 hn (k+1) (by omega)]
        simp only [d3 (k+1) (by omega),toI S (by omega) (k+1) (by omega),toI C (by omega) (k+1) (by omega),i (k+1) (by omega),eqI q (by omega) (k+1) (by omega),Option.bind_some,if_true,ee]
        rw [if_neg (by omega)]
        simp only [laws_FnExactRouteTo.j2]
        rw [if_neg Bool.false_ne_true]
        simp only [d3 k (by omega),Option.bind_some,if_true]
        rw [if_neg (by omega)]

end Go.Proofs.Ytjelfhmgbhidnaa.Pure
