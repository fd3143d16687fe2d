/- NeedlessValves of the program returns what the reference's returns, for every network and all valves. No condition. -/
import Derived.Test.YtheokilgacmlmaaPFnExactNeedlessValvesx19
namespace Go.Proofs.Ytheokilgacmlmaa.Pure
open Go.RowKit Go.Proofs.Ytheokilgacmlmaa.PFnExactNeedlessValves Go.Proofs.YtheokilgacmlmaaW.PrintWords Go.Proofs.YtheokilgacmlmaaW.PrintLast Go.Proofs.YtheokilgacmlmaaW.PrintMore
set_option linter.unusedVariables false
set_option linter.unusedSimpArgs false

theorem wrap_id {x:Int} (h1:-9223372036854775808≤x) (h2:x≤9223372036854775807):wrap64 x=x:=by unfold wrap64;omega
theorem wf_i64 {x:Int} (h:(Lit.int .i64 x).wf=true):-9223372036854775808≤x∧x≤9223372036854775807:=by
  simp [Lit.wf,IntKind.min,IntKind.max,IntKind.bits,IntKind.signed] at h;omega
theorem mul_bounds {a b A B:Int} (h0:0≤a) (hA:a≤A) (h1:-B≤b) (h2:b≤B) (hB:0≤B):-(A * B)≤a * b∧a * b≤A * B:=by
  have e1:=Int.mul_le_mul_of_nonneg_left h2 h0
  have e2:=Int.mul_le_mul_of_nonneg_right hA hB
  have e3:=Int.mul_le_mul_of_nonneg_left h1 h0
  have e4:a * -B= -(a * B):=Int.mul_neg a B
  omega
theorem mul_nonneg' {a b:Int} (h0:0≤a) (h1:0≤b):0≤a * b:=Int.mul_nonneg h0 h1
theorem next_nat {j n:Nat} (h:j<n) (hn:n≤4611686018427387904):wrap64 ((j:Int)+1)=((j+1:Nat):Int):=by
  rw [wrap_id (by omega) (by omega)];omega
theorem rd_nat (l:List Int) (j:Nat):rd l (j:Int)=l.getD j 0:=by unfold rd;simp
theorem ifp {α:Type} {c:Prop} [Decidable c] {a b:α} (h:c):(if c then a else b)=a:=if_pos h
theorem ifn {α:Type} {c:Prop} [Decidable c] {a b:α} (h:¬ c):(if c then a else b)=b:=if_neg h
theorem suc_of {k d:Nat} (h:d<k):∃ m,k=m+1:=⟨k - 1,by omega⟩
theorem getD_lt {α:Type} {l:List α} {j:Nat} {d:α} (h:j<l.length):l.getD j d=l[j]:=by
  rw [List.getD_eq_getElem?_getD,List.getElem?_eq_getElem h];rfl
theorem drop_cons {α:Type} (l:List α) {j:Nat} (h:j<l.length) (d:α):l.drop j=l.getD j d :: l.drop (j+1):=by
  rw [getD_lt h];exact List.drop_eq_getElem_cons h
theorem up {α:Type} {g:Nat→Option α} (hm:∀ k,LeO (g k) (g (k+1))) {k0:Nat} {r:α} (h:g k0=some r):∀ k,k0≤k→g k=some r:=by
  intro k hk
  induction hk with
  |refl=>exact h
  |step _ ih=>exact hm _ _ ih

theorem name_same (s:ByteArray):∀ (k:Nat) (i:Int),spec_l01Name.l0 k s i=impl_onlyNameBytes.l0 k s (s.size:Int) i:=by
  intro k
  induction k with
  |zero=>intro i;simp only [spec_l01Name.l0,impl_onlyNameBytes.l0]
  |succ k ih=>
    intro i
    simp only [spec_l01Name.l0,impl_onlyNameBytes.l0]
    unfold spec_l01Small.f spec_l01Digit.f
    rw [ih]
    generalize impl_onlyNameBytes.l0 k s (s.size:Int) (wrap64 (i+1))=e
    generalize bt s i=b
    by_cases h1:i<(s.size:Int)
    · rw [if_pos h1,if_pos h1,if_pos h1]
      by_cases h2:0≤i
      · rw [if_pos h2,if_pos h2]
        by_cases c1:b<97
        · rw [if_pos c1,if_neg (by omega)]
          by_cases c2:b<48
          · rw [if_pos c2,if_neg (by omega)];simp
          · rw [if_neg c2,if_pos (by omega)]
            by_cases c3:b > 57
            · rw [if_pos c3,decide_eq_false (by omega)];simp
            · rw [if_neg c3,decide_eq_true (by omega)];simp
        · rw [if_neg c1,if_pos (by omega)]
          by_cases c4:b > 122
          · rw [if_pos c4,decide_eq_false (by omega),if_pos (by omega),if_neg (by omega),decide_eq_false (by omega),if_pos (by omega)];simp
          · rw [if_neg c4,decide_eq_true (by omega)];simp
      · rw [if_neg h2,if_neg h2]
    · rw [if_neg h1,if_neg h1]
theorem name_total (s:ByteArray) (hs:s.size≤35184372088832):∀ (d j k:Nat),j+d=s.size→d<k→∃ r,impl_onlyNameBytes.l0 k s (s.size:Int) (j:Int)=some r:=by
  intro d
  induction d with
  |zero=>
    intro j k hj hk
    obtain ⟨k,rfl⟩:=suc_of hk
    simp only [impl_onlyNameBytes.l0]
    rw [if_neg (by omega)];exact ⟨_,rfl⟩
  |succ d ih=>
    intro j k hj hk
    obtain ⟨k,rfl⟩:=suc_of hk
    obtain ⟨r,hr⟩:=ih (j+1) k (by omega) (by omega)
    simp only [impl_onlyNameBytes.l0]
    rw [if_pos (by omega),if_pos (by omega),if_pos (by omega),next_nat (n:=s.size) (by omega) (by omega),hr]
    split
    · split
      · exact ⟨_,rfl⟩
      · split
        · exact ⟨_,rfl⟩
        · exact ⟨_,rfl⟩
    · split
      · split
        · exact ⟨_,rfl⟩
        · split
          · exact ⟨_,rfl⟩
          · exact ⟨_,rfl⟩
      · exact ⟨_,rfl⟩
/-- A name is one for both. -/
theorem name_both (s:ByteArray) (hs:s.size≤35184372088832):∃ b:Bool,(∀ k,s.size+3≤k→spec_l01Name.f k s=some b)∧(∀ k,s.size+3≤k→impl_IsName.f k s=some b)∧(b=true→1≤s.size∧s.size≤10):=by
  obtain ⟨r,hr⟩:=name_total s hs s.size 0 (s.size+2) (by omega) (by omega)
  have hr3:impl_onlyNameBytes.l0 (s.size+3) s (s.size:Int) 0=some r:=impl_onlyNameBytes.mono_l (s.size+2) s (s.size:Int) 0 r hr
  have hr2:impl_onlyNameBytes.l0 (s.size+2) s (s.size:Int) 0=some r:=hr
  have key:∃ b:Bool,spec_l01Name.f (s.size+3) s=some b∧impl_IsName.f (s.size+3) s=some b∧(b=true→1≤s.size∧s.size≤10):=by
    have bad:spec_l01Name.j0 (s.size+3) s true=some false:=by simp only [spec_l01Name.j0];simp
    unfold spec_l01Name.f impl_IsName.f impl_onlyNameBytes.f
    by_cases h0:s.size=0
    · have e:s.toList=[]:=by
        rw [ByteArray.toList_eq];exact List.eq_nil_of_length_eq_zero (by rw [Array.length_toList];exact h0)
      rw [if_pos e,if_pos (by omega),bad];exact ⟨_,rfl,rfl,by simp⟩
    · have e:¬ s.toList=[]:=by
        rw [ByteArray.toList_eq]
        intro h
        have:s.data.toList.length=0:=by rw [h];rfl
        rw [Array.length_toList] at this
        exact h0 this
      rw [if_neg e,if_neg (show ¬ (s.size:Int)<1 by omega)]
      by_cases h1:(s.size:Int) > 10
      · rw [if_pos h1,if_pos h1,bad];exact ⟨_,rfl,rfl,by simp⟩
      · rw [if_neg h1,if_neg h1,if_pos (by omega),if_pos (by omega)]
        unfold spec_l01Small.f
        by_cases c1:bt s 0<97
        · rw [if_pos c1,if_neg (by omega)]
          simp only [Option.bind_some,Bool.not_false]
          exact ⟨_,bad,rfl,by simp⟩
        · rw [if_neg c1,if_pos (by omega)]
          by_cases c2:bt s 0 > 122
          · rw [if_pos c2,decide_eq_false (by omega)]
            simp only [Option.bind_some,Bool.not_false]
            exact ⟨_,bad,rfl,by simp⟩
          · rw [if_neg c2,decide_eq_true (by omega),hr3]
            simp only [Option.bind_some,Bool.not_true]
            refine ⟨r,?_,rfl,fun _=>by omega⟩
            simp only [spec_l01Name.j0]
            rw [if_neg Bool.false_ne_true,name_same]
            exact hr2
  obtain ⟨b,h1,h2,h3⟩:=key
  exact ⟨b,up (spec_l01Name.mono s) h1,up (impl_IsName.mono s) h2,h3⟩

theorem impl_in (n lo hi:Int):impl_within.f n lo hi=some (decide (lo≤n∧n≤hi)):=by unfold impl_within.f;split<;>simp<;>omega

theorem spec_in (n lo hi:Int):spec_l00In.f n lo hi=some (decide (lo≤n∧n≤hi)):=by unfold spec_l00In.f;split<;>simp<;>omega

/-- A pipe is valid for both. -/
theorem pipe_both (s:ByteArray) (a b l w c:Int) (hs:s.size≤35184372088832):∃ v:Bool,(∀ k,s.size+4≤k→spec_l03Ok.f k [(⟨s,a,b,l,w,c⟩:S100)]=some v)∧(∀ k,s.size+4≤k→impl_ValidPipe.f k s a b l w c=some v)∧
    (v=true→1≤s.size∧s.size≤10∧0≤a∧a≤15∧0≤b∧b≤15∧a≠b∧1≤l∧l≤10000∧20≤w∧w≤1000∧0≤c∧c≤5000):=by
  obtain ⟨nb,n1,n2,n3⟩:=name_both s hs
  have key:∃ v:Bool,(∀ k,s.size+4≤k→spec_l03Ok.f k [(⟨s,a,b,l,w,c⟩:S100)]=some v∧impl_ValidPipe.f k s a b l w c=some v)∧
    (v=true→1≤s.size∧s.size≤10∧0≤a∧a≤15∧0≤b∧b≤15∧a≠b∧1≤l∧l≤10000∧20≤w∧w≤1000∧0≤c∧c≤5000):=by
    refine ⟨nb&&decide (0≤a∧a≤15)&&decide (0≤b∧b≤15)&&!(a==b)&&decide (1≤l∧l≤10000)&&decide (20≤w∧w≤1000)&&decide (0≤c∧c≤5000),fun k hk=>?_,fun h=>?_⟩
    · obtain ⟨k,rfl⟩:∃ k',k=k' +1:=⟨k - 1,by omega⟩
      have r0:rd_T100 [(⟨s,a,b,l,w,c⟩:S100)] 0=⟨s,a,b,l,w,c⟩:=rfl
      have l0:0<(([(⟨s,a,b,l,w,c⟩:S100)].length:Nat):Int):=by simp
      have bad:spec_l03Ok.j0 (k+1) [(⟨s,a,b,l,w,c⟩:S100)] true=some false:=by simp only [spec_l03Ok.j0];simp
      have good:spec_l03Ok.j0 (k+1) [(⟨s,a,b,l,w,c⟩:S100)] false=some (decide (1≤l∧l≤10000)&&decide (20≤w∧w≤1000)&&decide (0≤c∧c≤5000)):=by
        simp only [spec_l03Ok.j0,r0]
        rw [if_neg Bool.false_ne_true,if_pos l0]
        simp only [spec_in,Option.bind_some]
        cases decide (1≤l∧l≤10000)<;>cases decide (20≤w∧w≤1000)<;>simp
      unfold spec_l03Ok.f impl_ValidPipe.f impl_nodeOk.f
      rw [r0,if_pos l0,n1 (k+1) (by omega),n2 (k+1) (by omega)]
      simp only [spec_in,impl_in,Option.bind_some]
      cases nb
      · simp [bad]
      · cases decide (0≤a∧a≤15)
        · simp [bad]
        · cases decide (0≤b∧b≤15)
          · simp [bad]
          · by_cases e:a=b
            · subst e;simp [bad]
            · have e':(a==b)=false:=by simpa using e
              rw [e',good]
              simp only [if_true,if_neg e,Bool.not_false,Bool.true_and]
              cases decide (1≤l∧l≤10000)<;>cases decide (20≤w∧w≤1000)<;>simp
    · simp only [Bool.and_eq_true,decide_eq_true_eq,Bool.not_eq_true',beq_eq_false_iff_ne] at h
      have:=n3 h.1.1.1.1.1.1
      obtain ⟨⟨⟨⟨⟨⟨h1,h2⟩,h3⟩,h4⟩,h5⟩,h6⟩,h7⟩:=h
      exact ⟨this.1,this.2,h2.1,h2.2,h3.1,h3.2,h4,h5.1,h5.2,h6.1,h6.2,h7.1,h7.2⟩
  obtain ⟨v,h1,h2⟩:=key
  exact ⟨v,fun k hk=>(h1 k hk).1,fun k hk=>(h1 k hk).2,h2⟩

theorem sz_list {α:Type} (z:α) (L:Nat→List α→Int→Int→Option Int) (sz:Nat→α→Int→Option Int) (hL:∀ k x n i,L (k+1) x n i=if i<(x.length:Int) then (if 0≤i then ((sz k (x.getD i.toNat z) n).bind fun t=>if t<0 then some (-1) else L k x t (wrap64 (i+1))) else none) else some n)
    (Wf Sm:α→Prop) (K:Nat) (hsz:∀ k x n,K<k→Wf x→0≤n→n≤1048576→∃ r,sz k x n=some r∧r≤n∧(0≤r→Sm x)) (l:List α) (hl:l.length≤1048576) (hw:∀ x ∈ l,Wf x):
    ∀ (d j k:Nat) (n:Int),j+d=l.length→K+d<k→0≤n→n≤1048576→∃ r,L k l n (j:Int)=some r∧r≤n∧-1≤r∧(0≤r→∀ i (h:i<l.length),j≤i→Sm l[i]):=by
  intro d
  induction d with
  |zero=>
    intro j k n hj hk h0 h1
    obtain ⟨k,rfl⟩:=suc_of hk
    rw [hL,if_neg (by omega)]
    exact ⟨n,rfl,by omega,by omega,fun _ i h hi=>by omega⟩
  |succ d ih=>
    intro j k n hj hk h0 h1
    obtain ⟨k,rfl⟩:=suc_of hk
    rw [hL,if_pos (by omega),if_pos (by omega),Int.toNat_natCast]
    obtain ⟨r,r1,r2,r4⟩:=hsz k (l.getD j z) n (by omega) (by rw [getD_lt (by omega)];exact hw _ (List.getElem_mem _)) h0 h1
    rw [r1,Option.bind_some]
    by_cases c:r<0
    · rw [if_pos c];exact ⟨-1,rfl,by omega,by omega,fun h=>by omega⟩
    · rw [if_neg c,next_nat (n:=l.length) (by omega) (by omega)]
      obtain ⟨q,q1,q2,q3,q4⟩:=ih (j+1) k r (by omega) (by omega) (by omega) (by omega)
      refine ⟨q,q1,by omega,by omega,fun hq i h hi=>?_⟩
      by_cases e:i=j
      · subst e
        have:=r4 (by omega)
        rwa [getD_lt h] at this
      · exact q4 hq i h (by omega)
theorem to_list {α β:Type} (z:α) (L:Nat→List α→List β→Int→Option (List β)) (tov:Nat→α→Option β) (hL:∀ k x m i,L (k+1) x m i=if i<(x.length:Int) then (if 0≤i then ((tov k (x.getD i.toNat z)).bind fun b=>if i<(m.length:Int) then L k x (m.set i.toNat b) (wrap64 (i+1)) else none) else none) else some m)
    (g:α→β) (K:Nat) (l:List α) (hl:l.length≤1048576) (hto:∀ k,K<k→∀ x ∈ l,tov k x=some (g x)):
    ∀ (d j k:Nat) (m:List β),j+d=l.length→K+d<k→m.length=l.length→(∀ i,i<j→m[i]? =(l.map g)[i]?)→L k l m (j:Int)=some (l.map g):=by
  intro d
  induction d with
  |zero=>
    intro j k m hj hk hm hp
    obtain ⟨k,rfl⟩:=suc_of hk
    rw [hL,if_neg (by omega)]
    congr 1
    apply List.ext_getElem?
    intro i
    by_cases hi:i<j
    · exact hp i hi
    · rw [List.getElem?_eq_none (by omega),List.getElem?_eq_none (by simp;omega)]
  |succ d ih=>
    intro j k m hj hk hm hp
    obtain ⟨k,rfl⟩:=suc_of hk
    rw [hL,if_pos (by omega),if_pos (by omega),Int.toNat_natCast,hto k (by omega) _ (by rw [getD_lt (by omega)];exact List.getElem_mem _),Option.bind_some,if_pos (by omega),next_nat (n:=l.length) (by omega) (by omega)]
    refine ih (j+1) k _ (by omega) (by omega) (by simpa using hm) (fun i hi=>?_)
    rw [List.getElem?_set]
    by_cases e:j=i
    · subst e
      rw [if_pos rfl,if_pos (by omega),getD_lt (by omega),List.getElem?_map,List.getElem?_eq_getElem (by omega)];rfl
    · rw [if_neg e];exact hp i (by omega)
theorem eq_list {β:Type} (z:β) (L:Nat→List β→List β→Int→Option Bool) (eq:Nat→β→β→Option Bool) (hL:∀ k x y i,L (k+1) x y i=if i<(x.length:Int) then (if 0≤i then (if i<(y.length:Int) then ((eq k (x.getD i.toNat z) (y.getD i.toNat z)).bind fun t=>if t=true then L k x y (wrap64 (i+1)) else some false) else none) else none) else some true)
    (K:Nat) (l:List β) (hl:l.length≤1048576) (heq:∀ k,K<k→∀ x ∈ l,eq k x x=some true):
    ∀ (d j k:Nat),j+d=l.length→K+d<k→L k l l (j:Int)=some true:=by
  intro d
  induction d with
  |zero=>
    intro j k hj hk
    obtain ⟨k,rfl⟩:=suc_of hk
    rw [hL,if_neg (by omega)]
  |succ d ih=>
    intro j k hj hk
    obtain ⟨k,rfl⟩:=suc_of hk
    rw [hL,if_pos (by omega),if_pos (by omega),if_pos (by omega),Int.toNat_natCast,heq k (by omega) _ (by rw [getD_lt (by omega)];exact List.getElem_mem _),Option.bind_some,if_pos rfl,next_nat (n:=l.length) (by omega) (by omega)]
    exact ih (j+1) k (by omega) (by omega)
theorem bne_cast (a b:Nat):((a:Int)!=(b:Int))=!(decide (a=b)):=by
  by_cases h:a=b
  · subst h;simp
  · have h2:¬ (a:Int)=(b:Int):=by omega
    rw [decide_eq_false h];exact bne_iff_ne.2 h2

theorem toI_l0 (l:List Int) (hl:l.length≤35184372088832):∀ (d j k:Nat) (m:List Int),j+d=l.length→d<k→m.length=l.length→(∀ i,i<j→m[i]? =l[i]?)→laws_toInt64S.l0 k l m (j:Int)=some l:=by
  intro d
  induction d with
  |zero=>
    intro j k m hj hk hm hp
    obtain ⟨k,rfl⟩:=suc_of hk
    simp only [laws_toInt64S.l0]
    rw [if_neg (by omega)]
    congr 1
    apply List.ext_getElem?
    intro i
    by_cases hi:i<j
    · exact hp i hi
    · rw [List.getElem?_eq_none (by omega),List.getElem?_eq_none (by omega)]
  |succ d ih=>
    intro j k m hj hk hm hp
    obtain ⟨k,rfl⟩:=suc_of hk
    simp only [laws_toInt64S.l0]
    rw [if_pos (by omega),if_pos (by omega),if_pos (by omega),next_nat (n:=l.length) (by omega) (by omega)]
    refine ih (j+1) k _ (by omega) (by omega) (by simpa using hm) (fun i hi=>?_)
    rw [Int.toNat_natCast,rd_nat,List.getElem?_set]
    by_cases e:j=i
    · subst e
      rw [if_pos rfl,if_pos (by omega),getD_lt (by omega),List.getElem?_eq_getElem (by omega)]
    · rw [if_neg e];exact hp i (by omega)
theorem toI (l:List Int) (hl:l.length≤35184372088832) (k:Nat) (hk:l.length<k):laws_toInt64S.f k l=some l:=by
  unfold laws_toInt64S.f
  rw [if_pos (by omega),if_pos (by omega)]
  exact toI_l0 l hl l.length 0 k _ (by omega) hk (by simp) (fun i hi=>absurd hi (by omega))

theorem eqI_l0 (l:List Int) (hl:l.length≤35184372088832):∀ (d j k:Nat),j+d=l.length→d<k→laws_eqInt64S.l0 k l l (j:Int)=some true:=by
  intro d
  induction d with
  |zero=>
    intro j k hj hk
    obtain ⟨k,rfl⟩:=suc_of hk
    simp only [laws_eqInt64S.l0]
    rw [if_neg (by omega)]
  |succ d ih=>
    intro j k hj hk
    obtain ⟨k,rfl⟩:=suc_of hk
    simp only [laws_eqInt64S.l0]
    rw [if_pos (by omega),if_pos (by omega),if_pos (by omega),if_pos trivial,next_nat (n:=l.length) (by omega) (by omega)]
    exact ih (j+1) k (by omega) (by omega)
theorem eqI (l:List Int) (hl:l.length≤35184372088832) (k:Nat) (hk:l.length<k):laws_eqInt64S.f k l l=some true:=by
  unfold laws_eqInt64S.f
  rw [if_pos rfl]
  exact eqI_l0 l hl l.length 0 k (by omega) hk

theorem impl_all (l:List Int) (lo hi:Int):impl_allWithin.f l lo hi=some (l.all fun x=>decide (lo≤x∧x≤hi)):=rfl

def pip (x:S122):S100:=⟨x.f0,x.f1,x.f2,x.f3,x.f4,x.f5⟩
theorem szInts (l:List Int) (hl:l.length≤9223372036854775807) (n:Int) (h0:0≤n) (h1:n≤1048576):∃ r,laws_szInt64S.f l n=some r∧r≤n∧-1≤r∧(0≤r→l.length≤1048576):=by
  unfold laws_szInt64S.f
  rw [wrap_id (x:=n - (l.length:Int)) (by omega) (by omega)]
  by_cases c:n - (l.length:Int)<0
  · rw [if_pos c];exact ⟨-1,rfl,by omega,by omega,fun h=>by omega⟩
  · rw [if_neg c];exact ⟨_,rfl,by omega,by omega,fun h=>by omega⟩
theorem szPipes (l:List S122) (hw:wfLT122 l) (n:Int) (h0:0≤n) (h1:n≤1048576) (k:Nat) (hk:1048577<k):∃ r,laws_szPipeS.f k l n=some r∧r≤n∧-1≤r∧(0≤r→l.length≤1048576∧∀ x ∈ l,x.f0.size≤1048576):=by
  obtain ⟨hl,hw⟩:=hw
  unfold laws_szPipeS.f
  rw [wrap_id (x:=n - (l.length:Int)) (by omega) (by omega)]
  by_cases c:n - (l.length:Int)<0
  · rw [if_pos c];exact ⟨-1,rfl,by omega,by omega,fun h=>by omega⟩
  · rw [if_neg c]
    obtain ⟨r,r1,r2,r3,r4⟩:=sz_list z122 laws_szPipeS.l0 (fun _ x n=>laws_szPipe.f x.f0 x.f1 x.f2 x.f3 x.f4 x.f5 n) (fun _ _ _ _=>rfl) wfT122 (fun x=>x.f0.size≤1048576) 0 (fun k x n _ hx h0 h1=>by
      have hs:=hx.1
      simp only [maxLen] at hs
      unfold laws_szPipe.f
      rw [wrap_id (x:=n - (x.f0.size:Int)) (by omega) (by omega)]
      by_cases c:n - (x.f0.size:Int)<0
      · rw [if_pos c];exact ⟨-1,rfl,by omega,fun h=>by omega⟩
      · rw [if_neg c];exact ⟨_,rfl,by omega,fun h=>by omega⟩) l (by omega) hw l.length 0 k (n - (l.length:Int)) (by omega) (by omega) (by omega) (by omega)
    exact ⟨r,r1,by omega,r3,fun h=>⟨by omega,fun x hx=>by
      obtain ⟨i,hi,rfl⟩:=List.mem_iff_getElem.1 hx
      exact r4 h i hi (by omega)⟩⟩
theorem toPipes (l:List S122) (hl:l.length≤1048576) (k:Nat) (hk:1048577<k):laws_toPipeS.f k l=some (l.map pip):=by
  unfold laws_toPipeS.f
  rw [if_pos (by omega),if_pos (by omega)]
  exact to_list z122 laws_toPipeS.l0 (fun _ x=>some (pip x)) (fun k x m i=>by
    simp only [laws_toPipeS.l0,laws_toPipe.f,Option.bind_some];rfl) pip 0 l hl (fun _ _ _ _=>rfl) l.length 0 k _ (by omega) (by omega) (by simp) (fun i hi=>absurd hi (by omega))
theorem eqPipes (l:List S100) (hl:l.length≤1048576) (k:Nat) (hk:1048577<k):laws_eqPipeS.f k l l=some true:=by
  unfold laws_eqPipeS.f
  rw [if_pos rfl]
  exact eq_list z100 laws_eqPipeS.l0 (fun _ a b=>laws_eqPipe.f a.f0 a.f1 a.f2 a.f3 a.f4 a.f5 b.f0 b.f1 b.f2 b.f3 b.f4 b.f5) (fun _ _ _ _=>rfl) 0 l hl (fun _ _ x _=>by simp [laws_eqPipe.f]) l.length 0 k (by omega) (by omega)
/-- The sizes of a network. -/
def NetSm (N:List Int) (P:List S122):Prop:=N.length≤1048576∧P.length≤1048576∧∀ x ∈ P,x.f0.size≤1048576
theorem szNet (x:S25) (hx:wfT25 x) (k:Nat) (hk:1048577<k):∃ r,laws_szNetwork.f k x.f0 x.f1 1048576=some r∧r≤1048576∧-1≤r∧(0≤r→NetSm x.f0 x.f1):=by
  obtain ⟨h1,h2⟩:=hx
  unfold laws_szNetwork.f
  obtain ⟨r,r1,r2,r3,r4⟩:=szInts x.f0 h1.1 1048576 (by omega) (by omega)
  rw [r1,Option.bind_some]
  by_cases c:r<0
  · rw [if_pos c];exact ⟨-1,rfl,by omega,by omega,fun h=>by omega⟩
  · rw [if_neg c]
    obtain ⟨q,q1,q2,q3,q4⟩:=szPipes x.f1 h2 r (by omega) (by omega) k hk
    rw [q1,Option.bind_some]
    by_cases c2:q<0
    · rw [if_pos c2];exact ⟨-1,rfl,by omega,by omega,fun h=>by omega⟩
    · rw [if_neg c2];exact ⟨q,rfl,by omega,by omega,fun h=>⟨r4 (by omega),(q4 h).1,(q4 h).2⟩⟩
theorem toNet (N:List Int) (P:List S122) (h:NetSm N P) (k:Nat) (hk:1048577<k):laws_toNetwork.f k N P=some (N,P.map pip):=by
  unfold laws_toNetwork.f
  have h1:=h.1
  rw [toI N (by omega) k (by omega),Option.bind_some,toPipes P h.2.1 k hk];rfl
theorem eqNet (N:List Int) (P:List S122) (h:NetSm N P) (k:Nat) (hk:1048577<k):laws_eqNetwork.f k N (P.map pip) N (P.map pip)=some true:=by
  unfold laws_eqNetwork.f
  have h1:=h.1
  rw [eqI N (by omega) k (by omega),Option.bind_some,if_pos rfl,eqPipes (P.map pip) (by simpa using h.2.1) k hk];rfl
/-- A pipe's validity. -/
def pv (x:S100):Bool:=(impl_ValidPipe.f 1048620 x.f0 x.f1 x.f2 x.f3 x.f4 x.f5).getD false
theorem pv_spec (x:S100) (hs:x.f0.size≤1048576):(∀ k,1048620≤k→spec_l03Ok.f k [x]=some (pv x))∧(∀ k,1048620≤k→impl_ValidPipe.f k x.f0 x.f1 x.f2 x.f3 x.f4 x.f5=some (pv x))∧(pv x=true→(0≤x.f1∧x.f1≤15)∧(0≤x.f2∧x.f2≤15)∧x.f1≠x.f2):=by
  obtain ⟨v,v1,v2,v3⟩:=pipe_both x.f0 x.f1 x.f2 x.f3 x.f4 x.f5 (by omega)
  have e:pv x=v:=by unfold pv;rw [v2 1048620 (by omega)];rfl
  exact ⟨fun k hk=>by rw [e];exact v1 k (by omega),fun k hk=>by rw [e];exact v2 k (by omega),fun h=>by
    have p:=v3 (e ▸ h)
    exact ⟨⟨p.2.2.1,p.2.2.2.1⟩,⟨p.2.2.2.2.1,p.2.2.2.2.2.1⟩,p.2.2.2.2.2.2.1⟩⟩
def pat (P:List S100) (i:Nat):S100:=P.getD i z100
theorem rdP (P:List S100) (i:Nat):rd_T100 P (i:Int)=pat P i:=rfl
theorem rdN (x:S33):rd_T33 [x] 0=x:=rfl
def less (a b:ByteArray):Bool:=Op.bytesLess a.toList b.toList
def ptOk (n:Nat) (P:List S100) (i:Nat):Bool:=pv (pat P i)&&(decide ((pat P i).f1<(n:Int))&&(decide ((pat P i).f2<(n:Int))&&(if i=0 then true else less (pat P (i - 1)).f0 (pat P i).f0)))
def ptAll (n:Nat) (P:List S100):Nat→Nat→Bool
  |0,_=>true
  |d+1,j=>ptOk n P j&&ptAll n P d (j+1)
theorem fits_spec (N:List Int) (P:List S100) (p:S100) (hp:p.f0.size≤1048576) (k:Nat) (hk:1048620≤k):spec_l04Fits.f k [(⟨N,P⟩:S33)] [p]=some (pv p&&(decide (p.f1<(N.length:Int))&&decide (p.f2<(N.length:Int)))):=by
  unfold spec_l04Fits.f
  rw [(pv_spec p hp).1 k hk,Option.bind_some]
  cases pv p
  · rfl
  · rw [if_pos rfl,if_pos (by simp),if_pos (by simp),rdN,show rd_T100 [p] 0=p from rfl]
    by_cases h:p.f1<(N.length:Int)
    · rw [if_pos h,decide_eq_true h];simp
    · rw [if_neg h,decide_eq_false h];rfl
theorem ends_impl (N:List Int) (P:List S100) (p:S100) (hN:N.length≤1048576) (hv:(0≤p.f1∧p.f1≤15)∧(0≤p.f2∧p.f2≤15)):impl_Network_hasEnds.f N P p.f0 p.f1 p.f2 p.f3 p.f4 p.f5=some (decide (p.f1<(N.length:Int))&&decide (p.f2<(N.length:Int))):=by
  unfold impl_Network_hasEnds.f impl_Network_hasNode.f
  rw [wrap_id (by omega) (by omega),impl_in,Option.bind_some,Option.bind_some,impl_in,Option.bind_some,Option.bind_some]
  have e1:decide (0≤p.f1∧p.f1≤(N.length:Int) - 1)=decide (p.f1<(N.length:Int)):=decide_eq_decide.2 (by omega)
  have e2:decide (0≤p.f2∧p.f2≤(N.length:Int) - 1)=decide (p.f2<(N.length:Int)):=decide_eq_decide.2 (by omega)
  rw [e1,e2]
  cases decide (p.f1<(N.length:Int))<;>rfl
theorem pat_lt {P:List S100} (hs:∀ x ∈ P,x.f0.size≤1048576) {j:Nat} (h:j<P.length):(pat P j).f0.size≤1048576:=by
  unfold pat;rw [getD_lt h];exact hs _ (List.getElem_mem _)
theorem spec_net_l1 (N:List Int) (P:List S100) (hN:N.length≤1048576) (hP:P.length≤1048576) (hs:∀ x ∈ P,x.f0.size≤1048576):∀ (d j k:Nat),j+d=P.length→1048620+d<k→spec_l04Ok.l1 k [(⟨N,P⟩:S33)] (j:Int)=some (ptAll N.length P d j):=by
  intro d
  induction d with
  |zero=>
    intro j k hj hk
    obtain ⟨k,rfl⟩:=suc_of hk
    simp only [spec_l04Ok.l1,show rd_T33 [(⟨N,P⟩:S33)] 0=⟨N,P⟩ from rfl]
    rw [if_pos (by simp),if_neg (by omega)];rfl
  |succ d ih=>
    intro j k hj hk
    obtain ⟨k,rfl⟩:=suc_of hk
    have hr:=ih (j+1) k (by omega) (by omega)
    simp only [spec_l04Ok.l1,show rd_T33 [(⟨N,P⟩:S33)] 0=⟨N,P⟩ from rfl,show ∀ i:Nat,rd_T100 P (i:Int)=pat P i from fun _=>rfl]
    rw [if_pos (by simp),if_pos (by omega),if_pos (by omega),fits_spec N P (pat P j) (pat_lt hs (by omega)) k (by omega),Option.bind_some,next_nat (n:=P.length) (by omega) (by omega),hr]
    rw [show ptAll N.length P (d+1) j=(ptOk N.length P j&&ptAll N.length P d (j+1)) from rfl]
    generalize ptAll N.length P d (j+1)=R
    unfold ptOk
    generalize pv (pat P j)=v
    generalize decide ((pat P j).f1<(N.length:Int))=a
    generalize decide ((pat P j).f2<(N.length:Int))=b
    cases v
    · rfl
    · cases a
      · rfl
      · cases b
        · rfl
        · rw [show (true&&(true&&true))=true from rfl,if_pos rfl]
          simp only [Bool.true_and]
          by_cases hz:j=0
          · rw [if_neg (show ¬ (j:Int) > 0 by omega),if_pos hz];rfl
          · have ew:wrap64 ((j:Int) - 1)=((j - 1:Nat):Int):=by rw [wrap_id (by omega) (by omega)];omega
            rw [if_pos (show (j:Int) > 0 by omega),if_neg hz,ew,rdP,if_pos (by omega),if_pos (by omega)]
            show (if less (pat P (j - 1)).f0 (pat P j).f0=true then _ else _)=_
            cases less (pat P (j - 1)).f0 (pat P j).f0<;>rfl
theorem impl_net_l0 (N:List Int) (P:List S100) (hN:N.length≤1048576) (hP:P.length≤1048576) (hs:∀ x ∈ P,x.f0.size≤1048576):∀ (d j k:Nat),j+d=P.length→1048620+d<k→impl_ValidNetwork.l0 k P (P.length:Int) (j:Int) N P=some (ptAll N.length P d j):=by
  intro d
  induction d with
  |zero=>
    intro j k hj hk
    obtain ⟨k,rfl⟩:=suc_of hk
    simp only [impl_ValidNetwork.l0]
    rw [if_neg (by omega)];rfl
  |succ d ih=>
    intro j k hj hk
    obtain ⟨k,rfl⟩:=suc_of hk
    have hr:=ih (j+1) k (by omega) (by omega)
    have hp:=pv_spec (pat P j) (pat_lt hs (by omega))
    simp only [impl_ValidNetwork.l0,show ∀ i:Nat,rd_T100 P (i:Int)=pat P i from fun _=>rfl]
    rw [if_pos (by omega),if_pos (by omega),if_pos (by omega),hp.2.1 k (by omega),Option.bind_some,next_nat (n:=P.length) (by omega) (by omega),hr]
    rw [show ptAll N.length P (d+1) j=(ptOk N.length P j&&ptAll N.length P d (j+1)) from rfl]
    generalize ptAll N.length P d (j+1)=R
    unfold ptOk
    cases hv:pv (pat P j)
    · rfl
    · rw [if_pos rfl,ends_impl N P (pat P j) hN ⟨(hp.2.2 hv).1,(hp.2.2 hv).2.1⟩,Option.bind_some]
      generalize decide ((pat P j).f1<(N.length:Int))=a
      generalize decide ((pat P j).f2<(N.length:Int))=b
      cases a
      · rfl
      · cases b
        · rfl
        · rw [show (true&&true)=true from rfl,if_pos rfl]
          simp only [Bool.true_and]
          by_cases hz:j=0
          · rw [if_neg (show ¬ (j:Int) > 0 by omega),if_pos hz];rfl
          · have ew:wrap64 ((j:Int) - 1)=((j - 1:Nat):Int):=by rw [wrap_id (by omega) (by omega)];omega
            rw [if_pos (show (j:Int) > 0 by omega),if_neg hz,ew,rdP,if_pos (by omega),if_pos (by omega)]
            show (if less (pat P (j - 1)).f0 (pat P j).f0=true then _ else _)=_
            cases less (pat P (j - 1)).f0 (pat P j).f0<;>rfl
def netw (N:List Int) (P:List S100):Bool:=decide (1≤N.length∧N.length≤16)&&(decide (P.length≤20)&&ptAll N.length P P.length 0)
def netv (N:List Int) (P:List S100):Bool:=(N.all fun x=>decide ((-100000:Int)≤x∧x≤100000))&&netw N P
theorem spec_net_j1 (N:List Int) (P:List S100) (hN:N.length≤1048576) (hP:P.length≤1048576) (hs:∀ x ∈ P,x.f0.size≤1048576) (b:Bool) (k:Nat) (hk:2097200<k):spec_l04Ok.j1 k [(⟨N,P⟩:S33)] b=some (!b&&ptAll N.length P P.length 0):=by
  obtain ⟨k,rfl⟩:=suc_of hk
  simp only [spec_l04Ok.j1]
  cases b
  · rw [if_neg Bool.false_ne_true]
    exact spec_net_l1 N P hN hP hs P.length 0 k (by omega) (by omega)
  · rfl
theorem spec_net_l0 (N:List Int) (P:List S100) (hN:N.length≤1048576) (hP:P.length≤1048576) (hs:∀ x ∈ P,x.f0.size≤1048576):∀ (d j k:Nat),j+d=N.length→2097202+d<k→spec_l04Ok.l0 k [(⟨N,P⟩:S33)] (j:Int)=some (((N.drop j).all fun x=>decide ((-100000:Int)≤x∧x≤100000))&&netw N P):=by
  intro d
  induction d with
  |zero=>
    intro j k hj hk
    obtain ⟨k,rfl⟩:=suc_of hk
    simp only [spec_l04Ok.l0,show rd_T33 [(⟨N,P⟩:S33)] 0=⟨N,P⟩ from rfl]
    rw [if_pos (by simp),if_neg (by omega),List.drop_eq_nil_of_le (by omega)]
    simp only [List.all_nil,Bool.true_and]
    unfold netw
    by_cases c1:(N.length:Int)<1
    · rw [if_pos c1,spec_net_j1 N P hN hP hs true k (by omega),decide_eq_false (by omega)];rfl
    · rw [if_neg c1]
      by_cases c2:(N.length:Int) > 16
      · rw [if_pos c2,spec_net_j1 N P hN hP hs true k (by omega),decide_eq_false (by omega)];rfl
      · rw [if_neg c2,spec_net_j1 N P hN hP hs _ k (by omega),decide_eq_true (p:=1≤N.length∧N.length≤16) (by omega)]
        by_cases c3:P.length≤20
        · rw [decide_eq_true c3,decide_eq_false (by omega)];rfl
        · rw [decide_eq_false c3,decide_eq_true (by omega)];rfl
  |succ d ih=>
    intro j k hj hk
    obtain ⟨k,rfl⟩:=suc_of hk
    have hr:=ih (j+1) k (by omega) (by omega)
    simp only [spec_l04Ok.l0,show rd_T33 [(⟨N,P⟩:S33)] 0=⟨N,P⟩ from rfl]
    rw [if_pos (by simp),if_pos (by omega),if_pos (by omega),spec_in,Option.bind_some,next_nat (n:=N.length) (by omega) (by omega),hr,drop_cons N (j:=j) (by omega) 0,rd_nat]
    simp only [List.all_cons]
    cases decide ((-100000:Int)≤N.getD j 0∧N.getD j 0≤100000)<;>simp
/-- A network is valid for both. -/
theorem net_both (N:List Int) (P:List S100) (hN:N.length≤1048576) (hP:P.length≤1048576) (hs:∀ x ∈ P,x.f0.size≤1048576) (k:Nat) (hk:3145780<k):spec_l04Ok.f k [(⟨N,P⟩:S33)]=some (netv N P)∧impl_ValidNetwork.f k N P=some (netv N P):=by
  refine ⟨?_,?_⟩
  · unfold spec_l04Ok.f netv
    exact spec_net_l0 N P hN hP hs N.length 0 k (by omega) (by omega)
  · obtain ⟨k,rfl⟩:=suc_of hk
    have bad:impl_ValidNetwork.j0 (k+1) true N P=some false:=by simp only [impl_ValidNetwork.j0];simp
    unfold impl_ValidNetwork.f netv netw
    rw [impl_all,bad]
    simp only [Option.bind_some]
    by_cases c1:(N.length:Int)<1
    · rw [if_pos c1,decide_eq_false (p:=1≤N.length∧N.length≤16) (by omega)];simp
    · rw [if_neg c1]
      by_cases c2:(N.length:Int) > 16
      · rw [if_pos c2,decide_eq_false (p:=1≤N.length∧N.length≤16) (by omega)];simp
      · rw [if_neg c2,decide_eq_true (p:=1≤N.length∧N.length≤16) (by omega)]
        cases N.all fun x=>decide ((-100000:Int)≤x∧x≤100000)
        · rfl
        · rw [if_pos rfl]
          simp only [impl_ValidNetwork.j0,Bool.true_and]
          by_cases c3:P.length≤20
          · rw [decide_eq_true c3,decide_eq_false (by omega),if_neg Bool.false_ne_true]
            exact impl_net_l0 N P hN hP hs P.length 0 k (by omega) (by omega)
          · rw [decide_eq_false c3,decide_eq_true (by omega)];rfl
theorem pip_small {P:List S122} (h:∀ x ∈ P,x.f0.size≤1048576):∀ x ∈ P.map pip,x.f0.size≤1048576:=by
  intro x hx
  obtain ⟨y,hy,rfl⟩:=List.mem_map.1 hx
  exact h y hy

def vlv (x:S69):S51:=⟨x.f0,x.f1,x.f2⟩
def VaSm (x:S69):Prop:=x.f0.size≤1048576∧x.f1.size≤1048576
theorem szValves (l:List S69) (hw:wfLT69 l) (n:Int) (h0:0≤n) (h1:n≤1048576) (k:Nat) (hk:1048577<k):∃ r,laws_szValveS.f k l n=some r∧(0≤r→l.length≤1048576∧∀ x ∈ l,VaSm x):=by
  obtain ⟨hl,hw⟩:=hw
  unfold laws_szValveS.f
  rw [wrap_id (x:=n - (l.length:Int)) (by omega) (by omega)]
  by_cases c:n - (l.length:Int)<0
  · rw [if_pos c];exact ⟨-1,rfl,fun h=>by omega⟩
  · rw [if_neg c]
    obtain ⟨r,r1,r2,r3,r4⟩:=sz_list z69 laws_szValveS.l0 (fun _ x n=>laws_szValve.f x.f0 x.f1 x.f2 n) (fun _ _ _ _=>rfl) wfT69 VaSm 0 (fun k x n _ hx h0 h1=>by
      obtain ⟨hs,ht,_⟩:=hx
      simp only [maxLen] at hs ht
      unfold laws_szValve.f
      rw [wrap_id (x:=n - (x.f0.size:Int)) (by omega) (by omega)]
      by_cases c:n - (x.f0.size:Int)<0
      · rw [if_pos c];exact ⟨-1,rfl,by omega,fun h=>by omega⟩
      · rw [if_neg c,wrap_id (x:=n - (x.f0.size:Int) - (x.f1.size:Int)) (by omega) (by omega)]
        by_cases c2:n - (x.f0.size:Int) - (x.f1.size:Int)<0
        · rw [if_pos c2];exact ⟨-1,rfl,by omega,fun h=>by omega⟩
        · rw [if_neg c2];exact ⟨_,rfl,by omega,fun h=>⟨by omega,by omega⟩⟩) l (by omega) hw l.length 0 k (n - (l.length:Int)) (by omega) (by omega) (by omega) (by omega)
    exact ⟨r,r1,fun h=>⟨by omega,fun x hx=>by
      obtain ⟨i,hi,rfl⟩:=List.mem_iff_getElem.1 hx
      exact r4 h i hi (by omega)⟩⟩
theorem toValves (l:List S69) (hl:l.length≤1048576) (k:Nat) (hk:1048577<k):laws_toValveS.f k l=some (l.map vlv):=by
  unfold laws_toValveS.f
  rw [if_pos (by omega),if_pos (by omega)]
  exact to_list z69 laws_toValveS.l0 (fun _ x=>some (vlv x)) (fun k x m i=>by
    simp only [laws_toValveS.l0,laws_toValve.f,Option.bind_some];rfl) vlv 0 l hl (fun _ _ _ _=>rfl) l.length 0 k _ (by omega) (by omega) (by simp) (fun i hi=>absurd hi (by omega))
theorem eqValves (l:List S51) (hl:l.length≤1048576) (k:Nat) (hk:1048577<k):laws_eqValveS.f k l l=some true:=by
  unfold laws_eqValveS.f
  rw [if_pos rfl]
  exact eq_list z51 laws_eqValveS.l0 (fun _ a b=>laws_eqValve.f a.f0 a.f1 a.f2 b.f0 b.f1 b.f2) (fun _ _ _ _=>rfl) 0 l hl (fun _ _ x _=>by simp [laws_eqValve.f]) l.length 0 k (by omega) (by omega)
def nv (s:ByteArray):Bool:=(impl_IsName.f 1048620 s).getD false
theorem nv_spec (s:ByteArray) (hs:s.size≤1048576):(∀ k,1048620≤k→spec_l01Name.f k s=some (nv s))∧(∀ k,1048620≤k→impl_IsName.f k s=some (nv s)):=by
  obtain ⟨v,v1,v2,_⟩:=name_both s (by omega)
  have e:nv s=v:=by unfold nv;rw [v2 1048620 (by omega)];rfl
  exact ⟨fun k hk=>by rw [e];exact v1 k (by omega),fun k hk=>by rw [e];exact v2 k (by omega)⟩
/-- The index of a pipe's name. -/
def idx (P:List S100) (s:ByteArray):Nat→Nat→Int
  |0,_=> -1
  |d+1,j=>if (pat P j).f0.toList=s.toList then (j:Int) else idx P s d (j+1)
theorem idx_s (P:List S100) (s:ByteArray) (d j:Nat):idx P s (d+1) j=if (pat P j).f0.toList=s.toList then (j:Int) else idx P s d (j+1):=rfl
theorem spec_idx (N:List Int) (P:List S100) (hP:P.length≤1048576) (v:S51):∀ (d j k:Nat),j+d=P.length→d<k→spec_l18Pipe.l0 k [(⟨N,P⟩:S33)] [v] (j:Int)=some (idx P v.f1 d j):=by
  intro d
  induction d with
  |zero=>
    intro j k hj hk
    obtain ⟨k,rfl⟩:=suc_of hk
    simp only [spec_l18Pipe.l0,show rd_T33 [(⟨N,P⟩:S33)] 0=⟨N,P⟩ from rfl]
    rw [if_pos (by simp),if_neg (by omega)];rfl
  |succ d ih=>
    intro j k hj hk
    obtain ⟨k,rfl⟩:=suc_of hk
    have hr:=ih (j+1) k (by omega) (by omega)
    simp only [spec_l18Pipe.l0,show rd_T33 [(⟨N,P⟩:S33)] 0=⟨N,P⟩ from rfl,show ∀ i:Nat,rd_T100 P (i:Int)=pat P i from fun _=>rfl]
    rw [if_pos (by simp),if_pos (by omega),if_pos (by omega),if_pos (by simp),next_nat (n:=P.length) (by omega) (by omega),hr,show rd_T51 [v] 0=v from rfl]
    rw [idx_s]
    by_cases c:(pat P j).f0.toList=v.f1.toList
    · rw [if_pos c,if_pos c]
    · rw [if_neg c,if_neg c]
theorem impl_idx (P:List S100) (hP:P.length≤1048576) (s:ByteArray):∀ (d j k:Nat),j+d=P.length→d<k→impl_Pipe_c110.l0 k P (P.length:Int) (j:Int) [s]=some (idx P s d j):=by
  intro d
  induction d with
  |zero=>
    intro j k hj hk
    obtain ⟨k,rfl⟩:=suc_of hk
    simp only [impl_Pipe_c110.l0]
    rw [if_neg (by omega)];rfl
  |succ d ih=>
    intro j k hj hk
    obtain ⟨k,rfl⟩:=suc_of hk
    have hr:=ih (j+1) k (by omega) (by omega)
    simp only [impl_Pipe_c110.l0,show ∀ i:Nat,rd_T100 P (i:Int)=pat P i from fun _=>rfl,impl_Network_pipeNamed_1.f]
    rw [if_pos (by omega),if_pos (by omega),if_pos (by omega),if_pos (by simp),Option.bind_some,next_nat (n:=P.length) (by omega) (by omega),hr,show rdOf ByteArray.empty [s] 0=s from rfl]
    rw [idx_s]
    by_cases c:(pat P j).f0.toList=s.toList
    · rw [if_pos (beq_iff_eq.2 c),if_pos c]
    · rw [if_neg (fun h=>c (beq_iff_eq.1 h)),if_neg c]
def vat (V:List S51) (i:Nat):S51:=V.getD i z51
theorem rdV (V:List S51) (i:Nat):rd_T51 V (i:Int)=vat V i:=rfl
theorem vat_lt {V:List S51} (hs:∀ x ∈ V,x.f0.size≤1048576) {j:Nat} (h:j<V.length):(vat V j).f0.size≤1048576:=by
  unfold vat;rw [getD_lt h];exact hs _ (List.getElem_mem _)
def vhit (x y:S51):Bool:=decide (x.f1.toList=y.f1.toList)&&(x.f2==y.f2)
def dup (V:List S51) (x:S51):Nat→Nat→Bool
  |0,_=>false
  |d+1,j=>vhit (vat V j) x || dup V x d (j+1)
theorem dup_s (V:List S51) (x:S51) (d j:Nat):dup V x (d+1) j=(vhit (vat V j) x || dup V x d (j+1)):=rfl
theorem spec_dup (NP:List S33) (V:List S51) (hV:V.length≤1048576) (i:Nat) (hi:i<V.length) (K:Nat) (r:Bool) (hr:∀ k,K≤k→spec_l18Ok.l0 k NP V ((i+1:Nat):Int)=some r):∀ (d j k:Nat),j+d=i→K+d<k→spec_l18Ok.l1 k NP V (i:Int) (j:Int)=some (!dup V (vat V i) d j&&r):=by
  intro d
  induction d with
  |zero=>
    intro j k hj hk
    obtain ⟨k,rfl⟩:=suc_of hk
    simp only [spec_l18Ok.l1]
    rw [if_neg (by omega),next_nat (n:=V.length) (by omega) (by omega),hr k (by omega)];rfl
  |succ d ih=>
    intro j k hj hk
    obtain ⟨k,rfl⟩:=suc_of hk
    have h:=ih (j+1) k (by omega) (by omega)
    simp only [spec_l18Ok.l1,show ∀ (V:List S51) (i:Nat),rd_T51 V (i:Int)=vat V i from fun _ _=>rfl]
    rw [if_pos (by omega),if_pos (by omega),if_pos (by omega),if_pos (by omega),if_pos (by omega),next_nat (n:=V.length) (by omega) (by omega),h]
    rw [dup_s]
    unfold vhit
    by_cases c:(vat V j).f1.toList=(vat V i).f1.toList
    · rw [if_pos c,decide_eq_true c,Bool.true_and]
      cases (vat V j).f2==(vat V i).f2
      · rw [if_neg Bool.false_ne_true,Bool.false_or]
      · rfl
    · rw [if_neg c,decide_eq_false c,Bool.false_and,Bool.false_or]
theorem impl_dup (V:List S51) (hV:V.length≤1048576) (x:S51) (i:Nat) (hi:i≤V.length):∀ (d j k:Nat),j+d=i→d<k→∃ t,impl_Valve_107_c96.l0 k (V.take i) (i:Int) (j:Int) [x]=some t∧decide (t≥0)=dup V x d j:=by
  intro d
  induction d with
  |zero=>
    intro j k hj hk
    obtain ⟨k,rfl⟩:=suc_of hk
    simp only [impl_Valve_107_c96.l0]
    rw [if_neg (by omega)];exact ⟨-1,rfl,rfl⟩
  |succ d ih=>
    intro j k hj hk
    obtain ⟨k,rfl⟩:=suc_of hk
    obtain ⟨t,t1,t2⟩:=ih (j+1) k (by omega) (by omega)
    have hl:(V.take i).length=i:=by simp;omega
    have he:vat (V.take i) j=vat V j:=by unfold vat;rw [getD_lt (by omega),getD_lt (by omega)];simp
    simp only [impl_Valve_107_c96.l0,show ∀ (V:List S51) (i:Nat),rd_T51 V (i:Int)=vat V i from fun _ _=>rfl,impl_ValidValves_1.f,he]
    rw [if_pos (by omega),if_pos (by omega),if_pos (by omega),if_pos (by simp),next_nat (n:=V.length) (by omega) (by omega),t1,show rd_T51 [x] 0=x from rfl]
    rw [dup_s]
    unfold vhit
    by_cases c:(vat V j).f1.toList=x.f1.toList
    · rw [if_pos c,decide_eq_true c,Bool.true_and,Option.bind_some]
      cases (vat V j).f2==x.f2
      · rw [if_neg Bool.false_ne_true,Bool.false_or];exact ⟨t,rfl,t2⟩
      · exact ⟨(j:Int),rfl,by simp⟩
    · rw [if_neg c,decide_eq_false c,Bool.false_and,Bool.false_or,Option.bind_some,if_neg Bool.false_ne_true];exact ⟨t,rfl,t2⟩
def vok (P:List S100) (V:List S51) (i:Nat):Bool:=nv (vat V i).f0&&(decide (0≤idx P (vat V i).f1 P.length 0)&&((if i=0 then true else less (vat V (i - 1)).f0 (vat V i).f0)&&!dup V (vat V i) i 0))
def vall (P:List S100) (V:List S51):Nat→Nat→Bool
  |0,_=>true
  |d+1,j=>vok P V j&&vall P V d (j+1)
theorem spec_vl0 (N:List Int) (P:List S100) (V:List S51) (hP:P.length≤1048576) (hV:V.length≤8) (hs:∀ x ∈ V,x.f0.size≤1048576):∀ (d j k:Nat),j+d=V.length→2097250+20 * d<k→spec_l18Ok.l0 k [(⟨N,P⟩:S33)] V (j:Int)=some (vall P V d j):=by
  intro d
  induction d with
  |zero=>
    intro j k hj hk
    obtain ⟨k,rfl⟩:=suc_of hk
    simp only [spec_l18Ok.l0]
    rw [if_neg (by omega)];rfl
  |succ d ih=>
    intro j k hj hk
    obtain ⟨k,rfl⟩:∃ m,k=m+1+1:=⟨k - 2,by omega⟩
    have bad:spec_l18Ok.j2 (k+1) [(⟨N,P⟩:S33)] V (j:Int) true=some false:=by simp only [spec_l18Ok.j2];simp
    have good:spec_l18Ok.j2 (k+1) [(⟨N,P⟩:S33)] V (j:Int) false=some (!dup V (vat V j) j 0&&vall P V d (j+1)):=by
      simp only [spec_l18Ok.j2]
      rw [if_neg Bool.false_ne_true]
      exact spec_dup _ V (by omega) j (by omega) (2097251+20 * d) _ (fun k hk=>ih (j+1) k (by omega) (by omega)) j 0 k (by omega) (by omega)
    simp only [spec_l18Ok.l0,show ∀ (V:List S51) (i:Nat),rd_T51 V (i:Int)=vat V i from fun _ _=>rfl]
    rw [if_pos (by omega),if_pos (by omega),(nv_spec _ (vat_lt hs (by omega))).1 (k+1) (by omega),Option.bind_some]
    rw [show vall P V (d+1) j=(vok P V j&&vall P V d (j+1)) from rfl]
    generalize vall P V d (j+1)=R at *
    unfold vok
    cases nv (vat V j).f0
    · exact bad
    · rw [if_pos rfl,Bool.true_and]
      unfold spec_l18Pipe.f
      have hx:=spec_idx N P hP (vat V j) P.length 0 (k+1) (by omega) (by omega)
      rw [show ((0:Nat):Int)=0 from rfl] at hx
      rw [hx,Option.bind_some]
      by_cases c:idx P (vat V j).f1 P.length 0<0
      · rw [if_pos c,decide_eq_false (by omega),bad];rfl
      · rw [if_neg c,decide_eq_true (p:=0≤idx P (vat V j).f1 P.length 0) (by omega),Bool.true_and]
        by_cases hz:j=0
        · rw [if_neg (show ¬ (j:Int) > 0 by omega),if_pos hz,good,Bool.true_and]
        · have ew:wrap64 ((j:Int) - 1)=((j - 1:Nat):Int):=by rw [wrap_id (by omega) (by omega)];omega
          rw [if_pos (show (j:Int) > 0 by omega),if_neg hz,ew,rdV,if_pos (by omega),if_pos (by omega)]
          show spec_l18Ok.j2 (k+1) _ V (j:Int) (!less (vat V (j - 1)).f0 (vat V j).f0)=_
          cases less (vat V (j - 1)).f0 (vat V j).f0
          · exact bad
          · exact good
theorem impl_vl0 (N:List Int) (P:List S100) (V:List S51) (hP:P.length≤1048576) (hV:V.length≤8) (hs:∀ x ∈ V,x.f0.size≤1048576):∀ (d j k:Nat),j+d=V.length→2097250+20 * d<k→impl_ValidValves.l0 k V V (V.length:Int) (j:Int) N P=some (vall P V d j):=by
  intro d
  induction d with
  |zero=>
    intro j k hj hk
    obtain ⟨k,rfl⟩:=suc_of hk
    simp only [impl_ValidValves.l0]
    rw [if_neg (by omega)];rfl
  |succ d ih=>
    intro j k hj hk
    obtain ⟨k,rfl⟩:∃ m,k=m+1+1:=⟨k - 2,by omega⟩
    have hr:=ih (j+1) k (by omega) (by omega)
    obtain ⟨t,t1,t2⟩:=impl_dup V (by omega) (vat V j) j (by omega) j 0 k (by omega) (by omega)
    have hl:((V.take j).length:Int)=(j:Int):=by simp;omega
    have bad:impl_ValidValves.j2 (k+1) V (j:Int) V (V.length:Int) (j:Int) true N P (vat V j).f0 (vat V j).f1 (vat V j).f2=some false:=by simp only [impl_ValidValves.j2];simp
    have good:impl_ValidValves.j2 (k+1) V (j:Int) V (V.length:Int) (j:Int) false N P (vat V j).f0 (vat V j).f1 (vat V j).f2=some (!dup V (vat V j) j 0&&vall P V d (j+1)):=by
      simp only [impl_ValidValves.j2]
      rw [if_neg Bool.false_ne_true,if_pos (by omega),if_pos (by omega),Int.toNat_natCast]
      unfold impl_Valve_77_c96.f impl_Valve_107_c96.f
      rw [hl,show (⟨(vat V j).f0,(vat V j).f1,(vat V j).f2⟩:S51)=vat V j from rfl]
      rw [show ((0:Nat):Int)=0 from rfl] at t1
      rw [t1,Option.bind_some,Option.bind_some,t2,next_nat (n:=V.length) (by omega) (by omega),hr]
      cases dup V (vat V j) j 0
      · rw [if_neg Bool.false_ne_true];rfl
      · rfl
    simp only [impl_ValidValves.l0,show ∀ (V:List S51) (i:Nat),rd_T51 V (i:Int)=vat V i from fun _ _=>rfl]
    rw [if_pos (by omega),if_pos (by omega),if_pos (by omega),(nv_spec _ (vat_lt hs (by omega))).2 (k+1) (by omega),Option.bind_some]
    rw [show vall P V (d+1) j=(vok P V j&&vall P V d (j+1)) from rfl]
    generalize vall P V d (j+1)=R at *
    unfold vok
    cases nv (vat V j).f0
    · exact bad
    · rw [if_pos rfl,Bool.true_and]
      unfold impl_Network_pipeNamed.f impl_Pipe_c110.f
      have hx:=impl_idx P hP (vat V j).f1 P.length 0 (k+1) (by omega) (by omega)
      rw [show ((0:Nat):Int)=0 from rfl] at hx
      rw [hx,Option.bind_some,Option.bind_some]
      by_cases c:idx P (vat V j).f1 P.length 0<0
      · rw [if_pos c,decide_eq_false (by omega),bad];rfl
      · rw [if_neg c,decide_eq_true (p:=0≤idx P (vat V j).f1 P.length 0) (by omega),Bool.true_and]
        by_cases hz:j=0
        · rw [if_neg (show ¬ (j:Int) > 0 by omega),if_pos hz,good,Bool.true_and]
        · have ew:wrap64 ((j:Int) - 1)=((j - 1:Nat):Int):=by rw [wrap_id (by omega) (by omega)];omega
          rw [if_pos (show (j:Int) > 0 by omega),if_neg hz,ew,rdV,if_pos (by omega),if_pos (by omega)]
          show impl_ValidValves.j2 (k+1) V (j:Int) V (V.length:Int) (j:Int) (!less (vat V (j - 1)).f0 (vat V j).f0) N P _ _ _=_
          cases less (vat V (j - 1)).f0 (vat V j).f0
          · exact bad
          · exact good
def vv (N:List Int) (P:List S100) (V:List S51):Bool:=netv N P&&(decide (V.length≤8)&&vall P V V.length 0)
/-- Valves are valid for both. -/
theorem valves_both (N:List Int) (P:List S100) (V:List S51) (hN:N.length≤1048576) (hP:P.length≤1048576) (hs:∀ x ∈ P,x.f0.size≤1048576) (hVs:∀ x ∈ V,x.f0.size≤1048576) (k:Nat) (hk:3145800<k):spec_l18Ok.f k [(⟨N,P⟩:S33)] V=some (vv N P V)∧impl_ValidValves.f k N P V=some (vv N P V):=by
  obtain ⟨n1,n2⟩:=net_both N P hN hP hs k (by omega)
  unfold spec_l18Ok.f impl_ValidValves.f vv
  rw [n1,n2,Option.bind_some,Option.bind_some]
  obtain ⟨k,rfl⟩:=suc_of hk
  have b1:spec_l18Ok.j0 (k+1) [(⟨N,P⟩:S33)] V true=some false:=by simp only [spec_l18Ok.j0];simp
  have b2:impl_ValidValves.j0 (k+1) V true N P=some false:=by simp only [impl_ValidValves.j0];simp
  cases netv N P
  · exact ⟨b1,b2⟩
  · rw [if_pos rfl,if_pos rfl,Bool.true_and]
    by_cases c:V.length≤8
    · rw [decide_eq_true c,decide_eq_false (by omega)]
      simp only [spec_l18Ok.j0,impl_ValidValves.j0,Bool.true_and]
      rw [if_neg Bool.false_ne_true,if_neg Bool.false_ne_true]
      exact ⟨spec_vl0 N P V hP c hVs V.length 0 k (by omega) (by omega),impl_vl0 N P V hP c hVs V.length 0 k (by omega) (by omega)⟩
    · rw [decide_eq_false c,decide_eq_true (by omega),b1,b2]
      exact ⟨rfl,rfl⟩
theorem vlv_small {V:List S69} (h:∀ x ∈ V,VaSm x):∀ x ∈ V.map vlv,x.f0.size≤1048576:=by
  intro x hx
  obtain ⟨y,hy,rfl⟩:=List.mem_map.1 hx
  exact (h y hy).1

theorem impl_has_l0 (B:List Int) (hB:B.length≤35184372088832) (x:Int):∀ (d j k:Nat),j+d=B.length→d<k→∃ t,slices_Index_int64_int64.l0 k B x (B.length:Int) (j:Int)=some t∧decide (t≥0)=decide (x ∈ B.drop j):=by
  intro d
  induction d with
  |zero=>
    intro j k hj hk
    obtain ⟨k,rfl⟩:=suc_of hk
    simp only [slices_Index_int64_int64.l0]
    rw [if_neg (by omega),List.drop_eq_nil_of_le (by omega)];exact ⟨-1,rfl,by simp⟩
  |succ d ih=>
    intro j k hj hk
    obtain ⟨k,rfl⟩:=suc_of hk
    obtain ⟨t,t1,t2⟩:=ih (j+1) k (by omega) (by omega)
    simp only [slices_Index_int64_int64.l0]
    rw [if_pos (by omega),if_pos (by omega),if_pos (by omega),next_nat (n:=B.length) (by omega) (by omega),t1,rd_nat,drop_cons B (j:=j) (by omega) 0]
    by_cases c:x=B.getD j 0
    · rw [if_pos c,← c];exact ⟨(j:Int),rfl,by simp⟩
    · rw [if_neg c];refine ⟨t,rfl,?_⟩;rw [t2];simp only [List.mem_cons,c,false_or]
theorem impl_has (B:List Int) (hB:B.length≤35184372088832) (x:Int) (k:Nat) (hk:B.length<k):slices_Contains_int64_int64.f k B x=some (decide (x ∈ B)):=by
  unfold slices_Contains_int64_int64.f slices_Index_int64_int64.f
  obtain ⟨t,t1,t2⟩:=impl_has_l0 B hB x B.length 0 k (by omega) hk
  rw [show ((0:Nat):Int)=0 from rfl] at t1
  rw [t1,Option.bind_some,t2,List.drop_zero]
/-- The numbers from 0 on. -/
def al (n:Nat):List Int:=(List.range n).map fun i:Nat=>(i:Int)
theorem al_len (n:Nat):(al n).length=n:=by simp [al]
theorem al_get (n i:Nat) (h:i<n):(al n).getD i 0=(i:Int):=by
  rw [getD_lt (by rw [al_len];exact h)];simp [al]
theorem al_mem (n:Nat) (x:Int):x ∈ al n↔0≤x∧x<(n:Int):=by
  unfold al
  rw [List.mem_map]
  constructor
  · rintro ⟨i,hi,rfl⟩
    rw [List.mem_range] at hi;omega
  · intro h
    exact ⟨x.toNat,List.mem_range.2 (by omega),by omega⟩
theorem len_le:∀ (B C:List Int),B.Nodup→(∀ x ∈ B,x ∈ C)→B.length≤C.length
  |[],C,_,_=>by simp
  |b :: B,C,hn,hs=>by
    rw [List.nodup_cons] at hn
    have h:=len_le B (C.erase b) hn.2 (fun x hx=>by
      have:x≠b:=fun e=>hn.1 (e ▸ hx)
      exact (List.mem_erase_of_ne this).2 (hs x (by simp [hx])))
    have hb:b ∈ C:=hs b (by simp)
    rw [List.length_erase_of_mem hb] at h
    have:=List.length_pos_of_mem hb
    simp only [List.length_cons];omega

def Ends (n:Nat) (P:List S100):Prop:=P.length≤20∧1≤n∧n≤16∧∀ i,i<P.length→(0≤(pat P i).f1∧(pat P i).f1<(n:Int))∧(0≤(pat P i).f2∧(pat P i).f2<(n:Int))
theorem ptAll_at (n:Nat) (P:List S100):∀ (d j:Nat),ptAll n P d j=true→∀ i,j≤i→i<j+d→ptOk n P i=true:=by
  intro d
  induction d with
  |zero=>intro j _ i h1 h2;omega
  |succ d ih=>
    intro j h i h1 h2
    have h3:(ptOk n P j&&ptAll n P d (j+1))=true:=h
    rw [Bool.and_eq_true] at h3
    by_cases e:i=j
    · subst e;exact h3.1
    · exact ih (j+1) h3.2 i (by omega) (by omega)
theorem netv_ends {N:List Int} {P:List S100} (h:netv N P=true) (hs:∀ x ∈ P,x.f0.size≤1048576):Ends N.length P:=by
  unfold netv netw at h
  simp only [Bool.and_eq_true,decide_eq_true_eq] at h
  obtain ⟨_,⟨h1,h2⟩,h3,h4⟩:=h
  refine ⟨h3,h1,h2,fun i hi=>?_⟩
  have h5:=ptAll_at N.length P P.length 0 h4 i (by omega) (by omega)
  unfold ptOk at h5
  simp only [Bool.and_eq_true,decide_eq_true_eq] at h5
  have h6:=(pv_spec (pat P i) (pat_lt hs hi)).2.2 h5.1
  exact ⟨⟨h6.1.1,h5.2.1⟩,⟨h6.2.1.1,h5.2.2.1⟩⟩

theorem getD_app {B e:List Int} {t:Nat} (h:t<B.length):(B++e).getD t 0=B.getD t 0:=by
  rw [getD_lt (by rw [List.length_append];omega),getD_lt h,List.getElem_append_left h]
theorem getD_mem {B:List Int} {t:Nat} (h:t<B.length):B.getD t 0 ∈ B:=by
  rw [getD_lt h];exact List.getElem_mem h

def sel (o:Nat→Bool):Nat→Nat→List Int
  |0,_=>[]
  |d+1,j=>(if o j=true then [(j:Int)] else [])++sel o d (j+1)
theorem sel_s (o:Nat→Bool) (d j:Nat):sel o (d+1) j=(if o j=true then [(j:Int)] else [])++sel o d (j+1):=rfl
theorem sel_mem (o:Nat→Bool) (x:Int):∀ d j,x ∈ sel o d j↔∃ i:Nat,j≤i∧i<j+d∧o i=true∧x=(i:Int):=by
  intro d
  induction d with
  |zero=>intro j;simp only [sel,List.not_mem_nil,false_iff];rintro ⟨i,h1,h2,_⟩;omega
  |succ d ih=>
    intro j
    rw [sel_s,List.mem_append,ih]
    constructor
    · rintro (h|⟨i,h1,h2,h3⟩)
      · split at h
        · rename_i c
          simp only [List.mem_singleton] at h
          exact ⟨j,by omega,by omega,c,h⟩
        · simp at h
      · exact ⟨i,by omega,by omega,h3⟩
    · rintro ⟨i,h1,h2,h3,h4⟩
      by_cases e:i=j
      · subst e;exact Or.inl (by rw [if_pos h3];simp [h4])
      · exact Or.inr ⟨i,by omega,by omega,h3,h4⟩
theorem sel_strict (o:Nat→Bool):∀ d j,(sel o d j).Pairwise (· < ·):=by
  intro d
  induction d with
  |zero=>intro j;simp [sel]
  |succ d ih=>
    intro j
    rw [sel_s,List.pairwise_append]
    refine ⟨by split<;>simp,ih (j+1),fun x hx y hy=>?_⟩
    obtain ⟨i,h1,h2,h3,h4⟩:=(sel_mem o y d (j+1)).1 hy
    split at hx
    · simp only [List.mem_singleton] at hx;omega
    · simp at hx
theorem sel_len (o:Nat→Bool):∀ d j,(sel o d j).length≤d:=by
  intro d
  induction d with
  |zero=>intro j;simp [sel]
  |succ d ih=>
    intro j
    have:=ih (j+1)
    rw [sel_s,List.length_append]
    split<;>simp<;>omega

def srt (l:List Int):List Int:=l.mergeSort fun x y=>decide (x≤y)
theorem srt_len (l:List Int):(srt l).length=l.length:=List.length_mergeSort l
theorem srt_mem (l:List Int) (x:Int):x ∈ srt l↔x ∈ l:=(List.mergeSort_perm l _).mem_iff
theorem sort_f (l:List Int) (h:l.length≤35184372088832):slices_Sort_int64_int64.f l=some (srt l):=by
  unfold slices_Sort_int64_int64.f
  rw [if_pos (by omega)];rfl
theorem strict_eq:∀ (A B:List Int),A.Pairwise (· < ·)→B.Pairwise (· < ·)→(∀ x,x ∈ A↔x ∈ B)→A=B
  |[],[],_,_,_=>rfl
  |[],b :: B,_,_,h=>by have:=(h b).2 (by simp);simp at this
  |a :: A,[],_,_,h=>by have:=(h a).1 (by simp);simp at this
  |a :: A,b :: B,hA,hB,h=>by
    rw [List.pairwise_cons] at hA hB
    have e:a=b:=by
      have h1:=(h a).1 (by simp)
      have h2:=(h b).2 (by simp)
      rcases List.mem_cons.1 h1 with e|e
      · exact e
      · rcases List.mem_cons.1 h2 with e2|e2
        · exact e2.symm
        · have:=hB.1 a e
          have:=hA.1 b e2
          omega
    subst e
    rw [strict_eq A B hA.2 hB.2 (fun x=>by
      have hx:=h x
      simp only [List.mem_cons] at hx
      constructor
      · intro m
        have:=hA.1 x m
        rcases hx.1 (Or.inr m) with e|e
        · omega
        · exact e
      · intro m
        have:=hB.1 x m
        rcases hx.2 (Or.inr m) with e|e
        · omega
        · exact e)]
theorem srt_le (l:List Int):(srt l).Pairwise (·≤·):=by
  have h:=List.pairwise_mergeSort (le:=fun (x y:Int)=>decide (x≤y)) (fun a b c h1 h2=>decide_eq_true (Int.le_trans (of_decide_eq_true h1) (of_decide_eq_true h2))) (fun a b=>by
    show (decide (a≤b) || decide (b≤a))=true
    rcases Int.le_total a b with h|h
    · rw [decide_eq_true h];rfl
    · rw [decide_eq_true h,Bool.or_true]) l
  exact h.imp (fun h=>by simpa using h)

/-! Regions: both programs walk in step. -/
theorem setB_get (l:List Bool) (i x:Nat) (hi:i<l.length):(l.set i true).getD x false=if i=x then true else l.getD x false:=by
  rw [List.getD_eq_getElem?_getD,List.getElem?_set,List.getD_eq_getElem?_getD]
  by_cases e:i=x
  · rw [if_pos e,if_pos e,if_pos (by omega)];rfl
  · rw [if_neg e,if_neg e]
theorem bl_irr:∀ x:List UInt8,Op.bytesLess x x=false
  |[]=>rfl
  |a :: x=>by rw [Op.bytesLess,bl_irr x];simp
theorem bl_tr:∀ x y z:List UInt8,Op.bytesLess x y=true→Op.bytesLess y z=true→Op.bytesLess x z=true
  |_,[],_,h,_=>by simp [Op.bytesLess] at h
  |_,_ :: _,[],_,h=>by simp [Op.bytesLess] at h
  |[],_ :: _,_ :: _,_,_=>rfl
  |a :: x,b :: y,c :: z,h1,h2=>by
    simp only [Op.bytesLess,Bool.or_eq_true,Bool.and_eq_true,decide_eq_true_eq,beq_iff_eq] at *
    rcases h1 with h1|⟨rfl,h1⟩
    · rcases h2 with h2|⟨rfl,h2⟩
      · exact Or.inl (UInt8.lt_trans h1 h2)
      · exact Or.inl h1
    · rcases h2 with h2|⟨rfl,h2⟩
      · exact Or.inl h2
      · exact Or.inr ⟨rfl,bl_tr x y z h1 h2⟩
theorem names_lt {N:List Int} {P:List S100} (h:netv N P=true):∀ d i,i+d+1<P.length→less (pat P i).f0 (pat P (i+d+1)).f0=true:=by
  have h4:ptAll N.length P P.length 0=true:=by
    unfold netv netw at h
    simp only [Bool.and_eq_true] at h
    exact h.2.2.2
  have one:∀ i,i+1<P.length→less (pat P i).f0 (pat P (i+1)).f0=true:=by
    intro i hi
    have h5:=ptAll_at N.length P P.length 0 h4 (i+1) (by omega) (by omega)
    unfold ptOk at h5
    simp only [Bool.and_eq_true] at h5
    have h6:=h5.2.2.2
    rw [if_neg (by omega)] at h6
    exact h6
  intro d
  induction d with
  |zero=>intro i hi;exact one i hi
  |succ d ih=>
    intro i hi
    exact bl_tr _ _ _ (ih i (by omega)) (one (i+d+1) (by omega))
theorem names_inj {N:List Int} {P:List S100} (h:netv N P=true) {i j:Nat} (hi:i<P.length) (hj:j<P.length) (e:(pat P i).f0.toList=(pat P j).f0.toList):i=j:=by
  have key:∀ a b,a<b→b<P.length→¬ (pat P a).f0.toList=(pat P b).f0.toList:=by
    intro a b hab hb e
    have:=names_lt h (b - a - 1) a (by omega)
    rw [show a+(b - a - 1)+1=b by omega] at this
    unfold less at this
    rw [e,bl_irr] at this
    cases this
  rcases Nat.lt_trichotomy i j with c|c|c
  · exact absurd e (key i j c hj)
  · exact c
  · exact absurd e.symm (key j i c hi)
theorem idx_at {N:List Int} {P:List S100} (h:netv N P=true) (s:ByteArray) (i:Nat) (hi:i<P.length):∀ d j,j+d=P.length→(idx P s d j=(i:Int)↔j≤i∧(pat P i).f0.toList=s.toList):=by
  intro d
  induction d with
  |zero=>
    intro j hj
    constructor
    · intro q;have:idx P s 0 j= -1:=rfl;omega
    · intro q;omega
  |succ d ih=>
    intro j hj
    rw [idx_s]
    by_cases c:(pat P j).f0.toList=s.toList
    · rw [if_pos c]
      constructor
      · intro q
        have:j=i:=by omega
        subst this;exact ⟨Nat.le_refl _,c⟩
      · intro q
        have:=names_inj h hi (show j<P.length by omega) (q.2.trans c.symm)
        omega
    · rw [if_neg c,ih (j+1) (by omega)]
      constructor
      · intro q;exact ⟨by omega,q.2⟩
      · intro q
        refine ⟨?_,q.2⟩
        rcases Nat.lt_or_ge j i with c2|c2
        · omega
        · have:j=i:=by omega
          subst this;exact absurd q.2 c
/-- Does a valve stand at an end of a pipe? -/
def sta (P:List S100) (V:List S51) (i:Nat) (b:Bool):Bool:=V.any fun v=>decide (v.f1.toList=(pat P i).f0.toList)&&(v.f2==b)
theorem impl_sta_l0 (P:List S100) (i:Nat) (b:Bool) (V:List S51) (hV:V.length≤1048576):∀ (d j k:Nat),j+d=V.length→d<k→∃ t,impl_Valve_107_c108.l0 k V (V.length:Int) (j:Int) [(pat P i).f0] [b]=some t∧decide (t≥0)=sta P (V.drop j) i b:=by
  intro d
  induction d with
  |zero=>
    intro j k hj hk
    obtain ⟨k,rfl⟩:=suc_of hk
    simp only [impl_Valve_107_c108.l0]
    rw [if_neg (by omega),List.drop_eq_nil_of_le (by omega)];exact ⟨-1,rfl,rfl⟩
  |succ d ih=>
    intro j k hj hk
    obtain ⟨k,rfl⟩:=suc_of hk
    obtain ⟨t,t1,t2⟩:=ih (j+1) k (by omega) (by omega)
    simp only [impl_Valve_107_c108.l0,show ∀ (V:List S51) (i:Nat),rd_T51 V (i:Int)=vat V i from fun _ _=>rfl,impl_stands_1.f]
    rw [if_pos (by omega),if_pos (by omega),if_pos (by omega),if_pos (by simp),next_nat (n:=V.length) (by omega) (by omega),t1,show rdOf ByteArray.empty [(pat P i).f0] 0=(pat P i).f0 from rfl,show rdOf false [b] 0=b from rfl,drop_cons V (j:=j) (by omega) z51]
    have e:sta P (V.getD j z51 :: V.drop (j+1)) i b=(decide ((vat V j).f1.toList=(pat P i).f0.toList)&&((vat V j).f2==b) || sta P (V.drop (j+1)) i b):=rfl
    rw [e]
    by_cases c:(vat V j).f1.toList=(pat P i).f0.toList
    · rw [if_pos c,if_pos (show (0:Int)<(([b].length:Nat):Int) by simp),decide_eq_true c,Bool.true_and,Option.bind_some]
      cases (vat V j).f2==b
      · rw [if_neg Bool.false_ne_true,Bool.false_or];exact ⟨t,rfl,t2⟩
      · exact ⟨(j:Int),rfl,by simp⟩
    · rw [if_neg c,decide_eq_false c,Bool.false_and,Bool.false_or,Option.bind_some,if_neg Bool.false_ne_true];exact ⟨t,rfl,t2⟩
theorem impl_sta (P:List S100) (i:Nat) (b:Bool) (V:List S51) (hV:V.length≤1048576) (k:Nat) (hk:V.length<k):impl_stands.f k V (pat P i).f0 b=some (sta P V i b):=by
  unfold impl_stands.f impl_Valve_77_c108.f impl_Valve_107_c108.f
  obtain ⟨t,t1,t2⟩:=impl_sta_l0 P i b V hV V.length 0 k (by omega) hk
  rw [show ((0:Nat):Int)=0 from rfl] at t1
  rw [t1,Option.bind_some,Option.bind_some,t2,List.drop_zero]
/-- .. of those that are chosen. -/
def stc (P:List S100) (V:List S51) (C:List Bool) (i:Nat) (b:Bool):Nat→Nat→Bool
  |0,_=>false
  |d+1,j=>(C.getD j false&&(((vat V j).f2==b)&&decide ((vat V j).f1.toList=(pat P i).f0.toList))) || stc P V C i b d (j+1)
theorem stc_s (P:List S100) (V:List S51) (C:List Bool) (i:Nat) (b:Bool) (d j:Nat):stc P V C i b (d+1) j=((C.getD j false&&(((vat V j).f2==b)&&decide ((vat V j).f1.toList=(pat P i).f0.toList))) || stc P V C i b d (j+1)):=rfl
theorem spec_sta_l0 {N:List Int} {P:List S100} (h:netv N P=true) (hP:P.length≤1048576) (i:Nat) (hi:i<P.length) (b:Bool) (V:List S51) (C:List Bool) (hV:V.length≤1048576) (hC:C.length=V.length):∀ (d j k:Nat),j+d=V.length→1048600+d<k→spec_l18Stands.l0 k [(⟨N,P⟩:S33)] V C (i:Int) b (j:Int)=some (stc P V C i b d j):=by
  intro d
  induction d with
  |zero=>
    intro j k hj hk
    obtain ⟨k,rfl⟩:=suc_of hk
    simp only [spec_l18Stands.l0]
    rw [if_neg (by omega)];rfl
  |succ d ih=>
    intro j k hj hk
    obtain ⟨k,rfl⟩:=suc_of hk
    have hr:=ih (j+1) k (by omega) (by omega)
    have hx:=spec_idx N P hP (vat V j) P.length 0 k (by omega) (by omega)
    rw [show ((0:Nat):Int)=0 from rfl] at hx
    have hi2:=idx_at h (vat V j).f1 i hi P.length 0 (by omega)
    simp only [spec_l18Stands.l0,spec_l18Pipe.f,show ∀ (V:List S51) (i:Nat),rd_T51 V (i:Int)=vat V i from fun _ _=>rfl,show ∀ (l:List Bool) (x:Nat),rdOf false l (x:Int)=l.getD x false from fun _ _=>rfl]
    rw [if_pos (by omega),if_pos (by omega),if_pos (by omega),next_nat (n:=V.length) (by omega) (by omega),hr,hx,Option.bind_some]
    rw [stc_s]
    cases C.getD j false
    · rw [if_neg Bool.false_ne_true,Bool.false_and,Bool.false_or]
    · rw [if_pos rfl,Bool.true_and]
      cases (vat V j).f2==b
      · rw [if_neg Bool.false_ne_true,Bool.false_and,Bool.false_or]
      · rw [if_pos rfl,Bool.true_and]
        by_cases c:(vat V j).f1.toList=(pat P i).f0.toList
        · rw [if_pos (hi2.2 ⟨by omega,c.symm⟩),decide_eq_true c,Bool.true_or]
        · rw [if_neg (fun q=>c (hi2.1 q).2.symm),decide_eq_false c,Bool.false_or]
theorem stc_all (P:List S100) (V:List S51) (C:List Bool) (i:Nat) (b:Bool) (hC:∀ j,j<V.length→C.getD j false=true):∀ d j,j+d=V.length→stc P V C i b d j=sta P (V.drop j) i b:=by
  intro d
  induction d with
  |zero=>intro j hj;rw [List.drop_eq_nil_of_le (by omega)];rfl
  |succ d ih=>
    intro j hj
    rw [stc_s,hC j (by omega),ih (j+1) (by omega),drop_cons V (j:=j) (by omega) z51,Bool.true_and,Bool.and_comm]
    rfl

/-! One end of one pipe. -/
def en (P:List S100) (i:Nat) (b:Bool):Int:=if b=true then (pat P i).f2 else (pat P i).f1
def actI (p q s:Bool) (i e:Int) (t:List Int × List Int × Bool):List Int × List Int × Bool:=if ((p==q) || s)=true then t else if p=true then (t.1,t.2.1++[e],true) else (t.1++[i],t.2.1,true)
def actS (p q s:Bool) (i e:Nat) (u:List Bool × List Bool × Bool):List Bool × List Bool × Bool:=if ((p==q) || s)=true then u else (u.1.set i true,u.2.1.set e true,true)
def stepI (P:List S100) (s:Bool) (i:Nat) (b:Bool) (t:List Int × List Int × Bool):List Int × List Int × Bool:=actI (decide ((i:Int) ∈ t.1)) (decide (en P i b ∈ t.2.1)) s i (en P i b) t
def stepS (P:List S100) (s:Bool) (i:Nat) (b:Bool) (u:List Bool × List Bool × Bool):List Bool × List Bool × Bool:=actS (u.1.getD i false) (u.2.1.getD (en P i b).toNat false) s i (en P i b).toNat u
def Same (n:Nat) (R:List Int) (B:List Bool):Prop:=B.length=n∧R.Nodup∧(∀ x ∈ R,0≤x∧x<(n:Int))∧∀ x:Nat,x<n→B.getD x false=decide ((x:Int) ∈ R)
theorem Same.len {n:Nat} {R:List Int} {B:List Bool} (h:Same n R B):R.length≤n:=by
  have:=len_le R (al n) h.2.1 (fun x hx=>(al_mem _ x).2 (h.2.2.1 x hx))
  rwa [al_len] at this
theorem Same.at {n:Nat} {R:List Int} {B:List Bool} (h:Same n R B) {e:Int} (h0:0≤e) (h1:e<(n:Int)):B.getD e.toNat false=decide (e ∈ R):=by
  rw [h.2.2.2 e.toNat (by omega),Int.toNat_of_nonneg h0]
theorem Same.stay {n:Nat} {R:List Int} {B:List Bool} (h:Same n R B) {e:Int} (h0:0≤e) (h1:e<(n:Int)) (hm:e ∈ R):Same n R (B.set e.toNat true):=by
  have hl:=h.1
  refine ⟨by rw [List.length_set];exact hl,h.2.1,h.2.2.1,fun x hx=>?_⟩
  rw [setB_get _ _ _ (by omega)]
  by_cases c:e.toNat=x
  · rw [if_pos c,← c,Int.toNat_of_nonneg h0,decide_eq_true hm]
  · rw [if_neg c];exact h.2.2.2 x hx
theorem Same.add {n:Nat} {R:List Int} {B:List Bool} (h:Same n R B) {e:Int} (h0:0≤e) (h1:e<(n:Int)) (hm:¬ e ∈ R):Same n (R++[e]) (B.set e.toNat true):=by
  have hl:=h.1
  refine ⟨by rw [List.length_set];exact hl,?_,fun x hx=>?_,fun x hx=>?_⟩
  · rw [List.nodup_append]
    refine ⟨h.2.1,by simp,fun a ha b hb e2=>?_⟩
    simp only [List.mem_singleton] at hb
    subst hb;exact hm (e2 ▸ ha)
  · rcases List.mem_append.1 hx with hx|hx
    · exact h.2.2.1 x hx
    · simp only [List.mem_singleton] at hx;subst hx;exact ⟨h0,h1⟩
  · rw [setB_get _ _ _ (by omega)]
    by_cases c:e.toNat=x
    · rw [if_pos c,← c,Int.toNat_of_nonneg h0,decide_eq_true (by simp)]
    · rw [if_neg c,h.2.2.2 x hx]
      have:¬ (x:Int)=e:=by omega
      simp only [List.mem_append,List.mem_singleton,this,or_false]
def Rel (n:Nat) (P:List S100) (t:List Int × List Int × Bool) (u:List Bool × List Bool × Bool):Prop:=Same P.length t.1 u.1∧Same n t.2.1 u.2.1∧t.2.2=u.2.2
def sz (t:List Int × List Int × Bool):Nat:=t.1.length+t.2.1.length
theorem en_b {n:Nat} {P:List S100} (hE:Ends n P) {i:Nat} (hi:i<P.length) (b:Bool):0≤en P i b∧en P i b<(n:Int):=by
  obtain ⟨e1,e2⟩:=hE.2.2.2 i hi
  unfold en
  cases b
  · exact e1
  · exact e2
theorem step_rel {n:Nat} {P:List S100} (hE:Ends n P) {i:Nat} (hi:i<P.length) (b s:Bool) {t:List Int × List Int × Bool} {u:List Bool × List Bool × Bool} (h:Rel n P t u):Rel n P (stepI P s i b t) (stepS P s i b u)∧(stepI P s i b t=t∨((stepI P s i b t).2.2=true∧sz (stepI P s i b t)=sz t+1)):=by
  obtain ⟨h1,h2,h3⟩:=h
  obtain ⟨e0,e1⟩:=en_b hE hi b
  have a1:=h1.at (e:=(i:Int)) (by omega) (by omega)
  rw [Int.toNat_natCast] at a1
  have a2:=h2.at e0 e1
  unfold stepI stepS
  rw [a1,a2]
  have i1:=fun hm=>h1.stay (e:=(i:Int)) (by omega) (by omega) hm
  have i2:=fun hm=>h1.add (e:=(i:Int)) (by omega) (by omega) hm
  rw [Int.toNat_natCast] at i1 i2
  cases s
  · by_cases c1:(i:Int) ∈ t.1
    · by_cases c2:en P i b ∈ t.2.1
      · rw [decide_eq_true c1,decide_eq_true c2];exact ⟨⟨h1,h2,h3⟩,Or.inl rfl⟩
      · rw [decide_eq_true c1,decide_eq_false c2]
        refine ⟨⟨i1 c1,h2.add e0 e1 c2,rfl⟩,Or.inr ⟨rfl,?_⟩⟩
        show t.1.length+(t.2.1++[en P i b]).length=t.1.length+t.2.1.length+1
        rw [List.length_append];rfl
    · by_cases c2:en P i b ∈ t.2.1
      · rw [decide_eq_false c1,decide_eq_true c2]
        refine ⟨⟨i2 c1,h2.stay e0 e1 c2,rfl⟩,Or.inr ⟨rfl,?_⟩⟩
        show (t.1++[(i:Int)]).length+t.2.1.length=t.1.length+t.2.1.length+1
        rw [List.length_append];simp only [List.length_cons,List.length_nil];omega
      · rw [decide_eq_false c1,decide_eq_false c2];exact ⟨⟨h1,h2,h3⟩,Or.inl rfl⟩
  · have x1:∀ p q:Bool,actI p q true i (en P i b) t=t:=fun p q=>if_pos (Bool.or_true _)
    have x2:∀ p q:Bool,actS p q true i (en P i b).toNat u=u:=fun p q=>if_pos (Bool.or_true _)
    rw [x1,x2];exact ⟨⟨h1,h2,h3⟩,Or.inl rfl⟩
def passI (P:List S100) (st:Nat→Bool→Bool):Nat→Nat→List Int × List Int × Bool→List Int × List Int × Bool
  |0,_,t=>t
  |d+1,j,t=>passI P st d (j+1) (stepI P (st j true) j true (stepI P (st j false) j false t))
theorem passI_s (P:List S100) (st:Nat→Bool→Bool) (d j:Nat) (t:List Int × List Int × Bool):passI P st (d+1) j t=passI P st d (j+1) (stepI P (st j true) j true (stepI P (st j false) j false t)):=rfl
def passS (P:List S100) (st:Nat→Bool→Bool):Nat→Nat→List Bool × List Bool × Bool→List Bool × List Bool × Bool
  |0,_,u=>u
  |d+1,j,u=>passS P st d (j+1) (stepS P (st j true) j true (stepS P (st j false) j false u))
theorem passS_s (P:List S100) (st:Nat→Bool→Bool) (d j:Nat) (u:List Bool × List Bool × Bool):passS P st (d+1) j u=passS P st d (j+1) (stepS P (st j true) j true (stepS P (st j false) j false u)):=rfl
/-- What is so from t to t2: nothing changed, or there is more. -/
def Grew (t t2:List Int × List Int × Bool):Prop:=t2=t∨(t2.2.2=true∧sz t<sz t2)
theorem Grew.trans {a b c:List Int × List Int × Bool} (h1:Grew a b) (h2:Grew b c):Grew a c:=by
  rcases h2 with rfl|⟨f,h2⟩
  · exact h1
  · rcases h1 with rfl|⟨_,h1⟩
    · exact Or.inr ⟨f,h2⟩
    · exact Or.inr ⟨f,by omega⟩
theorem step_grew {n:Nat} {P:List S100} (hE:Ends n P) {i:Nat} (hi:i<P.length) (b s:Bool) {t:List Int × List Int × Bool} {u:List Bool × List Bool × Bool} (h:Rel n P t u):Rel n P (stepI P s i b t) (stepS P s i b u)∧Grew t (stepI P s i b t):=by
  obtain ⟨h1,h2⟩:=step_rel hE hi b s h
  refine ⟨h1,?_⟩
  rcases h2 with h2|⟨f,h2⟩
  · exact Or.inl h2
  · exact Or.inr ⟨f,by omega⟩
theorem pass_rel {n:Nat} {P:List S100} (hE:Ends n P) (st:Nat→Bool→Bool):∀ (d j:Nat) (t:List Int × List Int × Bool) (u:List Bool × List Bool × Bool),j+d=P.length→Rel n P t u→Rel n P (passI P st d j t) (passS P st d j u)∧Grew t (passI P st d j t):=by
  intro d
  induction d with
  |zero=>intro j t u _ h;exact ⟨h,Or.inl rfl⟩
  |succ d ih=>
    intro j t u hj h
    obtain ⟨a1,a2⟩:=step_grew hE (show j<P.length by omega) false (st j false) h
    obtain ⟨b1,b2⟩:=step_grew hE (show j<P.length by omega) true (st j true) a1
    obtain ⟨c1,c2⟩:=ih (j+1) _ _ (by omega) b1
    rw [passI_s,passS_s]
    exact ⟨c1,(a2.trans b2).trans c2⟩
theorem Rel.le {n:Nat} {P:List S100} {t:List Int × List Int × Bool} {u:List Bool × List Bool × Bool} (h:Rel n P t u):t.1.length≤P.length∧t.2.1.length≤n:=⟨h.1.len,h.2.1.len⟩

theorem pk0 {α:Type} (a b:α):pk_ (0:Int) a b=a:=if_pos rfl
theorem pk1 {α:Type} (a b:α):pk_ (1:Int) a b=b:=if_neg (by decide)
theorem w01:wrap64 ((0:Int)+1)=1:=wrap_id (by omega) (by omega)
theorem w12:wrap64 ((1:Int)+1)=2:=wrap_id (by omega) (by omega)
def sideI (b:Bool):Int:=if b=true then 1 else 0
theorem impl_side (N:List Int) (P:List S100) (V:List S51) (hV:V.length≤1048576) (i:Nat) (b m:Bool) (rp rn:List Int) (hp:rp.length≤100) (hn:rn.length≤100) (k:Nat) (hk:1048600<k):
    impl_region_spread.l2 (k+1+1) V m (i:Int) P (P.length:Int) (i:Int) (sideI b) (pat P i).f1 false (pat P i).f2 true rp rn N P (pat P i).f0 (pat P i).f1 (pat P i).f2 (pat P i).f3 (pat P i).f4 (pat P i).f5=
    impl_region_spread.l2 k V (stepI P (sta P V i b) i b (rp,rn,m)).2.2 (i:Int) P (P.length:Int) (i:Int) (sideI b+1) (pat P i).f1 false (pat P i).f2 true (stepI P (sta P V i b) i b (rp,rn,m)).1 (stepI P (sta P V i b) i b (rp,rn,m)).2.1 N P (pat P i).f0 (pat P i).f1 (pat P i).f2 (pat P i).f3 (pat P i).f4 (pat P i).f5:=by
  have hs:=impl_sta P i b V hV (k+1) (by omega)
  have c1:=impl_has rp (by omega) (i:Int) (k+1) (by omega)
  have c2:=impl_has rn (by omega) (en P i b) (k+1) (by omega)
  have q1:pk_ (sideI b) (pat P i).f1 (pat P i).f2=en P i b:=by
    cases b
    · exact pk0 _ _
    · exact pk1 _ _
  have q2:pk_ (sideI b) false true=b:=by
    cases b
    · exact pk0 _ _
    · exact pk1 _ _
  have q3:wrap64 (sideI b+1)=sideI b+1:=by
    cases b
    · exact w01
    · exact w12
  have r1:sideI b<2:=by cases b<;>decide
  have r2:0≤sideI b:=by cases b<;>decide
  have g1:rp.length<17592186044416:=by omega
  have g2:rn.length<17592186044416:=by omega
  simp only [impl_region_spread.l2,q1,q2]
  rw [if_pos r1,if_pos r2,c1,Option.bind_some,c2,Option.bind_some,hs,Option.bind_some]
  unfold stepI
  show _=impl_region_spread.l2 k V (actI (decide ((i:Int) ∈ rp)) (decide (en P i b ∈ rn)) (sta P V i b) i (en P i b) (rp,rn,m)).2.2 (i:Int) P (P.length:Int) (i:Int) (sideI b+1) (pat P i).f1 false (pat P i).f2 true (actI (decide ((i:Int) ∈ rp)) (decide (en P i b ∈ rn)) (sta P V i b) i (en P i b) (rp,rn,m)).1 (actI (decide ((i:Int) ∈ rp)) (decide (en P i b ∈ rn)) (sta P V i b) i (en P i b) (rp,rn,m)).2.1 N P (pat P i).f0 (pat P i).f1 (pat P i).f2 (pat P i).f3 (pat P i).f4 (pat P i).f5
  generalize decide ((i:Int) ∈ rp)=p
  generalize decide (en P i b ∈ rn)=q
  generalize sta P V i b=s
  cases p<;>cases q<;>cases s<;>(simp only [impl_region_spread.j3];rw [q3];first|rfl|(rw [if_pos g1];rfl)|(rw [if_pos g2];rfl))
theorem spec_side {N:List Int} {P:List S100} (h:netv N P=true) (hE:Ends N.length P) (V:List S51) (C:List Bool) (hV:V.length≤1048576) (hC:C.length=V.length) (i:Nat) (hi:i<P.length) (b c:Bool) (bp bn:List Bool) (hp:bp.length=P.length) (hn:bn.length=N.length) (k:Nat) (hk:2097200<k):
    spec_l18Spread.l2 (k+1) [(⟨N,P⟩:S33)] V C bp bn c (i:Int) (sideI b)=
    spec_l18Spread.l2 k [(⟨N,P⟩:S33)] V C (stepS P (stc P V C i b V.length 0) i b (bp,bn,c)).1 (stepS P (stc P V C i b V.length 0) i b (bp,bn,c)).2.1 (stepS P (stc P V C i b V.length 0) i b (bp,bn,c)).2.2 (i:Int) (sideI b+1):=by
  have h20:=hE.1
  obtain ⟨e0,e1⟩:=en_b hE hi b
  have hs:=spec_sta_l0 h (by omega) i hi b V C hV hC V.length 0 k (by omega) (by omega)
  rw [show ((0:Nat):Int)=0 from rfl] at hs
  have q3:wrap64 (sideI b+1)=sideI b+1:=by
    cases b
    · exact w01
    · exact w12
  unfold stepS
  show _=spec_l18Spread.l2 k [(⟨N,P⟩:S33)] V C (actS (bp.getD i false) (bn.getD (en P i b).toNat false) (stc P V C i b V.length 0) i (en P i b).toNat (bp,bn,c)).1 (actS (bp.getD i false) (bn.getD (en P i b).toNat false) (stc P V C i b V.length 0) i (en P i b).toNat (bp,bn,c)).2.1 (actS (bp.getD i false) (bn.getD (en P i b).toNat false) (stc P V C i b V.length 0) i (en P i b).toNat (bp,bn,c)).2.2 (i:Int) (sideI b+1)
  simp only [spec_l18Spread.l2,spec_l18Stands.f,show rd_T33 [(⟨N,P⟩:S33)] 0=⟨N,P⟩ from rfl,show ∀ i:Nat,rd_T100 P (i:Int)=pat P i from fun _=>rfl,show ∀ (l:List Bool) (x:Int),rdOf false l x=l.getD x.toNat false from fun _ _=>rfl,Int.toNat_natCast]
  have r1:sideI b<2:=by cases b<;>decide
  rw [if_pos r1,if_pos (by simp),if_pos (by omega),if_pos (by omega)]
  cases b
  · have e:en P i false=(pat P i).f1:=rfl
    rw [e] at e0 e1 ⊢
    rw [if_neg (show ¬ sideI false=1 by decide),if_pos (by omega),if_pos e0,if_pos (by omega),show (sideI false==1)=false from rfl,hs,Option.bind_some,q3]
    generalize bp.getD i false=p
    generalize bn.getD (pat P i).f1.toNat false=q
    generalize stc P V C i false V.length 0=s
    cases p<;>cases q<;>cases s<;>rfl
  · have e:en P i true=(pat P i).f2:=rfl
    rw [e] at e0 e1 ⊢
    rw [if_pos (show sideI true=1 from rfl),if_pos (by omega),if_pos e0,if_pos (by omega),show (sideI true==1)=true from rfl,hs,Option.bind_some,q3]
    generalize bp.getD i false=p
    generalize bn.getD (pat P i).f2.toNat false=q
    generalize stc P V C i true V.length 0=s
    cases p<;>cases q<;>cases s<;>rfl
theorem pass_walk {N:List Int} {P:List S100} (h:netv N P=true) (hE:Ends N.length P) (W V:List S51) (C:List Bool) (hW:W.length≤1048576) (hV:V.length≤1048576) (hC:C.length=V.length) (hst:∀ i b,stc P V C i b V.length 0=sta P W i b):∀ (d j:Nat) (t:List Int × List Int × Bool) (u:List Bool × List Bool × Bool),j+d=P.length→Rel N.length P t u→
    (∀ k,1048600<k→impl_region_spread.l1 (k+6 * d+1) W t.2.2 P (P.length:Int) (j:Int) t.1 t.2.1 N P=impl_region_spread.l0 k W (passI P (sta P W) d j t).2.2 (passI P (sta P W) d j t).1 (passI P (sta P W) d j t).2.1 N P)∧
    (∀ k,2097200<k→spec_l18Spread.l1 (k+4 * d+1) [(⟨N,P⟩:S33)] V C u.1 u.2.1 u.2.2 (j:Int)=spec_l18Spread.l0 k [(⟨N,P⟩:S33)] V C (passS P (sta P W) d j u).1 (passS P (sta P W) d j u).2.1 (passS P (sta P W) d j u).2.2):=by
  intro d
  induction d with
  |zero=>
    intro j t u hj hr
    have hl:=hr.1.1
    refine ⟨fun k hk=>?_,fun k hk=>?_⟩
    · rw [show k+6 * 0+1=k+1 from rfl]
      simp only [impl_region_spread.l1]
      rw [if_neg (by omega)];rfl
    · rw [show k+4 * 0+1=k+1 from rfl]
      simp only [spec_l18Spread.l1]
      rw [if_neg (by omega)];rfl
  |succ d ih=>
    intro j t u hj hr
    have h20:=hE.1
    have h16:=hE.2.2.1
    have hj2:j<P.length:=by omega
    have a1:=(step_rel hE hj2 false (sta P W j false) hr).1
    have b1:=(step_rel hE hj2 true (sta P W j true) a1).1
    obtain ⟨c1,c2⟩:=ih (j+1) _ _ (by omega) b1
    refine ⟨fun k hk=>?_,fun k hk=>?_⟩
    · obtain ⟨F,hF⟩:∃ F,F=k+6 * d+1:=⟨_,rfl⟩
      have g1:=hr.le
      have g2:=a1.le
      rw [show k+6 * (d+1)+1=F+1+1+1+1+1+1 by omega]
      simp only [impl_region_spread.l1,show ∀ i:Nat,rd_T100 P (i:Int)=pat P i from fun _=>rfl]
      rw [if_pos (by omega),if_pos (by omega),if_pos (by omega)]
      have s1:=impl_side N P W hW j false t.2.2 t.1 t.2.1 (by omega) (by omega) (F+1+1+1) (by omega)
      have s2:=impl_side N P W hW j true (stepI P (sta P W j false) j false t).2.2 (stepI P (sta P W j false) j false t).1 (stepI P (sta P W j false) j false t).2.1 (by omega) (by omega) (F+1) (by omega)
      rw [show sideI false=0 from rfl] at s1
      rw [show sideI true=0+1 from rfl] at s2
      rw [s1,s2]
      have s3:∀ (m:Bool) (rp rn:List Int),impl_region_spread.l2 (F+1) W m (j:Int) P (P.length:Int) (j:Int) (0+1+1) (pat P j).f1 false (pat P j).f2 true rp rn N P (pat P j).f0 (pat P j).f1 (pat P j).f2 (pat P j).f3 (pat P j).f4 (pat P j).f5=impl_region_spread.l1 F W m P (P.length:Int) (wrap64 ((j:Int)+1)) rp rn N P:=fun m rp rn=>by
        simp only [impl_region_spread.l2]
        rw [if_neg (by decide)]
      rw [s3,next_nat (n:=P.length) (by omega) (by omega),hF,passI_s]
      exact c1 k hk
    · obtain ⟨F,hF⟩:∃ F,F=k+4 * d+1:=⟨_,rfl⟩
      have l1:=hr.1.1
      have l2:=hr.2.1.1
      have m1:=a1.1.1
      have m2:=a1.2.1.1
      rw [show k+4 * (d+1)+1=F+1+1+1+1 by omega]
      simp only [spec_l18Spread.l1]
      rw [if_pos (by omega)]
      have s1:=spec_side h hE V C hV hC j hj2 false u.2.2 u.1 u.2.1 l1 l2 (F+1+1) (by omega)
      rw [hst,show sideI false=0 from rfl] at s1
      have s2:=spec_side h hE V C hV hC j hj2 true (stepS P (sta P W j false) j false u).2.2 (stepS P (sta P W j false) j false u).1 (stepS P (sta P W j false) j false u).2.1 m1 m2 (F+1) (by omega)
      rw [hst,show sideI true=0+1 from rfl] at s2
      rw [s1,s2]
      have s3:∀ (bp bn:List Bool) (c:Bool),spec_l18Spread.l2 (F+1) [(⟨N,P⟩:S33)] V C bp bn c (j:Int) (0+1+1)=spec_l18Spread.l1 F [(⟨N,P⟩:S33)] V C bp bn c (wrap64 ((j:Int)+1)):=fun bp bn c=>by
        simp only [spec_l18Spread.l2]
        rw [if_neg (by decide)]
      rw [s3,next_nat (n:=P.length) (by omega) (by omega),hF,passS_s]
      exact c2 k hk
/-- Both spread to the same. -/
theorem loop_both {N:List Int} {P:List S100} (h:netv N P=true) (hE:Ends N.length P) (W V:List S51) (C:List Bool) (hW:W.length≤1048576) (hV:V.length≤1048576) (hC:C.length=V.length) (hst:∀ i b,stc P V C i b V.length 0=sta P W i b):∀ (n:Nat) (t:List Int × List Int × Bool) (u:List Bool × List Bool × Bool),36≤sz t+n→Rel N.length P t u→∃ (t':List Int × List Int × Bool) (u':List Bool × List Bool × Bool),Rel N.length P t' u'∧(∀ k,2097500+200 * n<k→impl_region_spread.l0 k W true t.1 t.2.1 N P=some (srt t'.1,srt t'.2.1))∧∀ k,2097500+200 * n<k→spec_l18Spread.l0 k [(⟨N,P⟩:S33)] V C u.1 u.2.1 true=some (u'.1,u'.2.1):=by
  have h20:=hE.1
  have h16:=hE.2.2.1
  have go:∀ (t:List Int × List Int × Bool) (u:List Bool × List Bool × Bool),Rel N.length P t u→∃ (t1:List Int × List Int × Bool) (u1:List Bool × List Bool × Bool),Rel N.length P t1 u1∧Grew (t.1,t.2.1,false) t1∧(∀ k,2097200<k→impl_region_spread.l0 (k+200) W true t.1 t.2.1 N P=impl_region_spread.l0 (k+200 - 6 * P.length - 2) W t1.2.2 t1.1 t1.2.1 N P)∧∀ k,2097200<k→spec_l18Spread.l0 (k+200) [(⟨N,P⟩:S33)] V C u.1 u.2.1 true=spec_l18Spread.l0 (k+200 - 4 * P.length - 2) [(⟨N,P⟩:S33)] V C u1.1 u1.2.1 u1.2.2:=by
    intro t u hr
    have hr0:Rel N.length P (t.1,t.2.1,false) (u.1,u.2.1,false):=⟨hr.1,hr.2.1,rfl⟩
    obtain ⟨p1,p2⟩:=pass_rel hE (sta P W) P.length 0 _ _ (by omega) hr0
    obtain ⟨w1,w2⟩:=pass_walk h hE W V C hW hV hC hst P.length 0 _ _ (by omega) hr0
    refine ⟨_,_,p1,p2,fun k hk=>?_,fun k hk=>?_⟩
    · have:=w1 (k+200 - 6 * P.length - 2) (by omega)
      rw [show k+200 - 6 * P.length - 2+6 * P.length+1=k+199 by omega] at this
      rw [show k+200=k+199+1 from rfl]
      simp only [impl_region_spread.l0]
      rw [if_pos trivial]
      exact this
    · have:=w2 (k+200 - 4 * P.length - 2) (by omega)
      rw [show k+200 - 4 * P.length - 2+4 * P.length+1=k+199 by omega] at this
      rw [show k+200=k+199+1 from rfl]
      simp only [spec_l18Spread.l0]
      rw [if_pos trivial]
      exact this
  have stop:∀ (t1:List Int × List Int × Bool) (u1:List Bool × List Bool × Bool),Rel N.length P t1 u1→t1.2.2=false→(∀ k,0<k→impl_region_spread.l0 k W t1.2.2 t1.1 t1.2.1 N P=some (srt t1.1,srt t1.2.1))∧∀ k,0<k→spec_l18Spread.l0 k [(⟨N,P⟩:S33)] V C u1.1 u1.2.1 u1.2.2=some (u1.1,u1.2.1):=by
    intro t1 u1 hr hf
    have hl:=hr.le
    refine ⟨fun k hk=>?_,fun k hk=>?_⟩
    · obtain ⟨k,rfl⟩:=suc_of hk
      simp only [impl_region_spread.l0]
      rw [hf,if_neg Bool.false_ne_true,sort_f _ (by omega),Option.bind_some,sort_f _ (by omega),Option.bind_some]
    · obtain ⟨k,rfl⟩:=suc_of hk
      simp only [spec_l18Spread.l0]
      rw [← hr.2.2,hf,if_neg Bool.false_ne_true]
  intro n
  induction n with
  |zero=>
    intro t u hs hr
    obtain ⟨t1,u1,r1,gr,a1,a2⟩:=go t u hr
    have hl:=r1.le
    have hf:t1.2.2=false:=by
      rcases gr with rfl|⟨_,g⟩
      · rfl
      · have e:sz (t.1,t.2.1,false)=sz t:=rfl
        rw [e] at g
        have:sz t1=t1.1.length+t1.2.1.length:=rfl
        omega
    obtain ⟨s1,s2⟩:=stop t1 u1 r1 hf
    refine ⟨t1,u1,r1,fun k hk=>?_,fun k hk=>?_⟩
    · have:=a1 (k - 200) (by omega)
      rw [show k - 200+200=k by omega] at this
      rw [this];exact s1 _ (by omega)
    · have:=a2 (k - 200) (by omega)
      rw [show k - 200+200=k by omega] at this
      rw [this];exact s2 _ (by omega)
  |succ n ih=>
    intro t u hs hr
    obtain ⟨t1,u1,r1,gr,a1,a2⟩:=go t u hr
    cases hf:t1.2.2 with
    |false=>
      obtain ⟨s1,s2⟩:=stop t1 u1 r1 hf
      refine ⟨t1,u1,r1,fun k hk=>?_,fun k hk=>?_⟩
      · have:=a1 (k - 200) (by omega)
        rw [show k - 200+200=k by omega] at this
        rw [this];exact s1 _ (by omega)
      · have:=a2 (k - 200) (by omega)
        rw [show k - 200+200=k by omega] at this
        rw [this];exact s2 _ (by omega)
    |true=>
      have hg:sz t<sz t1:=by
        rcases gr with rfl|⟨_,g⟩
        · cases hf
        · exact g
      obtain ⟨t',u',q1,q2,q3⟩:=ih t1 u1 (by omega) r1
      refine ⟨t',u',q1,fun k hk=>?_,fun k hk=>?_⟩
      · have:=a1 (k - 200) (by omega)
        rw [show k - 200+200=k by omega,hf] at this
        rw [this];exact q2 _ (by omega)
      · have:=a2 (k - 200) (by omega)
        rw [show k - 200+200=k by omega,← r1.2.2,hf] at this
        rw [this];exact q3 _ (by omega)

theorem same_sel {n:Nat} {R:List Int} {B:List Bool} (h:Same n R B):srt R=sel (fun x=>B.getD x false) n 0:=by
  obtain ⟨h1,h2,h3,h4⟩:=h
  refine strict_eq _ _ ?_ (sel_strict _ _ _) (fun x=>?_)
  · have hn:(srt R).Pairwise (·≠·):=(List.mergeSort_perm R _).nodup_iff.2 h2
    exact ((srt_le R).and hn).imp (fun h=>by omega)
  · rw [srt_mem,sel_mem]
    constructor
    · intro hx
      have hr:=h3 x hx
      refine ⟨x.toNat,by omega,by omega,?_,by omega⟩
      rw [h4 x.toNat (by omega),Int.toNat_of_nonneg hr.1,decide_eq_true hx]
    · rintro ⟨i,h5,h6,h7,rfl⟩
      have h8:=h4 i (by omega)
      rw [show B.getD i false=true from h7] at h8
      exact of_decide_eq_true h8.symm
theorem rep_get (n x:Nat):(List.replicate n false).getD x false=false:=by
  rw [List.getD_eq_getElem?_getD,List.getElem?_replicate]
  split<;>rfl
theorem vv_net {N:List Int} {P:List S100} {V:List S51} (h:vv N P V=true):netv N P=true∧V.length≤8:=by
  unfold vv at h
  simp only [Bool.and_eq_true,decide_eq_true_eq] at h
  exact ⟨h.1,h.2.1⟩

theorem spec_all_l0:∀ (d j k:Nat) (m:Nat) (C:List Bool),m≤1048576→j+d=m→C.length=m→d<k→(∀ x,x<j→C.getD x false=true)→∃ C',spec_l18All.l0 k (m:Int) C (j:Int)=some C'∧C'.length=m∧∀ x,x<m→C'.getD x false=true:=by
  intro d
  induction d with
  |zero=>
    intro j k m C hm hj hC hk hx
    obtain ⟨k,rfl⟩:=suc_of hk
    simp only [spec_l18All.l0]
    rw [if_neg (by omega)]
    exact ⟨C,rfl,hC,fun x h=>hx x (by omega)⟩
  |succ d ih=>
    intro j k m C hm hj hC hk hx
    obtain ⟨k,rfl⟩:=suc_of hk
    simp only [spec_l18All.l0]
    rw [if_pos (by omega),if_pos (by omega),if_pos (by omega),next_nat (n:=m) (by omega) (by omega),Int.toNat_natCast]
    refine ih (j+1) k m _ hm (by omega) (by rw [List.length_set];exact hC) (by omega) (fun x h=>?_)
    rw [setB_get _ _ _ (by omega)]
    split
    · rfl
    · exact hx x (by omega)
theorem spec_all (m:Nat) (hm:m≤1048576) (k:Nat) (hk:m<k):∃ C',spec_l18All.f k (m:Int)=some C'∧C'.length=m∧∀ x,x<m→C'.getD x false=true:=by
  unfold spec_l18All.f
  rw [if_pos (by omega),if_pos (by omega),Int.toNat_natCast]
  exact spec_all_l0 m 0 k m _ hm (by omega) (by simp) hk (fun x h=>absurd h (by omega))

/-! What a region's spreading comes to: closed under the step, and within every closed set that holds the start. -/
def Sub (t T:List Int × List Int × Bool):Prop:=(∀ x ∈ t.1,x ∈ T.1)∧∀ x ∈ t.2.1,x ∈ T.2.1
theorem Sub.trans {a b c:List Int × List Int × Bool} (h1:Sub a b) (h2:Sub b c):Sub a c:=⟨fun x hx=>h2.1 x (h1.1 x hx),fun x hx=>h2.2 x (h1.2 x hx)⟩
def Clo (P:List S100) (st:Nat→Bool→Bool) (T:List Int × List Int × Bool):Prop:=∀ i b,i<P.length→st i b=false→((i:Int) ∈ T.1↔en P i b ∈ T.2.1)
theorem step_sub {P:List S100} {st:Nat→Bool→Bool} {T:List Int × List Int × Bool} (hT:Clo P st T) {i:Nat} (hi:i<P.length) (b:Bool) {t:List Int × List Int × Bool} (h:Sub t T):Sub (stepI P (st i b) i b t) T:=by
  unfold stepI actI
  cases hs:st i b with
  |true=>rw [Bool.or_true,if_pos rfl];exact h
  |false=>
    have hc:=hT i b hi hs
    by_cases c1:(i:Int) ∈ t.1
    · by_cases c2:en P i b ∈ t.2.1
      · rw [decide_eq_true c1,decide_eq_true c2,if_pos rfl];exact h
      · rw [decide_eq_true c1,decide_eq_false c2,if_neg (by decide),if_pos rfl]
        refine ⟨h.1,fun x hx=>?_⟩
        rcases List.mem_append.1 hx with hx|hx
        · exact h.2 x hx
        · rw [List.mem_singleton.1 hx];exact hc.1 (h.1 _ c1)
    · by_cases c2:en P i b ∈ t.2.1
      · rw [decide_eq_false c1,decide_eq_true c2,if_neg (by decide),if_neg Bool.false_ne_true]
        refine ⟨fun x hx=>?_,h.2⟩
        rcases List.mem_append.1 hx with hx|hx
        · exact h.1 x hx
        · rw [List.mem_singleton.1 hx];exact hc.2 (h.2 _ c2)
      · rw [decide_eq_false c1,decide_eq_false c2,if_pos (by decide)];exact h
theorem pass_sub {P:List S100} {st:Nat→Bool→Bool} {T:List Int × List Int × Bool} (hT:Clo P st T):∀ (d j:Nat) (t:List Int × List Int × Bool),j+d=P.length→Sub t T→Sub (passI P st d j t) T:=by
  intro d
  induction d with
  |zero=>intro j t _ h;exact h
  |succ d ih=>
    intro j t hj h
    rw [passI_s]
    exact ih (j+1) _ (by omega) (step_sub hT (by omega) true (step_sub hT (by omega) false h))
theorem step_old (P:List S100) (s:Bool) (i:Nat) (b:Bool) (t:List Int × List Int × Bool):Sub t (stepI P s i b t):=by
  unfold stepI actI
  split
  · exact ⟨fun _ h=>h,fun _ h=>h⟩
  · split
    · exact ⟨fun _ h=>h,fun _ h=>List.mem_append_left _ h⟩
    · exact ⟨fun _ h=>List.mem_append_left _ h,fun _ h=>h⟩
theorem pass_old (P:List S100) (st:Nat→Bool→Bool):∀ (d j:Nat) (t:List Int × List Int × Bool),Sub t (passI P st d j t):=by
  intro d
  induction d with
  |zero=>intro j t;exact ⟨fun _ h=>h,fun _ h=>h⟩
  |succ d ih=>
    intro j t
    rw [passI_s]
    exact (step_old P _ _ _ t).trans ((step_old P _ _ _ _).trans (ih (j+1) _))
theorem step_flag (P:List S100) (s:Bool) (i:Nat) (b:Bool) (t:List Int × List Int × Bool) (h:(stepI P s i b t).2.2=false):stepI P s i b t=t∧(s=false→((i:Int) ∈ t.1↔en P i b ∈ t.2.1)):=by
  unfold stepI actI at h ⊢
  by_cases c:((decide ((i:Int) ∈ t.1)==decide (en P i b ∈ t.2.1)) || s)=true
  · rw [if_pos c]
    refine ⟨rfl,fun hs=>?_⟩
    rw [hs,Bool.or_false,beq_iff_eq] at c
    exact decide_eq_decide.1 c
  · rw [if_neg c] at h
    split at h<;>cases h
theorem pass_flag (P:List S100) (st:Nat→Bool→Bool):∀ (d j:Nat) (t:List Int × List Int × Bool),(passI P st d j t).2.2=false→passI P st d j t=t∧∀ i b,j≤i→i<j+d→st i b=false→((i:Int) ∈ t.1↔en P i b ∈ t.2.1):=by
  intro d
  induction d with
  |zero=>intro j t _;exact ⟨rfl,fun i b h1 h2 _=>by omega⟩
  |succ d ih=>
    intro j t h
    rw [passI_s] at h ⊢
    obtain ⟨a1,a2⟩:=ih (j+1) _ h
    rw [a1] at h ⊢
    obtain ⟨b1,b2⟩:=step_flag P _ _ _ _ h
    rw [b1] at h ⊢
    obtain ⟨c1,c2⟩:=step_flag P _ _ _ _ h
    refine ⟨c1,fun i b h1 h2 hs=>?_⟩
    rw [b1,c1] at a2
    rw [c1] at b2
    by_cases e:i=j
    · subst e
      cases b
      · exact c2 hs
      · exact b2 hs
    · exact a2 i b (by omega) (by omega) hs
/-- t2 is what the spreading from t comes to. -/
def Fin_ (P:List S100) (st:Nat→Bool→Bool) (t t2:List Int × List Int × Bool):Prop:=Clo P st t2∧Sub t t2∧∀ T,Clo P st T→Sub t T→Sub t2 T
theorem fin_stop (P:List S100) (st:Nat→Bool→Bool) (t:List Int × List Int × Bool) (h:(passI P st P.length 0 (t.1,t.2.1,false)).2.2=false):Fin_ P st t (passI P st P.length 0 (t.1,t.2.1,false)):=by
  obtain ⟨h1,h2⟩:=pass_flag P st P.length 0 _ h
  rw [h1]
  exact ⟨fun i b hi hs=>h2 i b (Nat.zero_le _) (by omega) hs,⟨fun _ h=>h,fun _ h=>h⟩,fun T _ h=>h⟩
theorem fin_step (P:List S100) (st:Nat→Bool→Bool) (t t2:List Int × List Int × Bool) (h:Fin_ P st (passI P st P.length 0 (t.1,t.2.1,false)) t2):Fin_ P st t t2:=
  ⟨h.1,(pass_old P st P.length 0 (t.1,t.2.1,false)).trans h.2.1,fun T hT hs=>h.2.2 T hT (pass_sub hT P.length 0 _ (by omega) hs)⟩
theorem fin_mono {P:List S100} {st st2:Nat→Bool→Bool} (hst:∀ i b,st2 i b=true→st i b=true) {t t1 t2:List Int × List Int × Bool} (h1:Fin_ P st t t1) (h2:Fin_ P st2 t t2):Sub t1 t2:=
  h1.2.2 t2 (fun i b hi hs=>h2.1 i b hi (by cases c:st2 i b with|false=>rfl|true=>rw [hst i b c] at hs;cases hs)) h2.2.1

/-- The region of a pipe, told by both; valves that stand at the same ends give the same one. -/
theorem region_two {N:List Int} {P:List S100} (h:netv N P=true) (hE:Ends N.length P) (W V:List S51) (hW:W.length≤1048576) (hV:V.length≤1048576) (hsame:∀ i b,sta P V i b=sta P W i b) (p:Int) (h0:0≤p) (h1:p<(P.length:Int)):∃ (rp rn:List Int) (bp bn:List Bool),Same P.length rp bp∧Same N.length rn bn∧(∀ k,2105000<k→impl_regionOf.f k N P W p=some (srt rp,srt rn))∧∀ k,2105000<k→spec_l18Region.f k [(⟨N,P⟩:S33)] V p=some (bp,bn):=by
  have h20:=hE.1
  have h16:=hE.2.2.1
  obtain ⟨C,c1,c2,c3⟩:∃ C:List Bool,(∀ k,V.length<k→spec_l18All.f k (V.length:Int)=some C)∧C.length=V.length∧∀ x,x<V.length→C.getD x false=true:=by
    obtain ⟨C,a1,a2,a3⟩:=spec_all V.length hV (V.length+1) (by omega)
    refine ⟨C,fun k hk=>?_,a2,a3⟩
    obtain ⟨C',b1,b2,b3⟩:=spec_all V.length hV k hk
    have e:C'=C:=by
      refine List.ext_getElem (by omega) (fun i hi hi2=>?_)
      have x1:=b3 i (by omega)
      have x2:=a3 i (by omega)
      rw [getD_lt (by omega)] at x1 x2
      rw [x1,x2]
    rw [b1,e]
  have hst:∀ i b,stc P V C i b V.length 0=sta P W i b:=fun i b=>by
    have:=stc_all P V C i b c3 V.length 0 (by omega)
    rw [List.drop_zero] at this
    rw [this,hsame]
  have hr:Rel N.length P ([p],[],true) ((List.replicate P.length false).set p.toNat true,List.replicate N.length false,true):=by
    refine ⟨?_,?_,rfl⟩
    · have base:Same P.length [] (List.replicate P.length false):=⟨by simp,by simp,by simp,fun x hx=>by rw [rep_get];simp⟩
      exact base.add h0 h1 (by simp)
    · exact ⟨by simp,by simp,by simp,fun x hx=>by rw [rep_get];simp⟩
  obtain ⟨t,u,r1,r2,r3⟩:=loop_both h hE W V C hW hV c2 hst 36 _ _ (by omega) hr
  refine ⟨t.1,t.2.1,u.1,u.2.1,r1.1,r1.2.1,fun k hk=>?_,fun k hk=>?_⟩
  · unfold impl_regionOf.f impl_region_spread.f
    exact r2 k (by omega)
  · unfold spec_l18Region.f spec_l18Spread.f
    simp only [show rd_T33 [(⟨N,P⟩:S33)] 0=⟨N,P⟩ from rfl,Option.bind_some,Int.toNat_natCast]
    rw [if_pos (by simp),if_pos (by omega),if_pos (by omega),if_pos (by omega),if_pos (by omega),if_pos h0,if_pos (by simp;omega),c1 k (by omega),Option.bind_some,r3 k (by omega)]
    rfl
theorem region_both {N:List Int} {P:List S100} (h:netv N P=true) (hE:Ends N.length P) (V:List S51) (hV:V.length≤1048576) (p:Int) (h0:0≤p) (h1:p<(P.length:Int)):∃ (rp rn:List Int) (bp bn:List Bool),Same P.length rp bp∧Same N.length rn bn∧(∀ k,2105000<k→impl_regionOf.f k N P V p=some (srt rp,srt rn))∧∀ k,2105000<k→spec_l18Region.f k [(⟨N,P⟩:S33)] V p=some (bp,bn):=region_two h hE V V hV hV (fun _ _=>rfl) p h0 h1

theorem indices_l0 (B:List Bool) (hB:B.length≤1048576):∀ (d j k:Nat) (a:List Int),j+d=B.length→a.length≤j→d<k→spec_l18Indices.l0 k B a (j:Int)=some (a++sel (fun x=>B.getD x false) d j):=by
  intro d
  induction d with
  |zero=>
    intro j k a hj ha hk
    obtain ⟨k,rfl⟩:=suc_of hk
    simp only [spec_l18Indices.l0]
    rw [if_neg (by omega)];simp [sel]
  |succ d ih=>
    intro j k a hj ha hk
    obtain ⟨k,rfl⟩:=suc_of hk
    simp only [spec_l18Indices.l0,show ∀ (l:List Bool) (x:Nat),rdOf false l (x:Int)=l.getD x false from fun _ _=>rfl]
    rw [if_pos (by omega),if_pos (by omega),next_nat (n:=B.length) (by omega) (by omega),if_pos (show a.length<17592186044416 by omega),sel_s]
    cases q:B.getD j false
    · rw [if_neg Bool.false_ne_true,if_neg Bool.false_ne_true,List.nil_append]
      exact ih (j+1) k a (by omega) (by omega) (by omega)
    · rw [if_pos rfl,if_pos rfl,← List.append_assoc]
      exact ih (j+1) k _ (by omega) (by simp;omega) (by omega)
theorem indices (B:List Bool) (n:Nat) (hB:B.length=n) (hn:n≤1048576) (k:Nat) (hk:n<k):spec_l18Indices.f k B=some (sel (fun x=>B.getD x false) n 0):=by
  unfold spec_l18Indices.f
  have:=indices_l0 B (by omega) B.length 0 k [] (by omega) (by simp) (by omega)
  rw [show ((0:Nat):Int)=0 from rfl,hB,List.nil_append] at this
  exact this

/-- Both spread to the same. -/
theorem loop_fin {N:List Int} {P:List S100} (h:netv N P=true) (hE:Ends N.length P) (W V:List S51) (C:List Bool) (hW:W.length≤1048576) (hV:V.length≤1048576) (hC:C.length=V.length) (hst:∀ i b,stc P V C i b V.length 0=sta P W i b):∀ (n:Nat) (t:List Int × List Int × Bool) (u:List Bool × List Bool × Bool),36≤sz t+n→Rel N.length P t u→∃ (t':List Int × List Int × Bool) (u':List Bool × List Bool × Bool),Rel N.length P t' u'∧(∀ k,2097500+200 * n<k→impl_region_spread.l0 k W true t.1 t.2.1 N P=some (srt t'.1,srt t'.2.1))∧(∀ k,2097500+200 * n<k→spec_l18Spread.l0 k [(⟨N,P⟩:S33)] V C u.1 u.2.1 true=some (u'.1,u'.2.1))∧Fin_ P (sta P W) t t':=by
  have h20:=hE.1
  have h16:=hE.2.2.1
  have go:∀ (t:List Int × List Int × Bool) (u:List Bool × List Bool × Bool),Rel N.length P t u→∃ (t1:List Int × List Int × Bool) (u1:List Bool × List Bool × Bool),Rel N.length P t1 u1∧Grew (t.1,t.2.1,false) t1∧t1=passI P (sta P W) P.length 0 (t.1,t.2.1,false)∧(∀ k,2097200<k→impl_region_spread.l0 (k+200) W true t.1 t.2.1 N P=impl_region_spread.l0 (k+200 - 6 * P.length - 2) W t1.2.2 t1.1 t1.2.1 N P)∧∀ k,2097200<k→spec_l18Spread.l0 (k+200) [(⟨N,P⟩:S33)] V C u.1 u.2.1 true=spec_l18Spread.l0 (k+200 - 4 * P.length - 2) [(⟨N,P⟩:S33)] V C u1.1 u1.2.1 u1.2.2:=by
    intro t u hr
    have hr0:Rel N.length P (t.1,t.2.1,false) (u.1,u.2.1,false):=⟨hr.1,hr.2.1,rfl⟩
    obtain ⟨p1,p2⟩:=pass_rel hE (sta P W) P.length 0 _ _ (by omega) hr0
    obtain ⟨w1,w2⟩:=pass_walk h hE W V C hW hV hC hst P.length 0 _ _ (by omega) hr0
    refine ⟨_,_,p1,p2,rfl,fun k hk=>?_,fun k hk=>?_⟩
    · have:=w1 (k+200 - 6 * P.length - 2) (by omega)
      rw [show k+200 - 6 * P.length - 2+6 * P.length+1=k+199 by omega] at this
      rw [show k+200=k+199+1 from rfl]
      simp only [impl_region_spread.l0]
      rw [if_pos trivial]
      exact this
    · have:=w2 (k+200 - 4 * P.length - 2) (by omega)
      rw [show k+200 - 4 * P.length - 2+4 * P.length+1=k+199 by omega] at this
      rw [show k+200=k+199+1 from rfl]
      simp only [spec_l18Spread.l0]
      rw [if_pos trivial]
      exact this
  have stop:∀ (t1:List Int × List Int × Bool) (u1:List Bool × List Bool × Bool),Rel N.length P t1 u1→t1.2.2=false→(∀ k,0<k→impl_region_spread.l0 k W t1.2.2 t1.1 t1.2.1 N P=some (srt t1.1,srt t1.2.1))∧∀ k,0<k→spec_l18Spread.l0 k [(⟨N,P⟩:S33)] V C u1.1 u1.2.1 u1.2.2=some (u1.1,u1.2.1):=by
    intro t1 u1 hr hf
    have hl:=hr.le
    refine ⟨fun k hk=>?_,fun k hk=>?_⟩
    · obtain ⟨k,rfl⟩:=suc_of hk
      simp only [impl_region_spread.l0]
      rw [hf,if_neg Bool.false_ne_true,sort_f _ (by omega),Option.bind_some,sort_f _ (by omega),Option.bind_some]
    · obtain ⟨k,rfl⟩:=suc_of hk
      simp only [spec_l18Spread.l0]
      rw [← hr.2.2,hf,if_neg Bool.false_ne_true]
  intro n
  induction n with
  |zero=>
    intro t u hs hr
    obtain ⟨t1,u1,r1,gr,pe,a1,a2⟩:=go t u hr
    have hl:=r1.le
    have hf:t1.2.2=false:=by
      rcases gr with rfl|⟨_,g⟩
      · rfl
      · have e:sz (t.1,t.2.1,false)=sz t:=rfl
        rw [e] at g
        have:sz t1=t1.1.length+t1.2.1.length:=rfl
        omega
    obtain ⟨s1,s2⟩:=stop t1 u1 r1 hf
    refine ⟨t1,u1,r1,fun k hk=>?_,fun k hk=>?_,by subst pe;exact fin_stop P _ t hf⟩
    · have:=a1 (k - 200) (by omega)
      rw [show k - 200+200=k by omega] at this
      rw [this];exact s1 _ (by omega)
    · have:=a2 (k - 200) (by omega)
      rw [show k - 200+200=k by omega] at this
      rw [this];exact s2 _ (by omega)
  |succ n ih=>
    intro t u hs hr
    obtain ⟨t1,u1,r1,gr,pe,a1,a2⟩:=go t u hr
    cases hf:t1.2.2 with
    |false=>
      obtain ⟨s1,s2⟩:=stop t1 u1 r1 hf
      refine ⟨t1,u1,r1,fun k hk=>?_,fun k hk=>?_,by subst pe;exact fin_stop P _ t hf⟩
      · have:=a1 (k - 200) (by omega)
        rw [show k - 200+200=k by omega] at this
        rw [this];exact s1 _ (by omega)
      · have:=a2 (k - 200) (by omega)
        rw [show k - 200+200=k by omega] at this
        rw [this];exact s2 _ (by omega)
    |true=>
      have hg:sz t<sz t1:=by
        rcases gr with rfl|⟨_,g⟩
        · cases hf
        · exact g
      obtain ⟨t',u',q1,q2,q3,q4⟩:=ih t1 u1 (by omega) r1
      refine ⟨t',u',q1,fun k hk=>?_,fun k hk=>?_,by subst pe;exact fin_step P _ t t' q4⟩
      · have:=a1 (k - 200) (by omega)
        rw [show k - 200+200=k by omega,hf] at this
        rw [this];exact q2 _ (by omega)
      · have:=a2 (k - 200) (by omega)
        rw [show k - 200+200=k by omega,← r1.2.2,hf] at this
        rw [this];exact q3 _ (by omega)
/-- The region of a pipe, told by both; valves that stand at the same ends give the same one. -/
theorem region_fin {N:List Int} {P:List S100} (h:netv N P=true) (hE:Ends N.length P) (W V:List S51) (hW:W.length≤1048576) (hV:V.length≤1048576) (hsame:∀ i b,sta P V i b=sta P W i b) (p:Int) (h0:0≤p) (h1:p<(P.length:Int)):∃ (T:List Int × List Int × Bool) (bp bn:List Bool),Same P.length T.1 bp∧Same N.length T.2.1 bn∧Fin_ P (sta P W) ([p],[],true) T∧(∀ k,2105000<k→impl_regionOf.f k N P W p=some (srt T.1,srt T.2.1))∧∀ k,2105000<k→spec_l18Region.f k [(⟨N,P⟩:S33)] V p=some (bp,bn):=by
  have h20:=hE.1
  have h16:=hE.2.2.1
  obtain ⟨C,c1,c2,c3⟩:∃ C:List Bool,(∀ k,V.length<k→spec_l18All.f k (V.length:Int)=some C)∧C.length=V.length∧∀ x,x<V.length→C.getD x false=true:=by
    obtain ⟨C,a1,a2,a3⟩:=spec_all V.length hV (V.length+1) (by omega)
    refine ⟨C,fun k hk=>?_,a2,a3⟩
    obtain ⟨C',b1,b2,b3⟩:=spec_all V.length hV k hk
    have e:C'=C:=by
      refine List.ext_getElem (by omega) (fun i hi hi2=>?_)
      have x1:=b3 i (by omega)
      have x2:=a3 i (by omega)
      rw [getD_lt (by omega)] at x1 x2
      rw [x1,x2]
    rw [b1,e]
  have hst:∀ i b,stc P V C i b V.length 0=sta P W i b:=fun i b=>by
    have:=stc_all P V C i b c3 V.length 0 (by omega)
    rw [List.drop_zero] at this
    rw [this,hsame]
  have hr:Rel N.length P ([p],[],true) ((List.replicate P.length false).set p.toNat true,List.replicate N.length false,true):=by
    refine ⟨?_,?_,rfl⟩
    · have base:Same P.length [] (List.replicate P.length false):=⟨by simp,by simp,by simp,fun x hx=>by rw [rep_get];simp⟩
      exact base.add h0 h1 (by simp)
    · exact ⟨by simp,by simp,by simp,fun x hx=>by rw [rep_get];simp⟩
  obtain ⟨t,u,r1,r2,r3,r4⟩:=loop_fin h hE W V C hW hV c2 hst 36 _ _ (by omega) hr
  refine ⟨t,u.1,u.2.1,r1.1,r1.2.1,r4,fun k hk=>?_,fun k hk=>?_⟩
  · unfold impl_regionOf.f impl_region_spread.f
    exact r2 k (by omega)
  · unfold spec_l18Region.f spec_l18Spread.f
    simp only [show rd_T33 [(⟨N,P⟩:S33)] 0=⟨N,P⟩ from rfl,Option.bind_some,Int.toNat_natCast]
    rw [if_pos (by simp),if_pos (by omega),if_pos (by omega),if_pos (by omega),if_pos (by omega),if_pos h0,if_pos (by simp;omega),c1 k (by omega),Option.bind_some,r3 k (by omega)]
    rfl
/-- How many pipes a region has: by both; with fewer valves not fewer. -/
theorem few_two {N:List Int} {P:List S100} (h:netv N P=true) (hE:Ends N.length P) (V L:List S51) (hV:V.length≤1048576) (hL:L.length≤1048576) (hsub:∀ v ∈ L,v ∈ V) (j:Nat) (hj:j<P.length):∃ (rp rn lp ln:List Int) (bp bn cp cn:List Bool),rp.length≤lp.length∧lp.length≤20∧(∀ k,2105000<k→impl_regionOf.f k N P V (j:Int)=some (rp,rn))∧(∀ k,2105000<k→impl_regionOf.f k N P L (j:Int)=some (lp,ln))∧(∀ k,2105000<k→spec_l18Region.f k [(⟨N,P⟩:S33)] V (j:Int)=some (bp,bn))∧(∀ k,2105000<k→spec_l18Region.f k [(⟨N,P⟩:S33)] L (j:Int)=some (cp,cn))∧(∀ k,2105000<k→spec_l18Indices.f k bp=some rp)∧∀ k,2105000<k→spec_l18Indices.f k cp=some lp:=by
  obtain ⟨T,bp,bn,s1,s2,f1,i1,i2⟩:=region_fin h hE V V hV hV (fun _ _=>rfl) (j:Int) (by omega) (by omega)
  obtain ⟨U,cp,cn,t1,t2,f2,e1,e2⟩:=region_fin h hE L L hL hL (fun _ _=>rfl) (j:Int) (by omega) (by omega)
  have h20:=hE.1
  have hs:=fin_mono (st:=sta P V) (st2:=sta P L) (fun i b q=>by
    unfold sta at q ⊢
    rw [List.any_eq_true] at q ⊢
    obtain ⟨v,q1,q2⟩:=q
    exact ⟨v,hsub v q1,q2⟩) f1 f2
  have hl:=len_le T.1 U.1 s1.2.1 hs.1
  have hu:=t1.len
  refine ⟨srt T.1,srt T.2.1,srt U.1,srt U.2.1,bp,bn,cp,cn,by rw [srt_len,srt_len];exact hl,by rw [srt_len];omega,i1,e1,i2,e2,fun k hk=>?_,fun k hk=>?_⟩
  · rw [indices bp P.length s1.1 (by omega) k (by omega),same_sel s1]
  · rw [indices cp P.length t1.1 (by omega) k (by omega),same_sel t1]

theorem markc_l0 (c0:Int) (hc0:0≤c0) (hc1:c0≤1000000000000000):∀ (d j k:Nat) (m:List Int) (c:Int),j+d=m.length→m.length≤35184372088832→d<k→c=c0+(j:Int)→(∀ i,i<j→m[i]? =some (c0+(i:Int)))→
    ∃ m',laws_markInt64S.l0 k m c (j:Int)=some (c0+(m.length:Int),m')∧m'.length=m.length∧∀ i,i<m'.length→m'[i]? =some (c0+(i:Int)):=by
  intro d
  induction d with
  |zero=>
    intro j k m c hj hl hk hc hp
    obtain ⟨k,rfl⟩:=suc_of hk
    simp only [laws_markInt64S.l0]
    rw [if_neg (by omega)]
    exact ⟨m,by rw [hc];congr 2;omega,rfl,fun i hi=>hp i (by omega)⟩
  |succ d ih=>
    intro j k m c hj hl hk hc hp
    obtain ⟨k,rfl⟩:=suc_of hk
    simp only [laws_markInt64S.l0]
    rw [if_pos (by omega),if_pos (by omega),next_nat (n:=m.length) (by omega) (by omega),wrap_id (x:=c+1) (by omega) (by omega),Int.toNat_natCast]
    obtain ⟨m',h1,h2,h3⟩:=ih (j+1) k (m.set j c) (c+1) (by simp;omega) (by simpa using hl) (by omega) (by omega) (fun i hi=>by
      rw [List.getElem?_set]
      by_cases e:j=i
      · subst e;rw [if_pos rfl,if_pos (by omega),hc]
      · rw [if_neg e];exact hp i (by omega))
    exact ⟨m',by rw [h1];simp,by simpa using h2,h3⟩
theorem heldc_l0 (c0:Int) (hc0:0≤c0) (hc1:c0≤1000000000000000) (m:List Int) (hl:m.length≤35184372088832) (hm:∀ i,i<m.length→m[i]? =some (c0+(i:Int))):∀ (d j k:Nat) (c:Int),j+d=m.length→d<k→c=c0+(j:Int)→laws_heldInt64S.l0 k m c (j:Int)=some (c0+(m.length:Int)):=by
  intro d
  induction d with
  |zero=>
    intro j k c hj hk hc
    obtain ⟨k,rfl⟩:=suc_of hk
    simp only [laws_heldInt64S.l0]
    rw [if_neg (by omega)]
    congr 1;omega
  |succ d ih=>
    intro j k c hj hk hc
    obtain ⟨k,rfl⟩:=suc_of hk
    simp only [laws_heldInt64S.l0]
    have e:rd m (j:Int)=c:=by
      rw [rd_nat,List.getD_eq_getElem?_getD,hm j (by omega),hc];rfl
    rw [if_pos (by omega),if_pos (by omega),if_pos e,next_nat (n:=m.length) (by omega) (by omega),wrap_id (x:=c+1) (by omega) (by omega)]
    exact ih (j+1) k (c+1) (by omega) (by omega) (by omega)
theorem markc_held (l:List Int) (c0:Int) (hc0:0≤c0) (hc1:c0≤1000000000000000) (hl:l.length≤35184372088832) (k:Nat) (hk:l.length<k):∃ m',laws_markInt64S.f k l c0=some (c0+(l.length:Int),m')∧m'.length=l.length∧(∀ k',l.length<k'→laws_heldInt64S.f k' m' c0=some (c0+(l.length:Int))):=by
  obtain ⟨m',h1,h2,h3⟩:=markc_l0 c0 hc0 hc1 l.length 0 k l c0 (by omega) hl hk (by omega) (fun i hi=>absurd hi (by omega))
  refine ⟨m',h1,h2,fun k' hk'=>?_⟩
  have:=heldc_l0 c0 hc0 hc1 m' (by omega) h3 m'.length 0 k' c0 (by omega) (by omega) (by omega)
  rw [h2] at this
  exact this

theorem markText_l0:∀ (d:Nat) (x:Int) (s:ByteArray) (k:Nat),0≤x→x≤1000000000000000→x<10 ^ d→d<k→s.size+d≤1000→∃ r,laws_markText.l0 k x s=some r:=by
  intro d
  induction d with
  |zero=>
    intro x s k h0 hb h1 hk hs
    obtain ⟨k,rfl⟩:=suc_of hk
    simp only [laws_markText.l0]
    have:x=0:=by simp at h1;omega
    rw [if_neg (by omega),if_pos (by omega)];exact ⟨_,rfl⟩
  |succ d ih=>
    intro x s k h0 hb h1 hk hs
    obtain ⟨k,rfl⟩:=suc_of hk
    simp only [laws_markText.l0]
    by_cases c:x > 0
    · rw [if_pos c,Option.bind_some]
      have e:∀ n:Int,(strOfNums [n]).size=1:=fun n=>rfl
      have h10:Int.tdiv x 10=x / 10:=Int.tdiv_eq_ediv_of_nonneg h0
      have hp:(10:Int) ^ (d+1)=10 ^ d * 10:=Int.pow_succ 10 d
      rw [hp] at h1
      rw [e,if_pos (by omega),h10,wrap_id (x:=x / 10) (by omega) (by omega)]
      refine ih (x / 10) _ k (by omega) (by omega) (by omega) (by omega) ?_
      rw [ByteArray.size_append,e];omega
    · rw [if_neg c,if_pos (by omega)];exact ⟨_,rfl⟩
theorem markText (x:Int) (hb:x≤1000000000000000) (k:Nat) (hk:20<k):∃ r,laws_markText.f k x=some r:=by
  unfold laws_markText.f
  by_cases c:x≤0
  · rw [if_pos c];exact ⟨_,rfl⟩
  · rw [if_neg c]
    exact markText_l0 20 x _ k (by omega) hb (by omega) hk (by decide)
theorem markPipes_l0:∀ (d j k:Nat) (m:List S100) (c:Int),j+d=m.length→m.length≤1048576→30+d<k→0≤c→c+6 * (d:Int)≤1000000000→∃ m',laws_markPipeS.l0 k m c (j:Int)=some (c+6 * (d:Int),m'):=by
  intro d
  induction d with
  |zero=>
    intro j k m c hj hl hk h0 h1
    obtain ⟨k,rfl⟩:=suc_of hk
    simp only [laws_markPipeS.l0]
    rw [if_neg (by omega)]
    exact ⟨m,by congr 2;omega⟩
  |succ d ih=>
    intro j k m c hj hl hk h0 h1
    obtain ⟨k,rfl⟩:=suc_of hk
    obtain ⟨t,ht⟩:=markText c (by omega) k (by omega)
    simp only [laws_markPipeS.l0]
    rw [if_pos (by omega),ht,Option.bind_some,if_pos (by omega)]
    simp only [Option.bind_some]
    rw [wrap_id (x:=c+1) (by omega) (by omega),wrap_id (x:=c+1+1) (by omega) (by omega),wrap_id (x:=c+1+1+1) (by omega) (by omega),wrap_id (x:=c+1+1+1+1) (by omega) (by omega),wrap_id (x:=c+1+1+1+1+1) (by omega) (by omega),wrap_id (x:=c+1+1+1+1+1+1) (by omega) (by omega),next_nat (n:=m.length) (by omega) (by omega)]
    rw [show c+6 * ((d+1:Nat):Int)=c+1+1+1+1+1+1+6 * (d:Int) by omega]
    exact ih (j+1) k _ _ (by simp only [List.length_set];omega) (by simp only [List.length_set];omega) (by omega) (by omega) (by omega)
theorem markNet (N:List Int) (P:List S100) (hN:N.length≤1048576) (hP:P.length≤1048576) (k:Nat) (hk:1048700<k):∃ N' P',laws_markNetwork.f k N P 1=some (1+(N.length:Int)+6 * (P.length:Int),N',P'):=by
  unfold laws_markNetwork.f laws_markPipeS.f
  obtain ⟨m1,a1,_,_⟩:=markc_held N 1 (by omega) (by omega) (by omega) k (by omega)
  obtain ⟨m2,a2⟩:=markPipes_l0 P.length 0 k P (1+(N.length:Int)) (by omega) (by omega) (by omega) (by omega) (by omega)
  rw [a1,Option.bind_some]
  rw [show ((0:Nat):Int)=0 from rfl] at a2
  simp only [a2,Option.bind_some]
  exact ⟨_,_,rfl⟩

theorem markVal_l0:∀ (d j k:Nat) (m:List S51) (c:Int),j+d=m.length→m.length≤1048576→30+d<k→0≤c→c+3 * (d:Int)≤1000000000→∃ m',laws_markValveS.l0 k m c (j:Int)=some (c+3 * (d:Int),m'):=by
  intro d
  induction d with
  |zero=>
    intro j k m c hj hl hk h0 h1
    obtain ⟨k,rfl⟩:=suc_of hk
    simp only [laws_markValveS.l0]
    rw [if_neg (by omega)]
    exact ⟨m,by congr 2;omega⟩
  |succ d ih=>
    intro j k m c hj hl hk h0 h1
    obtain ⟨k,rfl⟩:=suc_of hk
    obtain ⟨t,ht⟩:=markText c (by omega) k (by omega)
    obtain ⟨t2,ht2⟩:=markText (c+1) (by omega) k (by omega)
    simp only [laws_markValveS.l0]
    rw [if_pos (by omega),ht,Option.bind_some,if_pos (by omega)]
    simp only [Option.bind_some]
    rw [wrap_id (x:=c+1) (by omega) (by omega),wrap_id (x:=c+1+1) (by omega) (by omega),wrap_id (x:=c+1+1+1) (by omega) (by omega),next_nat (n:=m.length) (by omega) (by omega),ht2]
    simp only [Option.bind_some]
    rw [show c+3 * ((d+1:Nat):Int)=c+1+1+1+3 * (d:Int) by omega]
    exact ih (j+1) k _ _ (by simp only [List.length_set];omega) (by simp only [List.length_set];omega) (by omega) (by omega) (by omega)
theorem markVal (V:List S51) (hV:V.length≤1048576) (c:Int) (h0:0≤c) (h1:c≤100000000) (k:Nat) (hk:1048700<k):∃ V',laws_markValveS.f k V c=some (c+3 * (V.length:Int),V'):=by
  unfold laws_markValveS.f
  exact markVal_l0 V.length 0 k V c (by omega) hV (by omega) h0 (by omega)

theorem inner {N:List Int} {P:List S100} (h:netv N P=true) (hE:Ends N.length P) (V L:List S51) (hV:V.length≤1048576) (hL:L.length≤1048576) (hsub:∀ v ∈ L,v ∈ V):∀ (d j:Nat),j+d=P.length→∃ g:Bool,(∀ k,2105000+d<k→∃ x:Int,impl_least_c86.l0 k ((P.length:Int) - 1) (j:Int) [(⟨N,P⟩:S33)] [L] [V]=some (x,g))∧∀ (k:Nat) (b:Bool) (out:List Int) (x7:Int),2105000+d<k→spec_NeedlessValves.l1 k V out x7 L b (j:Int) N P=spec_NeedlessValves.l1 (k - d) V out x7 L (b&&!g) (P.length:Int) N P:=by
  have h20:=hE.1
  intro d
  induction d with
  |zero=>
    intro j hj
    refine ⟨false,fun k hk=>⟨0,?_⟩,fun k b out x7 hk=>?_⟩
    · obtain ⟨k,rfl⟩:=suc_of hk
      rw [impl_least_c86.l0.eq_def]
      simp only []
      rw [if_neg (by omega)]
    · rw [show j=P.length by omega,Bool.not_false,Bool.and_true];rfl
  |succ d ih=>
    intro j hj
    obtain ⟨g,g1,g2⟩:=ih (j+1) (by omega)
    obtain ⟨rp,rn,lp,ln,bp,bn,cp,cn,m1,m2,a1,a2,a3,a4,a5,a6⟩:=few_two h hE V L hV hL hsub j (by omega)
    refine ⟨decide (lp.length > rp.length) || g,fun k hk=>?_,fun k b out x7 hk=>?_⟩
    · obtain ⟨k,rfl⟩:=suc_of hk
      obtain ⟨x,hx⟩:=g1 k (by omega)
      rw [impl_least_c86.l0.eq_def]
      simp only []
      rw [if_pos (by omega)]
      unfold impl_NeedlessValves_1.f
      rw [if_pos (by simp),if_pos (by simp)]
      simp only [show rd_T33 [(⟨N,P⟩:S33)] 0=⟨N,P⟩ from rfl,show rd_L11 [L] 0=L from rfl,show rd_L11 [V] 0=V from rfl]
      rw [a2 k (by omega),Option.bind_some,if_pos (by simp),a1 k (by omega),Option.bind_some,Option.bind_some]
      by_cases c:lp.length > rp.length
      · rw [decide_eq_true c,if_pos (by rw [decide_eq_true_eq];dsimp only;omega)]
        exact ⟨_,rfl⟩
      · rw [decide_eq_false c,if_neg (by rw [decide_eq_true_eq];dsimp only;omega),next_nat (n:=21) (by omega) (by omega),Bool.false_or]
        exact ⟨x,hx⟩
    · obtain ⟨k,rfl⟩:=suc_of hk
      rw [spec_NeedlessValves.l1.eq_def]
      simp only []
      rw [if_pos (by omega),a3 k (by omega),Option.bind_some,a4 k (by omega),Option.bind_some,next_nat (n:=21) (by omega) (by omega)]
      rw [show k+1 - (d+1)=k - d by omega]
      have e:((rp.length:Int)==(lp.length:Int))=!decide (lp.length > rp.length):=by
        by_cases c:lp.length > rp.length
        · rw [decide_eq_true c,Bool.not_true,beq_eq_false_iff_ne];omega
        · rw [decide_eq_false c,Bool.not_false,beq_iff_eq];omega
      cases b with
      |true=>
        rw [if_pos rfl,a5 k (by omega),Option.bind_some,a6 k (by omega),Option.bind_some,g2 k _ out x7 (by omega),e,Bool.true_and,Bool.not_or]
      |false=>
        rw [if_neg Bool.false_ne_true,g2 k _ out x7 (by omega),Bool.false_and,Bool.false_and]
theorem n_impl (N:List Int) (P:List S100) (V:List S51) (hP:P.length≤20) (hV:V.length≤1048) (j:Nat) (hj:j<V.length) (out:List Int) (ho:out.length≤1048) (g:Bool) (k:Nat) (x:Int) (hx:impl_least_c86.l0 k ((P.length:Int) - 1) 0 [(⟨N,P⟩:S33)] [V.eraseIdx j] [V]=some (x,g)):impl_NeedlessValves.l0 (k+1) out (V.length:Int) (j:Int) N P V=impl_NeedlessValves.l0 k (if g=true then out else out++[(j:Int)]) (V.length:Int) ((j+1:Nat):Int) N P V:=by
  rw [impl_NeedlessValves.l0.eq_def]
  simp only []
  rw [if_pos (by omega)]
  unfold impl_Valve_80.f impl_Valve_84.f impl_least_c86.f
  rw [if_pos (by omega),Option.bind_some,next_nat (n:=1048) (by omega) (by omega),if_pos ⟨by omega,by omega,by omega⟩,Option.bind_some,wrap_id (x:=(P.length:Int) - 1) (by omega) (by omega),Int.toNat_natCast]
  rw [hx,Option.bind_some]
  cases g with
  |true=>rfl
  |false=>rw [if_pos (show out.length<17592186044416 by omega)];rfl
theorem n_spec (N:List Int) (P:List S100) (V:List S51) (hV:V.length≤1048) (j:Nat) (hj:j<V.length) (out:List Int) (ho:out.length≤1048) (g:Bool) (k k2:Nat) (hq:spec_NeedlessValves.l1 k V out (j:Int) (V.eraseIdx j) true 0 N P=spec_NeedlessValves.l1 (k2+1) V out (j:Int) (V.eraseIdx j) (!g) (P.length:Int) N P):spec_NeedlessValves.l0 (k+1) V out (j:Int) N P=spec_NeedlessValves.l0 k2 V (if g=true then out else out++[(j:Int)]) ((j+1:Nat):Int) N P:=by
  have w:wrap64 ((j:Int)+1)=((j+1:Nat):Int):=next_nat (n:=1048) (by omega) (by omega)
  have q1:(j:Int)<(V.length:Int):=by omega
  have q2:(0:Int)≤(j:Int):=by omega
  have q3:(j:Int)≤(V.length:Int):=by omega
  have q4:(0:Int)≤((j+1:Nat):Int):=by omega
  have q5:((j+1:Nat):Int)≤(V.length:Int):=by omega
  have q6:([]:List S51).length+(V.take j).length<3518437208883:=by
    have:=List.length_take_le j V
    rw [List.length_nil];omega
  have q7:(([]:List S51)++V.take j).length+(V.drop (j+1)).length<3518437208883:=by
    have:=List.length_take_le j V
    have:=List.length_drop (i:=j+1) (l:=V)
    rw [List.nil_append];omega
  have q8:([]:List S51)++V.take j++V.drop (j+1)=V.eraseIdx j:=by rw [List.nil_append,← List.eraseIdx_eq_take_drop_succ]
  have e:spec_NeedlessValves.l0 (k+1) V out (j:Int) N P=spec_NeedlessValves.l1 k V out (j:Int) (V.eraseIdx j) true 0 N P:=by
    rw [spec_NeedlessValves.l0.eq_def]
    simp only []
    rw [if_pos q1,Option.bind_some,if_pos q2,if_pos q3,Option.bind_some,Int.toNat_natCast,if_pos q6,Option.bind_some,w,if_pos q4,if_pos q5,Option.bind_some,Int.toNat_natCast,if_pos q7,q8]
  rw [e,hq,spec_NeedlessValves.l1.eq_def]
  simp only []
  rw [if_neg (Int.lt_irrefl _),w]
  cases g with
  |true=>rw [if_neg (show ¬ (!true)=true from Bool.false_ne_true),if_pos (show true=true from rfl)]
  |false=>rw [if_pos (show (!false)=true from rfl),if_pos (show out.length<17592186044416 by omega),if_neg Bool.false_ne_true]
theorem outer {N:List Int} {P:List S100} (h:netv N P=true) (hE:Ends N.length P) (V:List S51) (hV:V.length≤1048):∀ (d j:Nat) (out:List Int),j+d=V.length→out.length≤j→∃ res:List Int,res.length≤V.length∧(∀ k,2105100+30 * d<k→impl_NeedlessValves.l0 k out (V.length:Int) (j:Int) N P V=some (res,0))∧∀ k,2105100+30 * d<k→spec_NeedlessValves.l0 k V out (j:Int) N P=some (res,0):=by
  have h20:=hE.1
  intro d
  induction d with
  |zero=>
    intro j out hj ho
    refine ⟨out,by omega,fun k hk=>?_,fun k hk=>?_⟩
    · obtain ⟨k,rfl⟩:=suc_of hk
      rw [impl_NeedlessValves.l0.eq_def]
      simp only []
      rw [if_neg (by omega)]
    · obtain ⟨k,rfl⟩:=suc_of hk
      rw [spec_NeedlessValves.l0.eq_def]
      simp only []
      rw [if_neg (by omega)]
  |succ d ih=>
    intro j out hj ho
    have hel:(V.eraseIdx j).length≤1048:=by rw [List.length_eraseIdx_of_lt (by omega)];omega
    obtain ⟨g,g1,g2⟩:=inner h hE V (V.eraseIdx j) (by omega) (by omega) (fun v hv=>List.mem_of_mem_eraseIdx hv) P.length 0 (by omega)
    obtain ⟨res,r1,r2,r3⟩:=ih (j+1) (if g=true then out else out++[(j:Int)]) (by omega) (by
      split
      · omega
      · rw [List.length_append,List.length_singleton];omega)
    refine ⟨res,r1,fun k hk=>?_,fun k hk=>?_⟩
    · obtain ⟨k,rfl⟩:=suc_of hk
      obtain ⟨x,hx⟩:=g1 k (by omega)
      rw [n_impl N P V h20 hV j (by omega) out (by omega) g k x hx]
      exact r2 k (by omega)
    · obtain ⟨k,rfl⟩:=suc_of hk
      have q:=g2 k true out (j:Int) (by omega)
      obtain ⟨k2,hk2⟩:=suc_of (show 0<k - P.length by omega)
      rw [hk2,Bool.true_and] at q
      rw [n_spec N P V hV j (by omega) out (by omega) g k k2 q]
      exact r3 k2 (by omega)
theorem need_both (N:List Int) (P:List S100) (V:List S51) (hN:N.length≤1048576) (hP:P.length≤1048576) (hs:∀ x ∈ P,x.f0.size≤1048576) (hVs:∀ x ∈ V,x.f0.size≤1048576):∃ (r:List Int) (e:Int),(∀ k,3200000<k→spec_NeedlessValves.f k N P V=some (r,e))∧(∀ k,3200000<k→impl_NeedlessValves.f k N P V=some (r,e))∧r.length≤20:=by
  have v:=fun k hk=>valves_both N P V hN hP hs hVs k hk
  cases hv:vv N P V with
  |false=>
    refine ⟨[],1,fun k hk=>?_,fun k hk=>?_,by simp⟩
    · unfold spec_NeedlessValves.f
      rw [(v k (by omega)).1,hv];rfl
    · unfold impl_NeedlessValves.f
      rw [(v k (by omega)).2,hv];rfl
  |true=>
    obtain ⟨n1,n2⟩:=vv_net hv
    have hE:=netv_ends n1 hs
    obtain ⟨res,r1,r2,r3⟩:=outer n1 hE V (by omega) V.length 0 [] (by omega) (by simp)
    rw [show ((0:Nat):Int)=0 from rfl] at r2 r3
    refine ⟨res,0,fun k hk=>?_,fun k hk=>?_,by omega⟩
    · unfold spec_NeedlessValves.f
      rw [(v k (by omega)).1,hv,Option.bind_some,if_pos rfl]
      exact r3 k (by omega)
    · unfold impl_NeedlessValves.f
      rw [(v k (by omega)).2,hv,Option.bind_some,if_pos rfl]
      exact r2 k (by omega)
theorem FnExactNeedlessValves:laws_FnExactNeedlessValves.Pure:=by
  intro x V hx hV
  obtain ⟨k,hk⟩:∃ k,k=5000000:=⟨_,rfl⟩
  refine ⟨k+14,?_⟩
  unfold laws_FnExactNeedlessValves.f
  obtain ⟨r,r1,r2,r3,r4⟩:=szNet x hx (k+14) (by omega)
  rw [r1,Option.bind_some]
  by_cases c:r<0
  · rw [if_pos c]
  · rw [if_neg c,laws_FnExactNeedlessValves.j0.eq_def]
    simp only []
    obtain ⟨q,q1,q2⟩:=szValves V hV r (by omega) (by omega) (k+13) (by omega)
    rw [q1,Option.bind_some]
    by_cases c2:q<0
    · rw [if_pos c2]
    · rw [if_neg c2,laws_FnExactNeedlessValves.j1.eq_def]
      simp only []
      have hn:=r4 (by omega)
      obtain ⟨v1,v2⟩:=q2 (by omega)
      have hv:(V.map vlv).length≤1048576:=by simpa using v1
      have hP:(x.f1.map pip).length≤1048576:=by simpa using hn.2.1
      obtain ⟨z,e,s,i,hz⟩:=need_both x.f0 (x.f1.map pip) (V.map vlv) hn.1 hP (pip_small hn.2.2) (vlv_small v2)
      obtain ⟨N',P',hm⟩:=markNet x.f0 (x.f1.map pip) hn.1 hP (k+8) (by omega)
      have h0:=hn.1
      obtain ⟨V',hm2⟩:=markVal (V.map vlv) hv (1+(x.f0.length:Int)+6 * ((x.f1.map pip).length:Int)) (by omega) (by omega) (k+8) (by omega)
      obtain ⟨m3,a3,b3,d3⟩:=markc_held z 1 (by omega) (by omega) (by omega) (k+6) (by omega)
      have ee:(e !=e)=false:=by simp
      rw [toNet x.f0 x.f1 hn (k+12) (by omega),toValves V v1 (k+12) (by omega)]
      simp only [s (k+12) (by omega),i (k+12) (by omega),eqI z (by omega) (k+12) (by omega),Option.bind_some,if_true,ee]
      rw [laws_FnExactNeedlessValves.j2.eq_def]
      simp only []
      rw [if_neg Bool.false_ne_true,laws_FnExactNeedlessValves.j3.eq_def]
      simp only []
      rw [toNet x.f0 x.f1 hn (k+10) (by omega)]
      simp only [Option.bind_some]
      rw [eqNet x.f0 x.f1 hn (k+10) (by omega),Option.bind_some,if_pos rfl,laws_FnExactNeedlessValves.j4.eq_def]
      simp only []
      rw [toValves V v1 (k+9) (by omega),Option.bind_some,eqValves _ hv (k+9) (by omega),Option.bind_some,if_pos rfl,laws_FnExactNeedlessValves.j5.eq_def]
      simp only []
      rw [hm]
      simp only [hm2,eqI z (by omega) (k+8) (by omega),Option.bind_some,if_true,ee]
      rw [if_neg (by omega),laws_FnExactNeedlessValves.j6.eq_def]
      simp only []
      rw [if_neg Bool.false_ne_true,laws_FnExactNeedlessValves.j7.eq_def]
      simp only []
      rw [a3]
      simp only [d3 (k+6) (by omega),Option.bind_some]
      rw [if_neg (by omega),laws_FnExactNeedlessValves.j8.eq_def]
      simp only []
      rw [if_pos trivial,laws_FnExactNeedlessValves.j9.eq_def]
      simp only []
      rw [toNet x.f0 x.f1 hn (k+4) (by omega),toValves V v1 (k+4) (by omega)]
      simp only [i (k+4) (by omega),eqI z (by omega) (k+4) (by omega),Option.bind_some,if_true,ee]
      rw [laws_FnExactNeedlessValves.j10.eq_def]
      simp only []
      rw [if_neg Bool.false_ne_true,laws_FnExactNeedlessValves.j11.eq_def]
      simp only []
      simp only [d3 (k+2) (by omega),Option.bind_some]
      rw [if_neg (by omega),laws_FnExactNeedlessValves.j12.eq_def]
      simp only []
      first|rw [if_pos rfl]|rw [if_pos trivial]

end Go.Proofs.Ytheokilgacmlmaa.Pure
