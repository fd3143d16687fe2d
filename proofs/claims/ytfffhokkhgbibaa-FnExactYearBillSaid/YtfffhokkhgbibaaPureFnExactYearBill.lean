/- YearBill of the program returns what the reference's returns, for every tariff, heats and powers, and changes none of them. No condition. -/
import Derived.Test.YtfffhokkhgbibaaPFnExactYearBillx10
namespace Go.Proofs.Ytfffhokkhgbibaa.Pure
open Go.RowKit Go.Proofs.Ytfffhokkhgbibaa.PFnExactYearBill Go.Proofs.YtfffhokkhgbibaaW.PrintWords Go.Proofs.YtfffhokkhgbibaaW.PrintLast Go.Proofs.YtfffhokkhgbibaaW.PrintMore
set_option linter.unusedVariables false
set_option linter.unusedSimpArgs false

theorem wrap_id {x:Int} (h1:-9223372036854775808≤x) (h2:x≤9223372036854775807):wrap64 x=x:=by unfold wrap64;omega
theorem wf_i64 {x:Int} (h:(Lit.int .i64 x).wf=true):-9223372036854775808≤x∧x≤9223372036854775807:=by
  simp [Lit.wf,IntKind.min,IntKind.max,IntKind.bits,IntKind.signed] at h;omega
theorem mul_bounds {a b A B:Int} (h0:0≤a) (hA:a≤A) (h1:-B≤b) (h2:b≤B) (hB:0≤B):-(A * B)≤a * b∧a * b≤A * B:=by
  have e1:=Int.mul_le_mul_of_nonneg_left h2 h0
  have e2:=Int.mul_le_mul_of_nonneg_right hA hB
  have e3:=Int.mul_le_mul_of_nonneg_left h1 h0
  have e4:a * -B= -(a * B):=Int.mul_neg a B
  omega
theorem mul_nonneg' {a b:Int} (h0:0≤a) (h1:0≤b):0≤a * b:=Int.mul_nonneg h0 h1
theorem next_nat {j n:Nat} (h:j<n) (hn:n≤4611686018427387904):wrap64 ((j:Int)+1)=((j+1:Nat):Int):=by
  rw [wrap_id (by omega) (by omega)];omega
theorem rd_nat (l:List Int) (j:Nat):rd l (j:Int)=l.getD j 0:=by unfold rd;simp
theorem ifp {α:Type} {c:Prop} [Decidable c] {a b:α} (h:c):(if c then a else b)=a:=if_pos h
theorem ifn {α:Type} {c:Prop} [Decidable c] {a b:α} (h:¬ c):(if c then a else b)=b:=if_neg h
theorem suc_of {k d:Nat} (h:d<k):∃ m,k=m+1:=⟨k - 1,by omega⟩
theorem getD_lt {α:Type} {l:List α} {j:Nat} {d:α} (h:j<l.length):l.getD j d=l[j]:=by
  rw [List.getD_eq_getElem?_getD,List.getElem?_eq_getElem h];rfl
theorem drop_cons {α:Type} (l:List α) {j:Nat} (h:j<l.length) (d:α):l.drop j=l.getD j d :: l.drop (j+1):=by
  rw [getD_lt h];exact List.drop_eq_getElem_cons h
theorem up {α:Type} {g:Nat→Option α} (hm:∀ k,LeO (g k) (g (k+1))) {k0:Nat} {r:α} (h:g k0=some r):∀ k,k0≤k→g k=some r:=by
  intro k hk
  induction hk with
  |refl=>exact h
  |step _ ih=>exact hm _ _ ih

theorem name_same (s:ByteArray):∀ (k:Nat) (i:Int),spec_l01Name.l0 k s i=impl_onlyNameBytes.l0 k s (s.size:Int) i:=by
  intro k
  induction k with
  |zero=>intro i;simp only [spec_l01Name.l0,impl_onlyNameBytes.l0]
  |succ k ih=>
    intro i
    simp only [spec_l01Name.l0,impl_onlyNameBytes.l0]
    unfold spec_l01Small.f spec_l01Digit.f
    rw [ih]
    generalize impl_onlyNameBytes.l0 k s (s.size:Int) (wrap64 (i+1))=e
    generalize bt s i=b
    by_cases h1:i<(s.size:Int)
    · rw [if_pos h1,if_pos h1,if_pos h1]
      by_cases h2:0≤i
      · rw [if_pos h2,if_pos h2]
        by_cases c1:b<97
        · rw [if_pos c1,if_neg (by omega)]
          by_cases c2:b<48
          · rw [if_pos c2,if_neg (by omega)];simp
          · rw [if_neg c2,if_pos (by omega)]
            by_cases c3:b > 57
            · rw [if_pos c3,decide_eq_false (by omega)];simp
            · rw [if_neg c3,decide_eq_true (by omega)];simp
        · rw [if_neg c1,if_pos (by omega)]
          by_cases c4:b > 122
          · rw [if_pos c4,decide_eq_false (by omega),if_pos (by omega),if_neg (by omega),decide_eq_false (by omega),if_pos (by omega)];simp
          · rw [if_neg c4,decide_eq_true (by omega)];simp
      · rw [if_neg h2,if_neg h2]
    · rw [if_neg h1,if_neg h1]
theorem name_total (s:ByteArray) (hs:s.size≤35184372088832):∀ (d j k:Nat),j+d=s.size→d<k→∃ r,impl_onlyNameBytes.l0 k s (s.size:Int) (j:Int)=some r:=by
  intro d
  induction d with
  |zero=>
    intro j k hj hk
    obtain ⟨k,rfl⟩:=suc_of hk
    simp only [impl_onlyNameBytes.l0]
    rw [if_neg (by omega)];exact ⟨_,rfl⟩
  |succ d ih=>
    intro j k hj hk
    obtain ⟨k,rfl⟩:=suc_of hk
    obtain ⟨r,hr⟩:=ih (j+1) k (by omega) (by omega)
    simp only [impl_onlyNameBytes.l0]
    rw [if_pos (by omega),if_pos (by omega),if_pos (by omega),next_nat (n:=s.size) (by omega) (by omega),hr]
    split
    · split
      · exact ⟨_,rfl⟩
      · split
        · exact ⟨_,rfl⟩
        · exact ⟨_,rfl⟩
    · split
      · split
        · exact ⟨_,rfl⟩
        · split
          · exact ⟨_,rfl⟩
          · exact ⟨_,rfl⟩
      · exact ⟨_,rfl⟩
/-- A name is one for both. -/
theorem name_both (s:ByteArray) (hs:s.size≤35184372088832):∃ b:Bool,(∀ k,s.size+3≤k→spec_l01Name.f k s=some b)∧(∀ k,s.size+3≤k→impl_IsName.f k s=some b)∧(b=true→1≤s.size∧s.size≤10):=by
  obtain ⟨r,hr⟩:=name_total s hs s.size 0 (s.size+2) (by omega) (by omega)
  have hr3:impl_onlyNameBytes.l0 (s.size+3) s (s.size:Int) 0=some r:=impl_onlyNameBytes.mono_l (s.size+2) s (s.size:Int) 0 r hr
  have hr2:impl_onlyNameBytes.l0 (s.size+2) s (s.size:Int) 0=some r:=hr
  have key:∃ b:Bool,spec_l01Name.f (s.size+3) s=some b∧impl_IsName.f (s.size+3) s=some b∧(b=true→1≤s.size∧s.size≤10):=by
    have bad:spec_l01Name.j0 (s.size+3) s true=some false:=by simp only [spec_l01Name.j0];simp
    unfold spec_l01Name.f impl_IsName.f impl_onlyNameBytes.f
    by_cases h0:s.size=0
    · have e:s.toList=[]:=by
        rw [ByteArray.toList_eq];exact List.eq_nil_of_length_eq_zero (by rw [Array.length_toList];exact h0)
      rw [if_pos e,if_pos (by omega),bad];exact ⟨_,rfl,rfl,by simp⟩
    · have e:¬ s.toList=[]:=by
        rw [ByteArray.toList_eq]
        intro h
        have:s.data.toList.length=0:=by rw [h];rfl
        rw [Array.length_toList] at this
        exact h0 this
      rw [if_neg e,if_neg (show ¬ (s.size:Int)<1 by omega)]
      by_cases h1:(s.size:Int) > 10
      · rw [if_pos h1,if_pos h1,bad];exact ⟨_,rfl,rfl,by simp⟩
      · rw [if_neg h1,if_neg h1,if_pos (by omega),if_pos (by omega)]
        unfold spec_l01Small.f
        by_cases c1:bt s 0<97
        · rw [if_pos c1,if_neg (by omega)]
          simp only [Option.bind_some,Bool.not_false]
          exact ⟨_,bad,rfl,by simp⟩
        · rw [if_neg c1,if_pos (by omega)]
          by_cases c2:bt s 0 > 122
          · rw [if_pos c2,decide_eq_false (by omega)]
            simp only [Option.bind_some,Bool.not_false]
            exact ⟨_,bad,rfl,by simp⟩
          · rw [if_neg c2,decide_eq_true (by omega),hr3]
            simp only [Option.bind_some,Bool.not_true]
            refine ⟨r,?_,rfl,fun _=>by omega⟩
            simp only [spec_l01Name.j0]
            rw [if_neg Bool.false_ne_true,name_same]
            exact hr2
  obtain ⟨b,h1,h2,h3⟩:=key
  exact ⟨b,up (spec_l01Name.mono s) h1,up (impl_IsName.mono s) h2,h3⟩

theorem impl_in (n lo hi:Int):impl_within.f n lo hi=some (decide (lo≤n∧n≤hi)):=by unfold impl_within.f;split<;>simp<;>omega

theorem spec_in (n lo hi:Int):spec_l00In.f n lo hi=some (decide (lo≤n∧n≤hi)):=by unfold spec_l00In.f;split<;>simp<;>omega

theorem rdll_nat (l:List (List Int)) (j:Nat):rd_L1 l (j:Int)=l.getD j []:=by unfold rd_L1;simp
theorem szII_l0 (l:List (List Int)) (hl:l.length≤1048576) (hi:∀ x ∈ l,x.length≤9223372036854775807):∀ (d j k:Nat) (n:Int),j+d=l.length→d<k→0≤n→n≤1048576→∃ r,laws_szInt64SS.l0 k l n (j:Int)=some r∧r≤n∧(0≤r→∀ i,j≤i→i<l.length→(l.getD i []).length≤1048576):=by
  intro d
  induction d with
  |zero=>
    intro j k n hj hk h0 h1
    obtain ⟨k,rfl⟩:=suc_of hk
    simp only [laws_szInt64SS.l0]
    rw [if_neg (by omega)]
    exact ⟨n,rfl,by omega,fun _ i hi1 hi2=>by omega⟩
  |succ d ih=>
    intro j k n hj hk h0 h1
    obtain ⟨k,rfl⟩:=suc_of hk
    simp only [laws_szInt64SS.l0]
    rw [if_pos (by omega),if_pos (by omega),rdll_nat]
    have hx:=hi (l.getD j []) (by rw [getD_lt (by omega)];exact List.getElem_mem _)
    unfold laws_szInt64S.f
    rw [wrap_id (x:=n - ((l.getD j []).length:Int)) (by omega) (by omega)]
    by_cases c:n - ((l.getD j []).length:Int)<0
    · rw [if_pos c]
      simp only [Option.bind_some]
      rw [if_pos (by omega)]
      exact ⟨-1,rfl,by omega,fun h=>by omega⟩
    · rw [if_neg c]
      simp only [Option.bind_some]
      rw [if_neg c,next_nat (n:=l.length) (by omega) (by omega)]
      obtain ⟨r,h2,h3,h4⟩:=ih (j+1) k (n - ((l.getD j []).length:Int)) (by omega) (by omega) (by omega) (by omega)
      refine ⟨r,h2,by omega,fun hr i hi1 hi2=>?_⟩
      by_cases e:i=j
      · subst e;omega
      · exact h4 hr i (by omega) hi2
theorem szII (l:List (List Int)) (hl:l.length≤9223372036854775807) (hi:∀ x ∈ l,x.length≤9223372036854775807) (k:Nat) (hk:1048576<k):∃ r,laws_szInt64SS.f k l 1048576=some r∧(0≤r→l.length≤1048576∧∀ x ∈ l,x.length≤1048576):=by
  unfold laws_szInt64SS.f
  rw [wrap_id (x:=1048576 - (l.length:Int)) (by omega) (by omega)]
  by_cases c:(1048576:Int) - (l.length:Int)<0
  · rw [if_pos c];exact ⟨-1,rfl,fun h=>by omega⟩
  · rw [if_neg c]
    obtain ⟨r,h2,_,h4⟩:=szII_l0 l (by omega) hi l.length 0 k (1048576 - (l.length:Int)) (by omega) (by omega) (by omega) (by omega)
    refine ⟨r,h2,fun hr=>⟨by omega,fun x hx=>?_⟩⟩
    obtain ⟨i,hi1,rfl⟩:=List.mem_iff_getElem.1 hx
    have:=h4 hr i (by omega) hi1
    rwa [getD_lt hi1] at this

def lv0 (L:List (List Int)) (i:Nat):Int:=rd (L.getD i []) 0
def lv1 (L:List (List Int)) (i:Nat):Int:=rd (L.getD i []) 1
def stepOk (L:List (List Int)) (i:Nat):Bool:=decide ((L.getD i []).length=2)&&(decide (0≤lv0 L i∧lv0 L i≤1000000)&&(decide (0≤lv1 L i∧lv1 L i≤10000)&&(if i=0 then decide (lv0 L i=0) else decide (lv0 L (i - 1)<lv0 L i))))
def allFrom (L:List (List Int)):Nat→Nat→Bool
  |0,_=>true
  |d+1,j=>stepOk L j&&allFrom L d (j+1)
theorem spec_lv_l0 (s:ByteArray) (f p:Int) (L:List (List Int)) (hL:L.length≤6):∀ (d j k:Nat),j+d=L.length→2 * d<k→(0<j→(L.getD (j - 1) []).length=2)→
    spec_l21Ok.l0 k [(⟨s,f,p,L⟩:S29)] (j:Int)=some (allFrom L d j):=by
  intro d
  induction d with
  |zero=>
    intro j k hj hk hp
    obtain ⟨k,rfl⟩:=suc_of (show 0<k by omega)
    simp only [spec_l21Ok.l0,show rd_T29 [(⟨s,f,p,L⟩:S29)] 0=⟨s,f,p,L⟩ from rfl]
    rw [if_pos (by simp),if_neg (by omega)]
    rfl
  |succ d ih=>
    intro j k hj hk hp
    obtain ⟨k,rfl⟩:∃ m,k=m+1+1:=⟨k - 2,by omega⟩
    have bad:spec_l21Ok.j2 (k+1) [(⟨s,f,p,L⟩:S29)] (j:Int) true=some false:=by simp only [spec_l21Ok.j2];simp
    have good:spec_l21Ok.j2 (k+1) [(⟨s,f,p,L⟩:S29)] (j:Int) false=spec_l21Ok.l0 k [(⟨s,f,p,L⟩:S29)] ((j+1:Nat):Int):=by
      simp only [spec_l21Ok.j2]
      rw [if_neg Bool.false_ne_true,next_nat (n:=L.length) (by omega) (by omega)]
    simp only [spec_l21Ok.l0,show rd_T29 [(⟨s,f,p,L⟩:S29)] 0=⟨s,f,p,L⟩ from rfl]
    rw [if_pos (by simp),if_pos (by omega),if_pos (by omega),rdll_nat]
    unfold allFrom stepOk lv0 lv1
    by_cases hlen:(L.getD j []).length=2
    · have hr:=ih (j+1) k (by omega) (by omega) (fun _=>hlen)
      rw [if_pos (show ((L.getD j []).length:Int)=2 by omega),if_pos (show (0:Int)<((L.getD j []).length:Int) by omega),if_pos (show (1:Int)<((L.getD j []).length:Int) by omega),decide_eq_true hlen,Bool.true_and]
      simp only [spec_in,Option.bind_some]
      generalize hx0:rd (L.getD j []) 0=x0
      generalize rd (L.getD j []) 1=x1
      by_cases hA:0≤x0∧x0≤1000000
      · rw [decide_eq_true hA,if_pos rfl,Bool.true_and]
        by_cases hB:0≤x1∧x1≤10000
        · rw [decide_eq_true hB,if_pos rfl,Bool.true_and]
          by_cases hz:j=0
          · rw [if_pos (show (j:Int)=0 by omega),if_pos hz]
            by_cases h00:x0=0
            · rw [if_pos h00,if_neg (show ¬ (j:Int) > 0 by omega),good,hr,decide_eq_true h00,Bool.true_and]
            · rw [if_neg h00,bad,decide_eq_false h00];rfl
          · have hpv:=hp (by omega)
            rw [if_neg (show ¬ (j:Int)=0 by omega),if_neg hz,if_pos (show (j:Int) > 0 by omega)]
            have ew:wrap64 ((j:Int) - 1)=((j - 1:Nat):Int):=by rw [wrap_id (by omega) (by omega)];omega
            rw [ew,rdll_nat,if_pos (show (0:Int)≤((j - 1:Nat):Int) by omega),if_pos (show ((j - 1:Nat):Int)<(L.length:Int) by omega),if_pos (show (0:Int)<((L.getD (j - 1) []).length:Int) by omega)]
            generalize rd (L.getD (j - 1) []) 0=y0
            by_cases hc:y0<x0
            · rw [decide_eq_false (show ¬ y0≥x0 by omega),good,hr,decide_eq_true hc,Bool.true_and]
            · rw [decide_eq_true (show y0≥x0 by omega),bad,decide_eq_false hc];rfl
        · rw [decide_eq_false hB,if_neg Bool.false_ne_true,bad];rfl
      · rw [decide_eq_false hA,if_neg Bool.false_ne_true,bad];rfl
    · rw [if_neg (show ¬ ((L.getD j []).length:Int)=2 by omega),bad,decide_eq_false hlen];rfl
theorem impl_lv_l0 (s:ByteArray) (f p:Int) (L:List (List Int)) (hL:L.length≤6):∀ (d j k:Nat),j+d=L.length→2 * d<k→(0<j→(L.getD (j - 1) []).length=2)→
    impl_ValidTariff.l0 k L (L.length:Int) (j:Int) s f p L=some (allFrom L d j):=by
  intro d
  induction d with
  |zero=>
    intro j k hj hk hp
    obtain ⟨k,rfl⟩:=suc_of (show 0<k by omega)
    simp only [impl_ValidTariff.l0]
    rw [if_neg (by omega)]
    rfl
  |succ d ih=>
    intro j k hj hk hp
    obtain ⟨k,rfl⟩:∃ m,k=m+1+1:=⟨k - 2,by omega⟩
    have bad:impl_ValidTariff.j2 (k+1) L (L.length:Int) (j:Int) true s f p L=some false:=by simp only [impl_ValidTariff.j2];simp
    have good:impl_ValidTariff.j2 (k+1) L (L.length:Int) (j:Int) false s f p L=impl_ValidTariff.l0 k L (L.length:Int) ((j+1:Nat):Int) s f p L:=by
      simp only [impl_ValidTariff.j2]
      rw [if_neg Bool.false_ne_true,next_nat (n:=L.length) (by omega) (by omega)]
    simp only [impl_ValidTariff.l0]
    rw [if_pos (by omega),if_pos (by omega),if_pos (by omega),rdll_nat]
    unfold allFrom stepOk lv0 lv1
    by_cases hlen:(L.getD j []).length=2
    · have hr:=ih (j+1) k (by omega) (by omega) (fun _=>hlen)
      rw [if_pos (show ((L.getD j []).length:Int)=2 by omega),if_pos (show (0:Int)<((L.getD j []).length:Int) by omega),if_pos (show (1:Int)<((L.getD j []).length:Int) by omega),decide_eq_true hlen,Bool.true_and]
      simp only [impl_in,Option.bind_some]
      generalize hx0:rd (L.getD j []) 0=x0
      generalize rd (L.getD j []) 1=x1
      by_cases hA:0≤x0∧x0≤1000000
      · rw [decide_eq_true hA,if_pos rfl,Bool.true_and]
        by_cases hB:0≤x1∧x1≤10000
        · rw [decide_eq_true hB,if_pos rfl,Bool.true_and]
          by_cases hz:j=0
          · rw [if_pos (show (j:Int)=0 by omega),if_pos hz]
            by_cases h00:x0=0
            · rw [if_pos h00,if_neg (show ¬ (j:Int) > 0 by omega),good,hr,decide_eq_true h00,Bool.true_and]
            · rw [if_neg h00,bad,decide_eq_false h00];rfl
          · have hpv:=hp (by omega)
            rw [if_neg (show ¬ (j:Int)=0 by omega),if_neg hz,if_pos (show (j:Int) > 0 by omega)]
            have ew:wrap64 ((j:Int) - 1)=((j - 1:Nat):Int):=by rw [wrap_id (by omega) (by omega)];omega
            rw [ew,rdll_nat,if_pos (show (0:Int)≤((j - 1:Nat):Int) by omega),if_pos (show ((j - 1:Nat):Int)<(L.length:Int) by omega),if_pos (show (0:Int)<((L.getD (j - 1) []).length:Int) by omega)]
            generalize rd (L.getD (j - 1) []) 0=y0
            by_cases hc:y0<x0
            · rw [decide_eq_false (show ¬ x0≤y0 by omega),good,hr,decide_eq_true hc,Bool.true_and]
            · rw [decide_eq_true (show x0≤y0 by omega),bad,decide_eq_false hc];rfl
        · rw [decide_eq_false hB,if_neg Bool.false_ne_true,bad];rfl
      · rw [decide_eq_false hA,if_neg Bool.false_ne_true,bad];rfl
    · rw [if_neg (show ¬ ((L.getD j []).length:Int)=2 by omega),bad,decide_eq_false hlen];rfl
theorem allFrom_at (L:List (List Int)):∀ (d j:Nat),allFrom L d j=true→∀ i,j≤i→i<j+d→stepOk L i=true:=by
  intro d
  induction d with
  |zero=>intro j _ i h1 h2;omega
  |succ d ih=>
    intro j h i h1 h2
    unfold allFrom at h
    rw [Bool.and_eq_true] at h
    by_cases e:i=j
    · subst e;exact h.1
    · exact ih (j+1) h.2 i (by omega) (by omega)
def TarOk (f p:Int) (L:List (List Int)):Prop:=(0≤f∧f≤1000000)∧(0≤p∧p≤10000)∧1≤L.length∧L.length≤6∧∀ i,i<L.length→(L.getD i []).length=2∧(0≤lv0 L i∧lv0 L i≤1000000)∧(0≤lv1 L i∧lv1 L i≤10000)∧(i=0→lv0 L i=0)∧(0<i→lv0 L (i - 1)<lv0 L i)
theorem tariff_both (s:ByteArray) (f p:Int) (L:List (List Int)) (hs:s.size≤35184372088832):∃ v:Bool,(∀ k,s.size+30≤k→spec_l21Ok.f k [(⟨s,f,p,L⟩:S29)]=some v)∧(∀ k,s.size+30≤k→impl_ValidTariff.f k s f p L=some v)∧(v=true→TarOk f p L∧s.size≤10):=by
  obtain ⟨b,n1,n2,n3⟩:=name_both s hs
  have e:rd_T29 [(⟨s,f,p,L⟩:S29)] 0=⟨s,f,p,L⟩:=rfl
  have sbad:∀ k,spec_l21Ok.j0 (k+1) [(⟨s,f,p,L⟩:S29)] true=some false:=fun k=>by simp only [spec_l21Ok.j0];simp
  have ibad:∀ k,impl_ValidTariff.j0 (k+1) true s f p L=some false:=fun k=>by simp only [impl_ValidTariff.j0];simp
  refine ⟨b&&(decide (0≤f∧f≤1000000)&&(decide (0≤p∧p≤10000)&&(decide (1≤(L.length:Int)∧(L.length:Int)≤6)&&allFrom L L.length 0))),fun k hk=>?_,fun k hk=>?_,fun h=>?_⟩
  · obtain ⟨k,rfl⟩:=suc_of (show 0<k by omega)
    unfold spec_l21Ok.f
    rw [if_pos (by simp)]
    simp only [e,spec_in,n1 (k+1) (by omega),Option.bind_some,sbad]
    cases b
    · rfl
    · cases decide (0≤f∧f≤1000000)
      · rfl
      · cases decide (0≤p∧p≤10000)
        · rfl
        · simp only [if_true,Bool.true_and]
          by_cases h:1≤(L.length:Int)∧(L.length:Int)≤6
          · rw [decide_eq_true h]
            simp only [Bool.not_true,spec_l21Ok.j0,Bool.true_and]
            rw [if_neg Bool.false_ne_true]
            exact spec_lv_l0 s f p L (by omega) L.length 0 k (by omega) (by omega) (fun h=>absurd h (by omega))
          · rw [decide_eq_false h,Bool.not_false,sbad];rfl
  · obtain ⟨k,rfl⟩:=suc_of (show 0<k by omega)
    unfold impl_ValidTariff.f
    simp only [impl_in,n2 (k+1) (by omega),Option.bind_some,ibad]
    cases b
    · rfl
    · cases decide (0≤f∧f≤1000000)
      · rfl
      · cases decide (0≤p∧p≤10000)
        · rfl
        · simp only [if_true,Bool.true_and]
          by_cases h1:(L.length:Int)<1
          · rw [if_pos h1,decide_eq_false (by omega)];rfl
          · rw [if_neg h1]
            by_cases h2:(L.length:Int) > 6
            · rw [decide_eq_true h2,ibad,decide_eq_false (by omega)];rfl
            · rw [decide_eq_false h2,decide_eq_true (by omega)]
              simp only [impl_ValidTariff.j0,Bool.true_and]
              rw [if_neg Bool.false_ne_true]
              exact impl_lv_l0 s f p L (by omega) L.length 0 k (by omega) (by omega) (fun h=>absurd h (by omega))
  · simp only [Bool.and_eq_true,decide_eq_true_eq] at h
    obtain ⟨hb,hf,hp,hl,ha⟩:=h
    refine ⟨⟨hf,hp,by omega,by omega,fun i hi=>?_⟩,(n3 hb).2⟩
    have h:=allFrom_at L L.length 0 ha i (by omega) (by omega)
    unfold stepOk at h
    simp only [Bool.and_eq_true,decide_eq_true_eq] at h
    obtain ⟨g1,g2,g3,g4⟩:=h
    refine ⟨g1,g2,g3,fun hz=>?_,fun hz=>?_⟩
    · rw [if_pos hz] at g4;exact of_decide_eq_true g4
    · rw [if_neg (by omega)] at g4;exact of_decide_eq_true g4

theorem spec_heat (x:Int):spec_l21Heat.f x=some (decide (0≤x∧x≤1000000)):=by unfold spec_l21Heat.f;rw [spec_in];rfl

def tm (e x0 x1:Int):Int:=(if 0 > e - x0 then 0 else e - x0) * x1
theorem tm_b {e x0 x1:Int} (h0:0≤e) (h1:e≤1000000) (h2:0≤x0) (h4:0≤x1) (h5:x1≤10000):0≤tm e x0 x1∧tm e x0 x1≤10000000000:=by
  unfold tm
  generalize hg:(if 0 > e - x0 then (0:Int) else e - x0)=g
  have g0:0≤g∧g≤1000000:=by rw [← hg];split<;>omega
  have m:=mul_bounds (a:=g) (b:=x1) (A:=1000000) (B:=10000) g0.1 g0.2 (by omega) h5 (by omega)
  have n:=mul_nonneg' g0.1 h4
  omega
theorem smin (a b:Int):spec_l00Min.f a b=some (if a<b then a else b):=by unfold spec_l00Min.f;split<;>rfl
theorem smax (a b:Int):spec_l00Max.f a b=some (if a > b then a else b):=by unfold spec_l00Max.f;split<;>rfl
theorem mn_eq (a b:Int):mn a b=if a<b then a else b:=by unfold mn;by_cases h1:b<a<;>by_cases h2:a<b<;>simp [h1,h2]<;>omega
theorem mx_eq (a:Int):mx a 0=if 0 > a then 0 else a:=rfl
theorem cost_step {u y x0 x1:Int} (h0:0≤y) (h1:y≤1000000) (h2:0≤x0) (h3:x0≤1000000) (h4:0≤x1) (h5:x1≤10000) (hu:0≤u) (hu1:u≤60000000000):wrap64 (u+wrap64 ((if 0 > wrap64 (y - x0) then 0 else wrap64 (y - x0)) * x1))=u+tm y x0 x1:=by
  have tb:=tm_b h0 h1 h2 h4 h5
  rw [wrap_id (x:=y - x0) (by omega) (by omega)]
  have e:(if 0 > y - x0 then (0:Int) else y - x0) * x1=tm y x0 x1:=rfl
  rw [e]
  generalize tm y x0 x1=z at tb
  rw [wrap_id (x:=z) (by omega) (by omega),wrap_id (x:=u+z) (by omega) (by omega)]
theorem cost_l0 (s:ByteArray) (f p:Int) (L:List (List Int)) (hT:TarOk f p L) (h:Int) (hh0:0≤h) (hh1:h≤1000000):∀ (d j:Nat) (u:Int),j+d=L.length→0≤u→u≤(j:Int) * 10000000000→∃ c,
    (∀ k,d<k→spec_l21Cost.l0 k [(⟨s,f,p,L⟩:S29)] h u (j:Int)=some c)∧(∀ k,d<k→impl_Tariff_heatCost.l0 k h u L (L.length:Int) (j:Int) s f p L=some c)∧0≤c∧c≤60000000000:=by
  have e:rd_T29 [(⟨s,f,p,L⟩:S29)] 0=⟨s,f,p,L⟩:=rfl
  have ht:(0:Int)<(([(⟨s,f,p,L⟩:S29)]).length:Int):=by simp
  obtain ⟨_,_,hl1,hl6,hall⟩:=hT
  intro d
  induction d with
  |zero=>
    intro j u hj hu hu1
    have hj1:¬ (j:Int)<(L.length:Int):=by omega
    refine ⟨u,fun k hk=>?_,fun k hk=>?_,by omega,by omega⟩
    · obtain ⟨k,rfl⟩:=suc_of (show 0<k by omega)
      simp only [spec_l21Cost.l0,e,ht,hj1,if_true,if_false]
    · obtain ⟨k,rfl⟩:=suc_of (show 0<k by omega)
      simp only [impl_Tariff_heatCost.l0,hj1,if_false]
  |succ d ih=>
    intro j u hj hu hu1
    have hjl:j<L.length:=by omega
    have hn:=next_nat (j:=j) (n:=L.length) hjl (by omega)
    have hj0:(0:Int)≤(j:Int):=by omega
    have hj1:(j:Int)<(L.length:Int):=by omega
    have hj3:(0:Int)≤((j+1:Nat):Int):=by omega
    have hw:wrap64 ((L.length:Int) - 1)=(L.length:Int) - 1:=wrap_id (by omega) (by omega)
    have hu6:u≤60000000000:=by omega
    have hjd:j+1+d=L.length:=by omega
    have g1:=(hall j hjl).1
    have hz0:(0:Int)<((L.getD j []).length:Int):=by omega
    have hz1:(1:Int)<((L.getD j []).length:Int):=by omega
    have g2:=(hall j hjl).2.1
    have g3:=(hall j hjl).2.2.1
    unfold lv0 at g2
    unfold lv1 at g3
    by_cases hlast:j+1<L.length
    · have n1:=(hall (j+1) hlast).1
      have hj2:((j+1:Nat):Int)<(L.length:Int):=by omega
      have hj4:(j:Int)<(L.length:Int) - 1:=by omega
      have hz2:(0:Int)<((L.getD (j+1) []).length:Int):=by omega
      have n2:=(hall (j+1) hlast).2.1
      unfold lv0 at n2
      have y0:0≤(if h<rd (L.getD (j+1) []) 0 then h else rd (L.getD (j+1) []) 0):=by split<;>omega
      have y1:(if h<rd (L.getD (j+1) []) 0 then h else rd (L.getD (j+1) []) 0)≤1000000:=by split<;>omega
      have tb:=tm_b y0 y1 g2.1 g3.1 g3.2
      have st:=cost_step y0 y1 g2.1 g2.2 g3.1 g3.2 hu hu6
      obtain ⟨c,c1,c2,c3,c4⟩:=ih (j+1) (u+tm (if h<rd (L.getD (j+1) []) 0 then h else rd (L.getD (j+1) []) 0) (rd (L.getD j []) 0) (rd (L.getD j []) 1)) hjd (by omega) (by omega)
      refine ⟨c,fun k hk=>?_,fun k hk=>?_,c3,c4⟩
      · obtain ⟨k,rfl⟩:=suc_of (show 0<k by omega)
        simp only [spec_l21Cost.l0,e,ht,hn,smin,smax,Option.bind_some,rdll_nat,hj0,hj1,hj2,hj3,hz0,hz1,hz2,if_true,st]
        exact c1 k (by omega)
      · obtain ⟨k,rfl⟩:=suc_of (show 0<k by omega)
        simp only [impl_Tariff_heatCost.l0,hn,hw,mn_eq,mx_eq,rdll_nat,hj0,hj1,hj2,hj3,hj4,hz0,hz1,hz2,if_true,st]
        exact c2 k (by omega)
    · have hj2:¬ ((j+1:Nat):Int)<(L.length:Int):=by omega
      have hj4:¬ (j:Int)<(L.length:Int) - 1:=by omega
      have tb:=tm_b (e:=h) (x0:=rd (L.getD j []) 0) (x1:=rd (L.getD j []) 1) hh0 hh1 g2.1 g3.1 g3.2
      have st:=cost_step (y:=h) hh0 hh1 g2.1 g2.2 g3.1 g3.2 hu hu6
      obtain ⟨c,c1,c2,c3,c4⟩:=ih (j+1) (u+tm h (rd (L.getD j []) 0) (rd (L.getD j []) 1)) hjd (by omega) (by omega)
      refine ⟨c,fun k hk=>?_,fun k hk=>?_,c3,c4⟩
      · obtain ⟨k,rfl⟩:=suc_of (show 0<k by omega)
        simp only [spec_l21Cost.l0,e,ht,hn,smax,Option.bind_some,rdll_nat,hj0,hj1,hj2,hj3,hz0,hz1,if_true,if_false,st]
        exact c1 k (by omega)
      · obtain ⟨k,rfl⟩:=suc_of (show 0<k by omega)
        simp only [impl_Tariff_heatCost.l0,hn,hw,mx_eq,rdll_nat,hj0,hj1,hj4,hz0,hz1,if_true,if_false,st]
        exact c2 k (by omega)
theorem cost_both (s:ByteArray) (f p:Int) (L:List (List Int)) (hT:TarOk f p L) (h:Int) (hh0:0≤h) (hh1:h≤1000000):∃ c,(∀ k,20≤k→spec_l21Cost.f k [(⟨s,f,p,L⟩:S29)] h=some c)∧(∀ k,20≤k→impl_Tariff_heatCost.f k s f p L h=some c)∧0≤c∧c≤60000000000:=by
  obtain ⟨c,c1,c2,c3,c4⟩:=cost_l0 s f p L hT h hh0 hh1 L.length 0 0 (by omega) (by omega) (by omega)
  have hl:=hT.2.2.2.1
  exact ⟨c,fun k hk=>c1 k (by omega),fun k hk=>c2 k (by omega),c3,c4⟩

def rdiv (a b:Int):Int:=if a<0 then -((b - 2 * a) / (2 * b)) else (2 * a+b) / (2 * b)
theorem rdiv_pos_eq {q r b:Int} (hb:0<b) (h0:0≤r) (h1:r<b):(2 * (b * q+r)+b) / (2 * b)=if r≥b - r then q+1 else q:=by
  have e:2 * (b * q+r)+b=(2 * r+b)+(2 * b) * q:=by rw [Int.mul_add,← Int.mul_assoc];omega
  rw [e,Int.add_mul_ediv_left _ _ (by omega:(2 * b:Int)≠0)]
  split
  · have:(2 * r+b) / (2 * b)=1:=by
      have e2:2 * r+b=(2 * r - b)+(2 * b) * 1:=by omega
      rw [e2,Int.add_mul_ediv_left _ _ (by omega:(2 * b:Int)≠0),Int.ediv_eq_zero_of_lt (by omega) (by omega)];rfl
    omega
  · have:(2 * r+b) / (2 * b)=0:=Int.ediv_eq_zero_of_lt (by omega) (by omega)
    omega
theorem abs_def {a:Int} (h:-9223372036854775807≤a) (h2:a≤9223372036854775807):impl_abs.f a=some (if a<0 then -a else a):=by
  unfold impl_abs.f mx
  rw [wrap_id (by omega) (by omega)]
  split<;>split<;>first|rfl|(simp;omega)
theorem impl_div {a b:Int} (hb:0<b) (hb2:b≤2305843009213693951) (ha:-2305843009213693951≤a) (ha2:a≤2305843009213693951):impl_divRound.f a b=some (rdiv a b):=by
  unfold impl_divRound.f
  rw [if_neg (by omega)]
  by_cases h:a<0
  · have hq0:a.tdiv b= -((-a) / b):=by rw [← Int.tdiv_eq_ediv_of_nonneg (by omega),Int.neg_tdiv,Int.neg_neg]
    have hr0:a.tmod b= -((-a) % b):=by rw [← Int.tmod_eq_emod_of_nonneg (by omega),Int.neg_tmod,Int.neg_neg]
    have hr1:=Int.emod_nonneg (-a) (show b≠0 by omega)
    have hr2:=Int.emod_lt_of_pos (-a) hb
    have hd:=Int.mul_ediv_add_emod (-a) b
    have hq1:0≤(-a) / b:=Int.ediv_nonneg (by omega) (by omega)
    have hq2:(-a) / b≤-a:=Int.ediv_le_self _ (by omega)
    rw [hq0,hr0]
    generalize (-a) / b=q at *
    generalize (-a) % b=r at *
    rw [abs_def (by omega) (by omega),abs_def (by omega) (by omega)]
    simp only [Option.bind_some]
    have e1:(if -r<0 then - -r else -r)=r:=by split<;>omega
    have e2:(if b<0 then -b else b)=b:=by rw [if_neg (by omega)]
    rw [e1,e2,wrap_id (x:=b - r) (by omega) (by omega)]
    have hk:rdiv a b= -(if r≥b - r then q+1 else q):=by
      unfold rdiv
      rw [if_pos h,← rdiv_pos_eq (q:=q) hb hr1 hr2,hd]
      congr 2;omega
    rw [hk]
    have w1:wrap64 (-q)= -q:=wrap_id (by omega) (by omega)
    rw [w1]
    by_cases hc:r≥b - r
    · rw [if_pos hc,if_pos hc,if_neg (by simp;omega),wrap_id (by omega) (by omega)]
      congr 1;omega
    · rw [if_neg hc,if_neg hc]
  · have hq0:a.tdiv b=a / b:=Int.tdiv_eq_ediv_of_nonneg (by omega)
    have hr0:a.tmod b=a % b:=Int.tmod_eq_emod_of_nonneg (by omega)
    have hr1:=Int.emod_nonneg a (show b≠0 by omega)
    have hr2:=Int.emod_lt_of_pos a hb
    have hd:=Int.mul_ediv_add_emod a b
    have hq1:0≤a / b:=Int.ediv_nonneg (by omega) (by omega)
    have hq2:a / b≤a:=Int.ediv_le_self _ (by omega)
    rw [hq0,hr0]
    generalize a / b=q at *
    generalize a % b=r at *
    rw [abs_def (by omega) (by omega),abs_def (by omega) (by omega)]
    simp only [Option.bind_some]
    have e1:(if r<0 then - r else r)=r:=by rw [if_neg (by omega)]
    have e2:(if b<0 then -b else b)=b:=by rw [if_neg (by omega)]
    rw [e1,e2,wrap_id (x:=b - r) (by omega) (by omega)]
    have hk:rdiv a b=(if r≥b - r then q+1 else q):=by
      unfold rdiv
      rw [if_neg h,← rdiv_pos_eq (q:=q) hb hr1 hr2,hd]
    rw [hk]
    have w1:wrap64 q=q:=wrap_id (by omega) (by omega)
    rw [w1]
    by_cases hc:r≥b - r
    · rw [if_pos hc,if_pos hc,if_pos (by simp;omega),wrap_id (by omega) (by omega)]
    · rw [if_neg hc,if_neg hc]
theorem rdiv_nonneg {a b:Int} (ha:0≤a) (hb:0<b):0≤rdiv a b:=by
  unfold rdiv;rw [if_neg (by omega)];exact Int.ediv_nonneg (by omega) (by omega)
theorem rdiv_le {a b:Int} (ha:0≤a) (hb:0<b):rdiv a b≤2 * a+b:=by
  unfold rdiv;rw [if_neg (by omega)];exact Int.ediv_le_self _ (by omega)

theorem spec_div {a b:Int} (hb:0<b) (hb2:b≤2305843009213693951) (ha:-2305843009213693951≤a) (ha2:a≤2305843009213693951):spec_l01Div.f a b=some (rdiv a b):=by
  unfold spec_l01Div.f rdiv
  have w2:wrap64 (2 * b)=2 * b:=wrap_id (by omega) (by omega)
  have h2b:(0:Int)<2 * b:=by omega
  rw [if_neg (by omega),w2]
  by_cases h:a<0
  · rw [if_pos h,if_pos h,if_neg (by omega)]
    have e1:wrap64 (2 * a)=2 * a:=wrap_id (by omega) (by omega)
    have e2:wrap64 (b - 2 * a)=b - 2 * a:=wrap_id (by omega) (by omega)
    rw [e1,e2,Int.tdiv_eq_ediv_of_nonneg (by omega)]
    have b1:0≤(b - 2 * a) / (2 * b):=Int.ediv_nonneg (by omega) (by omega)
    have b2:(b - 2 * a) / (2 * b)≤b - 2 * a:=Int.ediv_le_self _ (by omega)
    have e3:wrap64 ((b - 2 * a) / (2 * b))=(b - 2 * a) / (2 * b):=wrap_id (by omega) (by omega)
    have e4:wrap64 (-((b - 2 * a) / (2 * b)))= -((b - 2 * a) / (2 * b)):=wrap_id (by omega) (by omega)
    rw [e3,e4]
  · rw [if_neg h,if_neg h,if_neg (by omega)]
    have e1:wrap64 (2 * a)=2 * a:=wrap_id (by omega) (by omega)
    have e2:wrap64 (2 * a+b)=2 * a+b:=wrap_id (by omega) (by omega)
    rw [e1,e2,Int.tdiv_eq_ediv_of_nonneg (by omega)]
    have b1:0≤(2 * a+b) / (2 * b):=Int.ediv_nonneg (by omega) (by omega)
    have b2:(2 * a+b) / (2 * b)≤2 * a+b:=Int.ediv_le_self _ (by omega)
    rw [wrap_id (by omega) (by omega)]

theorem spec_tbill (s:ByteArray) (f p:Int) (L:List (List Int)) (k:Nat) (h q c:Int) (hf:0≤f∧f≤1000000) (hp:0≤p∧p≤10000) (hq:0≤q∧q≤10000) (hc:spec_l21Cost.f k [(⟨s,f,p,L⟩:S29)] h=some c) (c0:0≤c) (c1:c≤60000000000):spec_l21Bill.f k [(⟨s,f,p,L⟩:S29)] h q=some (f+p * q+rdiv c 100):=by
  have e:rd_T29 [(⟨s,f,p,L⟩:S29)] 0=⟨s,f,p,L⟩:=rfl
  have m:=mul_bounds (a:=p) (b:=q) (A:=10000) (B:=10000) hp.1 hp.2 (by omega) hq.2 (by omega)
  have n:=mul_nonneg' hp.1 hq.1
  have r0:=rdiv_nonneg (b:=100) c0 (by omega)
  have r1:=rdiv_le (b:=100) c0 (by omega)
  unfold spec_l21Bill.f
  rw [if_pos (by simp),hc]
  simp only [Option.bind_some,e]
  rw [spec_div (by omega) (by omega) (by omega) (by omega)]
  simp only [Option.bind_some]
  rw [wrap_id (x:=p * q) (by omega) (by omega),wrap_id (x:=f+p * q) (by omega) (by omega),wrap_id (by omega) (by omega)]
theorem impl_tbill (s:ByteArray) (f p:Int) (L:List (List Int)) (k:Nat) (h q c:Int) (hf:0≤f∧f≤1000000) (hp:0≤p∧p≤10000) (hq:0≤q∧q≤10000) (hc:impl_Tariff_heatCost.f k s f p L h=some c) (c0:0≤c) (c1:c≤60000000000):impl_Tariff_bill.f k s f p L h q=some (f+p * q+rdiv c 100):=by
  have m:=mul_bounds (a:=p) (b:=q) (A:=10000) (B:=10000) hp.1 hp.2 (by omega) hq.2 (by omega)
  have n:=mul_nonneg' hp.1 hq.1
  have r0:=rdiv_nonneg (b:=100) c0 (by omega)
  have r1:=rdiv_le (b:=100) c0 (by omega)
  unfold impl_Tariff_bill.f
  rw [hc]
  simp only [Option.bind_some]
  rw [impl_div (by omega) (by omega) (by omega) (by omega)]
  simp only [Option.bind_some]
  rw [wrap_id (x:=p * q) (by omega) (by omega),wrap_id (x:=f+p * q) (by omega) (by omega),wrap_id (by omega) (by omega)]
theorem bill_both (s:ByteArray) (f p:Int) (L:List (List Int)) (hT:TarOk f p L) (h q:Int) (hh:0≤h∧h≤1000000) (hq:0≤q∧q≤10000):∃ c,(∀ k,20≤k→spec_l21Bill.f k [(⟨s,f,p,L⟩:S29)] h q=some c)∧(∀ k,20≤k→impl_Tariff_bill.f k s f p L h q=some c)∧0≤c∧c≤200000000000:=by
  obtain ⟨c,c1,c2,c3,c4⟩:=cost_both s f p L hT h hh.1 hh.2
  have m:=mul_bounds (a:=p) (b:=q) (A:=10000) (B:=10000) hT.2.1.1 hT.2.1.2 (by omega) hq.2 (by omega)
  have n:=mul_nonneg' hT.2.1.1 hq.1
  have r0:=rdiv_nonneg (b:=100) c3 (by omega)
  have r1:=rdiv_le (b:=100) c3 (by omega)
  have hf:=hT.1
  exact ⟨_,fun k hk=>spec_tbill s f p L k h q c hT.1 hT.2.1 hq (c1 k hk) c3 c4,fun k hk=>impl_tbill s f p L k h q c hT.1 hT.2.1 hq (c2 k hk) c3 c4,by omega,by omega⟩
theorem spec_tpeak (x:Int):spec_l21Peak.f x=some (decide (0≤x∧x≤10000)):=by unfold spec_l21Peak.f;rw [spec_in];rfl

def tv (x:S29):Bool:=(impl_ValidTariff.f 1048620 x.f0 x.f1 x.f2 x.f3).getD false
theorem tv_spec (x:S29) (hs:x.f0.size≤1048576):(∀ k,1048620≤k→spec_l21Ok.f k [x]=some (tv x))∧(∀ k,1048620≤k→impl_ValidTariff.f k x.f0 x.f1 x.f2 x.f3=some (tv x))∧(tv x=true→TarOk x.f1 x.f2 x.f3):=by
  obtain ⟨v,v1,v2,v3⟩:=tariff_both x.f0 x.f1 x.f2 x.f3 (by omega)
  have e:tv x=v:=by unfold tv;rw [v2 1048620 (by omega)];rfl
  exact ⟨fun k hk=>by rw [e];exact v1 k (by omega),fun k hk=>by rw [e];exact v2 k (by omega),fun h=>(v3 (e ▸ h)).1⟩
def tb (x:S29) (h q:Int):Int:=(impl_Tariff_bill.f 20 x.f0 x.f1 x.f2 x.f3 h q).getD 0
theorem tb_spec (x:S29) (hT:TarOk x.f1 x.f2 x.f3) (h q:Int) (hh:0≤h∧h≤1000000) (hq:0≤q∧q≤10000):(∀ k,20≤k→spec_l21Bill.f k [x] h q=some (tb x h q))∧(∀ k,20≤k→impl_Tariff_bill.f k x.f0 x.f1 x.f2 x.f3 h q=some (tb x h q))∧0≤tb x h q∧tb x h q≤200000000000:=by
  obtain ⟨c,c1,c2,c3,c4⟩:=bill_both x.f0 x.f1 x.f2 x.f3 hT h q hh hq
  have e:tb x h q=c:=by unfold tb;rw [c2 20 (by omega)];rfl
  rw [e];exact ⟨c1,c2,c3,c4⟩

theorem toI_l0 (l:List Int) (hl:l.length≤35184372088832):∀ (d j k:Nat) (m:List Int),j+d=l.length→d<k→m.length=l.length→(∀ i,i<j→m[i]? =l[i]?)→laws_toInt64S.l0 k l m (j:Int)=some l:=by
  intro d
  induction d with
  |zero=>
    intro j k m hj hk hm hp
    obtain ⟨k,rfl⟩:=suc_of hk
    simp only [laws_toInt64S.l0]
    rw [if_neg (by omega)]
    congr 1
    apply List.ext_getElem?
    intro i
    by_cases hi:i<j
    · exact hp i hi
    · rw [List.getElem?_eq_none (by omega),List.getElem?_eq_none (by omega)]
  |succ d ih=>
    intro j k m hj hk hm hp
    obtain ⟨k,rfl⟩:=suc_of hk
    simp only [laws_toInt64S.l0]
    rw [if_pos (by omega),if_pos (by omega),if_pos (by omega),next_nat (n:=l.length) (by omega) (by omega)]
    refine ih (j+1) k _ (by omega) (by omega) (by simpa using hm) (fun i hi=>?_)
    rw [Int.toNat_natCast,rd_nat,List.getElem?_set]
    by_cases e:j=i
    · subst e
      rw [if_pos rfl,if_pos (by omega),getD_lt (by omega),List.getElem?_eq_getElem (by omega)]
    · rw [if_neg e];exact hp i (by omega)
theorem toI (l:List Int) (hl:l.length≤35184372088832) (k:Nat) (hk:l.length<k):laws_toInt64S.f k l=some l:=by
  unfold laws_toInt64S.f
  rw [if_pos (by omega),if_pos (by omega)]
  exact toI_l0 l hl l.length 0 k _ (by omega) hk (by simp) (fun i hi=>absurd hi (by omega))

theorem eqI_l0 (l:List Int) (hl:l.length≤35184372088832):∀ (d j k:Nat),j+d=l.length→d<k→laws_eqInt64S.l0 k l l (j:Int)=some true:=by
  intro d
  induction d with
  |zero=>
    intro j k hj hk
    obtain ⟨k,rfl⟩:=suc_of hk
    simp only [laws_eqInt64S.l0]
    rw [if_neg (by omega)]
  |succ d ih=>
    intro j k hj hk
    obtain ⟨k,rfl⟩:=suc_of hk
    simp only [laws_eqInt64S.l0]
    rw [if_pos (by omega),if_pos (by omega),if_pos (by omega),if_pos trivial,next_nat (n:=l.length) (by omega) (by omega)]
    exact ih (j+1) k (by omega) (by omega)
theorem eqI (l:List Int) (hl:l.length≤35184372088832) (k:Nat) (hk:l.length<k):laws_eqInt64S.f k l l=some true:=by
  unfold laws_eqInt64S.f
  rw [if_pos rfl]
  exact eqI_l0 l hl l.length 0 k (by omega) hk

theorem toII_l0 (l:List (List Int)) (hl:l.length≤1048576) (hi:∀ x ∈ l,x.length≤1048576):∀ (d j k:Nat) (m:List (List Int)),j+d=l.length→d+1048577<k→m.length=l.length→(∀ i,i<j→m[i]? =l[i]?)→laws_toInt64SS.l0 k l m (j:Int)=some l:=by
  intro d
  induction d with
  |zero=>
    intro j k m hj hk hm hp
    obtain ⟨k,rfl⟩:=suc_of hk
    simp only [laws_toInt64SS.l0]
    rw [if_neg (by omega)]
    congr 1
    apply List.ext_getElem?
    intro i
    by_cases hi:i<j
    · exact hp i hi
    · rw [List.getElem?_eq_none (by omega),List.getElem?_eq_none (by omega)]
  |succ d ih=>
    intro j k m hj hk hm hp
    obtain ⟨k,rfl⟩:=suc_of hk
    have hx:=hi (l.getD j []) (by rw [getD_lt (by omega)];exact List.getElem_mem _)
    simp only [laws_toInt64SS.l0]
    rw [if_pos (by omega),if_pos (by omega),rdll_nat,toI _ (by omega) k (by omega)]
    simp only [Option.bind_some]
    rw [if_pos (by omega),next_nat (n:=l.length) (by omega) (by omega)]
    refine ih (j+1) k _ (by omega) (by omega) (by simpa using hm) (fun i hi=>?_)
    rw [Int.toNat_natCast,List.getElem?_set]
    by_cases e:j=i
    · subst e
      rw [if_pos rfl,if_pos (by omega),getD_lt (by omega),List.getElem?_eq_getElem (by omega)]
    · rw [if_neg e];exact hp i (by omega)
theorem toII (l:List (List Int)) (hl:l.length≤1048576) (hi:∀ x ∈ l,x.length≤1048576) (k:Nat) (hk:2097154<k):laws_toInt64SS.f k l=some l:=by
  unfold laws_toInt64SS.f
  rw [if_pos (by omega),if_pos (by omega)]
  exact toII_l0 l hl hi l.length 0 k _ (by omega) (by omega) (by simp) (fun i hi=>absurd hi (by omega))
theorem eqII_l0 (l:List (List Int)) (hl:l.length≤1048576) (hi:∀ x ∈ l,x.length≤1048576):∀ (d j k:Nat),j+d=l.length→d+1048577<k→laws_eqInt64SS.l0 k l l (j:Int)=some true:=by
  intro d
  induction d with
  |zero=>
    intro j k hj hk
    obtain ⟨k,rfl⟩:=suc_of hk
    simp only [laws_eqInt64SS.l0]
    rw [if_neg (by omega)]
  |succ d ih=>
    intro j k hj hk
    obtain ⟨k,rfl⟩:=suc_of hk
    have hx:=hi (l.getD j []) (by rw [getD_lt (by omega)];exact List.getElem_mem _)
    simp only [laws_eqInt64SS.l0]
    rw [if_pos (by omega),if_pos (by omega),if_pos (by omega),rdll_nat,eqI _ (by omega) k (by omega)]
    simp only [Option.bind_some,if_true]
    rw [next_nat (n:=l.length) (by omega) (by omega)]
    exact ih (j+1) k (by omega) (by omega)
theorem eqII (l:List (List Int)) (hl:l.length≤1048576) (hi:∀ x ∈ l,x.length≤1048576) (k:Nat) (hk:2097154<k):laws_eqInt64SS.f k l l=some true:=by
  unfold laws_eqInt64SS.f
  rw [if_pos rfl]
  exact eqII_l0 l hl hi l.length 0 k (by omega) (by omega)

theorem szTariff (s:ByteArray) (f p:Int) (l:List (List Int)) (hs:s.size≤maxLen) (hl:l.length≤9223372036854775807) (hi:∀ x ∈ l,x.length≤9223372036854775807) (n:Int) (hn:0≤n) (hn2:n≤1048576) (k:Nat) (hk:1048576<k):
    ∃ r,laws_szTariff.f k s f p l n=some r∧r≤n∧-1≤r∧(0≤r→s.size≤1048576∧l.length≤1048576∧∀ x ∈ l,x.length≤1048576):=by
  unfold laws_szTariff.f laws_szInt64SS.f
  simp only [maxLen] at hs
  rw [wrap_id (x:=n - (s.size:Int)) (by omega) (by omega)]
  by_cases c:n - (s.size:Int)<0
  · rw [if_pos c];exact ⟨-1,rfl,by omega,by omega,fun h=>by omega⟩
  · rw [if_neg c,wrap_id (x:=n - (s.size:Int) - (l.length:Int)) (by omega) (by omega)]
    by_cases c2:n - (s.size:Int) - (l.length:Int)<0
    · rw [if_pos c2];exact ⟨-1,rfl,by omega,by omega,fun h=>by omega⟩
    · rw [if_neg c2]
      obtain ⟨r,h2,h3,h4⟩:=szII_l0 l (by omega) hi l.length 0 k (n - (s.size:Int) - (l.length:Int)) (by omega) (by omega) (by omega) (by omega)
      have h2':laws_szInt64SS.l0 k l (n - (s.size:Int) - (l.length:Int)) 0=some r:=h2
      rw [h2']
      simp only [Option.bind_some]
      by_cases c3:r<0
      · rw [if_pos c3];exact ⟨-1,rfl,by omega,by omega,fun h=>by omega⟩
      · rw [if_neg c3]
        refine ⟨r,rfl,by omega,by omega,fun hr=>⟨by omega,by omega,fun x hx=>?_⟩⟩
        obtain ⟨i,hi1,rfl⟩:=List.mem_iff_getElem.1 hx
        have:=h4 hr i (by omega) hi1
        rwa [getD_lt hi1] at this
theorem toTariff (s:ByteArray) (f p:Int) (l:List (List Int)) (hl:l.length≤1048576) (hi:∀ x ∈ l,x.length≤1048576) (k:Nat) (hk:2097154<k):laws_toTariff.f k s f p l=some (s,f,p,l):=by
  unfold laws_toTariff.f
  rw [toII l hl hi k hk];rfl
theorem eqTariff (s:ByteArray) (f p:Int) (l:List (List Int)) (hl:l.length≤1048576) (hi:∀ x ∈ l,x.length≤1048576) (k:Nat) (hk:2097154<k):laws_eqTariff.f k s f p l s f p l=some true:=by
  unfold laws_eqTariff.f
  rw [if_pos rfl,if_pos rfl,if_pos rfl,eqII l hl hi k hk];rfl

theorem mark_l0:∀ (d j k:Nat) (m:List Int) (c:Int),j+d=m.length→m.length≤35184372088832→d<k→c=1+(j:Int)→(∀ i,i<j→m[i]? =some (1+(i:Int)))→
    ∃ m',laws_markInt64S.l0 k m c (j:Int)=some (1+(m.length:Int),m')∧m'.length=m.length∧∀ i,i<m'.length→m'[i]? =some (1+(i:Int)):=by
  intro d
  induction d with
  |zero=>
    intro j k m c hj hl hk hc hp
    obtain ⟨k,rfl⟩:=suc_of hk
    simp only [laws_markInt64S.l0]
    rw [if_neg (by omega)]
    exact ⟨m,by rw [hc];congr 2;omega,rfl,fun i hi=>hp i (by omega)⟩
  |succ d ih=>
    intro j k m c hj hl hk hc hp
    obtain ⟨k,rfl⟩:=suc_of hk
    simp only [laws_markInt64S.l0]
    rw [if_pos (by omega),if_pos (by omega),next_nat (n:=m.length) (by omega) (by omega),wrap_id (x:=c+1) (by omega) (by omega),Int.toNat_natCast]
    obtain ⟨m',h1,h2,h3⟩:=ih (j+1) k (m.set j c) (c+1) (by simp;omega) (by simpa using hl) (by omega) (by omega) (fun i hi=>by
      rw [List.getElem?_set]
      by_cases e:j=i
      · subst e;rw [if_pos rfl,if_pos (by omega),hc]
      · rw [if_neg e];exact hp i (by omega))
    exact ⟨m',by rw [h1];simp,by simpa using h2,h3⟩
theorem held_l0 (m:List Int) (hl:m.length≤35184372088832) (hm:∀ i,i<m.length→m[i]? =some (1+(i:Int))):∀ (d j k:Nat) (c:Int),j+d=m.length→d<k→c=1+(j:Int)→laws_heldInt64S.l0 k m c (j:Int)=some (1+(m.length:Int)):=by
  intro d
  induction d with
  |zero=>
    intro j k c hj hk hc
    obtain ⟨k,rfl⟩:=suc_of hk
    simp only [laws_heldInt64S.l0]
    rw [if_neg (by omega)]
    congr 1;omega
  |succ d ih=>
    intro j k c hj hk hc
    obtain ⟨k,rfl⟩:=suc_of hk
    simp only [laws_heldInt64S.l0]
    have e:rd m (j:Int)=c:=by
      rw [rd_nat,List.getD_eq_getElem?_getD,hm j (by omega),hc];rfl
    rw [if_pos (by omega),if_pos (by omega),if_pos e,next_nat (n:=m.length) (by omega) (by omega),wrap_id (x:=c+1) (by omega) (by omega)]
    exact ih (j+1) k (c+1) (by omega) (by omega) (by omega)
theorem mark_held (l:List Int) (hl:l.length≤35184372088832) (k:Nat) (hk:l.length<k):∃ m',laws_markInt64S.f k l 1=some (1+(l.length:Int),m')∧(∀ k',l.length<k'→laws_heldInt64S.f k' m' 1=some (1+(l.length:Int))):=by
  obtain ⟨m',h1,h2,h3⟩:=mark_l0 l.length 0 k l 1 (by omega) hl hk (by omega) (fun i hi=>absurd hi (by omega))
  refine ⟨m',h1,fun k' hk'=>?_⟩
  have:=held_l0 m' (by omega) h3 m'.length 0 k' 1 (by omega) (by omega) (by omega)
  rw [h2] at this
  exact this
theorem mark_some (l:List Int) (hl:l.length≤35184372088832) (k:Nat) (hk:l.length<k):∃ m',laws_markInt64S.f k l 1=some (1+(l.length:Int),m'):=by
  obtain ⟨m',h1,_⟩:=mark_held l hl k hk;exact ⟨m',h1⟩

theorem markc_l0 (c0:Int) (hc0:0≤c0) (hc1:c0≤1000000000000000):∀ (d j k:Nat) (m:List Int) (c:Int),j+d=m.length→m.length≤35184372088832→d<k→c=c0+(j:Int)→(∀ i,i<j→m[i]? =some (c0+(i:Int)))→
    ∃ m',laws_markInt64S.l0 k m c (j:Int)=some (c0+(m.length:Int),m')∧m'.length=m.length∧∀ i,i<m'.length→m'[i]? =some (c0+(i:Int)):=by
  intro d
  induction d with
  |zero=>
    intro j k m c hj hl hk hc hp
    obtain ⟨k,rfl⟩:=suc_of hk
    simp only [laws_markInt64S.l0]
    rw [if_neg (by omega)]
    exact ⟨m,by rw [hc];congr 2;omega,rfl,fun i hi=>hp i (by omega)⟩
  |succ d ih=>
    intro j k m c hj hl hk hc hp
    obtain ⟨k,rfl⟩:=suc_of hk
    simp only [laws_markInt64S.l0]
    rw [if_pos (by omega),if_pos (by omega),next_nat (n:=m.length) (by omega) (by omega),wrap_id (x:=c+1) (by omega) (by omega),Int.toNat_natCast]
    obtain ⟨m',h1,h2,h3⟩:=ih (j+1) k (m.set j c) (c+1) (by simp;omega) (by simpa using hl) (by omega) (by omega) (fun i hi=>by
      rw [List.getElem?_set]
      by_cases e:j=i
      · subst e;rw [if_pos rfl,if_pos (by omega),hc]
      · rw [if_neg e];exact hp i (by omega))
    exact ⟨m',by rw [h1];simp,by simpa using h2,h3⟩
theorem heldc_l0 (c0:Int) (hc0:0≤c0) (hc1:c0≤1000000000000000) (m:List Int) (hl:m.length≤35184372088832) (hm:∀ i,i<m.length→m[i]? =some (c0+(i:Int))):∀ (d j k:Nat) (c:Int),j+d=m.length→d<k→c=c0+(j:Int)→laws_heldInt64S.l0 k m c (j:Int)=some (c0+(m.length:Int)):=by
  intro d
  induction d with
  |zero=>
    intro j k c hj hk hc
    obtain ⟨k,rfl⟩:=suc_of hk
    simp only [laws_heldInt64S.l0]
    rw [if_neg (by omega)]
    congr 1;omega
  |succ d ih=>
    intro j k c hj hk hc
    obtain ⟨k,rfl⟩:=suc_of hk
    simp only [laws_heldInt64S.l0]
    have e:rd m (j:Int)=c:=by
      rw [rd_nat,List.getD_eq_getElem?_getD,hm j (by omega),hc];rfl
    rw [if_pos (by omega),if_pos (by omega),if_pos e,next_nat (n:=m.length) (by omega) (by omega),wrap_id (x:=c+1) (by omega) (by omega)]
    exact ih (j+1) k (c+1) (by omega) (by omega) (by omega)
theorem markc_held (l:List Int) (c0:Int) (hc0:0≤c0) (hc1:c0≤1000000000000000) (hl:l.length≤35184372088832) (k:Nat) (hk:l.length<k):∃ m',laws_markInt64S.f k l c0=some (c0+(l.length:Int),m')∧m'.length=l.length∧(∀ k',l.length<k'→laws_heldInt64S.f k' m' c0=some (c0+(l.length:Int))):=by
  obtain ⟨m',h1,h2,h3⟩:=markc_l0 c0 hc0 hc1 l.length 0 k l c0 (by omega) hl hk (by omega) (fun i hi=>absurd hi (by omega))
  refine ⟨m',h1,h2,fun k' hk'=>?_⟩
  have:=heldc_l0 c0 hc0 hc1 m' (by omega) h3 m'.length 0 k' c0 (by omega) (by omega) (by omega)
  rw [h2] at this
  exact this

theorem impl_all (l:List Int) (lo hi:Int):impl_allWithin.f l lo hi=some (l.all fun x=>decide (lo≤x∧x≤hi)):=rfl

theorem yb_l1 (H Q:List Int) (hQ:Q.length≤1048576) (s:ByteArray) (f p:Int) (L:List (List Int)) (r:List Int × Int × Int) (K:Nat):
    ∀ (d j k:Nat),((Q.drop j).all (fun x=>decide (0≤x∧x≤10000))=true→∀ k,K≤k→(if (H.length:Int)=(Q.length:Int) then spec_YearBill.j2 k H Q (decide ((H.length:Int) > 12)) s f p L else spec_YearBill.j2 k H Q true s f p L)=some r)→j+d=Q.length→K+d<k→spec_YearBill.l1 k H Q (j:Int) s f p L=some (if (Q.drop j).all (fun x=>decide (0≤x∧x≤10000))=true then r else ([],0,2)):=by
  intro d
  induction d with
  |zero=>
    intro j k hr hj hk
    obtain ⟨k,rfl⟩:=suc_of (show 0<k by omega)
    simp only [spec_YearBill.l1]
    rw [if_neg (by omega),hr (by rw [List.drop_eq_nil_of_le (by omega)];rfl) k (by omega),List.drop_eq_nil_of_le (by omega)]
    rfl
  |succ d ih=>
    intro j k hr hj hk
    obtain ⟨k,rfl⟩:=suc_of (show 0<k by omega)
    simp only [spec_YearBill.l1]
    rw [if_pos (by omega),if_pos (by omega),rd_nat,spec_tpeak,drop_cons Q (show j<Q.length by omega) 0,List.all_cons]
    simp only [Option.bind_some]
    by_cases h:0≤Q.getD j 0∧Q.getD j 0≤10000
    · rw [decide_eq_true h,if_pos rfl,next_nat (n:=Q.length) (by omega) (by omega),ih (j+1) k (fun ha=>hr (by rw [drop_cons Q (show j<Q.length by omega) 0,List.all_cons,decide_eq_true h,ha];rfl)) (by omega) (by omega),Bool.true_and]
    · rw [decide_eq_false h,if_neg Bool.false_ne_true,Bool.false_and,if_neg Bool.false_ne_true]
theorem yb_l0 (H Q:List Int) (hH:H.length≤1048576) (s:ByteArray) (f p:Int) (L:List (List Int)) (r:List Int × Int × Int) (K:Nat):
    ∀ (d j k:Nat),((H.drop j).all (fun x=>decide (0≤x∧x≤1000000))=true→∀ k,K≤k→spec_YearBill.l1 k H Q 0 s f p L=some r)→j+d=H.length→K+d<k→spec_YearBill.l0 k H Q (j:Int) s f p L=some (if (H.drop j).all (fun x=>decide (0≤x∧x≤1000000))=true then r else ([],0,2)):=by
  intro d
  induction d with
  |zero=>
    intro j k hr hj hk
    obtain ⟨k,rfl⟩:=suc_of (show 0<k by omega)
    simp only [spec_YearBill.l0]
    rw [if_neg (by omega),hr (by rw [List.drop_eq_nil_of_le (by omega)];rfl) k (by omega),List.drop_eq_nil_of_le (by omega)]
    rfl
  |succ d ih=>
    intro j k hr hj hk
    obtain ⟨k,rfl⟩:=suc_of (show 0<k by omega)
    simp only [spec_YearBill.l0]
    rw [if_pos (by omega),if_pos (by omega),rd_nat,spec_heat,drop_cons H (show j<H.length by omega) 0,List.all_cons]
    simp only [Option.bind_some]
    by_cases h:0≤H.getD j 0∧H.getD j 0≤1000000
    · rw [decide_eq_true h,if_pos rfl,next_nat (n:=H.length) (by omega) (by omega),ih (j+1) k (fun ha=>hr (by rw [drop_cons H (show j<H.length by omega) 0,List.all_cons,decide_eq_true h,ha];rfl)) (by omega) (by omega),Bool.true_and]
    · rw [decide_eq_false h,if_neg Bool.false_ne_true,Bool.false_and,if_neg Bool.false_ne_true]
def isum (B:List Int):Nat→Nat→Int→Int
  |0,_,u=>u
  |d+1,j,u=>isum B d (j+1) (u+B.getD j 0)
theorem take_next {B:List Int} {j:Nat} (h:j<B.length):B.take j++[B.getD j 0]=B.take (j+1):=by
  rw [getD_lt h];simp
theorem sum_l0 (B:List Int) (hl:B.length≤12) (hb:∀ j,j<B.length→0≤B.getD j 0∧B.getD j 0≤200000000000):∀ (d j k:Nat) (u:Int),j+d=B.length→d<k→0≤u→u≤(j:Int) * 200000000000→
    impl_sumOf.l0 k u B (B.length:Int) (j:Int)=some (isum B d j u):=by
  intro d
  induction d with
  |zero=>
    intro j k u hj hk h0 h1
    obtain ⟨k,rfl⟩:=suc_of hk
    simp only [impl_sumOf.l0,isum]
    rw [if_neg (by omega)]
  |succ d ih=>
    intro j k u hj hk h0 h1
    have b:=hb j (by omega)
    obtain ⟨k,rfl⟩:=suc_of hk
    simp only [impl_sumOf.l0,isum]
    rw [if_pos (by omega),if_pos (by omega),if_pos (by omega),rd_nat,next_nat (n:=B.length) (by omega) (by omega),wrap_id (x:=u+B.getD j 0) (by omega) (by omega)]
    exact ih (j+1) k _ (by omega) (by omega) (by omega) (by omega)
theorem ybs_l2 (s:ByteArray) (f p:Int) (L:List (List Int)) (H Q B:List Int) (hl:H.length≤12) (hq:Q.length=H.length) (hB:B.length=H.length) (hb:∀ j,j<B.length→0≤B.getD j 0∧B.getD j 0≤200000000000)
    (ht:∀ j,j<H.length→∀ k,20≤k→spec_l21Bill.f k [(⟨s,f,p,L⟩:S29)] (H.getD j 0) (Q.getD j 0)=some (B.getD j 0)):∀ (d j k:Nat) (u:Int),j+d=H.length→20+d<k→0≤u→u≤(j:Int) * 200000000000→
    spec_YearBill.l2 k H Q (B.take j) u (j:Int) s f p L=some (B,isum B d j u,0):=by
  intro d
  induction d with
  |zero=>
    intro j k u hj hk h0 h1
    obtain ⟨k,rfl⟩:=suc_of (show 0<k by omega)
    simp only [spec_YearBill.l2,isum]
    rw [if_neg (by omega),List.take_of_length_le (by omega)]
  |succ d ih=>
    intro j k u hj hk h0 h1
    have b:=hb j (by omega)
    obtain ⟨k,rfl⟩:=suc_of (show 0<k by omega)
    simp only [spec_YearBill.l2,isum]
    rw [if_pos (by omega),if_pos (by omega),if_pos (by omega),rd_nat,rd_nat,ht j (by omega) k (by omega)]
    simp only [Option.bind_some]
    rw [if_pos (by rw [List.length_take];omega),take_next (by omega),next_nat (n:=H.length) (by omega) (by omega),wrap_id (x:=u+B.getD j 0) (by omega) (by omega)]
    exact ih (j+1) k _ (by omega) (by omega) (by omega) (by omega)
theorem ybi_l0 (s:ByteArray) (f p:Int) (L:List (List Int)) (H Q B:List Int) (hl:H.length≤12) (hq:Q.length=H.length) (hB:B.length=H.length) (hb:∀ j,j<B.length→0≤B.getD j 0∧B.getD j 0≤200000000000)
    (ht:∀ j,j<H.length→∀ k,20≤k→impl_Tariff_bill.f k s f p L (H.getD j 0) (Q.getD j 0)=some (B.getD j 0)):∀ (d j k:Nat),j+d=H.length→20+d<k→
    impl_YearBill.l0 k Q (B.take j) H (H.length:Int) (j:Int) s f p L=some (B,isum B B.length 0 0,0):=by
  intro d
  induction d with
  |zero=>
    intro j k hj hk
    obtain ⟨k,rfl⟩:=suc_of (show 0<k by omega)
    simp only [impl_YearBill.l0]
    rw [if_neg (by omega),List.take_of_length_le (by omega)]
    unfold impl_sumOf.f
    have e:=sum_l0 B (by omega) hb B.length 0 k 0 (by omega) (by omega) (by omega) (by omega)
    rw [show ((0:Nat):Int)=0 from rfl] at e
    rw [e]
    rfl
  |succ d ih=>
    intro j k hj hk
    obtain ⟨k,rfl⟩:=suc_of (show 0<k by omega)
    simp only [impl_YearBill.l0]
    rw [if_pos (by omega),if_pos (by omega),if_pos (by omega),if_pos (by omega),rd_nat,rd_nat,ht j (by omega) k (by omega)]
    simp only [Option.bind_some]
    rw [if_pos (by rw [List.length_take];omega),take_next (by omega),next_nat (n:=H.length) (by omega) (by omega)]
    exact ih (j+1) k (by omega) (by omega)
theorem all_at {P:Int→Bool} {l:List Int} (h:l.all P=true) {j:Nat} (hj:j<l.length):P (l.getD j 0)=true:=by
  rw [getD_lt hj];exact List.all_eq_true.mp h _ (List.getElem_mem hj)
theorem year_both (s:ByteArray) (f p:Int) (L:List (List Int)) (H Q:List Int) (hs:s.size≤1048576) (hH:H.length≤1048576) (hQ:Q.length≤1048576):∃ r a e,(∀ k,4000000≤k→spec_YearBill.f k s f p L H Q=some (r,a,e))∧(∀ k,4000000≤k→impl_YearBill.f k s f p L H Q=some (r,a,e))∧r.length≤12:=by
  obtain ⟨v1,v2,v3⟩:=tv_spec ⟨s,f,p,L⟩ hs
  simp only at v1 v2 v3
  have fail:∀ (k:Nat) (v:List Int × Int × Int),(1048620≤k→spec_YearBill.l0 k H Q 0 s f p L=some v)→1048620≤k→tv ⟨s,f,p,L⟩=true→spec_YearBill.f k s f p L H Q=some v:=by
    intro k v h hk ht
    unfold spec_YearBill.f
    rw [v1 k hk,ht]
    exact h hk
  cases hv:tv ⟨s,f,p,L⟩
  · refine ⟨[],0,1,fun k hk=>?_,fun k hk=>?_,by simp⟩
    · unfold spec_YearBill.f
      rw [v1 k (by omega),hv]
      rfl
    · unfold impl_YearBill.f
      rw [v2 k (by omega),hv]
      rfl
  · have hT:=v3 hv
    by_cases a1:(H.all fun x=>decide (0≤x∧x≤1000000))=true
    · by_cases a2:(Q.all fun x=>decide (0≤x∧x≤10000))=true
      · have im:∀ k,1048620≤k→impl_YearBill.f k s f p L H Q=impl_YearBill.j0 k H Q false s f p L:=by
          intro k hk
          unfold impl_YearBill.f
          rw [v2 k hk,hv,impl_all,impl_all,a1,a2]
          rfl
        by_cases hl:H.length=Q.length∧H.length≤12
        · obtain ⟨B,hBd⟩:∃ B,B=(List.range H.length).map (fun j=>tb ⟨s,f,p,L⟩ (H.getD j 0) (Q.getD j 0)):=⟨_,rfl⟩
          have hB:B.length=H.length:=by rw [hBd];simp
          have hg:∀ j,j<H.length→B.getD j 0=tb ⟨s,f,p,L⟩ (H.getD j 0) (Q.getD j 0):=by
            intro j hj
            rw [getD_lt (by omega)]
            simp [hBd]
          have sp:∀ j,j<H.length→_:=fun j hj=>tb_spec ⟨s,f,p,L⟩ hT (H.getD j 0) (Q.getD j 0) (of_decide_eq_true (all_at a1 hj)) (of_decide_eq_true (all_at a2 (by omega)))
          have hb:∀ j,j<B.length→0≤B.getD j 0∧B.getD j 0≤200000000000:=fun j hj=>by rw [hg j (by omega)];exact (sp j (by omega)).2.2
          refine ⟨B,isum B B.length 0 0,0,fun k hk=>fail k _ (fun hk2=>?_) (by omega) hv,fun k hk=>?_,by omega⟩
          · have e:=yb_l0 H Q hH s f p L (B,isum B B.length 0 0,0) (Q.length+101) H.length 0 k (fun _ k2 hk2=>?_) (by omega) (by omega)
            · rw [List.drop_zero,if_pos a1] at e
              exact e
            · have e2:=yb_l1 H Q hQ s f p L (B,isum B B.length 0 0,0) 100 Q.length 0 k2 (fun _ k3 hk3=>?_) (by omega) (by omega)
              · rw [List.drop_zero,if_pos a2] at e2
                exact e2
              · rw [if_pos (by omega)]
                obtain ⟨k3,rfl⟩:=suc_of (show 0<k3 by omega)
                simp only [spec_YearBill.j2]
                rw [decide_eq_false (by omega),if_neg Bool.false_ne_true]
                have e3:=ybs_l2 s f p L H Q B hl.2 hl.1.symm hB hb (fun j hj k hk=>by rw [hg j hj];exact (sp j hj).1 k hk) H.length 0 k3 0 (by omega) (by omega) (by omega) (by omega)
                rw [List.take_zero] at e3
                rw [hB]
                exact e3
          · rw [im k (by omega)]
            obtain ⟨k,rfl⟩:=suc_of (show 0<k by omega)
            simp only [impl_YearBill.j0]
            rw [if_neg Bool.false_ne_true,if_pos (by omega),if_neg (by omega)]
            have e3:=ybi_l0 s f p L H Q B hl.2 hl.1.symm hB hb (fun j hj k hk=>by rw [hg j hj];exact (sp j hj).2.1 k hk) H.length 0 k (by omega) (by omega)
            rw [List.take_zero] at e3
            exact e3
        · refine ⟨[],0,7,fun k hk=>fail k _ (fun hk2=>?_) (by omega) hv,fun k hk=>?_,by simp⟩
          · have e:=yb_l0 H Q hH s f p L ([],0,7) (Q.length+101) H.length 0 k (fun _ k2 hk2=>?_) (by omega) (by omega)
            · rw [List.drop_zero,if_pos a1] at e
              exact e
            · have e2:=yb_l1 H Q hQ s f p L ([],0,7) 100 Q.length 0 k2 (fun _ k3 hk3=>?_) (by omega) (by omega)
              · rw [List.drop_zero,if_pos a2] at e2
                exact e2
              · obtain ⟨k3,rfl⟩:=suc_of (show 0<k3 by omega)
                simp only [spec_YearBill.j2]
                by_cases c:(H.length:Int)=(Q.length:Int)
                · rw [if_pos c,decide_eq_true (by omega),if_pos rfl]
                · rw [if_neg c,if_pos trivial]
          · rw [im k (by omega)]
            obtain ⟨k,rfl⟩:=suc_of (show 0<k by omega)
            simp only [impl_YearBill.j0]
            rw [if_neg Bool.false_ne_true]
            by_cases c:(H.length:Int)=(Q.length:Int)
            · rw [if_pos c,if_pos (by omega)]
            · rw [if_neg c]
      · refine ⟨[],0,2,fun k hk=>fail k _ (fun hk2=>?_) (by omega) hv,fun k hk=>?_,by simp⟩
        · have e:=yb_l0 H Q hH s f p L ([],0,2) (Q.length+101) H.length 0 k (fun _ k2 hk2=>?_) (by omega) (by omega)
          · rw [List.drop_zero,if_pos a1] at e
            exact e
          · have e2:=yb_l1 H Q hQ s f p L ([],0,2) 100 Q.length 0 k2 (fun ha _ _=>absurd ha a2) (by omega) (by omega)
            rw [List.drop_zero,if_neg a2] at e2
            exact e2
        · unfold impl_YearBill.f
          obtain ⟨k,rfl⟩:=suc_of (show 0<k by omega)
          rw [v2 (k+1) (by omega),hv,impl_all,impl_all,a1,Bool.eq_false_iff.mpr a2]
          rfl
    · refine ⟨[],0,2,fun k hk=>fail k _ (fun hk2=>?_) (by omega) hv,fun k hk=>?_,by simp⟩
      · have e:=yb_l0 H Q hH s f p L ([],0,2) 100 H.length 0 k (fun ha _ _=>absurd ha a1) (by omega) (by omega)
        rw [List.drop_zero,if_neg a1] at e
        exact e
      · unfold impl_YearBill.f
        obtain ⟨k,rfl⟩:=suc_of (show 0<k by omega)
        rw [v2 (k+1) (by omega),hv,impl_all,Bool.eq_false_iff.mpr a1]
        rfl
theorem marks_l0:∀ (d j k:Nat) (l:List (List Int)) (c:Int),j+d=l.length→l.length≤1048576→(∀ x ∈ l,x.length≤1048576)→1048577+d<k→0≤c→c≤1+(j:Int) * 1048576→∃ t l',laws_markInt64SS.l0 k l c (j:Int)=some (t,l')∧0≤t∧t≤1100000000000:=by
  intro d
  induction d with
  |zero=>
    intro j k l c hj hl hi hk h0 h1
    obtain ⟨k,rfl⟩:=suc_of (show 0<k by omega)
    simp only [laws_markInt64SS.l0]
    rw [if_neg (by omega)]
    exact ⟨c,l,rfl,h0,by omega⟩
  |succ d ih=>
    intro j k l c hj hl hi hk h0 h1
    obtain ⟨k,rfl⟩:=suc_of (show 0<k by omega)
    have hx:(l.getD j []).length≤1048576:=by
      rw [List.getD_eq_getElem?_getD,List.getElem?_eq_getElem (by omega)]
      exact hi _ (List.getElem_mem _)
    obtain ⟨m',m1,m2,_⟩:=markc_held (l.getD j []) c h0 (by omega) (by omega) k (by omega)
    simp only [laws_markInt64SS.l0]
    rw [if_pos (by omega),if_pos (by omega),Int.toNat_natCast,m1]
    simp only [Option.bind_some]
    rw [next_nat (n:=l.length) (by omega) (by omega)]
    refine ih (j+1) k (l.set j m') _ (by simp;omega) (by simpa using hl) (fun x hx2=>?_) (by omega) (by omega) (by omega)
    rcases List.mem_or_eq_of_mem_set hx2 with h|h
    · exact hi x h
    · rw [h];omega
theorem marks (s:ByteArray) (f p:Int) (l:List (List Int)) (hl:l.length≤1048576) (hi:∀ x ∈ l,x.length≤1048576) (k:Nat) (hk:2097154<k):∃ t,laws_markTariff.f k s f p l 1=some t∧0≤t∧t≤1100000000000:=by
  obtain ⟨t,l',h1,h2,h3⟩:=marks_l0 l.length 0 k l 1 (by omega) hl hi (by omega) (by omega) (by omega)
  refine ⟨t,?_,h2,h3⟩
  unfold laws_markTariff.f laws_markInt64SS.f laws_markInt64SS.g
  rw [show ((0:Nat):Int)=0 from rfl] at h1
  rw [h1]
  rfl
theorem FnExactYearBill:laws_FnExactYearBill.Pure:=by
  intro x H Q hx hH0 hQ0
  obtain ⟨s,f,p,L⟩:=x
  obtain ⟨hs,_,_,hl,hi⟩:=hx
  obtain ⟨n,hn⟩:∃ n,n=5000000:=⟨_,rfl⟩
  refine ⟨n+3,?_⟩
  show laws_FnExactYearBill.f (n+3) s f p L H Q=some true
  unfold laws_FnExactYearBill.f
  by_cases hH:(H.length:Int) > 1048576
  · rw [if_pos hH]
  rw [if_neg hH]
  by_cases hQ:(Q.length:Int) > 1048576
  · rw [if_pos hQ]
  rw [if_neg hQ]
  obtain ⟨r,r1,r2,r3,r4⟩:=szTariff s f p L hs hl (fun x h=>(hi x h).1) 1048576 (by omega) (by omega) (n+3) (by omega)
  rw [r1,Option.bind_some]
  by_cases hr:r<0
  · rw [if_pos hr]
  rw [if_neg hr]
  obtain ⟨q1,q2,q3⟩:=r4 (by omega)
  obtain ⟨B,a,e,s1,i1,hB⟩:=year_both s f p L H Q (by omega) (by omega) (by omega)
  have er:(e !=e)=false:=by simp
  have tT:∀ k,2097154<k→laws_toTariff.f k s f p L=some (s,f,p,L):=fun k hk=>toTariff s f p L q2 q3 k hk
  have tH:∀ k,2097154<k→laws_toInt64S.f k H=some H:=fun k hk=>toI H (by omega) k (by omega)
  have tQ:∀ k,2097154<k→laws_toInt64S.f k Q=some Q:=fun k hk=>toI Q (by omega) k (by omega)
  have eB:∀ k,2097154<k→laws_eqInt64S.f k B B=some true:=fun k hk=>eqI B (by omega) k (by omega)
  rw [tT _ (by omega),Option.bind_some,tH _ (by omega),Option.bind_some,tQ _ (by omega),Option.bind_some]
  simp only
  rw [s1 _ (by omega),Option.bind_some,Option.bind_some,Option.bind_some,Option.bind_some,i1 _ (by omega),Option.bind_some]
  simp only
  rw [eB _ (by omega),Option.bind_some,if_pos rfl,if_pos trivial,er]
  rw [laws_FnExactYearBill.j0.eq_def]
  simp only
  rw [if_neg Bool.false_ne_true,tT _ (by omega),Option.bind_some]
  simp only
  rw [eqTariff s f p L q2 q3 _ (by omega),Option.bind_some,if_pos rfl,tH _ (by omega),Option.bind_some,eqI H (by omega) _ (by omega),Option.bind_some,if_pos rfl,tQ _ (by omega),Option.bind_some,eqI Q (by omega) _ (by omega),Option.bind_some,if_pos rfl]
  obtain ⟨t1,m1,m2,m3⟩:=marks s f p L q2 q3 (n+2) (by omega)
  rw [m1,Option.bind_some]
  obtain ⟨H',h1,h2,_⟩:=markc_held H t1 (by omega) (by omega) (by omega) (n+2) (by omega)
  rw [h1,Option.bind_some]
  simp only
  obtain ⟨Q',g1,g2,_⟩:=markc_held Q (t1+(H.length:Int)) (by omega) (by omega) (by omega) (n+2) (by omega)
  rw [g1,Option.bind_some]
  simp only
  rw [if_neg (by omega),eB _ (by omega),Option.bind_some,if_pos rfl,if_pos trivial,er]
  rw [laws_FnExactYearBill.j1.eq_def]
  simp only
  obtain ⟨B',b1,b2⟩:=mark_held B (by omega) (n+1) (by omega)
  rw [if_neg Bool.false_ne_true,b1,Option.bind_some]
  simp only
  rw [b2 _ (by omega),Option.bind_some,if_neg (by omega),if_pos rfl,tT _ (by omega),Option.bind_some,tH _ (by omega),Option.bind_some,tQ _ (by omega),Option.bind_some]
  simp only
  rw [i1 _ (by omega),Option.bind_some]
  simp only
  rw [eB _ (by omega),Option.bind_some,if_pos rfl,if_pos trivial,er]
  rw [laws_FnExactYearBill.j2.eq_def]
  simp only
  rw [if_neg Bool.false_ne_true,b2 _ (by omega),Option.bind_some,if_neg (by omega),if_pos rfl]

end Go.Proofs.Ytfffhokkhgbibaa.Pure
