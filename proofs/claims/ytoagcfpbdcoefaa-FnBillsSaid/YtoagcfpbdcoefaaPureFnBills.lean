/- The best tariff has the least bill, a year is the sum of its months, tax is added, and raising by nothing changes nothing. No condition. -/
import Derived.Test.YtoagcfpbdcoefaaPFnBillsx13
namespace Go.Proofs.Ytoagcfpbdcoefaa.Pure
open Go.RowKit Go.Proofs.Ytoagcfpbdcoefaa.PFnBills Go.Proofs.YtoagcfpbdcoefaaW.PrintWords Go.Proofs.YtoagcfpbdcoefaaW.PrintLast Go.Proofs.YtoagcfpbdcoefaaW.PrintMore
set_option linter.unusedVariables false
set_option linter.unusedSimpArgs false

theorem wrap_id {x:Int} (h1:-9223372036854775808≤x) (h2:x≤9223372036854775807):wrap64 x=x:=by unfold wrap64;omega
theorem wf_i64 {x:Int} (h:(Lit.int .i64 x).wf=true):-9223372036854775808≤x∧x≤9223372036854775807:=by
  simp [Lit.wf,IntKind.min,IntKind.max,IntKind.bits,IntKind.signed] at h;omega
theorem mul_bounds {a b A B:Int} (h0:0≤a) (hA:a≤A) (h1:-B≤b) (h2:b≤B) (hB:0≤B):-(A * B)≤a * b∧a * b≤A * B:=by
  have e1:=Int.mul_le_mul_of_nonneg_left h2 h0
  have e2:=Int.mul_le_mul_of_nonneg_right hA hB
  have e3:=Int.mul_le_mul_of_nonneg_left h1 h0
  have e4:a * -B= -(a * B):=Int.mul_neg a B
  omega
theorem mul_nonneg' {a b:Int} (h0:0≤a) (h1:0≤b):0≤a * b:=Int.mul_nonneg h0 h1
theorem next_nat {j n:Nat} (h:j<n) (hn:n≤4611686018427387904):wrap64 ((j:Int)+1)=((j+1:Nat):Int):=by
  rw [wrap_id (by omega) (by omega)];omega
theorem rd_nat (l:List Int) (j:Nat):rd l (j:Int)=l.getD j 0:=by unfold rd;simp
theorem ifp {α:Type} {c:Prop} [Decidable c] {a b:α} (h:c):(if c then a else b)=a:=if_pos h
theorem ifn {α:Type} {c:Prop} [Decidable c] {a b:α} (h:¬ c):(if c then a else b)=b:=if_neg h
theorem suc_of {k d:Nat} (h:d<k):∃ m,k=m+1:=⟨k - 1,by omega⟩
theorem getD_lt {α:Type} {l:List α} {j:Nat} {d:α} (h:j<l.length):l.getD j d=l[j]:=by
  rw [List.getD_eq_getElem?_getD,List.getElem?_eq_getElem h];rfl
theorem drop_cons {α:Type} (l:List α) {j:Nat} (h:j<l.length) (d:α):l.drop j=l.getD j d :: l.drop (j+1):=by
  rw [getD_lt h];exact List.drop_eq_getElem_cons h
theorem up {α:Type} {g:Nat→Option α} (hm:∀ k,LeO (g k) (g (k+1))) {k0:Nat} {r:α} (h:g k0=some r):∀ k,k0≤k→g k=some r:=by
  intro k hk
  induction hk with
  |refl=>exact h
  |step _ ih=>exact hm _ _ ih

theorem name_same (s:ByteArray):∀ (k:Nat) (i:Int),spec_l01Name.l0 k s i=impl_onlyNameBytes.l0 k s (s.size:Int) i:=by
  intro k
  induction k with
  |zero=>intro i;simp only [spec_l01Name.l0,impl_onlyNameBytes.l0]
  |succ k ih=>
    intro i
    simp only [spec_l01Name.l0,impl_onlyNameBytes.l0]
    unfold spec_l01Small.f spec_l01Digit.f
    rw [ih]
    generalize impl_onlyNameBytes.l0 k s (s.size:Int) (wrap64 (i+1))=e
    generalize bt s i=b
    by_cases h1:i<(s.size:Int)
    · rw [if_pos h1,if_pos h1,if_pos h1]
      by_cases h2:0≤i
      · rw [if_pos h2,if_pos h2]
        by_cases c1:b<97
        · rw [if_pos c1,if_neg (by omega)]
          by_cases c2:b<48
          · rw [if_pos c2,if_neg (by omega)];simp
          · rw [if_neg c2,if_pos (by omega)]
            by_cases c3:b > 57
            · rw [if_pos c3,decide_eq_false (by omega)];simp
            · rw [if_neg c3,decide_eq_true (by omega)];simp
        · rw [if_neg c1,if_pos (by omega)]
          by_cases c4:b > 122
          · rw [if_pos c4,decide_eq_false (by omega),if_pos (by omega),if_neg (by omega),decide_eq_false (by omega),if_pos (by omega)];simp
          · rw [if_neg c4,decide_eq_true (by omega)];simp
      · rw [if_neg h2,if_neg h2]
    · rw [if_neg h1,if_neg h1]
theorem name_total (s:ByteArray) (hs:s.size≤35184372088832):∀ (d j k:Nat),j+d=s.size→d<k→∃ r,impl_onlyNameBytes.l0 k s (s.size:Int) (j:Int)=some r:=by
  intro d
  induction d with
  |zero=>
    intro j k hj hk
    obtain ⟨k,rfl⟩:=suc_of hk
    simp only [impl_onlyNameBytes.l0]
    rw [if_neg (by omega)];exact ⟨_,rfl⟩
  |succ d ih=>
    intro j k hj hk
    obtain ⟨k,rfl⟩:=suc_of hk
    obtain ⟨r,hr⟩:=ih (j+1) k (by omega) (by omega)
    simp only [impl_onlyNameBytes.l0]
    rw [if_pos (by omega),if_pos (by omega),if_pos (by omega),next_nat (n:=s.size) (by omega) (by omega),hr]
    split
    · split
      · exact ⟨_,rfl⟩
      · split
        · exact ⟨_,rfl⟩
        · exact ⟨_,rfl⟩
    · split
      · split
        · exact ⟨_,rfl⟩
        · split
          · exact ⟨_,rfl⟩
          · exact ⟨_,rfl⟩
      · exact ⟨_,rfl⟩
/-- A name is one for both. -/
theorem name_both (s:ByteArray) (hs:s.size≤35184372088832):∃ b:Bool,(∀ k,s.size+3≤k→spec_l01Name.f k s=some b)∧(∀ k,s.size+3≤k→impl_IsName.f k s=some b)∧(b=true→1≤s.size∧s.size≤10):=by
  obtain ⟨r,hr⟩:=name_total s hs s.size 0 (s.size+2) (by omega) (by omega)
  have hr3:impl_onlyNameBytes.l0 (s.size+3) s (s.size:Int) 0=some r:=impl_onlyNameBytes.mono_l (s.size+2) s (s.size:Int) 0 r hr
  have hr2:impl_onlyNameBytes.l0 (s.size+2) s (s.size:Int) 0=some r:=hr
  have key:∃ b:Bool,spec_l01Name.f (s.size+3) s=some b∧impl_IsName.f (s.size+3) s=some b∧(b=true→1≤s.size∧s.size≤10):=by
    have bad:spec_l01Name.j0 (s.size+3) s true=some false:=by simp only [spec_l01Name.j0];simp
    unfold spec_l01Name.f impl_IsName.f impl_onlyNameBytes.f
    by_cases h0:s.size=0
    · have e:s.toList=[]:=by
        rw [ByteArray.toList_eq];exact List.eq_nil_of_length_eq_zero (by rw [Array.length_toList];exact h0)
      rw [if_pos e,if_pos (by omega),bad];exact ⟨_,rfl,rfl,by simp⟩
    · have e:¬ s.toList=[]:=by
        rw [ByteArray.toList_eq]
        intro h
        have:s.data.toList.length=0:=by rw [h];rfl
        rw [Array.length_toList] at this
        exact h0 this
      rw [if_neg e,if_neg (show ¬ (s.size:Int)<1 by omega)]
      by_cases h1:(s.size:Int) > 10
      · rw [if_pos h1,if_pos h1,bad];exact ⟨_,rfl,rfl,by simp⟩
      · rw [if_neg h1,if_neg h1,if_pos (by omega),if_pos (by omega)]
        unfold spec_l01Small.f
        by_cases c1:bt s 0<97
        · rw [if_pos c1,if_neg (by omega)]
          simp only [Option.bind_some,Bool.not_false]
          exact ⟨_,bad,rfl,by simp⟩
        · rw [if_neg c1,if_pos (by omega)]
          by_cases c2:bt s 0 > 122
          · rw [if_pos c2,decide_eq_false (by omega)]
            simp only [Option.bind_some,Bool.not_false]
            exact ⟨_,bad,rfl,by simp⟩
          · rw [if_neg c2,decide_eq_true (by omega),hr3]
            simp only [Option.bind_some,Bool.not_true]
            refine ⟨r,?_,rfl,fun _=>by omega⟩
            simp only [spec_l01Name.j0]
            rw [if_neg Bool.false_ne_true,name_same]
            exact hr2
  obtain ⟨b,h1,h2,h3⟩:=key
  exact ⟨b,up (spec_l01Name.mono s) h1,up (impl_IsName.mono s) h2,h3⟩

theorem impl_in (n lo hi:Int):impl_within.f n lo hi=some (decide (lo≤n∧n≤hi)):=by unfold impl_within.f;split<;>simp<;>omega

theorem spec_in (n lo hi:Int):spec_l00In.f n lo hi=some (decide (lo≤n∧n≤hi)):=by unfold spec_l00In.f;split<;>simp<;>omega

theorem rdll_nat (l:List (List Int)) (j:Nat):rd_L3 l (j:Int)=l.getD j []:=by unfold rd_L3;simp

def lv0 (L:List (List Int)) (i:Nat):Int:=rd (L.getD i []) 0
def lv1 (L:List (List Int)) (i:Nat):Int:=rd (L.getD i []) 1
def stepOk (L:List (List Int)) (i:Nat):Bool:=decide ((L.getD i []).length=2)&&(decide (0≤lv0 L i∧lv0 L i≤1000000)&&(decide (0≤lv1 L i∧lv1 L i≤10000)&&(if i=0 then decide (lv0 L i=0) else decide (lv0 L (i - 1)<lv0 L i))))
def allFrom (L:List (List Int)):Nat→Nat→Bool
  |0,_=>true
  |d+1,j=>stepOk L j&&allFrom L d (j+1)
theorem spec_lv_l0 (s:ByteArray) (f p:Int) (L:List (List Int)) (hL:L.length≤6):∀ (d j k:Nat),j+d=L.length→2 * d<k→(0<j→(L.getD (j - 1) []).length=2)→
    spec_l21Ok.l0 k [(⟨s,f,p,L⟩:S26)] (j:Int)=some (allFrom L d j):=by
  intro d
  induction d with
  |zero=>
    intro j k hj hk hp
    obtain ⟨k,rfl⟩:=suc_of (show 0<k by omega)
    simp only [spec_l21Ok.l0,show rd_T26 [(⟨s,f,p,L⟩:S26)] 0=⟨s,f,p,L⟩ from rfl]
    rw [if_pos (by simp),if_neg (by omega)]
    rfl
  |succ d ih=>
    intro j k hj hk hp
    obtain ⟨k,rfl⟩:∃ m,k=m+1+1:=⟨k - 2,by omega⟩
    have bad:spec_l21Ok.j2 (k+1) [(⟨s,f,p,L⟩:S26)] (j:Int) true=some false:=by simp only [spec_l21Ok.j2];simp
    have good:spec_l21Ok.j2 (k+1) [(⟨s,f,p,L⟩:S26)] (j:Int) false=spec_l21Ok.l0 k [(⟨s,f,p,L⟩:S26)] ((j+1:Nat):Int):=by
      simp only [spec_l21Ok.j2]
      rw [if_neg Bool.false_ne_true,next_nat (n:=L.length) (by omega) (by omega)]
    simp only [spec_l21Ok.l0,show rd_T26 [(⟨s,f,p,L⟩:S26)] 0=⟨s,f,p,L⟩ from rfl]
    rw [if_pos (by simp),if_pos (by omega),if_pos (by omega),rdll_nat]
    unfold allFrom stepOk lv0 lv1
    by_cases hlen:(L.getD j []).length=2
    · have hr:=ih (j+1) k (by omega) (by omega) (fun _=>hlen)
      rw [if_pos (show ((L.getD j []).length:Int)=2 by omega),if_pos (show (0:Int)<((L.getD j []).length:Int) by omega),if_pos (show (1:Int)<((L.getD j []).length:Int) by omega),decide_eq_true hlen,Bool.true_and]
      simp only [spec_in,Option.bind_some]
      generalize hx0:rd (L.getD j []) 0=x0
      generalize rd (L.getD j []) 1=x1
      by_cases hA:0≤x0∧x0≤1000000
      · rw [decide_eq_true hA,if_pos rfl,Bool.true_and]
        by_cases hB:0≤x1∧x1≤10000
        · rw [decide_eq_true hB,if_pos rfl,Bool.true_and]
          by_cases hz:j=0
          · rw [if_pos (show (j:Int)=0 by omega),if_pos hz]
            by_cases h00:x0=0
            · rw [if_pos h00,if_neg (show ¬ (j:Int) > 0 by omega),good,hr,decide_eq_true h00,Bool.true_and]
            · rw [if_neg h00,bad,decide_eq_false h00];rfl
          · have hpv:=hp (by omega)
            rw [if_neg (show ¬ (j:Int)=0 by omega),if_neg hz,if_pos (show (j:Int) > 0 by omega)]
            have ew:wrap64 ((j:Int) - 1)=((j - 1:Nat):Int):=by rw [wrap_id (by omega) (by omega)];omega
            rw [ew,rdll_nat,if_pos (show (0:Int)≤((j - 1:Nat):Int) by omega),if_pos (show ((j - 1:Nat):Int)<(L.length:Int) by omega),if_pos (show (0:Int)<((L.getD (j - 1) []).length:Int) by omega)]
            generalize rd (L.getD (j - 1) []) 0=y0
            by_cases hc:y0<x0
            · rw [decide_eq_false (show ¬ y0≥x0 by omega),good,hr,decide_eq_true hc,Bool.true_and]
            · rw [decide_eq_true (show y0≥x0 by omega),bad,decide_eq_false hc];rfl
        · rw [decide_eq_false hB,if_neg Bool.false_ne_true,bad];rfl
      · rw [decide_eq_false hA,if_neg Bool.false_ne_true,bad];rfl
    · rw [if_neg (show ¬ ((L.getD j []).length:Int)=2 by omega),bad,decide_eq_false hlen];rfl
theorem impl_lv_l0 (s:ByteArray) (f p:Int) (L:List (List Int)) (hL:L.length≤6):∀ (d j k:Nat),j+d=L.length→2 * d<k→(0<j→(L.getD (j - 1) []).length=2)→
    impl_ValidTariff.l0 k L (L.length:Int) (j:Int) s f p L=some (allFrom L d j):=by
  intro d
  induction d with
  |zero=>
    intro j k hj hk hp
    obtain ⟨k,rfl⟩:=suc_of (show 0<k by omega)
    simp only [impl_ValidTariff.l0]
    rw [if_neg (by omega)]
    rfl
  |succ d ih=>
    intro j k hj hk hp
    obtain ⟨k,rfl⟩:∃ m,k=m+1+1:=⟨k - 2,by omega⟩
    have bad:impl_ValidTariff.j2 (k+1) L (L.length:Int) (j:Int) true s f p L=some false:=by simp only [impl_ValidTariff.j2];simp
    have good:impl_ValidTariff.j2 (k+1) L (L.length:Int) (j:Int) false s f p L=impl_ValidTariff.l0 k L (L.length:Int) ((j+1:Nat):Int) s f p L:=by
      simp only [impl_ValidTariff.j2]
      rw [if_neg Bool.false_ne_true,next_nat (n:=L.length) (by omega) (by omega)]
    simp only [impl_ValidTariff.l0]
    rw [if_pos (by omega),if_pos (by omega),if_pos (by omega),rdll_nat]
    unfold allFrom stepOk lv0 lv1
    by_cases hlen:(L.getD j []).length=2
    · have hr:=ih (j+1) k (by omega) (by omega) (fun _=>hlen)
      rw [if_pos (show ((L.getD j []).length:Int)=2 by omega),if_pos (show (0:Int)<((L.getD j []).length:Int) by omega),if_pos (show (1:Int)<((L.getD j []).length:Int) by omega),decide_eq_true hlen,Bool.true_and]
      simp only [impl_in,Option.bind_some]
      generalize hx0:rd (L.getD j []) 0=x0
      generalize rd (L.getD j []) 1=x1
      by_cases hA:0≤x0∧x0≤1000000
      · rw [decide_eq_true hA,if_pos rfl,Bool.true_and]
        by_cases hB:0≤x1∧x1≤10000
        · rw [decide_eq_true hB,if_pos rfl,Bool.true_and]
          by_cases hz:j=0
          · rw [if_pos (show (j:Int)=0 by omega),if_pos hz]
            by_cases h00:x0=0
            · rw [if_pos h00,if_neg (show ¬ (j:Int) > 0 by omega),good,hr,decide_eq_true h00,Bool.true_and]
            · rw [if_neg h00,bad,decide_eq_false h00];rfl
          · have hpv:=hp (by omega)
            rw [if_neg (show ¬ (j:Int)=0 by omega),if_neg hz,if_pos (show (j:Int) > 0 by omega)]
            have ew:wrap64 ((j:Int) - 1)=((j - 1:Nat):Int):=by rw [wrap_id (by omega) (by omega)];omega
            rw [ew,rdll_nat,if_pos (show (0:Int)≤((j - 1:Nat):Int) by omega),if_pos (show ((j - 1:Nat):Int)<(L.length:Int) by omega),if_pos (show (0:Int)<((L.getD (j - 1) []).length:Int) by omega)]
            generalize rd (L.getD (j - 1) []) 0=y0
            by_cases hc:y0<x0
            · rw [decide_eq_false (show ¬ x0≤y0 by omega),good,hr,decide_eq_true hc,Bool.true_and]
            · rw [decide_eq_true (show x0≤y0 by omega),bad,decide_eq_false hc];rfl
        · rw [decide_eq_false hB,if_neg Bool.false_ne_true,bad];rfl
      · rw [decide_eq_false hA,if_neg Bool.false_ne_true,bad];rfl
    · rw [if_neg (show ¬ ((L.getD j []).length:Int)=2 by omega),bad,decide_eq_false hlen];rfl
theorem allFrom_at (L:List (List Int)):∀ (d j:Nat),allFrom L d j=true→∀ i,j≤i→i<j+d→stepOk L i=true:=by
  intro d
  induction d with
  |zero=>intro j _ i h1 h2;omega
  |succ d ih=>
    intro j h i h1 h2
    unfold allFrom at h
    rw [Bool.and_eq_true] at h
    by_cases e:i=j
    · subst e;exact h.1
    · exact ih (j+1) h.2 i (by omega) (by omega)
def TarOk (f p:Int) (L:List (List Int)):Prop:=(0≤f∧f≤1000000)∧(0≤p∧p≤10000)∧1≤L.length∧L.length≤6∧∀ i,i<L.length→(L.getD i []).length=2∧(0≤lv0 L i∧lv0 L i≤1000000)∧(0≤lv1 L i∧lv1 L i≤10000)∧(i=0→lv0 L i=0)∧(0<i→lv0 L (i - 1)<lv0 L i)
theorem tariff_both (s:ByteArray) (f p:Int) (L:List (List Int)) (hs:s.size≤35184372088832):∃ v:Bool,(∀ k,s.size+30≤k→spec_l21Ok.f k [(⟨s,f,p,L⟩:S26)]=some v)∧(∀ k,s.size+30≤k→impl_ValidTariff.f k s f p L=some v)∧(v=true→TarOk f p L∧s.size≤10):=by
  obtain ⟨b,n1,n2,n3⟩:=name_both s hs
  have e:rd_T26 [(⟨s,f,p,L⟩:S26)] 0=⟨s,f,p,L⟩:=rfl
  have sbad:∀ k,spec_l21Ok.j0 (k+1) [(⟨s,f,p,L⟩:S26)] true=some false:=fun k=>by simp only [spec_l21Ok.j0];simp
  have ibad:∀ k,impl_ValidTariff.j0 (k+1) true s f p L=some false:=fun k=>by simp only [impl_ValidTariff.j0];simp
  refine ⟨b&&(decide (0≤f∧f≤1000000)&&(decide (0≤p∧p≤10000)&&(decide (1≤(L.length:Int)∧(L.length:Int)≤6)&&allFrom L L.length 0))),fun k hk=>?_,fun k hk=>?_,fun h=>?_⟩
  · obtain ⟨k,rfl⟩:=suc_of (show 0<k by omega)
    unfold spec_l21Ok.f
    rw [if_pos (by simp)]
    simp only [e,spec_in,n1 (k+1) (by omega),Option.bind_some,sbad]
    cases b
    · rfl
    · cases decide (0≤f∧f≤1000000)
      · rfl
      · cases decide (0≤p∧p≤10000)
        · rfl
        · simp only [if_true,Bool.true_and]
          by_cases h:1≤(L.length:Int)∧(L.length:Int)≤6
          · rw [decide_eq_true h]
            simp only [Bool.not_true,spec_l21Ok.j0,Bool.true_and]
            rw [if_neg Bool.false_ne_true]
            exact spec_lv_l0 s f p L (by omega) L.length 0 k (by omega) (by omega) (fun h=>absurd h (by omega))
          · rw [decide_eq_false h,Bool.not_false,sbad];rfl
  · obtain ⟨k,rfl⟩:=suc_of (show 0<k by omega)
    unfold impl_ValidTariff.f
    simp only [impl_in,n2 (k+1) (by omega),Option.bind_some,ibad]
    cases b
    · rfl
    · cases decide (0≤f∧f≤1000000)
      · rfl
      · cases decide (0≤p∧p≤10000)
        · rfl
        · simp only [if_true,Bool.true_and]
          by_cases h1:(L.length:Int)<1
          · rw [if_pos h1,decide_eq_false (by omega)];rfl
          · rw [if_neg h1]
            by_cases h2:(L.length:Int) > 6
            · rw [decide_eq_true h2,ibad,decide_eq_false (by omega)];rfl
            · rw [decide_eq_false h2,decide_eq_true (by omega)]
              simp only [impl_ValidTariff.j0,Bool.true_and]
              rw [if_neg Bool.false_ne_true]
              exact impl_lv_l0 s f p L (by omega) L.length 0 k (by omega) (by omega) (fun h=>absurd h (by omega))
  · simp only [Bool.and_eq_true,decide_eq_true_eq] at h
    obtain ⟨hb,hf,hp,hl,ha⟩:=h
    refine ⟨⟨hf,hp,by omega,by omega,fun i hi=>?_⟩,(n3 hb).2⟩
    have h:=allFrom_at L L.length 0 ha i (by omega) (by omega)
    unfold stepOk at h
    simp only [Bool.and_eq_true,decide_eq_true_eq] at h
    obtain ⟨g1,g2,g3,g4⟩:=h
    refine ⟨g1,g2,g3,fun hz=>?_,fun hz=>?_⟩
    · rw [if_pos hz] at g4;exact of_decide_eq_true g4
    · rw [if_neg (by omega)] at g4;exact of_decide_eq_true g4

/-! The source that the draws read. -/
theorem wf_u8 {x:Int} (h:(Lit.int .u8 x).wf=true):0≤x∧x≤255:=by
  simp [Lit.wf,IntKind.min,IntKind.max,IntKind.bits,IntKind.signed] at h;omega
def bytes (l:List Int):Prop:=∀ x ∈ l,(Lit.int .u8 x).wf=true
theorem and_b (x:Int):0≤Go.bits .and .u64 x 255∧Go.bits .and .u64 x 255≤255:=by
  unfold Go.bits
  simp only [BitVec.toNat_and]
  have h:(BitVec.ofInt IntKind.u64.bits x).toNat &&& (BitVec.ofInt IntKind.u64.bits 255).toNat≤255:=Nat.le_trans Nat.and_le_right (by decide)
  generalize (BitVec.ofInt IntKind.u64.bits x).toNat &&& (BitVec.ofInt IntKind.u64.bits 255).toNat=n at *
  have e:IntKind.u64.wrap (n:Int)=(n:Int):=by
    unfold IntKind.wrap
    simp [IntKind.bits,IntKind.signed]
    omega
  rw [e];omega
theorem and_w (x:Int):wrap64 (Go.bits .and .u64 x 255)=Go.bits .and .u64 x 255:=by
  have b:=and_b x
  exact wrap_id (by omega) (by omega)
theorem src_next (L:List Int) (hL:bytes L) (i s:Int) (h0:0≤i) (h1:i≤1000000):∃ v s',spec_l00Src_next.f L i s=some (v,i+1,s')∧0≤v∧v≤255:=by
  unfold spec_l00Src_next.f
  rw [wrap_id (x:=i+1) (by omega) (by omega)]
  by_cases c:i<(L.length:Int)
  · obtain ⟨n,rfl⟩:∃ n:Nat,i=n:=⟨i.toNat,by omega⟩
    have hb:0≤L.getD n 0∧L.getD n 0≤255:=by rw [getD_lt (by omega)];exact wf_u8 (hL _ (List.getElem_mem (by omega)))
    rw [if_pos c,if_pos h0,if_pos (by omega),rd_nat,wrap_id (x:=L.getD n 0) (by omega) (by omega)]
    exact ⟨_,_,rfl,hb.1,hb.2⟩
  · rw [if_neg c,if_neg (by omega)]
    rw [and_w]
    exact ⟨_,_,rfl,(and_b _).1,(and_b _).2⟩
theorem src_pick (L:List Int) (hL:bytes L) (i s n:Int) (h0:0≤i) (h1:i≤900000):∃ v j s',spec_l00Src_pick.f L i s n=some (v,j,s')∧(0≤v∧(1<n→v<n))∧i≤j∧j≤i+2:=by
  unfold spec_l00Src_pick.f
  by_cases c:n≤1
  · rw [if_pos c];exact ⟨_,_,_,rfl,⟨by omega,fun h=>by omega⟩,by omega,by omega⟩
  · rw [if_neg c]
    obtain ⟨v,s1,e1,v0,v1⟩:=src_next L hL i s h0 (by omega)
    rw [e1,Option.bind_some]
    simp only []
    by_cases d:n > 200
    · obtain ⟨w,s2,e2,w0,w1⟩:=src_next L hL (i+1) s1 (by omega) (by omega)
      rw [if_pos d,e2,Option.bind_some]
      simp only []
      rw [if_neg (by omega),wrap_id (x:=v * 256) (by omega) (by omega),wrap_id (x:=v * 256+w) (by omega) (by omega),Int.tmod_eq_emod_of_nonneg (by omega)]
      exact ⟨_,_,_,rfl,⟨Int.emod_nonneg _ (by omega),fun _=>Int.emod_lt_of_pos _ (by omega)⟩,by omega,by omega⟩
    · rw [if_neg d,if_neg (by omega),Int.tmod_eq_emod_of_nonneg v0]
      exact ⟨_,_,_,rfl,⟨Int.emod_nonneg _ (by omega),fun _=>Int.emod_lt_of_pos _ (by omega)⟩,by omega,by omega⟩

theorem pick_at (L:List Int) (hL:bytes L) (i s n:Int) (hn:1<n) (h0:0≤i) (h1:i≤900000):∃ v j s',spec_l00Src_pick.f L i s n=some (v,j,s')∧(0≤v∧v<n)∧0≤j∧j≤i+2:=by
  obtain ⟨v,j,s',e,h,a,b⟩:=src_pick L hL i s n h0 h1
  exact ⟨v,j,s',e,⟨h.1,h.2 hn⟩,by omega,b⟩
def levOk (L:List (List Int)) (c:Int):Prop:=∀ i,i<L.length→(L.getD i []).length=2∧(0≤lv0 L i∧lv0 L i<c)∧(100≤lv1 L i∧lv1 L i≤1599)∧(i=0→lv0 L i=0)∧(0<i→lv0 L (i - 1)<lv0 L i)
theorem getD_snoc {L:List (List Int)} {x:List Int} {i:Nat} (h:i<L.length):(L++[x]).getD i []=L.getD i []:=by
  rw [List.getD_eq_getElem?_getD,List.getD_eq_getElem?_getD,List.getElem?_append_left h]
theorem getD_snoc_last {L:List (List Int)} {x:List Int}:(L++[x]).getD L.length []=x:=by
  rw [List.getD_eq_getElem?_getD,List.getElem?_append_right (Nat.le_refl _)];simp
theorem levOk_snoc {L:List (List Int)} {c a b d:Int} (h:levOk L c) (ha:0≤a) (hc:c≤a) (hd:a<d) (hz:L.length=0→a=0) (hb0:100≤b) (hb1:b≤1599):levOk (L++[[a,b]]) d:=by
  intro i hi
  rw [List.length_append,List.length_singleton] at hi
  by_cases e:i<L.length
  · obtain ⟨h1,h2,h3,h4,h5⟩:=h i e
    unfold lv0 lv1 at *
    rw [getD_snoc e]
    refine ⟨h1,⟨h2.1,by omega⟩,h3,h4,fun hp=>?_⟩
    rw [getD_snoc (show i - 1<L.length by omega)]
    exact h5 hp
  · have e2:i=L.length:=by omega
    subst e2
    unfold lv0 lv1
    rw [getD_snoc_last]
    refine ⟨rfl,⟨ha,hd⟩,⟨hb0,hb1⟩,fun hp=>hz hp,fun hp=>?_⟩
    rw [getD_snoc (show L.length - 1<L.length by omega)]
    have:=(h (L.length - 1) (by omega)).2.1.2
    unfold lv0 at this
    show _<a
    omega
theorem draw_l0 (B:List Int) (hB:bytes B) (q:ByteArray) (f p:Int):∀ (d:Nat) (a i s:Int) (L:List (List Int)),L.length+d≤5→levOk L a→0≤a→(L.length=0→a=0)→(0<L.length∨0<d)→a≤(L.length:Int) * 1000→0≤i→i+10 * (d:Int)≤800000→
    ∃ L',(∀ k,d<k→∃ j s',spec_l21Draw.l0 k a ((d:Int) - 1) B i s q f p L=some (q,f,p,L',j,s'))∧levOk L' 6000∧1≤L'.length∧L'.length≤5:=by
  intro d
  induction d with
  |zero=>
    intro a i s L hl hL ha hz hne ha2 h0 h1
    refine ⟨L,fun k hk=>⟨i,s,?_⟩,fun j hj=>?_,by omega,by omega⟩
    · obtain ⟨k,rfl⟩:=suc_of hk
      simp only [spec_l21Draw.l0]
      rw [if_neg (by omega)]
    · obtain ⟨g1,g2,g3⟩:=hL j hj
      exact ⟨g1,⟨g2.1,by omega⟩,g3⟩
  |succ d ih=>
    intro a i s L hl hL ha hz hne ha2 h0 h1
    obtain ⟨v,i1,s1,e1,v1,k1,k2⟩:=pick_at B hB i s 1500 (by omega) h0 (by omega)
    obtain ⟨u,i2,s2,e2,u1,m1,m2⟩:=pick_at B hB i1 s1 900 (by omega) k1 (by omega)
    have hs:=levOk_snoc (b:=100+v) (d:=a+(1+u)) hL ha (by omega) (by omega) hz (by omega) (by omega)
    obtain ⟨L',a1,a2,a3,a4⟩:=ih (a+(1+u)) i2 s2 (L++[[a,100+v]]) (by simp;omega) hs (by omega) (fun h=>by simp at h) (Or.inl (by simp)) (by simp;omega) m1 (by omega)
    refine ⟨L',fun k hk=>?_,a2,a3,a4⟩
    obtain ⟨k,rfl⟩:=suc_of (show 0<k by omega)
    obtain ⟨j,s',a1⟩:=a1 k (by omega)
    refine ⟨j,s',?_⟩
    simp only [spec_l21Draw.l0]
    rw [if_pos (by omega),e1,Option.bind_some]
    simp only
    rw [if_pos (by omega),e2,Option.bind_some]
    simp only
    rw [wrap_id (x:=1+u) (by omega) (by omega),wrap_id (x:=a+(1+u)) (by omega) (by omega),wrap_id (x:=100+v) (by omega) (by omega),wrap_id (x:=((d+1:Nat):Int) - 1 - 1) (by omega) (by omega),show ((d+1:Nat):Int) - 1 - 1=(d:Int) - 1 by omega]
    exact a1
structure Drawn (s:ByteArray) (f p:Int) (L:List (List Int)):Prop where
  name:s=⟨#[104,111,109,101]⟩∨s=⟨#[102,105,114,109]⟩∨s=⟨#[110,105,103,104,116]⟩
  fix:0≤f∧f≤8900
  pow:0≤p∧p≤590
  len:1≤L.length∧L.length≤5
  lev:levOk L 6000
theorem draw_tar (B:List Int) (hB:bytes B):∃ s f p L,(∀ k,10≤k→spec_R8Tariff.f k B=some (s,f,p,L))∧Drawn s f p L:=by
  obtain ⟨v,i0,s0,e0,v1,k1,k2⟩:=pick_at B hB 0 0 (([(⟨#[104,111,109,101]⟩:ByteArray),(⟨#[102,105,114,109]⟩:ByteArray),(⟨#[110,105,103,104,116]⟩:ByteArray)]:List ByteArray).length:Int) (by decide) (by omega) (by omega)
  obtain ⟨f,i1,s1,e1,f1,m1,m2⟩:=pick_at B hB i0 s0 90 (by omega) k1 (by omega)
  obtain ⟨p,i2,s2,e2,p1,n1,n2⟩:=pick_at B hB i1 s1 60 (by omega) m1 (by omega)
  obtain ⟨c,i3,s3,e3,c1,o1,o2⟩:=pick_at B hB i2 s2 4 (by omega) n1 (by omega)
  obtain ⟨d,rfl⟩:∃ d:Nat,c=(d:Int):=⟨c.toNat,by omega⟩
  have hnil:levOk [] 0:=fun i hi=>absurd hi (by simp)
  have name:∃ q,spec_l00Src_text.f B 0 0 ([(⟨#[104,111,109,101]⟩:ByteArray),(⟨#[102,105,114,109]⟩:ByteArray),(⟨#[110,105,103,104,116]⟩:ByteArray)]:List ByteArray)=some (q,i0,s0)∧(q=⟨#[104,111,109,101]⟩∨q=⟨#[102,105,114,109]⟩∨q=⟨#[110,105,103,104,116]⟩):=by
    unfold spec_l00Src_text.f
    rw [e0,Option.bind_some]
    simp only
    have v3:v<3:=v1.2
    rw [if_pos v1.1,if_pos v1.2]
    refine ⟨_,rfl,?_⟩
    have:v=0∨v=1∨v=2:=by omega
    rcases this with rfl|rfl|rfl
    · exact Or.inl rfl
    · exact Or.inr (Or.inl rfl)
    · exact Or.inr (Or.inr rfl)
  obtain ⟨q,q1,q2⟩:=name
  obtain ⟨L',a1,a2,a3,a4⟩:=draw_l0 B hB q (100 * f) (10 * p) (d+1) 0 i3 s3 [] (by simp;omega) hnil (by omega) (fun _=>rfl) (Or.inr (by omega)) (by simp) o1 (by omega)
  refine ⟨q,100 * f,10 * p,L',fun k hk=>?_,q2,⟨by omega,by omega⟩,⟨by omega,by omega⟩,⟨a3,a4⟩,a2⟩
  obtain ⟨j,s',a1⟩:=a1 k (by omega)
  unfold spec_R8Tariff.f spec_l00From.f spec_l21Draw.f
  rw [Option.bind_some]
  simp only
  rw [q1,Option.bind_some]
  simp only
  rw [e1,Option.bind_some]
  simp only
  rw [e2,Option.bind_some]
  simp only
  rw [e3,Option.bind_some]
  simp only
  rw [wrap_id (x:=100 * f) (by omega) (by omega),wrap_id (x:=10 * p) (by omega) (by omega),show ((d:Nat):Int)=((d+1:Nat):Int) - 1 by omega,a1,Option.bind_some]

def tv (x:S26):Bool:=(impl_ValidTariff.f 1048620 x.f0 x.f1 x.f2 x.f3).getD false
theorem tv_spec (x:S26) (hs:x.f0.size≤1048576):(∀ k,1048620≤k→spec_l21Ok.f k [x]=some (tv x))∧(∀ k,1048620≤k→impl_ValidTariff.f k x.f0 x.f1 x.f2 x.f3=some (tv x))∧(tv x=true→TarOk x.f1 x.f2 x.f3):=by
  obtain ⟨v,v1,v2,v3⟩:=tariff_both x.f0 x.f1 x.f2 x.f3 (by omega)
  have e:tv x=v:=by unfold tv;rw [v2 1048620 (by omega)];rfl
  exact ⟨fun k hk=>by rw [e];exact v1 k (by omega),fun k hk=>by rw [e];exact v2 k (by omega),fun h=>(v3 (e ▸ h)).1⟩

def tm (e x0 x1:Int):Int:=(if 0 > e - x0 then 0 else e - x0) * x1
theorem tm_b {e x0 x1:Int} (h0:0≤e) (h1:e≤1000000) (h2:0≤x0) (h4:0≤x1) (h5:x1≤10000):0≤tm e x0 x1∧tm e x0 x1≤10000000000:=by
  unfold tm
  generalize hg:(if 0 > e - x0 then (0:Int) else e - x0)=g
  have g0:0≤g∧g≤1000000:=by rw [← hg];split<;>omega
  have m:=mul_bounds (a:=g) (b:=x1) (A:=1000000) (B:=10000) g0.1 g0.2 (by omega) h5 (by omega)
  have n:=mul_nonneg' g0.1 h4
  omega
theorem smin (a b:Int):spec_l00Min.f a b=some (if a<b then a else b):=by unfold spec_l00Min.f;split<;>rfl
theorem smax (a b:Int):spec_l00Max.f a b=some (if a > b then a else b):=by unfold spec_l00Max.f;split<;>rfl
theorem mn_eq (a b:Int):mn a b=if a<b then a else b:=by unfold mn;by_cases h1:b<a<;>by_cases h2:a<b<;>simp [h1,h2]<;>omega
theorem mx_eq (a:Int):mx a 0=if 0 > a then 0 else a:=rfl
theorem cost_step {u y x0 x1:Int} (h0:0≤y) (h1:y≤1000000) (h2:0≤x0) (h3:x0≤1000000) (h4:0≤x1) (h5:x1≤10000) (hu:0≤u) (hu1:u≤60000000000):wrap64 (u+wrap64 ((if 0 > wrap64 (y - x0) then 0 else wrap64 (y - x0)) * x1))=u+tm y x0 x1:=by
  have tb:=tm_b h0 h1 h2 h4 h5
  rw [wrap_id (x:=y - x0) (by omega) (by omega)]
  have e:(if 0 > y - x0 then (0:Int) else y - x0) * x1=tm y x0 x1:=rfl
  rw [e]
  generalize tm y x0 x1=z at tb
  rw [wrap_id (x:=z) (by omega) (by omega),wrap_id (x:=u+z) (by omega) (by omega)]
theorem cost_l0 (s:ByteArray) (f p:Int) (L:List (List Int)) (hT:TarOk f p L) (h:Int) (hh0:0≤h) (hh1:h≤1000000):∀ (d j:Nat) (u:Int),j+d=L.length→0≤u→u≤(j:Int) * 10000000000→∃ c,
    (∀ k,d<k→spec_l21Cost.l0 k [(⟨s,f,p,L⟩:S26)] h u (j:Int)=some c)∧(∀ k,d<k→impl_Tariff_heatCost.l0 k h u L (L.length:Int) (j:Int) s f p L=some c)∧0≤c∧c≤60000000000:=by
  have e:rd_T26 [(⟨s,f,p,L⟩:S26)] 0=⟨s,f,p,L⟩:=rfl
  have ht:(0:Int)<(([(⟨s,f,p,L⟩:S26)]).length:Int):=by simp
  obtain ⟨_,_,hl1,hl6,hall⟩:=hT
  intro d
  induction d with
  |zero=>
    intro j u hj hu hu1
    have hj1:¬ (j:Int)<(L.length:Int):=by omega
    refine ⟨u,fun k hk=>?_,fun k hk=>?_,by omega,by omega⟩
    · obtain ⟨k,rfl⟩:=suc_of (show 0<k by omega)
      simp only [spec_l21Cost.l0,e,ht,hj1,if_true,if_false]
    · obtain ⟨k,rfl⟩:=suc_of (show 0<k by omega)
      simp only [impl_Tariff_heatCost.l0,hj1,if_false]
  |succ d ih=>
    intro j u hj hu hu1
    have hjl:j<L.length:=by omega
    have hn:=next_nat (j:=j) (n:=L.length) hjl (by omega)
    have hj0:(0:Int)≤(j:Int):=by omega
    have hj1:(j:Int)<(L.length:Int):=by omega
    have hj3:(0:Int)≤((j+1:Nat):Int):=by omega
    have hw:wrap64 ((L.length:Int) - 1)=(L.length:Int) - 1:=wrap_id (by omega) (by omega)
    have hu6:u≤60000000000:=by omega
    have hjd:j+1+d=L.length:=by omega
    have g1:=(hall j hjl).1
    have hz0:(0:Int)<((L.getD j []).length:Int):=by omega
    have hz1:(1:Int)<((L.getD j []).length:Int):=by omega
    have g2:=(hall j hjl).2.1
    have g3:=(hall j hjl).2.2.1
    unfold lv0 at g2
    unfold lv1 at g3
    by_cases hlast:j+1<L.length
    · have n1:=(hall (j+1) hlast).1
      have hj2:((j+1:Nat):Int)<(L.length:Int):=by omega
      have hj4:(j:Int)<(L.length:Int) - 1:=by omega
      have hz2:(0:Int)<((L.getD (j+1) []).length:Int):=by omega
      have n2:=(hall (j+1) hlast).2.1
      unfold lv0 at n2
      have y0:0≤(if h<rd (L.getD (j+1) []) 0 then h else rd (L.getD (j+1) []) 0):=by split<;>omega
      have y1:(if h<rd (L.getD (j+1) []) 0 then h else rd (L.getD (j+1) []) 0)≤1000000:=by split<;>omega
      have tb:=tm_b y0 y1 g2.1 g3.1 g3.2
      have st:=cost_step y0 y1 g2.1 g2.2 g3.1 g3.2 hu hu6
      obtain ⟨c,c1,c2,c3,c4⟩:=ih (j+1) (u+tm (if h<rd (L.getD (j+1) []) 0 then h else rd (L.getD (j+1) []) 0) (rd (L.getD j []) 0) (rd (L.getD j []) 1)) hjd (by omega) (by omega)
      refine ⟨c,fun k hk=>?_,fun k hk=>?_,c3,c4⟩
      · obtain ⟨k,rfl⟩:=suc_of (show 0<k by omega)
        simp only [spec_l21Cost.l0,e,ht,hn,smin,smax,Option.bind_some,rdll_nat,hj0,hj1,hj2,hj3,hz0,hz1,hz2,if_true,st]
        exact c1 k (by omega)
      · obtain ⟨k,rfl⟩:=suc_of (show 0<k by omega)
        simp only [impl_Tariff_heatCost.l0,hn,hw,mn_eq,mx_eq,rdll_nat,hj0,hj1,hj2,hj3,hj4,hz0,hz1,hz2,if_true,st]
        exact c2 k (by omega)
    · have hj2:¬ ((j+1:Nat):Int)<(L.length:Int):=by omega
      have hj4:¬ (j:Int)<(L.length:Int) - 1:=by omega
      have tb:=tm_b (e:=h) (x0:=rd (L.getD j []) 0) (x1:=rd (L.getD j []) 1) hh0 hh1 g2.1 g3.1 g3.2
      have st:=cost_step (y:=h) hh0 hh1 g2.1 g2.2 g3.1 g3.2 hu hu6
      obtain ⟨c,c1,c2,c3,c4⟩:=ih (j+1) (u+tm h (rd (L.getD j []) 0) (rd (L.getD j []) 1)) hjd (by omega) (by omega)
      refine ⟨c,fun k hk=>?_,fun k hk=>?_,c3,c4⟩
      · obtain ⟨k,rfl⟩:=suc_of (show 0<k by omega)
        simp only [spec_l21Cost.l0,e,ht,hn,smax,Option.bind_some,rdll_nat,hj0,hj1,hj2,hj3,hz0,hz1,if_true,if_false,st]
        exact c1 k (by omega)
      · obtain ⟨k,rfl⟩:=suc_of (show 0<k by omega)
        simp only [impl_Tariff_heatCost.l0,hn,hw,mx_eq,rdll_nat,hj0,hj1,hj4,hz0,hz1,if_true,if_false,st]
        exact c2 k (by omega)
theorem cost_both (s:ByteArray) (f p:Int) (L:List (List Int)) (hT:TarOk f p L) (h:Int) (hh0:0≤h) (hh1:h≤1000000):∃ c,(∀ k,20≤k→spec_l21Cost.f k [(⟨s,f,p,L⟩:S26)] h=some c)∧(∀ k,20≤k→impl_Tariff_heatCost.f k s f p L h=some c)∧0≤c∧c≤60000000000:=by
  obtain ⟨c,c1,c2,c3,c4⟩:=cost_l0 s f p L hT h hh0 hh1 L.length 0 0 (by omega) (by omega) (by omega)
  have hl:=hT.2.2.2.1
  exact ⟨c,fun k hk=>c1 k (by omega),fun k hk=>c2 k (by omega),c3,c4⟩

def rdiv (a b:Int):Int:=if a<0 then -((b - 2 * a) / (2 * b)) else (2 * a+b) / (2 * b)
theorem rdiv_pos_eq {q r b:Int} (hb:0<b) (h0:0≤r) (h1:r<b):(2 * (b * q+r)+b) / (2 * b)=if r≥b - r then q+1 else q:=by
  have e:2 * (b * q+r)+b=(2 * r+b)+(2 * b) * q:=by rw [Int.mul_add,← Int.mul_assoc];omega
  rw [e,Int.add_mul_ediv_left _ _ (by omega:(2 * b:Int)≠0)]
  split
  · have:(2 * r+b) / (2 * b)=1:=by
      have e2:2 * r+b=(2 * r - b)+(2 * b) * 1:=by omega
      rw [e2,Int.add_mul_ediv_left _ _ (by omega:(2 * b:Int)≠0),Int.ediv_eq_zero_of_lt (by omega) (by omega)];rfl
    omega
  · have:(2 * r+b) / (2 * b)=0:=Int.ediv_eq_zero_of_lt (by omega) (by omega)
    omega
theorem abs_def {a:Int} (h:-9223372036854775807≤a) (h2:a≤9223372036854775807):impl_abs.f a=some (if a<0 then -a else a):=by
  unfold impl_abs.f mx
  rw [wrap_id (by omega) (by omega)]
  split<;>split<;>first|rfl|(simp;omega)
theorem impl_div {a b:Int} (hb:0<b) (hb2:b≤2305843009213693951) (ha:-2305843009213693951≤a) (ha2:a≤2305843009213693951):impl_divRound.f a b=some (rdiv a b):=by
  unfold impl_divRound.f
  rw [if_neg (by omega)]
  by_cases h:a<0
  · have hq0:a.tdiv b= -((-a) / b):=by rw [← Int.tdiv_eq_ediv_of_nonneg (by omega),Int.neg_tdiv,Int.neg_neg]
    have hr0:a.tmod b= -((-a) % b):=by rw [← Int.tmod_eq_emod_of_nonneg (by omega),Int.neg_tmod,Int.neg_neg]
    have hr1:=Int.emod_nonneg (-a) (show b≠0 by omega)
    have hr2:=Int.emod_lt_of_pos (-a) hb
    have hd:=Int.mul_ediv_add_emod (-a) b
    have hq1:0≤(-a) / b:=Int.ediv_nonneg (by omega) (by omega)
    have hq2:(-a) / b≤-a:=Int.ediv_le_self _ (by omega)
    rw [hq0,hr0]
    generalize (-a) / b=q at *
    generalize (-a) % b=r at *
    rw [abs_def (by omega) (by omega),abs_def (by omega) (by omega)]
    simp only [Option.bind_some]
    have e1:(if -r<0 then - -r else -r)=r:=by split<;>omega
    have e2:(if b<0 then -b else b)=b:=by rw [if_neg (by omega)]
    rw [e1,e2,wrap_id (x:=b - r) (by omega) (by omega)]
    have hk:rdiv a b= -(if r≥b - r then q+1 else q):=by
      unfold rdiv
      rw [if_pos h,← rdiv_pos_eq (q:=q) hb hr1 hr2,hd]
      congr 2;omega
    rw [hk]
    have w1:wrap64 (-q)= -q:=wrap_id (by omega) (by omega)
    rw [w1]
    by_cases hc:r≥b - r
    · rw [if_pos hc,if_pos hc,if_neg (by simp;omega),wrap_id (by omega) (by omega)]
      congr 1;omega
    · rw [if_neg hc,if_neg hc]
  · have hq0:a.tdiv b=a / b:=Int.tdiv_eq_ediv_of_nonneg (by omega)
    have hr0:a.tmod b=a % b:=Int.tmod_eq_emod_of_nonneg (by omega)
    have hr1:=Int.emod_nonneg a (show b≠0 by omega)
    have hr2:=Int.emod_lt_of_pos a hb
    have hd:=Int.mul_ediv_add_emod a b
    have hq1:0≤a / b:=Int.ediv_nonneg (by omega) (by omega)
    have hq2:a / b≤a:=Int.ediv_le_self _ (by omega)
    rw [hq0,hr0]
    generalize a / b=q at *
    generalize a % b=r at *
    rw [abs_def (by omega) (by omega),abs_def (by omega) (by omega)]
    simp only [Option.bind_some]
    have e1:(if r<0 then - r else r)=r:=by rw [if_neg (by omega)]
    have e2:(if b<0 then -b else b)=b:=by rw [if_neg (by omega)]
    rw [e1,e2,wrap_id (x:=b - r) (by omega) (by omega)]
    have hk:rdiv a b=(if r≥b - r then q+1 else q):=by
      unfold rdiv
      rw [if_neg h,← rdiv_pos_eq (q:=q) hb hr1 hr2,hd]
    rw [hk]
    have w1:wrap64 q=q:=wrap_id (by omega) (by omega)
    rw [w1]
    by_cases hc:r≥b - r
    · rw [if_pos hc,if_pos hc,if_pos (by simp;omega),wrap_id (by omega) (by omega)]
    · rw [if_neg hc,if_neg hc]
theorem rdiv_nonneg {a b:Int} (ha:0≤a) (hb:0<b):0≤rdiv a b:=by
  unfold rdiv;rw [if_neg (by omega)];exact Int.ediv_nonneg (by omega) (by omega)
theorem rdiv_le {a b:Int} (ha:0≤a) (hb:0<b):rdiv a b≤2 * a+b:=by
  unfold rdiv;rw [if_neg (by omega)];exact Int.ediv_le_self _ (by omega)

theorem spec_div {a b:Int} (hb:0<b) (hb2:b≤2305843009213693951) (ha:-2305843009213693951≤a) (ha2:a≤2305843009213693951):spec_l01Div.f a b=some (rdiv a b):=by
  unfold spec_l01Div.f rdiv
  have w2:wrap64 (2 * b)=2 * b:=wrap_id (by omega) (by omega)
  have h2b:(0:Int)<2 * b:=by omega
  rw [if_neg (by omega),w2]
  by_cases h:a<0
  · rw [if_pos h,if_pos h,if_neg (by omega)]
    have e1:wrap64 (2 * a)=2 * a:=wrap_id (by omega) (by omega)
    have e2:wrap64 (b - 2 * a)=b - 2 * a:=wrap_id (by omega) (by omega)
    rw [e1,e2,Int.tdiv_eq_ediv_of_nonneg (by omega)]
    have b1:0≤(b - 2 * a) / (2 * b):=Int.ediv_nonneg (by omega) (by omega)
    have b2:(b - 2 * a) / (2 * b)≤b - 2 * a:=Int.ediv_le_self _ (by omega)
    have e3:wrap64 ((b - 2 * a) / (2 * b))=(b - 2 * a) / (2 * b):=wrap_id (by omega) (by omega)
    have e4:wrap64 (-((b - 2 * a) / (2 * b)))= -((b - 2 * a) / (2 * b)):=wrap_id (by omega) (by omega)
    rw [e3,e4]
  · rw [if_neg h,if_neg h,if_neg (by omega)]
    have e1:wrap64 (2 * a)=2 * a:=wrap_id (by omega) (by omega)
    have e2:wrap64 (2 * a+b)=2 * a+b:=wrap_id (by omega) (by omega)
    rw [e1,e2,Int.tdiv_eq_ediv_of_nonneg (by omega)]
    have b1:0≤(2 * a+b) / (2 * b):=Int.ediv_nonneg (by omega) (by omega)
    have b2:(2 * a+b) / (2 * b)≤2 * a+b:=Int.ediv_le_self _ (by omega)
    rw [wrap_id (by omega) (by omega)]

theorem spec_tbill (s:ByteArray) (f p:Int) (L:List (List Int)) (k:Nat) (h q c:Int) (hf:0≤f∧f≤1000000) (hp:0≤p∧p≤10000) (hq:0≤q∧q≤10000) (hc:spec_l21Cost.f k [(⟨s,f,p,L⟩:S26)] h=some c) (c0:0≤c) (c1:c≤60000000000):spec_l21Bill.f k [(⟨s,f,p,L⟩:S26)] h q=some (f+p * q+rdiv c 100):=by
  have e:rd_T26 [(⟨s,f,p,L⟩:S26)] 0=⟨s,f,p,L⟩:=rfl
  have m:=mul_bounds (a:=p) (b:=q) (A:=10000) (B:=10000) hp.1 hp.2 (by omega) hq.2 (by omega)
  have n:=mul_nonneg' hp.1 hq.1
  have r0:=rdiv_nonneg (b:=100) c0 (by omega)
  have r1:=rdiv_le (b:=100) c0 (by omega)
  unfold spec_l21Bill.f
  rw [if_pos (by simp),hc]
  simp only [Option.bind_some,e]
  rw [spec_div (by omega) (by omega) (by omega) (by omega)]
  simp only [Option.bind_some]
  rw [wrap_id (x:=p * q) (by omega) (by omega),wrap_id (x:=f+p * q) (by omega) (by omega),wrap_id (by omega) (by omega)]
theorem impl_tbill (s:ByteArray) (f p:Int) (L:List (List Int)) (k:Nat) (h q c:Int) (hf:0≤f∧f≤1000000) (hp:0≤p∧p≤10000) (hq:0≤q∧q≤10000) (hc:impl_Tariff_heatCost.f k s f p L h=some c) (c0:0≤c) (c1:c≤60000000000):impl_Tariff_bill.f k s f p L h q=some (f+p * q+rdiv c 100):=by
  have m:=mul_bounds (a:=p) (b:=q) (A:=10000) (B:=10000) hp.1 hp.2 (by omega) hq.2 (by omega)
  have n:=mul_nonneg' hp.1 hq.1
  have r0:=rdiv_nonneg (b:=100) c0 (by omega)
  have r1:=rdiv_le (b:=100) c0 (by omega)
  unfold impl_Tariff_bill.f
  rw [hc]
  simp only [Option.bind_some]
  rw [impl_div (by omega) (by omega) (by omega) (by omega)]
  simp only [Option.bind_some]
  rw [wrap_id (x:=p * q) (by omega) (by omega),wrap_id (x:=f+p * q) (by omega) (by omega),wrap_id (by omega) (by omega)]
theorem bill_both (s:ByteArray) (f p:Int) (L:List (List Int)) (hT:TarOk f p L) (h q:Int) (hh:0≤h∧h≤1000000) (hq:0≤q∧q≤10000):∃ c,(∀ k,20≤k→spec_l21Bill.f k [(⟨s,f,p,L⟩:S26)] h q=some c)∧(∀ k,20≤k→impl_Tariff_bill.f k s f p L h q=some c)∧0≤c∧c≤200000000000:=by
  obtain ⟨c,c1,c2,c3,c4⟩:=cost_both s f p L hT h hh.1 hh.2
  have m:=mul_bounds (a:=p) (b:=q) (A:=10000) (B:=10000) hT.2.1.1 hT.2.1.2 (by omega) hq.2 (by omega)
  have n:=mul_nonneg' hT.2.1.1 hq.1
  have r0:=rdiv_nonneg (b:=100) c3 (by omega)
  have r1:=rdiv_le (b:=100) c3 (by omega)
  have hf:=hT.1
  exact ⟨_,fun k hk=>spec_tbill s f p L k h q c hT.1 hT.2.1 hq (c1 k hk) c3 c4,fun k hk=>impl_tbill s f p L k h q c hT.1 hT.2.1 hq (c2 k hk) c3 c4,by omega,by omega⟩
theorem spec_tpeak (x:Int):spec_l21Peak.f x=some (decide (0≤x∧x≤10000)):=by unfold spec_l21Peak.f;rw [spec_in];rfl

def tb (x:S26) (h q:Int):Int:=(impl_Tariff_bill.f 20 x.f0 x.f1 x.f2 x.f3 h q).getD 0
theorem tb_spec (x:S26) (hT:TarOk x.f1 x.f2 x.f3) (h q:Int) (hh:0≤h∧h≤1000000) (hq:0≤q∧q≤10000):(∀ k,20≤k→spec_l21Bill.f k [x] h q=some (tb x h q))∧(∀ k,20≤k→impl_Tariff_bill.f k x.f0 x.f1 x.f2 x.f3 h q=some (tb x h q))∧0≤tb x h q∧tb x h q≤200000000000:=by
  obtain ⟨c,c1,c2,c3,c4⟩:=bill_both x.f0 x.f1 x.f2 x.f3 hT h q hh hq
  have e:tb x h q=c:=by unfold tb;rw [c2 20 (by omega)];rfl
  rw [e];exact ⟨c1,c2,c3,c4⟩

theorem spec_heat (x:Int):spec_l21Heat.f x=some (decide (0≤x∧x≤1000000)):=by unfold spec_l21Heat.f;rw [spec_in];rfl

def isum (B:List Int):Nat→Nat→Int→Int
  |0,_,u=>u
  |d+1,j,u=>isum B d (j+1) (u+B.getD j 0)
theorem take_next {B:List Int} {j:Nat} (h:j<B.length):B.take j++[B.getD j 0]=B.take (j+1):=by
  rw [getD_lt h];simp
theorem sum_l0 (B:List Int) (hl:B.length≤12) (hb:∀ j,j<B.length→0≤B.getD j 0∧B.getD j 0≤200000000000):∀ (d j k:Nat) (u:Int),j+d=B.length→d<k→0≤u→u≤(j:Int) * 200000000000→
    impl_sumOf.l0 k u B (B.length:Int) (j:Int)=some (isum B d j u):=by
  intro d
  induction d with
  |zero=>
    intro j k u hj hk h0 h1
    obtain ⟨k,rfl⟩:=suc_of hk
    simp only [impl_sumOf.l0,isum]
    rw [if_neg (by omega)]
  |succ d ih=>
    intro j k u hj hk h0 h1
    have b:=hb j (by omega)
    obtain ⟨k,rfl⟩:=suc_of hk
    simp only [impl_sumOf.l0,isum]
    rw [if_pos (by omega),if_pos (by omega),if_pos (by omega),rd_nat,next_nat (n:=B.length) (by omega) (by omega),wrap_id (x:=u+B.getD j 0) (by omega) (by omega)]
    exact ih (j+1) k _ (by omega) (by omega) (by omega) (by omega)
theorem ybi_l0 (s:ByteArray) (f p:Int) (L:List (List Int)) (H Q B:List Int) (hl:H.length≤12) (hq:Q.length=H.length) (hB:B.length=H.length) (hb:∀ j,j<B.length→0≤B.getD j 0∧B.getD j 0≤200000000000)
    (ht:∀ j,j<H.length→∀ k,20≤k→impl_Tariff_bill.f k s f p L (H.getD j 0) (Q.getD j 0)=some (B.getD j 0)):∀ (d j k:Nat),j+d=H.length→20+d<k→
    impl_YearBill.l0 k Q (B.take j) H (H.length:Int) (j:Int) s f p L=some (B,isum B B.length 0 0,0):=by
  intro d
  induction d with
  |zero=>
    intro j k hj hk
    obtain ⟨k,rfl⟩:=suc_of (show 0<k by omega)
    simp only [impl_YearBill.l0]
    rw [if_neg (by omega),List.take_of_length_le (by omega)]
    unfold impl_sumOf.f
    have e:=sum_l0 B (by omega) hb B.length 0 k 0 (by omega) (by omega) (by omega) (by omega)
    rw [show ((0:Nat):Int)=0 from rfl] at e
    rw [e]
    rfl
  |succ d ih=>
    intro j k hj hk
    obtain ⟨k,rfl⟩:=suc_of (show 0<k by omega)
    simp only [impl_YearBill.l0]
    rw [if_pos (by omega),if_pos (by omega),if_pos (by omega),if_pos (by omega),rd_nat,rd_nat,ht j (by omega) k (by omega)]
    simp only [Option.bind_some]
    rw [if_pos (by rw [List.length_take];omega),take_next (by omega),next_nat (n:=H.length) (by omega) (by omega)]
    exact ih (j+1) k (by omega) (by omega)
theorem all_at {P:Int→Bool} {l:List Int} (h:l.all P=true) {j:Nat} (hj:j<l.length):P (l.getD j 0)=true:=by
  rw [getD_lt hj];exact List.all_eq_true.mp h _ (List.getElem_mem hj)

def raised (L:List (List Int)) (n d:Int):Nat→Nat→List (List Int)
  |0,_=>[]
  |m+1,j=>[lv0 L j,rdiv (lv1 L j * n) d] :: raised L n d m (j+1)
theorem raised_len (L:List (List Int)) (n d:Int):∀ m j,(raised L n d m j).length=m
  |0,_=>rfl
  |m+1,j=>by simp [raised,raised_len L n d m (j+1)]
theorem raised_two (L:List (List Int)) (n d:Int):∀ m j,∀ x ∈ raised L n d m j,x.length=2
  |0,_,x,hx=>by simp [raised] at hx
  |m+1,j,x,hx=>by
    simp only [raised,List.mem_cons] at hx
    rcases hx with rfl|hx
    · rfl
    · exact raised_two L n d m (j+1) x hx
abbrev RT:=ByteArray × Int × Int × List (List Int) × Int
def rtEnd (s:ByteArray) (f p:Int) (R:List (List Int)):RT:=if tv ⟨s,f,p,R⟩=true then (s,f,p,R,0) else (⟨#[]⟩,0,0,[],6)
theorem lev_mul {L:List (List Int)} {f p n:Int} (hT:TarOk f p L) (hn:1≤n∧n≤1000) {j:Nat} (hj:j<L.length):0≤lv1 L j * n∧lv1 L j * n≤10000000:=by
  obtain ⟨_,_,_,_,h⟩:=hT
  have h1:=(h j hj).2.2.1
  have m:=mul_bounds (a:=lv1 L j) (b:=n) (A:=10000) (B:=1000) h1.1 h1.2 (by omega) (by omega) (by omega)
  exact ⟨mul_nonneg' h1.1 (by omega),by omega⟩
theorem irt_l0 (L:List (List Int)) (f0 p0:Int) (n d:Int) (hT:TarOk f0 p0 L) (hn:1≤n∧n≤1000) (hd:1≤d∧d≤1000) (s:ByteArray) (hs:s.size≤1048576) (f p:Int):∀ (m j k:Nat) (acc:List (List Int)),j+m=L.length→acc.length=j→1048620+m<k→
    impl_RaiseTariff.l0 k n d L (L.length:Int) (j:Int) s f p acc=some (rtEnd s f p (acc++raised L n d m j)):=by
  intro m
  induction m with
  |zero=>
    intro j k acc hj ha hk
    obtain ⟨k,rfl⟩:=suc_of (show 0<k by omega)
    simp only [impl_RaiseTariff.l0,raised,List.append_nil]
    rw [if_neg (by omega)]
    have v:=(tv_spec ⟨s,f,p,acc⟩ hs).2.1 k (by omega)
    simp only at v
    rw [v,Option.bind_some]
    unfold rtEnd
    cases tv ⟨s,f,p,acc⟩<;>rfl
  |succ m ih=>
    intro j k acc hj ha hk
    obtain ⟨k,rfl⟩:=suc_of (show 0<k by omega)
    have hL:=hT.2.2.2.1
    have h2:=(hT.2.2.2.2 j (by omega)).1
    have b:=lev_mul hT hn (show j<L.length by omega)
    unfold lv1 at b
    simp only [impl_RaiseTariff.l0,raised]
    rw [if_pos (by omega),if_pos (by omega),if_pos (by omega),rdll_nat,if_pos (by omega),if_pos (by omega),wrap_id (x:=rd (L.getD j []) 1 * n) (by omega) (by omega),impl_div (by omega) (by omega) (by omega) (by omega),Option.bind_some,if_pos (by omega),next_nat (n:=L.length) (by omega) (by omega)]
    have e:=ih (j+1) k (acc++[[rd (L.getD j []) 0,rdiv (rd (L.getD j []) 1 * n) d]]) (by omega) (by simp [ha]) (by omega)
    rw [List.append_assoc] at e
    exact e

def am (B:Nat→Int):Nat→Nat→Nat→Nat
  |0,_,b=>b
  |d+1,j,b=>am B d (j+1) (if B j<B b then j else b)
theorem am_lt (B:Nat→Int) (n:Nat):∀ (d j b:Nat),j+d=n→b<n→am B d j b<n:=by
  intro d
  induction d with
  |zero=>intro j b _ hb;exact hb
  |succ d ih=>
    intro j b hj hb
    unfold am
    refine ih (j+1) _ (by omega) ?_
    split<;>omega
theorem sm_at (X:List S26) (hs:∀ x ∈ X,x.f0.size≤1048576) (j:Nat) (hj:j<X.length):(X.getD j z26).f0.size≤1048576:=hs _ (by rw [getD_lt hj];exact List.getElem_mem _)
theorem impl_idx (X:List S26) (hX:X.length≤1048576) (hs:∀ x ∈ X,x.f0.size≤1048576):∀ (d j k:Nat),j+d=X.length→d+1048620<k→∃ r,impl_Tariff_31_c18.l0 k X (X.length:Int) (j:Int)=some r∧((∃ i,j≤i∧i<X.length∧tv (X.getD i z26)=false)→0≤r)∧((∀ i,j≤i→i<X.length→tv (X.getD i z26)=true)→r= -1):=by
  intro d
  induction d with
  |zero=>
    intro j k hj hk
    obtain ⟨k,rfl⟩:=suc_of hk
    simp only [impl_Tariff_31_c18.l0]
    rw [if_neg (by omega)]
    exact ⟨-1,rfl,fun ⟨i,h1,h2,_⟩=>by omega,fun _=>rfl⟩
  |succ d ih=>
    intro j k hj hk
    obtain ⟨k,rfl⟩:=suc_of hk
    have e1:rd_T26 X (j:Int)=X.getD j z26:=rfl
    simp only [impl_Tariff_31_c18.l0,impl_BestTariff_1.f]
    rw [e1,if_pos (by omega),if_pos (by omega),if_pos (by omega),(tv_spec _ (sm_at X hs j (by omega))).2.1 k (by omega),Option.bind_some,Option.bind_some,next_nat (n:=X.length) (by omega) (by omega)]
    cases hv:tv (X.getD j z26) with
    |false=>
      rw [if_pos (show (!false)=true from rfl)]
      exact ⟨_,rfl,fun _=>by omega,fun h=>by have:=h j (by omega) (by omega);rw [hv] at this;cases this⟩
    |true=>
      rw [if_neg (by simp)]
      obtain ⟨r,r1,r2,r3⟩:=ih (j+1) k (by omega) (by omega)
      refine ⟨r,r1,fun ⟨i,h1,h2,h3⟩=>r2 ⟨i,?_,h2,h3⟩,fun h=>r3 (fun i h1 h2=>h i (by omega) h2)⟩
      by_cases e:i=j
      · subst e;rw [hv] at h3;cases h3
      · omega
theorem b_at (X:List S26) (h q:Int) (hX:X.length≤1048576) (hs:∀ x ∈ X,x.f0.size≤1048576) (hv:∀ i,i<X.length→tv (X.getD i z26)=true) (hh:0≤h∧h≤1000000) (hq:0≤q∧q≤10000) (j:Nat) (hj:j<X.length):(∀ k,20≤k→spec_l21Bill.f k [X.getD j z26] h q=some (tb (X.getD j z26) h q))∧(∀ k,20≤k→impl_Tariff_bill.f k (X.getD j z26).f0 (X.getD j z26).f1 (X.getD j z26).f2 (X.getD j z26).f3 h q=some (tb (X.getD j z26) h q)):=by
  have h1:=tb_spec (X.getD j z26) ((tv_spec _ (sm_at X hs j hj)).2.2 (hv j hj)) h q hh hq
  exact ⟨h1.1,h1.2.1⟩
theorem impl_best (X:List S26) (h q:Int) (hX:X.length≤1048576) (hs:∀ x ∈ X,x.f0.size≤1048576) (hv:∀ i,i<X.length→tv (X.getD i z26)=true) (hh:0≤h∧h≤1000000) (hq:0≤q∧q≤10000):∀ (d j b k:Nat),j+d=X.length→b<X.length→d+21<k→impl_BestTariff.l0 k X h q (b:Int) X (X.length:Int) (j:Int)=some (((am (fun i=>tb (X.getD i z26) h q) d j b:Nat):Int),tb (X.getD (am (fun i=>tb (X.getD i z26) h q) d j b) z26) h q,0):=by
  intro d
  induction d with
  |zero=>
    intro j b k hj hb hk
    obtain ⟨k,rfl⟩:=suc_of hk
    have e2:rd_T26 X (b:Int)=X.getD b z26:=rfl
    simp only [impl_BestTariff.l0]
    rw [e2,if_neg (by omega),if_pos (by omega),if_pos (by omega),(b_at X h q hX hs hv hh hq b hb).2 k (by omega)];rfl
  |succ d ih=>
    intro j b k hj hb hk
    obtain ⟨k,rfl⟩:=suc_of hk
    have e1:rd_T26 X (j:Int)=X.getD j z26:=rfl
    have e2:rd_T26 X (b:Int)=X.getD b z26:=rfl
    simp only [impl_BestTariff.l0]
    rw [e1,e2,if_pos (by omega),if_pos (by omega),if_pos (by omega),(b_at X h q hX hs hv hh hq j (by omega)).2 k (by omega),Option.bind_some,if_pos (by omega),if_pos (by omega),(b_at X h q hX hs hv hh hq b hb).2 k (by omega),Option.bind_some,next_nat (n:=X.length) (by omega) (by omega)]
    unfold am
    by_cases c:tb (X.getD j z26) h q<tb (X.getD b z26) h q
    · rw [if_pos c,if_pos c];exact ih (j+1) j k (by omega) (by omega) (by omega)
    · rw [if_neg c,if_neg c];exact ih (j+1) b k (by omega) (by omega) (by omega)

theorem impl_all (l:List Int) (lo hi:Int):impl_allWithin.f l lo hi=some (l.all fun x=>decide (lo≤x∧x≤hi)):=rfl

theorem r8At_v (l:List Int) (h:bytes l) (i m:Int) (hi:0≤i) (hm:1<m):∃ v,laws_r8At.f l i m=some v∧0≤v∧v<m:=by
  unfold laws_r8At.f
  rw [if_neg (by omega)]
  by_cases hl:i≥(l.length:Int)
  · rw [if_pos hl];exact ⟨0,rfl,by omega,by omega⟩
  · obtain ⟨n,rfl⟩:∃ n:Nat,i=n:=⟨i.toNat,by omega⟩
    have hb:0≤l.getD n 0∧l.getD n 0≤255:=by rw [getD_lt (by omega)];exact wf_u8 (h _ (List.getElem_mem (by omega)))
    have e1:=Int.emod_nonneg (l.getD n 0) (show m≠0 by omega)
    have e2:=Int.emod_lt_of_pos (l.getD n 0) (show 0<m by omega)
    rw [if_neg hl,if_pos (by omega),if_pos (by omega),if_neg (by omega),rd_nat,wrap_id (by omega) (by omega),Int.tmod_eq_emod_of_nonneg hb.1]
    exact ⟨_,rfl,e1,e2⟩
theorem r8Wide_v (l:List Int) (h:bytes l) (i m:Int) (hi:0≤i) (hi2:i≤1000) (hm:1<m):∃ v,laws_r8Wide.f l i m=some v∧0≤v∧v<m:=by
  obtain ⟨a,a1,a2,a3⟩:=r8At_v l h i 256 hi (by omega)
  obtain ⟨b,b1,b2,b3⟩:=r8At_v l h (i+1) 256 (by omega) (by omega)
  unfold laws_r8Wide.f
  rw [wrap_id (x:=i+1) (by omega) (by omega),a1,b1]
  simp only [Option.bind_some]
  rw [if_neg (by omega),wrap_id (x:=256 * a) (by omega) (by omega),wrap_id (x:=256 * a+b) (by omega) (by omega),Int.tmod_eq_emod_of_nonneg (by omega)]
  exact ⟨_,rfl,Int.emod_nonneg _ (by omega),Int.emod_lt_of_pos _ (by omega)⟩
theorem allFrom_of (L:List (List Int)):∀ (d j:Nat),(∀ i,j≤i→i<j+d→stepOk L i=true)→allFrom L d j=true:=by
  intro d
  induction d with
  |zero=>intro j _;rfl
  |succ d ih=>
    intro j h
    unfold allFrom
    rw [h j (by omega) (by omega),ih (j+1) (fun i h1 h2=>h i (by omega) (by omega))]
    rfl
theorem Drawn.tar {s:ByteArray} {f p:Int} {L:List (List Int)} (h:Drawn s f p L):TarOk f p L:=by
  obtain ⟨_,hf,hp,hl,hv⟩:=h
  refine ⟨⟨hf.1,by omega⟩,⟨hp.1,by omega⟩,hl.1,by omega,fun i hi=>?_⟩
  obtain ⟨g1,g2,g3,g4,g5⟩:=hv i hi
  exact ⟨g1,⟨g2.1,by omega⟩,⟨by omega,by omega⟩,g4,g5⟩
theorem Drawn.size {s:ByteArray} {f p:Int} {L:List (List Int)} (h:Drawn s f p L):s.size≤5:=by
  rcases h.name with rfl|rfl|rfl<;>decide
theorem names_ok {s:ByteArray} (h:s=⟨#[104,111,109,101]⟩∨s=⟨#[102,105,114,109]⟩∨s=⟨#[110,105,103,104,116]⟩) (k:Nat) (hk:20≤k):spec_l01Name.f k s=some true:=by
  have hs:s.size≤5:=by rcases h with rfl|rfl|rfl<;>decide
  obtain ⟨b,n1,_,_⟩:=name_both s (by omega)
  have e:spec_l01Name.f 20 s=some true:=by rcases h with rfl|rfl|rfl<;>kernel_rfl
  have e2:=n1 20 (by omega)
  rw [e] at e2
  rw [n1 k (by omega)]
  exact e2.symm
theorem Drawn.ok {s:ByteArray} {f p:Int} {L:List (List Int)} (h:Drawn s f p L):tv ⟨s,f,p,L⟩=true:=by
  have hT:=h.tar
  have hs:=h.size
  have v1:=(tv_spec ⟨s,f,p,L⟩ (by show s.size≤_;omega)).1 1048620 (Nat.le_refl _)
  have e:rd_T26 [(⟨s,f,p,L⟩:S26)] 0=⟨s,f,p,L⟩:=rfl
  obtain ⟨k,hk⟩:∃ k,1048620=k+1:=⟨1048619,rfl⟩
  have g:spec_l21Ok.f 1048620 [(⟨s,f,p,L⟩:S26)]=some true:=by
    rw [hk]
    unfold spec_l21Ok.f
    rw [if_pos (by simp)]
    simp only [e,spec_in,names_ok h.name (k+1) (by omega),Option.bind_some,if_true]
    rw [decide_eq_true hT.1,decide_eq_true hT.2.1,decide_eq_true (show 1≤(L.length:Int)∧(L.length:Int)≤6 by have:=h.len;omega)]
    simp only [if_true,Bool.not_true,spec_l21Ok.j0]
    rw [if_neg Bool.false_ne_true]
    have e2:=spec_lv_l0 s f p L hT.2.2.2.1 L.length 0 k (by omega) (by have:=h.len;omega) (fun h=>absurd h (by omega))
    rw [allFrom_of L L.length 0 (fun i _ hi=>by
      obtain ⟨g1,g2,g3,g4,g5⟩:=hT.2.2.2.2 i (by omega)
      unfold stepOk
      rw [decide_eq_true g1,decide_eq_true g2,decide_eq_true g3]
      by_cases hz:i=0
      · rw [if_pos hz,decide_eq_true (g4 hz)];rfl
      · rw [if_neg hz,decide_eq_true (g5 (by omega))];rfl)] at e2
    exact e2
  rw [g] at v1
  injection v1 with v1
  exact v1.symm
theorem bill_val (x:S26) (hs:x.f0.size≤1048576) (hv:tv x=true) (h q:Int) (hh:0≤h∧h≤1000000) (hq:0≤q∧q≤10000) (k:Nat) (hk:1048620≤k):spec_BillOf.f k x.f0 x.f1 x.f2 x.f3 h q=some (tb x h q,0):=by
  obtain ⟨v1,_,v3⟩:=tv_spec x hs
  have b:=(tb_spec x (v3 hv) h q hh hq).1 k (by omega)
  have ex:(⟨x.f0,x.f1,x.f2,x.f3⟩:S26)=x:=rfl
  unfold spec_BillOf.f spec_l21Ask.f
  rw [ex,v1 k hk,hv,spec_heat,spec_tpeak,decide_eq_true hh,decide_eq_true hq]
  simp only [Option.bind_some,if_true]
  rw [b,Option.bind_some]
theorem best_val (a b:S26) (ha:a.f0.size≤1048576) (hb:b.f0.size≤1048576) (va:tv a=true) (vb:tv b=true) (h q:Int) (hh:0≤h∧h≤1000000) (hq:0≤q∧q≤10000) (k:Nat) (hk:1048700≤k):impl_BestTariff.f k [a,b] h q=some (if tb b h q<tb a h q then (1,tb b h q,0) else (0,tb a h q,0)):=by
  have hX:([a,b]:List S26).length≤1048576:=by simp
  have hs:∀ x ∈ ([a,b]:List S26),x.f0.size≤1048576:=fun x hx=>by
    simp only [List.mem_cons,List.not_mem_nil,or_false] at hx
    rcases hx with rfl|rfl
    · exact ha
    · exact hb
  have hv:∀ i,i<([a,b]:List S26).length→tv (([a,b]:List S26).getD i z26)=true:=fun i hi=>by
    have:i=0∨i=1:=by simp at hi;omega
    rcases this with rfl|rfl
    · exact va
    · exact vb
  unfold impl_BestTariff.f impl_Tariff_17_c18.f impl_Tariff_31_c18.f
  obtain ⟨r,r1,r2,r3⟩:=impl_idx [a,b] hX hs 2 0 k (by rfl) (by omega)
  rw [show ((0:Nat):Int)=0 from rfl] at r1
  have hr:=r3 (fun i _ hi=>hv i hi)
  rw [r1,Option.bind_some,Option.bind_some,hr,decide_eq_false (show ¬ ((-1:Int)≥0) by omega),if_neg Bool.false_ne_true,impl_in,impl_in,Option.bind_some,Option.bind_some,decide_eq_true hh,decide_eq_true hq,if_pos rfl]
  obtain ⟨k,rfl⟩:=suc_of (show 0<k by omega)
  simp only [Bool.not_true,impl_BestTariff.j0]
  rw [if_neg Bool.false_ne_true,if_neg (by simp),if_neg (by simp)]
  have e:=impl_best [a,b] h q hX hs hv hh hq 2 0 0 k (by rfl) (by simp) (by omega)
  rw [show ((0:Nat):Int)=0 from rfl] at e
  rw [e]
  have e2:am (fun i=>tb (([a,b]:List S26).getD i z26) h q) 2 0 0=if tb b h q<tb a h q then 1 else 0:=by
    simp only [am,ite_self]
    rfl
  rw [e2]
  split<;>rfl
theorem year_val (x:S26) (hs:x.f0.size≤1048576) (hv:tv x=true) (H Q:List Int) (hl:H.length≤12) (hq:Q.length=H.length) (a1:(H.all fun x=>decide (0≤x∧x≤1000000))=true) (a2:(Q.all fun x=>decide (0≤x∧x≤10000))=true):∃ B:List Int,B.length=H.length∧(∀ j,j<H.length→B.getD j 0=tb x (H.getD j 0) (Q.getD j 0))∧(∀ j,j<B.length→0≤B.getD j 0∧B.getD j 0≤200000000000)∧∀ k,1048620≤k→impl_YearBill.f k x.f0 x.f1 x.f2 x.f3 H Q=some (B,isum B B.length 0 0,0):=by
  obtain ⟨v1,v2,v3⟩:=tv_spec x hs
  have hT:=v3 hv
  obtain ⟨B,hBd⟩:∃ B,B=(List.range H.length).map (fun j=>tb x (H.getD j 0) (Q.getD j 0)):=⟨_,rfl⟩
  have hB:B.length=H.length:=by rw [hBd];simp
  have hg:∀ j,j<H.length→B.getD j 0=tb x (H.getD j 0) (Q.getD j 0):=by
    intro j hj
    rw [getD_lt (by omega)]
    simp [hBd]
  have sp:∀ j,j<H.length→_:=fun j hj=>tb_spec x hT (H.getD j 0) (Q.getD j 0) (of_decide_eq_true (all_at a1 hj)) (of_decide_eq_true (all_at a2 (by omega)))
  have hb:∀ j,j<B.length→0≤B.getD j 0∧B.getD j 0≤200000000000:=fun j hj=>by rw [hg j (by omega)];exact (sp j (by omega)).2.2
  refine ⟨B,hB,hg,hb,fun k hk=>?_⟩
  unfold impl_YearBill.f
  rw [v2 k hk,hv,impl_all,impl_all,a1,a2]
  obtain ⟨k,rfl⟩:=suc_of (show 0<k by omega)
  simp only [Option.bind_some,if_true,Bool.not_true,impl_YearBill.j0]
  rw [if_neg Bool.false_ne_true,if_pos (by omega),if_neg (by omega)]
  have e3:=ybi_l0 x.f0 x.f1 x.f2 x.f3 H Q B hl hq hB hb (fun j hj k hk=>by rw [hg j hj];exact (sp j hj).2.1 k hk) H.length 0 k (by omega) (by omega)
  rw [List.take_zero] at e3
  exact e3
theorem raise_val (s:ByteArray) (f p:Int) (L:List (List Int)) (hs:s.size≤1048576) (hv:tv ⟨s,f,p,L⟩=true) (n d:Int) (hn:1≤n∧n≤1000) (hd:1≤d∧d≤1000) (k:Nat) (hk:1048700≤k):impl_RaiseTariff.f k s f p L n d=some (rtEnd s (rdiv (f * n) d) (rdiv (p * n) d) (raised L n d L.length 0)):=by
  obtain ⟨v1,v2,v3⟩:=tv_spec ⟨s,f,p,L⟩ hs
  simp only at v2 v3
  have hT:=v3 hv
  have mf:=mul_bounds (a:=f) (b:=n) (A:=1000000) (B:=1000) hT.1.1 hT.1.2 (by omega) (by omega) (by omega)
  have mp:=mul_bounds (a:=p) (b:=n) (A:=10000) (B:=1000) hT.2.1.1 hT.2.1.2 (by omega) (by omega) (by omega)
  have hl:=hT.2.2.2.1
  unfold impl_RaiseTariff.f
  rw [v2 k (by omega),hv,impl_in,impl_in,decide_eq_true hn,decide_eq_true hd]
  simp only [Option.bind_some,if_true]
  rw [wrap_id (x:=f * n) (by omega) (by omega),impl_div (by omega) (by omega) (by omega) (by omega),Option.bind_some,wrap_id (x:=p * n) (by omega) (by omega),impl_div (by omega) (by omega) (by omega) (by omega),Option.bind_some]
  exact irt_l0 L f p n d hT hn hd s hs _ _ L.length 0 k [] (by omega) rfl (by omega)

theorem dec_l1 (X:List Int) (hl:X.length≤100):∀ (d:Nat) (A:List Int),d≤X.length→A.length+d≤100→∃ w,(∀ k,d<k→spec_l01Dec.l1 k X A ((d:Int) - 1)=some w)∧w.size≤100:=by
  intro d
  induction d with
  |zero=>
    intro A _ h2
    refine ⟨strOfNums A,fun k hk=>?_,by rw [Go.strOfNums_size];omega⟩
    obtain ⟨k,rfl⟩:=suc_of hk
    simp only [spec_l01Dec.l1]
    rw [if_neg (by omega)]
  |succ d ih=>
    intro A h1 h2
    obtain ⟨w,a1,a2⟩:=ih (A++[X.getD d 0]) (by omega) (by simp;omega)
    refine ⟨w,fun k hk=>?_,a2⟩
    obtain ⟨k,rfl⟩:=suc_of (show 0<k by omega)
    simp only [spec_l01Dec.l1]
    rw [show ((d+1:Nat):Int) - 1=(d:Int) by omega,if_pos (by omega),if_pos (by omega),if_pos (by omega),if_pos (by omega),rd_nat,wrap_id (x:=(d:Int) - 1) (by omega) (by omega)]
    exact a1 k (by omega)
theorem dec_j1 (X:List Int) (hl:X.length≤100):∃ w,(∀ k,110<k→spec_l01Dec.j1 k X=some w)∧w.size≤100:=by
  obtain ⟨w,a1,a2⟩:=dec_l1 X hl X.length [] (Nat.le_refl _) (by simp;omega)
  refine ⟨w,fun k hk=>?_,a2⟩
  obtain ⟨k,rfl⟩:=suc_of (show 0<k by omega)
  simp only [spec_l01Dec.j1]
  rw [wrap_id (x:=(X.length:Int) - 1) (by omega) (by omega)]
  exact a1 k (by omega)
theorem dec_l0 (n:Int) (hn:0≤n):∀ (d:Nat) (X:List Int) (x:Int),0≤x→x<10 ^ d→x≤1000000000000→X.length+d≤100→∃ w,(∀ k,111+d<k→spec_l01Dec.l0 k n X x=some w)∧w.size≤100:=by
  intro d
  induction d with
  |zero=>
    intro X x h0 h1 _ hl
    have hx:x=0:=by rw [Int.pow_zero] at h1;omega
    obtain ⟨w,a1,a2⟩:=dec_j1 X (by omega)
    refine ⟨w,fun k hk=>?_,a2⟩
    obtain ⟨k,rfl⟩:=suc_of (show 0<k by omega)
    simp only [spec_l01Dec.l0]
    rw [if_pos hx,if_neg (by omega)]
    exact a1 k (by omega)
  |succ d ih=>
    intro X x h0 h1 h2 hl
    by_cases hx:x=0
    · obtain ⟨w,a1,a2⟩:=dec_j1 X (by omega)
      refine ⟨w,fun k hk=>?_,a2⟩
      obtain ⟨k,rfl⟩:=suc_of (show 0<k by omega)
      simp only [spec_l01Dec.l0]
      rw [if_pos hx,if_neg (by omega)]
      exact a1 k (by omega)
    · have hd:x / 10<10 ^ d:=Int.ediv_lt_of_lt_mul (by omega) (by rw [Int.pow_succ] at h1;exact h1)
      have hd0:0≤x / 10:=Int.ediv_nonneg h0 (by omega)
      have hd1:x / 10≤1000000000000:=by omega
      obtain ⟨w,a1,a2⟩:=ih (X++[(wrap64 (48+(Int.tmod x 10))) % 256]) (x / 10) hd0 hd hd1 (by simp;omega)
      refine ⟨w,fun k hk=>?_,a2⟩
      obtain ⟨k,rfl⟩:=suc_of (show 0<k by omega)
      have e1:Int.tmod x 10=x % 10:=Int.tmod_eq_emod_of_nonneg h0
      have e2:Int.tdiv x 10=x / 10:=Int.tdiv_eq_ediv_of_nonneg h0
      simp only [spec_l01Dec.l0]
      rw [if_neg hx,if_neg (by rw [e1];omega),if_pos (by omega),e2,wrap_id (x:=x / 10) (by omega) (by omega)]
      exact a1 k (by omega)
theorem dec_tot (n:Int) (h0:0≤n) (h1:n≤1000000000000):∃ w,(∀ k,200≤k→spec_l01Dec.f k n=some w)∧w.size≤100:=by
  by_cases hz:n=0
  · exact ⟨⟨#[48]⟩,fun k _=>by unfold spec_l01Dec.f;rw [if_pos hz],by decide⟩
  · have e:(10:Int) ^ 13=10000000000000:=by decide
    obtain ⟨w,a1,a2⟩:=dec_l0 n h0 13 [] n h0 (by rw [e];omega) h1 (by simp)
    exact ⟨w,fun k hk=>by unfold spec_l01Dec.f;rw [if_neg hz];exact a1 k (by omega),a2⟩
theorem sz32:(⟨#[32]⟩:ByteArray).size=1:=rfl
theorem sz58:(⟨#[58]⟩:ByteArray).size=1:=rfl
theorem sz43:(⟨#[43]⟩:ByteArray).size=1:=rfl
theorem text_l0 (x:S26) (hT:TarOk x.f1 x.f2 x.f3):∀ (d j:Nat) (w:ByteArray),j+d=x.f3.length→w.size≤1000+300 * j→∃ r,∀ k,300+d<k→spec_l21Text.l0 k [x] w (j:Int)=some r:=by
  have e:rd_T26 [x] 0=x:=rfl
  have hl:=hT.2.2.2.1
  intro d
  induction d with
  |zero=>
    intro j w hj hw
    refine ⟨w,fun k hk=>?_⟩
    obtain ⟨k,rfl⟩:=suc_of (show 0<k by omega)
    simp only [spec_l21Text.l0,e]
    rw [if_pos (by simp),if_neg (by omega)]
  |succ d ih=>
    intro j w hj hw
    obtain ⟨g1,g2,g3,_⟩:=hT.2.2.2.2 j (by omega)
    unfold lv0 at g2
    unfold lv1 at g3
    obtain ⟨a,a1,a2⟩:=dec_tot (rd (x.f3.getD j []) 0) g2.1 (by omega)
    obtain ⟨b,b1,b2⟩:=dec_tot (rd (x.f3.getD j []) 1) g3.1 (by omega)
    obtain ⟨r,r1⟩:=ih (j+1) (w++((((⟨#[32]⟩:ByteArray)++a)++(⟨#[58]⟩:ByteArray))++b)) (by omega) (by simp only [ByteArray.size_append,sz32,sz58];omega)
    refine ⟨r,fun k hk=>?_⟩
    obtain ⟨k,rfl⟩:=suc_of (show 0<k by omega)
    simp only [spec_l21Text.l0,e]
    rw [if_pos (by simp),if_pos (by omega),if_pos (by omega),rdll_nat,if_pos (by omega),a1 k (by omega),Option.bind_some,if_pos (by omega),if_pos (by simp only [ByteArray.size_append,sz32];omega),if_pos (by omega),b1 k (by omega),Option.bind_some,if_pos (by simp only [ByteArray.size_append,sz32,sz58];omega),if_pos (by simp only [ByteArray.size_append,sz32,sz58];omega),next_nat (n:=x.f3.length) (by omega) (by omega)]
    exact r1 k (by omega)
theorem text_tot (x:S26) (hs:x.f0.size≤5) (hv:tv x=true):∃ r,∀ k,1048620≤k→spec_TariffText.f k x.f0 x.f1 x.f2 x.f3=some r:=by
  obtain ⟨v1,_,v3⟩:=tv_spec x (by omega)
  have hT:=v3 hv
  have e:rd_T26 [x] 0=x:=rfl
  have ex:(⟨x.f0,x.f1,x.f2,x.f3⟩:S26)=x:=rfl
  obtain ⟨a,a1,a2⟩:=dec_tot x.f1 hT.1.1 (by have:=hT.1.2;omega)
  obtain ⟨b,b1,b2⟩:=dec_tot x.f2 hT.2.1.1 (by have:=hT.2.1.2;omega)
  obtain ⟨r,r1⟩:=text_l0 x hT x.f3.length 0 ((((((x.f0)++(⟨#[32]⟩:ByteArray))++a)++(⟨#[43]⟩:ByteArray))++b)) (by omega) (by simp only [ByteArray.size_append,sz32,sz43];omega)
  have hl:=hT.2.2.2.1
  refine ⟨r,fun k hk=>?_⟩
  unfold spec_TariffText.f spec_l21Text.f
  rw [ex,v1 k hk,hv,Option.bind_some,if_pos rfl]
  simp only [e]
  rw [if_pos (by simp),if_pos (by omega),a1 k (by omega),Option.bind_some,if_pos (by simp only [ByteArray.size_append,sz32];omega),if_pos (by simp only [ByteArray.size_append,sz32];omega),b1 k (by omega),Option.bind_some,if_pos (by simp only [ByteArray.size_append,sz32,sz43];omega)]
  rw [show ((0:Nat):Int)=0 from rfl] at r1
  rw [r1 k (by omega),Option.bind_some]
def upTo (L:List (List Int)) (h:Int) (j:Nat):Int:=if j+1<L.length then (if h<lv0 L (j+1) then h else lv0 L (j+1)) else h
def cst (L:List (List Int)) (h:Int):Nat→Nat→Int→Int
  |0,_,u=>u
  |d+1,j,u=>cst L h d (j+1) (u+tm (upTo L h j) (lv0 L j) (lv1 L j))
theorem cost_val (s:ByteArray) (f p:Int) (L:List (List Int)) (hT:TarOk f p L) (h:Int) (hh0:0≤h) (hh1:h≤1000000):∀ (d j:Nat) (u:Int),j+d=L.length→0≤u→u≤(j:Int) * 10000000000→
    (∀ k,d<k→spec_l21Cost.l0 k [(⟨s,f,p,L⟩:S26)] h u (j:Int)=some (cst L h d j u))∧0≤cst L h d j u∧cst L h d j u≤60000000000:=by
  have e:rd_T26 [(⟨s,f,p,L⟩:S26)] 0=⟨s,f,p,L⟩:=rfl
  have ht:(0:Int)<(([(⟨s,f,p,L⟩:S26)]).length:Int):=by simp
  obtain ⟨_,_,hl1,hl6,hall⟩:=hT
  intro d
  induction d with
  |zero=>
    intro j u hj hu hu1
    have hj1:¬ (j:Int)<(L.length:Int):=by omega
    refine ⟨fun k hk=>?_,hu,by show u≤_;omega⟩
    obtain ⟨k,rfl⟩:=suc_of (show 0<k by omega)
    simp only [spec_l21Cost.l0,e,ht,hj1,if_true,if_false]
    rfl
  |succ d ih=>
    intro j u hj hu hu1
    have hjl:j<L.length:=by omega
    have hn:=next_nat (j:=j) (n:=L.length) hjl (by omega)
    have hj0:(0:Int)≤(j:Int):=by omega
    have hj1:(j:Int)<(L.length:Int):=by omega
    have hj3:(0:Int)≤((j+1:Nat):Int):=by omega
    have hu6:u≤60000000000:=by omega
    have hjd:j+1+d=L.length:=by omega
    have g1:=(hall j hjl).1
    have hz0:(0:Int)<((L.getD j []).length:Int):=by omega
    have hz1:(1:Int)<((L.getD j []).length:Int):=by omega
    have g2:=(hall j hjl).2.1
    have g3:=(hall j hjl).2.2.1
    by_cases hlast:j+1<L.length
    · have n1:=(hall (j+1) hlast).1
      have hj2:((j+1:Nat):Int)<(L.length:Int):=by omega
      have hz2:(0:Int)<((L.getD (j+1) []).length:Int):=by omega
      have n2:=(hall (j+1) hlast).2.1
      have y0:0≤(if h<lv0 L (j+1) then h else lv0 L (j+1)):=by split<;>omega
      have y1:(if h<lv0 L (j+1) then h else lv0 L (j+1))≤1000000:=by split<;>omega
      have tb:=tm_b y0 y1 g2.1 g3.1 g3.2
      have st:=cost_step y0 y1 g2.1 g2.2 g3.1 g3.2 hu hu6
      have hup:upTo L h j=(if h<lv0 L (j+1) then h else lv0 L (j+1)):=by unfold upTo;rw [if_pos hlast]
      obtain ⟨c1,c3⟩:=ih (j+1) (u+tm (if h<lv0 L (j+1) then h else lv0 L (j+1)) (lv0 L j) (lv1 L j)) hjd (by omega) (by omega)
      unfold cst
      rw [hup]
      refine ⟨fun k hk=>?_,c3⟩
      obtain ⟨k,rfl⟩:=suc_of (show 0<k by omega)
      have st':wrap64 (u+wrap64 ((if 0 > wrap64 ((if h<rd (L.getD (j+1) []) 0 then h else rd (L.getD (j+1) []) 0) - rd (L.getD j []) 0) then 0 else wrap64 ((if h<rd (L.getD (j+1) []) 0 then h else rd (L.getD (j+1) []) 0) - rd (L.getD j []) 0)) * rd (L.getD j []) 1))=u+tm (if h<lv0 L (j+1) then h else lv0 L (j+1)) (lv0 L j) (lv1 L j):=st
      simp only [spec_l21Cost.l0,e,ht,hn,smin,smax,Option.bind_some,rdll_nat,hj0,hj1,hj2,hj3,hz0,hz1,hz2,if_true,st']
      exact c1 k (by omega)
    · have hj2:¬ ((j+1:Nat):Int)<(L.length:Int):=by omega
      have tb:=tm_b (e:=h) (x0:=lv0 L j) (x1:=lv1 L j) hh0 hh1 g2.1 g3.1 g3.2
      have st:=cost_step (y:=h) hh0 hh1 g2.1 g2.2 g3.1 g3.2 hu hu6
      have hup:upTo L h j=h:=by unfold upTo;rw [if_neg hlast]
      obtain ⟨c1,c3⟩:=ih (j+1) (u+tm h (lv0 L j) (lv1 L j)) hjd (by omega) (by omega)
      unfold cst
      rw [hup]
      refine ⟨fun k hk=>?_,c3⟩
      obtain ⟨k,rfl⟩:=suc_of (show 0<k by omega)
      have st':wrap64 (u+wrap64 ((if 0 > wrap64 (h - rd (L.getD j []) 0) then 0 else wrap64 (h - rd (L.getD j []) 0)) * rd (L.getD j []) 1))=u+tm h (lv0 L j) (lv1 L j):=st
      simp only [spec_l21Cost.l0,e,ht,hn,smax,Option.bind_some,rdll_nat,hj0,hj1,hj2,hj3,hz0,hz1,if_true,if_false,st']
      exact c1 k (by omega)
theorem tb_val (x:S26) (hT:TarOk x.f1 x.f2 x.f3) (h q:Int) (hh:0≤h∧h≤1000000) (hq:0≤q∧q≤10000):tb x h q=x.f1+x.f2 * q+rdiv (cst x.f3 h x.f3.length 0 0) 100∧0≤cst x.f3 h x.f3.length 0 0:=by
  obtain ⟨c1,c2,c3⟩:=cost_val x.f0 x.f1 x.f2 x.f3 hT h hh.1 hh.2 x.f3.length 0 0 (by omega) (by omega) (by omega)
  have hl:=hT.2.2.2.1
  have hc:spec_l21Cost.f 20 [(⟨x.f0,x.f1,x.f2,x.f3⟩:S26)] h=some (cst x.f3 h x.f3.length 0 0):=c1 20 (by omega)
  have b:=spec_tbill x.f0 x.f1 x.f2 x.f3 20 h q _ hT.1 hT.2.1 hq hc c2 c3
  have b2:=(tb_spec x hT h q hh hq).1 20 (Nat.le_refl _)
  have ex:(⟨x.f0,x.f1,x.f2,x.f3⟩:S26)=x:=rfl
  rw [ex,b2] at b
  injection b with b
  exact ⟨b,c2⟩
theorem cst_mono (L M:List (List Int)) (h:Int) (hl:M.length=L.length) (hi:∀ i,i<L.length→lv0 M i=lv0 L i∧lv1 L i≤lv1 M i):∀ (d j:Nat) (u v:Int),j+d=L.length→u≤v→cst L h d j u≤cst M h d j v:=by
  intro d
  induction d with
  |zero=>intro j u v _ h;exact h
  |succ d ih=>
    intro j u v hj huv
    unfold cst
    have e1:=hi j (by omega)
    have eu:upTo M h j=upTo L h j:=by
      unfold upTo
      rw [hl]
      by_cases c:j+1<L.length
      · rw [if_pos c,if_pos c,(hi (j+1) c).1]
      · rw [if_neg c,if_neg c]
    refine ih (j+1) _ _ (by omega) ?_
    rw [eu,e1.1]
    unfold tm
    have g:0≤(if 0 > upTo L h j - lv0 L j then (0:Int) else upTo L h j - lv0 L j):=by split<;>omega
    have:=Int.mul_le_mul_of_nonneg_left e1.2 g
    omega
theorem raised_at (L:List (List Int)) (n d:Int):∀ (m j i:Nat),i<m→(raised L n d m j).getD i []=[lv0 L (j+i),rdiv (lv1 L (j+i) * n) d]:=by
  intro m
  induction m with
  |zero=>intro j i h;omega
  |succ m ih=>
    intro j i h
    cases i with
    |zero=>rfl
    |succ i=>
      have e:=ih (j+1) i (by omega)
      rw [show j+1+i=j+(i+1) by omega] at e
      exact e
theorem two_eq {x:List Int} (h:x.length=2):[rd x 0,rd x 1]=x:=by
  match x,h with
  |[a,b],_=>rfl
theorem rdiv7 {x:Int} (h:0≤x):rdiv (x * 7) 7=x:=by unfold rdiv;rw [if_neg (by omega)];omega
theorem rdiv32 {x:Int} (h:0≤x):x≤rdiv (x * 3) 2:=by unfold rdiv;rw [if_neg (by omega)];omega
theorem rdiv_up {a b c:Int} (h0:0≤a) (h:a≤b) (hc:0<c):rdiv a c≤rdiv b c:=by
  unfold rdiv
  rw [if_neg (by omega),if_neg (by omega)]
  exact Int.ediv_le_ediv (by omega) (by omega)
theorem raised_same {f p:Int} {L:List (List Int)} (hT:TarOk f p L):raised L 7 7 L.length 0=L:=by
  apply List.ext_getElem?
  intro i
  by_cases h:i<L.length
  · obtain ⟨g1,_,g3,_⟩:=hT.2.2.2.2 i h
    have e:=raised_at L 7 7 L.length 0 i h
    rw [Nat.zero_add,rdiv7 g3.1] at e
    have e2:[lv0 L i,lv1 L i]=L.getD i []:=two_eq g1
    rw [e2] at e
    rw [List.getD_eq_getElem?_getD,List.getD_eq_getElem?_getD,List.getElem?_eq_getElem h,List.getElem?_eq_getElem (by rw [raised_len];exact h)] at e
    rw [List.getElem?_eq_getElem h,List.getElem?_eq_getElem (by rw [raised_len];exact h)]
    exact congrArg some e
  · rw [List.getElem?_eq_none (by rw [raised_len];omega),List.getElem?_eq_none (by omega)]
theorem dear_more {s:ByteArray} {f p:Int} {L:List (List Int)} (hT:TarOk f p L) (hT':TarOk (rdiv (f * 3) 2) (rdiv (p * 3) 2) (raised L 3 2 L.length 0)) (h q:Int) (hh:0≤h∧h≤1000000) (hq:0≤q∧q≤10000):tb ⟨s,f,p,L⟩ h q≤tb ⟨s,rdiv (f * 3) 2,rdiv (p * 3) 2,raised L 3 2 L.length 0⟩ h q:=by
  obtain ⟨e1,c1⟩:=tb_val ⟨s,f,p,L⟩ hT h q hh hq
  obtain ⟨e2,_⟩:=tb_val ⟨s,rdiv (f * 3) 2,rdiv (p * 3) 2,raised L 3 2 L.length 0⟩ hT' h q hh hq
  simp only at e1 e2 c1
  rw [e1,e2,raised_len]
  have m:=cst_mono L (raised L 3 2 L.length 0) h (raised_len _ _ _ _ _) (fun i hi=>by
    have g3:=(hT.2.2.2.2 i hi).2.2.1
    have e:=raised_at L 3 2 L.length 0 i hi
    rw [Nat.zero_add] at e
    have r:=rdiv32 g3.1
    unfold lv0 lv1
    rw [e]
    exact ⟨rfl,r⟩) L.length 0 0 0 (by omega) (by omega)
  have r:=rdiv_up (c:=100) c1 m (by omega)
  have f1:=rdiv32 hT.1.1
  have p1:=rdiv32 hT.2.1.1
  have pq:=Int.mul_le_mul_of_nonneg_right p1 hq.1
  omega

theorem isum_add (B:List Int):∀ (d j:Nat) (u:Int),isum B d j u=u+isum B d j 0:=by
  intro d
  induction d with
  |zero=>intro j u;show u=u+0;omega
  |succ d ih=>
    intro j u
    unfold isum
    rw [ih (j+1) (u+B.getD j 0),ih (j+1) (0+B.getD j 0)]
    omega
theorem isum_b (B:List Int) (hb:∀ j,j<B.length→0≤B.getD j 0∧B.getD j 0≤200000000000):∀ (d j:Nat),j+d=B.length→0≤isum B d j 0∧isum B d j 0≤(d:Int) * 200000000000:=by
  intro d
  induction d with
  |zero=>intro j _;exact ⟨Int.le_refl _,by show (0:Int)≤_;omega⟩
  |succ d ih=>
    intro j hj
    unfold isum
    rw [isum_add]
    have b:=hb j (by omega)
    have h:=ih (j+1) (by omega)
    omega
/-- What stands fixed in the last part. -/
structure Fix (s:ByteArray) (f p:Int) (L:List (List Int)) (h q:Int):Prop where
  size:s.size≤5
  ok:tv ⟨s,f,p,L⟩=true
  tar:TarOk f p L
  hh:0≤h∧h≤1000000
  hq:0≤q∧q≤10000
theorem dear_end {s:ByteArray} {f p:Int} {L:List (List Int)} {h q:Int} (F:Fix s f p L h q) (k:Nat) (hk:1048620≤k) (r:RT) (hr:r=rtEnd s (rdiv (f * 3) 2) (rdiv (p * 3) 2) (raised L 3 2 L.length 0)):laws_FnBills.j10 (k+1+1+1) h q (tb ⟨s,f,p,L⟩ h q) r.2.2.2.2 false r.1 r.2.1 r.2.2.1 r.2.2.2.1=some true:=by
  have hs:=F.size
  rw [laws_FnBills.j10.eq_def]
  simp only
  rw [if_neg Bool.false_ne_true,laws_FnBills.j11.eq_def]
  simp only
  by_cases c:tv ⟨s,rdiv (f * 3) 2,rdiv (p * 3) 2,raised L 3 2 L.length 0⟩=true
  · have e:r=(s,rdiv (f * 3) 2,rdiv (p * 3) 2,raised L 3 2 L.length 0,0):=by rw [hr];unfold rtEnd;rw [if_pos c]
    rw [e]
    simp only
    rw [if_pos trivial,laws_FnBills.j12.eq_def]
    simp only
    have hT':=(tv_spec ⟨s,rdiv (f * 3) 2,rdiv (p * 3) 2,raised L 3 2 L.length 0⟩ (by show s.size≤_;omega)).2.2 c
    have b:=bill_val ⟨s,rdiv (f * 3) 2,rdiv (p * 3) 2,raised L 3 2 L.length 0⟩ (by show s.size≤_;omega) c h q F.hh F.hq k hk
    simp only at b
    rw [b,Option.bind_some]
    simp only
    rw [if_pos trivial]
    have m:=dear_more (s:=s) F.tar hT' h q F.hh F.hq
    rw [decide_eq_true m]
  · have e:r=(⟨#[]⟩,0,0,[],6):=by rw [hr];unfold rtEnd;rw [if_neg c]
    rw [e]
    simp only
    rw [if_neg (by omega)]
    rfl
theorem tax_near {b:Int} (h0:0≤b):¬ mx (1000 * rdiv (b * 190) 1000 - 190 * b) (-(1000 * rdiv (b * 190) 1000 - 190 * b)) > 500:=by
  have hr:rdiv (b * 190) 1000=(2 * (b * 190)+1000) / 2000:=by unfold rdiv;rw [if_neg (by omega)];rfl
  have hb:2000 * rdiv (b * 190) 1000≤380 * b+1000∧380 * b+1000<2000 * rdiv (b * 190) 1000+2000:=by rw [hr];omega
  generalize rdiv (b * 190) 1000=t at hb
  unfold mx
  split<;>omega
theorem sums {s:ByteArray} {f p:Int} {L:List (List Int)} {h q:Int} (F:Fix s f p L h q) (b:Int) (hb0:0≤b) (hb1:b≤200000000000) (H Q B:List Int) (hl:H.length≤12) (hQ:Q.length=H.length) (hB:B.length=H.length)
    (hg:∀ j,j<H.length→B.getD j 0=tb ⟨s,f,p,L⟩ (H.getD j 0) (Q.getD j 0)) (hb:∀ j,j<B.length→0≤B.getD j 0∧B.getD j 0≤200000000000) (a1:(H.all fun x=>decide (0≤x∧x≤1000000))=true) (a2:(Q.all fun x=>decide (0≤x∧x≤10000))=true):
    ∀ (d j k:Nat),j+d=H.length→1048800+3 * d≤k→laws_FnBills.l1 k h q b (tb ⟨s,f,p,L⟩ h q) H Q B (isum B d j 0) (j:Int) s f p L=some true:=by
  have hs:=F.size
  intro d
  induction d with
  |zero=>
    intro j k hj hk
    obtain ⟨k,rfl⟩:∃ m,k=m+1+1+1+1:=⟨k - 4,by omega⟩
    rw [laws_FnBills.l1.eq_def]
    simp only
    rw [if_neg (by omega)]
    have t1:impl_TaxOf.f b 190=some (rdiv (b * 190) 1000,wrap64 (b+rdiv (b * 190) 1000),0):=by
      unfold impl_TaxOf.f
      rw [impl_in,decide_eq_true (show 0≤b∧b≤1000000000000 by omega),Option.bind_some,if_pos rfl,impl_in,decide_eq_true (show (0:Int)≤190∧(190:Int)≤1000 by omega),Option.bind_some,if_pos rfl,wrap_id (x:=b * 190) (by omega) (by omega),impl_div (by omega) (by omega) (by omega) (by omega)]
      rfl
    have r7:=raise_val s f p L (by omega) F.ok 7 7 (by omega) (by omega) (k+1+1+1) (by omega)
    rw [rdiv7 F.tar.1.1,rdiv7 F.tar.2.1.1,raised_same F.tar] at r7
    have e7:rtEnd s f p L=(s,f,p,L,0):=by unfold rtEnd;rw [if_pos F.ok]
    rw [e7] at r7
    have r3:=raise_val s f p L (by omega) F.ok 3 2 (by omega) (by omega) (k+1+1+1) (by omega)
    obtain ⟨r,hr⟩:∃ r,r=rtEnd s (rdiv (f * 3) 2) (rdiv (p * 3) 2) (raised L 3 2 L.length 0):=⟨_,rfl⟩
    rw [← hr] at r3
    rw [t1,Option.bind_some,r7,Option.bind_some,r3,Option.bind_some]
    simp only
    have rd0:=rdiv_nonneg (a:=b * 190) (b:=1000) (by omega) (by omega)
    have rd1:=rdiv_le (a:=b * 190) (b:=1000) (by omega) (by omega)
    have tn:=tax_near hb0
    obtain ⟨w,hw⟩:=text_tot ⟨s,f,p,L⟩ hs F.ok
    replace hw:spec_TariffText.f (k+3) s f p L=some w:=hw (k+3) (by omega)
    rw [show isum B 0 j 0=0 from rfl,if_pos trivial,if_pos trivial,if_pos trivial,wrap_id (x:=1000 * rdiv (b * 190) 1000) (by omega) (by omega),wrap_id (x:=190 * b) (by omega) (by omega),wrap_id (x:=1000 * rdiv (b * 190) 1000 - 190 * b) (by omega) (by omega)]
    unfold laws_r8Abs.f
    rw [wrap_id (x:= -(1000 * rdiv (b * 190) 1000 - 190 * b)) (by omega) (by omega),Option.bind_some,if_neg tn,if_pos rfl,hw,Option.bind_some,Option.bind_some]
    have ew:(w.toList !=w.toList)=false:=by simp
    rw [ew]
    exact dear_end F k (by omega) r hr
  |succ d ih=>
    intro j k hj hk
    obtain ⟨k,rfl⟩:∃ m,k=m+1+1+1:=⟨k - 3,by omega⟩
    have ih:=ih (j+1) k (by omega) (by omega)
    have b1:=hb j (by omega)
    have b2:=isum_b B hb d (j+1) (by omega)
    have v:=bill_val ⟨s,f,p,L⟩ (by show s.size≤_;omega) F.ok (H.getD j 0) (Q.getD j 0) (of_decide_eq_true (all_at a1 (by omega))) (of_decide_eq_true (all_at a2 (by omega))) (k+1) (by omega)
    simp only at v
    rw [← hg j (by omega)] at v
    rw [laws_FnBills.l1.eq_def]
    simp only
    rw [if_pos (by omega),laws_FnBills.j8.eq_def]
    simp only
    rw [if_pos (by omega),if_pos (by omega),if_pos (by omega),rd_nat,rd_nat,v,Option.bind_some]
    simp only
    rw [if_pos trivial,if_pos (by omega),rd_nat]
    have eb:(B.getD j 0 !=B.getD j 0)=false:=by simp
    rw [eb,laws_FnBills.j9.eq_def]
    simp only
    rw [if_neg Bool.false_ne_true,next_nat (n:=H.length) (by omega) (by omega)]
    have e:isum B (d+1) j 0=B.getD j 0+isum B d (j+1) 0:=by
      show isum B d (j+1) (0+B.getD j 0)=_
      rw [isum_add];omega
    rw [e,show B.getD j 0+isum B d (j+1) 0 - B.getD j 0=isum B d (j+1) 0 by omega,wrap_id (x:=isum B d (j+1) 0) (by omega) (by omega)]
    exact ih
theorem all_snoc {P:Int→Bool} {l:List Int} {x:Int} (h:l.all P=true) (hx:P x=true):(l++[x]).all P=true:=by
  rw [List.all_append,h];simp [hx]
theorem months (C:List Int) (hC:bytes C) {s:ByteArray} {f p:Int} {L:List (List Int)} {h q:Int} (F:Fix s f p L h q) (b:Int) (hb0:0≤b) (hb1:b≤200000000000) (n:Int) (hn:laws_r8At.f C 0 12=some n) (hn2:n≤12):
    ∀ (d j k:Nat) (H Q:List Int),(j:Int)+d=n→H.length=j→Q.length=j→(H.all fun x=>decide (0≤x∧x≤1000000))=true→(Q.all fun x=>decide (0≤x∧x≤10000))=true→1048900+3 * d≤k→laws_FnBills.l0 k C h q b (tb ⟨s,f,p,L⟩ h q) H Q (j:Int) s f p L=some true:=by
  have hs:=F.size
  intro d
  induction d with
  |zero=>
    intro j k H Q hj hH hQ a1 a2 hk
    obtain ⟨k,rfl⟩:∃ m,k=m+1+1+1:=⟨k - 3,by omega⟩
    rw [laws_FnBills.l0.eq_def]
    simp only
    rw [hn,Option.bind_some,if_neg (by omega)]
    obtain ⟨B,hB,hg,hb,hy⟩:=year_val ⟨s,f,p,L⟩ (by show s.size≤_;omega) F.ok H Q (by omega) (by omega) a1 a2
    have y:=hy (k+1+1) (by omega)
    simp only at y
    rw [y,Option.bind_some]
    simp only
    have eb:((B.length:Int)!=(H.length:Int))=false:=by rw [hB];simp
    rw [if_pos trivial,eb,laws_FnBills.j5.eq_def]
    simp only
    rw [if_neg Bool.false_ne_true,laws_FnBills.j6.eq_def]
    simp only
    have e:=sums F b hb0 hb1 H Q B (by omega) (by omega) hB hg hb a1 a2 B.length 0 k (by omega) (by omega)
    exact e
  |succ d ih=>
    intro j k H Q hj hH hQ a1 a2 hk
    obtain ⟨k,rfl⟩:∃ m,k=m+1+1:=⟨k - 2,by omega⟩
    obtain ⟨x,x1,x2,x3⟩:=r8Wide_v C hC (1+2 * (j:Int)) 3000 (by omega) (by omega) (by omega)
    obtain ⟨y,y1,y2,y3⟩:=r8At_v C hC (2+(j:Int)) 50 (by omega) (by omega)
    rw [laws_FnBills.l0.eq_def]
    simp only
    rw [hn,Option.bind_some,if_pos (by omega),laws_FnBills.j4.eq_def]
    simp only
    rw [wrap_id (x:=2 * (j:Int)) (by omega) (by omega),wrap_id (x:=1+2 * (j:Int)) (by omega) (by omega),x1,Option.bind_some,if_pos (by omega),wrap_id (x:=2+(j:Int)) (by omega) (by omega),y1,Option.bind_some,if_pos (by omega),next_nat (n:=13) (by omega) (by omega)]
    exact ih (j+1) k (H++[x]) (Q++[y]) (by omega) (by simp [hH]) (by simp [hQ]) (all_snoc a1 (decide_eq_true (by omega))) (all_snoc a2 (decide_eq_true (by omega))) (by omega)
theorem FnBills:laws_FnBills.Pure:=by
  intro C M _ _ hC _ _ hM
  obtain ⟨n,hn⟩:∃ n,n=1100000:=⟨_,rfl⟩
  refine ⟨n+1+1+1+1,?_⟩
  unfold laws_FnBills.f
  have lb:∃ z,laws_r8Long.f C M=some z:=by
    unfold laws_r8Long.f
    split
    · exact ⟨_,rfl⟩
    · exact ⟨_,rfl⟩
  obtain ⟨z,hz⟩:=lb
  rw [hz,Option.bind_some]
  cases z
  case true=>rw [if_pos rfl]
  rw [if_neg Bool.false_ne_true,laws_FnBills.j0.eq_def]
  simp only
  obtain ⟨s,f,p,L,d1,D1⟩:=draw_tar C hC
  obtain ⟨s2,f2,p2,L2,d2,D2⟩:=draw_tar M hM
  obtain ⟨h,h1,h2,h3⟩:=r8Wide_v M hM 0 4000 (by omega) (by omega) (by omega)
  obtain ⟨q,q1,q2,q3⟩:=r8At_v M hM 2 60 (by omega) (by omega)
  have z1:=D1.size
  have z2:=D2.size
  have hh:0≤h∧h≤1000000:=by omega
  have hq:0≤q∧q≤10000:=by omega
  have F:Fix s f p L h q:=⟨z1,D1.ok,D1.tar,hh,hq⟩
  have tb1:=(tb_spec ⟨s,f,p,L⟩ D1.tar h q hh hq).2.2
  have tb2:=(tb_spec ⟨s2,f2,p2,L2⟩ D2.tar h q hh hq).2.2
  have bv:=best_val ⟨s,f,p,L⟩ ⟨s2,f2,p2,L2⟩ (by show s.size≤_;omega) (by show s2.size≤_;omega) D1.ok D2.ok h q hh hq (n+1+1+1) (by omega)
  have e1:=bill_val ⟨s,f,p,L⟩ (by show s.size≤_;omega) D1.ok h q hh hq (n+1+1+1) (by omega)
  have e2:=bill_val ⟨s2,f2,p2,L2⟩ (by show s2.size≤_;omega) D2.ok h q hh hq (n+1+1+1) (by omega)
  simp only at e1 e2
  rw [d1 _ (by omega),Option.bind_some,d2 _ (by omega),Option.bind_some,h1,Option.bind_some,q1,Option.bind_some]
  simp only
  rw [bv,Option.bind_some,e1,Option.bind_some,e2,Option.bind_some]
  obtain ⟨mn12,m1,m2,m3⟩:=r8At_v C hC 0 12 (by omega) (by omega)
  obtain ⟨dm,hdm⟩:∃ dm:Nat,mn12=(dm:Int):=⟨mn12.toNat,by omega⟩
  have go:∀ b,0≤b→b≤200000000000→laws_FnBills.j1 (n+1+1+1) C h q b (tb ⟨s,f,p,L⟩ h q) false s f p L=some true:=by
    intro b b0 b1
    rw [laws_FnBills.j1.eq_def]
    simp only
    rw [if_neg Bool.false_ne_true,laws_FnBills.j2.eq_def]
    simp only
    exact months C hC F b b0 b1 mn12 m1 (by omega) dm 0 (n+1) [] [] (by omega) rfl rfl rfl rfl (by omega)
  by_cases c:tb ⟨s2,f2,p2,L2⟩ h q<tb ⟨s,f,p,L⟩ h q
  · rw [if_pos c]
    simp only
    have em:tb ⟨s2,f2,p2,L2⟩ h q=mn (tb ⟨s,f,p,L⟩ h q) (tb ⟨s2,f2,p2,L2⟩ h q):=by unfold mn;rw [if_pos c]
    have ed:(((1:Int)==1)!=decide (tb ⟨s2,f2,p2,L2⟩ h q<tb ⟨s,f,p,L⟩ h q))=false:=by rw [decide_eq_true c];rfl
    rw [if_pos trivial,if_pos trivial,if_pos trivial,if_pos em,if_neg (by omega),if_pos trivial,ed]
    exact go _ tb2.1 tb2.2
  · rw [if_neg c]
    simp only
    have em:tb ⟨s,f,p,L⟩ h q=mn (tb ⟨s,f,p,L⟩ h q) (tb ⟨s2,f2,p2,L2⟩ h q):=by unfold mn;rw [if_neg c]
    have ed:(((0:Int)==1)!=decide (tb ⟨s2,f2,p2,L2⟩ h q<tb ⟨s,f,p,L⟩ h q))=false:=by rw [decide_eq_false c];rfl
    rw [if_pos trivial,if_pos trivial,if_pos trivial,if_pos em,if_pos trivial,ed]
    exact go _ tb1.1 tb1.2

end Go.Proofs.Ytoagcfpbdcoefaa.Pure
