/- RaiseTariff of the program returns what the reference's returns, for every tariff and fraction, changes no tariff, and its rows are its own. No condition. -/
import Derived.Test.YtfffhokkhgbibaaPFnExactRaiseTariffx10
namespace Go.Proofs.Ytfffhokkhgbibaa.Pure
open Go.RowKit Go.Proofs.Ytfffhokkhgbibaa.PFnExactRaiseTariff Go.Proofs.YtfffhokkhgbibaaW.PrintWords Go.Proofs.YtfffhokkhgbibaaW.PrintLast Go.Proofs.YtfffhokkhgbibaaW.PrintMore
set_option linter.unusedVariables false
set_option linter.unusedSimpArgs false

theorem wrap_id {x:Int} (h1:-9223372036854775808≤x) (h2:x≤9223372036854775807):wrap64 x=x:=by unfold wrap64;omega
theorem wf_i64 {x:Int} (h:(Lit.int .i64 x).wf=true):-9223372036854775808≤x∧x≤9223372036854775807:=by
  simp [Lit.wf,IntKind.min,IntKind.max,IntKind.bits,IntKind.signed] at h;omega
theorem mul_bounds {a b A B:Int} (h0:0≤a) (hA:a≤A) (h1:-B≤b) (h2:b≤B) (hB:0≤B):-(A * B)≤a * b∧a * b≤A * B:=by
  have e1:=Int.mul_le_mul_of_nonneg_left h2 h0
  have e2:=Int.mul_le_mul_of_nonneg_right hA hB
  have e3:=Int.mul_le_mul_of_nonneg_left h1 h0
  have e4:a * -B= -(a * B):=Int.mul_neg a B
  omega
theorem mul_nonneg' {a b:Int} (h0:0≤a) (h1:0≤b):0≤a * b:=Int.mul_nonneg h0 h1
theorem next_nat {j n:Nat} (h:j<n) (hn:n≤4611686018427387904):wrap64 ((j:Int)+1)=((j+1:Nat):Int):=by
  rw [wrap_id (by omega) (by omega)];omega
theorem rd_nat (l:List Int) (j:Nat):rd l (j:Int)=l.getD j 0:=by unfold rd;simp
theorem ifp {α:Type} {c:Prop} [Decidable c] {a b:α} (h:c):(if c then a else b)=a:=if_pos h
theorem ifn {α:Type} {c:Prop} [Decidable c] {a b:α} (h:¬ c):(if c then a else b)=b:=if_neg h
theorem suc_of {k d:Nat} (h:d<k):∃ m,k=m+1:=⟨k - 1,by omega⟩
theorem getD_lt {α:Type} {l:List α} {j:Nat} {d:α} (h:j<l.length):l.getD j d=l[j]:=by
  rw [List.getD_eq_getElem?_getD,List.getElem?_eq_getElem h];rfl
theorem drop_cons {α:Type} (l:List α) {j:Nat} (h:j<l.length) (d:α):l.drop j=l.getD j d :: l.drop (j+1):=by
  rw [getD_lt h];exact List.drop_eq_getElem_cons h
theorem up {α:Type} {g:Nat→Option α} (hm:∀ k,LeO (g k) (g (k+1))) {k0:Nat} {r:α} (h:g k0=some r):∀ k,k0≤k→g k=some r:=by
  intro k hk
  induction hk with
  |refl=>exact h
  |step _ ih=>exact hm _ _ ih

theorem name_same (s:ByteArray):∀ (k:Nat) (i:Int),spec_l01Name.l0 k s i=impl_onlyNameBytes.l0 k s (s.size:Int) i:=by
  intro k
  induction k with
  |zero=>intro i;simp only [spec_l01Name.l0,impl_onlyNameBytes.l0]
  |succ k ih=>
    intro i
    simp only [spec_l01Name.l0,impl_onlyNameBytes.l0]
    unfold spec_l01Small.f spec_l01Digit.f
    rw [ih]
    generalize impl_onlyNameBytes.l0 k s (s.size:Int) (wrap64 (i+1))=e
    generalize bt s i=b
    by_cases h1:i<(s.size:Int)
    · rw [if_pos h1,if_pos h1,if_pos h1]
      by_cases h2:0≤i
      · rw [if_pos h2,if_pos h2]
        by_cases c1:b<97
        · rw [if_pos c1,if_neg (by omega)]
          by_cases c2:b<48
          · rw [if_pos c2,if_neg (by omega)];simp
          · rw [if_neg c2,if_pos (by omega)]
            by_cases c3:b > 57
            · rw [if_pos c3,decide_eq_false (by omega)];simp
            · rw [if_neg c3,decide_eq_true (by omega)];simp
        · rw [if_neg c1,if_pos (by omega)]
          by_cases c4:b > 122
          · rw [if_pos c4,decide_eq_false (by omega),if_pos (by omega),if_neg (by omega),decide_eq_false (by omega),if_pos (by omega)];simp
          · rw [if_neg c4,decide_eq_true (by omega)];simp
      · rw [if_neg h2,if_neg h2]
    · rw [if_neg h1,if_neg h1]
theorem name_total (s:ByteArray) (hs:s.size≤35184372088832):∀ (d j k:Nat),j+d=s.size→d<k→∃ r,impl_onlyNameBytes.l0 k s (s.size:Int) (j:Int)=some r:=by
  intro d
  induction d with
  |zero=>
    intro j k hj hk
    obtain ⟨k,rfl⟩:=suc_of hk
    simp only [impl_onlyNameBytes.l0]
    rw [if_neg (by omega)];exact ⟨_,rfl⟩
  |succ d ih=>
    intro j k hj hk
    obtain ⟨k,rfl⟩:=suc_of hk
    obtain ⟨r,hr⟩:=ih (j+1) k (by omega) (by omega)
    simp only [impl_onlyNameBytes.l0]
    rw [if_pos (by omega),if_pos (by omega),if_pos (by omega),next_nat (n:=s.size) (by omega) (by omega),hr]
    split
    · split
      · exact ⟨_,rfl⟩
      · split
        · exact ⟨_,rfl⟩
        · exact ⟨_,rfl⟩
    · split
      · split
        · exact ⟨_,rfl⟩
        · split
          · exact ⟨_,rfl⟩
          · exact ⟨_,rfl⟩
      · exact ⟨_,rfl⟩
/-- A name is one for both. -/
theorem name_both (s:ByteArray) (hs:s.size≤35184372088832):∃ b:Bool,(∀ k,s.size+3≤k→spec_l01Name.f k s=some b)∧(∀ k,s.size+3≤k→impl_IsName.f k s=some b)∧(b=true→1≤s.size∧s.size≤10):=by
  obtain ⟨r,hr⟩:=name_total s hs s.size 0 (s.size+2) (by omega) (by omega)
  have hr3:impl_onlyNameBytes.l0 (s.size+3) s (s.size:Int) 0=some r:=impl_onlyNameBytes.mono_l (s.size+2) s (s.size:Int) 0 r hr
  have hr2:impl_onlyNameBytes.l0 (s.size+2) s (s.size:Int) 0=some r:=hr
  have key:∃ b:Bool,spec_l01Name.f (s.size+3) s=some b∧impl_IsName.f (s.size+3) s=some b∧(b=true→1≤s.size∧s.size≤10):=by
    have bad:spec_l01Name.j0 (s.size+3) s true=some false:=by simp only [spec_l01Name.j0];simp
    unfold spec_l01Name.f impl_IsName.f impl_onlyNameBytes.f
    by_cases h0:s.size=0
    · have e:s.toList=[]:=by
        rw [ByteArray.toList_eq];exact List.eq_nil_of_length_eq_zero (by rw [Array.length_toList];exact h0)
      rw [if_pos e,if_pos (by omega),bad];exact ⟨_,rfl,rfl,by simp⟩
    · have e:¬ s.toList=[]:=by
        rw [ByteArray.toList_eq]
        intro h
        have:s.data.toList.length=0:=by rw [h];rfl
        rw [Array.length_toList] at this
        exact h0 this
      rw [if_neg e,if_neg (show ¬ (s.size:Int)<1 by omega)]
      by_cases h1:(s.size:Int) > 10
      · rw [if_pos h1,if_pos h1,bad];exact ⟨_,rfl,rfl,by simp⟩
      · rw [if_neg h1,if_neg h1,if_pos (by omega),if_pos (by omega)]
        unfold spec_l01Small.f
        by_cases c1:bt s 0<97
        · rw [if_pos c1,if_neg (by omega)]
          simp only [Option.bind_some,Bool.not_false]
          exact ⟨_,bad,rfl,by simp⟩
        · rw [if_neg c1,if_pos (by omega)]
          by_cases c2:bt s 0 > 122
          · rw [if_pos c2,decide_eq_false (by omega)]
            simp only [Option.bind_some,Bool.not_false]
            exact ⟨_,bad,rfl,by simp⟩
          · rw [if_neg c2,decide_eq_true (by omega),hr3]
            simp only [Option.bind_some,Bool.not_true]
            refine ⟨r,?_,rfl,fun _=>by omega⟩
            simp only [spec_l01Name.j0]
            rw [if_neg Bool.false_ne_true,name_same]
            exact hr2
  obtain ⟨b,h1,h2,h3⟩:=key
  exact ⟨b,up (spec_l01Name.mono s) h1,up (impl_IsName.mono s) h2,h3⟩

theorem impl_in (n lo hi:Int):impl_within.f n lo hi=some (decide (lo≤n∧n≤hi)):=by unfold impl_within.f;split<;>simp<;>omega

theorem spec_in (n lo hi:Int):spec_l00In.f n lo hi=some (decide (lo≤n∧n≤hi)):=by unfold spec_l00In.f;split<;>simp<;>omega

theorem rdll_nat (l:List (List Int)) (j:Nat):rd_L1 l (j:Int)=l.getD j []:=by unfold rd_L1;simp

def lv0 (L:List (List Int)) (i:Nat):Int:=rd (L.getD i []) 0
def lv1 (L:List (List Int)) (i:Nat):Int:=rd (L.getD i []) 1
def stepOk (L:List (List Int)) (i:Nat):Bool:=decide ((L.getD i []).length=2)&&(decide (0≤lv0 L i∧lv0 L i≤1000000)&&(decide (0≤lv1 L i∧lv1 L i≤10000)&&(if i=0 then decide (lv0 L i=0) else decide (lv0 L (i - 1)<lv0 L i))))
def allFrom (L:List (List Int)):Nat→Nat→Bool
  |0,_=>true
  |d+1,j=>stepOk L j&&allFrom L d (j+1)
theorem spec_lv_l0 (s:ByteArray) (f p:Int) (L:List (List Int)) (hL:L.length≤6):∀ (d j k:Nat),j+d=L.length→2 * d<k→(0<j→(L.getD (j - 1) []).length=2)→
    spec_l21Ok.l0 k [(⟨s,f,p,L⟩:S29)] (j:Int)=some (allFrom L d j):=by
  intro d
  induction d with
  |zero=>
    intro j k hj hk hp
    obtain ⟨k,rfl⟩:=suc_of (show 0<k by omega)
    simp only [spec_l21Ok.l0,show rd_T29 [(⟨s,f,p,L⟩:S29)] 0=⟨s,f,p,L⟩ from rfl]
    rw [if_pos (by simp),if_neg (by omega)]
    rfl
  |succ d ih=>
    intro j k hj hk hp
    obtain ⟨k,rfl⟩:∃ m,k=m+1+1:=⟨k - 2,by omega⟩
    have bad:spec_l21Ok.j2 (k+1) [(⟨s,f,p,L⟩:S29)] (j:Int) true=some false:=by simp only [spec_l21Ok.j2];simp
    have good:spec_l21Ok.j2 (k+1) [(⟨s,f,p,L⟩:S29)] (j:Int) false=spec_l21Ok.l0 k [(⟨s,f,p,L⟩:S29)] ((j+1:Nat):Int):=by
      simp only [spec_l21Ok.j2]
      rw [if_neg Bool.false_ne_true,next_nat (n:=L.length) (by omega) (by omega)]
    simp only [spec_l21Ok.l0,show rd_T29 [(⟨s,f,p,L⟩:S29)] 0=⟨s,f,p,L⟩ from rfl]
    rw [if_pos (by simp),if_pos (by omega),if_pos (by omega),rdll_nat]
    unfold allFrom stepOk lv0 lv1
    by_cases hlen:(L.getD j []).length=2
    · have hr:=ih (j+1) k (by omega) (by omega) (fun _=>hlen)
      rw [if_pos (show ((L.getD j []).length:Int)=2 by omega),if_pos (show (0:Int)<((L.getD j []).length:Int) by omega),if_pos (show (1:Int)<((L.getD j []).length:Int) by omega),decide_eq_true hlen,Bool.true_and]
      simp only [spec_in,Option.bind_some]
      generalize hx0:rd (L.getD j []) 0=x0
      generalize rd (L.getD j []) 1=x1
      by_cases hA:0≤x0∧x0≤1000000
      · rw [decide_eq_true hA,if_pos rfl,Bool.true_and]
        by_cases hB:0≤x1∧x1≤10000
        · rw [decide_eq_true hB,if_pos rfl,Bool.true_and]
          by_cases hz:j=0
          · rw [if_pos (show (j:Int)=0 by omega),if_pos hz]
            by_cases h00:x0=0
            · rw [if_pos h00,if_neg (show ¬ (j:Int) > 0 by omega),good,hr,decide_eq_true h00,Bool.true_and]
            · rw [if_neg h00,bad,decide_eq_false h00];rfl
          · have hpv:=hp (by omega)
            rw [if_neg (show ¬ (j:Int)=0 by omega),if_neg hz,if_pos (show (j:Int) > 0 by omega)]
            have ew:wrap64 ((j:Int) - 1)=((j - 1:Nat):Int):=by rw [wrap_id (by omega) (by omega)];omega
            rw [ew,rdll_nat,if_pos (show (0:Int)≤((j - 1:Nat):Int) by omega),if_pos (show ((j - 1:Nat):Int)<(L.length:Int) by omega),if_pos (show (0:Int)<((L.getD (j - 1) []).length:Int) by omega)]
            generalize rd (L.getD (j - 1) []) 0=y0
            by_cases hc:y0<x0
            · rw [decide_eq_false (show ¬ y0≥x0 by omega),good,hr,decide_eq_true hc,Bool.true_and]
            · rw [decide_eq_true (show y0≥x0 by omega),bad,decide_eq_false hc];rfl
        · rw [decide_eq_false hB,if_neg Bool.false_ne_true,bad];rfl
      · rw [decide_eq_false hA,if_neg Bool.false_ne_true,bad];rfl
    · rw [if_neg (show ¬ ((L.getD j []).length:Int)=2 by omega),bad,decide_eq_false hlen];rfl
theorem impl_lv_l0 (s:ByteArray) (f p:Int) (L:List (List Int)) (hL:L.length≤6):∀ (d j k:Nat),j+d=L.length→2 * d<k→(0<j→(L.getD (j - 1) []).length=2)→
    impl_ValidTariff.l0 k L (L.length:Int) (j:Int) s f p L=some (allFrom L d j):=by
  intro d
  induction d with
  |zero=>
    intro j k hj hk hp
    obtain ⟨k,rfl⟩:=suc_of (show 0<k by omega)
    simp only [impl_ValidTariff.l0]
    rw [if_neg (by omega)]
    rfl
  |succ d ih=>
    intro j k hj hk hp
    obtain ⟨k,rfl⟩:∃ m,k=m+1+1:=⟨k - 2,by omega⟩
    have bad:impl_ValidTariff.j2 (k+1) L (L.length:Int) (j:Int) true s f p L=some false:=by simp only [impl_ValidTariff.j2];simp
    have good:impl_ValidTariff.j2 (k+1) L (L.length:Int) (j:Int) false s f p L=impl_ValidTariff.l0 k L (L.length:Int) ((j+1:Nat):Int) s f p L:=by
      simp only [impl_ValidTariff.j2]
      rw [if_neg Bool.false_ne_true,next_nat (n:=L.length) (by omega) (by omega)]
    simp only [impl_ValidTariff.l0]
    rw [if_pos (by omega),if_pos (by omega),if_pos (by omega),rdll_nat]
    unfold allFrom stepOk lv0 lv1
    by_cases hlen:(L.getD j []).length=2
    · have hr:=ih (j+1) k (by omega) (by omega) (fun _=>hlen)
      rw [if_pos (show ((L.getD j []).length:Int)=2 by omega),if_pos (show (0:Int)<((L.getD j []).length:Int) by omega),if_pos (show (1:Int)<((L.getD j []).length:Int) by omega),decide_eq_true hlen,Bool.true_and]
      simp only [impl_in,Option.bind_some]
      generalize hx0:rd (L.getD j []) 0=x0
      generalize rd (L.getD j []) 1=x1
      by_cases hA:0≤x0∧x0≤1000000
      · rw [decide_eq_true hA,if_pos rfl,Bool.true_and]
        by_cases hB:0≤x1∧x1≤10000
        · rw [decide_eq_true hB,if_pos rfl,Bool.true_and]
          by_cases hz:j=0
          · rw [if_pos (show (j:Int)=0 by omega),if_pos hz]
            by_cases h00:x0=0
            · rw [if_pos h00,if_neg (show ¬ (j:Int) > 0 by omega),good,hr,decide_eq_true h00,Bool.true_and]
            · rw [if_neg h00,bad,decide_eq_false h00];rfl
          · have hpv:=hp (by omega)
            rw [if_neg (show ¬ (j:Int)=0 by omega),if_neg hz,if_pos (show (j:Int) > 0 by omega)]
            have ew:wrap64 ((j:Int) - 1)=((j - 1:Nat):Int):=by rw [wrap_id (by omega) (by omega)];omega
            rw [ew,rdll_nat,if_pos (show (0:Int)≤((j - 1:Nat):Int) by omega),if_pos (show ((j - 1:Nat):Int)<(L.length:Int) by omega),if_pos (show (0:Int)<((L.getD (j - 1) []).length:Int) by omega)]
            generalize rd (L.getD (j - 1) []) 0=y0
            by_cases hc:y0<x0
            · rw [decide_eq_false (show ¬ x0≤y0 by omega),good,hr,decide_eq_true hc,Bool.true_and]
            · rw [decide_eq_true (show x0≤y0 by omega),bad,decide_eq_false hc];rfl
        · rw [decide_eq_false hB,if_neg Bool.false_ne_true,bad];rfl
      · rw [decide_eq_false hA,if_neg Bool.false_ne_true,bad];rfl
    · rw [if_neg (show ¬ ((L.getD j []).length:Int)=2 by omega),bad,decide_eq_false hlen];rfl
theorem allFrom_at (L:List (List Int)):∀ (d j:Nat),allFrom L d j=true→∀ i,j≤i→i<j+d→stepOk L i=true:=by
  intro d
  induction d with
  |zero=>intro j _ i h1 h2;omega
  |succ d ih=>
    intro j h i h1 h2
    unfold allFrom at h
    rw [Bool.and_eq_true] at h
    by_cases e:i=j
    · subst e;exact h.1
    · exact ih (j+1) h.2 i (by omega) (by omega)
def TarOk (f p:Int) (L:List (List Int)):Prop:=(0≤f∧f≤1000000)∧(0≤p∧p≤10000)∧1≤L.length∧L.length≤6∧∀ i,i<L.length→(L.getD i []).length=2∧(0≤lv0 L i∧lv0 L i≤1000000)∧(0≤lv1 L i∧lv1 L i≤10000)∧(i=0→lv0 L i=0)∧(0<i→lv0 L (i - 1)<lv0 L i)
theorem tariff_both (s:ByteArray) (f p:Int) (L:List (List Int)) (hs:s.size≤35184372088832):∃ v:Bool,(∀ k,s.size+30≤k→spec_l21Ok.f k [(⟨s,f,p,L⟩:S29)]=some v)∧(∀ k,s.size+30≤k→impl_ValidTariff.f k s f p L=some v)∧(v=true→TarOk f p L∧s.size≤10):=by
  obtain ⟨b,n1,n2,n3⟩:=name_both s hs
  have e:rd_T29 [(⟨s,f,p,L⟩:S29)] 0=⟨s,f,p,L⟩:=rfl
  have sbad:∀ k,spec_l21Ok.j0 (k+1) [(⟨s,f,p,L⟩:S29)] true=some false:=fun k=>by simp only [spec_l21Ok.j0];simp
  have ibad:∀ k,impl_ValidTariff.j0 (k+1) true s f p L=some false:=fun k=>by simp only [impl_ValidTariff.j0];simp
  refine ⟨b&&(decide (0≤f∧f≤1000000)&&(decide (0≤p∧p≤10000)&&(decide (1≤(L.length:Int)∧(L.length:Int)≤6)&&allFrom L L.length 0))),fun k hk=>?_,fun k hk=>?_,fun h=>?_⟩
  · obtain ⟨k,rfl⟩:=suc_of (show 0<k by omega)
    unfold spec_l21Ok.f
    rw [if_pos (by simp)]
    simp only [e,spec_in,n1 (k+1) (by omega),Option.bind_some,sbad]
    cases b
    · rfl
    · cases decide (0≤f∧f≤1000000)
      · rfl
      · cases decide (0≤p∧p≤10000)
        · rfl
        · simp only [if_true,Bool.true_and]
          by_cases h:1≤(L.length:Int)∧(L.length:Int)≤6
          · rw [decide_eq_true h]
            simp only [Bool.not_true,spec_l21Ok.j0,Bool.true_and]
            rw [if_neg Bool.false_ne_true]
            exact spec_lv_l0 s f p L (by omega) L.length 0 k (by omega) (by omega) (fun h=>absurd h (by omega))
          · rw [decide_eq_false h,Bool.not_false,sbad];rfl
  · obtain ⟨k,rfl⟩:=suc_of (show 0<k by omega)
    unfold impl_ValidTariff.f
    simp only [impl_in,n2 (k+1) (by omega),Option.bind_some,ibad]
    cases b
    · rfl
    · cases decide (0≤f∧f≤1000000)
      · rfl
      · cases decide (0≤p∧p≤10000)
        · rfl
        · simp only [if_true,Bool.true_and]
          by_cases h1:(L.length:Int)<1
          · rw [if_pos h1,decide_eq_false (by omega)];rfl
          · rw [if_neg h1]
            by_cases h2:(L.length:Int) > 6
            · rw [decide_eq_true h2,ibad,decide_eq_false (by omega)];rfl
            · rw [decide_eq_false h2,decide_eq_true (by omega)]
              simp only [impl_ValidTariff.j0,Bool.true_and]
              rw [if_neg Bool.false_ne_true]
              exact impl_lv_l0 s f p L (by omega) L.length 0 k (by omega) (by omega) (fun h=>absurd h (by omega))
  · simp only [Bool.and_eq_true,decide_eq_true_eq] at h
    obtain ⟨hb,hf,hp,hl,ha⟩:=h
    refine ⟨⟨hf,hp,by omega,by omega,fun i hi=>?_⟩,(n3 hb).2⟩
    have h:=allFrom_at L L.length 0 ha i (by omega) (by omega)
    unfold stepOk at h
    simp only [Bool.and_eq_true,decide_eq_true_eq] at h
    obtain ⟨g1,g2,g3,g4⟩:=h
    refine ⟨g1,g2,g3,fun hz=>?_,fun hz=>?_⟩
    · rw [if_pos hz] at g4;exact of_decide_eq_true g4
    · rw [if_neg (by omega)] at g4;exact of_decide_eq_true g4

def tv (x:S29):Bool:=(impl_ValidTariff.f 1048620 x.f0 x.f1 x.f2 x.f3).getD false
theorem tv_spec (x:S29) (hs:x.f0.size≤1048576):(∀ k,1048620≤k→spec_l21Ok.f k [x]=some (tv x))∧(∀ k,1048620≤k→impl_ValidTariff.f k x.f0 x.f1 x.f2 x.f3=some (tv x))∧(tv x=true→TarOk x.f1 x.f2 x.f3):=by
  obtain ⟨v,v1,v2,v3⟩:=tariff_both x.f0 x.f1 x.f2 x.f3 (by omega)
  have e:tv x=v:=by unfold tv;rw [v2 1048620 (by omega)];rfl
  exact ⟨fun k hk=>by rw [e];exact v1 k (by omega),fun k hk=>by rw [e];exact v2 k (by omega),fun h=>(v3 (e ▸ h)).1⟩

theorem szII_l0 (l:List (List Int)) (hl:l.length≤1048576) (hi:∀ x ∈ l,x.length≤9223372036854775807):∀ (d j k:Nat) (n:Int),j+d=l.length→d<k→0≤n→n≤1048576→∃ r,laws_szInt64SS.l0 k l n (j:Int)=some r∧r≤n∧(0≤r→∀ i,j≤i→i<l.length→(l.getD i []).length≤1048576):=by
  intro d
  induction d with
  |zero=>
    intro j k n hj hk h0 h1
    obtain ⟨k,rfl⟩:=suc_of hk
    simp only [laws_szInt64SS.l0]
    rw [if_neg (by omega)]
    exact ⟨n,rfl,by omega,fun _ i hi1 hi2=>by omega⟩
  |succ d ih=>
    intro j k n hj hk h0 h1
    obtain ⟨k,rfl⟩:=suc_of hk
    simp only [laws_szInt64SS.l0]
    rw [if_pos (by omega),if_pos (by omega),rdll_nat]
    have hx:=hi (l.getD j []) (by rw [getD_lt (by omega)];exact List.getElem_mem _)
    unfold laws_szInt64S.f
    rw [wrap_id (x:=n - ((l.getD j []).length:Int)) (by omega) (by omega)]
    by_cases c:n - ((l.getD j []).length:Int)<0
    · rw [if_pos c]
      simp only [Option.bind_some]
      rw [if_pos (by omega)]
      exact ⟨-1,rfl,by omega,fun h=>by omega⟩
    · rw [if_neg c]
      simp only [Option.bind_some]
      rw [if_neg c,next_nat (n:=l.length) (by omega) (by omega)]
      obtain ⟨r,h2,h3,h4⟩:=ih (j+1) k (n - ((l.getD j []).length:Int)) (by omega) (by omega) (by omega) (by omega)
      refine ⟨r,h2,by omega,fun hr i hi1 hi2=>?_⟩
      by_cases e:i=j
      · subst e;omega
      · exact h4 hr i (by omega) hi2
theorem szII (l:List (List Int)) (hl:l.length≤9223372036854775807) (hi:∀ x ∈ l,x.length≤9223372036854775807) (k:Nat) (hk:1048576<k):∃ r,laws_szInt64SS.f k l 1048576=some r∧(0≤r→l.length≤1048576∧∀ x ∈ l,x.length≤1048576):=by
  unfold laws_szInt64SS.f
  rw [wrap_id (x:=1048576 - (l.length:Int)) (by omega) (by omega)]
  by_cases c:(1048576:Int) - (l.length:Int)<0
  · rw [if_pos c];exact ⟨-1,rfl,fun h=>by omega⟩
  · rw [if_neg c]
    obtain ⟨r,h2,_,h4⟩:=szII_l0 l (by omega) hi l.length 0 k (1048576 - (l.length:Int)) (by omega) (by omega) (by omega) (by omega)
    refine ⟨r,h2,fun hr=>⟨by omega,fun x hx=>?_⟩⟩
    obtain ⟨i,hi1,rfl⟩:=List.mem_iff_getElem.1 hx
    have:=h4 hr i (by omega) hi1
    rwa [getD_lt hi1] at this

theorem toI_l0 (l:List Int) (hl:l.length≤35184372088832):∀ (d j k:Nat) (m:List Int),j+d=l.length→d<k→m.length=l.length→(∀ i,i<j→m[i]? =l[i]?)→laws_toInt64S.l0 k l m (j:Int)=some l:=by
  intro d
  induction d with
  |zero=>
    intro j k m hj hk hm hp
    obtain ⟨k,rfl⟩:=suc_of hk
    simp only [laws_toInt64S.l0]
    rw [if_neg (by omega)]
    congr 1
    apply List.ext_getElem?
    intro i
    by_cases hi:i<j
    · exact hp i hi
    · rw [List.getElem?_eq_none (by omega),List.getElem?_eq_none (by omega)]
  |succ d ih=>
    intro j k m hj hk hm hp
    obtain ⟨k,rfl⟩:=suc_of hk
    simp only [laws_toInt64S.l0]
    rw [if_pos (by omega),if_pos (by omega),if_pos (by omega),next_nat (n:=l.length) (by omega) (by omega)]
    refine ih (j+1) k _ (by omega) (by omega) (by simpa using hm) (fun i hi=>?_)
    rw [Int.toNat_natCast,rd_nat,List.getElem?_set]
    by_cases e:j=i
    · subst e
      rw [if_pos rfl,if_pos (by omega),getD_lt (by omega),List.getElem?_eq_getElem (by omega)]
    · rw [if_neg e];exact hp i (by omega)
theorem toI (l:List Int) (hl:l.length≤35184372088832) (k:Nat) (hk:l.length<k):laws_toInt64S.f k l=some l:=by
  unfold laws_toInt64S.f
  rw [if_pos (by omega),if_pos (by omega)]
  exact toI_l0 l hl l.length 0 k _ (by omega) hk (by simp) (fun i hi=>absurd hi (by omega))

theorem eqI_l0 (l:List Int) (hl:l.length≤35184372088832):∀ (d j k:Nat),j+d=l.length→d<k→laws_eqInt64S.l0 k l l (j:Int)=some true:=by
  intro d
  induction d with
  |zero=>
    intro j k hj hk
    obtain ⟨k,rfl⟩:=suc_of hk
    simp only [laws_eqInt64S.l0]
    rw [if_neg (by omega)]
  |succ d ih=>
    intro j k hj hk
    obtain ⟨k,rfl⟩:=suc_of hk
    simp only [laws_eqInt64S.l0]
    rw [if_pos (by omega),if_pos (by omega),if_pos (by omega),if_pos trivial,next_nat (n:=l.length) (by omega) (by omega)]
    exact ih (j+1) k (by omega) (by omega)
theorem eqI (l:List Int) (hl:l.length≤35184372088832) (k:Nat) (hk:l.length<k):laws_eqInt64S.f k l l=some true:=by
  unfold laws_eqInt64S.f
  rw [if_pos rfl]
  exact eqI_l0 l hl l.length 0 k (by omega) hk

theorem toII_l0 (l:List (List Int)) (hl:l.length≤1048576) (hi:∀ x ∈ l,x.length≤1048576):∀ (d j k:Nat) (m:List (List Int)),j+d=l.length→d+1048577<k→m.length=l.length→(∀ i,i<j→m[i]? =l[i]?)→laws_toInt64SS.l0 k l m (j:Int)=some l:=by
  intro d
  induction d with
  |zero=>
    intro j k m hj hk hm hp
    obtain ⟨k,rfl⟩:=suc_of hk
    simp only [laws_toInt64SS.l0]
    rw [if_neg (by omega)]
    congr 1
    apply List.ext_getElem?
    intro i
    by_cases hi:i<j
    · exact hp i hi
    · rw [List.getElem?_eq_none (by omega),List.getElem?_eq_none (by omega)]
  |succ d ih=>
    intro j k m hj hk hm hp
    obtain ⟨k,rfl⟩:=suc_of hk
    have hx:=hi (l.getD j []) (by rw [getD_lt (by omega)];exact List.getElem_mem _)
    simp only [laws_toInt64SS.l0]
    rw [if_pos (by omega),if_pos (by omega),rdll_nat,toI _ (by omega) k (by omega)]
    simp only [Option.bind_some]
    rw [if_pos (by omega),next_nat (n:=l.length) (by omega) (by omega)]
    refine ih (j+1) k _ (by omega) (by omega) (by simpa using hm) (fun i hi=>?_)
    rw [Int.toNat_natCast,List.getElem?_set]
    by_cases e:j=i
    · subst e
      rw [if_pos rfl,if_pos (by omega),getD_lt (by omega),List.getElem?_eq_getElem (by omega)]
    · rw [if_neg e];exact hp i (by omega)
theorem toII (l:List (List Int)) (hl:l.length≤1048576) (hi:∀ x ∈ l,x.length≤1048576) (k:Nat) (hk:2097154<k):laws_toInt64SS.f k l=some l:=by
  unfold laws_toInt64SS.f
  rw [if_pos (by omega),if_pos (by omega)]
  exact toII_l0 l hl hi l.length 0 k _ (by omega) (by omega) (by simp) (fun i hi=>absurd hi (by omega))
theorem eqII_l0 (l:List (List Int)) (hl:l.length≤1048576) (hi:∀ x ∈ l,x.length≤1048576):∀ (d j k:Nat),j+d=l.length→d+1048577<k→laws_eqInt64SS.l0 k l l (j:Int)=some true:=by
  intro d
  induction d with
  |zero=>
    intro j k hj hk
    obtain ⟨k,rfl⟩:=suc_of hk
    simp only [laws_eqInt64SS.l0]
    rw [if_neg (by omega)]
  |succ d ih=>
    intro j k hj hk
    obtain ⟨k,rfl⟩:=suc_of hk
    have hx:=hi (l.getD j []) (by rw [getD_lt (by omega)];exact List.getElem_mem _)
    simp only [laws_eqInt64SS.l0]
    rw [if_pos (by omega),if_pos (by omega),if_pos (by omega),rdll_nat,eqI _ (by omega) k (by omega)]
    simp only [Option.bind_some,if_true]
    rw [next_nat (n:=l.length) (by omega) (by omega)]
    exact ih (j+1) k (by omega) (by omega)
theorem eqII (l:List (List Int)) (hl:l.length≤1048576) (hi:∀ x ∈ l,x.length≤1048576) (k:Nat) (hk:2097154<k):laws_eqInt64SS.f k l l=some true:=by
  unfold laws_eqInt64SS.f
  rw [if_pos rfl]
  exact eqII_l0 l hl hi l.length 0 k (by omega) (by omega)

theorem szTariff (s:ByteArray) (f p:Int) (l:List (List Int)) (hs:s.size≤maxLen) (hl:l.length≤9223372036854775807) (hi:∀ x ∈ l,x.length≤9223372036854775807) (n:Int) (hn:0≤n) (hn2:n≤1048576) (k:Nat) (hk:1048576<k):
    ∃ r,laws_szTariff.f k s f p l n=some r∧r≤n∧-1≤r∧(0≤r→s.size≤1048576∧l.length≤1048576∧∀ x ∈ l,x.length≤1048576):=by
  unfold laws_szTariff.f laws_szInt64SS.f
  simp only [maxLen] at hs
  rw [wrap_id (x:=n - (s.size:Int)) (by omega) (by omega)]
  by_cases c:n - (s.size:Int)<0
  · rw [if_pos c];exact ⟨-1,rfl,by omega,by omega,fun h=>by omega⟩
  · rw [if_neg c,wrap_id (x:=n - (s.size:Int) - (l.length:Int)) (by omega) (by omega)]
    by_cases c2:n - (s.size:Int) - (l.length:Int)<0
    · rw [if_pos c2];exact ⟨-1,rfl,by omega,by omega,fun h=>by omega⟩
    · rw [if_neg c2]
      obtain ⟨r,h2,h3,h4⟩:=szII_l0 l (by omega) hi l.length 0 k (n - (s.size:Int) - (l.length:Int)) (by omega) (by omega) (by omega) (by omega)
      have h2':laws_szInt64SS.l0 k l (n - (s.size:Int) - (l.length:Int)) 0=some r:=h2
      rw [h2']
      simp only [Option.bind_some]
      by_cases c3:r<0
      · rw [if_pos c3];exact ⟨-1,rfl,by omega,by omega,fun h=>by omega⟩
      · rw [if_neg c3]
        refine ⟨r,rfl,by omega,by omega,fun hr=>⟨by omega,by omega,fun x hx=>?_⟩⟩
        obtain ⟨i,hi1,rfl⟩:=List.mem_iff_getElem.1 hx
        have:=h4 hr i (by omega) hi1
        rwa [getD_lt hi1] at this
theorem toTariff (s:ByteArray) (f p:Int) (l:List (List Int)) (hl:l.length≤1048576) (hi:∀ x ∈ l,x.length≤1048576) (k:Nat) (hk:2097154<k):laws_toTariff.f k s f p l=some (s,f,p,l):=by
  unfold laws_toTariff.f
  rw [toII l hl hi k hk];rfl
theorem eqTariff (s:ByteArray) (f p:Int) (l:List (List Int)) (hl:l.length≤1048576) (hi:∀ x ∈ l,x.length≤1048576) (k:Nat) (hk:2097154<k):laws_eqTariff.f k s f p l s f p l=some true:=by
  unfold laws_eqTariff.f
  rw [if_pos rfl,if_pos rfl,if_pos rfl,eqII l hl hi k hk];rfl

theorem markc_l0 (c0:Int) (hc0:0≤c0) (hc1:c0≤1000000000000000):∀ (d j k:Nat) (m:List Int) (c:Int),j+d=m.length→m.length≤35184372088832→d<k→c=c0+(j:Int)→(∀ i,i<j→m[i]? =some (c0+(i:Int)))→
    ∃ m',laws_markInt64S.l0 k m c (j:Int)=some (c0+(m.length:Int),m')∧m'.length=m.length∧∀ i,i<m'.length→m'[i]? =some (c0+(i:Int)):=by
  intro d
  induction d with
  |zero=>
    intro j k m c hj hl hk hc hp
    obtain ⟨k,rfl⟩:=suc_of hk
    simp only [laws_markInt64S.l0]
    rw [if_neg (by omega)]
    exact ⟨m,by rw [hc];congr 2;omega,rfl,fun i hi=>hp i (by omega)⟩
  |succ d ih=>
    intro j k m c hj hl hk hc hp
    obtain ⟨k,rfl⟩:=suc_of hk
    simp only [laws_markInt64S.l0]
    rw [if_pos (by omega),if_pos (by omega),next_nat (n:=m.length) (by omega) (by omega),wrap_id (x:=c+1) (by omega) (by omega),Int.toNat_natCast]
    obtain ⟨m',h1,h2,h3⟩:=ih (j+1) k (m.set j c) (c+1) (by simp;omega) (by simpa using hl) (by omega) (by omega) (fun i hi=>by
      rw [List.getElem?_set]
      by_cases e:j=i
      · subst e;rw [if_pos rfl,if_pos (by omega),hc]
      · rw [if_neg e];exact hp i (by omega))
    exact ⟨m',by rw [h1];simp,by simpa using h2,h3⟩
theorem heldc_l0 (c0:Int) (hc0:0≤c0) (hc1:c0≤1000000000000000) (m:List Int) (hl:m.length≤35184372088832) (hm:∀ i,i<m.length→m[i]? =some (c0+(i:Int))):∀ (d j k:Nat) (c:Int),j+d=m.length→d<k→c=c0+(j:Int)→laws_heldInt64S.l0 k m c (j:Int)=some (c0+(m.length:Int)):=by
  intro d
  induction d with
  |zero=>
    intro j k c hj hk hc
    obtain ⟨k,rfl⟩:=suc_of hk
    simp only [laws_heldInt64S.l0]
    rw [if_neg (by omega)]
    congr 1;omega
  |succ d ih=>
    intro j k c hj hk hc
    obtain ⟨k,rfl⟩:=suc_of hk
    simp only [laws_heldInt64S.l0]
    have e:rd m (j:Int)=c:=by
      rw [rd_nat,List.getD_eq_getElem?_getD,hm j (by omega),hc];rfl
    rw [if_pos (by omega),if_pos (by omega),if_pos e,next_nat (n:=m.length) (by omega) (by omega),wrap_id (x:=c+1) (by omega) (by omega)]
    exact ih (j+1) k (c+1) (by omega) (by omega) (by omega)
theorem markc_held (l:List Int) (c0:Int) (hc0:0≤c0) (hc1:c0≤1000000000000000) (hl:l.length≤35184372088832) (k:Nat) (hk:l.length<k):∃ m',laws_markInt64S.f k l c0=some (c0+(l.length:Int),m')∧m'.length=l.length∧(∀ k',l.length<k'→laws_heldInt64S.f k' m' c0=some (c0+(l.length:Int))):=by
  obtain ⟨m',h1,h2,h3⟩:=markc_l0 c0 hc0 hc1 l.length 0 k l c0 (by omega) hl hk (by omega) (fun i hi=>absurd hi (by omega))
  refine ⟨m',h1,h2,fun k' hk'=>?_⟩
  have:=heldc_l0 c0 hc0 hc1 m' (by omega) h3 m'.length 0 k' c0 (by omega) (by omega) (by omega)
  rw [h2] at this
  exact this

def rdiv (a b:Int):Int:=if a<0 then -((b - 2 * a) / (2 * b)) else (2 * a+b) / (2 * b)
theorem rdiv_pos_eq {q r b:Int} (hb:0<b) (h0:0≤r) (h1:r<b):(2 * (b * q+r)+b) / (2 * b)=if r≥b - r then q+1 else q:=by
  have e:2 * (b * q+r)+b=(2 * r+b)+(2 * b) * q:=by rw [Int.mul_add,← Int.mul_assoc];omega
  rw [e,Int.add_mul_ediv_left _ _ (by omega:(2 * b:Int)≠0)]
  split
  · have:(2 * r+b) / (2 * b)=1:=by
      have e2:2 * r+b=(2 * r - b)+(2 * b) * 1:=by omega
      rw [e2,Int.add_mul_ediv_left _ _ (by omega:(2 * b:Int)≠0),Int.ediv_eq_zero_of_lt (by omega) (by omega)];rfl
    omega
  · have:(2 * r+b) / (2 * b)=0:=Int.ediv_eq_zero_of_lt (by omega) (by omega)
    omega
theorem abs_def {a:Int} (h:-9223372036854775807≤a) (h2:a≤9223372036854775807):impl_abs.f a=some (if a<0 then -a else a):=by
  unfold impl_abs.f mx
  rw [wrap_id (by omega) (by omega)]
  split<;>split<;>first|rfl|(simp;omega)
theorem impl_div {a b:Int} (hb:0<b) (hb2:b≤2305843009213693951) (ha:-2305843009213693951≤a) (ha2:a≤2305843009213693951):impl_divRound.f a b=some (rdiv a b):=by
  unfold impl_divRound.f
  rw [if_neg (by omega)]
  by_cases h:a<0
  · have hq0:a.tdiv b= -((-a) / b):=by rw [← Int.tdiv_eq_ediv_of_nonneg (by omega),Int.neg_tdiv,Int.neg_neg]
    have hr0:a.tmod b= -((-a) % b):=by rw [← Int.tmod_eq_emod_of_nonneg (by omega),Int.neg_tmod,Int.neg_neg]
    have hr1:=Int.emod_nonneg (-a) (show b≠0 by omega)
    have hr2:=Int.emod_lt_of_pos (-a) hb
    have hd:=Int.mul_ediv_add_emod (-a) b
    have hq1:0≤(-a) / b:=Int.ediv_nonneg (by omega) (by omega)
    have hq2:(-a) / b≤-a:=Int.ediv_le_self _ (by omega)
    rw [hq0,hr0]
    generalize (-a) / b=q at *
    generalize (-a) % b=r at *
    rw [abs_def (by omega) (by omega),abs_def (by omega) (by omega)]
    simp only [Option.bind_some]
    have e1:(if -r<0 then - -r else -r)=r:=by split<;>omega
    have e2:(if b<0 then -b else b)=b:=by rw [if_neg (by omega)]
    rw [e1,e2,wrap_id (x:=b - r) (by omega) (by omega)]
    have hk:rdiv a b= -(if r≥b - r then q+1 else q):=by
      unfold rdiv
      rw [if_pos h,← rdiv_pos_eq (q:=q) hb hr1 hr2,hd]
      congr 2;omega
    rw [hk]
    have w1:wrap64 (-q)= -q:=wrap_id (by omega) (by omega)
    rw [w1]
    by_cases hc:r≥b - r
    · rw [if_pos hc,if_pos hc,if_neg (by simp;omega),wrap_id (by omega) (by omega)]
      congr 1;omega
    · rw [if_neg hc,if_neg hc]
  · have hq0:a.tdiv b=a / b:=Int.tdiv_eq_ediv_of_nonneg (by omega)
    have hr0:a.tmod b=a % b:=Int.tmod_eq_emod_of_nonneg (by omega)
    have hr1:=Int.emod_nonneg a (show b≠0 by omega)
    have hr2:=Int.emod_lt_of_pos a hb
    have hd:=Int.mul_ediv_add_emod a b
    have hq1:0≤a / b:=Int.ediv_nonneg (by omega) (by omega)
    have hq2:a / b≤a:=Int.ediv_le_self _ (by omega)
    rw [hq0,hr0]
    generalize a / b=q at *
    generalize a % b=r at *
    rw [abs_def (by omega) (by omega),abs_def (by omega) (by omega)]
    simp only [Option.bind_some]
    have e1:(if r<0 then - r else r)=r:=by rw [if_neg (by omega)]
    have e2:(if b<0 then -b else b)=b:=by rw [if_neg (by omega)]
    rw [e1,e2,wrap_id (x:=b - r) (by omega) (by omega)]
    have hk:rdiv a b=(if r≥b - r then q+1 else q):=by
      unfold rdiv
      rw [if_neg h,← rdiv_pos_eq (q:=q) hb hr1 hr2,hd]
    rw [hk]
    have w1:wrap64 q=q:=wrap_id (by omega) (by omega)
    rw [w1]
    by_cases hc:r≥b - r
    · rw [if_pos hc,if_pos hc,if_pos (by simp;omega),wrap_id (by omega) (by omega)]
    · rw [if_neg hc,if_neg hc]
theorem rdiv_nonneg {a b:Int} (ha:0≤a) (hb:0<b):0≤rdiv a b:=by
  unfold rdiv;rw [if_neg (by omega)];exact Int.ediv_nonneg (by omega) (by omega)
theorem rdiv_le {a b:Int} (ha:0≤a) (hb:0<b):rdiv a b≤2 * a+b:=by
  unfold rdiv;rw [if_neg (by omega)];exact Int.ediv_le_self _ (by omega)

theorem spec_div {a b:Int} (hb:0<b) (hb2:b≤2305843009213693951) (ha:-2305843009213693951≤a) (ha2:a≤2305843009213693951):spec_l01Div.f a b=some (rdiv a b):=by
  unfold spec_l01Div.f rdiv
  have w2:wrap64 (2 * b)=2 * b:=wrap_id (by omega) (by omega)
  have h2b:(0:Int)<2 * b:=by omega
  rw [if_neg (by omega),w2]
  by_cases h:a<0
  · rw [if_pos h,if_pos h,if_neg (by omega)]
    have e1:wrap64 (2 * a)=2 * a:=wrap_id (by omega) (by omega)
    have e2:wrap64 (b - 2 * a)=b - 2 * a:=wrap_id (by omega) (by omega)
    rw [e1,e2,Int.tdiv_eq_ediv_of_nonneg (by omega)]
    have b1:0≤(b - 2 * a) / (2 * b):=Int.ediv_nonneg (by omega) (by omega)
    have b2:(b - 2 * a) / (2 * b)≤b - 2 * a:=Int.ediv_le_self _ (by omega)
    have e3:wrap64 ((b - 2 * a) / (2 * b))=(b - 2 * a) / (2 * b):=wrap_id (by omega) (by omega)
    have e4:wrap64 (-((b - 2 * a) / (2 * b)))= -((b - 2 * a) / (2 * b)):=wrap_id (by omega) (by omega)
    rw [e3,e4]
  · rw [if_neg h,if_neg h,if_neg (by omega)]
    have e1:wrap64 (2 * a)=2 * a:=wrap_id (by omega) (by omega)
    have e2:wrap64 (2 * a+b)=2 * a+b:=wrap_id (by omega) (by omega)
    rw [e1,e2,Int.tdiv_eq_ediv_of_nonneg (by omega)]
    have b1:0≤(2 * a+b) / (2 * b):=Int.ediv_nonneg (by omega) (by omega)
    have b2:(2 * a+b) / (2 * b)≤2 * a+b:=Int.ediv_le_self _ (by omega)
    rw [wrap_id (by omega) (by omega)]

def raised (L:List (List Int)) (n d:Int):Nat→Nat→List (List Int)
  |0,_=>[]
  |m+1,j=>[lv0 L j,rdiv (lv1 L j * n) d] :: raised L n d m (j+1)
theorem raised_len (L:List (List Int)) (n d:Int):∀ m j,(raised L n d m j).length=m
  |0,_=>rfl
  |m+1,j=>by simp [raised,raised_len L n d m (j+1)]
theorem raised_two (L:List (List Int)) (n d:Int):∀ m j,∀ x ∈ raised L n d m j,x.length=2
  |0,_,x,hx=>by simp [raised] at hx
  |m+1,j,x,hx=>by
    simp only [raised,List.mem_cons] at hx
    rcases hx with rfl|hx
    · rfl
    · exact raised_two L n d m (j+1) x hx
abbrev RT:=ByteArray × Int × Int × List (List Int) × Int
def rtEnd (s:ByteArray) (f p:Int) (R:List (List Int)):RT:=if tv ⟨s,f,p,R⟩=true then (s,f,p,R,0) else (⟨#[]⟩,0,0,[],6)
theorem lev_mul {L:List (List Int)} {f p n:Int} (hT:TarOk f p L) (hn:1≤n∧n≤1000) {j:Nat} (hj:j<L.length):0≤lv1 L j * n∧lv1 L j * n≤10000000:=by
  obtain ⟨_,_,_,_,h⟩:=hT
  have h1:=(h j hj).2.2.1
  have m:=mul_bounds (a:=lv1 L j) (b:=n) (A:=10000) (B:=1000) h1.1 h1.2 (by omega) (by omega) (by omega)
  exact ⟨mul_nonneg' h1.1 (by omega),by omega⟩
theorem srt_l0 (s0:ByteArray) (f0 p0:Int) (L:List (List Int)) (n d:Int) (hT:TarOk f0 p0 L) (hn:1≤n∧n≤1000) (hd:1≤d∧d≤1000) (s:ByteArray) (hs:s.size≤1048576) (f p:Int):∀ (m j k:Nat) (acc:List (List Int)),j+m=L.length→acc.length=j→1048620+m<k→
    spec_RaiseTariff.l0 k n d (j:Int) s0 f0 p0 L s f p acc=some (rtEnd s f p (acc++raised L n d m j)):=by
  intro m
  induction m with
  |zero=>
    intro j k acc hj ha hk
    obtain ⟨k,rfl⟩:=suc_of (show 0<k by omega)
    simp only [spec_RaiseTariff.l0,raised,List.append_nil]
    rw [if_neg (by omega)]
    have v:=(tv_spec ⟨s,f,p,acc⟩ hs).1 k (by omega)
    rw [v,Option.bind_some]
    unfold rtEnd
    cases tv ⟨s,f,p,acc⟩<;>rfl
  |succ m ih=>
    intro j k acc hj ha hk
    obtain ⟨k,rfl⟩:=suc_of (show 0<k by omega)
    have hL:=hT.2.2.2.1
    have h2:=(hT.2.2.2.2 j (by omega)).1
    have b:=lev_mul hT hn (show j<L.length by omega)
    unfold lv1 at b
    simp only [spec_RaiseTariff.l0,raised]
    rw [if_pos (by omega),if_pos (by omega),rdll_nat,if_pos (by omega),if_pos (by omega),wrap_id (x:=rd (L.getD j []) 1 * n) (by omega) (by omega),spec_div (by omega) (by omega) (by omega) (by omega),Option.bind_some,if_pos (by omega),next_nat (n:=L.length) (by omega) (by omega)]
    have e:=ih (j+1) k (acc++[[rd (L.getD j []) 0,rdiv (rd (L.getD j []) 1 * n) d]]) (by omega) (by simp [ha]) (by omega)
    rw [List.append_assoc] at e
    exact e
theorem irt_l0 (L:List (List Int)) (f0 p0:Int) (n d:Int) (hT:TarOk f0 p0 L) (hn:1≤n∧n≤1000) (hd:1≤d∧d≤1000) (s:ByteArray) (hs:s.size≤1048576) (f p:Int):∀ (m j k:Nat) (acc:List (List Int)),j+m=L.length→acc.length=j→1048620+m<k→
    impl_RaiseTariff.l0 k n d L (L.length:Int) (j:Int) s f p acc=some (rtEnd s f p (acc++raised L n d m j)):=by
  intro m
  induction m with
  |zero=>
    intro j k acc hj ha hk
    obtain ⟨k,rfl⟩:=suc_of (show 0<k by omega)
    simp only [impl_RaiseTariff.l0,raised,List.append_nil]
    rw [if_neg (by omega)]
    have v:=(tv_spec ⟨s,f,p,acc⟩ hs).2.1 k (by omega)
    simp only at v
    rw [v,Option.bind_some]
    unfold rtEnd
    cases tv ⟨s,f,p,acc⟩<;>rfl
  |succ m ih=>
    intro j k acc hj ha hk
    obtain ⟨k,rfl⟩:=suc_of (show 0<k by omega)
    have hL:=hT.2.2.2.1
    have h2:=(hT.2.2.2.2 j (by omega)).1
    have b:=lev_mul hT hn (show j<L.length by omega)
    unfold lv1 at b
    simp only [impl_RaiseTariff.l0,raised]
    rw [if_pos (by omega),if_pos (by omega),if_pos (by omega),rdll_nat,if_pos (by omega),if_pos (by omega),wrap_id (x:=rd (L.getD j []) 1 * n) (by omega) (by omega),impl_div (by omega) (by omega) (by omega) (by omega),Option.bind_some,if_pos (by omega),next_nat (n:=L.length) (by omega) (by omega)]
    have e:=ih (j+1) k (acc++[[rd (L.getD j []) 0,rdiv (rd (L.getD j []) 1 * n) d]]) (by omega) (by simp [ha]) (by omega)
    rw [List.append_assoc] at e
    exact e
theorem raise_both (s:ByteArray) (f p:Int) (L:List (List Int)) (n d:Int) (hs:s.size≤1048576):∃ r:RT,(∀ k,2000000≤k→spec_RaiseTariff.f k s f p L n d=some r)∧(∀ k,2000000≤k→impl_RaiseTariff.f k s f p L n d=some r)∧r.1.size≤1048576∧r.2.2.2.1.length≤6∧∀ x ∈ r.2.2.2.1,x.length=2:=by
  obtain ⟨v1,v2,v3⟩:=tv_spec ⟨s,f,p,L⟩ hs
  simp only at v1 v2 v3
  cases hv:tv ⟨s,f,p,L⟩
  · refine ⟨(⟨#[]⟩,0,0,[],1),fun k hk=>?_,fun k hk=>?_,by decide,by simp,by simp⟩
    · unfold spec_RaiseTariff.f
      rw [v1 k (by omega),hv]
      rfl
    · unfold impl_RaiseTariff.f
      rw [v2 k (by omega),hv]
      rfl
  · have hT:=v3 hv
    by_cases hn:1≤n∧n≤1000
    · by_cases hd:1≤d∧d≤1000
      · have mf:=mul_bounds (a:=f) (b:=n) (A:=1000000) (B:=1000) hT.1.1 hT.1.2 (by omega) (by omega) (by omega)
        have mp:=mul_bounds (a:=p) (b:=n) (A:=10000) (B:=1000) hT.2.1.1 hT.2.1.2 (by omega) (by omega) (by omega)
        have hl:=hT.2.2.2.1
        refine ⟨rtEnd s (rdiv (f * n) d) (rdiv (p * n) d) (raised L n d L.length 0),fun k hk=>?_,fun k hk=>?_,?_⟩
        · unfold spec_RaiseTariff.f
          obtain ⟨k,rfl⟩:=suc_of (show 0<k by omega)
          rw [v1 (k+1) (by omega),hv,spec_in,spec_in,decide_eq_true hn,decide_eq_true hd]
          simp only [Option.bind_some,if_true,spec_RaiseTariff.j0,Bool.not_true]
          rw [if_neg Bool.false_ne_true,wrap_id (x:=f * n) (by omega) (by omega),spec_div (by omega) (by omega) (by omega) (by omega),Option.bind_some,wrap_id (x:=p * n) (by omega) (by omega),spec_div (by omega) (by omega) (by omega) (by omega),Option.bind_some]
          exact srt_l0 s f p L n d hT hn hd s hs _ _ L.length 0 k [] (by omega) rfl (by omega)
        · unfold impl_RaiseTariff.f
          rw [v2 k (by omega),hv,impl_in,impl_in,decide_eq_true hn,decide_eq_true hd]
          simp only [Option.bind_some,if_true]
          rw [wrap_id (x:=f * n) (by omega) (by omega),impl_div (by omega) (by omega) (by omega) (by omega),Option.bind_some,wrap_id (x:=p * n) (by omega) (by omega),impl_div (by omega) (by omega) (by omega) (by omega),Option.bind_some]
          exact irt_l0 L f p n d hT hn hd s hs _ _ L.length 0 k [] (by omega) rfl (by omega)
        · unfold rtEnd
          split
          · exact ⟨hs,by simp only [raised_len];omega,raised_two L n d _ _⟩
          · exact ⟨by decide,by simp,by simp⟩
      · refine ⟨(⟨#[]⟩,0,0,[],2),fun k hk=>?_,fun k hk=>?_,by decide,by simp,by simp⟩
        · unfold spec_RaiseTariff.f
          obtain ⟨k,rfl⟩:=suc_of (show 0<k by omega)
          rw [v1 (k+1) (by omega),hv,spec_in,spec_in,decide_eq_true hn,decide_eq_false hd]
          simp only [Option.bind_some,if_true,spec_RaiseTariff.j0,Bool.not_false]
        · unfold impl_RaiseTariff.f
          rw [v2 k (by omega),hv,impl_in,impl_in,decide_eq_true hn,decide_eq_false hd]
          rfl
    · refine ⟨(⟨#[]⟩,0,0,[],2),fun k hk=>?_,fun k hk=>?_,by decide,by simp,by simp⟩
      · unfold spec_RaiseTariff.f
        obtain ⟨k,rfl⟩:=suc_of (show 0<k by omega)
        rw [v1 (k+1) (by omega),hv,spec_in,decide_eq_false hn]
        simp only [Option.bind_some,if_true,spec_RaiseTariff.j0]
        rfl
      · unfold impl_RaiseTariff.f
        rw [v2 k (by omega),hv,impl_in,decide_eq_false hn]
        rfl
theorem set_at {α:Type} {l:List α} {j i:Nat} {x d:α} (hj:j<l.length):(l.set j x).getD i d=if i=j then x else l.getD i d:=by
  rw [List.getD_eq_getElem?_getD,List.getD_eq_getElem?_getD,List.getElem?_set]
  by_cases h:j=i
  · subst h;rw [if_pos rfl,if_pos hj,if_pos rfl];rfl
  · rw [if_neg h,if_neg (fun e=>h e.symm)]
theorem marks2_l0:∀ (d j k:Nat) (l:List (List Int)) (c:Int),j+d=l.length→l.length≤1048576→(∀ x ∈ l,x.length≤1048576)→1048577+d<k→0≤c→c≤1+(j:Int) * 1048576→
    ∃ t l',laws_markInt64SS.l0 k l c (j:Int)=some (t,l')∧0≤t∧l'.length=l.length∧(∀ i,i<j→l'.getD i []=l.getD i [])∧∀ k',1048577+d<k'→laws_heldInt64SS.l0 k' l' c (j:Int)=some t:=by
  intro d
  induction d with
  |zero=>
    intro j k l c hj hl hi hk h0 h1
    obtain ⟨k,rfl⟩:=suc_of (show 0<k by omega)
    simp only [laws_markInt64SS.l0]
    rw [if_neg (by omega)]
    refine ⟨c,l,rfl,h0,rfl,fun _ _=>rfl,fun k' hk'=>?_⟩
    obtain ⟨k',rfl⟩:=suc_of (show 0<k' by omega)
    simp only [laws_heldInt64SS.l0]
    rw [if_neg (by omega)]
  |succ d ih=>
    intro j k l c hj hl hi hk h0 h1
    obtain ⟨k,rfl⟩:=suc_of (show 0<k by omega)
    have hx:(l.getD j []).length≤1048576:=by
      rw [List.getD_eq_getElem?_getD,List.getElem?_eq_getElem (by omega)]
      exact hi _ (List.getElem_mem _)
    obtain ⟨m',m1,m2,m3⟩:=markc_held (l.getD j []) c h0 (by omega) (by omega) k (by omega)
    obtain ⟨t,l',a1,a2,a3,a4,a5⟩:=ih (j+1) k (l.set j m') (c+((l.getD j []).length:Int)) (by simp;omega) (by simpa using hl) (fun x hx2=>by
      rcases List.mem_or_eq_of_mem_set hx2 with h|h
      · exact hi x h
      · rw [h];omega) (by omega) (by omega) (by omega)
    refine ⟨t,l',?_,a2,by rw [a3,List.length_set],fun i hij=>?_,fun k' hk'=>?_⟩
    · simp only [laws_markInt64SS.l0]
      rw [if_pos (by omega),if_pos (by omega),Int.toNat_natCast,m1]
      simp only [Option.bind_some]
      rw [next_nat (n:=l.length) (by omega) (by omega)]
      exact a1
    · rw [a4 i (by omega),set_at (by omega),if_neg (by omega)]
    · obtain ⟨k',rfl⟩:=suc_of (show 0<k' by omega)
      have e:l'.getD j []=m':=by rw [a4 j (by omega),set_at (by omega),if_pos rfl]
      have hl':l'.length=l.length:=by rw [a3,List.length_set]
      simp only [laws_heldInt64SS.l0]
      rw [if_pos (by omega),if_pos (by omega),rdll_nat,e,m3 k' (by omega),Option.bind_some,if_neg (by omega),next_nat (n:=l.length) (by omega) (by omega)]
      exact a5 k' (by omega)
theorem marks2 (s:ByteArray) (f p:Int) (l:List (List Int)) (hl:l.length≤1048576) (hi:∀ x ∈ l,x.length≤1048576) (k:Nat) (hk:2097154<k):∃ t l',laws_markTariff.f k s f p l 1=some (t,l')∧0≤t∧∀ k',2097154<k'→laws_heldTariff.f k' s f p l' 1=some t:=by
  obtain ⟨t,l',h1,h2,_,_,h5⟩:=marks2_l0 l.length 0 k l 1 (by omega) hl hi (by omega) (by omega) (by omega)
  refine ⟨t,l',h1,h2,fun k' hk'=>?_⟩
  unfold laws_heldTariff.f laws_heldInt64SS.f
  have e:=h5 k' (by omega)
  rw [show ((0:Nat):Int)=0 from rfl] at e
  rw [e,Option.bind_some,if_neg (by omega)]
theorem FnExactRaiseTariff:laws_FnExactRaiseTariff.Pure:=by
  intro x n d hx _ _
  obtain ⟨s,f,p,L⟩:=x
  obtain ⟨hs,_,_,hl,hi⟩:=hx
  obtain ⟨m,hm⟩:∃ m,m=5000000:=⟨_,rfl⟩
  refine ⟨m+3,?_⟩
  show laws_FnExactRaiseTariff.f (m+3) s f p L n d=some true
  unfold laws_FnExactRaiseTariff.f
  obtain ⟨r,r1,r2,r3,r4⟩:=szTariff s f p L hs hl (fun x h=>(hi x h).1) 1048576 (by omega) (by omega) (m+3) (by omega)
  rw [r1,Option.bind_some]
  by_cases hr:r<0
  · rw [if_pos hr]
  rw [if_neg hr]
  obtain ⟨q1,q2,q3⟩:=r4 (by omega)
  obtain ⟨⟨s',f',p',R,e⟩,w1,i1,b1,b2,b3⟩:=raise_both s f p L n d (by omega)
  simp only at b1 b2 b3
  have er:(e !=e)=false:=by simp
  have tT:∀ k,2097154<k→laws_toTariff.f k s f p L=some (s,f,p,L):=fun k hk=>toTariff s f p L q2 q3 k hk
  have eL:∀ k,2097154<k→laws_eqTariff.f k s f p L s f p L=some true:=fun k hk=>eqTariff s f p L q2 q3 k hk
  have eR:∀ k,2097154<k→laws_eqTariff.f k s' f' p' R s' f' p' R=some true:=fun k hk=>eqTariff s' f' p' R (by omega) (fun x hx=>by rw [b3 x hx];omega) k hk
  rw [tT _ (by omega),Option.bind_some]
  simp only
  rw [w1 _ (by omega),Option.bind_some]
  simp only
  rw [Option.bind_some]
  simp only
  rw [i1 _ (by omega),Option.bind_some]
  simp only
  rw [eR _ (by omega),Option.bind_some,if_pos rfl,er]
  rw [laws_FnExactRaiseTariff.j0.eq_def]
  simp only
  rw [if_neg Bool.false_ne_true,tT _ (by omega),Option.bind_some]
  simp only
  rw [eL _ (by omega),Option.bind_some,if_pos rfl]
  obtain ⟨t1,l1,m1,m2,_⟩:=marks2 s f p L q2 q3 (m+2) (by omega)
  rw [m1,Option.bind_some]
  simp only
  rw [if_neg (by omega),eR _ (by omega),Option.bind_some,if_pos rfl,er]
  rw [laws_FnExactRaiseTariff.j1.eq_def]
  simp only
  obtain ⟨t2,l2,g1,g2,g3⟩:=marks2 s' f' p' R (by omega) (fun x hx=>by rw [b3 x hx];omega) (m+1) (by omega)
  rw [if_neg Bool.false_ne_true,g1,Option.bind_some]
  simp only
  rw [g3 _ (by omega),Option.bind_some,if_neg (by omega),if_pos rfl,tT _ (by omega),Option.bind_some]
  simp only
  rw [i1 _ (by omega),Option.bind_some]
  simp only
  rw [eR _ (by omega),Option.bind_some,if_pos rfl,er]
  rw [laws_FnExactRaiseTariff.j2.eq_def]
  simp only
  rw [if_neg Bool.false_ne_true,g3 _ (by omega),Option.bind_some,if_neg (by omega),if_pos rfl]

end Go.Proofs.Ytfffhokkhgbibaa.Pure
