/- Thicker coats lose no more, shares of losses are parts of a thousand, and no thickness is better than the best one. No condition. -/
import Derived.Test.YtldelmdmienmeaaPFnLossesx13
namespace Go.Proofs.Ytldelmdmienmeaa.Pure
open Go.RowKit Go.Proofs.Ytldelmdmienmeaa.PFnLosses Go.Proofs.YtldelmdmienmeaaW.PrintWords Go.Proofs.YtldelmdmienmeaaW.PrintLast Go.Proofs.YtldelmdmienmeaaW.PrintMore
set_option linter.unusedVariables false
set_option linter.unusedSimpArgs false

theorem wrap_id {x:Int} (h1:-9223372036854775808≤x) (h2:x≤9223372036854775807):wrap64 x=x:=by unfold wrap64;omega
theorem wf_i64 {x:Int} (h:(Lit.int .i64 x).wf=true):-9223372036854775808≤x∧x≤9223372036854775807:=by
  simp [Lit.wf,IntKind.min,IntKind.max,IntKind.bits,IntKind.signed] at h;omega
theorem mul_bounds {a b A B:Int} (h0:0≤a) (hA:a≤A) (h1:-B≤b) (h2:b≤B) (hB:0≤B):-(A * B)≤a * b∧a * b≤A * B:=by
  have e1:=Int.mul_le_mul_of_nonneg_left h2 h0
  have e2:=Int.mul_le_mul_of_nonneg_right hA hB
  have e3:=Int.mul_le_mul_of_nonneg_left h1 h0
  have e4:a * -B= -(a * B):=Int.mul_neg a B
  omega
theorem mul_nonneg' {a b:Int} (h0:0≤a) (h1:0≤b):0≤a * b:=Int.mul_nonneg h0 h1
theorem next_nat {j n:Nat} (h:j<n) (hn:n≤4611686018427387904):wrap64 ((j:Int)+1)=((j+1:Nat):Int):=by
  rw [wrap_id (by omega) (by omega)];omega
theorem rd_nat (l:List Int) (j:Nat):rd l (j:Int)=l.getD j 0:=by unfold rd;simp
theorem ifp {α:Type} {c:Prop} [Decidable c] {a b:α} (h:c):(if c then a else b)=a:=if_pos h
theorem ifn {α:Type} {c:Prop} [Decidable c] {a b:α} (h:¬ c):(if c then a else b)=b:=if_neg h
theorem suc_of {k d:Nat} (h:d<k):∃ m,k=m+1:=⟨k - 1,by omega⟩
theorem getD_lt {α:Type} {l:List α} {j:Nat} {d:α} (h:j<l.length):l.getD j d=l[j]:=by
  rw [List.getD_eq_getElem?_getD,List.getElem?_eq_getElem h];rfl
theorem drop_cons {α:Type} (l:List α) {j:Nat} (h:j<l.length) (d:α):l.drop j=l.getD j d :: l.drop (j+1):=by
  rw [getD_lt h];exact List.drop_eq_getElem_cons h
theorem up {α:Type} {g:Nat→Option α} (hm:∀ k,LeO (g k) (g (k+1))) {k0:Nat} {r:α} (h:g k0=some r):∀ k,k0≤k→g k=some r:=by
  intro k hk
  induction hk with
  |refl=>exact h
  |step _ ih=>exact hm _ _ ih

/-! The source that the draws read. -/
theorem wf_u8 {x:Int} (h:(Lit.int .u8 x).wf=true):0≤x∧x≤255:=by
  simp [Lit.wf,IntKind.min,IntKind.max,IntKind.bits,IntKind.signed] at h;omega
def bytes (l:List Int):Prop:=∀ x ∈ l,(Lit.int .u8 x).wf=true
theorem and_b (x:Int):0≤Go.bits .and .u64 x 255∧Go.bits .and .u64 x 255≤255:=by
  unfold Go.bits
  simp only [BitVec.toNat_and]
  have h:(BitVec.ofInt IntKind.u64.bits x).toNat &&& (BitVec.ofInt IntKind.u64.bits 255).toNat≤255:=Nat.le_trans Nat.and_le_right (by decide)
  generalize (BitVec.ofInt IntKind.u64.bits x).toNat &&& (BitVec.ofInt IntKind.u64.bits 255).toNat=n at *
  have e:IntKind.u64.wrap (n:Int)=(n:Int):=by
    unfold IntKind.wrap
    simp [IntKind.bits,IntKind.signed]
    omega
  rw [e];omega
theorem and_w (x:Int):wrap64 (Go.bits .and .u64 x 255)=Go.bits .and .u64 x 255:=by
  have b:=and_b x
  exact wrap_id (by omega) (by omega)
theorem src_next (L:List Int) (hL:bytes L) (i s:Int) (h0:0≤i) (h1:i≤1000000):∃ v s',spec_l00Src_next.f L i s=some (v,i+1,s')∧0≤v∧v≤255:=by
  unfold spec_l00Src_next.f
  rw [wrap_id (x:=i+1) (by omega) (by omega)]
  by_cases c:i<(L.length:Int)
  · obtain ⟨n,rfl⟩:∃ n:Nat,i=n:=⟨i.toNat,by omega⟩
    have hb:0≤L.getD n 0∧L.getD n 0≤255:=by rw [getD_lt (by omega)];exact wf_u8 (hL _ (List.getElem_mem (by omega)))
    rw [if_pos c,if_pos h0,if_pos (by omega),rd_nat,wrap_id (x:=L.getD n 0) (by omega) (by omega)]
    exact ⟨_,_,rfl,hb.1,hb.2⟩
  · rw [if_neg c,if_neg (by omega)]
    rw [and_w]
    exact ⟨_,_,rfl,(and_b _).1,(and_b _).2⟩
theorem src_pick (L:List Int) (hL:bytes L) (i s n:Int) (h0:0≤i) (h1:i≤900000):∃ v j s',spec_l00Src_pick.f L i s n=some (v,j,s')∧(0≤v∧(1<n→v<n))∧i≤j∧j≤i+2:=by
  unfold spec_l00Src_pick.f
  by_cases c:n≤1
  · rw [if_pos c];exact ⟨_,_,_,rfl,⟨by omega,fun h=>by omega⟩,by omega,by omega⟩
  · rw [if_neg c]
    obtain ⟨v,s1,e1,v0,v1⟩:=src_next L hL i s h0 (by omega)
    rw [e1,Option.bind_some]
    simp only []
    by_cases d:n > 200
    · obtain ⟨w,s2,e2,w0,w1⟩:=src_next L hL (i+1) s1 (by omega) (by omega)
      rw [if_pos d,e2,Option.bind_some]
      simp only []
      rw [if_neg (by omega),wrap_id (x:=v * 256) (by omega) (by omega),wrap_id (x:=v * 256+w) (by omega) (by omega),Int.tmod_eq_emod_of_nonneg (by omega)]
      exact ⟨_,_,_,rfl,⟨Int.emod_nonneg _ (by omega),fun _=>Int.emod_lt_of_pos _ (by omega)⟩,by omega,by omega⟩
    · rw [if_neg d,if_neg (by omega),Int.tmod_eq_emod_of_nonneg v0]
      exact ⟨_,_,_,rfl,⟨Int.emod_nonneg _ (by omega),fun _=>Int.emod_lt_of_pos _ (by omega)⟩,by omega,by omega⟩
theorem src_among (L:List Int) (hL:bytes L) (i s:Int) (l:List Int) (hl:0<l.length) (h0:0≤i) (h1:i≤900000):∃ v j s',spec_l00Src_among.f L i s l=some (v,j,s')∧v ∈ l∧i≤j∧j≤i+2:=by
  obtain ⟨v,j,s',e,hv,hj⟩:=src_pick L hL i s (l.length:Int) h0 h1
  have hb:v<(l.length:Int):=by
    by_cases c:1<(l.length:Int)
    · exact hv.2 c
    · have e1:(l.length:Int)=1:=by omega
      unfold spec_l00Src_pick.f at e
      rw [if_pos (by omega)] at e
      cases e;omega
  unfold spec_l00Src_among.f
  rw [e,Option.bind_some]
  simp only []
  rw [if_pos hv.1,if_pos hb]
  refine ⟨_,_,_,rfl,?_,hj.1,hj.2⟩
  obtain ⟨n,rfl⟩:∃ n:Nat,v=n:=⟨v.toNat,by omega⟩
  rw [rd_nat,getD_lt (by omega)]
  exact List.getElem_mem _
theorem src_one (L:List Int) (hL:bytes L) (i s n:Int) (h0:0≤i) (h1:i≤900000):∃ v j s',spec_l00Src_one.f L i s n=some (v,j,s')∧i≤j∧j≤i+2:=by
  obtain ⟨v,j,s',e,hv,hj⟩:=src_pick L hL i s n h0 h1
  unfold spec_l00Src_one.f
  rw [e,Option.bind_some]
  exact ⟨_,_,_,rfl,hj⟩

/-! The networks that are drawn: never too large. -/
theorem getD_size {l:List ByteArray} {B:Nat} (h:∀ x ∈ l,x.size≤B) (i:Nat):(l.getD i ByteArray.empty).size≤B:=by
  rw [List.getD_eq_getElem?_getD]
  cases e:l[i]? with
  |none=>exact Nat.zero_le B
  |some x=>exact h x (List.mem_of_getElem? e)
theorem src_text (L:List Int) (hL:bytes L) (i s:Int) (l:List ByteArray) (hl:1<l.length) (hB:∀ x ∈ l,x.size≤11) (h0:0≤i) (h1:i≤900000):∃ v j s',spec_l00Src_text.f L i s l=some (v,j,s')∧v.size≤11∧i≤j∧j≤i+2:=by
  obtain ⟨v,j,s',e,hv,hj⟩:=src_pick L hL i s (l.length:Int) h0 h1
  have hb:=hv.2 (by omega)
  unfold spec_l00Src_text.f
  rw [e,Option.bind_some]
  simp only []
  rw [if_pos hv.1,if_pos hb]
  exact ⟨_,_,_,rfl,getD_size hB _,hj.1,hj.2⟩
theorem draw_pipe (L:List Int) (hL:bytes L) (i s:Int) (q:ByteArray) (a b:Int) (h0:0≤i) (h1:i≤800000):∃ l w c j s',spec_l03DrawOk.f L i s q a b=some (q,a,b,l,w,c,j,s')∧i≤j∧j≤i+6:=by
  obtain ⟨v1,j1,s1,e1,_,k1⟩:=src_pick L hL i s 900 h0 (by omega)
  obtain ⟨v2,j2,s2,e2,_,k2⟩:=src_pick L hL j1 s1 20 (by omega) (by omega)
  obtain ⟨v3,j3,s3,e3,_,k3⟩:=src_pick L hL j2 s2 600 (by omega) (by omega)
  unfold spec_l03DrawOk.f
  rw [e1,Option.bind_some];simp only []
  rw [e2,Option.bind_some];simp only []
  rw [e3,Option.bind_some]
  exact ⟨_,_,_,_,_,rfl,by first|omega|(dsimp only;omega),by first|omega|(dsimp only;omega)⟩
theorem draw_bent (L:List Int) (hL:bytes L) (i s:Int) (h0:0≤i) (h1:i≤700000):∃ q a b l w c j s',spec_l03Bent.f L i s=some (q,a,b,l,w,c,j,s')∧q.size≤11∧i≤j∧j≤i+20:=by
  obtain ⟨q,j1,s1,e1,hq,k1⟩:=src_text L hL i s [(⟨#[97]⟩:ByteArray),(⟨#[98]⟩:ByteArray),(⟨#[109,97,105,110]⟩:ByteArray),(⟨#[112,105,112,101,49]⟩:ByteArray)] (by decide) (by decide) h0 (by omega)
  obtain ⟨v2,j2,s2,e2,_,k2⟩:=src_pick L hL j1 s1 8 (by omega) (by omega)
  obtain ⟨v3,j3,s3,e3,_,k3⟩:=src_pick L hL j2 s2 7 (by omega) (by omega)
  obtain ⟨l,w,c,j4,s4,e4,k4⟩:=draw_pipe L hL j3 s3 q v2 (Int.tmod (wrap64 ((wrap64 (v2+1))+v3)) 8) (by omega) (by omega)
  obtain ⟨v5,j5,s5,e5,_,k5⟩:=src_pick L hL j4 s4 20 (by omega) (by omega)
  unfold spec_l03Bent.f
  rw [e1,Option.bind_some];simp only []
  rw [e2,Option.bind_some];simp only []
  rw [e3,Option.bind_some];simp only []
  rw [e4,Option.bind_some];simp only []
  rw [e5,Option.bind_some];simp only []
  by_cases c0:v5=0
  · obtain ⟨v6,j6,s6,e6,_,k6⟩:=src_among L hL j5 s5 [v2,15,16,(-1)] (by simp) (by omega) (by omega)
    rw [if_pos c0,e6,Option.bind_some]
    exact ⟨_,_,_,_,_,_,_,_,rfl,hq,by first|omega|(dsimp only;omega),by first|omega|(dsimp only;omega)⟩
  rw [if_neg c0]
  by_cases c1:v5=1
  · obtain ⟨v6,j6,s6,e6,_,k6⟩:=src_among L hL j5 s5 [0,1,10000,10001] (by decide) (by omega) (by omega)
    rw [if_pos c1,e6,Option.bind_some]
    exact ⟨_,_,_,_,_,_,_,_,rfl,hq,by first|omega|(dsimp only;omega),by first|omega|(dsimp only;omega)⟩
  rw [if_neg c1]
  by_cases c2:v5=2
  · obtain ⟨v6,j6,s6,e6,_,k6⟩:=src_among L hL j5 s5 [19,20,1000,1001] (by decide) (by omega) (by omega)
    rw [if_pos c2,e6,Option.bind_some]
    exact ⟨_,_,_,_,_,_,_,_,rfl,hq,by first|omega|(dsimp only;omega),by first|omega|(dsimp only;omega)⟩
  rw [if_neg c2]
  by_cases c3:v5=3
  · obtain ⟨v6,j6,s6,e6,_,k6⟩:=src_among L hL j5 s5 [(-1),0,5000,5001] (by decide) (by omega) (by omega)
    rw [if_pos c3,e6,Option.bind_some]
    exact ⟨_,_,_,_,_,_,_,_,rfl,hq,by first|omega|(dsimp only;omega),by first|omega|(dsimp only;omega)⟩
  rw [if_neg c3]
  by_cases c4:v5=4
  · obtain ⟨v6,j6,s6,e6,h6,k6⟩:=src_text L hL j5 s5 [(⟨#[]⟩:ByteArray),(⟨#[65]⟩:ByteArray),(⟨#[97,98,99,100,101,102,103,104,105,106,107]⟩:ByteArray)] (by decide) (by decide) (by omega) (by omega)
    rw [if_pos c4,e6,Option.bind_some]
    exact ⟨_,_,_,_,_,_,_,_,rfl,h6,by first|omega|(dsimp only;omega),by first|omega|(dsimp only;omega)⟩
  rw [if_neg c4]
  exact ⟨_,_,_,_,_,_,_,_,rfl,hq,by first|omega|(dsimp only;omega),by first|omega|(dsimp only;omega)⟩
def Pok (P:List S41):Prop:=∀ p ∈ P,p.f0.size≤11
theorem Pok_add {P:List S41} (h:Pok P) (p:S41) (hp:p.f0.size≤11):Pok (P++[p]):=fun x hx=>by
  rcases List.mem_append.1 hx with h1|h1
  · exact h x h1
  · rw [List.mem_singleton.1 h1];exact hp
theorem Pok_nil:Pok []:=fun x hx=>by cases hx
def ids:List ByteArray:=[(⟨#[97]⟩:ByteArray),(⟨#[98]⟩:ByteArray),(⟨#[99]⟩:ByteArray),(⟨#[100]⟩:ByteArray),(⟨#[101]⟩:ByteArray),(⟨#[102]⟩:ByteArray),(⟨#[103]⟩:ByteArray),(⟨#[104]⟩:ByteArray),(⟨#[105]⟩:ByteArray),(⟨#[106]⟩:ByteArray),(⟨#[107]⟩:ByteArray),(⟨#[108]⟩:ByteArray)]
theorem ids_len:ids.length=12:=rfl
theorem ids_size (i:Int):(rdOf ByteArray.empty ids i).size≤11:=getD_size (by decide) _
theorem ids_f:spec_l04Ids.f=some ids:=rfl
theorem tree_l1 (L:List Int) (hL:bytes L) (many:Int) (hm:many≤7) (N:List Int):∀ (d:Nat) (x i s:Int) (P:List S41),x+(d:Int)=many→1≤x→(P.length:Int)<x→Pok P→0≤i→i+10 * (d:Int)≤600000→∃ P' j s',(∀ k,d<k→spec_l04DrawTree.l1 k many ids x L i s N P=some (N,P',j,s'))∧P'.length≤7∧Pok P'∧i≤j∧j≤i+10 * (d:Int):=by
  intro d
  induction d with
  |zero=>
    intro x i s P hx x1 hl hP h0 h1
    refine ⟨P,i,s,fun k hk=>?_,by omega,hP,by omega,by omega⟩
    obtain ⟨k,rfl⟩:=suc_of hk
    simp only [spec_l04DrawTree.l1]
    rw [if_neg (by omega)]
  |succ d ih=>
    intro x i s P hx x1 hl hP h0 h1
    obtain ⟨v1,j1,s1,e1,_,k1⟩:=src_pick L hL i s x h0 (by omega)
    obtain ⟨v2,j2,s2,e2,k2⟩:=src_one L hL j1 s1 3 (by omega) (by omega)
    have hid:=ids_size (x - 1)
    have w1:wrap64 (x - 1)=x - 1:=wrap_id (by omega) (by omega)
    have w2:wrap64 (x+1)=x+1:=wrap_id (by omega) (by omega)
    have q1:0≤x - 1:=by omega
    have q2:x - 1<(ids.length:Int):=by rw [ids_len];omega
    have q3:x<many:=by omega
    have q4:P.length<2513169434916:=by omega
    cases v2 with
    |true=>
      obtain ⟨l,w,c,j3,s3,e3,k3⟩:=draw_pipe L hL j2 s2 (rdOf ByteArray.empty ids (x - 1)) x v1 (by omega) (by omega)
      obtain ⟨P',j,s',e4,l4,p4,k4⟩:=ih (x+1) j3 s3 (P++[⟨rdOf ByteArray.empty ids (x - 1),x,v1,l,w,c⟩]) (by omega) (by omega) (by simp;omega) (Pok_add hP _ hid) (by omega) (by omega)
      refine ⟨P',j,s',fun k hk=>?_,l4,p4,by omega,by omega⟩
      obtain ⟨k,rfl⟩:=suc_of (show 0<k by omega)
      simp only [spec_l04DrawTree.l1]
      rw [if_pos q3,e1,Option.bind_some];simp only []
      rw [e2,Option.bind_some];simp only []
      rw [if_pos trivial,w1,if_pos q1,if_pos q2,e3,Option.bind_some,if_pos q4,w2]
      exact e4 k (by omega)
    |false=>
      obtain ⟨l,w,c,j3,s3,e3,k3⟩:=draw_pipe L hL j2 s2 (rdOf ByteArray.empty ids (x - 1)) v1 x (by omega) (by omega)
      obtain ⟨P',j,s',e4,l4,p4,k4⟩:=ih (x+1) j3 s3 (P++[⟨rdOf ByteArray.empty ids (x - 1),v1,x,l,w,c⟩]) (by omega) (by omega) (by simp;omega) (Pok_add hP _ hid) (by omega) (by omega)
      refine ⟨P',j,s',fun k hk=>?_,l4,p4,by omega,by omega⟩
      obtain ⟨k,rfl⟩:=suc_of (show 0<k by omega)
      simp only [spec_l04DrawTree.l1]
      rw [if_pos q3,e1,Option.bind_some];simp only []
      rw [e2,Option.bind_some];simp only []
      rw [if_neg Bool.false_ne_true,w1,if_pos q1,if_pos q2,e3,Option.bind_some,if_pos q4,w2]
      exact e4 k (by omega)
theorem tree_l0 (L:List Int) (hL:bytes L) (many:Int) (hm0:1≤many) (hm:many≤7):∀ (d:Nat) (x i s:Int) (N:List Int),x+(d:Int)=many→0≤x→(N.length:Int)=x→0≤i→i+2 * (d:Int)≤500000→∃ N' P' j s',(∀ k,d+10<k→spec_l04DrawTree.l0 k many x L i s N []=some (N',P',j,s'))∧(1≤N'.length∧N'.length≤7)∧P'.length≤7∧Pok P'∧i≤j∧j≤i+2 * (d:Int)+70:=by
  intro d
  induction d with
  |zero=>
    intro x i s N hx x0 hN h0 h1
    obtain ⟨P',j,s',e1,l1,p1,k1⟩:=tree_l1 L hL many hm N (many - 1).toNat 1 i s [] (by omega) (by omega) (by simp) Pok_nil h0 (by omega)
    refine ⟨N,P',j,s',fun k hk=>?_,by omega,l1,p1,by omega,by omega⟩
    obtain ⟨k,rfl⟩:=suc_of (show 0<k by omega)
    simp only [spec_l04DrawTree.l0]
    rw [if_neg (by omega),ids_f,Option.bind_some]
    exact e1 k (by omega)
  |succ d ih=>
    intro x i s N hx x0 hN h0 h1
    obtain ⟨v1,j1,s1,e1,_,k1⟩:=src_pick L hL i s 40 h0 (by omega)
    obtain ⟨N',P',j,s',e2,r1,r2,r3,k2⟩:=ih (x+1) j1 s1 (N++[wrap64 ((wrap64 (100 * v1)) - 1000)]) (by omega) (by omega) (by simp;omega) (by omega) (by omega)
    refine ⟨N',P',j,s',fun k hk=>?_,r1,r2,r3,by omega,by omega⟩
    obtain ⟨k,rfl⟩:=suc_of (show 0<k by omega)
    simp only [spec_l04DrawTree.l0]
    rw [if_pos (by omega),e1,Option.bind_some,if_pos (by omega),wrap_id (x:=x+1) (by omega) (by omega)]
    exact e2 k (by omega)
theorem draw_tree (L:List Int) (hL:bytes L) (i s:Int) (h0:0≤i) (h1:i≤400000):∃ N P j s',(∀ k,100<k→spec_l04DrawTree.f k L i s=some (N,P,j,s'))∧(1≤N.length∧N.length≤7)∧P.length≤7∧Pok P∧i≤j∧j≤i+100:=by
  obtain ⟨v1,j1,s1,e1,hv,k1⟩:=src_pick L hL i s 5 h0 (by omega)
  have hv2:=hv.2 (by omega)
  obtain ⟨N,P,j,s',e2,r1,r2,r3,k2⟩:=tree_l0 L hL (2+v1) (by omega) (by omega) (2+v1).toNat 0 j1 s1 [] (by omega) (by omega) (by simp) (by omega) (by omega)
  refine ⟨N,P,j,s',fun k hk=>?_,r1,r2,r3,by omega,by omega⟩
  unfold spec_l04DrawTree.f
  rw [e1,Option.bind_some];simp only []
  rw [wrap_id (x:=2+v1) (by omega) (by omega)]
  exact e2 k (by omega)
theorem ok_l0 (L:List Int) (hL:bytes L) (N:List Int):∀ (d:Nat) (i s:Int) (P:List S41),P.length+d≤12→Pok P→0≤i→i+10 * (d:Int)≤600000→∃ P' j s',(∀ k,d<k→spec_l04DrawOk.l0 k ids (d:Int) L i s N P=some (N,P',j,s'))∧P'.length≤12∧Pok P'∧i≤j∧j≤i+10 * (d:Int)+2:=by
  intro d
  induction d with
  |zero=>
    intro i s P hl hP h0 h1
    obtain ⟨v1,j1,s1,e1,k1⟩:=src_one L hL i s 4 h0 (by omega)
    cases v1 with
    |true=>
      by_cases c:(P.length:Int) > 0
      · refine ⟨P.drop 1,j1,s1,fun k hk=>?_,by rw [List.length_drop];omega,fun x hx=>hP x (List.mem_of_mem_drop hx),by omega,by omega⟩
        obtain ⟨k,rfl⟩:=suc_of hk
        simp only [spec_l04DrawOk.l0]
        rw [if_neg (by omega),e1,Option.bind_some];simp only []
        rw [if_pos trivial,if_pos c,if_pos (by omega)]
        rfl
      · refine ⟨P,j1,s1,fun k hk=>?_,by omega,hP,by omega,by omega⟩
        obtain ⟨k,rfl⟩:=suc_of hk
        simp only [spec_l04DrawOk.l0]
        rw [if_neg (by omega),e1,Option.bind_some];simp only []
        rw [if_pos trivial,if_neg c]
    |false=>
      refine ⟨P,j1,s1,fun k hk=>?_,by omega,hP,by omega,by omega⟩
      obtain ⟨k,rfl⟩:=suc_of hk
      simp only [spec_l04DrawOk.l0]
      rw [if_neg (by omega),e1,Option.bind_some];simp only []
      rw [if_neg Bool.false_ne_true]
  |succ d ih=>
    intro i s P hl hP h0 h1
    obtain ⟨v1,j1,s1,e1,_,k1⟩:=src_pick L hL i s (N.length:Int) h0 (by omega)
    obtain ⟨v2,j2,s2,e2,_,k2⟩:=src_pick L hL j1 s1 (N.length:Int) (by omega) (by omega)
    have w:wrap64 (((d+1:Nat):Int) - 1)=(d:Int):=by rw [wrap_id (by omega) (by omega)];omega
    have q0:((d+1:Nat):Int) > 0:=by omega
    by_cases c:v1=v2
    · obtain ⟨P',j,s',e4,l4,p4,k4⟩:=ih j2 s2 P (by omega) hP (by omega) (by omega)
      refine ⟨P',j,s',fun k hk=>?_,l4,p4,by omega,by omega⟩
      obtain ⟨k,rfl⟩:=suc_of (show 0<k by omega)
      simp only [spec_l04DrawOk.l0]
      rw [if_pos q0,e1,Option.bind_some];simp only []
      rw [e2,Option.bind_some];simp only []
      rw [if_pos c,w]
      exact e4 k (by omega)
    · have q2:(P.length:Int)<(ids.length:Int):=by rw [ids_len];omega
      have hid:=ids_size (P.length:Int)
      obtain ⟨l,w',c',j3,s3,e3,k3⟩:=draw_pipe L hL j2 s2 (rdOf ByteArray.empty ids (P.length:Int)) v1 v2 (by omega) (by omega)
      obtain ⟨P',j,s',e4,l4,p4,k4⟩:=ih j3 s3 (P++[⟨rdOf ByteArray.empty ids (P.length:Int),v1,v2,l,w',c'⟩]) (by simp;omega) (Pok_add hP _ hid) (by omega) (by omega)
      refine ⟨P',j,s',fun k hk=>?_,l4,p4,by omega,by omega⟩
      obtain ⟨k,rfl⟩:=suc_of (show 0<k by omega)
      simp only [spec_l04DrawOk.l0]
      rw [if_pos q0,e1,Option.bind_some];simp only []
      rw [e2,Option.bind_some];simp only []
      rw [if_neg c,if_pos q2,if_pos (by omega),e3,Option.bind_some,if_pos (by omega),w]
      exact e4 k (by omega)
theorem draw_okn (L:List Int) (hL:bytes L) (i s:Int) (h0:0≤i) (h1:i≤300000):∃ N P j s',(∀ k,100<k→spec_l04DrawOk.f k L i s=some (N,P,j,s'))∧(1≤N.length∧N.length≤7)∧P.length≤12∧Pok P∧i≤j∧j≤i+150:=by
  obtain ⟨N,P,j1,s1,e1,r1,r2,r3,k1⟩:=draw_tree L hL i s h0 (by omega)
  obtain ⟨v2,j2,s2,e2,hv,k2⟩:=src_pick L hL j1 s1 4 (by omega) (by omega)
  have hv2:=hv.2 (by omega)
  obtain ⟨P',j,s',e3,l3,p3,k3⟩:=ok_l0 L hL N v2.toNat j2 s2 P (by omega) r3 (by omega) (by omega)
  refine ⟨N,P',j,s',fun k hk=>?_,r1,l3,p3,by omega,by omega⟩
  unfold spec_l04DrawOk.f
  rw [e1 k hk,Option.bind_some];simp only []
  rw [ids_f,Option.bind_some,e2,Option.bind_some];simp only []
  have:=e3 k (by omega)
  rw [show ((v2.toNat:Nat):Int)=v2 by omega] at this
  exact this
theorem many_l0 (L:List Int) (hL:bytes L) (many:Int) (hm:many≤21) (N:List Int):∀ (d:Nat) (x i s:Int) (P:List S41),x+(d:Int)=many→0≤x→(P.length:Int)=x→Pok P→0≤i→i+10 * (d:Int)≤600000→∃ P' j s',(∀ k,d<k→spec_l04Draw.l0 k many x L i s N P=some (N,P',j,s'))∧P'.length≤21∧Pok P'∧i≤j∧j≤i+10 * (d:Int):=by
  intro d
  induction d with
  |zero=>
    intro x i s P hx x0 hl hP h0 h1
    refine ⟨P,i,s,fun k hk=>?_,by omega,hP,by omega,by omega⟩
    obtain ⟨k,rfl⟩:=suc_of hk
    simp only [spec_l04Draw.l0]
    rw [if_neg (by omega)]
  |succ d ih=>
    intro x i s P hx x0 hl hP h0 h1
    have hz:((⟨#[110]⟩:ByteArray)++strOfNums [(wrap64 (97+x)) % 256]).size=2:=by
      rw [ByteArray.size_append,Go.strOfNums_size];rfl
    obtain ⟨l,w',c',j3,s3,e3,k3⟩:=draw_pipe L hL i s ((⟨#[110]⟩:ByteArray)++strOfNums [(wrap64 (97+x)) % 256]) (Int.tmod x 2) (wrap64 (1 - (Int.tmod x 2))) h0 (by omega)
    obtain ⟨P',j,s',e4,l4,p4,k4⟩:=ih (x+1) j3 s3 (P++[⟨(⟨#[110]⟩:ByteArray)++strOfNums [(wrap64 (97+x)) % 256],Int.tmod x 2,wrap64 (1 - (Int.tmod x 2)),l,w',c'⟩]) (by omega) (by omega) (by simp;omega) (Pok_add hP _ (by show ByteArray.size _≤11;rw [hz];omega)) (by omega) (by omega)
    refine ⟨P',j,s',fun k hk=>?_,l4,p4,by omega,by omega⟩
    obtain ⟨k,rfl⟩:=suc_of (show 0<k by omega)
    simp only [spec_l04Draw.l0]
    rw [if_pos (by omega),Option.bind_some,if_pos (by rw [Go.strOfNums_size];simp),e3,Option.bind_some,if_pos (by omega),wrap_id (x:=x+1) (by omega) (by omega)]
    exact e4 k (by omega)
theorem draw_net (L:List Int) (hL:bytes L) (i s:Int) (h0:0≤i) (h1:i≤200000):∃ N P j s',(∀ k,200<k→spec_l04Draw.f k L i s=some (N,P,j,s'))∧N.length≤17∧P.length≤21∧Pok P∧i≤j∧j≤i+500:=by
  obtain ⟨N,P,j1,s1,e1,r1,r2,r3,k1⟩:=draw_okn L hL i s h0 (by omega)
  obtain ⟨v2,j2,s2,e2,hv,k2⟩:=src_pick L hL j1 s1 20 (by omega) (by omega)
  by_cases c0:v2=0
  · obtain ⟨v3,j3,s3,e3,_,k3⟩:=src_among L hL j2 s2 [(-100001),(-100000),100000,100001] (by decide) (by omega) (by omega)
    refine ⟨N.set (0:Int).toNat v3,P,j3,s3,fun k hk=>?_,by rw [List.length_set];omega,by omega,r3,by omega,by omega⟩
    unfold spec_l04Draw.f
    rw [e1 k (by omega),Option.bind_some];simp only []
    rw [e2,Option.bind_some];simp only []
    rw [if_pos c0,e3,Option.bind_some];simp only []
    rw [if_pos (by omega)]
  by_cases c1:v2=1
  · obtain ⟨q,a,b,l,w,c,j3,s3,e3,hq,k3⟩:=draw_bent L hL j2 s2 (by omega) (by omega)
    refine ⟨N,P++[⟨q,a,b,l,w,c⟩],j3,s3,fun k hk=>?_,by omega,by simp;omega,Pok_add r3 _ hq,by omega,by omega⟩
    unfold spec_l04Draw.f
    rw [e1 k (by omega),Option.bind_some];simp only []
    rw [e2,Option.bind_some];simp only []
    rw [if_neg c0,if_pos c1,e3,Option.bind_some];simp only []
    rw [if_pos (by omega)]
  by_cases c2:v2=2
  · obtain ⟨v3,j3,s3,e3,hm,k3⟩:=src_among L hL j2 s2 [16,17] (by decide) (by omega) (by omega)
    have hb:0≤v3∧v3≤17:=by simp at hm;omega
    refine ⟨List.replicate v3.toNat 0,P,j3,s3,fun k hk=>?_,by rw [List.length_replicate];omega,by omega,r3,by omega,by omega⟩
    unfold spec_l04Draw.f
    rw [e1 k (by omega),Option.bind_some];simp only []
    rw [e2,Option.bind_some];simp only []
    rw [if_neg c0,if_neg c1,if_pos c2,e3,Option.bind_some];simp only []
    rw [if_pos hb.1,if_pos (by omega)]
  by_cases c3:v2=3
  · obtain ⟨v3,j3,s3,e3,hm,k3⟩:=src_among L hL j2 s2 [20,21] (by decide) (by omega) (by omega)
    have hb:0≤v3∧v3≤21:=by simp at hm;omega
    obtain ⟨P',j,s',e4,l4,p4,k4⟩:=many_l0 L hL v3 hb.2 N v3.toNat 0 j3 s3 [] (by omega) (by omega) (by simp) Pok_nil (by omega) (by omega)
    refine ⟨N,P',j,s',fun k hk=>?_,by omega,by omega,p4,by omega,by omega⟩
    unfold spec_l04Draw.f
    rw [e1 k (by omega),Option.bind_some];simp only []
    rw [e2,Option.bind_some];simp only []
    rw [if_neg c0,if_neg c1,if_neg c2,if_pos c3,e3,Option.bind_some];simp only []
    exact e4 k (by omega)
  by_cases c4:v2=4
  · refine ⟨[],P,j2,s2,fun k hk=>?_,by simp,by omega,r3,by omega,by omega⟩
    unfold spec_l04Draw.f
    rw [e1 k (by omega),Option.bind_some];simp only []
    rw [e2,Option.bind_some];simp only []
    rw [if_neg c0,if_neg c1,if_neg c2,if_neg c3,if_pos c4]
  · refine ⟨N,P,j2,s2,fun k hk=>?_,by omega,by omega,r3,by omega,by omega⟩
    unfold spec_l04Draw.f
    rw [e1 k (by omega),Option.bind_some];simp only []
    rw [e2,Option.bind_some];simp only []
    rw [if_neg c0,if_neg c1,if_neg c2,if_neg c3,if_neg c4]
theorem draw_degrees (L:List Int) (hL:bytes L) (i s:Int) (h0:0≤i) (h1:i≤800000):∃ v j s',spec_l03DrawDegrees.f L i s=some (v,j,s')∧(-5001≤v∧v≤20001)∧i≤j∧j≤i+4:=by
  obtain ⟨v1,j1,s1,e1,hv,k1⟩:=src_pick L hL i s 13000 h0 (by omega)
  have hv2:=hv.2 (by omega)
  obtain ⟨v2,j2,s2,e2,hm,k2⟩:=src_among L hL j1 s1 [v1,v1,v1,v1,v1,(-5000),20000,(-5001),20001] (by simp) (by omega) (by omega)
  have hb:-5001≤v2∧v2≤20001:=by simp at hm;omega
  unfold spec_l03DrawDegrees.f
  rw [e1,Option.bind_some];simp only []
  rw [e2,Option.bind_some]
  exact ⟨_,_,_,rfl,hb,by first|omega|(dsimp only;omega),by first|omega|(dsimp only;omega)⟩
theorem draw_shares (L:List Int) (hL:bytes L):∃ N P w g,(∀ k,200<k→spec_DrawLossShares.f k L=some (N,P,w,g))∧N.length≤17∧P.length≤21∧Pok P∧(-5001≤w∧w≤20001)∧(-5001≤g∧g≤20001):=by
  obtain ⟨N,P,j1,s1,e1,r1,r2,r3,k1⟩:=draw_net L hL 0 0 (by omega) (by omega)
  obtain ⟨w,j2,s2,e2,hw,k2⟩:=draw_degrees L hL j1 s1 (by omega) (by omega)
  obtain ⟨v3,j3,s3,e3,k3⟩:=src_one L hL j2 s2 8 (by omega) (by omega)
  cases v3 with
  |true=>
    refine ⟨N,P,w,w,fun k hk=>?_,r1,r2,r3,hw,hw⟩
    unfold spec_DrawLossShares.f spec_l00From.f
    rw [Option.bind_some];simp only []
    rw [e1 k hk,Option.bind_some];simp only []
    rw [e2,Option.bind_some];simp only []
    rw [e3,Option.bind_some];simp only []
    rw [if_pos trivial]
  |false=>
    obtain ⟨g,j4,s4,e4,hg,k4⟩:=draw_degrees L hL j3 s3 (by omega) (by omega)
    refine ⟨N,P,w,g,fun k hk=>?_,r1,r2,r3,hw,hg⟩
    unfold spec_DrawLossShares.f spec_l00From.f
    rw [Option.bind_some];simp only []
    rw [e1 k hk,Option.bind_some];simp only []
    rw [e2,Option.bind_some];simp only []
    rw [e3,Option.bind_some];simp only []
    rw [if_neg Bool.false_ne_true,e4,Option.bind_some]
theorem draw_coat (L:List Int) (hL:bytes L):∃ d t c,spec_DrawCoatLoss.f L=some (d,t,c)∧0≤t∧t≤301:=by
  obtain ⟨v1,j1,s1,e1,h1,k1⟩:=src_pick L hL 0 0 90 (by omega) (by omega)
  obtain ⟨v2,j2,s2,e2,h2,k2⟩:=src_pick L hL j1 s1 200 (by omega) (by omega)
  obtain ⟨v3,j3,s3,e3,h3,k3⟩:=src_pick L hL j2 s2 100 (by omega) (by omega)
  obtain ⟨v4,j4,s4,e4,h4,k4⟩:=src_pick L hL j3 s3 10 (by omega) (by omega)
  have b2:=h2.2 (by omega)
  have w2:wrap64 (1+v2)=1+v2:=wrap_id (by omega) (by omega)
  unfold spec_DrawCoatLoss.f spec_l00From.f
  rw [Option.bind_some];simp only []
  rw [e1,Option.bind_some];simp only []
  rw [e2,Option.bind_some];simp only []
  rw [e3,Option.bind_some];simp only []
  rw [e4,Option.bind_some,w2];simp only []
  by_cases c0:v4=0
  · obtain ⟨v5,j5,s5,e5,_,k5⟩:=src_among L hL j4 s4 [19,20,1000,1001] (by decide) (by omega) (by omega)
    rw [if_pos c0,e5,Option.bind_some]
    exact ⟨_,_,_,rfl,by first|omega|(dsimp only;omega),by first|omega|(dsimp only;omega)⟩
  rw [if_neg c0]
  by_cases c1:v4=1
  · obtain ⟨v5,j5,s5,e5,hm,k5⟩:=src_among L hL j4 s4 [0,1,300,301] (by decide) (by omega) (by omega)
    have hb:0≤v5∧v5≤301:=by simp at hm;omega
    rw [if_pos c1,e5,Option.bind_some]
    exact ⟨_,_,_,rfl,hb.1,hb.2⟩
  rw [if_neg c1]
  by_cases c2:v4=2
  · obtain ⟨v5,j5,s5,e5,_,k5⟩:=src_among L hL j4 s4 [0,1,1000,1001] (by decide) (by omega) (by omega)
    rw [if_pos c2,e5,Option.bind_some]
    exact ⟨_,_,_,rfl,by first|omega|(dsimp only;omega),by first|omega|(dsimp only;omega)⟩
  rw [if_neg c2]
  exact ⟨_,_,_,rfl,by first|omega|(dsimp only;omega),by first|omega|(dsimp only;omega)⟩
theorem draw_thick (L:List Int) (hL:bytes L):∃ (p:S41) (c pr h y w g:Int),spec_DrawBestThickness.f L=some (p.f0,p.f1,p.f2,p.f3,p.f4,p.f5,c,pr,h,y,w,g)∧p.f0.size≤11:=by
  obtain ⟨q,a,b,l,w,c,j1,s1,e1,hq,k1⟩:=draw_bent L hL 0 0 (by omega) (by omega)
  obtain ⟨v2,j2,s2,e2,_,k2⟩:=src_among L hL j1 s1 [25,30,40,1,1000,1001,35] (by decide) (by omega) (by omega)
  obtain ⟨v3,j3,s3,e3,_,k3⟩:=src_among L hL j2 s2 [0,5,50,1000,1001,20] (by decide) (by omega) (by omega)
  obtain ⟨v4,j4,s4,e4,_,k4⟩:=src_among L hL j3 s3 [0,300,600,1000,1001,450] (by decide) (by omega) (by omega)
  obtain ⟨v5,j5,s5,e5,_,k5⟩:=src_among L hL j4 s4 [1,10,30,100,101,0,20] (by decide) (by omega) (by omega)
  obtain ⟨v6,j6,s6,e6,_,k6⟩:=draw_degrees L hL j5 s5 (by omega) (by omega)
  obtain ⟨v7,j7,s7,e7,_,k7⟩:=draw_degrees L hL j6 s6 (by omega) (by omega)
  refine ⟨⟨q,a,b,l,w,c⟩,v2,v3,v4,v5,v6,v7,?_,hq⟩
  unfold spec_DrawBestThickness.f spec_l00From.f
  rw [Option.bind_some];simp only []
  rw [e1,Option.bind_some];simp only []
  rw [e2,Option.bind_some];simp only []
  rw [e3,Option.bind_some];simp only []
  rw [e4,Option.bind_some];simp only []
  rw [e5,Option.bind_some];simp only []
  rw [e6,Option.bind_some];simp only []
  rw [e7,Option.bind_some]

theorem name_same (s:ByteArray):∀ (k:Nat) (i:Int),spec_l01Name.l0 k s i=impl_onlyNameBytes.l0 k s (s.size:Int) i:=by
  intro k
  induction k with
  |zero=>intro i;simp only [spec_l01Name.l0,impl_onlyNameBytes.l0]
  |succ k ih=>
    intro i
    simp only [spec_l01Name.l0,impl_onlyNameBytes.l0]
    unfold spec_l01Small.f spec_l01Digit.f
    rw [ih]
    generalize impl_onlyNameBytes.l0 k s (s.size:Int) (wrap64 (i+1))=e
    generalize bt s i=b
    by_cases h1:i<(s.size:Int)
    · rw [if_pos h1,if_pos h1,if_pos h1]
      by_cases h2:0≤i
      · rw [if_pos h2,if_pos h2]
        by_cases c1:b<97
        · rw [if_pos c1,if_neg (by omega)]
          by_cases c2:b<48
          · rw [if_pos c2,if_neg (by omega)];simp
          · rw [if_neg c2,if_pos (by omega)]
            by_cases c3:b > 57
            · rw [if_pos c3,decide_eq_false (by omega)];simp
            · rw [if_neg c3,decide_eq_true (by omega)];simp
        · rw [if_neg c1,if_pos (by omega)]
          by_cases c4:b > 122
          · rw [if_pos c4,decide_eq_false (by omega),if_pos (by omega),if_neg (by omega),decide_eq_false (by omega),if_pos (by omega)];simp
          · rw [if_neg c4,decide_eq_true (by omega)];simp
      · rw [if_neg h2,if_neg h2]
    · rw [if_neg h1,if_neg h1]
theorem name_total (s:ByteArray) (hs:s.size≤35184372088832):∀ (d j k:Nat),j+d=s.size→d<k→∃ r,impl_onlyNameBytes.l0 k s (s.size:Int) (j:Int)=some r:=by
  intro d
  induction d with
  |zero=>
    intro j k hj hk
    obtain ⟨k,rfl⟩:=suc_of hk
    simp only [impl_onlyNameBytes.l0]
    rw [if_neg (by omega)];exact ⟨_,rfl⟩
  |succ d ih=>
    intro j k hj hk
    obtain ⟨k,rfl⟩:=suc_of hk
    obtain ⟨r,hr⟩:=ih (j+1) k (by omega) (by omega)
    simp only [impl_onlyNameBytes.l0]
    rw [if_pos (by omega),if_pos (by omega),if_pos (by omega),next_nat (n:=s.size) (by omega) (by omega),hr]
    split
    · split
      · exact ⟨_,rfl⟩
      · split
        · exact ⟨_,rfl⟩
        · exact ⟨_,rfl⟩
    · split
      · split
        · exact ⟨_,rfl⟩
        · split
          · exact ⟨_,rfl⟩
          · exact ⟨_,rfl⟩
      · exact ⟨_,rfl⟩
/-- A name is one for both. -/
theorem name_both (s:ByteArray) (hs:s.size≤35184372088832):∃ b:Bool,(∀ k,s.size+3≤k→spec_l01Name.f k s=some b)∧(∀ k,s.size+3≤k→impl_IsName.f k s=some b)∧(b=true→1≤s.size∧s.size≤10):=by
  obtain ⟨r,hr⟩:=name_total s hs s.size 0 (s.size+2) (by omega) (by omega)
  have hr3:impl_onlyNameBytes.l0 (s.size+3) s (s.size:Int) 0=some r:=impl_onlyNameBytes.mono_l (s.size+2) s (s.size:Int) 0 r hr
  have hr2:impl_onlyNameBytes.l0 (s.size+2) s (s.size:Int) 0=some r:=hr
  have key:∃ b:Bool,spec_l01Name.f (s.size+3) s=some b∧impl_IsName.f (s.size+3) s=some b∧(b=true→1≤s.size∧s.size≤10):=by
    have bad:spec_l01Name.j0 (s.size+3) s true=some false:=by simp only [spec_l01Name.j0];simp
    unfold spec_l01Name.f impl_IsName.f impl_onlyNameBytes.f
    by_cases h0:s.size=0
    · have e:s.toList=[]:=by
        rw [ByteArray.toList_eq];exact List.eq_nil_of_length_eq_zero (by rw [Array.length_toList];exact h0)
      rw [if_pos e,if_pos (by omega),bad];exact ⟨_,rfl,rfl,by simp⟩
    · have e:¬ s.toList=[]:=by
        rw [ByteArray.toList_eq]
        intro h
        have:s.data.toList.length=0:=by rw [h];rfl
        rw [Array.length_toList] at this
        exact h0 this
      rw [if_neg e,if_neg (show ¬ (s.size:Int)<1 by omega)]
      by_cases h1:(s.size:Int) > 10
      · rw [if_pos h1,if_pos h1,bad];exact ⟨_,rfl,rfl,by simp⟩
      · rw [if_neg h1,if_neg h1,if_pos (by omega),if_pos (by omega)]
        unfold spec_l01Small.f
        by_cases c1:bt s 0<97
        · rw [if_pos c1,if_neg (by omega)]
          simp only [Option.bind_some,Bool.not_false]
          exact ⟨_,bad,rfl,by simp⟩
        · rw [if_neg c1,if_pos (by omega)]
          by_cases c2:bt s 0 > 122
          · rw [if_pos c2,decide_eq_false (by omega)]
            simp only [Option.bind_some,Bool.not_false]
            exact ⟨_,bad,rfl,by simp⟩
          · rw [if_neg c2,decide_eq_true (by omega),hr3]
            simp only [Option.bind_some,Bool.not_true]
            refine ⟨r,?_,rfl,fun _=>by omega⟩
            simp only [spec_l01Name.j0]
            rw [if_neg Bool.false_ne_true,name_same]
            exact hr2
  obtain ⟨b,h1,h2,h3⟩:=key
  exact ⟨b,up (spec_l01Name.mono s) h1,up (impl_IsName.mono s) h2,h3⟩

theorem impl_in (n lo hi:Int):impl_within.f n lo hi=some (decide (lo≤n∧n≤hi)):=by unfold impl_within.f;split<;>simp<;>omega

theorem spec_in (n lo hi:Int):spec_l00In.f n lo hi=some (decide (lo≤n∧n≤hi)):=by unfold spec_l00In.f;split<;>simp<;>omega

theorem impl_all (l:List Int) (lo hi:Int):impl_allWithin.f l lo hi=some (l.all fun x=>decide (lo≤x∧x≤hi)):=rfl

/-! Valid pipes and networks. -/
def pvb (nb:Bool) (a b l w c:Int):Bool:=nb&&decide (0≤a∧a≤15)&&decide (0≤b∧b≤15)&&!(a==b)&&decide (1≤l∧l≤10000)&&decide (20≤w∧w≤1000)&&decide (0≤c∧c≤5000)
theorem pipe_nb (s:ByteArray) (hs:s.size≤35184372088832):∃ nb:Bool,∀ a b l w c:Int,∀ k,s.size+4≤k→spec_l03Ok.f k [(⟨s,a,b,l,w,c⟩:S41)]=some (pvb nb a b l w c)∧impl_ValidPipe.f k s a b l w c=some (pvb nb a b l w c):=by
  obtain ⟨nb,n1,n2,n3⟩:=name_both s hs
  refine ⟨nb,fun a b l w c k hk=>?_⟩
  unfold pvb
  obtain ⟨k,rfl⟩:∃ k',k=k' +1:=⟨k - 1,by omega⟩
  have r0:rd_T41 [(⟨s,a,b,l,w,c⟩:S41)] 0=⟨s,a,b,l,w,c⟩:=rfl
  have l0:0<(([(⟨s,a,b,l,w,c⟩:S41)].length:Nat):Int):=by simp
  have bad:spec_l03Ok.j0 (k+1) [(⟨s,a,b,l,w,c⟩:S41)] true=some false:=by simp only [spec_l03Ok.j0];simp
  have good:spec_l03Ok.j0 (k+1) [(⟨s,a,b,l,w,c⟩:S41)] false=some (decide (1≤l∧l≤10000)&&decide (20≤w∧w≤1000)&&decide (0≤c∧c≤5000)):=by
    simp only [spec_l03Ok.j0,r0]
    rw [if_neg Bool.false_ne_true,if_pos l0]
    simp only [spec_in,Option.bind_some]
    cases decide (1≤l∧l≤10000)<;>cases decide (20≤w∧w≤1000)<;>simp
  unfold spec_l03Ok.f impl_ValidPipe.f impl_nodeOk.f
  rw [r0,if_pos l0,n1 (k+1) (by omega),n2 (k+1) (by omega)]
  simp only [spec_in,impl_in,Option.bind_some]
  cases nb
  · simp [bad]
  · cases decide (0≤a∧a≤15)
    · simp [bad]
    · cases decide (0≤b∧b≤15)
      · simp [bad]
      · by_cases e:a=b
        · subst e;simp [bad]
        · have e':(a==b)=false:=by simpa using e
          rw [e',good]
          simp only [if_true,if_neg e,Bool.not_false,Bool.true_and]
          cases decide (1≤l∧l≤10000)<;>cases decide (20≤w∧w≤1000)<;>simp
def pv (x:S41):Bool:=(impl_ValidPipe.f 1048620 x.f0 x.f1 x.f2 x.f3 x.f4 x.f5).getD false
theorem pv_spec (x:S41) (hs:x.f0.size≤1048576):(∀ k,1048620≤k→spec_l03Ok.f k [x]=some (pv x))∧(∀ k,1048620≤k→impl_ValidPipe.f k x.f0 x.f1 x.f2 x.f3 x.f4 x.f5=some (pv x))∧(pv x=true→(0≤x.f1∧x.f1≤15)∧(0≤x.f2∧x.f2≤15)∧(1≤x.f3∧x.f3≤10000)∧(20≤x.f4∧x.f4≤1000)∧(0≤x.f5∧x.f5≤5000))∧(pv x=true→∀ c:Int,0≤c→c≤5000→∀ k,1048620≤k→spec_l03Ok.f k [(⟨x.f0,x.f1,x.f2,x.f3,x.f4,c⟩:S41)]=some true):=by
  obtain ⟨nb,h⟩:=pipe_nb x.f0 (by omega)
  have e:pv x=pvb nb x.f1 x.f2 x.f3 x.f4 x.f5:=by unfold pv;rw [(h _ _ _ _ _ 1048620 (by omega)).2];rfl
  refine ⟨fun k hk=>by rw [e];exact (h _ _ _ _ _ k (by omega)).1,fun k hk=>by rw [e];exact (h _ _ _ _ _ k (by omega)).2,fun q=>?_,fun q c c0 c1 k hk=>?_⟩
  · rw [e] at q
    unfold pvb at q
    simp only [Bool.and_eq_true,decide_eq_true_eq] at q
    obtain ⟨⟨⟨⟨⟨⟨h1,h2⟩,h3⟩,h4⟩,h5⟩,h6⟩,h7⟩:=q
    exact ⟨h2,h3,h5,h6,h7⟩
  · rw [e] at q
    rw [(h _ _ _ _ c k (by omega)).1]
    unfold pvb at q ⊢
    rw [Bool.and_eq_true] at q
    rw [q.1,decide_eq_true (show 0≤c∧c≤5000 from ⟨c0,c1⟩)]
    rfl
def pat (P:List S41) (i:Nat):S41:=P.getD i z41
theorem rdP (P:List S41) (i:Nat):rd_T41 P (i:Int)=pat P i:=rfl
def less (a b:ByteArray):Bool:=Op.bytesLess a.toList b.toList
def ptOk (n:Nat) (P:List S41) (i:Nat):Bool:=pv (pat P i)&&(decide ((pat P i).f1<(n:Int))&&(decide ((pat P i).f2<(n:Int))&&(if i=0 then true else less (pat P (i - 1)).f0 (pat P i).f0)))
def ptAll (n:Nat) (P:List S41):Nat→Nat→Bool
  |0,_=>true
  |d+1,j=>ptOk n P j&&ptAll n P d (j+1)
theorem ends_impl (N:List Int) (P:List S41) (p:S41) (hN:N.length≤1048576) (hv:(0≤p.f1∧p.f1≤15)∧(0≤p.f2∧p.f2≤15)):impl_Network_hasEnds.f N P p.f0 p.f1 p.f2 p.f3 p.f4 p.f5=some (decide (p.f1<(N.length:Int))&&decide (p.f2<(N.length:Int))):=by
  unfold impl_Network_hasEnds.f impl_Network_hasNode.f
  rw [wrap_id (by omega) (by omega),impl_in,Option.bind_some,Option.bind_some,impl_in,Option.bind_some,Option.bind_some]
  have e1:decide (0≤p.f1∧p.f1≤(N.length:Int) - 1)=decide (p.f1<(N.length:Int)):=decide_eq_decide.2 (by omega)
  have e2:decide (0≤p.f2∧p.f2≤(N.length:Int) - 1)=decide (p.f2<(N.length:Int)):=decide_eq_decide.2 (by omega)
  rw [e1,e2]
  cases decide (p.f1<(N.length:Int))<;>rfl
theorem pat_lt {P:List S41} (hs:∀ x ∈ P,x.f0.size≤1048576) {j:Nat} (h:j<P.length):(pat P j).f0.size≤1048576:=by
  unfold pat;rw [getD_lt h];exact hs _ (List.getElem_mem _)
theorem impl_net_l0 (N:List Int) (P:List S41) (hN:N.length≤1048576) (hP:P.length≤1048576) (hs:∀ x ∈ P,x.f0.size≤1048576):∀ (d j k:Nat),j+d=P.length→1048620+d<k→impl_ValidNetwork.l0 k P (P.length:Int) (j:Int) N P=some (ptAll N.length P d j):=by
  intro d
  induction d with
  |zero=>
    intro j k hj hk
    obtain ⟨k,rfl⟩:=suc_of hk
    simp only [impl_ValidNetwork.l0]
    rw [if_neg (by omega)];rfl
  |succ d ih=>
    intro j k hj hk
    obtain ⟨k,rfl⟩:=suc_of hk
    have hr:=ih (j+1) k (by omega) (by omega)
    have hp:=pv_spec (pat P j) (pat_lt hs (by omega))
    simp only [impl_ValidNetwork.l0,show ∀ i:Nat,rd_T41 P (i:Int)=pat P i from fun _=>rfl]
    rw [if_pos (by omega),if_pos (by omega),if_pos (by omega),hp.2.1 k (by omega),Option.bind_some,next_nat (n:=P.length) (by omega) (by omega),hr]
    rw [show ptAll N.length P (d+1) j=(ptOk N.length P j&&ptAll N.length P d (j+1)) from rfl]
    generalize ptAll N.length P d (j+1)=R
    unfold ptOk
    cases hv:pv (pat P j)
    · rfl
    · rw [if_pos rfl,ends_impl N P (pat P j) hN ⟨(hp.2.2.1 hv).1,(hp.2.2.1 hv).2.1⟩,Option.bind_some]
      generalize decide ((pat P j).f1<(N.length:Int))=a
      generalize decide ((pat P j).f2<(N.length:Int))=b
      cases a
      · rfl
      · cases b
        · rfl
        · rw [show (true&&true)=true from rfl,if_pos rfl]
          simp only [Bool.true_and]
          by_cases hz:j=0
          · rw [if_neg (show ¬ (j:Int) > 0 by omega),if_pos hz];rfl
          · have ew:wrap64 ((j:Int) - 1)=((j - 1:Nat):Int):=by rw [wrap_id (by omega) (by omega)];omega
            rw [if_pos (show (j:Int) > 0 by omega),if_neg hz,ew,rdP,if_pos (by omega),if_pos (by omega)]
            show (if less (pat P (j - 1)).f0 (pat P j).f0=true then _ else _)=_
            cases less (pat P (j - 1)).f0 (pat P j).f0<;>rfl
def netw (N:List Int) (P:List S41):Bool:=decide (1≤N.length∧N.length≤16)&&(decide (P.length≤20)&&ptAll N.length P P.length 0)
def netv (N:List Int) (P:List S41):Bool:=(N.all fun x=>decide ((-100000:Int)≤x∧x≤100000))&&netw N P
theorem net_i (N:List Int) (P:List S41) (hN:N.length≤1048576) (hP:P.length≤1048576) (hs:∀ x ∈ P,x.f0.size≤1048576) (k:Nat) (hk:3145780<k):impl_ValidNetwork.f k N P=some (netv N P):=by
  obtain ⟨k,rfl⟩:=suc_of hk
  have bad:impl_ValidNetwork.j0 (k+1) true N P=some false:=by simp only [impl_ValidNetwork.j0];simp
  unfold impl_ValidNetwork.f netv netw
  rw [impl_all,bad]
  simp only [Option.bind_some]
  by_cases c1:(N.length:Int)<1
  · rw [if_pos c1,decide_eq_false (p:=1≤N.length∧N.length≤16) (by omega)];simp
  · rw [if_neg c1]
    by_cases c2:(N.length:Int) > 16
    · rw [if_pos c2,decide_eq_false (p:=1≤N.length∧N.length≤16) (by omega)];simp
    · rw [if_neg c2,decide_eq_true (p:=1≤N.length∧N.length≤16) (by omega)]
      cases N.all fun x=>decide ((-100000:Int)≤x∧x≤100000)
      · rfl
      · rw [if_pos rfl]
        simp only [impl_ValidNetwork.j0,Bool.true_and]
        by_cases c3:P.length≤20
        · rw [decide_eq_true c3,decide_eq_false (by omega),if_neg Bool.false_ne_true]
          exact impl_net_l0 N P hN hP hs P.length 0 k (by omega) (by omega)
        · rw [decide_eq_false c3,decide_eq_true (by omega)];rfl
theorem ptAll_at {n:Nat} {P:List S41}:∀ (d j:Nat),ptAll n P d j=true→∀ i,j≤i→i<j+d→pv (pat P i)=true:=by
  intro d
  induction d with
  |zero=>intro j _ i h1 h2;omega
  |succ d ih=>
    intro j h i h1 h2
    rw [show ptAll n P (d+1) j=(ptOk n P j&&ptAll n P d (j+1)) from rfl,Bool.and_eq_true] at h
    by_cases e:i=j
    · subst e
      have:=h.1
      unfold ptOk at this
      rw [Bool.and_eq_true] at this
      exact this.1
    · exact ih (j+1) h.2 i (by omega) (by omega)
theorem netv_at {N:List Int} {P:List S41} (h:netv N P=true):P.length≤20∧∀ i,i<P.length→pv (pat P i)=true:=by
  unfold netv netw at h
  simp only [Bool.and_eq_true,decide_eq_true_eq] at h
  exact ⟨h.2.2.1,fun i hi=>ptAll_at P.length 0 h.2.2.2 i (by omega) (by omega)⟩

def rdiv (a b:Int):Int:=if a<0 then -((b - 2 * a) / (2 * b)) else (2 * a+b) / (2 * b)
theorem rdiv_pos_eq {q r b:Int} (hb:0<b) (h0:0≤r) (h1:r<b):(2 * (b * q+r)+b) / (2 * b)=if r≥b - r then q+1 else q:=by
  have e:2 * (b * q+r)+b=(2 * r+b)+(2 * b) * q:=by rw [Int.mul_add,← Int.mul_assoc];omega
  rw [e,Int.add_mul_ediv_left _ _ (by omega:(2 * b:Int)≠0)]
  split
  · have:(2 * r+b) / (2 * b)=1:=by
      have e2:2 * r+b=(2 * r - b)+(2 * b) * 1:=by omega
      rw [e2,Int.add_mul_ediv_left _ _ (by omega:(2 * b:Int)≠0),Int.ediv_eq_zero_of_lt (by omega) (by omega)];rfl
    omega
  · have:(2 * r+b) / (2 * b)=0:=Int.ediv_eq_zero_of_lt (by omega) (by omega)
    omega
theorem abs_def {a:Int} (h:-9223372036854775807≤a) (h2:a≤9223372036854775807):impl_abs.f a=some (if a<0 then -a else a):=by
  unfold impl_abs.f mx
  rw [wrap_id (by omega) (by omega)]
  split<;>split<;>first|rfl|(simp;omega)
theorem impl_div {a b:Int} (hb:0<b) (hb2:b≤2305843009213693951) (ha:-2305843009213693951≤a) (ha2:a≤2305843009213693951):impl_divRound.f a b=some (rdiv a b):=by
  unfold impl_divRound.f
  rw [if_neg (by omega)]
  by_cases h:a<0
  · have hq0:a.tdiv b= -((-a) / b):=by rw [← Int.tdiv_eq_ediv_of_nonneg (by omega),Int.neg_tdiv,Int.neg_neg]
    have hr0:a.tmod b= -((-a) % b):=by rw [← Int.tmod_eq_emod_of_nonneg (by omega),Int.neg_tmod,Int.neg_neg]
    have hr1:=Int.emod_nonneg (-a) (show b≠0 by omega)
    have hr2:=Int.emod_lt_of_pos (-a) hb
    have hd:=Int.mul_ediv_add_emod (-a) b
    have hq1:0≤(-a) / b:=Int.ediv_nonneg (by omega) (by omega)
    have hq2:(-a) / b≤-a:=Int.ediv_le_self _ (by omega)
    rw [hq0,hr0]
    generalize (-a) / b=q at *
    generalize (-a) % b=r at *
    rw [abs_def (by omega) (by omega),abs_def (by omega) (by omega)]
    simp only [Option.bind_some]
    have e1:(if -r<0 then - -r else -r)=r:=by split<;>omega
    have e2:(if b<0 then -b else b)=b:=by rw [if_neg (by omega)]
    rw [e1,e2,wrap_id (x:=b - r) (by omega) (by omega)]
    have hk:rdiv a b= -(if r≥b - r then q+1 else q):=by
      unfold rdiv
      rw [if_pos h,← rdiv_pos_eq (q:=q) hb hr1 hr2,hd]
      congr 2;omega
    rw [hk]
    have w1:wrap64 (-q)= -q:=wrap_id (by omega) (by omega)
    rw [w1]
    by_cases hc:r≥b - r
    · rw [if_pos hc,if_pos hc,if_neg (by simp;omega),wrap_id (by omega) (by omega)]
      congr 1;omega
    · rw [if_neg hc,if_neg hc]
  · have hq0:a.tdiv b=a / b:=Int.tdiv_eq_ediv_of_nonneg (by omega)
    have hr0:a.tmod b=a % b:=Int.tmod_eq_emod_of_nonneg (by omega)
    have hr1:=Int.emod_nonneg a (show b≠0 by omega)
    have hr2:=Int.emod_lt_of_pos a hb
    have hd:=Int.mul_ediv_add_emod a b
    have hq1:0≤a / b:=Int.ediv_nonneg (by omega) (by omega)
    have hq2:a / b≤a:=Int.ediv_le_self _ (by omega)
    rw [hq0,hr0]
    generalize a / b=q at *
    generalize a % b=r at *
    rw [abs_def (by omega) (by omega),abs_def (by omega) (by omega)]
    simp only [Option.bind_some]
    have e1:(if r<0 then - r else r)=r:=by rw [if_neg (by omega)]
    have e2:(if b<0 then -b else b)=b:=by rw [if_neg (by omega)]
    rw [e1,e2,wrap_id (x:=b - r) (by omega) (by omega)]
    have hk:rdiv a b=(if r≥b - r then q+1 else q):=by
      unfold rdiv
      rw [if_neg h,← rdiv_pos_eq (q:=q) hb hr1 hr2,hd]
    rw [hk]
    have w1:wrap64 q=q:=wrap_id (by omega) (by omega)
    rw [w1]
    by_cases hc:r≥b - r
    · rw [if_pos hc,if_pos hc,if_pos (by simp;omega),wrap_id (by omega) (by omega)]
    · rw [if_neg hc,if_neg hc]
theorem rdiv_nonneg {a b:Int} (ha:0≤a) (hb:0<b):0≤rdiv a b:=by
  unfold rdiv;rw [if_neg (by omega)];exact Int.ediv_nonneg (by omega) (by omega)
theorem rdiv_le {a b:Int} (ha:0≤a) (hb:0<b):rdiv a b≤2 * a+b:=by
  unfold rdiv;rw [if_neg (by omega)];exact Int.ediv_le_self _ (by omega)

theorem spec_div {a b:Int} (hb:0<b) (hb2:b≤2305843009213693951) (ha:-2305843009213693951≤a) (ha2:a≤2305843009213693951):spec_l01Div.f a b=some (rdiv a b):=by
  unfold spec_l01Div.f rdiv
  have w2:wrap64 (2 * b)=2 * b:=wrap_id (by omega) (by omega)
  have h2b:(0:Int)<2 * b:=by omega
  rw [if_neg (by omega),w2]
  by_cases h:a<0
  · rw [if_pos h,if_pos h,if_neg (by omega)]
    have e1:wrap64 (2 * a)=2 * a:=wrap_id (by omega) (by omega)
    have e2:wrap64 (b - 2 * a)=b - 2 * a:=wrap_id (by omega) (by omega)
    rw [e1,e2,Int.tdiv_eq_ediv_of_nonneg (by omega)]
    have b1:0≤(b - 2 * a) / (2 * b):=Int.ediv_nonneg (by omega) (by omega)
    have b2:(b - 2 * a) / (2 * b)≤b - 2 * a:=Int.ediv_le_self _ (by omega)
    have e3:wrap64 ((b - 2 * a) / (2 * b))=(b - 2 * a) / (2 * b):=wrap_id (by omega) (by omega)
    have e4:wrap64 (-((b - 2 * a) / (2 * b)))= -((b - 2 * a) / (2 * b)):=wrap_id (by omega) (by omega)
    rw [e3,e4]
  · rw [if_neg h,if_neg h,if_neg (by omega)]
    have e1:wrap64 (2 * a)=2 * a:=wrap_id (by omega) (by omega)
    have e2:wrap64 (2 * a+b)=2 * a+b:=wrap_id (by omega) (by omega)
    rw [e1,e2,Int.tdiv_eq_ediv_of_nonneg (by omega)]
    have b1:0≤(2 * a+b) / (2 * b):=Int.ediv_nonneg (by omega) (by omega)
    have b2:(2 * a+b) / (2 * b)≤2 * a+b:=Int.ediv_le_self _ (by omega)
    rw [wrap_id (by omega) (by omega)]

/-! Rounded quotients: thicker coats, shares of a whole. -/
theorem rdiv_pos {a b:Int} (ha:0≤a):rdiv a b=(2 * a+b) / (2 * b):=by unfold rdiv;rw [if_neg (by omega)]
theorem rdiv_frac {a b c d:Int} (ha:0≤a) (hc:0≤c) (hb:0<b) (hd:0<d) (h:a * d≤c * b):rdiv a b≤rdiv c d:=by
  rw [rdiv_pos ha,rdiv_pos hc]
  refine Int.le_ediv_of_mul_le (by omega) ?_
  have e:=Int.ediv_mul_le (2 * a+b) (show 2 * b≠0 by omega)
  generalize (2 * a+b) / (2 * b)=q at *
  refine Int.le_of_mul_le_mul_right ?_ hb
  have e1:q * (2 * d) * b=q * (2 * b) * d:=by rw [Int.mul_assoc q (2 * d) b,Int.mul_assoc q (2 * b) d,Int.mul_assoc 2 d b,Int.mul_assoc 2 b d,Int.mul_comm d b]
  have e2:(2 * c+d) * b=2 * (c * b)+d * b:=by rw [Int.add_mul,Int.mul_assoc]
  have e3:(2 * a+b) * d=2 * (a * d)+d * b:=by rw [Int.add_mul,Int.mul_assoc,Int.mul_comm b d]
  rw [e1,e2]
  have m:=Int.mul_le_mul_of_nonneg_right e (show 0≤d by omega)
  rw [e3] at m
  omega
/-- A share of a whole, as near as it is told. -/
theorem share_b {a S:Int} (ha:0≤a) (hS:0<S):2 * (S * rdiv (1000 * a) S)≤2000 * a+S∧2000 * a - S≤2 * (S * rdiv (1000 * a) S):=by
  rw [rdiv_pos (by omega)]
  have e:=Int.mul_ediv_add_emod (2 * (1000 * a)+S) (2 * S)
  have e1:=Int.emod_nonneg (2 * (1000 * a)+S) (show 2 * S≠0 by omega)
  have e2:=Int.emod_lt_of_pos (2 * (1000 * a)+S) (show 0<2 * S by omega)
  generalize (2 * (1000 * a)+S) / (2 * S)=q at *
  rw [Int.mul_assoc] at e
  omega
theorem rdiv_neg' {a b:Int} (ha:a<0):rdiv a b= -rdiv (-a) b:=by
  unfold rdiv
  rw [if_pos ha,if_neg (by omega),show 2 * -a+b=b - 2 * a by omega]
def coat (D c t:Int):Int:=mn (mx (rdiv (c * 3 * (D+t)) t) 1) 5000
theorem mn_mono {a b:Int} (h:a≤b) (c:Int):mn a c≤mn b c:=by unfold mn;split<;>split<;>omega
theorem mx_mono {a b:Int} (h:a≤b) (c:Int):mx a c≤mx b c:=by unfold mx;split<;>split<;>omega
theorem coat_b (D c t:Int):1≤coat D c t∧coat D c t≤5000:=by unfold coat mn mx;split<;>split<;>omega
theorem coat_mono {D c t:Int} (hD:0≤D) (hc:0≤c) (ht:1≤t):coat D c (t+1)≤coat D c t:=by
  unfold coat
  refine mn_mono (mx_mono (rdiv_frac (Int.mul_nonneg (by omega) (by omega)) (Int.mul_nonneg (by omega) (by omega)) (by omega) (by omega) ?_) 1) 5000
  have e1:c * 3 * (D+(t+1)) * t=c * 3 * ((D+(t+1)) * t):=Int.mul_assoc _ _ _
  have e2:c * 3 * (D+t) * (t+1)=c * 3 * ((D+t) * (t+1)):=Int.mul_assoc _ _ _
  rw [e1,e2]
  refine Int.mul_le_mul_of_nonneg_left ?_ (by omega)
  have e3:(D+(t+1)) * t=(D+t) * t+t:=by rw [← Int.add_assoc,Int.add_mul,Int.one_mul]
  have e4:(D+t) * (t+1)=(D+t) * t+(D+t):=by rw [Int.mul_add,Int.mul_one]
  rw [e3,e4]
  omega
theorem coat_num {D c t:Int} (hD:0≤D∧D≤1000) (hc:0≤c∧c≤1000) (ht:1≤t∧t≤301):0≤c * 3 * (D+t)∧c * 3 * (D+t)≤3903000:=by
  have m:=mul_bounds (a:=c * 3) (b:=D+t) (A:=3000) (B:=1301) (by omega) (by omega) (by omega) (by omega) (by omega)
  have n:=Int.mul_nonneg (show 0≤c * 3 by omega) (show 0≤D+t by omega)
  omega

/-! What pipes lose, by both ways of adding. -/
theorem loss_bounds {c l t g:Int} (h1:0≤c) (h2:c≤5000) (h3:1≤l) (h4:l≤10000) (h5:-5000≤t∧t≤20000) (h6:-5000≤g∧g≤20000):0≤c * l∧c * l≤50000000∧-1250000000000≤c * l * (t - g)∧c * l * (t - g)≤1250000000000:=by
  have m1:=mul_bounds (a:=c) (b:=l) (A:=5000) (B:=10000) h1 h2 (by omega) h4 (by omega)
  have m0:=mul_nonneg' h1 (show 0≤l by omega)
  have m2:=mul_bounds (a:=c * l) (b:=t - g) (A:=50000000) (B:=25000) m0 (by omega) (by omega) (by omega) (by omega)
  omega
def deg (x:Int):Prop:= -5000≤x∧x≤20000
def lossOf (c l w g:Int):Int:=rdiv (c * l * (w - g)) 100000
theorem lossOf_b {c l w g:Int} (h1:0≤c) (h2:c≤5000) (h3:1≤l) (h4:l≤10000) (hw:deg w) (hg:deg g):-13000000≤lossOf c l w g∧lossOf c l w g≤13000000:=by
  have m:=loss_bounds h1 h2 h3 h4 hw hg
  unfold lossOf rdiv
  generalize c * l * (w - g)=z at *
  split<;>omega
theorem loss_i {s:ByteArray} {a b l w c t g:Int} (h1:0≤c) (h2:c≤5000) (h3:1≤l) (h4:l≤10000) (hw:deg t) (hg:deg g):impl_Pipe_loss.f s a b l w c t g=some (lossOf c l t g):=by
  have m:=loss_bounds h1 h2 h3 h4 hw hg
  unfold deg at hw hg
  unfold impl_Pipe_loss.f lossOf
  rw [wrap_id (x:=c * l) (by omega) (by omega),wrap_id (x:=t - g) (by omega) (by omega),wrap_id (x:=c * l * (t - g)) (by omega) (by omega),impl_div (by omega) (by omega) (by omega) (by omega)]
  rfl
def dl (P:List S41) (w g:Int) (i:Nat):Int:=lossOf (pat P i).f5 (pat P i).f3 w g
def ab (x:Int):Int:=if x<0 then -x else x
theorem ab_nn (x:Int):0≤ab x:=by unfold ab;split<;>omega
def sumA (P:List S41) (w g:Int):Nat→Nat→Int
  |0,_=>0
  |d+1,j=>ab (dl P w g j)+sumA P w g d (j+1)
def sumL (P:List S41) (w g:Int):Nat→Nat→Int
  |0,_=>0
  |d+1,j=>dl P w g j+sumL P w g d (j+1)
def sh (P:List S41) (w g S:Int) (i:Nat):Int:=if S > 0 then rdiv (1000 * ab (dl P w g i)) S else 0
def sumS (P:List S41) (w g S:Int):Nat→Nat→Int
  |0,_=>0
  |d+1,j=>sh P w g S j+sumS P w g S d (j+1)
def Good (P:List S41):Prop:=P.length≤20∧∀ i,i<P.length→(0≤(pat P i).f5∧(pat P i).f5≤5000)∧(1≤(pat P i).f3∧(pat P i).f3≤10000)
theorem dl_b {P:List S41} (hP:Good P) {w g:Int} (hw:deg w) (hg:deg g) {i:Nat} (hi:i<P.length):-13000000≤dl P w g i∧dl P w g i≤13000000:=by
  have h:=hP.2 i hi
  exact lossOf_b h.1.1 h.1.2 h.2.1 h.2.2 hw hg
theorem dl_i {P:List S41} (hP:Good P) {w g:Int} (hw:deg w) (hg:deg g) {i:Nat} (hi:i<P.length):impl_Pipe_loss.f (pat P i).f0 (pat P i).f1 (pat P i).f2 (pat P i).f3 (pat P i).f4 (pat P i).f5 w g=some (dl P w g i):=by
  have h:=hP.2 i hi
  exact loss_i h.1.1 h.1.2 h.2.1 h.2.2 hw hg
theorem ab_b {x:Int} (h:-13000000≤x∧x≤13000000):0≤ab x∧ab x≤13000000:=by unfold ab;split<;>omega
theorem abs_i {x:Int} (h:-13000000≤x∧x≤13000000):impl_abs.f x=some (ab x):=abs_def (by omega) (by omega)
theorem sumA_nn (P:List S41) (w g:Int):∀ d j,0≤sumA P w g d j:=by
  intro d
  induction d with
  |zero=>intro j;exact Int.le_refl _
  |succ d ih=>intro j;have:=ih (j+1);have:=ab_nn (dl P w g j);show 0≤ab (dl P w g j)+sumA P w g d (j+1);omega
theorem sumA_b {P:List S41} (hP:Good P) {w g:Int} (hw:deg w) (hg:deg g):∀ d j,j+d≤P.length→sumA P w g d j≤13000000 * (d:Int):=by
  intro d
  induction d with
  |zero=>intro j _;exact Int.le_refl _
  |succ d ih=>
    intro j hj
    have:=ih (j+1) (by omega)
    have:=ab_b (dl_b hP hw hg (show j<P.length by omega))
    show ab (dl P w g j)+sumA P w g d (j+1)≤_
    omega
theorem sumL_b (P:List S41) (w g:Int):∀ d j,-(sumA P w g d j)≤sumL P w g d j∧sumL P w g d j≤sumA P w g d j:=by
  intro d
  induction d with
  |zero=>intro j;exact ⟨Int.le_refl _,Int.le_refl _⟩
  |succ d ih=>
    intro j
    have:=ih (j+1)
    show -(ab (dl P w g j)+sumA P w g d (j+1))≤dl P w g j+sumL P w g d (j+1)∧dl P w g j+sumL P w g d (j+1)≤ab (dl P w g j)+sumA P w g d (j+1)
    have:-(ab (dl P w g j))≤dl P w g j∧dl P w g j≤ab (dl P w g j):=by unfold ab;split<;>omega
    omega
theorem share_sum (P:List S41) (w g S:Int) (hS:0<S):∀ d j,2 * (S * sumS P w g S d j)≤2000 * sumA P w g d j+(d:Int) * S∧2000 * sumA P w g d j - (d:Int) * S≤2 * (S * sumS P w g S d j):=by
  intro d
  induction d with
  |zero=>intro j;simp [sumS,sumA]
  |succ d ih=>
    intro j
    have i:=ih (j+1)
    have b:=share_b (a:=ab (dl P w g j)) (ab_nn _) hS
    have e:sumS P w g S (d+1) j=sh P w g S j+sumS P w g S d (j+1):=rfl
    have e2:sumA P w g (d+1) j=ab (dl P w g j)+sumA P w g d (j+1):=rfl
    have e3:sh P w g S j=rdiv (1000 * ab (dl P w g j)) S:=if_pos hS
    have e4:((d+1:Nat):Int) * S=(d:Int) * S+S:=by rw [show ((d+1:Nat):Int)=(d:Int)+1 by omega,Int.add_mul,Int.one_mul]
    rw [e,e2,e3,e4,Int.mul_add]
    generalize S * rdiv (1000 * ab (dl P w g j)) S=z1 at *
    generalize S * sumS P w g S d (j+1)=z2 at *
    generalize (d:Int) * S=z3 at *
    omega
theorem share_near (P:List S41) (w g:Int) (n:Nat) (hS:0<sumA P w g n 0):2 * sumS P w g (sumA P w g n 0) n 0≤2000+(n:Int)∧2000 - (n:Int)≤2 * sumS P w g (sumA P w g n 0) n 0:=by
  obtain ⟨h1,h2⟩:=share_sum P w g (sumA P w g n 0) hS n 0
  generalize sumS P w g (sumA P w g n 0) n 0=T at *
  generalize sumA P w g n 0=S at *
  constructor
  · refine Int.le_of_mul_le_mul_left ?_ hS
    have e:S * (2 * T)=2 * (S * T):=by rw [← Int.mul_assoc,Int.mul_comm S 2,Int.mul_assoc]
    have e2:S * (2000+(n:Int))=2000 * S+(n:Int) * S:=by rw [Int.mul_add,Int.mul_comm S 2000,Int.mul_comm S (n:Int)]
    rw [e,e2];exact h1
  · refine Int.le_of_mul_le_mul_left ?_ hS
    have e:S * (2 * T)=2 * (S * T):=by rw [← Int.mul_assoc,Int.mul_comm S 2,Int.mul_assoc]
    have e2:S * (2000 - (n:Int))=2000 * S - (n:Int) * S:=by rw [Int.mul_sub,Int.mul_comm S 2000,Int.mul_comm S (n:Int)]
    rw [e,e2];exact h2
theorem sh_b {P:List S41} (hP:Good P) {w g S:Int} (hw:deg w) (hg:deg g) (hS:S≤260000000) {i:Nat} (hi:i<P.length):0≤sh P w g S i∧sh P w g S i≤30000000000:=by
  have b:=ab_b (dl_b hP hw hg hi)
  unfold sh
  split
  · rename_i h
    have r0:=rdiv_nonneg (a:=1000 * ab (dl P w g i)) (b:=S) (by omega) h
    have r1:=rdiv_le (a:=1000 * ab (dl P w g i)) (b:=S) (by omega) h
    omega
  · omega
theorem ls_l1 {P:List S41} (hP:Good P) {w g S:Int} (hw:deg w) (hg:deg g) (hS0:0≤S) (hS:S≤260000000):∀ (d j:Nat) (X:List Int),j+d=P.length→X.length=P.length→(∀ i,j≤i→X.getD i 0=0)→∃ X',(∀ k,d<k→impl_LossShares.l1 k w g S X P (P.length:Int) (j:Int)=some (X',0))∧X'.length=P.length∧∀ i,i<P.length→X'.getD i 0=if i<j then X.getD i 0 else sh P w g S i:=by
  have h20:=hP.1
  intro d
  induction d with
  |zero=>
    intro j X hj hX _
    refine ⟨X,fun k hk=>?_,hX,fun i hi=>by rw [if_pos (by omega)]⟩
    obtain ⟨k,rfl⟩:=suc_of hk
    simp only [impl_LossShares.l1]
    rw [if_neg (by omega)]
  |succ d ih=>
    intro j X hj hX hz
    have hb:=dl_b hP hw hg (show j<P.length by omega)
    have hab:=ab_b hb
    by_cases c:S > 0
    · have es:sh P w g S j=rdiv (1000 * ab (dl P w g j)) S:=if_pos c
      have hget:∀ i,(X.set j (sh P w g S j)).getD i 0=if j=i then sh P w g S j else X.getD i 0:=fun i=>by
        rw [List.getD_eq_getElem?_getD,List.getElem?_set,List.getD_eq_getElem?_getD]
        by_cases e:j=i
        · rw [if_pos e,if_pos e,if_pos (by omega)];rfl
        · rw [if_neg e,if_neg e]
      obtain ⟨X',q1,q2,q3⟩:=ih (j+1) (X.set j (sh P w g S j)) (by omega) (by rw [List.length_set];exact hX) (fun i hi=>by rw [hget,if_neg (by omega)];exact hz i (by omega))
      refine ⟨X',fun k hk=>?_,q2,fun i hi=>?_⟩
      · obtain ⟨k,rfl⟩:=suc_of (show 0<k by omega)
        simp only [impl_LossShares.l1,show ∀ i:Nat,rd_T41 P (i:Int)=pat P i from fun _=>rfl]
        rw [if_pos (by omega),if_pos (by omega),if_pos (by omega),if_pos c,dl_i hP hw hg (by omega),Option.bind_some,abs_i hb,Option.bind_some,wrap_id (x:=1000 * ab (dl P w g j)) (by omega) (by omega),impl_div c (by omega) (by omega) (by omega),Option.bind_some,if_pos (by omega),Int.toNat_natCast,next_nat (n:=21) (by omega) (by omega),← es]
        exact q1 k (by omega)
      · rw [q3 i hi,hget]
        by_cases e:i<j
        · rw [if_pos (by omega),if_neg (by omega),if_pos e]
        · rw [if_neg e]
          by_cases e2:i=j
          · subst e2;rw [if_pos (by omega),if_pos rfl]
          · rw [if_neg (by omega)]
    · obtain ⟨X',q1,q2,q3⟩:=ih (j+1) X (by omega) hX (fun i hi=>hz i (by omega))
      refine ⟨X',fun k hk=>?_,q2,fun i hi=>?_⟩
      · obtain ⟨k,rfl⟩:=suc_of (show 0<k by omega)
        simp only [impl_LossShares.l1]
        rw [if_pos (by omega),if_pos (by omega),if_pos (by omega),if_neg c,next_nat (n:=21) (by omega) (by omega)]
        exact q1 k (by omega)
      · rw [q3 i hi]
        by_cases e:i<j
        · rw [if_pos (by omega),if_pos e]
        · rw [if_neg e]
          by_cases e2:i=j
          · subst e2
            rw [if_pos (by omega),hz i (Nat.le_refl _)]
            unfold sh;rw [if_neg c]
          · rw [if_neg (by omega)]
theorem ls_l0 {P:List S41} (hP:Good P) {w g:Int} (hw:deg w) (hg:deg g) (N:List Int) (R:Option (List Int × Int)) (K:Nat):∀ (d j:Nat) (acc:Int),j+d=P.length→0≤acc→acc≤13000000 * (j:Int)→(∀ k,K<k→impl_LossShares.l1 k w g (acc+sumA P w g d j) (List.replicate P.length 0) P (P.length:Int) 0=R)→∀ k,K+d+1<k→impl_LossShares.l0 k w g acc P (P.length:Int) (j:Int) N P=R:=by
  have h20:=hP.1
  intro d
  induction d with
  |zero=>
    intro j acc hj h0 h1 hR k hk
    obtain ⟨k,rfl⟩:=suc_of (show 0<k by omega)
    simp only [impl_LossShares.l0]
    rw [if_neg (by omega),if_pos (by omega),Int.toNat_natCast,if_pos (by omega)]
    have:=hR k (by omega)
    rw [show acc+sumA P w g 0 j=acc from Int.add_zero _] at this
    exact this
  |succ d ih=>
    intro j acc hj h0 h1 hR k hk
    obtain ⟨k,rfl⟩:=suc_of (show 0<k by omega)
    have hb:=dl_b hP hw hg (show j<P.length by omega)
    have hab:=ab_b hb
    simp only [impl_LossShares.l0,show ∀ i:Nat,rd_T41 P (i:Int)=pat P i from fun _=>rfl]
    rw [if_pos (by omega),if_pos (by omega),if_pos (by omega),dl_i hP hw hg (by omega),Option.bind_some,abs_i hb,Option.bind_some,wrap_id (x:=acc+ab (dl P w g j)) (by omega) (by omega),next_nat (n:=21) (by omega) (by omega)]
    refine ih (j+1) _ (by omega) (by omega) (by omega) (fun k hk=>?_) k (by omega)
    have:=hR k hk
    rw [show sumA P w g (d+1) j=ab (dl P w g j)+sumA P w g d (j+1) from rfl,← Int.add_assoc] at this
    exact this
theorem nl_l0 {P:List S41} (hP:Good P) {w g:Int} (hw:deg w) (hg:deg g):∀ (d j:Nat) (acc:Int),j+d=P.length→-(13000000 * (j:Int))≤acc→acc≤13000000 * (j:Int)→∀ k,d<k→impl_Network_loss.l0 k w g acc P (P.length:Int) (j:Int)=some (acc+sumL P w g d j):=by
  have h20:=hP.1
  intro d
  induction d with
  |zero=>
    intro j acc hj h0 h1 k hk
    obtain ⟨k,rfl⟩:=suc_of (show 0<k by omega)
    simp only [impl_Network_loss.l0]
    rw [if_neg (by omega),show acc+sumL P w g 0 j=acc from Int.add_zero _]
  |succ d ih=>
    intro j acc hj h0 h1 k hk
    obtain ⟨k,rfl⟩:=suc_of (show 0<k by omega)
    have hb:=dl_b hP hw hg (show j<P.length by omega)
    simp only [impl_Network_loss.l0,show ∀ i:Nat,rd_T41 P (i:Int)=pat P i from fun _=>rfl]
    rw [if_pos (by omega),if_pos (by omega),if_pos (by omega),dl_i hP hw hg (by omega),Option.bind_some,wrap_id (x:=acc+dl P w g j) (by omega) (by omega),next_nat (n:=21) (by omega) (by omega),ih (j+1) _ (by omega) (by omega) (by omega) k (by omega),show sumL P w g (d+1) j=dl P w g j+sumL P w g d (j+1) from rfl,Int.add_assoc]
theorem netv_good {N:List Int} {P:List S41} (h:netv N P=true) (hs:∀ x ∈ P,x.f0.size≤1048576):Good P:=by
  obtain ⟨h1,h2⟩:=netv_at h
  refine ⟨h1,fun i hi=>?_⟩
  have p:=(pv_spec (pat P i) (pat_lt hs hi)).2.2.1 (h2 i hi)
  exact ⟨p.2.2.2.2,p.2.2.1⟩
def ShMean (N:List Int) (P:List S41) (w g:Int) (X:List Int) (all e:Int):Prop:=e≠0∨(e=0∧netv N P=true∧deg w∧deg g∧X.length=P.length∧(∀ i,i<P.length→X.getD i 0=sh P w g (sumA P w g P.length 0) i)∧all=sumL P w g P.length 0)
theorem shares_i (N:List Int) (P:List S41) (w g:Int) (hN:N.length≤1048576) (hPl:P.length≤1048576) (hs:∀ x ∈ P,x.f0.size≤1048576):∃ X all e,(∀ k,3200000<k→impl_LossShares.f k N P w g=some (X,e))∧(∀ k,3200000<k→impl_NetworkLoss.f k N P w g=some (all,e))∧ShMean N P w g X all e:=by
  have v:=fun k hk=>net_i N P hN hPl hs k hk
  have dg:∀ x,impl_degreesOk.f x=some (decide (-5000≤x∧x≤20000)):=fun x=>by unfold impl_degreesOk.f;rw [impl_in];rfl
  cases hv:netv N P with
  |false=>
    refine ⟨[],0,1,fun k hk=>?_,fun k hk=>?_,.inl (by omega)⟩
    · unfold impl_LossShares.f;rw [v k (by omega),hv];rfl
    · unfold impl_NetworkLoss.f;rw [v k (by omega),hv];rfl
  |true=>
    by_cases hw:-5000≤w∧w≤20000
    · by_cases hg:-5000≤g∧g≤20000
      · have hP:=netv_good hv hs
        have h20:=hP.1
        have hS0:=sumA_nn P w g P.length 0
        have hS1:=sumA_b hP hw hg P.length 0 (by omega)
        obtain ⟨X,q1,q2,q3⟩:=ls_l1 hP hw hg hS0 (by omega) P.length 0 (List.replicate P.length 0) (by omega) (by simp) (fun i _=>by
          rw [List.getD_eq_getElem?_getD,List.getElem?_replicate];split<;>rfl)
        rw [show ((0:Nat):Int)=0 from rfl] at q1
        refine ⟨X,sumL P w g P.length 0,0,fun k hk=>?_,fun k hk=>?_,.inr ⟨rfl,hv,hw,hg,q2,fun i hi=>by rw [q3 i hi,if_neg (by omega)],rfl⟩⟩
        · unfold impl_LossShares.f
          rw [v k (by omega),hv,Option.bind_some,if_pos rfl,dg,decide_eq_true hw,Option.bind_some,if_pos rfl,dg,decide_eq_true hg,Option.bind_some,if_pos rfl]
          have:=ls_l0 hP hw hg N (some (X,0)) P.length P.length 0 0 (by omega) (by omega) (by omega) (fun k hk=>by rw [Int.zero_add];exact q1 k hk) k (by omega)
          exact this
        · unfold impl_NetworkLoss.f impl_Network_loss.f
          have:=nl_l0 hP hw hg P.length 0 0 (by omega) (by omega) (by omega) k (by omega)
          rw [show ((0:Nat):Int)=0 from rfl,Int.zero_add] at this
          rw [v k (by omega),hv,Option.bind_some,if_pos rfl,dg,decide_eq_true hw,Option.bind_some,if_pos rfl,dg,decide_eq_true hg,Option.bind_some,if_pos rfl,this]
          rfl
      · refine ⟨[],0,2,fun k hk=>?_,fun k hk=>?_,.inl (by omega)⟩
        · unfold impl_LossShares.f;rw [v k (by omega),hv,Option.bind_some,if_pos rfl,dg,decide_eq_true hw,Option.bind_some,if_pos rfl,dg,decide_eq_false hg];rfl
        · unfold impl_NetworkLoss.f;rw [v k (by omega),hv,Option.bind_some,if_pos rfl,dg,decide_eq_true hw,Option.bind_some,if_pos rfl,dg,decide_eq_false hg];rfl
    · refine ⟨[],0,2,fun k hk=>?_,fun k hk=>?_,.inl (by omega)⟩
      · unfold impl_LossShares.f;rw [v k (by omega),hv,Option.bind_some,if_pos rfl,dg,decide_eq_false hw];rfl
      · unfold impl_NetworkLoss.f;rw [v k (by omega),hv,Option.bind_some,if_pos rfl,dg,decide_eq_false hw];rfl

theorem coat_i {D c t:Int} (hD:0≤D∧D≤1000) (hc:0≤c∧c≤1000) (ht:1≤t∧t≤301):impl_coatLoss.f D t c=some (coat D c t):=by
  have n:=coat_num hD hc ht
  unfold impl_coatLoss.f coat
  rw [wrap_id (x:=c * 3) (by omega) (by omega),wrap_id (x:=D+t) (by omega) (by omega),wrap_id (x:=c * 3 * (D+t)) (by omega) (by omega),impl_div (by omega) (by omega) (by omega) (by omega)]
  rfl
theorem coat_s {D c t:Int} (hD:0≤D∧D≤1000) (hc:0≤c∧c≤1000) (ht:1≤t∧t≤301):spec_l10Coat.f D t c=some (coat D c t):=by
  have n:=coat_num hD hc ht
  unfold spec_l10Coat.f spec_l00Min.f spec_l00Max.f coat
  rw [wrap_id (x:=c * 3) (by omega) (by omega),wrap_id (x:=D+t) (by omega) (by omega),wrap_id (x:=c * 3 * (D+t)) (by omega) (by omega),spec_div (by omega) (by omega) (by omega) (by omega),Option.bind_some]
  generalize rdiv (c * 3 * (D+t)) t=z
  unfold mn mx
  by_cases h1:(5000:Int)<z
  · rw [if_pos h1,Option.bind_some,if_neg (by omega),Option.bind_some]
    congr 1
    split<;>first|omega|(split<;>omega)
  · rw [if_neg h1,Option.bind_some]
    by_cases h2:(1:Int) > z
    · rw [if_pos h2,Option.bind_some]
      congr 1
      split<;>first|omega|(split<;>omega)
    · rw [if_neg h2,Option.bind_some]
      congr 1
      split<;>first|omega|(split<;>omega)
def inr (d t c:Int):Prop:=(20≤d∧d≤1000)∧(1≤t∧t≤300)∧(1≤c∧c≤1000)
theorem cl_in {d t c:Int} (h:inr d t c):impl_CoatLoss.f d t c=some (coat d c t,0):=by
  obtain ⟨h1,h2,h3⟩:=h
  unfold impl_CoatLoss.f
  rw [impl_in,decide_eq_true h1,Option.bind_some,if_pos rfl,impl_in,decide_eq_true h2,Option.bind_some,if_pos rfl,impl_in,decide_eq_true h3,Option.bind_some,if_pos rfl,coat_i (by omega) (by omega) (by omega)]
  rfl
theorem cl_out {d t c:Int} (h:¬ inr d t c):impl_CoatLoss.f d t c=some (0,2):=by
  unfold impl_CoatLoss.f
  rw [impl_in]
  by_cases h1:20≤d∧d≤1000
  · rw [decide_eq_true h1,Option.bind_some,if_pos rfl,impl_in]
    by_cases h2:1≤t∧t≤300
    · rw [decide_eq_true h2,Option.bind_some,if_pos rfl,impl_in,decide_eq_false (fun h3=>h ⟨h1,h2,h3⟩)]
      rfl
    · rw [decide_eq_false h2];rfl
  · rw [decide_eq_false h1];rfl
/-! The thickness that is best. -/
theorem cost_num {z h y:Int} (hz:0≤z∧z≤13000000) (hh:0≤h∧h≤1000) (hy:1≤y∧y≤100):(0≤z * 876 * h∧z * 876 * h≤11388000000000)∧0≤z * 876 * h * y∧z * 876 * h * y≤1138800000000000:=by
  have m1:=mul_bounds (a:=z * 876) (b:=h) (A:=11388000000) (B:=1000) (by omega) (by omega) (by omega) hh.2 (by omega)
  have n1:=Int.mul_nonneg (show 0≤z * 876 by omega) hh.1
  have m2:=mul_bounds (a:=z * 876 * h) (b:=y) (A:=11388000000000) (B:=100) n1 (by omega) (by omega) hy.2 (by omega)
  have n2:=Int.mul_nonneg n1 (show 0≤y by omega)
  omega
theorem coatc_num {t pr l:Int} (ht:1≤t∧t≤300) (hp:0≤pr∧pr≤1000) (hl:1≤l∧l≤10000):(0≤t * t∧t * t≤90000)∧(0≤(t * t+100) * pr∧(t * t+100) * pr≤90100000)∧(0≤rdiv ((t * t+100) * pr) 100∧rdiv ((t * t+100) * pr) 100≤180200100)∧0≤l * rdiv ((t * t+100) * pr) 100∧l * rdiv ((t * t+100) * pr) 100≤1802001000000:=by
  have m0:=mul_bounds (a:=t) (b:=t) (A:=300) (B:=300) (by omega) (by omega) (by omega) (by omega) (by omega)
  have n0:=Int.mul_nonneg (show 0≤t by omega) (show 0≤t by omega)
  have m1:=mul_bounds (a:=t * t+100) (b:=pr) (A:=90100) (B:=1000) (by omega) (by omega) (by omega) (by omega) (by omega)
  have n1:=Int.mul_nonneg (show 0≤t * t+100 by omega) hp.1
  have r0:=rdiv_nonneg (b:=100) n1 (by omega)
  have r1:=rdiv_le (b:=100) n1 (by omega)
  have m2:=mul_bounds (a:=l) (b:=rdiv ((t * t+100) * pr) 100) (A:=10000) (B:=180200100) (by omega) (by omega) (by omega) (by omega) (by omega)
  have n2:=Int.mul_nonneg (show 0≤l by omega) r0
  omega
def wat (D l c w g t:Int):Int:=lossOf (coat D c t) l w g
def lostC (D l c h y w g t:Int):Int:=rdiv (mx (wat D l c w g t) 0 * 876 * h * y) 100000
def coatC (l pr t:Int):Int:=l * rdiv ((t * t+100) * pr) 100
def costT (D l c pr h y w g t:Int):Int:=coatC l pr t+lostC D l c h y w g t
structure Rng (D l c pr h y w g:Int):Prop where
  hD:20≤D∧D≤1000
  hl:1≤l∧l≤10000
  hc:1≤c∧c≤1000
  hp:0≤pr∧pr≤1000
  hh:0≤h∧h≤1000
  hy:1≤y∧y≤100
  hw:deg w
  hg:deg g
theorem mx_b {x:Int} (h:-13000000≤x∧x≤13000000):0≤mx x 0∧mx x 0≤13000000:=by unfold mx;split<;>omega
theorem wat_b {D l c pr h y w g:Int} (H:Rng D l c pr h y w g) (t:Int):-13000000≤wat D l c w g t∧wat D l c w g t≤13000000:=by
  have b:=coat_b D c t
  have hl:=H.hl
  exact lossOf_b (by omega) (by omega) hl.1 hl.2 H.hw H.hg
theorem lost_b {D l c pr h y w g:Int} (H:Rng D l c pr h y w g) (t:Int):0≤lostC D l c h y w g t∧lostC D l c h y w g t≤3000000000000000:=by
  have n:=cost_num (mx_b (wat_b H t)) H.hh H.hy
  unfold lostC
  have r0:=rdiv_nonneg (b:=100000) n.2.1 (by omega)
  have r1:=rdiv_le (b:=100000) n.2.1 (by omega)
  omega
theorem bt_l0 {D l c pr h y w g:Int} (H:Rng D l c pr h y w g) (q:ByteArray) (a b cc:Int):∀ (d:Nat) (t best least:Int),t+(d:Int)=301→1≤t→((least= -1∧0<d)∨(0≤least∧1≤best∧best≤300))→∃ B m,(∀ k,d<k→impl_BestThickness.l0 k c pr h y w g best least t q a b l D cc=some (B,m,0))∧(1≤B∧B≤300)∧(0≤least→m≤least)∧∀ u,t≤u→u≤300→m≤costT D l c pr h y w g u:=by
  intro d
  induction d with
  |zero=>
    intro t best least ht h1 hb
    have hb2:0≤least∧1≤best∧best≤300:=by
      rcases hb with hb|hb
      · omega
      · exact hb
    refine ⟨best,least,fun k hk=>?_,hb2.2,fun _=>Int.le_refl _,fun u u1 u2=>by omega⟩
    obtain ⟨k,rfl⟩:=suc_of hk
    rw [impl_BestThickness.l0.eq_def]
    simp only []
    rw [if_neg (by omega)]
  |succ d ih=>
    intro t best least ht h1 hb
    obtain ⟨hD,hl,hc,hp,hh,hy,hw,hg⟩:=H
    have H:Rng D l c pr h y w g:=⟨hD,hl,hc,hp,hh,hy,hw,hg⟩
    have cb:=coat_b D c t
    have n1:=cost_num (mx_b (wat_b H t)) hh hy
    have n2:=coatc_num (t:=t) (by omega) hp hl
    have lb:=lost_b H t
    have step:∀ k,impl_BestThickness.l0 (k+1) c pr h y w g best least t q a b l D cc=if least<0 then impl_BestThickness.l0 k c pr h y w g t (costT D l c pr h y w g t) (t+1) q a b l D cc else if costT D l c pr h y w g t<least then impl_BestThickness.l0 k c pr h y w g t (costT D l c pr h y w g t) (t+1) q a b l D cc else impl_BestThickness.l0 k c pr h y w g best least (t+1) q a b l D cc:=fun k=>by
      have e1:impl_Pipe_coatCost.f q a b l D cc t pr=some (coatC l pr t):=by
        unfold impl_Pipe_coatCost.f coatC
        rw [wrap_id (x:=t * t) (by omega) (by omega),wrap_id (x:=t * t+100) (by omega) (by omega),wrap_id (x:=(t * t+100) * pr) (by omega) (by omega),impl_div (by omega) (by omega) (by omega) (by omega),Option.bind_some,wrap_id (by omega) (by omega)]
      have e2:impl_Pipe_loss.f q a b l D (coat D c t) w g=some (wat D l c w g t):=loss_i (by omega) (by omega) hl.1 hl.2 hw hg
      have e3:wrap64 (coatC l pr t+lostC D l c h y w g t)=costT D l c pr h y w g t:=by
        unfold costT
        have:0≤coatC l pr t∧coatC l pr t≤1802001000000:=n2.2.2.2
        exact wrap_id (by omega) (by omega)
      have e4:impl_divRound.f (mx (wat D l c w g t) 0 * 876 * h * y) 100000=some (lostC D l c h y w g t):=impl_div (by omega) (by omega) (by omega) (by omega)
      have mb:=mx_b (wat_b H t)
      rw [impl_BestThickness.l0.eq_def]
      simp only []
      rw [if_pos (by omega),coat_i (by omega) (by omega) (by omega),Option.bind_some,e2,Option.bind_some,e1,Option.bind_some,wrap_id (x:=mx (wat D l c w g t) 0 * 876) (by omega) (by omega),wrap_id (x:=mx (wat D l c w g t) 0 * 876 * h) (by omega) (by omega),wrap_id (x:=mx (wat D l c w g t) 0 * 876 * h * y) (by omega) (by omega),e4,Option.bind_some,e3,wrap_id (x:=t+1) (by omega) (by omega)]
    have cb0:0≤costT D l c pr h y w g t:=by
      have:0≤coatC l pr t:=n2.2.2.2.1
      unfold costT;omega
    have go:∀ best' least',(∀ k,impl_BestThickness.l0 (k+1) c pr h y w g best least t q a b l D cc=impl_BestThickness.l0 k c pr h y w g best' least' (t+1) q a b l D cc)→0≤least'→1≤best'→best'≤300→(0≤least→least'≤least)→least'≤costT D l c pr h y w g t→∃ B m,(∀ k,d+1<k→impl_BestThickness.l0 k c pr h y w g best least t q a b l D cc=some (B,m,0))∧(1≤B∧B≤300)∧(0≤least→m≤least)∧∀ u,t≤u→u≤300→m≤costT D l c pr h y w g u:=by
      intro best' least' hs l0 b1 b2 l1 l2
      obtain ⟨B,m,q1,q2,q3,q4⟩:=ih (t+1) best' least' (by omega) (by omega) (.inr ⟨l0,b1,b2⟩)
      have q3:=q3 l0
      refine ⟨B,m,fun k hk=>?_,q2,fun hl=>Int.le_trans q3 (l1 hl),fun u u1 u2=>?_⟩
      · obtain ⟨k,rfl⟩:=suc_of (show 0<k by omega)
        rw [hs];exact q1 k (by omega)
      · by_cases e:u=t
        · subst e;exact Int.le_trans q3 l2
        · exact q4 u (by omega) u2
    by_cases c1:least<0
    · exact go t _ (fun k=>by rw [step,if_pos c1]) cb0 h1 (by omega) (fun h=>by omega) (Int.le_refl _)
    · by_cases c2:costT D l c pr h y w g t<least
      · exact go t _ (fun k=>by rw [step,if_neg c1,if_pos c2]) cb0 h1 (by omega) (fun h=>by omega) (Int.le_refl _)
      · rcases hb with hb|hb
        · omega
        · exact go best least (fun k=>by rw [step,if_neg c1,if_neg c2]) hb.1 hb.2.1 hb.2.2 (fun h=>Int.le_refl _) (by omega)
def ThMean (p:S41) (c pr h y w g B m e:Int):Prop:=(e≠0∧B=0∧m=0)∨(e=0∧pv p=true∧Rng p.f4 p.f3 c pr h y w g∧(1≤B∧B≤300)∧∀ u,1≤u→u≤300→m≤costT p.f4 p.f3 c pr h y w g u)
theorem thick_i (p:S41) (hs:p.f0.size≤1048576) (c pr h y w g:Int):∃ B m e,(∀ k,2000000<k→impl_BestThickness.f k p.f0 p.f1 p.f2 p.f3 p.f4 p.f5 c pr h y w g=some (B,m,e))∧ThMean p c pr h y w g B m e:=by
  have v:=(pv_spec p hs).2.1
  have dg:∀ x,impl_degreesOk.f x=some (decide (-5000≤x∧x≤20000)):=fun x=>by unfold impl_degreesOk.f;rw [impl_in];rfl
  cases hv:pv p with
  |false=>
    refine ⟨0,0,1,fun k hk=>?_,.inl ⟨by omega,rfl,rfl⟩⟩
    unfold impl_BestThickness.f
    rw [v k (by omega),hv];rfl
  |true=>
    have pb:=(pv_spec p hs).2.2.1 hv
    by_cases h1:1≤c∧c≤1000
    · by_cases h2:0≤pr∧pr≤1000
      · by_cases h3:0≤h∧h≤1000
        · by_cases h4:1≤y∧y≤100
          · by_cases h5:-5000≤w∧w≤20000
            · by_cases h6:-5000≤g∧g≤20000
              · have H:Rng p.f4 p.f3 c pr h y w g:=⟨pb.2.2.2.1,pb.2.2.1,h1,h2,h3,h4,h5,h6⟩
                obtain ⟨B,m,q1,q2,_,q4⟩:=bt_l0 H p.f0 p.f1 p.f2 p.f5 300 1 0 (-1) (by omega) (by omega) (.inl ⟨rfl,by omega⟩)
                refine ⟨B,m,0,fun k hk=>?_,.inr ⟨rfl,hv,H,q2,fun u u1 u2=>q4 u u1 u2⟩⟩
                unfold impl_BestThickness.f
                rw [v k (by omega),hv,Option.bind_some,if_pos rfl,impl_in,decide_eq_true h1,Option.bind_some,if_pos rfl,impl_in,decide_eq_true h2,Option.bind_some,if_pos rfl,impl_in,decide_eq_true h3,Option.bind_some,if_pos rfl,impl_in,decide_eq_true h4,Option.bind_some,if_pos rfl,dg,decide_eq_true h5,Option.bind_some,if_pos rfl,dg,decide_eq_true h6,Option.bind_some,if_pos rfl]
                exact q1 k (by omega)
              · refine ⟨0,0,2,fun k hk=>?_,.inl ⟨by omega,rfl,rfl⟩⟩
                unfold impl_BestThickness.f
                rw [v k (by omega),hv,Option.bind_some,if_pos rfl,impl_in,decide_eq_true h1,Option.bind_some,if_pos rfl,impl_in,decide_eq_true h2,Option.bind_some,if_pos rfl,impl_in,decide_eq_true h3,Option.bind_some,if_pos rfl,impl_in,decide_eq_true h4,Option.bind_some,if_pos rfl,dg,decide_eq_true h5,Option.bind_some,if_pos rfl,dg,decide_eq_false h6]
                rfl
            · refine ⟨0,0,2,fun k hk=>?_,.inl ⟨by omega,rfl,rfl⟩⟩
              unfold impl_BestThickness.f
              rw [v k (by omega),hv,Option.bind_some,if_pos rfl,impl_in,decide_eq_true h1,Option.bind_some,if_pos rfl,impl_in,decide_eq_true h2,Option.bind_some,if_pos rfl,impl_in,decide_eq_true h3,Option.bind_some,if_pos rfl,impl_in,decide_eq_true h4,Option.bind_some,if_pos rfl,dg,decide_eq_false h5]
              rfl
          · refine ⟨0,0,2,fun k hk=>?_,.inl ⟨by omega,rfl,rfl⟩⟩
            unfold impl_BestThickness.f
            rw [v k (by omega),hv,Option.bind_some,if_pos rfl,impl_in,decide_eq_true h1,Option.bind_some,if_pos rfl,impl_in,decide_eq_true h2,Option.bind_some,if_pos rfl,impl_in,decide_eq_true h3,Option.bind_some,if_pos rfl,impl_in,decide_eq_false h4]
            rfl
        · refine ⟨0,0,2,fun k hk=>?_,.inl ⟨by omega,rfl,rfl⟩⟩
          unfold impl_BestThickness.f
          rw [v k (by omega),hv,Option.bind_some,if_pos rfl,impl_in,decide_eq_true h1,Option.bind_some,if_pos rfl,impl_in,decide_eq_true h2,Option.bind_some,if_pos rfl,impl_in,decide_eq_false h3]
          rfl
      · refine ⟨0,0,2,fun k hk=>?_,.inl ⟨by omega,rfl,rfl⟩⟩
        unfold impl_BestThickness.f
        rw [v k (by omega),hv,Option.bind_some,if_pos rfl,impl_in,decide_eq_true h1,Option.bind_some,if_pos rfl,impl_in,decide_eq_false h2]
        rfl
    · refine ⟨0,0,2,fun k hk=>?_,.inl ⟨by omega,rfl,rfl⟩⟩
      unfold impl_BestThickness.f
      rw [v k (by omega),hv,Option.bind_some,if_pos rfl,impl_in,decide_eq_false h1]
      rfl
theorem b10At_i (L:List Int) (hL:bytes L):∃ v,laws_b10At.f L 0 300=some v∧0≤v∧v<300:=by
  unfold laws_b10At.f
  rw [if_neg (by omega)]
  by_cases c:(0:Int)<(L.length:Int)
  · have hb:0≤L.getD 0 0∧L.getD 0 0≤255:=by rw [getD_lt (by omega)];exact wf_u8 (hL _ (List.getElem_mem (by omega)))
    have e:rd L 0=L.getD 0 0:=rd_nat L 0
    rw [if_pos c,if_pos (Int.le_refl _),if_neg (by omega),e,wrap_id (x:=L.getD 0 0) (by omega) (by omega),Int.tmod_eq_emod_of_nonneg hb.1]
    exact ⟨_,rfl,Int.emod_nonneg _ (by omega),Int.emod_lt_of_pos _ (by omega)⟩
  · rw [if_neg c,if_neg (by omega)]
    refine ⟨11,?_,by omega,by omega⟩
    rw [wrap_id (x:=0 * 37) (by omega) (by omega),wrap_id (x:=0 * 37+11) (by omega) (by omega)]
    rfl
theorem b10Div_i {a:Int} (h0:0≤a) (h1:a≤2000000000000000) (k:Nat):laws_b10Div.f (k+1) a 100000=some (rdiv a 100000):=by
  rw [laws_b10Div.f.eq_def]
  simp only []
  have w:wrap64 (2 * 100000)=200000:=wrap_id (x:=2 * 100000) (by omega) (by omega)
  rw [if_neg (by omega),w,if_neg (by omega),wrap_id (x:=2 * a) (by omega) (by omega),wrap_id (x:=2 * a+100000) (by omega) (by omega),Int.tdiv_eq_ediv_of_nonneg (by omega),rdiv_pos h0,show (2:Int) * 100000=200000 by omega,wrap_id (by omega) (by omega)]
theorem last_j9 (L1:List Int) (hL:bytes L1) (p:S41) (hs:p.f0.size≤1048576) (c pr h y w g B m:Int) (hv:pv p=true) (H:Rng p.f4 p.f3 c pr h y w g) (hB:1≤B∧B≤300) (hm:∀ u,1≤u→u≤300→m≤costT p.f4 p.f3 c pr h y w g u) (k:Nat) (hk:2000000<k):laws_FnLosses.j9 k L1 c pr h y w g B m p.f0 p.f1 p.f2 p.f3 p.f4 p.f5=some true:=by
  obtain ⟨k,rfl⟩:∃ q,k=q+1+1:=⟨k - 2,by omega⟩
  obtain ⟨v,v1,v2,v3⟩:=b10At_i L1 hL
  have P:=pv_spec p hs
  have cb:=coat_b p.f4 c (1+v)
  have n1:=cost_num (mx_b (wat_b H (1+v))) H.hh H.hy
  have n2:=coatc_num (t:=1+v) (by omega) H.hp H.hl
  have lb:=lost_b H (1+v)
  have mb:=mx_b (wat_b H (1+v))
  have hw:=H.hw
  have hg:=H.hg
  have hD:=H.hD
  have hl:=H.hl
  have hc:=H.hc
  have ht:1≤1+v∧1+v≤300:=by omega
  have lbd:=loss_bounds (c:=coat p.f4 c (1+v)) (l:=p.f3) (t:=w) (g:=g) (by omega) (by omega) hl.1 hl.2 hw hg
  have dg:∀ x,spec_l03Degrees.f x=some (decide (-5000≤x∧x≤20000)):=fun x=>by unfold spec_l03Degrees.f;rw [spec_in];rfl
  have e1:spec_CoatCost.f (k+1) p.f0 p.f1 p.f2 p.f3 p.f4 p.f5 (1+v) pr=some (coatC p.f3 pr (1+v),0):=by
    unfold spec_CoatCost.f spec_l10Costs.f coatC
    rw [show (⟨p.f0,p.f1,p.f2,p.f3,p.f4,p.f5⟩:S41)=p from rfl,P.1 (k+1) (by omega),hv,Option.bind_some,if_pos rfl,spec_in,decide_eq_true ht,Option.bind_some,if_pos rfl,spec_in,decide_eq_true H.hp,Option.bind_some,if_pos rfl,wrap_id (x:=(1+v) * (1+v)) (by omega) (by omega),wrap_id (x:=(1+v) * (1+v)+100) (by omega) (by omega),wrap_id (x:=((1+v) * (1+v)+100) * pr) (by omega) (by omega),spec_div (by omega) (by omega) (by omega) (by omega),Option.bind_some,wrap_id (x:=p.f3 * _) (by omega) (by omega)]
    rfl
  have e2:spec_CoatLoss.f p.f4 (1+v) c=some (coat p.f4 c (1+v),0):=by
    unfold spec_CoatLoss.f spec_l10Conductivity.f
    rw [spec_in,decide_eq_true hD,Option.bind_some,if_pos rfl,spec_in,decide_eq_true ht,Option.bind_some,if_pos rfl,spec_in,decide_eq_true hc,Option.bind_some,Option.bind_some,if_pos rfl,coat_s (by omega) (by omega) (by omega)]
    rfl
  have e3:spec_RangeLoss.f (k+1) p.f0 p.f1 p.f2 p.f3 p.f4 (coat p.f4 c (1+v)) w g=some (wat p.f4 p.f3 c w g (1+v),0):=by
    unfold spec_RangeLoss.f spec_l10Loses.f wat lossOf
    unfold deg at hw hg
    rw [P.2.2.2 hv _ (by omega) (by omega) (k+1) (by omega),Option.bind_some,if_pos rfl,dg,decide_eq_true hw,Option.bind_some,if_pos rfl,dg,decide_eq_true hg,Option.bind_some,if_pos rfl,wrap_id (x:=coat p.f4 c (1+v) * p.f3) (by omega) (by omega),wrap_id (x:=w - g) (by omega) (by omega),wrap_id (x:=coat p.f4 c (1+v) * p.f3 * (w - g)) (by omega) (by omega),spec_div (by omega) (by omega) (by omega) (by omega)]
    rfl
  have e4:mx 0 (wat p.f4 p.f3 c w g (1+v))=mx (wat p.f4 p.f3 c w g (1+v)) 0:=by unfold mx;split<;>split<;>omega
  have e5:laws_b10Div.f (k+1) (mx (wat p.f4 p.f3 c w g (1+v)) 0 * 876 * h * y) 100000=some (lostC p.f4 p.f3 c h y w g (1+v)):=b10Div_i n1.2.1 (by omega) k
  have e6:wrap64 (coatC p.f3 pr (1+v)+lostC p.f4 p.f3 c h y w g (1+v))=costT p.f4 p.f3 c pr h y w g (1+v):=by
    have:0≤coatC p.f3 pr (1+v)∧coatC p.f3 pr (1+v)≤1802001000000:=n2.2.2.2
    unfold costT
    exact wrap_id (by omega) (by omega)
  have w1:wrap64 (1+v)=1+v:=wrap_id (by omega) (by omega)
  rw [laws_FnLosses.j9.eq_def]
  simp only []
  rw [v1,Option.bind_some,w1,e1,Option.bind_some,e2,Option.bind_some]
  simp only []
  rw [e3,Option.bind_some]
  simp only []
  rw [if_pos (show B≥1 from hB.1),if_pos hB.2,if_pos trivial,if_pos trivial,if_pos trivial,e4,wrap_id (x:=mx (wat p.f4 p.f3 c w g (1+v)) 0 * 876) (by omega) (by omega),wrap_id (x:=mx (wat p.f4 p.f3 c w g (1+v)) 0 * 876 * h) (by omega) (by omega),wrap_id (x:=mx (wat p.f4 p.f3 c w g (1+v)) 0 * 876 * h * y) (by omega) (by omega),e5,Option.bind_some,e6,decide_eq_true (show costT p.f4 p.f3 c pr h y w g (1+v)≥m from hm (1+v) ht.1 ht.2)]
theorem last_j8 (L0 L1:List Int) (h0:bytes L0) (h1:bytes L1) (k:Nat) (hk:2000010<k):laws_FnLosses.j8 k L0 L1=some true:=by
  obtain ⟨k,rfl⟩:=suc_of hk
  obtain ⟨p,c,pr,h,y,w,g,d1,d2⟩:=draw_thick L0 h0
  obtain ⟨B,m,e,t1,t2⟩:=thick_i p (by omega) c pr h y w g
  rw [laws_FnLosses.j8.eq_def]
  simp only []
  rw [d1,Option.bind_some]
  simp only []
  rw [t1 k (by omega),Option.bind_some]
  simp only []
  rcases t2 with ⟨he,rfl,rfl⟩|⟨rfl,hv,H,hB,hm⟩
  · rw [if_neg he,if_pos rfl];rfl
  · rw [if_pos rfl]
    exact last_j9 L1 h1 p (by omega) c pr h y w g B m hv H hB hm k (by omega)
theorem sum_l0 {P:List S41} (hP:Good P) {w g S:Int} (hw:deg w) (hg:deg g) (hS:S≤260000000) (X:List Int) (hX:X.length=P.length) (hg2:∀ i,i<P.length→X.getD i 0=sh P w g S i):∀ (d j:Nat) (acc:Int),j+d=P.length→0≤acc→acc≤30000000000 * (j:Int)→∀ k,d<k→laws_b10Sum.l0 k X acc (j:Int)=some (acc+sumS P w g S d j):=by
  have h20:=hP.1
  intro d
  induction d with
  |zero=>
    intro j acc hj h0 h1 k hk
    obtain ⟨k,rfl⟩:=suc_of hk
    simp only [laws_b10Sum.l0]
    rw [if_neg (by omega),show acc+sumS P w g S 0 j=acc from Int.add_zero _]
  |succ d ih=>
    intro j acc hj h0 h1 k hk
    obtain ⟨k,rfl⟩:=suc_of hk
    have sb:=sh_b hP hw hg hS (show j<P.length by omega)
    simp only [laws_b10Sum.l0,rd_nat]
    rw [if_pos (by omega),if_pos (by omega),hg2 j (by omega),wrap_id (x:=acc+sh P w g S j) (by omega) (by omega),next_nat (n:=21) (by omega) (by omega),ih (j+1) _ (by omega) (by omega) (by omega) k (by omega),show sumS P w g S (d+1) j=sh P w g S j+sumS P w g S d (j+1) from rfl,Int.add_assoc]
theorem range_i {N:List Int} {P:List S41} (hv:netv N P=true) (hs:∀ x ∈ P,x.f0.size≤1048576) {w g:Int} (hw:deg w) (hg:deg g) {i:Nat} (hi:i<P.length) (k:Nat) (hk:1048620≤k):impl_RangeLoss.f k (pat P i).f0 (pat P i).f1 (pat P i).f2 (pat P i).f3 (pat P i).f4 (pat P i).f5 w g=some (dl P w g i,0):=by
  have hP:=netv_good hv hs
  have v:=(pv_spec (pat P i) (pat_lt hs hi)).2.1 k hk
  unfold impl_RangeLoss.f impl_LossOf.f impl_Pipe_code.f impl_flowOk.f
  rw [v,(netv_at hv).2 i hi,Option.bind_some,if_pos rfl,impl_in,Option.bind_some,Option.bind_some,if_pos (by decide),impl_all]
  unfold deg at hw hg
  have e:([w,g].all fun x=>decide ((-5000:Int)≤x∧x≤20000))=true:=by
    simp only [List.all_cons,List.all_nil,decide_eq_true hw,decide_eq_true hg];rfl
  rw [e,Option.bind_some,if_pos rfl,Option.bind_some,if_pos rfl,dl_i hP hw hg hi]
  rfl
theorem law_l0 {N:List Int} {P:List S41} (hv:netv N P=true) (hs:∀ x ∈ P,x.f0.size≤1048576) {w g:Int} (hw:deg w) (hg:deg g) (L0 L1:List Int) (h0:bytes L0) (h1:bytes L1) (X:List Int) (hX:X.length=P.length) (hnn:∀ i,i<P.length→0≤X.getD i 0) (all:Int):∀ (d j:Nat) (acc:Int),j+d=P.length→-(13000000 * (j:Int))≤acc→acc≤13000000 * (j:Int)→all=acc+sumL P w g d j→∀ k,2000020+d<k→laws_FnLosses.l0 k L0 L1 w g X all acc (j:Int) N P=some true:=by
  have hP:=netv_good hv hs
  have h20:=hP.1
  intro d
  induction d with
  |zero=>
    intro j acc hj a0 a1 ha k hk
    obtain ⟨k,rfl⟩:=suc_of hk
    rw [laws_FnLosses.l0.eq_def]
    simp only []
    rw [if_neg (by omega),if_pos (by rw [ha];exact (Int.add_zero acc).symm)]
    exact last_j8 L0 L1 h0 h1 k (by omega)
  |succ d ih=>
    intro j acc hj a0 a1 ha k hk
    obtain ⟨k,rfl⟩:=suc_of hk
    have hb:=dl_b hP hw hg (show j<P.length by omega)
    rw [laws_FnLosses.l0.eq_def]
    simp only [show ∀ i:Nat,rd_T41 P (i:Int)=pat P i from fun _=>rfl]
    rw [if_pos (by omega),if_pos (by omega),range_i hv hs hw hg (by omega) k (by omega),Option.bind_some]
    simp only []
    rw [if_pos trivial,if_pos (by omega),rd_nat,if_neg (by have:=hnn j (by omega);omega),wrap_id (x:=acc+dl P w g j) (by omega) (by omega),next_nat (n:=21) (by omega) (by omega)]
    refine ih (j+1) _ (by omega) (by omega) (by omega) ?_ k (by omega)
    rw [ha,show sumL P w g (d+1) j=dl P w g j+sumL P w g d (j+1) from rfl,Int.add_assoc]
theorem law_j4 (N:List Int) (P:List S41) (w g:Int) (X:List Int) (all e:Int) (hs:∀ x ∈ P,x.f0.size≤1048576) (hm:ShMean N P w g X all e) (L0 L1:List Int) (h0:bytes L0) (h1:bytes L1) (k:Nat) (hk:2000100<k):laws_FnLosses.j4 k L0 L1 w g X e all N P=some true:=by
  obtain ⟨k,rfl⟩:∃ q,k=q+1+1+1:=⟨k - 3,by omega⟩
  rw [laws_FnLosses.j4.eq_def]
  simp only []
  rcases hm with he|⟨rfl,hv,hw,hg,hX,hsh,hall⟩
  · rw [if_neg he]
    exact last_j8 L0 L1 h0 h1 (k+1+1) (by omega)
  · have hP:=netv_good hv hs
    have h20:=hP.1
    have hS0:=sumA_nn P w g P.length 0
    have hS1:=sumA_b hP hw hg P.length 0 (by omega)
    have fin:laws_FnLosses.j5 (k+1+1) L0 L1 w g X all false N P=some true:=by
      rw [laws_FnLosses.j5.eq_def]
      simp only []
      rw [if_neg Bool.false_ne_true,laws_FnLosses.j6.eq_def]
      simp only []
      have:=law_l0 hv hs hw hg L0 L1 h0 h1 X hX (fun i hi=>by rw [hsh i hi];exact (sh_b hP hw hg (by omega) hi).1) all P.length 0 0 (by omega) (by omega) (by omega) (by rw [hall,Int.zero_add]) k (by omega)
      exact this
    rw [if_pos rfl,if_pos (by omega)]
    by_cases c:all=0
    · rw [if_pos c];exact fin
    · have hpos:0<sumA P w g P.length 0:=by
        have:=sumL_b P w g P.length 0
        omega
      have near:=share_near P w g P.length hpos
      have s1:=sum_l0 hP hw hg (show sumA P w g P.length 0≤260000000 by omega) X hX hsh P.length 0 0 (by omega) (by omega) (by omega) (k+1+1) (by omega)
      have s2:laws_b10Sum.f (k+1+1) X=some (sumS P w g (sumA P w g P.length 0) P.length 0):=by
        unfold laws_b10Sum.f
        rw [Int.zero_add] at s1
        exact s1
      generalize sumS P w g (sumA P w g P.length 0) P.length 0=T at *
      have w1:wrap64 (T - 1000)=T - 1000:=wrap_id (by omega) (by omega)
      have ab1:laws_b10Abs.f (T - 1000)=some (ab (T - 1000)):=by
        unfold laws_b10Abs.f ab
        split
        · rw [wrap_id (by omega) (by omega)]
        · rfl
      have ab2:¬ ab (T - 1000) > (X.length:Int):=by unfold ab;split<;>omega
      rw [if_neg c,s2,Option.bind_some,w1,ab1,Option.bind_some,decide_eq_false ab2]
      exact fin
theorem FnLosses:laws_FnLosses.Pure:=by
  intro L0 L1 _ _ h0 _ _ h1
  obtain ⟨k,hk⟩:∃ k,k=5000000:=⟨_,rfl⟩
  refine ⟨k+4,?_⟩
  have long:laws_FnLosses.j0 (k+4) L0 L1 true=some true:=by
    rw [laws_FnLosses.j0.eq_def]
    simp only []
    rw [if_pos trivial]
  have main:laws_FnLosses.j0 (k+4) L0 L1 false=some true:=by
    rw [laws_FnLosses.j0.eq_def]
    simp only []
    obtain ⟨d,t,c,e1,t0,t1⟩:=draw_coat L0 h0
    have w1:wrap64 (t+1)=t+1:=wrap_id (by omega) (by omega)
    rw [if_neg Bool.false_ne_true,laws_FnLosses.j1.eq_def]
    simp only []
    rw [e1,Option.bind_some]
    simp only []
    rw [w1]
    obtain ⟨N,P,w,g,d1,d2,d3,d4,_,_⟩:=draw_shares L1 h1
    have hs:∀ x ∈ P,x.f0.size≤1048576:=fun x hx=>Nat.le_trans (d4 x hx) (by omega)
    obtain ⟨X,all,e,q1,q2,q3⟩:=shares_i N P w g (by omega) (by omega) hs
    have next:laws_FnLosses.j2 (k+2) L0 L1 false=some true:=by
      rw [laws_FnLosses.j2.eq_def]
      simp only []
      rw [if_neg Bool.false_ne_true,laws_FnLosses.j3.eq_def]
      simp only []
      rw [d1 k (by omega),Option.bind_some]
      simp only []
      rw [q1 k (by omega),Option.bind_some]
      simp only []
      rw [q2 k (by omega),Option.bind_some]
      simp only []
      rw [if_pos trivial]
      exact law_j4 N P w g X all e hs q3 L0 L1 h0 h1 k (by omega)
    by_cases hin:inr d t c
    · have cb:=coat_b d c t
      rw [cl_in hin,Option.bind_some]
      simp only []
      by_cases hin2:inr d (t+1) c
      · have mono:=coat_mono (D:=d) (c:=c) (t:=t) (by have:=hin.1;omega) (by have:=hin.2.2;omega) (by have:=hin.2.1;omega)
        rw [cl_in hin2,Option.bind_some,if_pos trivial,if_neg (by omega),if_neg (by omega)]
        simp only []
        rw [if_pos trivial,decide_eq_false (by omega)]
        exact next
      · rw [cl_out hin2,Option.bind_some,if_pos trivial,if_neg (by omega),if_neg (by omega),if_neg (by decide)]
        exact next
    · rw [cl_out hin,Option.bind_some]
      simp only []
      by_cases hin2:inr d (t+1) c
      · rw [cl_in hin2,Option.bind_some,if_neg (by decide)]
        exact next
      · rw [cl_out hin2,Option.bind_some,if_neg (by decide)]
        exact next
  unfold laws_FnLosses.f laws_b10Long.f
  rw [Option.bind_some]
  cases decide ((L0.length:Int) > 1048576)
  · rw [if_neg Bool.false_ne_true,Option.bind_some]
    cases decide ((L1.length:Int) > 1048576)
    · exact main
    · exact long
  · rw [if_pos rfl];exact long

end Go.Proofs.Ytldelmdmienmeaa.Pure
