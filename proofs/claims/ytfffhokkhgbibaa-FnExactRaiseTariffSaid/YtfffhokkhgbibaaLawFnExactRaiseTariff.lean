-- written by wip/xprint.py, a program of this session, for this claim; not trusted: Lean checks it.
import Derived.Test.YtfffhokkhgbibaaRows
import Derived.Test.YtfffhokkhgbibaaPFnExactRaiseTariffx10
import Derived.Test.YtfffhokkhgbibaaPureFnExactRaiseTariff
import Derived.WalkKit
import Derived.ProofKit
import Derived.OpenShut
import Derived.ShutString
import Derived.ChangeOld
import Derived.Below
import Derived.SizedLaws
import Derived.Deep.Slices
import Derived.Deep.Fields
import Derived.ChangeSame
import Derived.Lib.SmallJoins
namespace Go.Proofs.Ytfffhokkhgbibaa.fnExactRaiseTariff
open Go.ChangeShapes Go.WideShapes Go.ChangeAt Go.RowKit Go.Proofs.YtfffhokkhgbibaaW.PrintWords Go.Proofs.Ytfffhokkhgbibaa.PFnExactRaiseTariff
open Go.ChangeMaps (open_string shut_string)
set_option linter.unusedVariables false
theorem own:ownKnob Try.prog.godebug=none:=by kernel_rfl
theorem laidOut:laidOutB Try.prog=true:=by kernel_rfl
/-- Whatever reads as data at type t is a Lean value of kind d. -/
structure Opens {α:Type} (P:Program) (t:TypeId) (d:Kd α) (wf:α→Prop):Prop where
  sz:d.sz=P.cellsOf t
  op:∀ {H:Type} {enc:TypeId × Value→H} {w:World} {base:Nat} {spare:Nat→Bool} {held:Bool} {fuel:Nat} {cs:List Value} {x:DataW H × List MemPlace},DataW.trod enc P w base spare held fuel t cs=some x→∃ a:α,d.K w a cs∧wf a
theorem Opens.field {α:Type} {P:Program} {t:TypeId} {d:Kd α} {wf:α→Prop} (o:Opens P t d wf) (h1:d.sz=1) {H:Type} {enc:TypeId × Value→H} {w:World} {base:Nat} {spare:Nat→Bool} {held:Bool} {n off j:Nat} {l:List Value} {ys:List (DataW H × List MemPlace)} {c:Value}
    (hf:DataW.trod enc P w base spare held n t ((l.drop off).take (P.cellsOf t))=ys[j]?) (hj:j<ys.length) (hc:l[off]? =some c):∃ a,d.K w a [c]∧wf a:=by
  rw [List.getElem?_eq_getElem hj,← o.sz,h1] at hf
  have hl:=(List.getElem?_eq_some_iff.1 hc).1
  have hv:=(List.getElem?_eq_some_iff.1 hc).2
  rw [List.drop_eq_getElem_cons hl,hv] at hf
  exact o.op hf
theorem Opens.int {P:Program} {t:TypeId} {k:IntKind} {wf:Int→Prop} (hw:∀ n,(Lit.int k n).wf=true→wf n) (ht:P.underlying t=some (.int k)) (hc:P.cellsOf t=1):Opens P t (Kd.int k) wf:=
  ⟨hc.symm,fun h=>by obtain ⟨n,rfl,_,h1⟩:=DataW.trod_int ht h;exact ⟨n,rfl,hw n h1⟩⟩
theorem Opens.bool {P:Program} {t:TypeId} {wf:Bool→Prop} (hw:∀ n,wf n) (ht:P.underlying t=some .bool) (hc:P.cellsOf t=1):Opens P t Kd.bool wf:=
  ⟨hc.symm,fun h=>by obtain ⟨n,rfl,_⟩:=DataW.trod_bool ht h;exact ⟨n,rfl,hw n⟩⟩
theorem Opens.string {P:Program} {t:TypeId} {wf:ByteArray→Prop} (hw:∀ n:ByteArray,n.size≤maxLen→wf n) (ht:P.underlying t=some .string) (hc:P.cellsOf t=1):Opens P t Kd.string wf:=
  ⟨hc.symm,fun h=>by obtain ⟨n,rfl,_,h1⟩:=DataW.trod_string ht h;exact ⟨n,rfl,hw n h1⟩⟩
theorem list_of {α:Type} {R:Nat→α→Prop} {n:Nat} (h:∀ i,i<n→∃ a,R i a):∃ l:List α,l.length=n∧∀ i a,l[i]? =some a→R i a:=by
  induction n with
  |zero=>exact ⟨[],rfl,fun i a' h=>by simp at h⟩
  |succ q ih=>
    obtain ⟨l,hl,hx⟩:=ih (fun i hi=>h i (by omega))
    obtain ⟨a',hc⟩:=h q (by omega)
    refine ⟨l++[a'],by simp [hl],fun i b hb=>?_⟩
    rcases Nat.lt_or_ge i l.length with hi|hi
    · rw [List.getElem?_append_left hi] at hb
      exact hx i b hb
    · have hi':i=l.length:=by
        have:=(List.getElem?_eq_some_iff.1 hb).1
        simp at this
        omega
      subst hi'
      have e:a'=b:=by simpa using hb
      subst e
      rw [hl]
      exact hc
theorem Opens.slice {α:Type} {P:Program} {t e:TypeId} {d:Kd α} {wf:α→Prop} (ht:P.underlying t=some (.slice e)) (hc:P.cellsOf t=1) (o:Opens P e d wf):Opens P t (Kd.slice e d) (fun l=>l.length≤9223372036854775807∧∀ x_ ∈ l,wf x_):=by
  refine ⟨hc.symm,fun {H enc w base spare held fuel cs x} h=>?_⟩
  rcases Go.Deep.open_slice ht h with ⟨rfl,_⟩|⟨a,len,cap,m,n,D,Pl,rfl,_,hl,hm,hmm,_,hi⟩
  · exact ⟨[],⟨none,0,rfl,Nat.le_refl _,rfl,by simp,fun h=>absurd h (by simp)⟩,by simp,fun x hx=>by cases hx⟩
  · have hle:len≤m:=by rw [hmm];split<;>omega
    have h1:∀ i,i<len→∃ (a':α),wf a'∧∃ c:List Value,c.length=d.sz∧d.K w a' c∧∀ j u,c[j]? =some u→w.cell? (a.add (i * d.sz+j))=some u:=by
      intro i hil
      obtain ⟨cs',hcs,ht'⟩:=hi i (by omega)
      obtain ⟨_,hcl,hat⟩:=World.cells?_some hcs
      obtain ⟨a',hK,hw⟩:=o.op ht'
      refine ⟨a',hw,cs',hcl.trans o.sz.symm,hK,fun j u hu=>?_⟩
      have hj:=(List.getElem?_eq_some_iff.1 hu).1
      have:=hat j (by omega)
      rw [← o.sz,Go.Deep.add_add] at this
      rw [this,hu]
    have h2:=list_of h1
    obtain ⟨l,hll,hx⟩:=h2
    refine ⟨l,⟨some a,cap,by rw [hll],by omega,rfl,by simp only [maxLen] at hm;omega,fun _=>⟨a,rfl,fun j p hj=>?_⟩⟩,?_,fun x hx'=>?_⟩
    · obtain ⟨_,c,h3,h4,h5⟩:=hx j p hj
      exact ⟨c,h3,h4,h5⟩
    · simp only [maxLen] at hm;omega
    · obtain ⟨j,hj⟩:=List.mem_iff_getElem?.1 hx'
      exact (hx j x hj).1
theorem list1 {α:Type} {cs:List α} (h:cs.length=1):∃ c0,cs=[c0]:=by match cs,h with|[c0],_=>exact ⟨c0,rfl⟩
theorem list2 {α:Type} {cs:List α} (h:cs.length=2):∃ c0 c1,cs=[c0,c1]:=by match cs,h with|[c0,c1],_=>exact ⟨c0,c1,rfl⟩
theorem list3 {α:Type} {cs:List α} (h:cs.length=3):∃ c0 c1 c2,cs=[c0,c1,c2]:=by match cs,h with|[c0,c1,c2],_=>exact ⟨c0,c1,c2,rfl⟩
theorem list4 {α:Type} {cs:List α} (h:cs.length=4):∃ c0 c1 c2 c3,cs=[c0,c1,c2,c3]:=by match cs,h with|[c0,c1,c2,c3],_=>exact ⟨c0,c1,c2,c3,rfl⟩
theorem list5 {α:Type} {cs:List α} (h:cs.length=5):∃ c0 c1 c2 c3 c4,cs=[c0,c1,c2,c3,c4]:=by match cs,h with|[c0,c1,c2,c3,c4],_=>exact ⟨c0,c1,c2,c3,c4,rfl⟩
theorem list6 {α:Type} {cs:List α} (h:cs.length=6):∃ c0 c1 c2 c3 c4 c5,cs=[c0,c1,c2,c3,c4,c5]:=by match cs,h with|[c0,c1,c2,c3,c4,c5],_=>exact ⟨c0,c1,c2,c3,c4,c5,rfl⟩
theorem agg_of_cells {cs:Array Value} {l:List Value} (h:(Value.cells (.agg cs)).toList=l):Value.agg cs=.agg l.toArray:=by
  subst h;simp [Value.cells]

theorem op9:Opens Try.prog 9 Kd.string wfZ:=Opens.string (fun _ h=>h) Try.underlying9 (by kernel_rfl)
theorem op2:Opens Try.prog 2 (Kd.int .i64) wfIi64:=Opens.int (fun _ h=>h) Try.underlying2 (by kernel_rfl)
theorem op25:Opens Try.prog 25 (Kd.slice 2 (Kd.int .i64)) wfLIi64:=Opens.slice Try.underlying25 (by kernel_rfl) op2
theorem op22:Opens Try.prog 22 (Kd.slice 25 (Kd.slice 2 (Kd.int .i64))) wfLLIi64:=Opens.slice Try.underlying22 (by kernel_rfl) op25
theorem op24:Opens Try.prog 24 k24 wfT24:=by
  refine ⟨by kernel_rfl,fun {H enc w base spare held fuel cs x} h=>?_⟩
  obtain ⟨ys,n,_,_,hl,hlen,hf⟩:=DataW.trod_struct Try.underlying24 h
  obtain ⟨c0,c1,c2,c3,rfl⟩:=list4 (hl.trans (show Try.prog.cellsOf 24=4 by kernel_rfl))
  obtain ⟨a0,g0,q0⟩:=op9.field rfl (hf 0 _ rfl) (by rw [hlen];decide) (show _=some c0 from rfl)
  obtain ⟨a1,g1,q1⟩:=op2.field rfl (hf 1 _ rfl) (by rw [hlen];decide) (show _=some c1 from rfl)
  obtain ⟨a2,g2,q2⟩:=op2.field rfl (hf 2 _ rfl) (by rw [hlen];decide) (show _=some c2 from rfl)
  obtain ⟨a3,g3,q3⟩:=op22.field rfl (hf 3 _ rfl) (by rw [hlen];decide) (show _=some c3 from rfl)
  exact ⟨⟨a0,a1,a2,a3⟩,⟨[c0],[c1,c2,c3],rfl,g0,⟨[c1],[c2,c3],rfl,g1,⟨[c2],[c3],rfl,g2,g3⟩⟩⟩,⟨q0,q1,q2,q3⟩⟩
set_option maxRecDepth 100000 in
theorem lifted (os:Os) (started:os.Started) (H:Type) (enc:TypeId × Value→H):
    ReturnsInHanded {} Try.checked os 4 .any (Rows.fnExactRaiseTariffSpec.pre6 enc Try.prog Try.f4 Rows.fnExactRaiseTariffRow.domain false) (Rows.fnExactRaiseTariffSpec.post enc Try.prog Try.f4 false true false false):=by
  refine returnsInHanded_of_change_sized (C:=Try.checked) own started (by kernel_rfl) Try.func4
    (ChangeSpec.witness6 (enc:=enc) (C:=Try.checked) false ⟨#[],#[.agg #[.string ByteArray.empty,.int .i64 0,.int .i64 0,.slice none 0 0],.int .i64 0,.int .i64 0],[]⟩ 8 (by kernel_rfl) (by kernel_rfl) (by kernel_rfl) (by kernel_rfl)) ?_
  intro W base args ds gs before hval0 hW hcnd hsz0 _
  have hval:∀ (j:Nat) t v,Try.f4.params[j]? =some t→args[j]? =some v→Value.okWide Try.prog W .any base t v:=hval0
  have hW':=hW
  obtain ⟨p,q,hA0,hV,rfl,hfz,hnd⟩:=hW
  have hA:DataW.TrodAll enc Try.prog W 0 (fun _=>true) true Try.f4.params.toList args.toList ds p:=hA0
  rw [Try.params4] at hA hval
  obtain ⟨v0,vs0,d0,ds0,p0,q0,hargs,rfl,rfl,h0,r0⟩:=trodAll_cons hA
  obtain ⟨v1,vs1,d1,ds1,p1,q1,rfl,rfl,rfl,h1,r1⟩:=trodAll_cons r0
  obtain ⟨v2,vs2,d2,ds2,p2,q2,rfl,rfl,rfl,h2,r2⟩:=trodAll_cons r1
  obtain ⟨rfl,rfl,rfl⟩:=trodAll_nil r2
  obtain rfl:args=#[v0,v1,v2]:=by cases args;simp_all
  obtain ⟨rfl,rfl⟩:=trodVars_none hV
  have k0:=h0
  have lt0:∀ x ∈ p0,x.block<W.heap.size:=by obtain ⟨m,hm⟩:=k0;exact DataW.trod_lt m _ _ _ hm
  obtain ⟨fu0,hf0⟩:=h0
  obtain ⟨x0,hK0,hw0⟩:=op24.op hf0
  obtain ⟨A0_3,c0_3,_,rfl,-,hl0_3,hr0_3⟩:∃ (A0_3:Option Addr) (c0_3:Nat) (u_:Unit),v0=.agg #[.string x0.f0,.int .i64 x0.f1,.int .i64 x0.f2,.slice A0_3 x0.f3.length c0_3]∧True∧x0.f3.length≤c0_3∧Kd.C (Kd.slice 2 (Kd.int .i64)) W A0_3 x0.f3.length x0.f3:=by
    obtain ⟨cs_,rfl,_⟩:=okWide_struct Try.underlying24 (hval 0 24 v0 rfl rfl)
    obtain ⟨A3,c3,e_,l3,g3⟩:=k24_open hK0
    exact ⟨A3,c3,(),(by simpa [Value.cells] using agg_of_cells e_),trivial,l3,g3⟩
  have k1:=h1
  have lt1:∀ x ∈ p1,x.block<W.heap.size:=by obtain ⟨m,hm⟩:=k1;exact DataW.trod_lt m _ _ _ hm
  obtain ⟨x1,rfl,rfl,rfl,hw1⟩:=open_int Try.underlying2 (hval 1 2 v1 rfl rfl) h1
  have k2:=h2
  have lt2:∀ x ∈ p2,x.block<W.heap.size:=by obtain ⟨m,hm⟩:=k2;exact DataW.trod_lt m _ _ _ hm
  obtain ⟨x2,rfl,rfl,rfl,hw2⟩:=open_int Try.underlying2 (hval 2 2 v2 rfl rfl) h2
  obtain ⟨kk,hp⟩:=Pure.FnExactRaiseTariff x0 x1 x2 hw0 hw1 hw2
  refine (PFnExactRaiseTariff.laws_FnExactRaiseTariff.calls kk x0.f0 x0.f1 x0.f2 A0_3 c0_3 x0.f3 x1 x2 true W hr0_3 hl0_3 hp).mono fun e W' ⟨he,bel0⟩=>?_
  have bel:Below W.heap.size W W':=bel0
  subst he
  exact ⟨_,rfl,_,_,_,[],_,[],hW',trodAll_mk1 (shut_bool Try.underlying4 _),(trodAll_cons_mk (Below.trod laidOut (by kernel_rfl) (of_decide_eq_true (by kernel_rfl)) k0 bel lt0) (trodAll_cons_mk (Below.trod laidOut (by kernel_rfl) (of_decide_eq_true (by kernel_rfl)) k1 bel lt1) (trodAll_cons_mk (Below.trod laidOut (by kernel_rfl) (of_decide_eq_true (by kernel_rfl)) k2 bel lt2) trodAll_mk0))),rfl,bel.frame _,fun h=>by cases h⟩
theorem over:Rows.fnExactRaiseTariffRow.holds Try.pinned (OpenSpec.ofChange Rows.fnExactRaiseTariffSpec):=
  OpenClaim.holds_of_wide 4 Try.f4 rfl rfl rfl rfl rfl rfl rfl ⟨rfl,rfl,rfl,rfl,rfl⟩ rfl rfl rfl rfl rfl (by kernel_rfl) Try.func4 (by kernel_rfl)
    (of_decide_eq_true (by kernel_rfl)) (by unfold Func.isWrapper;first|(rw [if_pos (by decide+kernel)];kernel_rfl)|(rw [if_neg (by decide+kernel)];exact ⟨rfl,rfl⟩))
    (fun os started H enc _=>lifted os started H enc)
theorem proved:Rows.FnExactRaiseTariffSaid:=over
#print axioms proved
end Go.Proofs.Ytfffhokkhgbibaa.fnExactRaiseTariff
namespace Go.Proofs.Ytfffhokkhgbibaa
/-- The row, under a short name, for the claim. -/
theorem fnExactRaiseTariff_holds:Rows.FnExactRaiseTariffSaid:=fnExactRaiseTariff.proved
end Go.Proofs.Ytfffhokkhgbibaa
