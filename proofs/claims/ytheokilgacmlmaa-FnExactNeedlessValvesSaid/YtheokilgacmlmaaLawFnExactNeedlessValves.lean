-- written by wip/xprint.py, a program of this session, for this claim; not trusted: Lean checks it.
import Derived.Test.YtheokilgacmlmaaRows
import Derived.Test.YtheokilgacmlmaaPFnExactNeedlessValvesx19
import Derived.Test.YtheokilgacmlmaaPureFnExactNeedlessValves
import Derived.WalkKit
import Derived.ProofKit
import Derived.OpenShut
import Derived.ShutString
import Derived.ChangeOld
import Derived.Below
import Derived.SizedLaws
import Derived.Deep.Slices
import Derived.Deep.Fields
import Derived.ChangeSame
import Derived.Lib.SmallJoins
namespace Go.Proofs.Ytheokilgacmlmaa.fnExactNeedlessValves
open Go.ChangeShapes Go.WideShapes Go.ChangeAt Go.RowKit Go.Proofs.YtheokilgacmlmaaW.PrintWords Go.Proofs.Ytheokilgacmlmaa.PFnExactNeedlessValves
open Go.ChangeMaps (open_string shut_string)
set_option linter.unusedVariables false
theorem own:ownKnob Try.prog.godebug=none:=by kernel_rfl
theorem laidOut:laidOutB Try.prog=true:=by kernel_rfl
/-- Whatever reads as data at type t is a Lean value of kind d. -/
structure Opens {α:Type} (P:Program) (t:TypeId) (d:Kd α) (wf:α→Prop):Prop where
  sz:d.sz=P.cellsOf t
  op:∀ {H:Type} {enc:TypeId × Value→H} {w:World} {base:Nat} {spare:Nat→Bool} {held:Bool} {fuel:Nat} {cs:List Value} {x:DataW H × List MemPlace},DataW.trod enc P w base spare held fuel t cs=some x→∃ a:α,d.K w a cs∧wf a
theorem Opens.field {α:Type} {P:Program} {t:TypeId} {d:Kd α} {wf:α→Prop} (o:Opens P t d wf) (h1:d.sz=1) {H:Type} {enc:TypeId × Value→H} {w:World} {base:Nat} {spare:Nat→Bool} {held:Bool} {n off j:Nat} {l:List Value} {ys:List (DataW H × List MemPlace)} {c:Value}
    (hf:DataW.trod enc P w base spare held n t ((l.drop off).take (P.cellsOf t))=ys[j]?) (hj:j<ys.length) (hc:l[off]? =some c):∃ a,d.K w a [c]∧wf a:=by
  rw [List.getElem?_eq_getElem hj,← o.sz,h1] at hf
  have hl:=(List.getElem?_eq_some_iff.1 hc).1
  have hv:=(List.getElem?_eq_some_iff.1 hc).2
  rw [List.drop_eq_getElem_cons hl,hv] at hf
  exact o.op hf
theorem Opens.int {P:Program} {t:TypeId} {k:IntKind} {wf:Int→Prop} (hw:∀ n,(Lit.int k n).wf=true→wf n) (ht:P.underlying t=some (.int k)) (hc:P.cellsOf t=1):Opens P t (Kd.int k) wf:=
  ⟨hc.symm,fun h=>by obtain ⟨n,rfl,_,h1⟩:=DataW.trod_int ht h;exact ⟨n,rfl,hw n h1⟩⟩
theorem Opens.bool {P:Program} {t:TypeId} {wf:Bool→Prop} (hw:∀ n,wf n) (ht:P.underlying t=some .bool) (hc:P.cellsOf t=1):Opens P t Kd.bool wf:=
  ⟨hc.symm,fun h=>by obtain ⟨n,rfl,_⟩:=DataW.trod_bool ht h;exact ⟨n,rfl,hw n⟩⟩
theorem Opens.string {P:Program} {t:TypeId} {wf:ByteArray→Prop} (hw:∀ n:ByteArray,n.size≤maxLen→wf n) (ht:P.underlying t=some .string) (hc:P.cellsOf t=1):Opens P t Kd.string wf:=
  ⟨hc.symm,fun h=>by obtain ⟨n,rfl,_,h1⟩:=DataW.trod_string ht h;exact ⟨n,rfl,hw n h1⟩⟩
theorem list_of {α:Type} {R:Nat→α→Prop} {n:Nat} (h:∀ i,i<n→∃ a,R i a):∃ l:List α,l.length=n∧∀ i a,l[i]? =some a→R i a:=by
  induction n with
  |zero=>exact ⟨[],rfl,fun i a' h=>by simp at h⟩
  |succ q ih=>
    obtain ⟨l,hl,hx⟩:=ih (fun i hi=>h i (by omega))
    obtain ⟨a',hc⟩:=h q (by omega)
    refine ⟨l++[a'],by simp [hl],fun i b hb=>?_⟩
    rcases Nat.lt_or_ge i l.length with hi|hi
    · rw [List.getElem?_append_left hi] at hb
      exact hx i b hb
    · have hi':i=l.length:=by
        have:=(List.getElem?_eq_some_iff.1 hb).1
        simp at this
        omega
      subst hi'
      have e:a'=b:=by simpa using hb
      subst e
      rw [hl]
      exact hc
theorem Opens.slice {α:Type} {P:Program} {t e:TypeId} {d:Kd α} {wf:α→Prop} (ht:P.underlying t=some (.slice e)) (hc:P.cellsOf t=1) (o:Opens P e d wf):Opens P t (Kd.slice e d) (fun l=>l.length≤9223372036854775807∧∀ x_ ∈ l,wf x_):=by
  refine ⟨hc.symm,fun {H enc w base spare held fuel cs x} h=>?_⟩
  rcases Go.Deep.open_slice ht h with ⟨rfl,_⟩|⟨a,len,cap,m,n,D,Pl,rfl,_,hl,hm,hmm,_,hi⟩
  · exact ⟨[],⟨none,0,rfl,Nat.le_refl _,rfl,by simp,fun h=>absurd h (by simp)⟩,by simp,fun x hx=>by cases hx⟩
  · have hle:len≤m:=by rw [hmm];split<;>omega
    have h1:∀ i,i<len→∃ (a':α),wf a'∧∃ c:List Value,c.length=d.sz∧d.K w a' c∧∀ j u,c[j]? =some u→w.cell? (a.add (i * d.sz+j))=some u:=by
      intro i hil
      obtain ⟨cs',hcs,ht'⟩:=hi i (by omega)
      obtain ⟨_,hcl,hat⟩:=World.cells?_some hcs
      obtain ⟨a',hK,hw⟩:=o.op ht'
      refine ⟨a',hw,cs',hcl.trans o.sz.symm,hK,fun j u hu=>?_⟩
      have hj:=(List.getElem?_eq_some_iff.1 hu).1
      have:=hat j (by omega)
      rw [← o.sz,Go.Deep.add_add] at this
      rw [this,hu]
    have h2:=list_of h1
    obtain ⟨l,hll,hx⟩:=h2
    refine ⟨l,⟨some a,cap,by rw [hll],by omega,rfl,by simp only [maxLen] at hm;omega,fun _=>⟨a,rfl,fun j p hj=>?_⟩⟩,?_,fun x hx'=>?_⟩
    · obtain ⟨_,c,h3,h4,h5⟩:=hx j p hj
      exact ⟨c,h3,h4,h5⟩
    · simp only [maxLen] at hm;omega
    · obtain ⟨j,hj⟩:=List.mem_iff_getElem?.1 hx'
      exact (hx j x hj).1
theorem list1 {α:Type} {cs:List α} (h:cs.length=1):∃ c0,cs=[c0]:=by match cs,h with|[c0],_=>exact ⟨c0,rfl⟩
theorem list2 {α:Type} {cs:List α} (h:cs.length=2):∃ c0 c1,cs=[c0,c1]:=by match cs,h with|[c0,c1],_=>exact ⟨c0,c1,rfl⟩
theorem list3 {α:Type} {cs:List α} (h:cs.length=3):∃ c0 c1 c2,cs=[c0,c1,c2]:=by match cs,h with|[c0,c1,c2],_=>exact ⟨c0,c1,c2,rfl⟩
theorem list4 {α:Type} {cs:List α} (h:cs.length=4):∃ c0 c1 c2 c3,cs=[c0,c1,c2,c3]:=by match cs,h with|[c0,c1,c2,c3],_=>exact ⟨c0,c1,c2,c3,rfl⟩
theorem list5 {α:Type} {cs:List α} (h:cs.length=5):∃ c0 c1 c2 c3 c4,cs=[c0,c1,c2,c3,c4]:=by match cs,h with|[c0,c1,c2,c3,c4],_=>exact ⟨c0,c1,c2,c3,c4,rfl⟩
theorem list6 {α:Type} {cs:List α} (h:cs.length=6):∃ c0 c1 c2 c3 c4 c5,cs=[c0,c1,c2,c3,c4,c5]:=by match cs,h with|[c0,c1,c2,c3,c4,c5],_=>exact ⟨c0,c1,c2,c3,c4,c5,rfl⟩
theorem agg_of_cells {cs:Array Value} {l:List Value} (h:(Value.cells (.agg cs)).toList=l):Value.agg cs=.agg l.toArray:=by
  subst h;simp [Value.cells]

theorem op2:Opens Try.prog 2 (Kd.int .i64) wfIi64:=Opens.int (fun _ h=>h) Try.underlying2 (by kernel_rfl)
theorem op22:Opens Try.prog 22 (Kd.slice 2 (Kd.int .i64)) wfLIi64:=Opens.slice Try.underlying22 (by kernel_rfl) op2
theorem op9:Opens Try.prog 9 Kd.string wfZ:=Opens.string (fun _ h=>h) Try.underlying9 (by kernel_rfl)
theorem op122:Opens Try.prog 122 k122 wfT122:=by
  refine ⟨by kernel_rfl,fun {H enc w base spare held fuel cs x} h=>?_⟩
  obtain ⟨ys,n,_,_,hl,hlen,hf⟩:=DataW.trod_struct Try.underlying122 h
  obtain ⟨c0,c1,c2,c3,c4,c5,rfl⟩:=list6 (hl.trans (show Try.prog.cellsOf 122=6 by kernel_rfl))
  obtain ⟨a0,g0,q0⟩:=op9.field rfl (hf 0 _ rfl) (by rw [hlen];decide) (show _=some c0 from rfl)
  obtain ⟨a1,g1,q1⟩:=op2.field rfl (hf 1 _ rfl) (by rw [hlen];decide) (show _=some c1 from rfl)
  obtain ⟨a2,g2,q2⟩:=op2.field rfl (hf 2 _ rfl) (by rw [hlen];decide) (show _=some c2 from rfl)
  obtain ⟨a3,g3,q3⟩:=op2.field rfl (hf 3 _ rfl) (by rw [hlen];decide) (show _=some c3 from rfl)
  obtain ⟨a4,g4,q4⟩:=op2.field rfl (hf 4 _ rfl) (by rw [hlen];decide) (show _=some c4 from rfl)
  obtain ⟨a5,g5,q5⟩:=op2.field rfl (hf 5 _ rfl) (by rw [hlen];decide) (show _=some c5 from rfl)
  exact ⟨⟨a0,a1,a2,a3,a4,a5⟩,⟨[c0],[c1,c2,c3,c4,c5],rfl,g0,⟨[c1],[c2,c3,c4,c5],rfl,g1,⟨[c2],[c3,c4,c5],rfl,g2,⟨[c3],[c4,c5],rfl,g3,⟨[c4],[c5],rfl,g4,g5⟩⟩⟩⟩⟩,⟨q0,q1,q2,q3,q4,q5⟩⟩
theorem op23:Opens Try.prog 23 (Kd.slice 122 k122) wfLT122:=Opens.slice Try.underlying23 (by kernel_rfl) op122
theorem op25:Opens Try.prog 25 k25 wfT25:=by
  refine ⟨by kernel_rfl,fun {H enc w base spare held fuel cs x} h=>?_⟩
  obtain ⟨ys,n,_,_,hl,hlen,hf⟩:=DataW.trod_struct Try.underlying25 h
  obtain ⟨c0,c1,rfl⟩:=list2 (hl.trans (show Try.prog.cellsOf 25=2 by kernel_rfl))
  obtain ⟨a0,g0,q0⟩:=op22.field rfl (hf 0 _ rfl) (by rw [hlen];decide) (show _=some c0 from rfl)
  obtain ⟨a1,g1,q1⟩:=op23.field rfl (hf 1 _ rfl) (by rw [hlen];decide) (show _=some c1 from rfl)
  exact ⟨⟨a0,a1⟩,⟨[c0],[c1],rfl,g0,g1⟩,⟨q0,q1⟩⟩
theorem op4:Opens Try.prog 4 Kd.bool wfB:=Opens.bool (fun _=>trivial) Try.underlying4 (by kernel_rfl)
theorem op69:Opens Try.prog 69 k69 wfT69:=by
  refine ⟨by kernel_rfl,fun {H enc w base spare held fuel cs x} h=>?_⟩
  obtain ⟨ys,n,_,_,hl,hlen,hf⟩:=DataW.trod_struct Try.underlying69 h
  obtain ⟨c0,c1,c2,rfl⟩:=list3 (hl.trans (show Try.prog.cellsOf 69=3 by kernel_rfl))
  obtain ⟨a0,g0,q0⟩:=op9.field rfl (hf 0 _ rfl) (by rw [hlen];decide) (show _=some c0 from rfl)
  obtain ⟨a1,g1,q1⟩:=op9.field rfl (hf 1 _ rfl) (by rw [hlen];decide) (show _=some c1 from rfl)
  obtain ⟨a2,g2,q2⟩:=op4.field rfl (hf 2 _ rfl) (by rw [hlen];decide) (show _=some c2 from rfl)
  exact ⟨⟨a0,a1,a2⟩,⟨[c0],[c1,c2],rfl,g0,⟨[c1],[c2],rfl,g1,g2⟩⟩,⟨q0,q1,q2⟩⟩
theorem op26:Opens Try.prog 26 (Kd.slice 69 k69) wfLT69:=Opens.slice Try.underlying26 (by kernel_rfl) op69
set_option maxRecDepth 100000 in
theorem lifted (os:Os) (started:os.Started) (H:Type) (enc:TypeId × Value→H):
    ReturnsInHanded {} Try.checked os 9 .any (Rows.fnExactNeedlessValvesSpec.pre6 enc Try.prog Try.f9 Rows.fnExactNeedlessValvesRow.domain false) (Rows.fnExactNeedlessValvesSpec.post enc Try.prog Try.f9 false true false false):=by
  refine returnsInHanded_of_change_sized (C:=Try.checked) own started (by kernel_rfl) Try.func9
    (ChangeSpec.witness6 (enc:=enc) (C:=Try.checked) false ⟨#[],#[.agg #[.slice none 0 0,.slice none 0 0],.slice none 0 0],[]⟩ 8 (by kernel_rfl) (by kernel_rfl) (by kernel_rfl) (by kernel_rfl)) ?_
  intro W base args ds gs before hval0 hW hcnd hsz0 _
  have hval:∀ (j:Nat) t v,Try.f9.params[j]? =some t→args[j]? =some v→Value.okWide Try.prog W .any base t v:=hval0
  have hW':=hW
  obtain ⟨p,q,hA0,hV,rfl,hfz,hnd⟩:=hW
  have hA:DataW.TrodAll enc Try.prog W 0 (fun _=>true) true Try.f9.params.toList args.toList ds p:=hA0
  rw [Try.params9] at hA hval
  obtain ⟨v0,vs0,d0,ds0,p0,q0,hargs,rfl,rfl,h0,r0⟩:=trodAll_cons hA
  obtain ⟨v1,vs1,d1,ds1,p1,q1,rfl,rfl,rfl,h1,r1⟩:=trodAll_cons r0
  obtain ⟨rfl,rfl,rfl⟩:=trodAll_nil r1
  obtain rfl:args=#[v0,v1]:=by cases args;simp_all
  obtain ⟨rfl,rfl⟩:=trodVars_none hV
  have k0:=h0
  have lt0:∀ x ∈ p0,x.block<W.heap.size:=by obtain ⟨m,hm⟩:=k0;exact DataW.trod_lt m _ _ _ hm
  obtain ⟨fu0,hf0⟩:=h0
  obtain ⟨x0,hK0,hw0⟩:=op25.op hf0
  obtain ⟨A0_0,c0_0,A0_1,c0_1,_,rfl,-,hl0_0,hr0_0,hl0_1,hr0_1⟩:∃ (A0_0:Option Addr) (c0_0:Nat) (A0_1:Option Addr) (c0_1:Nat) (u_:Unit),v0=.agg #[.slice A0_0 x0.f0.length c0_0,.slice A0_1 x0.f1.length c0_1]∧True∧x0.f0.length≤c0_0∧Kd.C (Kd.int .i64) W A0_0 x0.f0.length x0.f0∧x0.f1.length≤c0_1∧Kd.C k122 W A0_1 x0.f1.length x0.f1:=by
    obtain ⟨cs_,rfl,_⟩:=okWide_struct Try.underlying25 (hval 0 25 v0 rfl rfl)
    obtain ⟨A0,c0,A1,c1,e_,l0,g0,l1,g1⟩:=k25_open hK0
    exact ⟨A0,c0,A1,c1,(),(by simpa [Value.cells] using agg_of_cells e_),trivial,l0,g0,l1,g1⟩
  have k1:=h1
  have lt1:∀ x ∈ p1,x.block<W.heap.size:=by obtain ⟨m,hm⟩:=k1;exact DataW.trod_lt m _ _ _ hm
  obtain ⟨fu1,hf1⟩:=h1
  obtain ⟨x1,hK1,hw1⟩:=op26.op hf1
  obtain ⟨A1,len1,c1,rfl⟩:=okWide_slice Try.underlying26 (hval 1 26 v1 rfl rfl)
  obtain ⟨A'1,c'1,e1,hl1,hr1⟩:=hK1
  simp only [Value.cells,List.cons.injEq,and_true,Value.slice.injEq] at e1
  obtain ⟨rfl,rfl,rfl⟩:=e1
  obtain ⟨kk,hp⟩:=Pure.FnExactNeedlessValves x0 x1 hw0 hw1
  refine (PFnExactNeedlessValves.laws_FnExactNeedlessValves.calls kk A0_0 c0_0 x0.f0 A0_1 c0_1 x0.f1 A1 c1 x1 true W hr0_0 hl0_0 hr0_1 hl0_1 hr1 hl1 hp).mono fun e W' ⟨he,bel0⟩=>?_
  have bel:Below W.heap.size W W':=bel0
  subst he
  exact ⟨_,rfl,_,_,_,[],_,[],hW',trodAll_mk1 (shut_bool Try.underlying4 _),(trodAll_cons_mk (Below.trod laidOut (by kernel_rfl) (of_decide_eq_true (by kernel_rfl)) k0 bel lt0) (trodAll_cons_mk (Below.trod laidOut (by kernel_rfl) (of_decide_eq_true (by kernel_rfl)) k1 bel lt1) trodAll_mk0)),rfl,bel.frame _,fun h=>by cases h⟩
theorem over:Rows.fnExactNeedlessValvesRow.holds Try.pinned (OpenSpec.ofChange Rows.fnExactNeedlessValvesSpec):=
  OpenClaim.holds_of_wide 9 Try.f9 rfl rfl rfl rfl rfl rfl rfl ⟨rfl,rfl,rfl,rfl,rfl⟩ rfl rfl rfl rfl rfl (by kernel_rfl) Try.func9 (by kernel_rfl)
    (of_decide_eq_true (by kernel_rfl)) (by unfold Func.isWrapper;first|(rw [if_pos (by decide+kernel)];kernel_rfl)|(rw [if_neg (by decide+kernel)];exact ⟨rfl,rfl⟩))
    (fun os started H enc _=>lifted os started H enc)
theorem proved:Rows.FnExactNeedlessValvesSaid:=over
#print axioms proved
end Go.Proofs.Ytheokilgacmlmaa.fnExactNeedlessValves
namespace Go.Proofs.Ytheokilgacmlmaa
/-- The row, under a short name, for the claim. -/
theorem fnExactNeedlessValves_holds:Rows.FnExactNeedlessValvesSaid:=fnExactNeedlessValves.proved
end Go.Proofs.Ytheokilgacmlmaa
