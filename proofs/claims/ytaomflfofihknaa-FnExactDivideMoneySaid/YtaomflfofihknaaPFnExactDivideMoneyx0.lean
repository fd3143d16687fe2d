-- written by wip/xprint.py, a program of this session, for this claim; not trusted: Lean checks it.
import Derived.Test.YtaomflfofihknaaProg
import Derived.Below
import Derived.Deep.Draws
import Derived.Deep.AppendLies
import Derived.Maps.AppendAt
import Derived.OwnWalk
import Derived.Laws.BytesArg
import Derived.Laws.MakeOwn
import Derived.Laws.OwnMore
import Derived.Deep.OwnRows
import Derived.Tactics
import Derived.Lib.ConvBytes
import Derived.Laws.Slices
import Derived.WalkKit
import Derived.KernelRfl
import Derived.RowKit3
import Derived.Deep.LoopGhost
import Derived.Deep.QuietTactic
import Derived.BigQuiet
import Derived.WideLaws
import Derived.Deep.DeepCutAuto
import Derived.Deep.CutBlock
import Derived.Deep.RegionHeld3
import Derived.Laws.Rows
import Derived.Lib.AppendStr
import Derived.ArgAppend
import Derived.Laws.IdiomCopy
import Derived.OrdersHeld
import Derived.Laws.BitsLemmas
import Derived.RowKit
import Derived.Lib.Walk
import Derived.Shelf.Abstract
import Derived.WalkSpells
import Derived.Test.YtaomflfofihknaaWWords
import Derived.Test.YtaomflfofihknaaWLast
import Derived.Test.YtaomflfofihknaaWTab
import Derived.Test.YtaomflfofihknaaWFour
import Derived.Test.YtaomflfofihknaaWQPut
import Derived.Test.YtaomflfofihknaaWApart
import Derived.Test.YtaomflfofihknaaWArr
import Derived.Test.YtaomflfofihknaaWZeros
import Derived.Test.YtaomflfofihknaaWFoot
import Derived.Test.YtaomflfofihknaaWKept
import Derived.Test.YtaomflfofihknaaWShare
import Derived.Test.YtaomflfofihknaaWN
import Derived.Test.YtaomflfofihknaaWFootNe
import Derived.Test.YtaomflfofihknaaWAt
import Derived.Test.YtaomflfofihknaaWEqStruct
import Derived.Test.YtaomflfofihknaaWRepsOne
import Derived.Test.YtaomflfofihknaaWInv
import Derived.Test.YtaomflfofihknaaWInvWords
import Derived.Test.YtaomflfofihknaaWGuard
import Derived.Test.YtaomflfofihknaaWNEv
import Derived.Test.YtaomflfofihknaaWMore
namespace Go.Proofs.Ytaomflfofihknaa.PFnExactDivideMoney
open Go.RowKit Go.Proofs.YtaomflfofihknaaW.PrintWords Go.Proofs.YtaomflfofihknaaW.PrintLast Go.Proofs.YtaomflfofihknaaW.PrintMore
attribute [local go_sem] max2_int min2_int max_two min_two max_three min_three max_four min_four   -- for this text's walks alone
set_option linter.unusedVariables false
set_option linter.unusedSimpArgs false



def errW : Option Int → Value
  | none => .nilIface
  | some c => .iface 0 (.int .i64 c)
theorem errW_none : errW none = .nilIface := rfl
theorem errW_some (c : Int) : errW (some c) = .iface 0 (.int .i64 c) := rfl

theorem info2 : (Try.prog.info? 2).map (fun i => (i.zero, i.size, i.bytes)) = some (some (.int .i64 0), 1, 8) := by kernel_rfl
-- the values' own types

/-- A region's marks: the first a of n operations are behind. -/
def tf (a n : Nat) : Array Bool := (List.replicate a true ++ List.replicate (n - a) false).toArray
theorem Kd.C_one {α : Type} {d : Kd α} {w : World} {ad : Addr} {x : α} {c : List Value} (hK : d.K w x c) (hc : ∀ j u, c[j]? = some u → w.cell? (ad.add j) = some u) : Kd.C d w (some ad) [x].length [x] :=
  ⟨rfl, by simp, fun _ => ⟨ad, rfl, fun j p hj => by
    cases j with
    | succ j => simp at hj
    | zero =>
      have e : x = p := by simpa using hj
      subst e
      exact ⟨c, d.K_len hK, hK, fun i u hu => by rw [Nat.zero_mul, Nat.zero_add]; exact hc i u hu⟩⟩⟩
theorem cells_blk {w : World} {g : Nat} {t : TypeId} {cs : Array Value} (h : w.heap[g]? = some (.cells cs t (0, 0))) : ∀ j u, cs.toList[j]? = some u → w.cell? ((⟨g, 0, none⟩ : Addr).add j) = some u := by
  intro j u hu
  have e : (⟨g, 0, none⟩ : Addr).add j = ⟨g, j, none⟩ := by unfold Addr.add; split <;> simp_all
  rw [e, blk_cell h]
  simpa using hu
theorem Kd.C_sub {α : Type} {d : Kd α} {w : World} {ad : Addr} {n : Nat} {xs : List α} {z : α} {i : Int} (h : Kd.C d w (some ad) n xs) (h0 : 0 ≤ i) (h1 : i < n) : Kd.C d w (some (ad.add (i.toNat * d.sz))) [xs.getD i.toNat z].length [xs.getD i.toNat z] := by
  obtain ⟨ad', c, e, hl, hK, hc⟩ := Kd.C_get h z i h0 h1
  cases e
  exact Kd.C_one hK (fun j u hu => by
    have h2 := hc j u hu
    have e : (ad.add (i.toNat * d.sz)).add j = ad.add (i.toNat * d.sz + j) := by
      unfold Addr.add
      by_cases hi : i.toNat * d.sz = 0 <;> by_cases hj : j = 0 <;> simp [hi, hj, Nat.add_assoc]
    rw [e]; exact h2)

end Go.Proofs.Ytaomflfofihknaa.PFnExactDivideMoney
