/-
  No cell of these rows narrows 'for every input' (looked for: loops, veiled, ifaces, maps, wideKeys, modest, calm, conditions, laid).
  DERIVED. THE GIVEN ROWS OF THIS SEAT. 2 by the template 'for every input the law returns true; each argument reads behind the call as it read before'; 0 by the template 'total and deterministic' (their statements: YtgaopeilfepjmaaGreatTotals.lean).
  GIVEN WITH THE SEED: the statements are not yours to turn. If you find one false, say at which input.
  Laid BY PROGRAM, IN A SANDBOX (cutbox-rows.mjs): the forced cells as the released guide's own fill.sh prints them over the translation d44a71f621ff29ae… (all of the seat's roots in one cut). By AI agents, Wed Nov 11 2026. No macro, syntax, notation, axiom, sorry.
-/
import Derived.Test.YtgaopeilfepjmaaGreatChecked
import GoSem.Claim
import GoSem.ClaimJoined
import GoSem.ClaimMapViews
import Derived.JoinedTies
import Derived.KernelRfl
namespace Go.Proofs.YtgaopeilfepjmaaGreat
/- THE CELL 'sum', in the pinned program and in every row, IS THE sha256 OF THE DUMP (.gsa) THAT YtgaopeilfepjmaaGreatProg.lean LOADS. Nothing in Lean hashes anything: it is a label: what it is worth is what the hold of that sum in a sandbox is worth. -/
noncomputable def Tryz.pinned : Pinned := { name := "ytgaopeilfepjmaagreat", sum := "d44a71f621ff29ae29f2548bff79fde0eb09a3eaf74010d3678cf2fcd84764cd", checked := Tryz.checked }
namespace Rows
def none {H : Type} : Left H := { results := [], args := [] }

/-- 'laws.FnWhole': WHATEVER THE INPUT: true; the input reads as it did. -/
def fnWholeSpec : ChangeSpec := { name := "fnWhole", fn := fun _ => fun
  | [d] => { results := [.lit (.bool true)], args := [d] }
  | _ => none }
def fnWholeRow : OpenClaim := { program := "ytgaopeilfepjmaagreat", sum := "d44a71f621ff29ae29f2548bff79fde0eb09a3eaf74010d3678cf2fcd84764cd", func := "loop.example/g00178/laws.FnWhole", spec := "fnWhole", inPlace := ["slices.overlaps[loop.example/g00178/impl.Sent]", "slices.overlaps[loop.example/g00178/impl.Entry]", "slices.overlaps[int]"], unfollowed := true, recurses := true, apart := false }
def FnWholeSaid : Prop := fnWholeRow.holds Tryz.pinned (OpenSpec.ofChange fnWholeSpec)

/-- ITS FALSE NEIGHBOUR: 'it returns false'. Refute it at one input. -/
def fnWholeWrong : ChangeSpec := { name := "fnWhole", fn := fun _ => fun
  | [d] => { results := [.lit (.bool false)], args := [d] }
  | _ => none }
def FnWholeWrongFalsely : Prop := fnWholeRow.holds Tryz.pinned (OpenSpec.ofChange fnWholeWrong)

/-- 'laws.FnExactHonestRead': WHATEVER THE INPUT: true; the input reads as it did. -/
def fnExactHonestReadSpec : ChangeSpec := { name := "fnExactHonestRead", fn := fun _ => fun
  | [d1, d2] => { results := [.lit (.bool true)], args := [d1, d2] }
  | _ => none }
def fnExactHonestReadRow : OpenClaim := { program := "ytgaopeilfepjmaagreat", sum := "d44a71f621ff29ae29f2548bff79fde0eb09a3eaf74010d3678cf2fcd84764cd", func := "loop.example/g00178/laws.FnExactHonestRead", spec := "fnExactHonestRead", inPlace := ["slices.overlaps[loop.example/g00178/impl.Sent]", "slices.overlaps[loop.example/g00178/impl.Entry]", "slices.overlaps[int]"], unfollowed := true, recurses := true, apart := false }
def FnExactHonestReadSaid : Prop := fnExactHonestReadRow.holds Tryz.pinned (OpenSpec.ofChange fnExactHonestReadSpec)

/-- ITS FALSE NEIGHBOUR: 'it returns false'. Refute it at one input. -/
def fnExactHonestReadWrong : ChangeSpec := { name := "fnExactHonestRead", fn := fun _ => fun
  | [d1, d2] => { results := [.lit (.bool false)], args := [d1, d2] }
  | _ => none }
def FnExactHonestReadWrongFalsely : Prop := fnExactHonestReadRow.holds Tryz.pinned (OpenSpec.ofChange fnExactHonestReadWrong)

/- THE SECOND FORM. 'bulk': how many values and letters a reading holds, each counted each time it is reached (what is shared counts as often as it is met; a slice's spare places count too). A statement '..UptoSaid' is the law's where the arguments, and the package variables that the reading takes, are together of bulk at most 1048576: NARROWER than '..Said'. Prove '..Said' where nothing that the law and all that it calls make is longer than what came in: it says more and counts as full. Else prove '..UptoSaid'. A law counts once. -/
mutual
def uptoBulk {H : Type} : DataW H → Nat
  | .lit (.string bytes) => bytes.length + 1
  | .lit _ => 1
  | .nil => 1
  | .ptr d => uptoBulk d + 1
  | .slice elems spare => uptoBulkAll elems + uptoBulkAll spare + 1
  | .agg parts => uptoBulkAll parts + 1
  | .iface _ d => uptoBulk d + 1
  | .map entries => uptoBulkEntries entries + 1
  | .held _ => 1
def uptoBulkAll {H : Type} : List (DataW H) → Nat
  | [] => 0
  | d :: r => uptoBulk d + uptoBulkAll r
def uptoBulkEntries {H : Type} : List (Lit × DataW H) → Nat
  | [] => 0
  | x :: r => uptoBulkEntry x + uptoBulkEntries r
def uptoBulkEntry {H : Type} : Lit × DataW H → Nat
  | (.string bytes, d) => bytes.length + uptoBulk d + 1
  | (_, d) => uptoBulk d + 1
 end
def uptoSmall : (H : Type) → List (DataW H) → Bool := fun _ ds => decide (uptoBulkAll ds ≤ 1048576)
def OpenSpec.upto (s : _root_.Go.ChangeSpec) : _root_.Go.OpenSpec := { _root_.Go.OpenSpec.ofChange s with cond := some uptoSmall }

/-- 'laws.FnWhole', WHERE WHAT IT READS IS OF BULK AT MOST 1048576: true; the input reads as it did. -/
def fnWholeUptoRow : OpenClaim := { program := "ytgaopeilfepjmaagreat", sum := "d44a71f621ff29ae29f2548bff79fde0eb09a3eaf74010d3678cf2fcd84764cd", func := "loop.example/g00178/laws.FnWhole", spec := "fnWhole", inPlace := ["slices.overlaps[loop.example/g00178/impl.Sent]", "slices.overlaps[loop.example/g00178/impl.Entry]", "slices.overlaps[int]"], unfollowed := true, recurses := true, apart := false, narrowed := true }
def FnWholeUptoSaid : Prop := fnWholeUptoRow.holds Tryz.pinned (OpenSpec.upto fnWholeSpec)

/-- 'laws.FnExactHonestRead', WHERE WHAT IT READS IS OF BULK AT MOST 1048576: true; the input reads as it did. -/
def fnExactHonestReadUptoRow : OpenClaim := { program := "ytgaopeilfepjmaagreat", sum := "d44a71f621ff29ae29f2548bff79fde0eb09a3eaf74010d3678cf2fcd84764cd", func := "loop.example/g00178/laws.FnExactHonestRead", spec := "fnExactHonestRead", inPlace := ["slices.overlaps[loop.example/g00178/impl.Sent]", "slices.overlaps[loop.example/g00178/impl.Entry]", "slices.overlaps[int]"], unfollowed := true, recurses := true, apart := false, narrowed := true }
def FnExactHonestReadUptoSaid : Prop := fnExactHonestReadUptoRow.holds Tryz.pinned (OpenSpec.upto fnExactHonestReadSpec)

end Rows
end Go.Proofs.YtgaopeilfepjmaaGreat
