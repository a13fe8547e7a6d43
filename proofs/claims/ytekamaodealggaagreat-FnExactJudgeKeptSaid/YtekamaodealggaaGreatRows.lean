/-
  No cell of these rows narrows 'for every input' (looked for: loops, veiled, ifaces, maps, wideKeys, modest, calm, conditions, laid).
  DERIVED. THE GIVEN ROWS OF THIS SEAT. 6 by the template 'for every input the law returns true; each argument reads behind the call as it read before'; 0 by the template 'total and deterministic' (their statements: YtekamaodealggaaGreatTotals.lean).
  GIVEN WITH THE SEED: the statements are not yours to turn. If you find one false, say at which input.
  Laid BY PROGRAM, IN A SANDBOX (cutbox-rows.mjs): the forced cells as the released guide's own fill.sh prints them over the translation 7d1ad4504c27211f… (all of the seat's roots in one cut). By AI agents, Wed Nov 11 2026. No macro, syntax, notation, axiom, sorry.
-/
import Derived.Test.YtekamaodealggaaGreatChecked
import GoSem.Claim
import GoSem.ClaimJoined
import GoSem.ClaimMapViews
import Derived.JoinedTies
import Derived.KernelRfl
namespace Go.Proofs.YtekamaodealggaaGreat
/- THE CELL 'sum', in the pinned program and in every row, IS THE sha256 OF THE DUMP (.gsa) THAT YtekamaodealggaaGreatProg.lean LOADS. Nothing in Lean hashes anything: it is a label: what it is worth is what the hold of that sum in a sandbox is worth. -/
noncomputable def Tryz.pinned : Pinned := { name := "ytekamaodealggaagreat", sum := "7d1ad4504c27211f958a09d78a474fa2c74ce669f8449256673f052984c377a7", checked := Tryz.checked }
namespace Rows
def none {H : Type} : Left H := { results := [], args := [] }

/-- 'laws.FnExactJudgeWhole': WHATEVER THE INPUT: true; the input reads as it did. -/
def fnExactJudgeWholeSpec : ChangeSpec := { name := "fnExactJudgeWhole", fn := fun _ => fun
  | [d] => { results := [.lit (.bool true)], args := [d] }
  | _ => none }
def fnExactJudgeWholeRow : OpenClaim := { program := "ytekamaodealggaagreat", sum := "7d1ad4504c27211f958a09d78a474fa2c74ce669f8449256673f052984c377a7", func := "loop.example/g00178/laws.FnExactJudgeWhole", spec := "fnExactJudgeWhole", unfollowed := true, recurses := true, apart := false }
def FnExactJudgeWholeSaid : Prop := fnExactJudgeWholeRow.holds Tryz.pinned (OpenSpec.ofChange fnExactJudgeWholeSpec)

/-- ITS FALSE NEIGHBOUR: 'it returns false'. Refute it at one input. -/
def fnExactJudgeWholeWrong : ChangeSpec := { name := "fnExactJudgeWhole", fn := fun _ => fun
  | [d] => { results := [.lit (.bool false)], args := [d] }
  | _ => none }
def FnExactJudgeWholeWrongFalsely : Prop := fnExactJudgeWholeRow.holds Tryz.pinned (OpenSpec.ofChange fnExactJudgeWholeWrong)

/-- 'laws.FnExactJudgeOrder': WHATEVER THE INPUT: true; the input reads as it did. -/
def fnExactJudgeOrderSpec : ChangeSpec := { name := "fnExactJudgeOrder", fn := fun _ => fun
  | [d] => { results := [.lit (.bool true)], args := [d] }
  | _ => none }
def fnExactJudgeOrderRow : OpenClaim := { program := "ytekamaodealggaagreat", sum := "7d1ad4504c27211f958a09d78a474fa2c74ce669f8449256673f052984c377a7", func := "loop.example/g00178/laws.FnExactJudgeOrder", spec := "fnExactJudgeOrder", unfollowed := true, recurses := true, apart := false }
def FnExactJudgeOrderSaid : Prop := fnExactJudgeOrderRow.holds Tryz.pinned (OpenSpec.ofChange fnExactJudgeOrderSpec)

/-- ITS FALSE NEIGHBOUR: 'it returns false'. Refute it at one input. -/
def fnExactJudgeOrderWrong : ChangeSpec := { name := "fnExactJudgeOrder", fn := fun _ => fun
  | [d] => { results := [.lit (.bool false)], args := [d] }
  | _ => none }
def FnExactJudgeOrderWrongFalsely : Prop := fnExactJudgeOrderRow.holds Tryz.pinned (OpenSpec.ofChange fnExactJudgeOrderWrong)

/-- 'laws.FnExactLogAt': WHATEVER THE INPUT: true; the input reads as it did. -/
def fnExactLogAtSpec : ChangeSpec := { name := "fnExactLogAt", fn := fun _ => fun
  | [d1, d2] => { results := [.lit (.bool true)], args := [d1, d2] }
  | _ => none }
def fnExactLogAtRow : OpenClaim := { program := "ytekamaodealggaagreat", sum := "7d1ad4504c27211f958a09d78a474fa2c74ce669f8449256673f052984c377a7", func := "loop.example/g00178/laws.FnExactLogAt", spec := "fnExactLogAt", unfollowed := true, recurses := true, apart := false }
def FnExactLogAtSaid : Prop := fnExactLogAtRow.holds Tryz.pinned (OpenSpec.ofChange fnExactLogAtSpec)

/-- ITS FALSE NEIGHBOUR: 'it returns false'. Refute it at one input. -/
def fnExactLogAtWrong : ChangeSpec := { name := "fnExactLogAt", fn := fun _ => fun
  | [d1, d2] => { results := [.lit (.bool false)], args := [d1, d2] }
  | _ => none }
def FnExactLogAtWrongFalsely : Prop := fnExactLogAtRow.holds Tryz.pinned (OpenSpec.ofChange fnExactLogAtWrong)

/-- 'laws.FnExactJudgeTrue': WHATEVER THE INPUT: true; the input reads as it did. -/
def fnExactJudgeTrueSpec : ChangeSpec := { name := "fnExactJudgeTrue", fn := fun _ => fun
  | [d] => { results := [.lit (.bool true)], args := [d] }
  | _ => none }
def fnExactJudgeTrueRow : OpenClaim := { program := "ytekamaodealggaagreat", sum := "7d1ad4504c27211f958a09d78a474fa2c74ce669f8449256673f052984c377a7", func := "loop.example/g00178/laws.FnExactJudgeTrue", spec := "fnExactJudgeTrue", unfollowed := true, recurses := true, apart := false }
def FnExactJudgeTrueSaid : Prop := fnExactJudgeTrueRow.holds Tryz.pinned (OpenSpec.ofChange fnExactJudgeTrueSpec)

/-- ITS FALSE NEIGHBOUR: 'it returns false'. Refute it at one input. -/
def fnExactJudgeTrueWrong : ChangeSpec := { name := "fnExactJudgeTrue", fn := fun _ => fun
  | [d] => { results := [.lit (.bool false)], args := [d] }
  | _ => none }
def FnExactJudgeTrueWrongFalsely : Prop := fnExactJudgeTrueRow.holds Tryz.pinned (OpenSpec.ofChange fnExactJudgeTrueWrong)

/-- 'laws.FnExactJudgeKept': WHATEVER THE INPUT: true; the input reads as it did. -/
def fnExactJudgeKeptSpec : ChangeSpec := { name := "fnExactJudgeKept", fn := fun _ => fun
  | [d] => { results := [.lit (.bool true)], args := [d] }
  | _ => none }
def fnExactJudgeKeptRow : OpenClaim := { program := "ytekamaodealggaagreat", sum := "7d1ad4504c27211f958a09d78a474fa2c74ce669f8449256673f052984c377a7", func := "loop.example/g00178/laws.FnExactJudgeKept", spec := "fnExactJudgeKept", unfollowed := true, recurses := true, apart := false }
def FnExactJudgeKeptSaid : Prop := fnExactJudgeKeptRow.holds Tryz.pinned (OpenSpec.ofChange fnExactJudgeKeptSpec)

/-- ITS FALSE NEIGHBOUR: 'it returns false'. Refute it at one input. -/
def fnExactJudgeKeptWrong : ChangeSpec := { name := "fnExactJudgeKept", fn := fun _ => fun
  | [d] => { results := [.lit (.bool false)], args := [d] }
  | _ => none }
def FnExactJudgeKeptWrongFalsely : Prop := fnExactJudgeKeptRow.holds Tryz.pinned (OpenSpec.ofChange fnExactJudgeKeptWrong)

/-- 'laws.FnExactJudgeSame': WHATEVER THE INPUT: true; the input reads as it did. -/
def fnExactJudgeSameSpec : ChangeSpec := { name := "fnExactJudgeSame", fn := fun _ => fun
  | [d] => { results := [.lit (.bool true)], args := [d] }
  | _ => none }
def fnExactJudgeSameRow : OpenClaim := { program := "ytekamaodealggaagreat", sum := "7d1ad4504c27211f958a09d78a474fa2c74ce669f8449256673f052984c377a7", func := "loop.example/g00178/laws.FnExactJudgeSame", spec := "fnExactJudgeSame", unfollowed := true, recurses := true, apart := false }
def FnExactJudgeSameSaid : Prop := fnExactJudgeSameRow.holds Tryz.pinned (OpenSpec.ofChange fnExactJudgeSameSpec)

/-- ITS FALSE NEIGHBOUR: 'it returns false'. Refute it at one input. -/
def fnExactJudgeSameWrong : ChangeSpec := { name := "fnExactJudgeSame", fn := fun _ => fun
  | [d] => { results := [.lit (.bool false)], args := [d] }
  | _ => none }
def FnExactJudgeSameWrongFalsely : Prop := fnExactJudgeSameRow.holds Tryz.pinned (OpenSpec.ofChange fnExactJudgeSameWrong)

/- THE SECOND FORM. 'bulk': how many values and letters a reading holds, each counted each time it is reached (what is shared counts as often as it is met; a slice's spare places count too). A statement '..UptoSaid' is the law's where the arguments, and the package variables that the reading takes, are together of bulk at most 1048576: NARROWER than '..Said'. Prove '..Said' where nothing that the law and all that it calls make is longer than what came in: it says more and counts as full. Else prove '..UptoSaid'. A law counts once. -/
mutual
def uptoBulk {H : Type} : DataW H → Nat
  | .lit (.string bytes) => bytes.length + 1
  | .lit _ => 1
  | .nil => 1
  | .ptr d => uptoBulk d + 1
  | .slice elems spare => uptoBulkAll elems + uptoBulkAll spare + 1
  | .agg parts => uptoBulkAll parts + 1
  | .iface _ d => uptoBulk d + 1
  | .map entries => uptoBulkEntries entries + 1
  | .held _ => 1
def uptoBulkAll {H : Type} : List (DataW H) → Nat
  | [] => 0
  | d :: r => uptoBulk d + uptoBulkAll r
def uptoBulkEntries {H : Type} : List (Lit × DataW H) → Nat
  | [] => 0
  | x :: r => uptoBulkEntry x + uptoBulkEntries r
def uptoBulkEntry {H : Type} : Lit × DataW H → Nat
  | (.string bytes, d) => bytes.length + uptoBulk d + 1
  | (_, d) => uptoBulk d + 1
 end
def uptoSmall : (H : Type) → List (DataW H) → Bool := fun _ ds => decide (uptoBulkAll ds ≤ 1048576)
def OpenSpec.upto (s : _root_.Go.ChangeSpec) : _root_.Go.OpenSpec := { _root_.Go.OpenSpec.ofChange s with cond := some uptoSmall }

/-- 'laws.FnExactJudgeWhole', WHERE WHAT IT READS IS OF BULK AT MOST 1048576: true; the input reads as it did. -/
def fnExactJudgeWholeUptoRow : OpenClaim := { program := "ytekamaodealggaagreat", sum := "7d1ad4504c27211f958a09d78a474fa2c74ce669f8449256673f052984c377a7", func := "loop.example/g00178/laws.FnExactJudgeWhole", spec := "fnExactJudgeWhole", unfollowed := true, recurses := true, apart := false, narrowed := true }
def FnExactJudgeWholeUptoSaid : Prop := fnExactJudgeWholeUptoRow.holds Tryz.pinned (OpenSpec.upto fnExactJudgeWholeSpec)

/-- 'laws.FnExactJudgeOrder', WHERE WHAT IT READS IS OF BULK AT MOST 1048576: true; the input reads as it did. -/
def fnExactJudgeOrderUptoRow : OpenClaim := { program := "ytekamaodealggaagreat", sum := "7d1ad4504c27211f958a09d78a474fa2c74ce669f8449256673f052984c377a7", func := "loop.example/g00178/laws.FnExactJudgeOrder", spec := "fnExactJudgeOrder", unfollowed := true, recurses := true, apart := false, narrowed := true }
def FnExactJudgeOrderUptoSaid : Prop := fnExactJudgeOrderUptoRow.holds Tryz.pinned (OpenSpec.upto fnExactJudgeOrderSpec)

/-- 'laws.FnExactLogAt', WHERE WHAT IT READS IS OF BULK AT MOST 1048576: true; the input reads as it did. -/
def fnExactLogAtUptoRow : OpenClaim := { program := "ytekamaodealggaagreat", sum := "7d1ad4504c27211f958a09d78a474fa2c74ce669f8449256673f052984c377a7", func := "loop.example/g00178/laws.FnExactLogAt", spec := "fnExactLogAt", unfollowed := true, recurses := true, apart := false, narrowed := true }
def FnExactLogAtUptoSaid : Prop := fnExactLogAtUptoRow.holds Tryz.pinned (OpenSpec.upto fnExactLogAtSpec)

/-- 'laws.FnExactJudgeTrue', WHERE WHAT IT READS IS OF BULK AT MOST 1048576: true; the input reads as it did. -/
def fnExactJudgeTrueUptoRow : OpenClaim := { program := "ytekamaodealggaagreat", sum := "7d1ad4504c27211f958a09d78a474fa2c74ce669f8449256673f052984c377a7", func := "loop.example/g00178/laws.FnExactJudgeTrue", spec := "fnExactJudgeTrue", unfollowed := true, recurses := true, apart := false, narrowed := true }
def FnExactJudgeTrueUptoSaid : Prop := fnExactJudgeTrueUptoRow.holds Tryz.pinned (OpenSpec.upto fnExactJudgeTrueSpec)

/-- 'laws.FnExactJudgeKept', WHERE WHAT IT READS IS OF BULK AT MOST 1048576: true; the input reads as it did. -/
def fnExactJudgeKeptUptoRow : OpenClaim := { program := "ytekamaodealggaagreat", sum := "7d1ad4504c27211f958a09d78a474fa2c74ce669f8449256673f052984c377a7", func := "loop.example/g00178/laws.FnExactJudgeKept", spec := "fnExactJudgeKept", unfollowed := true, recurses := true, apart := false, narrowed := true }
def FnExactJudgeKeptUptoSaid : Prop := fnExactJudgeKeptUptoRow.holds Tryz.pinned (OpenSpec.upto fnExactJudgeKeptSpec)

/-- 'laws.FnExactJudgeSame', WHERE WHAT IT READS IS OF BULK AT MOST 1048576: true; the input reads as it did. -/
def fnExactJudgeSameUptoRow : OpenClaim := { program := "ytekamaodealggaagreat", sum := "7d1ad4504c27211f958a09d78a474fa2c74ce669f8449256673f052984c377a7", func := "loop.example/g00178/laws.FnExactJudgeSame", spec := "fnExactJudgeSame", unfollowed := true, recurses := true, apart := false, narrowed := true }
def FnExactJudgeSameUptoSaid : Prop := fnExactJudgeSameUptoRow.holds Tryz.pinned (OpenSpec.upto fnExactJudgeSameSpec)

end Rows
end Go.Proofs.YtekamaodealggaaGreat
