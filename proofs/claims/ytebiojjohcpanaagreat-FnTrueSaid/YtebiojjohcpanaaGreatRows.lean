/-
  No cell of these rows narrows 'for every input' (looked for: loops, veiled, ifaces, maps, wideKeys, modest, calm, conditions, laid).
  DERIVED. THE GIVEN ROWS OF THIS SEAT. 6 by the template 'for every input the law returns true; each argument reads behind the call as it read before'; 0 by the template 'total and deterministic' (their statements: YtebiojjohcpanaaGreatTotals.lean).
  GIVEN WITH THE SEED: the statements are not yours to turn. If you find one false, say at which input.
  Laid BY PROGRAM, IN A SANDBOX (cutbox-rows.mjs): the forced cells as the released guide's own fill.sh prints them over the translation eab41aa89975706e… (all of the seat's roots in one cut). By AI agents, Wed Nov 11 2026. No macro, syntax, notation, axiom, sorry.
-/
import Derived.Test.YtebiojjohcpanaaGreatChecked
import GoSem.Claim
import GoSem.ClaimJoined
import GoSem.ClaimMapViews
import Derived.JoinedTies
import Derived.KernelRfl
namespace Go.Proofs.YtebiojjohcpanaaGreat
/- THE CELL 'sum', in the pinned program and in every row, IS THE sha256 OF THE DUMP (.gsa) THAT YtebiojjohcpanaaGreatProg.lean LOADS. Nothing in Lean hashes anything: it is a label: what it is worth is what the hold of that sum in a sandbox is worth. -/
noncomputable def Tryz.pinned : Pinned := { name := "ytebiojjohcpanaagreat", sum := "eab41aa89975706e1b141152b2624fd48da33a9c4bb09fba3b49ab7899781bdf", checked := Tryz.checked }
namespace Rows
def none {H : Type} : Left H := { results := [], args := [] }

/-- 'laws.FnTrue': WHATEVER THE INPUT: true; the input reads as it did. -/
def fnTrueSpec : ChangeSpec := { name := "fnTrue", fn := fun _ => fun
  | [d] => { results := [.lit (.bool true)], args := [d] }
  | _ => none }
def fnTrueRow : OpenClaim := { program := "ytebiojjohcpanaagreat", sum := "eab41aa89975706e1b141152b2624fd48da33a9c4bb09fba3b49ab7899781bdf", func := "loop.example/g00178/laws.FnTrue", spec := "fnTrue", inPlace := ["slices.overlaps[loop.example/g00178/impl.Sent]", "slices.overlaps[loop.example/g00178/impl.Entry]", "slices.overlaps[int]"], unfollowed := true, recurses := true, apart := false }
def FnTrueSaid : Prop := fnTrueRow.holds Tryz.pinned (OpenSpec.ofChange fnTrueSpec)

/-- ITS FALSE NEIGHBOUR: 'it returns false'. Refute it at one input. -/
def fnTrueWrong : ChangeSpec := { name := "fnTrue", fn := fun _ => fun
  | [d] => { results := [.lit (.bool false)], args := [d] }
  | _ => none }
def FnTrueWrongFalsely : Prop := fnTrueRow.holds Tryz.pinned (OpenSpec.ofChange fnTrueWrong)

/-- 'laws.FnSame': WHATEVER THE INPUT: true; the input reads as it did. -/
def fnSameSpec : ChangeSpec := { name := "fnSame", fn := fun _ => fun
  | [d] => { results := [.lit (.bool true)], args := [d] }
  | _ => none }
def fnSameRow : OpenClaim := { program := "ytebiojjohcpanaagreat", sum := "eab41aa89975706e1b141152b2624fd48da33a9c4bb09fba3b49ab7899781bdf", func := "loop.example/g00178/laws.FnSame", spec := "fnSame", inPlace := ["slices.overlaps[loop.example/g00178/impl.Sent]", "slices.overlaps[loop.example/g00178/impl.Entry]", "slices.overlaps[int]"], unfollowed := true, recurses := true, apart := false }
def FnSameSaid : Prop := fnSameRow.holds Tryz.pinned (OpenSpec.ofChange fnSameSpec)

/-- ITS FALSE NEIGHBOUR: 'it returns false'. Refute it at one input. -/
def fnSameWrong : ChangeSpec := { name := "fnSame", fn := fun _ => fun
  | [d] => { results := [.lit (.bool false)], args := [d] }
  | _ => none }
def FnSameWrongFalsely : Prop := fnSameRow.holds Tryz.pinned (OpenSpec.ofChange fnSameWrong)

/-- 'laws.FnKept': WHATEVER THE INPUT: true; the input reads as it did. -/
def fnKeptSpec : ChangeSpec := { name := "fnKept", fn := fun _ => fun
  | [d] => { results := [.lit (.bool true)], args := [d] }
  | _ => none }
def fnKeptRow : OpenClaim := { program := "ytebiojjohcpanaagreat", sum := "eab41aa89975706e1b141152b2624fd48da33a9c4bb09fba3b49ab7899781bdf", func := "loop.example/g00178/laws.FnKept", spec := "fnKept", inPlace := ["slices.overlaps[loop.example/g00178/impl.Sent]", "slices.overlaps[loop.example/g00178/impl.Entry]", "slices.overlaps[int]"], unfollowed := true, recurses := true, apart := false }
def FnKeptSaid : Prop := fnKeptRow.holds Tryz.pinned (OpenSpec.ofChange fnKeptSpec)

/-- ITS FALSE NEIGHBOUR: 'it returns false'. Refute it at one input. -/
def fnKeptWrong : ChangeSpec := { name := "fnKept", fn := fun _ => fun
  | [d] => { results := [.lit (.bool false)], args := [d] }
  | _ => none }
def FnKeptWrongFalsely : Prop := fnKeptRow.holds Tryz.pinned (OpenSpec.ofChange fnKeptWrong)

/-- 'laws.FnSure': WHATEVER THE INPUT: true; the input reads as it did. -/
def fnSureSpec : ChangeSpec := { name := "fnSure", fn := fun _ => fun
  | [d] => { results := [.lit (.bool true)], args := [d] }
  | _ => none }
def fnSureRow : OpenClaim := { program := "ytebiojjohcpanaagreat", sum := "eab41aa89975706e1b141152b2624fd48da33a9c4bb09fba3b49ab7899781bdf", func := "loop.example/g00178/laws.FnSure", spec := "fnSure", inPlace := ["slices.overlaps[loop.example/g00178/impl.Sent]", "slices.overlaps[loop.example/g00178/impl.Entry]", "slices.overlaps[int]"], unfollowed := true, recurses := true, apart := false }
def FnSureSaid : Prop := fnSureRow.holds Tryz.pinned (OpenSpec.ofChange fnSureSpec)

/-- ITS FALSE NEIGHBOUR: 'it returns false'. Refute it at one input. -/
def fnSureWrong : ChangeSpec := { name := "fnSure", fn := fun _ => fun
  | [d] => { results := [.lit (.bool false)], args := [d] }
  | _ => none }
def FnSureWrongFalsely : Prop := fnSureRow.holds Tryz.pinned (OpenSpec.ofChange fnSureWrong)

/-- 'laws.FnHonestAdd': WHATEVER THE INPUT: true; the input reads as it did. -/
def fnHonestAddSpec : ChangeSpec := { name := "fnHonestAdd", fn := fun _ => fun
  | [d] => { results := [.lit (.bool true)], args := [d] }
  | _ => none }
def fnHonestAddRow : OpenClaim := { program := "ytebiojjohcpanaagreat", sum := "eab41aa89975706e1b141152b2624fd48da33a9c4bb09fba3b49ab7899781bdf", func := "loop.example/g00178/laws.FnHonestAdd", spec := "fnHonestAdd", inPlace := ["slices.overlaps[loop.example/g00178/impl.Sent]", "slices.overlaps[loop.example/g00178/impl.Entry]", "slices.overlaps[int]"], unfollowed := true, recurses := true, apart := false }
def FnHonestAddSaid : Prop := fnHonestAddRow.holds Tryz.pinned (OpenSpec.ofChange fnHonestAddSpec)

/-- ITS FALSE NEIGHBOUR: 'it returns false'. Refute it at one input. -/
def fnHonestAddWrong : ChangeSpec := { name := "fnHonestAdd", fn := fun _ => fun
  | [d] => { results := [.lit (.bool false)], args := [d] }
  | _ => none }
def FnHonestAddWrongFalsely : Prop := fnHonestAddRow.holds Tryz.pinned (OpenSpec.ofChange fnHonestAddWrong)

/-- 'laws.FnHonestMend': WHATEVER THE INPUT: true; the input reads as it did. -/
def fnHonestMendSpec : ChangeSpec := { name := "fnHonestMend", fn := fun _ => fun
  | [d] => { results := [.lit (.bool true)], args := [d] }
  | _ => none }
def fnHonestMendRow : OpenClaim := { program := "ytebiojjohcpanaagreat", sum := "eab41aa89975706e1b141152b2624fd48da33a9c4bb09fba3b49ab7899781bdf", func := "loop.example/g00178/laws.FnHonestMend", spec := "fnHonestMend", inPlace := ["slices.overlaps[loop.example/g00178/impl.Sent]", "slices.overlaps[loop.example/g00178/impl.Entry]", "slices.overlaps[int]"], unfollowed := true, recurses := true, apart := false }
def FnHonestMendSaid : Prop := fnHonestMendRow.holds Tryz.pinned (OpenSpec.ofChange fnHonestMendSpec)

/-- ITS FALSE NEIGHBOUR: 'it returns false'. Refute it at one input. -/
def fnHonestMendWrong : ChangeSpec := { name := "fnHonestMend", fn := fun _ => fun
  | [d] => { results := [.lit (.bool false)], args := [d] }
  | _ => none }
def FnHonestMendWrongFalsely : Prop := fnHonestMendRow.holds Tryz.pinned (OpenSpec.ofChange fnHonestMendWrong)

/- THE SECOND FORM. 'bulk': how many values and letters a reading holds, each counted each time it is reached (what is shared counts as often as it is met; a slice's spare places count too). A statement '..UptoSaid' is the law's where the arguments, and the package variables that the reading takes, are together of bulk at most 1048576: NARROWER than '..Said'. Prove '..Said' where nothing that the law and all that it calls make is longer than what came in: it says more and counts as full. Else prove '..UptoSaid'. A law counts once. -/
mutual
def uptoBulk {H : Type} : DataW H → Nat
  | .lit (.string bytes) => bytes.length + 1
  | .lit _ => 1
  | .nil => 1
  | .ptr d => uptoBulk d + 1
  | .slice elems spare => uptoBulkAll elems + uptoBulkAll spare + 1
  | .agg parts => uptoBulkAll parts + 1
  | .iface _ d => uptoBulk d + 1
  | .map entries => uptoBulkEntries entries + 1
  | .held _ => 1
def uptoBulkAll {H : Type} : List (DataW H) → Nat
  | [] => 0
  | d :: r => uptoBulk d + uptoBulkAll r
def uptoBulkEntries {H : Type} : List (Lit × DataW H) → Nat
  | [] => 0
  | x :: r => uptoBulkEntry x + uptoBulkEntries r
def uptoBulkEntry {H : Type} : Lit × DataW H → Nat
  | (.string bytes, d) => bytes.length + uptoBulk d + 1
  | (_, d) => uptoBulk d + 1
 end
def uptoSmall : (H : Type) → List (DataW H) → Bool := fun _ ds => decide (uptoBulkAll ds ≤ 1048576)
def OpenSpec.upto (s : _root_.Go.ChangeSpec) : _root_.Go.OpenSpec := { _root_.Go.OpenSpec.ofChange s with cond := some uptoSmall }

/-- 'laws.FnTrue', WHERE WHAT IT READS IS OF BULK AT MOST 1048576: true; the input reads as it did. -/
def fnTrueUptoRow : OpenClaim := { program := "ytebiojjohcpanaagreat", sum := "eab41aa89975706e1b141152b2624fd48da33a9c4bb09fba3b49ab7899781bdf", func := "loop.example/g00178/laws.FnTrue", spec := "fnTrue", inPlace := ["slices.overlaps[loop.example/g00178/impl.Sent]", "slices.overlaps[loop.example/g00178/impl.Entry]", "slices.overlaps[int]"], unfollowed := true, recurses := true, apart := false, narrowed := true }
def FnTrueUptoSaid : Prop := fnTrueUptoRow.holds Tryz.pinned (OpenSpec.upto fnTrueSpec)

/-- 'laws.FnSame', WHERE WHAT IT READS IS OF BULK AT MOST 1048576: true; the input reads as it did. -/
def fnSameUptoRow : OpenClaim := { program := "ytebiojjohcpanaagreat", sum := "eab41aa89975706e1b141152b2624fd48da33a9c4bb09fba3b49ab7899781bdf", func := "loop.example/g00178/laws.FnSame", spec := "fnSame", inPlace := ["slices.overlaps[loop.example/g00178/impl.Sent]", "slices.overlaps[loop.example/g00178/impl.Entry]", "slices.overlaps[int]"], unfollowed := true, recurses := true, apart := false, narrowed := true }
def FnSameUptoSaid : Prop := fnSameUptoRow.holds Tryz.pinned (OpenSpec.upto fnSameSpec)

/-- 'laws.FnKept', WHERE WHAT IT READS IS OF BULK AT MOST 1048576: true; the input reads as it did. -/
def fnKeptUptoRow : OpenClaim := { program := "ytebiojjohcpanaagreat", sum := "eab41aa89975706e1b141152b2624fd48da33a9c4bb09fba3b49ab7899781bdf", func := "loop.example/g00178/laws.FnKept", spec := "fnKept", inPlace := ["slices.overlaps[loop.example/g00178/impl.Sent]", "slices.overlaps[loop.example/g00178/impl.Entry]", "slices.overlaps[int]"], unfollowed := true, recurses := true, apart := false, narrowed := true }
def FnKeptUptoSaid : Prop := fnKeptUptoRow.holds Tryz.pinned (OpenSpec.upto fnKeptSpec)

/-- 'laws.FnSure', WHERE WHAT IT READS IS OF BULK AT MOST 1048576: true; the input reads as it did. -/
def fnSureUptoRow : OpenClaim := { program := "ytebiojjohcpanaagreat", sum := "eab41aa89975706e1b141152b2624fd48da33a9c4bb09fba3b49ab7899781bdf", func := "loop.example/g00178/laws.FnSure", spec := "fnSure", inPlace := ["slices.overlaps[loop.example/g00178/impl.Sent]", "slices.overlaps[loop.example/g00178/impl.Entry]", "slices.overlaps[int]"], unfollowed := true, recurses := true, apart := false, narrowed := true }
def FnSureUptoSaid : Prop := fnSureUptoRow.holds Tryz.pinned (OpenSpec.upto fnSureSpec)

/-- 'laws.FnHonestAdd', WHERE WHAT IT READS IS OF BULK AT MOST 1048576: true; the input reads as it did. -/
def fnHonestAddUptoRow : OpenClaim := { program := "ytebiojjohcpanaagreat", sum := "eab41aa89975706e1b141152b2624fd48da33a9c4bb09fba3b49ab7899781bdf", func := "loop.example/g00178/laws.FnHonestAdd", spec := "fnHonestAdd", inPlace := ["slices.overlaps[loop.example/g00178/impl.Sent]", "slices.overlaps[loop.example/g00178/impl.Entry]", "slices.overlaps[int]"], unfollowed := true, recurses := true, apart := false, narrowed := true }
def FnHonestAddUptoSaid : Prop := fnHonestAddUptoRow.holds Tryz.pinned (OpenSpec.upto fnHonestAddSpec)

/-- 'laws.FnHonestMend', WHERE WHAT IT READS IS OF BULK AT MOST 1048576: true; the input reads as it did. -/
def fnHonestMendUptoRow : OpenClaim := { program := "ytebiojjohcpanaagreat", sum := "eab41aa89975706e1b141152b2624fd48da33a9c4bb09fba3b49ab7899781bdf", func := "loop.example/g00178/laws.FnHonestMend", spec := "fnHonestMend", inPlace := ["slices.overlaps[loop.example/g00178/impl.Sent]", "slices.overlaps[loop.example/g00178/impl.Entry]", "slices.overlaps[int]"], unfollowed := true, recurses := true, apart := false, narrowed := true }
def FnHonestMendUptoSaid : Prop := fnHonestMendUptoRow.holds Tryz.pinned (OpenSpec.upto fnHonestMendSpec)

end Rows
end Go.Proofs.YtebiojjohcpanaaGreat
