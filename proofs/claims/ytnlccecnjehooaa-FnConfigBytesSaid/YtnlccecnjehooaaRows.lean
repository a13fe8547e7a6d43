/-
  No cell of these rows narrows 'for every input' (looked for: loops, veiled, ifaces, maps, wideKeys, modest, calm, conditions, laid).
  DERIVED. THE GIVEN ROWS OF THIS SEAT. 5 by the template 'for every input the law returns true; each argument reads behind the call as it read before'; 0 by the template 'total and deterministic' (their statements: YtnlccecnjehooaaTotals.lean).
  GIVEN WITH THE SEED: the statements are not yours to turn. If you find one false, say at which input.
  Laid BY PROGRAM, IN A SANDBOX (cutbox-rows.mjs): the forced cells as the released guide's own fill.sh prints them over the translation 1c423bc0668f0778… (all of the seat's roots in one cut). By AI agents, Wed Nov 11 2026. No macro, syntax, notation, axiom, sorry.
-/
import Derived.Test.YtnlccecnjehooaaChecked
import GoSem.Claim
import GoSem.ClaimJoined
import GoSem.ClaimMapViews
import Derived.JoinedTies
import Derived.KernelRfl
namespace Go.Proofs.Ytnlccecnjehooaa
/- THE CELL 'sum', in the pinned program and in every row, IS THE sha256 OF THE DUMP (.gsa) THAT YtnlccecnjehooaaProg.lean LOADS. Nothing in Lean hashes anything: it is a label: what it is worth is what the hold of that sum in a sandbox is worth. -/
noncomputable def Try.pinned : Pinned := { name := "ytnlccecnjehooaa", sum := "1c423bc0668f0778a31bb23cc4af7b63c783d88d503fcb02d81eeb0e21214cd3", checked := Try.checked }
namespace Rows
def none {H : Type} : Left H := { results := [], args := [] }

/-- 'laws.FnExactConfigPack': WHATEVER THE INPUT: true; the input reads as it did. -/
def fnExactConfigPackSpec : ChangeSpec := { name := "fnExactConfigPack", fn := fun _ => fun
  | [d] => { results := [.lit (.bool true)], args := [d] }
  | _ => none }
def fnExactConfigPackRow : OpenClaim := { program := "ytnlccecnjehooaa", sum := "1c423bc0668f0778a31bb23cc4af7b63c783d88d503fcb02d81eeb0e21214cd3", func := "loop.example/g00178/laws.FnExactConfigPack", spec := "fnExactConfigPack", apart := false }
def FnExactConfigPackSaid : Prop := fnExactConfigPackRow.holds Try.pinned (OpenSpec.ofChange fnExactConfigPackSpec)

/-- ITS FALSE NEIGHBOUR: 'it returns false'. Refute it at one input. -/
def fnExactConfigPackWrong : ChangeSpec := { name := "fnExactConfigPack", fn := fun _ => fun
  | [d] => { results := [.lit (.bool false)], args := [d] }
  | _ => none }
def FnExactConfigPackWrongFalsely : Prop := fnExactConfigPackRow.holds Try.pinned (OpenSpec.ofChange fnExactConfigPackWrong)

/-- 'laws.FnExactConfigRead': WHATEVER THE INPUT: true; the input reads as it did. -/
def fnExactConfigReadSpec : ChangeSpec := { name := "fnExactConfigRead", fn := fun _ => fun
  | [d] => { results := [.lit (.bool true)], args := [d] }
  | _ => none }
def fnExactConfigReadRow : OpenClaim := { program := "ytnlccecnjehooaa", sum := "1c423bc0668f0778a31bb23cc4af7b63c783d88d503fcb02d81eeb0e21214cd3", func := "loop.example/g00178/laws.FnExactConfigRead", spec := "fnExactConfigRead", apart := false }
def FnExactConfigReadSaid : Prop := fnExactConfigReadRow.holds Try.pinned (OpenSpec.ofChange fnExactConfigReadSpec)

/-- ITS FALSE NEIGHBOUR: 'it returns false'. Refute it at one input. -/
def fnExactConfigReadWrong : ChangeSpec := { name := "fnExactConfigRead", fn := fun _ => fun
  | [d] => { results := [.lit (.bool false)], args := [d] }
  | _ => none }
def FnExactConfigReadWrongFalsely : Prop := fnExactConfigReadRow.holds Try.pinned (OpenSpec.ofChange fnExactConfigReadWrong)

/-- 'laws.FnExactReaderPack': WHATEVER THE INPUT: true; the input reads as it did. -/
def fnExactReaderPackSpec : ChangeSpec := { name := "fnExactReaderPack", fn := fun _ => fun
  | [d] => { results := [.lit (.bool true)], args := [d] }
  | _ => none }
def fnExactReaderPackRow : OpenClaim := { program := "ytnlccecnjehooaa", sum := "1c423bc0668f0778a31bb23cc4af7b63c783d88d503fcb02d81eeb0e21214cd3", func := "loop.example/g00178/laws.FnExactReaderPack", spec := "fnExactReaderPack", apart := false }
def FnExactReaderPackSaid : Prop := fnExactReaderPackRow.holds Try.pinned (OpenSpec.ofChange fnExactReaderPackSpec)

/-- ITS FALSE NEIGHBOUR: 'it returns false'. Refute it at one input. -/
def fnExactReaderPackWrong : ChangeSpec := { name := "fnExactReaderPack", fn := fun _ => fun
  | [d] => { results := [.lit (.bool false)], args := [d] }
  | _ => none }
def FnExactReaderPackWrongFalsely : Prop := fnExactReaderPackRow.holds Try.pinned (OpenSpec.ofChange fnExactReaderPackWrong)

/-- 'laws.FnExactReaderRead': WHATEVER THE INPUT: true; the input reads as it did. -/
def fnExactReaderReadSpec : ChangeSpec := { name := "fnExactReaderRead", fn := fun _ => fun
  | [d] => { results := [.lit (.bool true)], args := [d] }
  | _ => none }
def fnExactReaderReadRow : OpenClaim := { program := "ytnlccecnjehooaa", sum := "1c423bc0668f0778a31bb23cc4af7b63c783d88d503fcb02d81eeb0e21214cd3", func := "loop.example/g00178/laws.FnExactReaderRead", spec := "fnExactReaderRead", apart := false }
def FnExactReaderReadSaid : Prop := fnExactReaderReadRow.holds Try.pinned (OpenSpec.ofChange fnExactReaderReadSpec)

/-- ITS FALSE NEIGHBOUR: 'it returns false'. Refute it at one input. -/
def fnExactReaderReadWrong : ChangeSpec := { name := "fnExactReaderRead", fn := fun _ => fun
  | [d] => { results := [.lit (.bool false)], args := [d] }
  | _ => none }
def FnExactReaderReadWrongFalsely : Prop := fnExactReaderReadRow.holds Try.pinned (OpenSpec.ofChange fnExactReaderReadWrong)

/-- 'laws.FnConfigBytes': WHATEVER THE INPUT: true; the input reads as it did. -/
def fnConfigBytesSpec : ChangeSpec := { name := "fnConfigBytes", fn := fun _ => fun
  | [d] => { results := [.lit (.bool true)], args := [d] }
  | _ => none }
def fnConfigBytesRow : OpenClaim := { program := "ytnlccecnjehooaa", sum := "1c423bc0668f0778a31bb23cc4af7b63c783d88d503fcb02d81eeb0e21214cd3", func := "loop.example/g00178/laws.FnConfigBytes", spec := "fnConfigBytes", apart := false }
def FnConfigBytesSaid : Prop := fnConfigBytesRow.holds Try.pinned (OpenSpec.ofChange fnConfigBytesSpec)

/-- ITS FALSE NEIGHBOUR: 'it returns false'. Refute it at one input. -/
def fnConfigBytesWrong : ChangeSpec := { name := "fnConfigBytes", fn := fun _ => fun
  | [d] => { results := [.lit (.bool false)], args := [d] }
  | _ => none }
def FnConfigBytesWrongFalsely : Prop := fnConfigBytesRow.holds Try.pinned (OpenSpec.ofChange fnConfigBytesWrong)

/- THE SECOND FORM. 'bulk': how many values and letters a reading holds, each counted each time it is reached (what is shared counts as often as it is met; a slice's spare places count too). A statement '..UptoSaid' is the law's where the arguments, and the package variables that the reading takes, are together of bulk at most 1048576: NARROWER than '..Said'. Prove '..Said' where nothing that the law and all that it calls make is longer than what came in: it says more and counts as full. Else prove '..UptoSaid'. A law counts once. -/
mutual
def uptoBulk {H : Type} : DataW H → Nat
  | .lit (.string bytes) => bytes.length + 1
  | .lit _ => 1
  | .nil => 1
  | .ptr d => uptoBulk d + 1
  | .slice elems spare => uptoBulkAll elems + uptoBulkAll spare + 1
  | .agg parts => uptoBulkAll parts + 1
  | .iface _ d => uptoBulk d + 1
  | .map entries => uptoBulkEntries entries + 1
  | .held _ => 1
def uptoBulkAll {H : Type} : List (DataW H) → Nat
  | [] => 0
  | d :: r => uptoBulk d + uptoBulkAll r
def uptoBulkEntries {H : Type} : List (Lit × DataW H) → Nat
  | [] => 0
  | x :: r => uptoBulkEntry x + uptoBulkEntries r
def uptoBulkEntry {H : Type} : Lit × DataW H → Nat
  | (.string bytes, d) => bytes.length + uptoBulk d + 1
  | (_, d) => uptoBulk d + 1
 end
def uptoSmall : (H : Type) → List (DataW H) → Bool := fun _ ds => decide (uptoBulkAll ds ≤ 1048576)
def OpenSpec.upto (s : _root_.Go.ChangeSpec) : _root_.Go.OpenSpec := { _root_.Go.OpenSpec.ofChange s with cond := some uptoSmall }

/-- 'laws.FnExactConfigPack', WHERE WHAT IT READS IS OF BULK AT MOST 1048576: true; the input reads as it did. -/
def fnExactConfigPackUptoRow : OpenClaim := { program := "ytnlccecnjehooaa", sum := "1c423bc0668f0778a31bb23cc4af7b63c783d88d503fcb02d81eeb0e21214cd3", func := "loop.example/g00178/laws.FnExactConfigPack", spec := "fnExactConfigPack", apart := false, narrowed := true }
def FnExactConfigPackUptoSaid : Prop := fnExactConfigPackUptoRow.holds Try.pinned (OpenSpec.upto fnExactConfigPackSpec)

/-- 'laws.FnExactConfigRead', WHERE WHAT IT READS IS OF BULK AT MOST 1048576: true; the input reads as it did. -/
def fnExactConfigReadUptoRow : OpenClaim := { program := "ytnlccecnjehooaa", sum := "1c423bc0668f0778a31bb23cc4af7b63c783d88d503fcb02d81eeb0e21214cd3", func := "loop.example/g00178/laws.FnExactConfigRead", spec := "fnExactConfigRead", apart := false, narrowed := true }
def FnExactConfigReadUptoSaid : Prop := fnExactConfigReadUptoRow.holds Try.pinned (OpenSpec.upto fnExactConfigReadSpec)

/-- 'laws.FnExactReaderPack', WHERE WHAT IT READS IS OF BULK AT MOST 1048576: true; the input reads as it did. -/
def fnExactReaderPackUptoRow : OpenClaim := { program := "ytnlccecnjehooaa", sum := "1c423bc0668f0778a31bb23cc4af7b63c783d88d503fcb02d81eeb0e21214cd3", func := "loop.example/g00178/laws.FnExactReaderPack", spec := "fnExactReaderPack", apart := false, narrowed := true }
def FnExactReaderPackUptoSaid : Prop := fnExactReaderPackUptoRow.holds Try.pinned (OpenSpec.upto fnExactReaderPackSpec)

/-- 'laws.FnExactReaderRead', WHERE WHAT IT READS IS OF BULK AT MOST 1048576: true; the input reads as it did. -/
def fnExactReaderReadUptoRow : OpenClaim := { program := "ytnlccecnjehooaa", sum := "1c423bc0668f0778a31bb23cc4af7b63c783d88d503fcb02d81eeb0e21214cd3", func := "loop.example/g00178/laws.FnExactReaderRead", spec := "fnExactReaderRead", apart := false, narrowed := true }
def FnExactReaderReadUptoSaid : Prop := fnExactReaderReadUptoRow.holds Try.pinned (OpenSpec.upto fnExactReaderReadSpec)

/-- 'laws.FnConfigBytes', WHERE WHAT IT READS IS OF BULK AT MOST 1048576: true; the input reads as it did. -/
def fnConfigBytesUptoRow : OpenClaim := { program := "ytnlccecnjehooaa", sum := "1c423bc0668f0778a31bb23cc4af7b63c783d88d503fcb02d81eeb0e21214cd3", func := "loop.example/g00178/laws.FnConfigBytes", spec := "fnConfigBytes", apart := false, narrowed := true }
def FnConfigBytesUptoSaid : Prop := fnConfigBytesUptoRow.holds Try.pinned (OpenSpec.upto fnConfigBytesSpec)

end Rows
end Go.Proofs.Ytnlccecnjehooaa
