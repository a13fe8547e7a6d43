/-
  No cell of these rows narrows 'for every input' (looked for: loops, veiled, ifaces, maps, wideKeys, modest, calm, conditions, laid).
  DERIVED. THE GIVEN ROWS OF THIS SEAT. 5 by the template 'for every input the law returns true; each argument reads behind the call as it read before'; 0 by the template 'total and deterministic' (their statements: YtphnckckgdfheaaTotals.lean).
  GIVEN WITH THE SEED: the statements are not yours to turn. If you find one false, say at which input.
  Laid BY PROGRAM, IN A SANDBOX (cutbox-rows.mjs): the forced cells as the released guide's own fill.sh prints them over the translation d0d844180654b037… (all of the seat's roots in one cut). By AI agents, Wed Nov 11 2026. No macro, syntax, notation, axiom, sorry.
-/
import Derived.Test.YtphnckckgdfheaaChecked
import GoSem.Claim
import GoSem.ClaimJoined
import GoSem.ClaimMapViews
import Derived.JoinedTies
import Derived.KernelRfl
namespace Go.Proofs.Ytphnckckgdfheaa
/- THE CELL 'sum', in the pinned program and in every row, IS THE sha256 OF THE DUMP (.gsa) THAT YtphnckckgdfheaaProg.lean LOADS. Nothing in Lean hashes anything: it is a label: what it is worth is what the hold of that sum in a sandbox is worth. -/
noncomputable def Try.pinned : Pinned := { name := "ytphnckckgdfheaa", sum := "d0d844180654b037718f91f421ada02f27098e726df5e980fe2613fb6b7f8970", checked := Try.checked }
namespace Rows
def none {H : Type} : Left H := { results := [], args := [] }

/-- 'laws.FnReaderBytes': WHATEVER THE INPUT: true; the input reads as it did. -/
def fnReaderBytesSpec : ChangeSpec := { name := "fnReaderBytes", fn := fun _ => fun
  | [d] => { results := [.lit (.bool true)], args := [d] }
  | _ => none }
def fnReaderBytesRow : OpenClaim := { program := "ytphnckckgdfheaa", sum := "d0d844180654b037718f91f421ada02f27098e726df5e980fe2613fb6b7f8970", func := "loop.example/g00178/laws.FnReaderBytes", spec := "fnReaderBytes", apart := false }
def FnReaderBytesSaid : Prop := fnReaderBytesRow.holds Try.pinned (OpenSpec.ofChange fnReaderBytesSpec)

/-- ITS FALSE NEIGHBOUR: 'it returns false'. Refute it at one input. -/
def fnReaderBytesWrong : ChangeSpec := { name := "fnReaderBytes", fn := fun _ => fun
  | [d] => { results := [.lit (.bool false)], args := [d] }
  | _ => none }
def FnReaderBytesWrongFalsely : Prop := fnReaderBytesRow.holds Try.pinned (OpenSpec.ofChange fnReaderBytesWrong)

/-- 'laws.FnExactWriterPack': WHATEVER THE INPUT: true; the input reads as it did. -/
def fnExactWriterPackSpec : ChangeSpec := { name := "fnExactWriterPack", fn := fun _ => fun
  | [d1, d2] => { results := [.lit (.bool true)], args := [d1, d2] }
  | _ => none }
def fnExactWriterPackRow : OpenClaim := { program := "ytphnckckgdfheaa", sum := "d0d844180654b037718f91f421ada02f27098e726df5e980fe2613fb6b7f8970", func := "loop.example/g00178/laws.FnExactWriterPack", spec := "fnExactWriterPack", apart := false }
def FnExactWriterPackSaid : Prop := fnExactWriterPackRow.holds Try.pinned (OpenSpec.ofChange fnExactWriterPackSpec)

/-- ITS FALSE NEIGHBOUR: 'it returns false'. Refute it at one input. -/
def fnExactWriterPackWrong : ChangeSpec := { name := "fnExactWriterPack", fn := fun _ => fun
  | [d1, d2] => { results := [.lit (.bool false)], args := [d1, d2] }
  | _ => none }
def FnExactWriterPackWrongFalsely : Prop := fnExactWriterPackRow.holds Try.pinned (OpenSpec.ofChange fnExactWriterPackWrong)

/-- 'laws.FnExactRegPack': WHATEVER THE INPUT: true; the input reads as it did. -/
def fnExactRegPackSpec : ChangeSpec := { name := "fnExactRegPack", fn := fun _ => fun
  | [d1, d2] => { results := [.lit (.bool true)], args := [d1, d2] }
  | _ => none }
def fnExactRegPackRow : OpenClaim := { program := "ytphnckckgdfheaa", sum := "d0d844180654b037718f91f421ada02f27098e726df5e980fe2613fb6b7f8970", func := "loop.example/g00178/laws.FnExactRegPack", spec := "fnExactRegPack", apart := false }
def FnExactRegPackSaid : Prop := fnExactRegPackRow.holds Try.pinned (OpenSpec.ofChange fnExactRegPackSpec)

/-- ITS FALSE NEIGHBOUR: 'it returns false'. Refute it at one input. -/
def fnExactRegPackWrong : ChangeSpec := { name := "fnExactRegPack", fn := fun _ => fun
  | [d1, d2] => { results := [.lit (.bool false)], args := [d1, d2] }
  | _ => none }
def FnExactRegPackWrongFalsely : Prop := fnExactRegPackRow.holds Try.pinned (OpenSpec.ofChange fnExactRegPackWrong)

/-- 'laws.FnExactRegRead': WHATEVER THE INPUT: true; the input reads as it did. -/
def fnExactRegReadSpec : ChangeSpec := { name := "fnExactRegRead", fn := fun _ => fun
  | [d1, d2] => { results := [.lit (.bool true)], args := [d1, d2] }
  | _ => none }
def fnExactRegReadRow : OpenClaim := { program := "ytphnckckgdfheaa", sum := "d0d844180654b037718f91f421ada02f27098e726df5e980fe2613fb6b7f8970", func := "loop.example/g00178/laws.FnExactRegRead", spec := "fnExactRegRead", apart := false }
def FnExactRegReadSaid : Prop := fnExactRegReadRow.holds Try.pinned (OpenSpec.ofChange fnExactRegReadSpec)

/-- ITS FALSE NEIGHBOUR: 'it returns false'. Refute it at one input. -/
def fnExactRegReadWrong : ChangeSpec := { name := "fnExactRegRead", fn := fun _ => fun
  | [d1, d2] => { results := [.lit (.bool false)], args := [d1, d2] }
  | _ => none }
def FnExactRegReadWrongFalsely : Prop := fnExactRegReadRow.holds Try.pinned (OpenSpec.ofChange fnExactRegReadWrong)

/-- 'laws.FnExactWriterRead': WHATEVER THE INPUT: true; the input reads as it did. -/
def fnExactWriterReadSpec : ChangeSpec := { name := "fnExactWriterRead", fn := fun _ => fun
  | [d1, d2] => { results := [.lit (.bool true)], args := [d1, d2] }
  | _ => none }
def fnExactWriterReadRow : OpenClaim := { program := "ytphnckckgdfheaa", sum := "d0d844180654b037718f91f421ada02f27098e726df5e980fe2613fb6b7f8970", func := "loop.example/g00178/laws.FnExactWriterRead", spec := "fnExactWriterRead", apart := false }
def FnExactWriterReadSaid : Prop := fnExactWriterReadRow.holds Try.pinned (OpenSpec.ofChange fnExactWriterReadSpec)

/-- ITS FALSE NEIGHBOUR: 'it returns false'. Refute it at one input. -/
def fnExactWriterReadWrong : ChangeSpec := { name := "fnExactWriterRead", fn := fun _ => fun
  | [d1, d2] => { results := [.lit (.bool false)], args := [d1, d2] }
  | _ => none }
def FnExactWriterReadWrongFalsely : Prop := fnExactWriterReadRow.holds Try.pinned (OpenSpec.ofChange fnExactWriterReadWrong)

/- THE SECOND FORM. 'bulk': how many values and letters a reading holds, each counted each time it is reached (what is shared counts as often as it is met; a slice's spare places count too). A statement '..UptoSaid' is the law's where the arguments, and the package variables that the reading takes, are together of bulk at most 1048576: NARROWER than '..Said'. Prove '..Said' where nothing that the law and all that it calls make is longer than what came in: it says more and counts as full. Else prove '..UptoSaid'. A law counts once. -/
mutual
def uptoBulk {H : Type} : DataW H → Nat
  | .lit (.string bytes) => bytes.length + 1
  | .lit _ => 1
  | .nil => 1
  | .ptr d => uptoBulk d + 1
  | .slice elems spare => uptoBulkAll elems + uptoBulkAll spare + 1
  | .agg parts => uptoBulkAll parts + 1
  | .iface _ d => uptoBulk d + 1
  | .map entries => uptoBulkEntries entries + 1
  | .held _ => 1
def uptoBulkAll {H : Type} : List (DataW H) → Nat
  | [] => 0
  | d :: r => uptoBulk d + uptoBulkAll r
def uptoBulkEntries {H : Type} : List (Lit × DataW H) → Nat
  | [] => 0
  | x :: r => uptoBulkEntry x + uptoBulkEntries r
def uptoBulkEntry {H : Type} : Lit × DataW H → Nat
  | (.string bytes, d) => bytes.length + uptoBulk d + 1
  | (_, d) => uptoBulk d + 1
 end
def uptoSmall : (H : Type) → List (DataW H) → Bool := fun _ ds => decide (uptoBulkAll ds ≤ 1048576)
def OpenSpec.upto (s : _root_.Go.ChangeSpec) : _root_.Go.OpenSpec := { _root_.Go.OpenSpec.ofChange s with cond := some uptoSmall }

/-- 'laws.FnReaderBytes', WHERE WHAT IT READS IS OF BULK AT MOST 1048576: true; the input reads as it did. -/
def fnReaderBytesUptoRow : OpenClaim := { program := "ytphnckckgdfheaa", sum := "d0d844180654b037718f91f421ada02f27098e726df5e980fe2613fb6b7f8970", func := "loop.example/g00178/laws.FnReaderBytes", spec := "fnReaderBytes", apart := false, narrowed := true }
def FnReaderBytesUptoSaid : Prop := fnReaderBytesUptoRow.holds Try.pinned (OpenSpec.upto fnReaderBytesSpec)

/-- 'laws.FnExactWriterPack', WHERE WHAT IT READS IS OF BULK AT MOST 1048576: true; the input reads as it did. -/
def fnExactWriterPackUptoRow : OpenClaim := { program := "ytphnckckgdfheaa", sum := "d0d844180654b037718f91f421ada02f27098e726df5e980fe2613fb6b7f8970", func := "loop.example/g00178/laws.FnExactWriterPack", spec := "fnExactWriterPack", apart := false, narrowed := true }
def FnExactWriterPackUptoSaid : Prop := fnExactWriterPackUptoRow.holds Try.pinned (OpenSpec.upto fnExactWriterPackSpec)

/-- 'laws.FnExactRegPack', WHERE WHAT IT READS IS OF BULK AT MOST 1048576: true; the input reads as it did. -/
def fnExactRegPackUptoRow : OpenClaim := { program := "ytphnckckgdfheaa", sum := "d0d844180654b037718f91f421ada02f27098e726df5e980fe2613fb6b7f8970", func := "loop.example/g00178/laws.FnExactRegPack", spec := "fnExactRegPack", apart := false, narrowed := true }
def FnExactRegPackUptoSaid : Prop := fnExactRegPackUptoRow.holds Try.pinned (OpenSpec.upto fnExactRegPackSpec)

/-- 'laws.FnExactRegRead', WHERE WHAT IT READS IS OF BULK AT MOST 1048576: true; the input reads as it did. -/
def fnExactRegReadUptoRow : OpenClaim := { program := "ytphnckckgdfheaa", sum := "d0d844180654b037718f91f421ada02f27098e726df5e980fe2613fb6b7f8970", func := "loop.example/g00178/laws.FnExactRegRead", spec := "fnExactRegRead", apart := false, narrowed := true }
def FnExactRegReadUptoSaid : Prop := fnExactRegReadUptoRow.holds Try.pinned (OpenSpec.upto fnExactRegReadSpec)

/-- 'laws.FnExactWriterRead', WHERE WHAT IT READS IS OF BULK AT MOST 1048576: true; the input reads as it did. -/
def fnExactWriterReadUptoRow : OpenClaim := { program := "ytphnckckgdfheaa", sum := "d0d844180654b037718f91f421ada02f27098e726df5e980fe2613fb6b7f8970", func := "loop.example/g00178/laws.FnExactWriterRead", spec := "fnExactWriterRead", apart := false, narrowed := true }
def FnExactWriterReadUptoSaid : Prop := fnExactWriterReadUptoRow.holds Try.pinned (OpenSpec.upto fnExactWriterReadSpec)

end Rows
end Go.Proofs.Ytphnckckgdfheaa
