/-
  No cell of these rows narrows 'for every input' (looked for: loops, veiled, ifaces, maps, wideKeys, modest, calm, conditions, laid).
  DERIVED. THE GIVEN ROWS OF THIS SEAT. 5 by the template 'for every input the law returns true; each argument reads behind the call as it read before'; 0 by the template 'total and deterministic' (their statements: YtdofdihhmbbbhaaGreatTotals.lean).
  GIVEN WITH THE SEED: the statements are not yours to turn. If you find one false, say at which input.
  Laid BY PROGRAM, IN A SANDBOX (cutbox-rows.mjs): the forced cells as the released guide's own fill.sh prints them over the translation 4f43b294a644671e… (all of the seat's roots in one cut). By AI agents, Wed Nov 11 2026. No macro, syntax, notation, axiom, sorry.
-/
import Derived.Test.YtdofdihhmbbbhaaGreatChecked
import GoSem.Claim
import GoSem.ClaimJoined
import GoSem.ClaimMapViews
import Derived.JoinedTies
import Derived.KernelRfl
namespace Go.Proofs.YtdofdihhmbbbhaaGreat
/- THE CELL 'sum', in the pinned program and in every row, IS THE sha256 OF THE DUMP (.gsa) THAT YtdofdihhmbbbhaaGreatProg.lean LOADS. Nothing in Lean hashes anything: it is a label: what it is worth is what the hold of that sum in a sandbox is worth. -/
noncomputable def Tryz.pinned : Pinned := { name := "ytdofdihhmbbbhaagreat", sum := "4f43b294a644671e79ab5796c54823dec2665a365889aba7feafa64d4fe9f4c3", checked := Tryz.checked }
namespace Rows
def none {H : Type} : Left H := { results := [], args := [] }

/-- 'laws.FnNew': WHATEVER THE INPUT: true; the input reads as it did. -/
def fnNewSpec : ChangeSpec := { name := "fnNew", fn := fun _ => fun
  | [d] => { results := [.lit (.bool true)], args := [d] }
  | _ => none }
def fnNewRow : OpenClaim := { program := "ytdofdihhmbbbhaagreat", sum := "4f43b294a644671e79ab5796c54823dec2665a365889aba7feafa64d4fe9f4c3", func := "loop.example/g00178/laws.FnNew", spec := "fnNew", inPlace := ["slices.overlaps[loop.example/g00178/impl.Sent]", "slices.overlaps[loop.example/g00178/impl.Entry]", "slices.overlaps[int]"], unfollowed := true, recurses := true, apart := false }
def FnNewSaid : Prop := fnNewRow.holds Tryz.pinned (OpenSpec.ofChange fnNewSpec)

/-- ITS FALSE NEIGHBOUR: 'it returns false'. Refute it at one input. -/
def fnNewWrong : ChangeSpec := { name := "fnNew", fn := fun _ => fun
  | [d] => { results := [.lit (.bool false)], args := [d] }
  | _ => none }
def FnNewWrongFalsely : Prop := fnNewRow.holds Tryz.pinned (OpenSpec.ofChange fnNewWrong)

/-- 'laws.FnTold': WHATEVER THE INPUT: true; the input reads as it did. -/
def fnToldSpec : ChangeSpec := { name := "fnTold", fn := fun _ => fun
  | [d] => { results := [.lit (.bool true)], args := [d] }
  | _ => none }
def fnToldRow : OpenClaim := { program := "ytdofdihhmbbbhaagreat", sum := "4f43b294a644671e79ab5796c54823dec2665a365889aba7feafa64d4fe9f4c3", func := "loop.example/g00178/laws.FnTold", spec := "fnTold", unfollowed := true, recurses := true, apart := false }
def FnToldSaid : Prop := fnToldRow.holds Tryz.pinned (OpenSpec.ofChange fnToldSpec)

/-- ITS FALSE NEIGHBOUR: 'it returns false'. Refute it at one input. -/
def fnToldWrong : ChangeSpec := { name := "fnTold", fn := fun _ => fun
  | [d] => { results := [.lit (.bool false)], args := [d] }
  | _ => none }
def FnToldWrongFalsely : Prop := fnToldRow.holds Tryz.pinned (OpenSpec.ofChange fnToldWrong)

/-- 'laws.FnLog': WHATEVER THE INPUT: true; the input reads as it did. -/
def fnLogSpec : ChangeSpec := { name := "fnLog", fn := fun _ => fun
  | [d] => { results := [.lit (.bool true)], args := [d] }
  | _ => none }
def fnLogRow : OpenClaim := { program := "ytdofdihhmbbbhaagreat", sum := "4f43b294a644671e79ab5796c54823dec2665a365889aba7feafa64d4fe9f4c3", func := "loop.example/g00178/laws.FnLog", spec := "fnLog", unfollowed := true, recurses := true, apart := false }
def FnLogSaid : Prop := fnLogRow.holds Tryz.pinned (OpenSpec.ofChange fnLogSpec)

/-- ITS FALSE NEIGHBOUR: 'it returns false'. Refute it at one input. -/
def fnLogWrong : ChangeSpec := { name := "fnLog", fn := fun _ => fun
  | [d] => { results := [.lit (.bool false)], args := [d] }
  | _ => none }
def FnLogWrongFalsely : Prop := fnLogRow.holds Tryz.pinned (OpenSpec.ofChange fnLogWrong)

/-- 'laws.FnJudges': WHATEVER THE INPUT: true; the input reads as it did. -/
def fnJudgesSpec : ChangeSpec := { name := "fnJudges", fn := fun _ => fun
  | [d] => { results := [.lit (.bool true)], args := [d] }
  | _ => none }
def fnJudgesRow : OpenClaim := { program := "ytdofdihhmbbbhaagreat", sum := "4f43b294a644671e79ab5796c54823dec2665a365889aba7feafa64d4fe9f4c3", func := "loop.example/g00178/laws.FnJudges", spec := "fnJudges", unfollowed := true, recurses := true, apart := false }
def FnJudgesSaid : Prop := fnJudgesRow.holds Tryz.pinned (OpenSpec.ofChange fnJudgesSpec)

/-- ITS FALSE NEIGHBOUR: 'it returns false'. Refute it at one input. -/
def fnJudgesWrong : ChangeSpec := { name := "fnJudges", fn := fun _ => fun
  | [d] => { results := [.lit (.bool false)], args := [d] }
  | _ => none }
def FnJudgesWrongFalsely : Prop := fnJudgesRow.holds Tryz.pinned (OpenSpec.ofChange fnJudgesWrong)

/-- 'laws.FnExactHonestRead': WHATEVER THE INPUT: true; the input reads as it did. -/
def fnExactHonestReadSpec : ChangeSpec := { name := "fnExactHonestRead", fn := fun _ => fun
  | [d1, d2] => { results := [.lit (.bool true)], args := [d1, d2] }
  | _ => none }
def fnExactHonestReadRow : OpenClaim := { program := "ytdofdihhmbbbhaagreat", sum := "4f43b294a644671e79ab5796c54823dec2665a365889aba7feafa64d4fe9f4c3", func := "loop.example/g00178/laws.FnExactHonestRead", spec := "fnExactHonestRead", inPlace := ["slices.overlaps[loop.example/g00178/impl.Sent]", "slices.overlaps[loop.example/g00178/impl.Entry]", "slices.overlaps[int]"], unfollowed := true, recurses := true, apart := false }
def FnExactHonestReadSaid : Prop := fnExactHonestReadRow.holds Tryz.pinned (OpenSpec.ofChange fnExactHonestReadSpec)

/-- ITS FALSE NEIGHBOUR: 'it returns false'. Refute it at one input. -/
def fnExactHonestReadWrong : ChangeSpec := { name := "fnExactHonestRead", fn := fun _ => fun
  | [d1, d2] => { results := [.lit (.bool false)], args := [d1, d2] }
  | _ => none }
def FnExactHonestReadWrongFalsely : Prop := fnExactHonestReadRow.holds Tryz.pinned (OpenSpec.ofChange fnExactHonestReadWrong)

/- THE SECOND FORM. 'bulk': how many values and letters a reading holds, each counted each time it is reached (what is shared counts as often as it is met; a slice's spare places count too). A statement '..UptoSaid' is the law's where the arguments, and the package variables that the reading takes, are together of bulk at most 1048576: NARROWER than '..Said'. Prove '..Said' where nothing that the law and all that it calls make is longer than what came in: it says more and counts as full. Else prove '..UptoSaid'. A law counts once. -/
mutual
def uptoBulk {H : Type} : DataW H → Nat
  | .lit (.string bytes) => bytes.length + 1
  | .lit _ => 1
  | .nil => 1
  | .ptr d => uptoBulk d + 1
  | .slice elems spare => uptoBulkAll elems + uptoBulkAll spare + 1
  | .agg parts => uptoBulkAll parts + 1
  | .iface _ d => uptoBulk d + 1
  | .map entries => uptoBulkEntries entries + 1
  | .held _ => 1
def uptoBulkAll {H : Type} : List (DataW H) → Nat
  | [] => 0
  | d :: r => uptoBulk d + uptoBulkAll r
def uptoBulkEntries {H : Type} : List (Lit × DataW H) → Nat
  | [] => 0
  | x :: r => uptoBulkEntry x + uptoBulkEntries r
def uptoBulkEntry {H : Type} : Lit × DataW H → Nat
  | (.string bytes, d) => bytes.length + uptoBulk d + 1
  | (_, d) => uptoBulk d + 1
 end
def uptoSmall : (H : Type) → List (DataW H) → Bool := fun _ ds => decide (uptoBulkAll ds ≤ 1048576)
def OpenSpec.upto (s : _root_.Go.ChangeSpec) : _root_.Go.OpenSpec := { _root_.Go.OpenSpec.ofChange s with cond := some uptoSmall }

/-- 'laws.FnNew', WHERE WHAT IT READS IS OF BULK AT MOST 1048576: true; the input reads as it did. -/
def fnNewUptoRow : OpenClaim := { program := "ytdofdihhmbbbhaagreat", sum := "4f43b294a644671e79ab5796c54823dec2665a365889aba7feafa64d4fe9f4c3", func := "loop.example/g00178/laws.FnNew", spec := "fnNew", inPlace := ["slices.overlaps[loop.example/g00178/impl.Sent]", "slices.overlaps[loop.example/g00178/impl.Entry]", "slices.overlaps[int]"], unfollowed := true, recurses := true, apart := false, narrowed := true }
def FnNewUptoSaid : Prop := fnNewUptoRow.holds Tryz.pinned (OpenSpec.upto fnNewSpec)

/-- 'laws.FnTold', WHERE WHAT IT READS IS OF BULK AT MOST 1048576: true; the input reads as it did. -/
def fnToldUptoRow : OpenClaim := { program := "ytdofdihhmbbbhaagreat", sum := "4f43b294a644671e79ab5796c54823dec2665a365889aba7feafa64d4fe9f4c3", func := "loop.example/g00178/laws.FnTold", spec := "fnTold", unfollowed := true, recurses := true, apart := false, narrowed := true }
def FnToldUptoSaid : Prop := fnToldUptoRow.holds Tryz.pinned (OpenSpec.upto fnToldSpec)

/-- 'laws.FnLog', WHERE WHAT IT READS IS OF BULK AT MOST 1048576: true; the input reads as it did. -/
def fnLogUptoRow : OpenClaim := { program := "ytdofdihhmbbbhaagreat", sum := "4f43b294a644671e79ab5796c54823dec2665a365889aba7feafa64d4fe9f4c3", func := "loop.example/g00178/laws.FnLog", spec := "fnLog", unfollowed := true, recurses := true, apart := false, narrowed := true }
def FnLogUptoSaid : Prop := fnLogUptoRow.holds Tryz.pinned (OpenSpec.upto fnLogSpec)

/-- 'laws.FnJudges', WHERE WHAT IT READS IS OF BULK AT MOST 1048576: true; the input reads as it did. -/
def fnJudgesUptoRow : OpenClaim := { program := "ytdofdihhmbbbhaagreat", sum := "4f43b294a644671e79ab5796c54823dec2665a365889aba7feafa64d4fe9f4c3", func := "loop.example/g00178/laws.FnJudges", spec := "fnJudges", unfollowed := true, recurses := true, apart := false, narrowed := true }
def FnJudgesUptoSaid : Prop := fnJudgesUptoRow.holds Tryz.pinned (OpenSpec.upto fnJudgesSpec)

/-- 'laws.FnExactHonestRead', WHERE WHAT IT READS IS OF BULK AT MOST 1048576: true; the input reads as it did. -/
def fnExactHonestReadUptoRow : OpenClaim := { program := "ytdofdihhmbbbhaagreat", sum := "4f43b294a644671e79ab5796c54823dec2665a365889aba7feafa64d4fe9f4c3", func := "loop.example/g00178/laws.FnExactHonestRead", spec := "fnExactHonestRead", inPlace := ["slices.overlaps[loop.example/g00178/impl.Sent]", "slices.overlaps[loop.example/g00178/impl.Entry]", "slices.overlaps[int]"], unfollowed := true, recurses := true, apart := false, narrowed := true }
def FnExactHonestReadUptoSaid : Prop := fnExactHonestReadUptoRow.holds Tryz.pinned (OpenSpec.upto fnExactHonestReadSpec)

end Rows
end Go.Proofs.YtdofdihhmbbbhaaGreat
