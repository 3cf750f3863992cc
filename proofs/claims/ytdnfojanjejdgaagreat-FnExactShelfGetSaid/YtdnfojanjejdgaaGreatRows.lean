/-
  No cell of these rows narrows 'for every input' (looked for: loops, veiled, ifaces, maps, wideKeys, modest, calm, conditions, laid).
  DERIVED. THE GIVEN ROWS OF THIS SEAT. 12 by the template 'for every input the law returns true; each argument reads behind the call as it read before'; 0 by the template 'total and deterministic' (their statements: YtdnfojanjejdgaaGreatTotals.lean).
  GIVEN WITH THE SEED: the statements are not yours to turn. If you find one false, say at which input.
  Laid BY PROGRAM, IN A SANDBOX (cutbox-rows.mjs): the forced cells as the released guide's own fill.sh prints them over the translation a4849b5076e6746a… (all of the seat's roots in one cut). By AI agents, Wed Nov 11 2026. No macro, syntax, notation, axiom, sorry.
-/
import Derived.Test.YtdnfojanjejdgaaGreatChecked
import GoSem.Claim
import GoSem.ClaimJoined
import GoSem.ClaimMapViews
import Derived.JoinedTies
import Derived.KernelRfl
namespace Go.Proofs.YtdnfojanjejdgaaGreat
/- THE CELL 'sum', in the pinned program and in every row, IS THE sha256 OF THE DUMP (.gsa) THAT YtdnfojanjejdgaaGreatProg.lean LOADS. Nothing in Lean hashes anything: it is a label: what it is worth is what the hold of that sum in a sandbox is worth. -/
noncomputable def Tryz.pinned : Pinned := { name := "ytdnfojanjejdgaagreat", sum := "a4849b5076e6746a79269185fadf8e051230a07a2d946f6ff2d148816c8ba5fb", checked := Tryz.checked }
namespace Rows
def none {H : Type} : Left H := { results := [], args := [] }

/-- 'laws.FnExactShelfOk': WHATEVER THE INPUT: true; the input reads as it did. -/
def fnExactShelfOkSpec : ChangeSpec := { name := "fnExactShelfOk", fn := fun _ => fun
  | [d] => { results := [.lit (.bool true)], args := [d] }
  | _ => none }
def fnExactShelfOkRow : OpenClaim := { program := "ytdnfojanjejdgaagreat", sum := "a4849b5076e6746a79269185fadf8e051230a07a2d946f6ff2d148816c8ba5fb", func := "loop.example/keelson/laws.FnExactShelfOk", spec := "fnExactShelfOk", unfollowed := true, recurses := true, apart := false }
def FnExactShelfOkSaid : Prop := fnExactShelfOkRow.holds Tryz.pinned (OpenSpec.ofChange fnExactShelfOkSpec)

/-- ITS FALSE NEIGHBOUR: 'it returns false'. Refute it at one input. -/
def fnExactShelfOkWrong : ChangeSpec := { name := "fnExactShelfOk", fn := fun _ => fun
  | [d] => { results := [.lit (.bool false)], args := [d] }
  | _ => none }
def FnExactShelfOkWrongFalsely : Prop := fnExactShelfOkRow.holds Tryz.pinned (OpenSpec.ofChange fnExactShelfOkWrong)

/-- 'laws.FnExactShelfUsed': WHATEVER THE INPUT: true; the input reads as it did. -/
def fnExactShelfUsedSpec : ChangeSpec := { name := "fnExactShelfUsed", fn := fun _ => fun
  | [d] => { results := [.lit (.bool true)], args := [d] }
  | _ => none }
def fnExactShelfUsedRow : OpenClaim := { program := "ytdnfojanjejdgaagreat", sum := "a4849b5076e6746a79269185fadf8e051230a07a2d946f6ff2d148816c8ba5fb", func := "loop.example/keelson/laws.FnExactShelfUsed", spec := "fnExactShelfUsed", unfollowed := true, recurses := true, apart := false }
def FnExactShelfUsedSaid : Prop := fnExactShelfUsedRow.holds Tryz.pinned (OpenSpec.ofChange fnExactShelfUsedSpec)

/-- ITS FALSE NEIGHBOUR: 'it returns false'. Refute it at one input. -/
def fnExactShelfUsedWrong : ChangeSpec := { name := "fnExactShelfUsed", fn := fun _ => fun
  | [d] => { results := [.lit (.bool false)], args := [d] }
  | _ => none }
def FnExactShelfUsedWrongFalsely : Prop := fnExactShelfUsedRow.holds Tryz.pinned (OpenSpec.ofChange fnExactShelfUsedWrong)

/-- 'laws.FnExactWorldOk': WHATEVER THE INPUT: true; the input reads as it did. -/
def fnExactWorldOkSpec : ChangeSpec := { name := "fnExactWorldOk", fn := fun _ => fun
  | [d] => { results := [.lit (.bool true)], args := [d] }
  | _ => none }
def fnExactWorldOkRow : OpenClaim := { program := "ytdnfojanjejdgaagreat", sum := "a4849b5076e6746a79269185fadf8e051230a07a2d946f6ff2d148816c8ba5fb", func := "loop.example/keelson/laws.FnExactWorldOk", spec := "fnExactWorldOk", unfollowed := true, recurses := true, apart := false }
def FnExactWorldOkSaid : Prop := fnExactWorldOkRow.holds Tryz.pinned (OpenSpec.ofChange fnExactWorldOkSpec)

/-- ITS FALSE NEIGHBOUR: 'it returns false'. Refute it at one input. -/
def fnExactWorldOkWrong : ChangeSpec := { name := "fnExactWorldOk", fn := fun _ => fun
  | [d] => { results := [.lit (.bool false)], args := [d] }
  | _ => none }
def FnExactWorldOkWrongFalsely : Prop := fnExactWorldOkRow.holds Tryz.pinned (OpenSpec.ofChange fnExactWorldOkWrong)

/-- 'laws.FnExactShelfGet': WHATEVER THE INPUT: true; the input reads as it did. -/
def fnExactShelfGetSpec : ChangeSpec := { name := "fnExactShelfGet", fn := fun _ => fun
  | [d1, d2] => { results := [.lit (.bool true)], args := [d1, d2] }
  | _ => none }
def fnExactShelfGetRow : OpenClaim := { program := "ytdnfojanjejdgaagreat", sum := "a4849b5076e6746a79269185fadf8e051230a07a2d946f6ff2d148816c8ba5fb", func := "loop.example/keelson/laws.FnExactShelfGet", spec := "fnExactShelfGet", unfollowed := true, recurses := true, apart := false }
def FnExactShelfGetSaid : Prop := fnExactShelfGetRow.holds Tryz.pinned (OpenSpec.ofChange fnExactShelfGetSpec)

/-- ITS FALSE NEIGHBOUR: 'it returns false'. Refute it at one input. -/
def fnExactShelfGetWrong : ChangeSpec := { name := "fnExactShelfGet", fn := fun _ => fun
  | [d1, d2] => { results := [.lit (.bool false)], args := [d1, d2] }
  | _ => none }
def FnExactShelfGetWrongFalsely : Prop := fnExactShelfGetRow.holds Tryz.pinned (OpenSpec.ofChange fnExactShelfGetWrong)

/-- 'laws.FnExactShelfList': WHATEVER THE INPUT: true; the input reads as it did. -/
def fnExactShelfListSpec : ChangeSpec := { name := "fnExactShelfList", fn := fun _ => fun
  | [d1, d2, d3] => { results := [.lit (.bool true)], args := [d1, d2, d3] }
  | _ => none }
def fnExactShelfListRow : OpenClaim := { program := "ytdnfojanjejdgaagreat", sum := "a4849b5076e6746a79269185fadf8e051230a07a2d946f6ff2d148816c8ba5fb", func := "loop.example/keelson/laws.FnExactShelfList", spec := "fnExactShelfList", unfollowed := true, recurses := true, apart := false }
def FnExactShelfListSaid : Prop := fnExactShelfListRow.holds Tryz.pinned (OpenSpec.ofChange fnExactShelfListSpec)

/-- ITS FALSE NEIGHBOUR: 'it returns false'. Refute it at one input. -/
def fnExactShelfListWrong : ChangeSpec := { name := "fnExactShelfList", fn := fun _ => fun
  | [d1, d2, d3] => { results := [.lit (.bool false)], args := [d1, d2, d3] }
  | _ => none }
def FnExactShelfListWrongFalsely : Prop := fnExactShelfListRow.holds Tryz.pinned (OpenSpec.ofChange fnExactShelfListWrong)

/-- 'laws.FnExactShelfLose': WHATEVER THE INPUT: true; the input reads as it did. -/
def fnExactShelfLoseSpec : ChangeSpec := { name := "fnExactShelfLose", fn := fun _ => fun
  | [d1, d2] => { results := [.lit (.bool true)], args := [d1, d2] }
  | _ => none }
def fnExactShelfLoseRow : OpenClaim := { program := "ytdnfojanjejdgaagreat", sum := "a4849b5076e6746a79269185fadf8e051230a07a2d946f6ff2d148816c8ba5fb", func := "loop.example/keelson/laws.FnExactShelfLose", spec := "fnExactShelfLose", unfollowed := true, recurses := true, apart := false }
def FnExactShelfLoseSaid : Prop := fnExactShelfLoseRow.holds Tryz.pinned (OpenSpec.ofChange fnExactShelfLoseSpec)

/-- ITS FALSE NEIGHBOUR: 'it returns false'. Refute it at one input. -/
def fnExactShelfLoseWrong : ChangeSpec := { name := "fnExactShelfLose", fn := fun _ => fun
  | [d1, d2] => { results := [.lit (.bool false)], args := [d1, d2] }
  | _ => none }
def FnExactShelfLoseWrongFalsely : Prop := fnExactShelfLoseRow.holds Tryz.pinned (OpenSpec.ofChange fnExactShelfLoseWrong)

/-- 'laws.FnExactShelfDrop': WHATEVER THE INPUT: true; the input reads as it did. -/
def fnExactShelfDropSpec : ChangeSpec := { name := "fnExactShelfDrop", fn := fun _ => fun
  | [d1, d2] => { results := [.lit (.bool true)], args := [d1, d2] }
  | _ => none }
def fnExactShelfDropRow : OpenClaim := { program := "ytdnfojanjejdgaagreat", sum := "a4849b5076e6746a79269185fadf8e051230a07a2d946f6ff2d148816c8ba5fb", func := "loop.example/keelson/laws.FnExactShelfDrop", spec := "fnExactShelfDrop", unfollowed := true, recurses := true, apart := false }
def FnExactShelfDropSaid : Prop := fnExactShelfDropRow.holds Tryz.pinned (OpenSpec.ofChange fnExactShelfDropSpec)

/-- ITS FALSE NEIGHBOUR: 'it returns false'. Refute it at one input. -/
def fnExactShelfDropWrong : ChangeSpec := { name := "fnExactShelfDrop", fn := fun _ => fun
  | [d1, d2] => { results := [.lit (.bool false)], args := [d1, d2] }
  | _ => none }
def FnExactShelfDropWrongFalsely : Prop := fnExactShelfDropRow.holds Tryz.pinned (OpenSpec.ofChange fnExactShelfDropWrong)

/-- 'laws.FnExactShelfTurn': WHATEVER THE INPUT: true; the input reads as it did. -/
def fnExactShelfTurnSpec : ChangeSpec := { name := "fnExactShelfTurn", fn := fun _ => fun
  | [d1, d2, d3] => { results := [.lit (.bool true)], args := [d1, d2, d3] }
  | _ => none }
def fnExactShelfTurnRow : OpenClaim := { program := "ytdnfojanjejdgaagreat", sum := "a4849b5076e6746a79269185fadf8e051230a07a2d946f6ff2d148816c8ba5fb", func := "loop.example/keelson/laws.FnExactShelfTurn", spec := "fnExactShelfTurn", unfollowed := true, recurses := true, apart := false }
def FnExactShelfTurnSaid : Prop := fnExactShelfTurnRow.holds Tryz.pinned (OpenSpec.ofChange fnExactShelfTurnSpec)

/-- ITS FALSE NEIGHBOUR: 'it returns false'. Refute it at one input. -/
def fnExactShelfTurnWrong : ChangeSpec := { name := "fnExactShelfTurn", fn := fun _ => fun
  | [d1, d2, d3] => { results := [.lit (.bool false)], args := [d1, d2, d3] }
  | _ => none }
def FnExactShelfTurnWrongFalsely : Prop := fnExactShelfTurnRow.holds Tryz.pinned (OpenSpec.ofChange fnExactShelfTurnWrong)

/-- 'laws.FnExactShelfMend': WHATEVER THE INPUT: true; the input reads as it did. -/
def fnExactShelfMendSpec : ChangeSpec := { name := "fnExactShelfMend", fn := fun _ => fun
  | [d1, d2, d3] => { results := [.lit (.bool true)], args := [d1, d2, d3] }
  | _ => none }
def fnExactShelfMendRow : OpenClaim := { program := "ytdnfojanjejdgaagreat", sum := "a4849b5076e6746a79269185fadf8e051230a07a2d946f6ff2d148816c8ba5fb", func := "loop.example/keelson/laws.FnExactShelfMend", spec := "fnExactShelfMend", unfollowed := true, recurses := true, apart := false }
def FnExactShelfMendSaid : Prop := fnExactShelfMendRow.holds Tryz.pinned (OpenSpec.ofChange fnExactShelfMendSpec)

/-- ITS FALSE NEIGHBOUR: 'it returns false'. Refute it at one input. -/
def fnExactShelfMendWrong : ChangeSpec := { name := "fnExactShelfMend", fn := fun _ => fun
  | [d1, d2, d3] => { results := [.lit (.bool false)], args := [d1, d2, d3] }
  | _ => none }
def FnExactShelfMendWrongFalsely : Prop := fnExactShelfMendRow.holds Tryz.pinned (OpenSpec.ofChange fnExactShelfMendWrong)

/-- 'laws.FnExactShelfPut': WHATEVER THE INPUT: true; the input reads as it did. -/
def fnExactShelfPutSpec : ChangeSpec := { name := "fnExactShelfPut", fn := fun _ => fun
  | [d1, d2, d3] => { results := [.lit (.bool true)], args := [d1, d2, d3] }
  | _ => none }
def fnExactShelfPutRow : OpenClaim := { program := "ytdnfojanjejdgaagreat", sum := "a4849b5076e6746a79269185fadf8e051230a07a2d946f6ff2d148816c8ba5fb", func := "loop.example/keelson/laws.FnExactShelfPut", spec := "fnExactShelfPut", inPlace := ["slices.overlaps[loop.example/keelson/impl.Item]"], unfollowed := true, recurses := true, apart := false }
def FnExactShelfPutSaid : Prop := fnExactShelfPutRow.holds Tryz.pinned (OpenSpec.ofChange fnExactShelfPutSpec)

/-- ITS FALSE NEIGHBOUR: 'it returns false'. Refute it at one input. -/
def fnExactShelfPutWrong : ChangeSpec := { name := "fnExactShelfPut", fn := fun _ => fun
  | [d1, d2, d3] => { results := [.lit (.bool false)], args := [d1, d2, d3] }
  | _ => none }
def FnExactShelfPutWrongFalsely : Prop := fnExactShelfPutRow.holds Tryz.pinned (OpenSpec.ofChange fnExactShelfPutWrong)

/-- 'laws.FnExactWorldWhole': WHATEVER THE INPUT: true; the input reads as it did. -/
def fnExactWorldWholeSpec : ChangeSpec := { name := "fnExactWorldWhole", fn := fun _ => fun
  | [d] => { results := [.lit (.bool true)], args := [d] }
  | _ => none }
def fnExactWorldWholeRow : OpenClaim := { program := "ytdnfojanjejdgaagreat", sum := "a4849b5076e6746a79269185fadf8e051230a07a2d946f6ff2d148816c8ba5fb", func := "loop.example/keelson/laws.FnExactWorldWhole", spec := "fnExactWorldWhole", unfollowed := true, recurses := true, apart := false }
def FnExactWorldWholeSaid : Prop := fnExactWorldWholeRow.holds Tryz.pinned (OpenSpec.ofChange fnExactWorldWholeSpec)

/-- ITS FALSE NEIGHBOUR: 'it returns false'. Refute it at one input. -/
def fnExactWorldWholeWrong : ChangeSpec := { name := "fnExactWorldWhole", fn := fun _ => fun
  | [d] => { results := [.lit (.bool false)], args := [d] }
  | _ => none }
def FnExactWorldWholeWrongFalsely : Prop := fnExactWorldWholeRow.holds Tryz.pinned (OpenSpec.ofChange fnExactWorldWholeWrong)

/-- 'laws.FnExactWorldDo': WHATEVER THE INPUT: true; the input reads as it did. -/
def fnExactWorldDoSpec : ChangeSpec := { name := "fnExactWorldDo", fn := fun _ => fun
  | [d1, d2] => { results := [.lit (.bool true)], args := [d1, d2] }
  | _ => none }
def fnExactWorldDoRow : OpenClaim := { program := "ytdnfojanjejdgaagreat", sum := "a4849b5076e6746a79269185fadf8e051230a07a2d946f6ff2d148816c8ba5fb", func := "loop.example/keelson/laws.FnExactWorldDo", spec := "fnExactWorldDo", inPlace := ["slices.overlaps[loop.example/keelson/impl.Item]"], unfollowed := true, recurses := true, apart := false }
def FnExactWorldDoSaid : Prop := fnExactWorldDoRow.holds Tryz.pinned (OpenSpec.ofChange fnExactWorldDoSpec)

/-- ITS FALSE NEIGHBOUR: 'it returns false'. Refute it at one input. -/
def fnExactWorldDoWrong : ChangeSpec := { name := "fnExactWorldDo", fn := fun _ => fun
  | [d1, d2] => { results := [.lit (.bool false)], args := [d1, d2] }
  | _ => none }
def FnExactWorldDoWrongFalsely : Prop := fnExactWorldDoRow.holds Tryz.pinned (OpenSpec.ofChange fnExactWorldDoWrong)

/- THE SECOND FORM. 'bulk': how many values and letters a reading holds, each counted each time it is reached (what is shared counts as often as it is met; a slice's spare places count too). A statement '..UptoSaid' is the law's where the arguments, and the package variables that the reading takes, are together of bulk at most 1048576: NARROWER than '..Said'. Prove '..Said' where nothing that the law and all that it calls make is longer than what came in: it says more and counts as full. Else prove '..UptoSaid'. A law counts once. -/
mutual
def uptoBulk {H : Type} : DataW H → Nat
  | .lit (.string bytes) => bytes.length + 1
  | .lit _ => 1
  | .nil => 1
  | .ptr d => uptoBulk d + 1
  | .slice elems spare => uptoBulkAll elems + uptoBulkAll spare + 1
  | .agg parts => uptoBulkAll parts + 1
  | .iface _ d => uptoBulk d + 1
  | .map entries => uptoBulkEntries entries + 1
  | .held _ => 1
def uptoBulkAll {H : Type} : List (DataW H) → Nat
  | [] => 0
  | d :: r => uptoBulk d + uptoBulkAll r
def uptoBulkEntries {H : Type} : List (Lit × DataW H) → Nat
  | [] => 0
  | x :: r => uptoBulkEntry x + uptoBulkEntries r
def uptoBulkEntry {H : Type} : Lit × DataW H → Nat
  | (.string bytes, d) => bytes.length + uptoBulk d + 1
  | (_, d) => uptoBulk d + 1
 end
def uptoSmall : (H : Type) → List (DataW H) → Bool := fun _ ds => decide (uptoBulkAll ds ≤ 1048576)
def OpenSpec.upto (s : _root_.Go.ChangeSpec) : _root_.Go.OpenSpec := { _root_.Go.OpenSpec.ofChange s with cond := some uptoSmall }

/-- 'laws.FnExactShelfOk', WHERE WHAT IT READS IS OF BULK AT MOST 1048576: true; the input reads as it did. -/
def fnExactShelfOkUptoRow : OpenClaim := { program := "ytdnfojanjejdgaagreat", sum := "a4849b5076e6746a79269185fadf8e051230a07a2d946f6ff2d148816c8ba5fb", func := "loop.example/keelson/laws.FnExactShelfOk", spec := "fnExactShelfOk", unfollowed := true, recurses := true, apart := false, narrowed := true }
def FnExactShelfOkUptoSaid : Prop := fnExactShelfOkUptoRow.holds Tryz.pinned (OpenSpec.upto fnExactShelfOkSpec)

/-- 'laws.FnExactShelfUsed', WHERE WHAT IT READS IS OF BULK AT MOST 1048576: true; the input reads as it did. -/
def fnExactShelfUsedUptoRow : OpenClaim := { program := "ytdnfojanjejdgaagreat", sum := "a4849b5076e6746a79269185fadf8e051230a07a2d946f6ff2d148816c8ba5fb", func := "loop.example/keelson/laws.FnExactShelfUsed", spec := "fnExactShelfUsed", unfollowed := true, recurses := true, apart := false, narrowed := true }
def FnExactShelfUsedUptoSaid : Prop := fnExactShelfUsedUptoRow.holds Tryz.pinned (OpenSpec.upto fnExactShelfUsedSpec)

/-- 'laws.FnExactWorldOk', WHERE WHAT IT READS IS OF BULK AT MOST 1048576: true; the input reads as it did. -/
def fnExactWorldOkUptoRow : OpenClaim := { program := "ytdnfojanjejdgaagreat", sum := "a4849b5076e6746a79269185fadf8e051230a07a2d946f6ff2d148816c8ba5fb", func := "loop.example/keelson/laws.FnExactWorldOk", spec := "fnExactWorldOk", unfollowed := true, recurses := true, apart := false, narrowed := true }
def FnExactWorldOkUptoSaid : Prop := fnExactWorldOkUptoRow.holds Tryz.pinned (OpenSpec.upto fnExactWorldOkSpec)

/-- 'laws.FnExactShelfGet', WHERE WHAT IT READS IS OF BULK AT MOST 1048576: true; the input reads as it did. -/
def fnExactShelfGetUptoRow : OpenClaim := { program := "ytdnfojanjejdgaagreat", sum := "a4849b5076e6746a79269185fadf8e051230a07a2d946f6ff2d148816c8ba5fb", func := "loop.example/keelson/laws.FnExactShelfGet", spec := "fnExactShelfGet", unfollowed := true, recurses := true, apart := false, narrowed := true }
def FnExactShelfGetUptoSaid : Prop := fnExactShelfGetUptoRow.holds Tryz.pinned (OpenSpec.upto fnExactShelfGetSpec)

/-- 'laws.FnExactShelfList', WHERE WHAT IT READS IS OF BULK AT MOST 1048576: true; the input reads as it did. -/
def fnExactShelfListUptoRow : OpenClaim := { program := "ytdnfojanjejdgaagreat", sum := "a4849b5076e6746a79269185fadf8e051230a07a2d946f6ff2d148816c8ba5fb", func := "loop.example/keelson/laws.FnExactShelfList", spec := "fnExactShelfList", unfollowed := true, recurses := true, apart := false, narrowed := true }
def FnExactShelfListUptoSaid : Prop := fnExactShelfListUptoRow.holds Tryz.pinned (OpenSpec.upto fnExactShelfListSpec)

/-- 'laws.FnExactShelfLose', WHERE WHAT IT READS IS OF BULK AT MOST 1048576: true; the input reads as it did. -/
def fnExactShelfLoseUptoRow : OpenClaim := { program := "ytdnfojanjejdgaagreat", sum := "a4849b5076e6746a79269185fadf8e051230a07a2d946f6ff2d148816c8ba5fb", func := "loop.example/keelson/laws.FnExactShelfLose", spec := "fnExactShelfLose", unfollowed := true, recurses := true, apart := false, narrowed := true }
def FnExactShelfLoseUptoSaid : Prop := fnExactShelfLoseUptoRow.holds Tryz.pinned (OpenSpec.upto fnExactShelfLoseSpec)

/-- 'laws.FnExactShelfDrop', WHERE WHAT IT READS IS OF BULK AT MOST 1048576: true; the input reads as it did. -/
def fnExactShelfDropUptoRow : OpenClaim := { program := "ytdnfojanjejdgaagreat", sum := "a4849b5076e6746a79269185fadf8e051230a07a2d946f6ff2d148816c8ba5fb", func := "loop.example/keelson/laws.FnExactShelfDrop", spec := "fnExactShelfDrop", unfollowed := true, recurses := true, apart := false, narrowed := true }
def FnExactShelfDropUptoSaid : Prop := fnExactShelfDropUptoRow.holds Tryz.pinned (OpenSpec.upto fnExactShelfDropSpec)

/-- 'laws.FnExactShelfTurn', WHERE WHAT IT READS IS OF BULK AT MOST 1048576: true; the input reads as it did. -/
def fnExactShelfTurnUptoRow : OpenClaim := { program := "ytdnfojanjejdgaagreat", sum := "a4849b5076e6746a79269185fadf8e051230a07a2d946f6ff2d148816c8ba5fb", func := "loop.example/keelson/laws.FnExactShelfTurn", spec := "fnExactShelfTurn", unfollowed := true, recurses := true, apart := false, narrowed := true }
def FnExactShelfTurnUptoSaid : Prop := fnExactShelfTurnUptoRow.holds Tryz.pinned (OpenSpec.upto fnExactShelfTurnSpec)

/-- 'laws.FnExactShelfMend', WHERE WHAT IT READS IS OF BULK AT MOST 1048576: true; the input reads as it did. -/
def fnExactShelfMendUptoRow : OpenClaim := { program := "ytdnfojanjejdgaagreat", sum := "a4849b5076e6746a79269185fadf8e051230a07a2d946f6ff2d148816c8ba5fb", func := "loop.example/keelson/laws.FnExactShelfMend", spec := "fnExactShelfMend", unfollowed := true, recurses := true, apart := false, narrowed := true }
def FnExactShelfMendUptoSaid : Prop := fnExactShelfMendUptoRow.holds Tryz.pinned (OpenSpec.upto fnExactShelfMendSpec)

/-- 'laws.FnExactShelfPut', WHERE WHAT IT READS IS OF BULK AT MOST 1048576: true; the input reads as it did. -/
def fnExactShelfPutUptoRow : OpenClaim := { program := "ytdnfojanjejdgaagreat", sum := "a4849b5076e6746a79269185fadf8e051230a07a2d946f6ff2d148816c8ba5fb", func := "loop.example/keelson/laws.FnExactShelfPut", spec := "fnExactShelfPut", inPlace := ["slices.overlaps[loop.example/keelson/impl.Item]"], unfollowed := true, recurses := true, apart := false, narrowed := true }
def FnExactShelfPutUptoSaid : Prop := fnExactShelfPutUptoRow.holds Tryz.pinned (OpenSpec.upto fnExactShelfPutSpec)

/-- 'laws.FnExactWorldWhole', WHERE WHAT IT READS IS OF BULK AT MOST 1048576: true; the input reads as it did. -/
def fnExactWorldWholeUptoRow : OpenClaim := { program := "ytdnfojanjejdgaagreat", sum := "a4849b5076e6746a79269185fadf8e051230a07a2d946f6ff2d148816c8ba5fb", func := "loop.example/keelson/laws.FnExactWorldWhole", spec := "fnExactWorldWhole", unfollowed := true, recurses := true, apart := false, narrowed := true }
def FnExactWorldWholeUptoSaid : Prop := fnExactWorldWholeUptoRow.holds Tryz.pinned (OpenSpec.upto fnExactWorldWholeSpec)

/-- 'laws.FnExactWorldDo', WHERE WHAT IT READS IS OF BULK AT MOST 1048576: true; the input reads as it did. -/
def fnExactWorldDoUptoRow : OpenClaim := { program := "ytdnfojanjejdgaagreat", sum := "a4849b5076e6746a79269185fadf8e051230a07a2d946f6ff2d148816c8ba5fb", func := "loop.example/keelson/laws.FnExactWorldDo", spec := "fnExactWorldDo", inPlace := ["slices.overlaps[loop.example/keelson/impl.Item]"], unfollowed := true, recurses := true, apart := false, narrowed := true }
def FnExactWorldDoUptoSaid : Prop := fnExactWorldDoUptoRow.holds Tryz.pinned (OpenSpec.upto fnExactWorldDoSpec)

end Rows
end Go.Proofs.YtdnfojanjejdgaaGreat
