/-
  No cell of these rows narrows 'for every input' (looked for: loops, veiled, ifaces, maps, wideKeys, modest, calm, conditions, laid).
  DERIVED. THE GIVEN ROWS OF THIS SEAT. 12 by the template 'for every input the law returns true; each argument reads behind the call as it read before'; 0 by the template 'total and deterministic' (their statements: YtliggcjjkdklhaaGreatTotals.lean).
  GIVEN WITH THE SEED: the statements are not yours to turn. If you find one false, say at which input.
  Laid BY PROGRAM, IN A SANDBOX (cutbox-rows.mjs): the forced cells as the released guide's own fill.sh prints them over the translation c8951e41457dd533… (all of the seat's roots in one cut). By AI agents, Wed Nov 11 2026. No macro, syntax, notation, axiom, sorry.
-/
import Derived.Test.YtliggcjjkdklhaaGreatChecked
import GoSem.Claim
import GoSem.ClaimJoined
import GoSem.ClaimMapViews
import Derived.JoinedTies
import Derived.KernelRfl
namespace Go.Proofs.YtliggcjjkdklhaaGreat
/- THE CELL 'sum', in the pinned program and in every row, IS THE sha256 OF THE DUMP (.gsa) THAT YtliggcjjkdklhaaGreatProg.lean LOADS. Nothing in Lean hashes anything: it is a label: what it is worth is what the hold of that sum in a sandbox is worth. -/
noncomputable def Tryz.pinned : Pinned := { name := "ytliggcjjkdklhaagreat", sum := "c8951e41457dd53376e1e878fff2584c8cbb02eb0961e2ef6907bf29bda58b60", checked := Tryz.checked }
namespace Rows
def none {H : Type} : Left H := { results := [], args := [] }

/-- 'laws.FnRedo': WHATEVER THE INPUT: true; the input reads as it did. -/
def fnRedoSpec : ChangeSpec := { name := "fnRedo", fn := fun _ => fun
  | [d] => { results := [.lit (.bool true)], args := [d] }
  | _ => none }
def fnRedoRow : OpenClaim := { program := "ytliggcjjkdklhaagreat", sum := "c8951e41457dd53376e1e878fff2584c8cbb02eb0961e2ef6907bf29bda58b60", func := "loop.example/keelson/laws.FnRedo", spec := "fnRedo", unfollowed := true, recurses := true, apart := false }
def FnRedoSaid : Prop := fnRedoRow.holds Tryz.pinned (OpenSpec.ofChange fnRedoSpec)

/-- ITS FALSE NEIGHBOUR: 'it returns false'. Refute it at one input. -/
def fnRedoWrong : ChangeSpec := { name := "fnRedo", fn := fun _ => fun
  | [d] => { results := [.lit (.bool false)], args := [d] }
  | _ => none }
def FnRedoWrongFalsely : Prop := fnRedoRow.holds Tryz.pinned (OpenSpec.ofChange fnRedoWrong)

/-- 'laws.FnExactKeepShard': WHATEVER THE INPUT: true; the input reads as it did. -/
def fnExactKeepShardSpec : ChangeSpec := { name := "fnExactKeepShard", fn := fun _ => fun
  | [d1, d2] => { results := [.lit (.bool true)], args := [d1, d2] }
  | _ => none }
def fnExactKeepShardRow : OpenClaim := { program := "ytliggcjjkdklhaagreat", sum := "c8951e41457dd53376e1e878fff2584c8cbb02eb0961e2ef6907bf29bda58b60", func := "loop.example/keelson/laws.FnExactKeepShard", spec := "fnExactKeepShard", unfollowed := true, recurses := true, apart := false }
def FnExactKeepShardSaid : Prop := fnExactKeepShardRow.holds Tryz.pinned (OpenSpec.ofChange fnExactKeepShardSpec)

/-- ITS FALSE NEIGHBOUR: 'it returns false'. Refute it at one input. -/
def fnExactKeepShardWrong : ChangeSpec := { name := "fnExactKeepShard", fn := fun _ => fun
  | [d1, d2] => { results := [.lit (.bool false)], args := [d1, d2] }
  | _ => none }
def FnExactKeepShardWrongFalsely : Prop := fnExactKeepShardRow.holds Tryz.pinned (OpenSpec.ofChange fnExactKeepShardWrong)

/-- 'laws.FnShard': WHATEVER THE INPUT: true; the input reads as it did. -/
def fnShardSpec : ChangeSpec := { name := "fnShard", fn := fun _ => fun
  | [d] => { results := [.lit (.bool true)], args := [d] }
  | _ => none }
def fnShardRow : OpenClaim := { program := "ytliggcjjkdklhaagreat", sum := "c8951e41457dd53376e1e878fff2584c8cbb02eb0961e2ef6907bf29bda58b60", func := "loop.example/keelson/laws.FnShard", spec := "fnShard", unfollowed := true, recurses := true, apart := false }
def FnShardSaid : Prop := fnShardRow.holds Tryz.pinned (OpenSpec.ofChange fnShardSpec)

/-- ITS FALSE NEIGHBOUR: 'it returns false'. Refute it at one input. -/
def fnShardWrong : ChangeSpec := { name := "fnShard", fn := fun _ => fun
  | [d] => { results := [.lit (.bool false)], args := [d] }
  | _ => none }
def FnShardWrongFalsely : Prop := fnShardRow.holds Tryz.pinned (OpenSpec.ofChange fnShardWrong)

/-- 'laws.FnExactKeepEnd': WHATEVER THE INPUT: true; the input reads as it did. -/
def fnExactKeepEndSpec : ChangeSpec := { name := "fnExactKeepEnd", fn := fun _ => fun
  | [d] => { results := [.lit (.bool true)], args := [d] }
  | _ => none }
def fnExactKeepEndRow : OpenClaim := { program := "ytliggcjjkdklhaagreat", sum := "c8951e41457dd53376e1e878fff2584c8cbb02eb0961e2ef6907bf29bda58b60", func := "loop.example/keelson/laws.FnExactKeepEnd", spec := "fnExactKeepEnd", unfollowed := true, recurses := true, apart := false }
def FnExactKeepEndSaid : Prop := fnExactKeepEndRow.holds Tryz.pinned (OpenSpec.ofChange fnExactKeepEndSpec)

/-- ITS FALSE NEIGHBOUR: 'it returns false'. Refute it at one input. -/
def fnExactKeepEndWrong : ChangeSpec := { name := "fnExactKeepEnd", fn := fun _ => fun
  | [d] => { results := [.lit (.bool false)], args := [d] }
  | _ => none }
def FnExactKeepEndWrongFalsely : Prop := fnExactKeepEndRow.holds Tryz.pinned (OpenSpec.ofChange fnExactKeepEndWrong)

/-- 'laws.FnExactKeepRedo': WHATEVER THE INPUT: true; the input reads as it did. -/
def fnExactKeepRedoSpec : ChangeSpec := { name := "fnExactKeepRedo", fn := fun _ => fun
  | [d] => { results := [.lit (.bool true)], args := [d] }
  | _ => none }
def fnExactKeepRedoRow : OpenClaim := { program := "ytliggcjjkdklhaagreat", sum := "c8951e41457dd53376e1e878fff2584c8cbb02eb0961e2ef6907bf29bda58b60", func := "loop.example/keelson/laws.FnExactKeepRedo", spec := "fnExactKeepRedo", unfollowed := true, recurses := true, apart := false }
def FnExactKeepRedoSaid : Prop := fnExactKeepRedoRow.holds Tryz.pinned (OpenSpec.ofChange fnExactKeepRedoSpec)

/-- ITS FALSE NEIGHBOUR: 'it returns false'. Refute it at one input. -/
def fnExactKeepRedoWrong : ChangeSpec := { name := "fnExactKeepRedo", fn := fun _ => fun
  | [d] => { results := [.lit (.bool false)], args := [d] }
  | _ => none }
def FnExactKeepRedoWrongFalsely : Prop := fnExactKeepRedoRow.holds Tryz.pinned (OpenSpec.ofChange fnExactKeepRedoWrong)

/-- 'laws.FnRedoSteps': WHATEVER THE INPUT: true; the input reads as it did. -/
def fnRedoStepsSpec : ChangeSpec := { name := "fnRedoSteps", fn := fun _ => fun
  | [d1, d2] => { results := [.lit (.bool true)], args := [d1, d2] }
  | _ => none }
def fnRedoStepsRow : OpenClaim := { program := "ytliggcjjkdklhaagreat", sum := "c8951e41457dd53376e1e878fff2584c8cbb02eb0961e2ef6907bf29bda58b60", func := "loop.example/keelson/laws.FnRedoSteps", spec := "fnRedoSteps", unfollowed := true, recurses := true, apart := false }
def FnRedoStepsSaid : Prop := fnRedoStepsRow.holds Tryz.pinned (OpenSpec.ofChange fnRedoStepsSpec)

/-- ITS FALSE NEIGHBOUR: 'it returns false'. Refute it at one input. -/
def fnRedoStepsWrong : ChangeSpec := { name := "fnRedoSteps", fn := fun _ => fun
  | [d1, d2] => { results := [.lit (.bool false)], args := [d1, d2] }
  | _ => none }
def FnRedoStepsWrongFalsely : Prop := fnRedoStepsRow.holds Tryz.pinned (OpenSpec.ofChange fnRedoStepsWrong)

/-- 'laws.FnBegin': WHATEVER THE INPUT: true; the input reads as it did. -/
def fnBeginSpec : ChangeSpec := { name := "fnBegin", fn := fun _ => fun
  | [d] => { results := [.lit (.bool true)], args := [d] }
  | _ => none }
def fnBeginRow : OpenClaim := { program := "ytliggcjjkdklhaagreat", sum := "c8951e41457dd53376e1e878fff2584c8cbb02eb0961e2ef6907bf29bda58b60", func := "loop.example/keelson/laws.FnBegin", spec := "fnBegin", unfollowed := true, recurses := true, apart := false }
def FnBeginSaid : Prop := fnBeginRow.holds Tryz.pinned (OpenSpec.ofChange fnBeginSpec)

/-- ITS FALSE NEIGHBOUR: 'it returns false'. Refute it at one input. -/
def fnBeginWrong : ChangeSpec := { name := "fnBegin", fn := fun _ => fun
  | [d] => { results := [.lit (.bool false)], args := [d] }
  | _ => none }
def FnBeginWrongFalsely : Prop := fnBeginRow.holds Tryz.pinned (OpenSpec.ofChange fnBeginWrong)

/-- 'laws.FnEnd': WHATEVER THE INPUT: true; the input reads as it did. -/
def fnEndSpec : ChangeSpec := { name := "fnEnd", fn := fun _ => fun
  | [d] => { results := [.lit (.bool true)], args := [d] }
  | _ => none }
def fnEndRow : OpenClaim := { program := "ytliggcjjkdklhaagreat", sum := "c8951e41457dd53376e1e878fff2584c8cbb02eb0961e2ef6907bf29bda58b60", func := "loop.example/keelson/laws.FnEnd", spec := "fnEnd", unfollowed := true, recurses := true, apart := false }
def FnEndSaid : Prop := fnEndRow.holds Tryz.pinned (OpenSpec.ofChange fnEndSpec)

/-- ITS FALSE NEIGHBOUR: 'it returns false'. Refute it at one input. -/
def fnEndWrong : ChangeSpec := { name := "fnEnd", fn := fun _ => fun
  | [d] => { results := [.lit (.bool false)], args := [d] }
  | _ => none }
def FnEndWrongFalsely : Prop := fnEndRow.holds Tryz.pinned (OpenSpec.ofChange fnEndWrong)

/-- 'laws.FnKeepVers': WHATEVER THE INPUT: true; the input reads as it did. -/
def fnKeepVersSpec : ChangeSpec := { name := "fnKeepVers", fn := fun _ => fun
  | [d] => { results := [.lit (.bool true)], args := [d] }
  | _ => none }
def fnKeepVersRow : OpenClaim := { program := "ytliggcjjkdklhaagreat", sum := "c8951e41457dd53376e1e878fff2584c8cbb02eb0961e2ef6907bf29bda58b60", func := "loop.example/keelson/laws.FnKeepVers", spec := "fnKeepVers", unfollowed := true, recurses := true, apart := false }
def FnKeepVersSaid : Prop := fnKeepVersRow.holds Tryz.pinned (OpenSpec.ofChange fnKeepVersSpec)

/-- ITS FALSE NEIGHBOUR: 'it returns false'. Refute it at one input. -/
def fnKeepVersWrong : ChangeSpec := { name := "fnKeepVers", fn := fun _ => fun
  | [d] => { results := [.lit (.bool false)], args := [d] }
  | _ => none }
def FnKeepVersWrongFalsely : Prop := fnKeepVersRow.holds Tryz.pinned (OpenSpec.ofChange fnKeepVersWrong)

/-- 'laws.FnExactTurnBegin': WHATEVER THE INPUT: true; the input reads as it did. -/
def fnExactTurnBeginSpec : ChangeSpec := { name := "fnExactTurnBegin", fn := fun _ => fun
  | [d1, d2] => { results := [.lit (.bool true)], args := [d1, d2] }
  | _ => none }
def fnExactTurnBeginRow : OpenClaim := { program := "ytliggcjjkdklhaagreat", sum := "c8951e41457dd53376e1e878fff2584c8cbb02eb0961e2ef6907bf29bda58b60", func := "loop.example/keelson/laws.FnExactTurnBegin", spec := "fnExactTurnBegin", unfollowed := true, recurses := true, apart := false }
def FnExactTurnBeginSaid : Prop := fnExactTurnBeginRow.holds Tryz.pinned (OpenSpec.ofChange fnExactTurnBeginSpec)

/-- ITS FALSE NEIGHBOUR: 'it returns false'. Refute it at one input. -/
def fnExactTurnBeginWrong : ChangeSpec := { name := "fnExactTurnBegin", fn := fun _ => fun
  | [d1, d2] => { results := [.lit (.bool false)], args := [d1, d2] }
  | _ => none }
def FnExactTurnBeginWrongFalsely : Prop := fnExactTurnBeginRow.holds Tryz.pinned (OpenSpec.ofChange fnExactTurnBeginWrong)

/-- 'laws.FnTurnBegin': WHATEVER THE INPUT: true; the input reads as it did. -/
def fnTurnBeginSpec : ChangeSpec := { name := "fnTurnBegin", fn := fun _ => fun
  | [d] => { results := [.lit (.bool true)], args := [d] }
  | _ => none }
def fnTurnBeginRow : OpenClaim := { program := "ytliggcjjkdklhaagreat", sum := "c8951e41457dd53376e1e878fff2584c8cbb02eb0961e2ef6907bf29bda58b60", func := "loop.example/keelson/laws.FnTurnBegin", spec := "fnTurnBegin", unfollowed := true, recurses := true, apart := false }
def FnTurnBeginSaid : Prop := fnTurnBeginRow.holds Tryz.pinned (OpenSpec.ofChange fnTurnBeginSpec)

/-- ITS FALSE NEIGHBOUR: 'it returns false'. Refute it at one input. -/
def fnTurnBeginWrong : ChangeSpec := { name := "fnTurnBegin", fn := fun _ => fun
  | [d] => { results := [.lit (.bool false)], args := [d] }
  | _ => none }
def FnTurnBeginWrongFalsely : Prop := fnTurnBeginRow.holds Tryz.pinned (OpenSpec.ofChange fnTurnBeginWrong)

/-- 'laws.FnTurnHalf': WHATEVER THE INPUT: true; the input reads as it did. -/
def fnTurnHalfSpec : ChangeSpec := { name := "fnTurnHalf", fn := fun _ => fun
  | [d1, d2] => { results := [.lit (.bool true)], args := [d1, d2] }
  | _ => none }
def fnTurnHalfRow : OpenClaim := { program := "ytliggcjjkdklhaagreat", sum := "c8951e41457dd53376e1e878fff2584c8cbb02eb0961e2ef6907bf29bda58b60", func := "loop.example/keelson/laws.FnTurnHalf", spec := "fnTurnHalf", unfollowed := true, recurses := true, apart := false }
def FnTurnHalfSaid : Prop := fnTurnHalfRow.holds Tryz.pinned (OpenSpec.ofChange fnTurnHalfSpec)

/-- ITS FALSE NEIGHBOUR: 'it returns false'. Refute it at one input. -/
def fnTurnHalfWrong : ChangeSpec := { name := "fnTurnHalf", fn := fun _ => fun
  | [d1, d2] => { results := [.lit (.bool false)], args := [d1, d2] }
  | _ => none }
def FnTurnHalfWrongFalsely : Prop := fnTurnHalfRow.holds Tryz.pinned (OpenSpec.ofChange fnTurnHalfWrong)

/- THE SECOND FORM. 'bulk': how many values and letters a reading holds, each counted each time it is reached (what is shared counts as often as it is met; a slice's spare places count too). A statement '..UptoSaid' is the law's where the arguments, and the package variables that the reading takes, are together of bulk at most 1048576: NARROWER than '..Said'. Prove '..Said' where nothing that the law and all that it calls make is longer than what came in: it says more and counts as full. Else prove '..UptoSaid'. A law counts once. -/
mutual
def uptoBulk {H : Type} : DataW H → Nat
  | .lit (.string bytes) => bytes.length + 1
  | .lit _ => 1
  | .nil => 1
  | .ptr d => uptoBulk d + 1
  | .slice elems spare => uptoBulkAll elems + uptoBulkAll spare + 1
  | .agg parts => uptoBulkAll parts + 1
  | .iface _ d => uptoBulk d + 1
  | .map entries => uptoBulkEntries entries + 1
  | .held _ => 1
def uptoBulkAll {H : Type} : List (DataW H) → Nat
  | [] => 0
  | d :: r => uptoBulk d + uptoBulkAll r
def uptoBulkEntries {H : Type} : List (Lit × DataW H) → Nat
  | [] => 0
  | x :: r => uptoBulkEntry x + uptoBulkEntries r
def uptoBulkEntry {H : Type} : Lit × DataW H → Nat
  | (.string bytes, d) => bytes.length + uptoBulk d + 1
  | (_, d) => uptoBulk d + 1
 end
def uptoSmall : (H : Type) → List (DataW H) → Bool := fun _ ds => decide (uptoBulkAll ds ≤ 1048576)
def OpenSpec.upto (s : _root_.Go.ChangeSpec) : _root_.Go.OpenSpec := { _root_.Go.OpenSpec.ofChange s with cond := some uptoSmall }

/-- 'laws.FnRedo', WHERE WHAT IT READS IS OF BULK AT MOST 1048576: true; the input reads as it did. -/
def fnRedoUptoRow : OpenClaim := { program := "ytliggcjjkdklhaagreat", sum := "c8951e41457dd53376e1e878fff2584c8cbb02eb0961e2ef6907bf29bda58b60", func := "loop.example/keelson/laws.FnRedo", spec := "fnRedo", unfollowed := true, recurses := true, apart := false, narrowed := true }
def FnRedoUptoSaid : Prop := fnRedoUptoRow.holds Tryz.pinned (OpenSpec.upto fnRedoSpec)

/-- 'laws.FnExactKeepShard', WHERE WHAT IT READS IS OF BULK AT MOST 1048576: true; the input reads as it did. -/
def fnExactKeepShardUptoRow : OpenClaim := { program := "ytliggcjjkdklhaagreat", sum := "c8951e41457dd53376e1e878fff2584c8cbb02eb0961e2ef6907bf29bda58b60", func := "loop.example/keelson/laws.FnExactKeepShard", spec := "fnExactKeepShard", unfollowed := true, recurses := true, apart := false, narrowed := true }
def FnExactKeepShardUptoSaid : Prop := fnExactKeepShardUptoRow.holds Tryz.pinned (OpenSpec.upto fnExactKeepShardSpec)

/-- 'laws.FnShard', WHERE WHAT IT READS IS OF BULK AT MOST 1048576: true; the input reads as it did. -/
def fnShardUptoRow : OpenClaim := { program := "ytliggcjjkdklhaagreat", sum := "c8951e41457dd53376e1e878fff2584c8cbb02eb0961e2ef6907bf29bda58b60", func := "loop.example/keelson/laws.FnShard", spec := "fnShard", unfollowed := true, recurses := true, apart := false, narrowed := true }
def FnShardUptoSaid : Prop := fnShardUptoRow.holds Tryz.pinned (OpenSpec.upto fnShardSpec)

/-- 'laws.FnExactKeepEnd', WHERE WHAT IT READS IS OF BULK AT MOST 1048576: true; the input reads as it did. -/
def fnExactKeepEndUptoRow : OpenClaim := { program := "ytliggcjjkdklhaagreat", sum := "c8951e41457dd53376e1e878fff2584c8cbb02eb0961e2ef6907bf29bda58b60", func := "loop.example/keelson/laws.FnExactKeepEnd", spec := "fnExactKeepEnd", unfollowed := true, recurses := true, apart := false, narrowed := true }
def FnExactKeepEndUptoSaid : Prop := fnExactKeepEndUptoRow.holds Tryz.pinned (OpenSpec.upto fnExactKeepEndSpec)

/-- 'laws.FnExactKeepRedo', WHERE WHAT IT READS IS OF BULK AT MOST 1048576: true; the input reads as it did. -/
def fnExactKeepRedoUptoRow : OpenClaim := { program := "ytliggcjjkdklhaagreat", sum := "c8951e41457dd53376e1e878fff2584c8cbb02eb0961e2ef6907bf29bda58b60", func := "loop.example/keelson/laws.FnExactKeepRedo", spec := "fnExactKeepRedo", unfollowed := true, recurses := true, apart := false, narrowed := true }
def FnExactKeepRedoUptoSaid : Prop := fnExactKeepRedoUptoRow.holds Tryz.pinned (OpenSpec.upto fnExactKeepRedoSpec)

/-- 'laws.FnRedoSteps', WHERE WHAT IT READS IS OF BULK AT MOST 1048576: true; the input reads as it did. -/
def fnRedoStepsUptoRow : OpenClaim := { program := "ytliggcjjkdklhaagreat", sum := "c8951e41457dd53376e1e878fff2584c8cbb02eb0961e2ef6907bf29bda58b60", func := "loop.example/keelson/laws.FnRedoSteps", spec := "fnRedoSteps", unfollowed := true, recurses := true, apart := false, narrowed := true }
def FnRedoStepsUptoSaid : Prop := fnRedoStepsUptoRow.holds Tryz.pinned (OpenSpec.upto fnRedoStepsSpec)

/-- 'laws.FnBegin', WHERE WHAT IT READS IS OF BULK AT MOST 1048576: true; the input reads as it did. -/
def fnBeginUptoRow : OpenClaim := { program := "ytliggcjjkdklhaagreat", sum := "c8951e41457dd53376e1e878fff2584c8cbb02eb0961e2ef6907bf29bda58b60", func := "loop.example/keelson/laws.FnBegin", spec := "fnBegin", unfollowed := true, recurses := true, apart := false, narrowed := true }
def FnBeginUptoSaid : Prop := fnBeginUptoRow.holds Tryz.pinned (OpenSpec.upto fnBeginSpec)

/-- 'laws.FnEnd', WHERE WHAT IT READS IS OF BULK AT MOST 1048576: true; the input reads as it did. -/
def fnEndUptoRow : OpenClaim := { program := "ytliggcjjkdklhaagreat", sum := "c8951e41457dd53376e1e878fff2584c8cbb02eb0961e2ef6907bf29bda58b60", func := "loop.example/keelson/laws.FnEnd", spec := "fnEnd", unfollowed := true, recurses := true, apart := false, narrowed := true }
def FnEndUptoSaid : Prop := fnEndUptoRow.holds Tryz.pinned (OpenSpec.upto fnEndSpec)

/-- 'laws.FnKeepVers', WHERE WHAT IT READS IS OF BULK AT MOST 1048576: true; the input reads as it did. -/
def fnKeepVersUptoRow : OpenClaim := { program := "ytliggcjjkdklhaagreat", sum := "c8951e41457dd53376e1e878fff2584c8cbb02eb0961e2ef6907bf29bda58b60", func := "loop.example/keelson/laws.FnKeepVers", spec := "fnKeepVers", unfollowed := true, recurses := true, apart := false, narrowed := true }
def FnKeepVersUptoSaid : Prop := fnKeepVersUptoRow.holds Tryz.pinned (OpenSpec.upto fnKeepVersSpec)

/-- 'laws.FnExactTurnBegin', WHERE WHAT IT READS IS OF BULK AT MOST 1048576: true; the input reads as it did. -/
def fnExactTurnBeginUptoRow : OpenClaim := { program := "ytliggcjjkdklhaagreat", sum := "c8951e41457dd53376e1e878fff2584c8cbb02eb0961e2ef6907bf29bda58b60", func := "loop.example/keelson/laws.FnExactTurnBegin", spec := "fnExactTurnBegin", unfollowed := true, recurses := true, apart := false, narrowed := true }
def FnExactTurnBeginUptoSaid : Prop := fnExactTurnBeginUptoRow.holds Tryz.pinned (OpenSpec.upto fnExactTurnBeginSpec)

/-- 'laws.FnTurnBegin', WHERE WHAT IT READS IS OF BULK AT MOST 1048576: true; the input reads as it did. -/
def fnTurnBeginUptoRow : OpenClaim := { program := "ytliggcjjkdklhaagreat", sum := "c8951e41457dd53376e1e878fff2584c8cbb02eb0961e2ef6907bf29bda58b60", func := "loop.example/keelson/laws.FnTurnBegin", spec := "fnTurnBegin", unfollowed := true, recurses := true, apart := false, narrowed := true }
def FnTurnBeginUptoSaid : Prop := fnTurnBeginUptoRow.holds Tryz.pinned (OpenSpec.upto fnTurnBeginSpec)

/-- 'laws.FnTurnHalf', WHERE WHAT IT READS IS OF BULK AT MOST 1048576: true; the input reads as it did. -/
def fnTurnHalfUptoRow : OpenClaim := { program := "ytliggcjjkdklhaagreat", sum := "c8951e41457dd53376e1e878fff2584c8cbb02eb0961e2ef6907bf29bda58b60", func := "loop.example/keelson/laws.FnTurnHalf", spec := "fnTurnHalf", unfollowed := true, recurses := true, apart := false, narrowed := true }
def FnTurnHalfUptoSaid : Prop := fnTurnHalfUptoRow.holds Tryz.pinned (OpenSpec.upto fnTurnHalfSpec)

end Rows
end Go.Proofs.YtliggcjjkdklhaaGreat
