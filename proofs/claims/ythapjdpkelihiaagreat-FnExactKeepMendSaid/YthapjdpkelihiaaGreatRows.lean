/-
  No cell of these rows narrows 'for every input' (looked for: loops, veiled, ifaces, maps, wideKeys, modest, calm, conditions, laid).
  DERIVED. THE GIVEN ROWS OF THIS SEAT. 7 by the template 'for every input the law returns true; each argument reads behind the call as it read before'; 0 by the template 'total and deterministic' (their statements: YthapjdpkelihiaaGreatTotals.lean).
  GIVEN WITH THE SEED: the statements are not yours to turn. If you find one false, say at which input.
  Laid BY PROGRAM, IN A SANDBOX (cutbox-rows.mjs): the forced cells as the released guide's own fill.sh prints them over the translation ac42d966a9553fc5… (all of the seat's roots in one cut). By AI agents, Wed Nov 11 2026. No macro, syntax, notation, axiom, sorry.
-/
import Derived.Test.YthapjdpkelihiaaGreatChecked
import GoSem.Claim
import GoSem.ClaimJoined
import GoSem.ClaimMapViews
import Derived.JoinedTies
import Derived.KernelRfl
namespace Go.Proofs.YthapjdpkelihiaaGreat
/- THE CELL 'sum', in the pinned program and in every row, IS THE sha256 OF THE DUMP (.gsa) THAT YthapjdpkelihiaaGreatProg.lean LOADS. Nothing in Lean hashes anything: it is a label: what it is worth is what the hold of that sum in a sandbox is worth. -/
noncomputable def Tryz.pinned : Pinned := { name := "ythapjdpkelihiaagreat", sum := "ac42d966a9553fc5f638cd4234c1353eaf3cd8dd7e43d69368cc19caf5c4a0ec", checked := Tryz.checked }
namespace Rows
def none {H : Type} : Left H := { results := [], args := [] }

/-- 'laws.FnLoseMend': WHATEVER THE INPUT: true; the input reads as it did. -/
def fnLoseMendSpec : ChangeSpec := { name := "fnLoseMend", fn := fun _ => fun
  | [d] => { results := [.lit (.bool true)], args := [d] }
  | _ => none }
def fnLoseMendRow : OpenClaim := { program := "ythapjdpkelihiaagreat", sum := "ac42d966a9553fc5f638cd4234c1353eaf3cd8dd7e43d69368cc19caf5c4a0ec", func := "loop.example/keelson/laws.FnLoseMend", spec := "fnLoseMend", unfollowed := true, recurses := true, apart := false }
def FnLoseMendSaid : Prop := fnLoseMendRow.holds Tryz.pinned (OpenSpec.ofChange fnLoseMendSpec)

/-- ITS FALSE NEIGHBOUR: 'it returns false'. Refute it at one input. -/
def fnLoseMendWrong : ChangeSpec := { name := "fnLoseMend", fn := fun _ => fun
  | [d] => { results := [.lit (.bool false)], args := [d] }
  | _ => none }
def FnLoseMendWrongFalsely : Prop := fnLoseMendRow.holds Tryz.pinned (OpenSpec.ofChange fnLoseMendWrong)

/-- 'laws.FnCrash': WHATEVER THE INPUT: true; the input reads as it did. -/
def fnCrashSpec : ChangeSpec := { name := "fnCrash", fn := fun _ => fun
  | [d1, d2] => { results := [.lit (.bool true)], args := [d1, d2] }
  | _ => none }
def fnCrashRow : OpenClaim := { program := "ythapjdpkelihiaagreat", sum := "ac42d966a9553fc5f638cd4234c1353eaf3cd8dd7e43d69368cc19caf5c4a0ec", func := "loop.example/keelson/laws.FnCrash", spec := "fnCrash", unfollowed := true, recurses := true, apart := false }
def FnCrashSaid : Prop := fnCrashRow.holds Tryz.pinned (OpenSpec.ofChange fnCrashSpec)

/-- ITS FALSE NEIGHBOUR: 'it returns false'. Refute it at one input. -/
def fnCrashWrong : ChangeSpec := { name := "fnCrash", fn := fun _ => fun
  | [d1, d2] => { results := [.lit (.bool false)], args := [d1, d2] }
  | _ => none }
def FnCrashWrongFalsely : Prop := fnCrashRow.holds Tryz.pinned (OpenSpec.ofChange fnCrashWrong)

/-- 'laws.FnExactTurnAll': WHATEVER THE INPUT: true; the input reads as it did. -/
def fnExactTurnAllSpec : ChangeSpec := { name := "fnExactTurnAll", fn := fun _ => fun
  | [d1, d2] => { results := [.lit (.bool true)], args := [d1, d2] }
  | _ => none }
def fnExactTurnAllRow : OpenClaim := { program := "ythapjdpkelihiaagreat", sum := "ac42d966a9553fc5f638cd4234c1353eaf3cd8dd7e43d69368cc19caf5c4a0ec", func := "loop.example/keelson/laws.FnExactTurnAll", spec := "fnExactTurnAll", unfollowed := true, recurses := true, apart := false }
def FnExactTurnAllSaid : Prop := fnExactTurnAllRow.holds Tryz.pinned (OpenSpec.ofChange fnExactTurnAllSpec)

/-- ITS FALSE NEIGHBOUR: 'it returns false'. Refute it at one input. -/
def fnExactTurnAllWrong : ChangeSpec := { name := "fnExactTurnAll", fn := fun _ => fun
  | [d1, d2] => { results := [.lit (.bool false)], args := [d1, d2] }
  | _ => none }
def FnExactTurnAllWrongFalsely : Prop := fnExactTurnAllRow.holds Tryz.pinned (OpenSpec.ofChange fnExactTurnAllWrong)

/-- 'laws.FnRotMend': WHATEVER THE INPUT: true; the input reads as it did. -/
def fnRotMendSpec : ChangeSpec := { name := "fnRotMend", fn := fun _ => fun
  | [d] => { results := [.lit (.bool true)], args := [d] }
  | _ => none }
def fnRotMendRow : OpenClaim := { program := "ythapjdpkelihiaagreat", sum := "ac42d966a9553fc5f638cd4234c1353eaf3cd8dd7e43d69368cc19caf5c4a0ec", func := "loop.example/keelson/laws.FnRotMend", spec := "fnRotMend", unfollowed := true, recurses := true, apart := false }
def FnRotMendSaid : Prop := fnRotMendRow.holds Tryz.pinned (OpenSpec.ofChange fnRotMendSpec)

/-- ITS FALSE NEIGHBOUR: 'it returns false'. Refute it at one input. -/
def fnRotMendWrong : ChangeSpec := { name := "fnRotMend", fn := fun _ => fun
  | [d] => { results := [.lit (.bool false)], args := [d] }
  | _ => none }
def FnRotMendWrongFalsely : Prop := fnRotMendRow.holds Tryz.pinned (OpenSpec.ofChange fnRotMendWrong)

/-- 'laws.FnTurnAll': WHATEVER THE INPUT: true; the input reads as it did. -/
def fnTurnAllSpec : ChangeSpec := { name := "fnTurnAll", fn := fun _ => fun
  | [d] => { results := [.lit (.bool true)], args := [d] }
  | _ => none }
def fnTurnAllRow : OpenClaim := { program := "ythapjdpkelihiaagreat", sum := "ac42d966a9553fc5f638cd4234c1353eaf3cd8dd7e43d69368cc19caf5c4a0ec", func := "loop.example/keelson/laws.FnTurnAll", spec := "fnTurnAll", unfollowed := true, recurses := true, apart := false }
def FnTurnAllSaid : Prop := fnTurnAllRow.holds Tryz.pinned (OpenSpec.ofChange fnTurnAllSpec)

/-- ITS FALSE NEIGHBOUR: 'it returns false'. Refute it at one input. -/
def fnTurnAllWrong : ChangeSpec := { name := "fnTurnAll", fn := fun _ => fun
  | [d] => { results := [.lit (.bool false)], args := [d] }
  | _ => none }
def FnTurnAllWrongFalsely : Prop := fnTurnAllRow.holds Tryz.pinned (OpenSpec.ofChange fnTurnAllWrong)

/-- 'laws.FnExactKeepMend': WHATEVER THE INPUT: true; the input reads as it did. -/
def fnExactKeepMendSpec : ChangeSpec := { name := "fnExactKeepMend", fn := fun _ => fun
  | [d1, d2] => { results := [.lit (.bool true)], args := [d1, d2] }
  | _ => none }
def fnExactKeepMendRow : OpenClaim := { program := "ythapjdpkelihiaagreat", sum := "ac42d966a9553fc5f638cd4234c1353eaf3cd8dd7e43d69368cc19caf5c4a0ec", func := "loop.example/keelson/laws.FnExactKeepMend", spec := "fnExactKeepMend", unfollowed := true, recurses := true, apart := false }
def FnExactKeepMendSaid : Prop := fnExactKeepMendRow.holds Tryz.pinned (OpenSpec.ofChange fnExactKeepMendSpec)

/-- ITS FALSE NEIGHBOUR: 'it returns false'. Refute it at one input. -/
def fnExactKeepMendWrong : ChangeSpec := { name := "fnExactKeepMend", fn := fun _ => fun
  | [d1, d2] => { results := [.lit (.bool false)], args := [d1, d2] }
  | _ => none }
def FnExactKeepMendWrongFalsely : Prop := fnExactKeepMendRow.holds Tryz.pinned (OpenSpec.ofChange fnExactKeepMendWrong)

/-- 'laws.FnKeepMend': WHATEVER THE INPUT: true; the input reads as it did. -/
def fnKeepMendSpec : ChangeSpec := { name := "fnKeepMend", fn := fun _ => fun
  | [d] => { results := [.lit (.bool true)], args := [d] }
  | _ => none }
def fnKeepMendRow : OpenClaim := { program := "ythapjdpkelihiaagreat", sum := "ac42d966a9553fc5f638cd4234c1353eaf3cd8dd7e43d69368cc19caf5c4a0ec", func := "loop.example/keelson/laws.FnKeepMend", spec := "fnKeepMend", unfollowed := true, recurses := true, apart := false }
def FnKeepMendSaid : Prop := fnKeepMendRow.holds Tryz.pinned (OpenSpec.ofChange fnKeepMendSpec)

/-- ITS FALSE NEIGHBOUR: 'it returns false'. Refute it at one input. -/
def fnKeepMendWrong : ChangeSpec := { name := "fnKeepMend", fn := fun _ => fun
  | [d] => { results := [.lit (.bool false)], args := [d] }
  | _ => none }
def FnKeepMendWrongFalsely : Prop := fnKeepMendRow.holds Tryz.pinned (OpenSpec.ofChange fnKeepMendWrong)

/- THE SECOND FORM. 'bulk': how many values and letters a reading holds, each counted each time it is reached (what is shared counts as often as it is met; a slice's spare places count too). A statement '..UptoSaid' is the law's where the arguments, and the package variables that the reading takes, are together of bulk at most 1048576: NARROWER than '..Said'. Prove '..Said' where nothing that the law and all that it calls make is longer than what came in: it says more and counts as full. Else prove '..UptoSaid'. A law counts once. -/
mutual
def uptoBulk {H : Type} : DataW H → Nat
  | .lit (.string bytes) => bytes.length + 1
  | .lit _ => 1
  | .nil => 1
  | .ptr d => uptoBulk d + 1
  | .slice elems spare => uptoBulkAll elems + uptoBulkAll spare + 1
  | .agg parts => uptoBulkAll parts + 1
  | .iface _ d => uptoBulk d + 1
  | .map entries => uptoBulkEntries entries + 1
  | .held _ => 1
def uptoBulkAll {H : Type} : List (DataW H) → Nat
  | [] => 0
  | d :: r => uptoBulk d + uptoBulkAll r
def uptoBulkEntries {H : Type} : List (Lit × DataW H) → Nat
  | [] => 0
  | x :: r => uptoBulkEntry x + uptoBulkEntries r
def uptoBulkEntry {H : Type} : Lit × DataW H → Nat
  | (.string bytes, d) => bytes.length + uptoBulk d + 1
  | (_, d) => uptoBulk d + 1
 end
def uptoSmall : (H : Type) → List (DataW H) → Bool := fun _ ds => decide (uptoBulkAll ds ≤ 1048576)
def OpenSpec.upto (s : _root_.Go.ChangeSpec) : _root_.Go.OpenSpec := { _root_.Go.OpenSpec.ofChange s with cond := some uptoSmall }

/-- 'laws.FnLoseMend', WHERE WHAT IT READS IS OF BULK AT MOST 1048576: true; the input reads as it did. -/
def fnLoseMendUptoRow : OpenClaim := { program := "ythapjdpkelihiaagreat", sum := "ac42d966a9553fc5f638cd4234c1353eaf3cd8dd7e43d69368cc19caf5c4a0ec", func := "loop.example/keelson/laws.FnLoseMend", spec := "fnLoseMend", unfollowed := true, recurses := true, apart := false, narrowed := true }
def FnLoseMendUptoSaid : Prop := fnLoseMendUptoRow.holds Tryz.pinned (OpenSpec.upto fnLoseMendSpec)

/-- 'laws.FnCrash', WHERE WHAT IT READS IS OF BULK AT MOST 1048576: true; the input reads as it did. -/
def fnCrashUptoRow : OpenClaim := { program := "ythapjdpkelihiaagreat", sum := "ac42d966a9553fc5f638cd4234c1353eaf3cd8dd7e43d69368cc19caf5c4a0ec", func := "loop.example/keelson/laws.FnCrash", spec := "fnCrash", unfollowed := true, recurses := true, apart := false, narrowed := true }
def FnCrashUptoSaid : Prop := fnCrashUptoRow.holds Tryz.pinned (OpenSpec.upto fnCrashSpec)

/-- 'laws.FnExactTurnAll', WHERE WHAT IT READS IS OF BULK AT MOST 1048576: true; the input reads as it did. -/
def fnExactTurnAllUptoRow : OpenClaim := { program := "ythapjdpkelihiaagreat", sum := "ac42d966a9553fc5f638cd4234c1353eaf3cd8dd7e43d69368cc19caf5c4a0ec", func := "loop.example/keelson/laws.FnExactTurnAll", spec := "fnExactTurnAll", unfollowed := true, recurses := true, apart := false, narrowed := true }
def FnExactTurnAllUptoSaid : Prop := fnExactTurnAllUptoRow.holds Tryz.pinned (OpenSpec.upto fnExactTurnAllSpec)

/-- 'laws.FnRotMend', WHERE WHAT IT READS IS OF BULK AT MOST 1048576: true; the input reads as it did. -/
def fnRotMendUptoRow : OpenClaim := { program := "ythapjdpkelihiaagreat", sum := "ac42d966a9553fc5f638cd4234c1353eaf3cd8dd7e43d69368cc19caf5c4a0ec", func := "loop.example/keelson/laws.FnRotMend", spec := "fnRotMend", unfollowed := true, recurses := true, apart := false, narrowed := true }
def FnRotMendUptoSaid : Prop := fnRotMendUptoRow.holds Tryz.pinned (OpenSpec.upto fnRotMendSpec)

/-- 'laws.FnTurnAll', WHERE WHAT IT READS IS OF BULK AT MOST 1048576: true; the input reads as it did. -/
def fnTurnAllUptoRow : OpenClaim := { program := "ythapjdpkelihiaagreat", sum := "ac42d966a9553fc5f638cd4234c1353eaf3cd8dd7e43d69368cc19caf5c4a0ec", func := "loop.example/keelson/laws.FnTurnAll", spec := "fnTurnAll", unfollowed := true, recurses := true, apart := false, narrowed := true }
def FnTurnAllUptoSaid : Prop := fnTurnAllUptoRow.holds Tryz.pinned (OpenSpec.upto fnTurnAllSpec)

/-- 'laws.FnExactKeepMend', WHERE WHAT IT READS IS OF BULK AT MOST 1048576: true; the input reads as it did. -/
def fnExactKeepMendUptoRow : OpenClaim := { program := "ythapjdpkelihiaagreat", sum := "ac42d966a9553fc5f638cd4234c1353eaf3cd8dd7e43d69368cc19caf5c4a0ec", func := "loop.example/keelson/laws.FnExactKeepMend", spec := "fnExactKeepMend", unfollowed := true, recurses := true, apart := false, narrowed := true }
def FnExactKeepMendUptoSaid : Prop := fnExactKeepMendUptoRow.holds Tryz.pinned (OpenSpec.upto fnExactKeepMendSpec)

/-- 'laws.FnKeepMend', WHERE WHAT IT READS IS OF BULK AT MOST 1048576: true; the input reads as it did. -/
def fnKeepMendUptoRow : OpenClaim := { program := "ythapjdpkelihiaagreat", sum := "ac42d966a9553fc5f638cd4234c1353eaf3cd8dd7e43d69368cc19caf5c4a0ec", func := "loop.example/keelson/laws.FnKeepMend", spec := "fnKeepMend", unfollowed := true, recurses := true, apart := false, narrowed := true }
def FnKeepMendUptoSaid : Prop := fnKeepMendUptoRow.holds Tryz.pinned (OpenSpec.upto fnKeepMendSpec)

end Rows
end Go.Proofs.YthapjdpkelihiaaGreat
