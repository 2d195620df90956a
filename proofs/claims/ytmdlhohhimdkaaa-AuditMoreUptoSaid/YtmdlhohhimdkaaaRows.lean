/-
  No cell of these rows narrows 'for every input' (looked for: loops, veiled, ifaces, maps, wideKeys, modest, calm, conditions, laid).
  DERIVED. THE GIVEN ROWS OF THIS SEAT. 5 by the template 'for every input the law returns true; each argument reads behind the call as it read before'; 0 by the template 'total and deterministic' (their statements: YtmdlhohhimdkaaaTotals.lean).
  GIVEN WITH THE SEED: the statements are not yours to turn. If you find one false, say at which input.
  Laid BY PROGRAM, IN A SANDBOX (cutbox-rows.mjs): the forced cells as the released guide's own fill.sh prints them over the translation f718c306acc1f2e8… (all of the seat's roots in one cut). By AI agents, Wed Nov 11 2026. No macro, syntax, notation, axiom, sorry.
-/
import Derived.Test.YtmdlhohhimdkaaaChecked
import GoSem.Claim
import GoSem.ClaimJoined
import GoSem.ClaimMapViews
import Derived.JoinedTies
import Derived.KernelRfl
namespace Go.Proofs.Ytmdlhohhimdkaaa
/- THE CELL 'sum', in the pinned program and in every row, IS THE sha256 OF THE DUMP (.gsa) THAT YtmdlhohhimdkaaaProg.lean LOADS. Nothing in Lean hashes anything: it is a label: what it is worth is what the hold of that sum in a sandbox is worth. -/
noncomputable def Try.pinned : Pinned := { name := "ytmdlhohhimdkaaa", sum := "f718c306acc1f2e88c2409971263a1ff67b92cc926b2b70b029ed6c9d8ac9ded", checked := Try.checked }
namespace Rows
def none {H : Type} : Left H := { results := [], args := [] }

/-- 'bastionlaw25.AuditHolders': WHATEVER THE INPUT: true; the input reads as it did. -/
def auditHoldersSpec : ChangeSpec := { name := "auditHolders", fn := fun _ => fun
  | [d1, d2] => { results := [.lit (.bool true)], args := [d1, d2] }
  | _ => none }
def auditHoldersRow : OpenClaim := { program := "ytmdlhohhimdkaaa", sum := "f718c306acc1f2e88c2409971263a1ff67b92cc926b2b70b029ed6c9d8ac9ded", func := "bastion/bastionlaw25.AuditHolders", spec := "auditHolders", inPlace := ["slices.overlaps[bastion/api.User]", "internal/reflectlite.TypeOf"], unfollowed := true, recurses := true, apart := false }
def AuditHoldersSaid : Prop := auditHoldersRow.holds Try.pinned (OpenSpec.ofChange auditHoldersSpec)

/-- ITS FALSE NEIGHBOUR: 'it returns false'. Refute it at one input. -/
def auditHoldersWrong : ChangeSpec := { name := "auditHolders", fn := fun _ => fun
  | [d1, d2] => { results := [.lit (.bool false)], args := [d1, d2] }
  | _ => none }
def AuditHoldersWrongFalsely : Prop := auditHoldersRow.holds Try.pinned (OpenSpec.ofChange auditHoldersWrong)

/-- 'bastionlaw25.AuditMore': WHATEVER THE INPUT: true; the input reads as it did. -/
def auditMoreSpec : ChangeSpec := { name := "auditMore", fn := fun _ => fun
  | [d1, d2, d3] => { results := [.lit (.bool true)], args := [d1, d2, d3] }
  | _ => none }
def auditMoreRow : OpenClaim := { program := "ytmdlhohhimdkaaa", sum := "f718c306acc1f2e88c2409971263a1ff67b92cc926b2b70b029ed6c9d8ac9ded", func := "bastion/bastionlaw25.AuditMore", spec := "auditMore", inPlace := ["slices.overlaps[bastion/api.User]", "internal/reflectlite.TypeOf"], unfollowed := true, recurses := true, apart := false }
def AuditMoreSaid : Prop := auditMoreRow.holds Try.pinned (OpenSpec.ofChange auditMoreSpec)

/-- ITS FALSE NEIGHBOUR: 'it returns false'. Refute it at one input. -/
def auditMoreWrong : ChangeSpec := { name := "auditMore", fn := fun _ => fun
  | [d1, d2, d3] => { results := [.lit (.bool false)], args := [d1, d2, d3] }
  | _ => none }
def AuditMoreWrongFalsely : Prop := auditMoreRow.holds Try.pinned (OpenSpec.ofChange auditMoreWrong)

/-- 'bastionlaw25.AuditParts': WHATEVER THE INPUT: true; the input reads as it did. -/
def auditPartsSpec : ChangeSpec := { name := "auditParts", fn := fun _ => fun
  | [d1, d2] => { results := [.lit (.bool true)], args := [d1, d2] }
  | _ => none }
def auditPartsRow : OpenClaim := { program := "ytmdlhohhimdkaaa", sum := "f718c306acc1f2e88c2409971263a1ff67b92cc926b2b70b029ed6c9d8ac9ded", func := "bastion/bastionlaw25.AuditParts", spec := "auditParts", inPlace := ["slices.overlaps[bastion/api.User]", "internal/reflectlite.TypeOf"], unfollowed := true, recurses := true, apart := false }
def AuditPartsSaid : Prop := auditPartsRow.holds Try.pinned (OpenSpec.ofChange auditPartsSpec)

/-- ITS FALSE NEIGHBOUR: 'it returns false'. Refute it at one input. -/
def auditPartsWrong : ChangeSpec := { name := "auditParts", fn := fun _ => fun
  | [d1, d2] => { results := [.lit (.bool false)], args := [d1, d2] }
  | _ => none }
def AuditPartsWrongFalsely : Prop := auditPartsRow.holds Try.pinned (OpenSpec.ofChange auditPartsWrong)

/-- 'bastionlaw25.AuditRows': WHATEVER THE INPUT: true; the input reads as it did. -/
def auditRowsSpec : ChangeSpec := { name := "auditRows", fn := fun _ => fun
  | [d1, d2] => { results := [.lit (.bool true)], args := [d1, d2] }
  | _ => none }
def auditRowsRow : OpenClaim := { program := "ytmdlhohhimdkaaa", sum := "f718c306acc1f2e88c2409971263a1ff67b92cc926b2b70b029ed6c9d8ac9ded", func := "bastion/bastionlaw25.AuditRows", spec := "auditRows", inPlace := ["slices.overlaps[bastion/api.User]", "internal/reflectlite.TypeOf"], unfollowed := true, recurses := true, apart := false }
def AuditRowsSaid : Prop := auditRowsRow.holds Try.pinned (OpenSpec.ofChange auditRowsSpec)

/-- ITS FALSE NEIGHBOUR: 'it returns false'. Refute it at one input. -/
def auditRowsWrong : ChangeSpec := { name := "auditRows", fn := fun _ => fun
  | [d1, d2] => { results := [.lit (.bool false)], args := [d1, d2] }
  | _ => none }
def AuditRowsWrongFalsely : Prop := auditRowsRow.holds Try.pinned (OpenSpec.ofChange auditRowsWrong)

/-- 'bastionlaw25.AuditLocks': WHATEVER THE INPUT: true; the input reads as it did. -/
def auditLocksSpec : ChangeSpec := { name := "auditLocks", fn := fun _ => fun
  | [d1, d2] => { results := [.lit (.bool true)], args := [d1, d2] }
  | _ => none }
def auditLocksRow : OpenClaim := { program := "ytmdlhohhimdkaaa", sum := "f718c306acc1f2e88c2409971263a1ff67b92cc926b2b70b029ed6c9d8ac9ded", func := "bastion/bastionlaw25.AuditLocks", spec := "auditLocks", inPlace := ["slices.overlaps[bastion/api.User]", "internal/reflectlite.TypeOf"], unfollowed := true, recurses := true, apart := false }
def AuditLocksSaid : Prop := auditLocksRow.holds Try.pinned (OpenSpec.ofChange auditLocksSpec)

/-- ITS FALSE NEIGHBOUR: 'it returns false'. Refute it at one input. -/
def auditLocksWrong : ChangeSpec := { name := "auditLocks", fn := fun _ => fun
  | [d1, d2] => { results := [.lit (.bool false)], args := [d1, d2] }
  | _ => none }
def AuditLocksWrongFalsely : Prop := auditLocksRow.holds Try.pinned (OpenSpec.ofChange auditLocksWrong)

/- THE SECOND FORM. 'bulk': how many values and letters a reading holds, each counted each time it is reached (what is shared counts as often as it is met; a slice's spare places count too). A statement '..UptoSaid' is the law's where the arguments, and the package variables that the reading takes, are together of bulk at most 1048576: NARROWER than '..Said'. Prove '..Said' where nothing that the law and all that it calls make is longer than what came in: it says more and counts as full. Else prove '..UptoSaid'. A law counts once. -/
mutual
def uptoBulk {H : Type} : DataW H → Nat
  | .lit (.string bytes) => bytes.length + 1
  | .lit _ => 1
  | .nil => 1
  | .ptr d => uptoBulk d + 1
  | .slice elems spare => uptoBulkAll elems + uptoBulkAll spare + 1
  | .agg parts => uptoBulkAll parts + 1
  | .iface _ d => uptoBulk d + 1
  | .map entries => uptoBulkEntries entries + 1
  | .held _ => 1
def uptoBulkAll {H : Type} : List (DataW H) → Nat
  | [] => 0
  | d :: r => uptoBulk d + uptoBulkAll r
def uptoBulkEntries {H : Type} : List (Lit × DataW H) → Nat
  | [] => 0
  | x :: r => uptoBulkEntry x + uptoBulkEntries r
def uptoBulkEntry {H : Type} : Lit × DataW H → Nat
  | (.string bytes, d) => bytes.length + uptoBulk d + 1
  | (_, d) => uptoBulk d + 1
 end
def uptoSmall : (H : Type) → List (DataW H) → Bool := fun _ ds => decide (uptoBulkAll ds ≤ 1048576)
def OpenSpec.upto (s : _root_.Go.ChangeSpec) : _root_.Go.OpenSpec := { _root_.Go.OpenSpec.ofChange s with cond := some uptoSmall }

/-- 'bastionlaw25.AuditHolders', WHERE WHAT IT READS IS OF BULK AT MOST 1048576: true; the input reads as it did. -/
def auditHoldersUptoRow : OpenClaim := { program := "ytmdlhohhimdkaaa", sum := "f718c306acc1f2e88c2409971263a1ff67b92cc926b2b70b029ed6c9d8ac9ded", func := "bastion/bastionlaw25.AuditHolders", spec := "auditHolders", inPlace := ["slices.overlaps[bastion/api.User]", "internal/reflectlite.TypeOf"], unfollowed := true, recurses := true, apart := false, narrowed := true }
def AuditHoldersUptoSaid : Prop := auditHoldersUptoRow.holds Try.pinned (OpenSpec.upto auditHoldersSpec)

/-- 'bastionlaw25.AuditMore', WHERE WHAT IT READS IS OF BULK AT MOST 1048576: true; the input reads as it did. -/
def auditMoreUptoRow : OpenClaim := { program := "ytmdlhohhimdkaaa", sum := "f718c306acc1f2e88c2409971263a1ff67b92cc926b2b70b029ed6c9d8ac9ded", func := "bastion/bastionlaw25.AuditMore", spec := "auditMore", inPlace := ["slices.overlaps[bastion/api.User]", "internal/reflectlite.TypeOf"], unfollowed := true, recurses := true, apart := false, narrowed := true }
def AuditMoreUptoSaid : Prop := auditMoreUptoRow.holds Try.pinned (OpenSpec.upto auditMoreSpec)

/-- 'bastionlaw25.AuditParts', WHERE WHAT IT READS IS OF BULK AT MOST 1048576: true; the input reads as it did. -/
def auditPartsUptoRow : OpenClaim := { program := "ytmdlhohhimdkaaa", sum := "f718c306acc1f2e88c2409971263a1ff67b92cc926b2b70b029ed6c9d8ac9ded", func := "bastion/bastionlaw25.AuditParts", spec := "auditParts", inPlace := ["slices.overlaps[bastion/api.User]", "internal/reflectlite.TypeOf"], unfollowed := true, recurses := true, apart := false, narrowed := true }
def AuditPartsUptoSaid : Prop := auditPartsUptoRow.holds Try.pinned (OpenSpec.upto auditPartsSpec)

/-- 'bastionlaw25.AuditRows', WHERE WHAT IT READS IS OF BULK AT MOST 1048576: true; the input reads as it did. -/
def auditRowsUptoRow : OpenClaim := { program := "ytmdlhohhimdkaaa", sum := "f718c306acc1f2e88c2409971263a1ff67b92cc926b2b70b029ed6c9d8ac9ded", func := "bastion/bastionlaw25.AuditRows", spec := "auditRows", inPlace := ["slices.overlaps[bastion/api.User]", "internal/reflectlite.TypeOf"], unfollowed := true, recurses := true, apart := false, narrowed := true }
def AuditRowsUptoSaid : Prop := auditRowsUptoRow.holds Try.pinned (OpenSpec.upto auditRowsSpec)

/-- 'bastionlaw25.AuditLocks', WHERE WHAT IT READS IS OF BULK AT MOST 1048576: true; the input reads as it did. -/
def auditLocksUptoRow : OpenClaim := { program := "ytmdlhohhimdkaaa", sum := "f718c306acc1f2e88c2409971263a1ff67b92cc926b2b70b029ed6c9d8ac9ded", func := "bastion/bastionlaw25.AuditLocks", spec := "auditLocks", inPlace := ["slices.overlaps[bastion/api.User]", "internal/reflectlite.TypeOf"], unfollowed := true, recurses := true, apart := false, narrowed := true }
def AuditLocksUptoSaid : Prop := auditLocksUptoRow.holds Try.pinned (OpenSpec.upto auditLocksSpec)

end Rows
end Go.Proofs.Ytmdlhohhimdkaaa
