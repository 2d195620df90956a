/-
  No cell of these rows narrows 'for every input' (looked for: loops, veiled, ifaces, maps, wideKeys, modest, calm, conditions, laid).
  DERIVED. THE GIVEN ROWS OF THIS SEAT. 6 by the template 'for every input the law returns true; each argument reads behind the call as it read before'; 0 by the template 'total and deterministic' (their statements: YtjnnihaofffkfaaTotals.lean).
  GIVEN WITH THE SEED: the statements are not yours to turn. If you find one false, say at which input.
  Laid BY PROGRAM, IN A SANDBOX (cutbox-rows.mjs): the forced cells as the released guide's own fill.sh prints them over the translation 4bdd3605f422150b… (all of the seat's roots in one cut). By AI agents, Wed Nov 11 2026. No macro, syntax, notation, axiom, sorry.
-/
import Derived.Test.YtjnnihaofffkfaaChecked
import GoSem.Claim
import GoSem.ClaimJoined
import GoSem.ClaimMapViews
import Derived.JoinedTies
import Derived.KernelRfl
namespace Go.Proofs.Ytjnnihaofffkfaa
/- THE CELL 'sum', in the pinned program and in every row, IS THE sha256 OF THE DUMP (.gsa) THAT YtjnnihaofffkfaaProg.lean LOADS. Nothing in Lean hashes anything: it is a label: what it is worth is what the hold of that sum in a sandbox is worth. -/
noncomputable def Try.pinned : Pinned := { name := "ytjnnihaofffkfaa", sum := "4bdd3605f422150b1658f8f164bba313d933503b8ec0a536939b74a6972e8669", checked := Try.checked }
namespace Rows
def none {H : Type} : Left H := { results := [], args := [] }

/-- 'bastionlaw11.JournalOld': WHATEVER THE INPUT: true; the input reads as it did. -/
def journalOldSpec : ChangeSpec := { name := "journalOld", fn := fun _ => fun
  | [d1, d2, d3] => { results := [.lit (.bool true)], args := [d1, d2, d3] }
  | _ => none }
def journalOldRow : OpenClaim := { program := "ytjnnihaofffkfaa", sum := "4bdd3605f422150b1658f8f164bba313d933503b8ec0a536939b74a6972e8669", func := "bastion/bastionlaw11.JournalOld", spec := "journalOld", inPlace := ["internal/reflectlite.TypeOf"], unfollowed := true, recurses := true, apart := false }
def JournalOldSaid : Prop := journalOldRow.holds Try.pinned (OpenSpec.ofChange journalOldSpec)

/-- ITS FALSE NEIGHBOUR: 'it returns false'. Refute it at one input. -/
def journalOldWrong : ChangeSpec := { name := "journalOld", fn := fun _ => fun
  | [d1, d2, d3] => { results := [.lit (.bool false)], args := [d1, d2, d3] }
  | _ => none }
def JournalOldWrongFalsely : Prop := journalOldRow.holds Try.pinned (OpenSpec.ofChange journalOldWrong)

/-- 'bastionlaw11.JournalKeeps': WHATEVER THE INPUT: true; the input reads as it did. -/
def journalKeepsSpec : ChangeSpec := { name := "journalKeeps", fn := fun _ => fun
  | [d1, d2] => { results := [.lit (.bool true)], args := [d1, d2] }
  | _ => none }
def journalKeepsRow : OpenClaim := { program := "ytjnnihaofffkfaa", sum := "4bdd3605f422150b1658f8f164bba313d933503b8ec0a536939b74a6972e8669", func := "bastion/bastionlaw11.JournalKeeps", spec := "journalKeeps", inPlace := ["internal/reflectlite.TypeOf"], unfollowed := true, recurses := true, apart := false }
def JournalKeepsSaid : Prop := journalKeepsRow.holds Try.pinned (OpenSpec.ofChange journalKeepsSpec)

/-- ITS FALSE NEIGHBOUR: 'it returns false'. Refute it at one input. -/
def journalKeepsWrong : ChangeSpec := { name := "journalKeeps", fn := fun _ => fun
  | [d1, d2] => { results := [.lit (.bool false)], args := [d1, d2] }
  | _ => none }
def JournalKeepsWrongFalsely : Prop := journalKeepsRow.holds Try.pinned (OpenSpec.ofChange journalKeepsWrong)

/-- 'bastionlaw11.JournalRoom': WHATEVER THE INPUT: true; the input reads as it did. -/
def journalRoomSpec : ChangeSpec := { name := "journalRoom", fn := fun _ => fun
  | [d1, d2] => { results := [.lit (.bool true)], args := [d1, d2] }
  | _ => none }
def journalRoomRow : OpenClaim := { program := "ytjnnihaofffkfaa", sum := "4bdd3605f422150b1658f8f164bba313d933503b8ec0a536939b74a6972e8669", func := "bastion/bastionlaw11.JournalRoom", spec := "journalRoom", inPlace := ["internal/reflectlite.TypeOf"], unfollowed := true, recurses := true, apart := false }
def JournalRoomSaid : Prop := journalRoomRow.holds Try.pinned (OpenSpec.ofChange journalRoomSpec)

/-- ITS FALSE NEIGHBOUR: 'it returns false'. Refute it at one input. -/
def journalRoomWrong : ChangeSpec := { name := "journalRoom", fn := fun _ => fun
  | [d1, d2] => { results := [.lit (.bool false)], args := [d1, d2] }
  | _ => none }
def JournalRoomWrongFalsely : Prop := journalRoomRow.holds Try.pinned (OpenSpec.ofChange journalRoomWrong)

/-- 'bastionlaw11.JournalSwap': WHATEVER THE INPUT: true; the input reads as it did. -/
def journalSwapSpec : ChangeSpec := { name := "journalSwap", fn := fun _ => fun
  | [d1, d2, d3] => { results := [.lit (.bool true)], args := [d1, d2, d3] }
  | _ => none }
def journalSwapRow : OpenClaim := { program := "ytjnnihaofffkfaa", sum := "4bdd3605f422150b1658f8f164bba313d933503b8ec0a536939b74a6972e8669", func := "bastion/bastionlaw11.JournalSwap", spec := "journalSwap", inPlace := ["internal/reflectlite.TypeOf"], unfollowed := true, recurses := true, apart := false }
def JournalSwapSaid : Prop := journalSwapRow.holds Try.pinned (OpenSpec.ofChange journalSwapSpec)

/-- ITS FALSE NEIGHBOUR: 'it returns false'. Refute it at one input. -/
def journalSwapWrong : ChangeSpec := { name := "journalSwap", fn := fun _ => fun
  | [d1, d2, d3] => { results := [.lit (.bool false)], args := [d1, d2, d3] }
  | _ => none }
def JournalSwapWrongFalsely : Prop := journalSwapRow.holds Try.pinned (OpenSpec.ofChange journalSwapWrong)

/-- 'bastionlaw11.JournalForms': WHATEVER THE INPUT: true; the input reads as it did. -/
def journalFormsSpec : ChangeSpec := { name := "journalForms", fn := fun _ => fun
  | [d1, d2] => { results := [.lit (.bool true)], args := [d1, d2] }
  | _ => none }
def journalFormsRow : OpenClaim := { program := "ytjnnihaofffkfaa", sum := "4bdd3605f422150b1658f8f164bba313d933503b8ec0a536939b74a6972e8669", func := "bastion/bastionlaw11.JournalForms", spec := "journalForms", inPlace := ["internal/reflectlite.TypeOf"], unfollowed := true, recurses := true, apart := false }
def JournalFormsSaid : Prop := journalFormsRow.holds Try.pinned (OpenSpec.ofChange journalFormsSpec)

/-- ITS FALSE NEIGHBOUR: 'it returns false'. Refute it at one input. -/
def journalFormsWrong : ChangeSpec := { name := "journalForms", fn := fun _ => fun
  | [d1, d2] => { results := [.lit (.bool false)], args := [d1, d2] }
  | _ => none }
def JournalFormsWrongFalsely : Prop := journalFormsRow.holds Try.pinned (OpenSpec.ofChange journalFormsWrong)

/-- 'bastionlaw11.JournalChain': WHATEVER THE INPUT: true; the input reads as it did. -/
def journalChainSpec : ChangeSpec := { name := "journalChain", fn := fun _ => fun
  | [d] => { results := [.lit (.bool true)], args := [d] }
  | _ => none }
def journalChainRow : OpenClaim := { program := "ytjnnihaofffkfaa", sum := "4bdd3605f422150b1658f8f164bba313d933503b8ec0a536939b74a6972e8669", func := "bastion/bastionlaw11.JournalChain", spec := "journalChain", inPlace := ["internal/reflectlite.TypeOf"], unfollowed := true, recurses := true, apart := false }
def JournalChainSaid : Prop := journalChainRow.holds Try.pinned (OpenSpec.ofChange journalChainSpec)

/-- ITS FALSE NEIGHBOUR: 'it returns false'. Refute it at one input. -/
def journalChainWrong : ChangeSpec := { name := "journalChain", fn := fun _ => fun
  | [d] => { results := [.lit (.bool false)], args := [d] }
  | _ => none }
def JournalChainWrongFalsely : Prop := journalChainRow.holds Try.pinned (OpenSpec.ofChange journalChainWrong)

/- THE SECOND FORM. 'bulk': how many values and letters a reading holds, each counted each time it is reached (what is shared counts as often as it is met; a slice's spare places count too). A statement '..UptoSaid' is the law's where the arguments, and the package variables that the reading takes, are together of bulk at most 1048576: NARROWER than '..Said'. Prove '..Said' where nothing that the law and all that it calls make is longer than what came in: it says more and counts as full. Else prove '..UptoSaid'. A law counts once. -/
mutual
def uptoBulk {H : Type} : DataW H → Nat
  | .lit (.string bytes) => bytes.length + 1
  | .lit _ => 1
  | .nil => 1
  | .ptr d => uptoBulk d + 1
  | .slice elems spare => uptoBulkAll elems + uptoBulkAll spare + 1
  | .agg parts => uptoBulkAll parts + 1
  | .iface _ d => uptoBulk d + 1
  | .map entries => uptoBulkEntries entries + 1
  | .held _ => 1
def uptoBulkAll {H : Type} : List (DataW H) → Nat
  | [] => 0
  | d :: r => uptoBulk d + uptoBulkAll r
def uptoBulkEntries {H : Type} : List (Lit × DataW H) → Nat
  | [] => 0
  | x :: r => uptoBulkEntry x + uptoBulkEntries r
def uptoBulkEntry {H : Type} : Lit × DataW H → Nat
  | (.string bytes, d) => bytes.length + uptoBulk d + 1
  | (_, d) => uptoBulk d + 1
 end
def uptoSmall : (H : Type) → List (DataW H) → Bool := fun _ ds => decide (uptoBulkAll ds ≤ 1048576)
def OpenSpec.upto (s : _root_.Go.ChangeSpec) : _root_.Go.OpenSpec := { _root_.Go.OpenSpec.ofChange s with cond := some uptoSmall }

/-- 'bastionlaw11.JournalOld', WHERE WHAT IT READS IS OF BULK AT MOST 1048576: true; the input reads as it did. -/
def journalOldUptoRow : OpenClaim := { program := "ytjnnihaofffkfaa", sum := "4bdd3605f422150b1658f8f164bba313d933503b8ec0a536939b74a6972e8669", func := "bastion/bastionlaw11.JournalOld", spec := "journalOld", inPlace := ["internal/reflectlite.TypeOf"], unfollowed := true, recurses := true, apart := false, narrowed := true }
def JournalOldUptoSaid : Prop := journalOldUptoRow.holds Try.pinned (OpenSpec.upto journalOldSpec)

/-- 'bastionlaw11.JournalKeeps', WHERE WHAT IT READS IS OF BULK AT MOST 1048576: true; the input reads as it did. -/
def journalKeepsUptoRow : OpenClaim := { program := "ytjnnihaofffkfaa", sum := "4bdd3605f422150b1658f8f164bba313d933503b8ec0a536939b74a6972e8669", func := "bastion/bastionlaw11.JournalKeeps", spec := "journalKeeps", inPlace := ["internal/reflectlite.TypeOf"], unfollowed := true, recurses := true, apart := false, narrowed := true }
def JournalKeepsUptoSaid : Prop := journalKeepsUptoRow.holds Try.pinned (OpenSpec.upto journalKeepsSpec)

/-- 'bastionlaw11.JournalRoom', WHERE WHAT IT READS IS OF BULK AT MOST 1048576: true; the input reads as it did. -/
def journalRoomUptoRow : OpenClaim := { program := "ytjnnihaofffkfaa", sum := "4bdd3605f422150b1658f8f164bba313d933503b8ec0a536939b74a6972e8669", func := "bastion/bastionlaw11.JournalRoom", spec := "journalRoom", inPlace := ["internal/reflectlite.TypeOf"], unfollowed := true, recurses := true, apart := false, narrowed := true }
def JournalRoomUptoSaid : Prop := journalRoomUptoRow.holds Try.pinned (OpenSpec.upto journalRoomSpec)

/-- 'bastionlaw11.JournalSwap', WHERE WHAT IT READS IS OF BULK AT MOST 1048576: true; the input reads as it did. -/
def journalSwapUptoRow : OpenClaim := { program := "ytjnnihaofffkfaa", sum := "4bdd3605f422150b1658f8f164bba313d933503b8ec0a536939b74a6972e8669", func := "bastion/bastionlaw11.JournalSwap", spec := "journalSwap", inPlace := ["internal/reflectlite.TypeOf"], unfollowed := true, recurses := true, apart := false, narrowed := true }
def JournalSwapUptoSaid : Prop := journalSwapUptoRow.holds Try.pinned (OpenSpec.upto journalSwapSpec)

/-- 'bastionlaw11.JournalForms', WHERE WHAT IT READS IS OF BULK AT MOST 1048576: true; the input reads as it did. -/
def journalFormsUptoRow : OpenClaim := { program := "ytjnnihaofffkfaa", sum := "4bdd3605f422150b1658f8f164bba313d933503b8ec0a536939b74a6972e8669", func := "bastion/bastionlaw11.JournalForms", spec := "journalForms", inPlace := ["internal/reflectlite.TypeOf"], unfollowed := true, recurses := true, apart := false, narrowed := true }
def JournalFormsUptoSaid : Prop := journalFormsUptoRow.holds Try.pinned (OpenSpec.upto journalFormsSpec)

/-- 'bastionlaw11.JournalChain', WHERE WHAT IT READS IS OF BULK AT MOST 1048576: true; the input reads as it did. -/
def journalChainUptoRow : OpenClaim := { program := "ytjnnihaofffkfaa", sum := "4bdd3605f422150b1658f8f164bba313d933503b8ec0a536939b74a6972e8669", func := "bastion/bastionlaw11.JournalChain", spec := "journalChain", inPlace := ["internal/reflectlite.TypeOf"], unfollowed := true, recurses := true, apart := false, narrowed := true }
def JournalChainUptoSaid : Prop := journalChainUptoRow.holds Try.pinned (OpenSpec.upto journalChainSpec)

end Rows
end Go.Proofs.Ytjnnihaofffkfaa
