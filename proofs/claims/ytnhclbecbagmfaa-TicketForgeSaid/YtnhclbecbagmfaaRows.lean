/-
  No cell of these rows narrows 'for every input' (looked for: loops, veiled, ifaces, maps, wideKeys, modest, calm, conditions, laid).
  DERIVED. THE GIVEN ROWS OF THIS SEAT. 5 by the template 'for every input the law returns true; each argument reads behind the call as it read before'; 0 by the template 'total and deterministic' (their statements: YtnhclbecbagmfaaTotals.lean).
  GIVEN WITH THE SEED: the statements are not yours to turn. If you find one false, say at which input.
  Laid BY PROGRAM, IN A SANDBOX (cutbox-rows.mjs): the forced cells as the released guide's own fill.sh prints them over the translation a6ddad18365e1f6a… (all of the seat's roots in one cut). By AI agents, Wed Nov 11 2026. No macro, syntax, notation, axiom, sorry.
-/
import Derived.Test.YtnhclbecbagmfaaChecked
import GoSem.Claim
import GoSem.ClaimJoined
import GoSem.ClaimMapViews
import Derived.JoinedTies
import Derived.KernelRfl
namespace Go.Proofs.Ytnhclbecbagmfaa
/- THE CELL 'sum', in the pinned program and in every row, IS THE sha256 OF THE DUMP (.gsa) THAT YtnhclbecbagmfaaProg.lean LOADS. Nothing in Lean hashes anything: it is a label: what it is worth is what the hold of that sum in a sandbox is worth. -/
noncomputable def Try.pinned : Pinned := { name := "ytnhclbecbagmfaa", sum := "a6ddad18365e1f6a12fe01068b4e613a438d93591e145c4037413b2c30d8ccc1", checked := Try.checked }
namespace Rows
def none {H : Type} : Left H := { results := [], args := [] }

/-- 'bastionlaw15.TicketMany': WHATEVER THE INPUT: true; the input reads as it did. -/
def ticketManySpec : ChangeSpec := { name := "ticketMany", fn := fun _ => fun
  | [d1, d2, d3] => { results := [.lit (.bool true)], args := [d1, d2, d3] }
  | _ => none }
def ticketManyRow : OpenClaim := { program := "ytnhclbecbagmfaa", sum := "a6ddad18365e1f6a12fe01068b4e613a438d93591e145c4037413b2c30d8ccc1", func := "bastion/bastionlaw15.TicketMany", spec := "ticketMany", inPlace := ["internal/reflectlite.TypeOf"], unfollowed := true, recurses := true, apart := false }
def TicketManySaid : Prop := ticketManyRow.holds Try.pinned (OpenSpec.ofChange ticketManySpec)

/-- ITS FALSE NEIGHBOUR: 'it returns false'. Refute it at one input. -/
def ticketManyWrong : ChangeSpec := { name := "ticketMany", fn := fun _ => fun
  | [d1, d2, d3] => { results := [.lit (.bool false)], args := [d1, d2, d3] }
  | _ => none }
def TicketManyWrongFalsely : Prop := ticketManyRow.holds Try.pinned (OpenSpec.ofChange ticketManyWrong)

/-- 'bastionlaw15.TicketForge': WHATEVER THE INPUT: true; the input reads as it did. -/
def ticketForgeSpec : ChangeSpec := { name := "ticketForge", fn := fun _ => fun
  | [d1, d2, d3] => { results := [.lit (.bool true)], args := [d1, d2, d3] }
  | _ => none }
def ticketForgeRow : OpenClaim := { program := "ytnhclbecbagmfaa", sum := "a6ddad18365e1f6a12fe01068b4e613a438d93591e145c4037413b2c30d8ccc1", func := "bastion/bastionlaw15.TicketForge", spec := "ticketForge", inPlace := ["internal/reflectlite.TypeOf"], unfollowed := true, recurses := true, apart := false }
def TicketForgeSaid : Prop := ticketForgeRow.holds Try.pinned (OpenSpec.ofChange ticketForgeSpec)

/-- ITS FALSE NEIGHBOUR: 'it returns false'. Refute it at one input. -/
def ticketForgeWrong : ChangeSpec := { name := "ticketForge", fn := fun _ => fun
  | [d1, d2, d3] => { results := [.lit (.bool false)], args := [d1, d2, d3] }
  | _ => none }
def TicketForgeWrongFalsely : Prop := ticketForgeRow.holds Try.pinned (OpenSpec.ofChange ticketForgeWrong)

/-- 'bastionlaw15.TicketForms': WHATEVER THE INPUT: true; the input reads as it did. -/
def ticketFormsSpec : ChangeSpec := { name := "ticketForms", fn := fun _ => fun
  | [d1, d2] => { results := [.lit (.bool true)], args := [d1, d2] }
  | _ => none }
def ticketFormsRow : OpenClaim := { program := "ytnhclbecbagmfaa", sum := "a6ddad18365e1f6a12fe01068b4e613a438d93591e145c4037413b2c30d8ccc1", func := "bastion/bastionlaw15.TicketForms", spec := "ticketForms", inPlace := ["internal/reflectlite.TypeOf"], unfollowed := true, recurses := true, apart := false }
def TicketFormsSaid : Prop := ticketFormsRow.holds Try.pinned (OpenSpec.ofChange ticketFormsSpec)

/-- ITS FALSE NEIGHBOUR: 'it returns false'. Refute it at one input. -/
def ticketFormsWrong : ChangeSpec := { name := "ticketForms", fn := fun _ => fun
  | [d1, d2] => { results := [.lit (.bool false)], args := [d1, d2] }
  | _ => none }
def TicketFormsWrongFalsely : Prop := ticketFormsRow.holds Try.pinned (OpenSpec.ofChange ticketFormsWrong)

/-- 'bastionlaw15.TicketBack': WHATEVER THE INPUT: true; the input reads as it did. -/
def ticketBackSpec : ChangeSpec := { name := "ticketBack", fn := fun _ => fun
  | [d1, d2, d3, d4, d5] => { results := [.lit (.bool true)], args := [d1, d2, d3, d4, d5] }
  | _ => none }
def ticketBackRow : OpenClaim := { program := "ytnhclbecbagmfaa", sum := "a6ddad18365e1f6a12fe01068b4e613a438d93591e145c4037413b2c30d8ccc1", func := "bastion/bastionlaw15.TicketBack", spec := "ticketBack", inPlace := ["internal/reflectlite.TypeOf"], unfollowed := true, recurses := true, apart := false }
def TicketBackSaid : Prop := ticketBackRow.holds Try.pinned (OpenSpec.ofChange ticketBackSpec)

/-- ITS FALSE NEIGHBOUR: 'it returns false'. Refute it at one input. -/
def ticketBackWrong : ChangeSpec := { name := "ticketBack", fn := fun _ => fun
  | [d1, d2, d3, d4, d5] => { results := [.lit (.bool false)], args := [d1, d2, d3, d4, d5] }
  | _ => none }
def TicketBackWrongFalsely : Prop := ticketBackRow.holds Try.pinned (OpenSpec.ofChange ticketBackWrong)

/-- 'bastionlaw15.Tickets': WHATEVER THE INPUT: true; the input reads as it did. -/
def ticketsSpec : ChangeSpec := { name := "tickets", fn := fun _ => fun
  | [d1, d2, d3, d4, d5, d6, d7] => { results := [.lit (.bool true)], args := [d1, d2, d3, d4, d5, d6, d7] }
  | _ => none }
def ticketsRow : OpenClaim := { program := "ytnhclbecbagmfaa", sum := "a6ddad18365e1f6a12fe01068b4e613a438d93591e145c4037413b2c30d8ccc1", func := "bastion/bastionlaw15.Tickets", spec := "tickets", inPlace := ["internal/reflectlite.TypeOf"], unfollowed := true, recurses := true, apart := false }
def TicketsSaid : Prop := ticketsRow.holds Try.pinned (OpenSpec.ofChange ticketsSpec)

/-- ITS FALSE NEIGHBOUR: 'it returns false'. Refute it at one input. -/
def ticketsWrong : ChangeSpec := { name := "tickets", fn := fun _ => fun
  | [d1, d2, d3, d4, d5, d6, d7] => { results := [.lit (.bool false)], args := [d1, d2, d3, d4, d5, d6, d7] }
  | _ => none }
def TicketsWrongFalsely : Prop := ticketsRow.holds Try.pinned (OpenSpec.ofChange ticketsWrong)

/- THE SECOND FORM. 'bulk': how many values and letters a reading holds, each counted each time it is reached (what is shared counts as often as it is met; a slice's spare places count too). A statement '..UptoSaid' is the law's where the arguments, and the package variables that the reading takes, are together of bulk at most 1048576: NARROWER than '..Said'. Prove '..Said' where nothing that the law and all that it calls make is longer than what came in: it says more and counts as full. Else prove '..UptoSaid'. A law counts once. -/
mutual
def uptoBulk {H : Type} : DataW H → Nat
  | .lit (.string bytes) => bytes.length + 1
  | .lit _ => 1
  | .nil => 1
  | .ptr d => uptoBulk d + 1
  | .slice elems spare => uptoBulkAll elems + uptoBulkAll spare + 1
  | .agg parts => uptoBulkAll parts + 1
  | .iface _ d => uptoBulk d + 1
  | .map entries => uptoBulkEntries entries + 1
  | .held _ => 1
def uptoBulkAll {H : Type} : List (DataW H) → Nat
  | [] => 0
  | d :: r => uptoBulk d + uptoBulkAll r
def uptoBulkEntries {H : Type} : List (Lit × DataW H) → Nat
  | [] => 0
  | x :: r => uptoBulkEntry x + uptoBulkEntries r
def uptoBulkEntry {H : Type} : Lit × DataW H → Nat
  | (.string bytes, d) => bytes.length + uptoBulk d + 1
  | (_, d) => uptoBulk d + 1
 end
def uptoSmall : (H : Type) → List (DataW H) → Bool := fun _ ds => decide (uptoBulkAll ds ≤ 1048576)
def OpenSpec.upto (s : _root_.Go.ChangeSpec) : _root_.Go.OpenSpec := { _root_.Go.OpenSpec.ofChange s with cond := some uptoSmall }

/-- 'bastionlaw15.TicketMany', WHERE WHAT IT READS IS OF BULK AT MOST 1048576: true; the input reads as it did. -/
def ticketManyUptoRow : OpenClaim := { program := "ytnhclbecbagmfaa", sum := "a6ddad18365e1f6a12fe01068b4e613a438d93591e145c4037413b2c30d8ccc1", func := "bastion/bastionlaw15.TicketMany", spec := "ticketMany", inPlace := ["internal/reflectlite.TypeOf"], unfollowed := true, recurses := true, apart := false, narrowed := true }
def TicketManyUptoSaid : Prop := ticketManyUptoRow.holds Try.pinned (OpenSpec.upto ticketManySpec)

/-- 'bastionlaw15.TicketForge', WHERE WHAT IT READS IS OF BULK AT MOST 1048576: true; the input reads as it did. -/
def ticketForgeUptoRow : OpenClaim := { program := "ytnhclbecbagmfaa", sum := "a6ddad18365e1f6a12fe01068b4e613a438d93591e145c4037413b2c30d8ccc1", func := "bastion/bastionlaw15.TicketForge", spec := "ticketForge", inPlace := ["internal/reflectlite.TypeOf"], unfollowed := true, recurses := true, apart := false, narrowed := true }
def TicketForgeUptoSaid : Prop := ticketForgeUptoRow.holds Try.pinned (OpenSpec.upto ticketForgeSpec)

/-- 'bastionlaw15.TicketForms', WHERE WHAT IT READS IS OF BULK AT MOST 1048576: true; the input reads as it did. -/
def ticketFormsUptoRow : OpenClaim := { program := "ytnhclbecbagmfaa", sum := "a6ddad18365e1f6a12fe01068b4e613a438d93591e145c4037413b2c30d8ccc1", func := "bastion/bastionlaw15.TicketForms", spec := "ticketForms", inPlace := ["internal/reflectlite.TypeOf"], unfollowed := true, recurses := true, apart := false, narrowed := true }
def TicketFormsUptoSaid : Prop := ticketFormsUptoRow.holds Try.pinned (OpenSpec.upto ticketFormsSpec)

/-- 'bastionlaw15.TicketBack', WHERE WHAT IT READS IS OF BULK AT MOST 1048576: true; the input reads as it did. -/
def ticketBackUptoRow : OpenClaim := { program := "ytnhclbecbagmfaa", sum := "a6ddad18365e1f6a12fe01068b4e613a438d93591e145c4037413b2c30d8ccc1", func := "bastion/bastionlaw15.TicketBack", spec := "ticketBack", inPlace := ["internal/reflectlite.TypeOf"], unfollowed := true, recurses := true, apart := false, narrowed := true }
def TicketBackUptoSaid : Prop := ticketBackUptoRow.holds Try.pinned (OpenSpec.upto ticketBackSpec)

/-- 'bastionlaw15.Tickets', WHERE WHAT IT READS IS OF BULK AT MOST 1048576: true; the input reads as it did. -/
def ticketsUptoRow : OpenClaim := { program := "ytnhclbecbagmfaa", sum := "a6ddad18365e1f6a12fe01068b4e613a438d93591e145c4037413b2c30d8ccc1", func := "bastion/bastionlaw15.Tickets", spec := "tickets", inPlace := ["internal/reflectlite.TypeOf"], unfollowed := true, recurses := true, apart := false, narrowed := true }
def TicketsUptoSaid : Prop := ticketsUptoRow.holds Try.pinned (OpenSpec.upto ticketsSpec)

end Rows
end Go.Proofs.Ytnhclbecbagmfaa
