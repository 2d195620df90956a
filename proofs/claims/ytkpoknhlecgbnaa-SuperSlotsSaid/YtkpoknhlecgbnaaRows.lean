/-
  No cell of these rows narrows 'for every input' (looked for: loops, veiled, ifaces, maps, wideKeys, modest, calm, conditions, laid).
  DERIVED. THE GIVEN ROWS OF THIS SEAT. 5 by the template 'for every input the law returns true; each argument reads behind the call as it read before'; 0 by the template 'total and deterministic' (their statements: YtkpoknhlecgbnaaTotals.lean).
  GIVEN WITH THE SEED: the statements are not yours to turn. If you find one false, say at which input.
  Laid BY PROGRAM, IN A SANDBOX (cutbox-rows.mjs): the forced cells as the released guide's own fill.sh prints them over the translation e526567d5aa369f7… (all of the seat's roots in one cut). By AI agents, Wed Nov 11 2026. No macro, syntax, notation, axiom, sorry.
-/
import Derived.Test.YtkpoknhlecgbnaaChecked
import GoSem.Claim
import GoSem.ClaimJoined
import GoSem.ClaimMapViews
import Derived.JoinedTies
import Derived.KernelRfl
namespace Go.Proofs.Ytkpoknhlecgbnaa
/- THE CELL 'sum', in the pinned program and in every row, IS THE sha256 OF THE DUMP (.gsa) THAT YtkpoknhlecgbnaaProg.lean LOADS. Nothing in Lean hashes anything: it is a label: what it is worth is what the hold of that sum in a sandbox is worth. -/
noncomputable def Try.pinned : Pinned := { name := "ytkpoknhlecgbnaa", sum := "e526567d5aa369f717d3904537896a638ab49e9128ead543071e5c49367d7b88", checked := Try.checked }
namespace Rows
def none {H : Type} : Left H := { results := [], args := [] }

/-- 'bastionlaw12.Totps': WHATEVER THE INPUT: true; the input reads as it did. -/
def totpsSpec : ChangeSpec := { name := "totps", fn := fun _ => fun
  | [d1, d2, d3, d4, d5, d6] => { results := [.lit (.bool true)], args := [d1, d2, d3, d4, d5, d6] }
  | _ => none }
def totpsRow : OpenClaim := { program := "ytkpoknhlecgbnaa", sum := "e526567d5aa369f717d3904537896a638ab49e9128ead543071e5c49367d7b88", func := "bastion/bastionlaw12.Totps", spec := "totps", apart := false }
def TotpsSaid : Prop := totpsRow.holds Try.pinned (OpenSpec.ofChange totpsSpec)

/-- ITS FALSE NEIGHBOUR: 'it returns false'. Refute it at one input. -/
def totpsWrong : ChangeSpec := { name := "totps", fn := fun _ => fun
  | [d1, d2, d3, d4, d5, d6] => { results := [.lit (.bool false)], args := [d1, d2, d3, d4, d5, d6] }
  | _ => none }
def TotpsWrongFalsely : Prop := totpsRow.holds Try.pinned (OpenSpec.ofChange totpsWrong)

/-- 'bastionlaw10.SuperSlots': WHATEVER THE INPUT: true; the input reads as it did. -/
def superSlotsSpec : ChangeSpec := { name := "superSlots", fn := fun _ => fun
  | [d1, d2, d3, d4] => { results := [.lit (.bool true)], args := [d1, d2, d3, d4] }
  | _ => none }
def superSlotsRow : OpenClaim := { program := "ytkpoknhlecgbnaa", sum := "e526567d5aa369f717d3904537896a638ab49e9128ead543071e5c49367d7b88", func := "bastion/bastionlaw10.SuperSlots", spec := "superSlots", apart := false }
def SuperSlotsSaid : Prop := superSlotsRow.holds Try.pinned (OpenSpec.ofChange superSlotsSpec)

/-- ITS FALSE NEIGHBOUR: 'it returns false'. Refute it at one input. -/
def superSlotsWrong : ChangeSpec := { name := "superSlots", fn := fun _ => fun
  | [d1, d2, d3, d4] => { results := [.lit (.bool false)], args := [d1, d2, d3, d4] }
  | _ => none }
def SuperSlotsWrongFalsely : Prop := superSlotsRow.holds Try.pinned (OpenSpec.ofChange superSlotsWrong)

/-- 'bastionlaw10.SuperRows': WHATEVER THE INPUT: true; the input reads as it did. -/
def superRowsSpec : ChangeSpec := { name := "superRows", fn := fun _ => fun
  | [d1, d2] => { results := [.lit (.bool true)], args := [d1, d2] }
  | _ => none }
def superRowsRow : OpenClaim := { program := "ytkpoknhlecgbnaa", sum := "e526567d5aa369f717d3904537896a638ab49e9128ead543071e5c49367d7b88", func := "bastion/bastionlaw10.SuperRows", spec := "superRows", apart := false }
def SuperRowsSaid : Prop := superRowsRow.holds Try.pinned (OpenSpec.ofChange superRowsSpec)

/-- ITS FALSE NEIGHBOUR: 'it returns false'. Refute it at one input. -/
def superRowsWrong : ChangeSpec := { name := "superRows", fn := fun _ => fun
  | [d1, d2] => { results := [.lit (.bool false)], args := [d1, d2] }
  | _ => none }
def SuperRowsWrongFalsely : Prop := superRowsRow.holds Try.pinned (OpenSpec.ofChange superRowsWrong)

/-- 'bastionlaw10.SuperForms': WHATEVER THE INPUT: true; the input reads as it did. -/
def superFormsSpec : ChangeSpec := { name := "superForms", fn := fun _ => fun
  | [d1, d2] => { results := [.lit (.bool true)], args := [d1, d2] }
  | _ => none }
def superFormsRow : OpenClaim := { program := "ytkpoknhlecgbnaa", sum := "e526567d5aa369f717d3904537896a638ab49e9128ead543071e5c49367d7b88", func := "bastion/bastionlaw10.SuperForms", spec := "superForms", apart := false }
def SuperFormsSaid : Prop := superFormsRow.holds Try.pinned (OpenSpec.ofChange superFormsSpec)

/-- ITS FALSE NEIGHBOUR: 'it returns false'. Refute it at one input. -/
def superFormsWrong : ChangeSpec := { name := "superForms", fn := fun _ => fun
  | [d1, d2] => { results := [.lit (.bool false)], args := [d1, d2] }
  | _ => none }
def SuperFormsWrongFalsely : Prop := superFormsRow.holds Try.pinned (OpenSpec.ofChange superFormsWrong)

/-- 'bastionlaw10.Supers': WHATEVER THE INPUT: true; the input reads as it did. -/
def supersSpec : ChangeSpec := { name := "supers", fn := fun _ => fun
  | [d1, d2, d3, d4] => { results := [.lit (.bool true)], args := [d1, d2, d3, d4] }
  | _ => none }
def supersRow : OpenClaim := { program := "ytkpoknhlecgbnaa", sum := "e526567d5aa369f717d3904537896a638ab49e9128ead543071e5c49367d7b88", func := "bastion/bastionlaw10.Supers", spec := "supers", apart := false }
def SupersSaid : Prop := supersRow.holds Try.pinned (OpenSpec.ofChange supersSpec)

/-- ITS FALSE NEIGHBOUR: 'it returns false'. Refute it at one input. -/
def supersWrong : ChangeSpec := { name := "supers", fn := fun _ => fun
  | [d1, d2, d3, d4] => { results := [.lit (.bool false)], args := [d1, d2, d3, d4] }
  | _ => none }
def SupersWrongFalsely : Prop := supersRow.holds Try.pinned (OpenSpec.ofChange supersWrong)

/- THE SECOND FORM. 'bulk': how many values and letters a reading holds, each counted each time it is reached (what is shared counts as often as it is met; a slice's spare places count too). A statement '..UptoSaid' is the law's where the arguments, and the package variables that the reading takes, are together of bulk at most 1048576: NARROWER than '..Said'. Prove '..Said' where nothing that the law and all that it calls make is longer than what came in: it says more and counts as full. Else prove '..UptoSaid'. A law counts once. -/
mutual
def uptoBulk {H : Type} : DataW H → Nat
  | .lit (.string bytes) => bytes.length + 1
  | .lit _ => 1
  | .nil => 1
  | .ptr d => uptoBulk d + 1
  | .slice elems spare => uptoBulkAll elems + uptoBulkAll spare + 1
  | .agg parts => uptoBulkAll parts + 1
  | .iface _ d => uptoBulk d + 1
  | .map entries => uptoBulkEntries entries + 1
  | .held _ => 1
def uptoBulkAll {H : Type} : List (DataW H) → Nat
  | [] => 0
  | d :: r => uptoBulk d + uptoBulkAll r
def uptoBulkEntries {H : Type} : List (Lit × DataW H) → Nat
  | [] => 0
  | x :: r => uptoBulkEntry x + uptoBulkEntries r
def uptoBulkEntry {H : Type} : Lit × DataW H → Nat
  | (.string bytes, d) => bytes.length + uptoBulk d + 1
  | (_, d) => uptoBulk d + 1
 end
def uptoSmall : (H : Type) → List (DataW H) → Bool := fun _ ds => decide (uptoBulkAll ds ≤ 1048576)
def OpenSpec.upto (s : _root_.Go.ChangeSpec) : _root_.Go.OpenSpec := { _root_.Go.OpenSpec.ofChange s with cond := some uptoSmall }

/-- 'bastionlaw12.Totps', WHERE WHAT IT READS IS OF BULK AT MOST 1048576: true; the input reads as it did. -/
def totpsUptoRow : OpenClaim := { program := "ytkpoknhlecgbnaa", sum := "e526567d5aa369f717d3904537896a638ab49e9128ead543071e5c49367d7b88", func := "bastion/bastionlaw12.Totps", spec := "totps", apart := false, narrowed := true }
def TotpsUptoSaid : Prop := totpsUptoRow.holds Try.pinned (OpenSpec.upto totpsSpec)

/-- 'bastionlaw10.SuperSlots', WHERE WHAT IT READS IS OF BULK AT MOST 1048576: true; the input reads as it did. -/
def superSlotsUptoRow : OpenClaim := { program := "ytkpoknhlecgbnaa", sum := "e526567d5aa369f717d3904537896a638ab49e9128ead543071e5c49367d7b88", func := "bastion/bastionlaw10.SuperSlots", spec := "superSlots", apart := false, narrowed := true }
def SuperSlotsUptoSaid : Prop := superSlotsUptoRow.holds Try.pinned (OpenSpec.upto superSlotsSpec)

/-- 'bastionlaw10.SuperRows', WHERE WHAT IT READS IS OF BULK AT MOST 1048576: true; the input reads as it did. -/
def superRowsUptoRow : OpenClaim := { program := "ytkpoknhlecgbnaa", sum := "e526567d5aa369f717d3904537896a638ab49e9128ead543071e5c49367d7b88", func := "bastion/bastionlaw10.SuperRows", spec := "superRows", apart := false, narrowed := true }
def SuperRowsUptoSaid : Prop := superRowsUptoRow.holds Try.pinned (OpenSpec.upto superRowsSpec)

/-- 'bastionlaw10.SuperForms', WHERE WHAT IT READS IS OF BULK AT MOST 1048576: true; the input reads as it did. -/
def superFormsUptoRow : OpenClaim := { program := "ytkpoknhlecgbnaa", sum := "e526567d5aa369f717d3904537896a638ab49e9128ead543071e5c49367d7b88", func := "bastion/bastionlaw10.SuperForms", spec := "superForms", apart := false, narrowed := true }
def SuperFormsUptoSaid : Prop := superFormsUptoRow.holds Try.pinned (OpenSpec.upto superFormsSpec)

/-- 'bastionlaw10.Supers', WHERE WHAT IT READS IS OF BULK AT MOST 1048576: true; the input reads as it did. -/
def supersUptoRow : OpenClaim := { program := "ytkpoknhlecgbnaa", sum := "e526567d5aa369f717d3904537896a638ab49e9128ead543071e5c49367d7b88", func := "bastion/bastionlaw10.Supers", spec := "supers", apart := false, narrowed := true }
def SupersUptoSaid : Prop := supersUptoRow.holds Try.pinned (OpenSpec.upto supersSpec)

end Rows
end Go.Proofs.Ytkpoknhlecgbnaa
