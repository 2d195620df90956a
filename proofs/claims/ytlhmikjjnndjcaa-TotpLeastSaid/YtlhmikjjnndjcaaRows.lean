/-
  No cell of these rows narrows 'for every input' (looked for: loops, veiled, ifaces, maps, wideKeys, modest, calm, conditions, laid).
  DERIVED. THE GIVEN ROWS OF THIS SEAT. 20 by the template 'for every input the law returns true; each argument reads behind the call as it read before'; 0 by the template 'total and deterministic' (their statements: YtlhmikjjnndjcaaTotals.lean).
  GIVEN WITH THE SEED: the statements are not yours to turn. If you find one false, say at which input.
  Laid BY PROGRAM, IN A SANDBOX (cutbox-rows.mjs): the forced cells as the released guide's own fill.sh prints them over the translation 8a90cf6033e15630… (all of the seat's roots in one cut). By AI agents, Wed Nov 11 2026. No macro, syntax, notation, axiom, sorry.
-/
import Derived.Test.YtlhmikjjnndjcaaChecked
import GoSem.Claim
import GoSem.ClaimJoined
import GoSem.ClaimMapViews
import Derived.JoinedTies
import Derived.KernelRfl
namespace Go.Proofs.Ytlhmikjjnndjcaa
/- THE CELL 'sum', in the pinned program and in every row, IS THE sha256 OF THE DUMP (.gsa) THAT YtlhmikjjnndjcaaProg.lean LOADS. Nothing in Lean hashes anything: it is a label: what it is worth is what the hold of that sum in a sandbox is worth. -/
noncomputable def Try.pinned : Pinned := { name := "ytlhmikjjnndjcaa", sum := "8a90cf6033e15630230d9b251ae8973f0d63b5fc95965d3f10882fc2414aea53", checked := Try.checked }
namespace Rows
def none {H : Type} : Left H := { results := [], args := [] }

/-- 'bastionlaw0.BastionNames': WHATEVER THE INPUT: true; the input reads as it did. -/
def bastionNamesSpec : ChangeSpec := { name := "bastionNames", fn := fun _ => fun
  | [] => { results := [.lit (.bool true)], args := [] }
  | _ => none }
def bastionNamesRow : OpenClaim := { program := "ytlhmikjjnndjcaa", sum := "8a90cf6033e15630230d9b251ae8973f0d63b5fc95965d3f10882fc2414aea53", func := "bastion/bastionlaw0.BastionNames", spec := "bastionNames", apart := false }
def BastionNamesSaid : Prop := bastionNamesRow.holds Try.pinned (OpenSpec.ofChange bastionNamesSpec)

/-- ITS FALSE NEIGHBOUR: 'it returns false'. Refute it at one input. -/
def bastionNamesWrong : ChangeSpec := { name := "bastionNames", fn := fun _ => fun
  | [] => { results := [.lit (.bool false)], args := [] }
  | _ => none }
def BastionNamesWrongFalsely : Prop := bastionNamesRow.holds Try.pinned (OpenSpec.ofChange bastionNamesWrong)

/-- 'bastionlaw17.Windows': WHATEVER THE INPUT: true; the input reads as it did. -/
def windowsSpec : ChangeSpec := { name := "windows", fn := fun _ => fun
  | [d1, d2] => { results := [.lit (.bool true)], args := [d1, d2] }
  | _ => none }
def windowsRow : OpenClaim := { program := "ytlhmikjjnndjcaa", sum := "8a90cf6033e15630230d9b251ae8973f0d63b5fc95965d3f10882fc2414aea53", func := "bastion/bastionlaw17.Windows", spec := "windows", apart := false }
def WindowsSaid : Prop := windowsRow.holds Try.pinned (OpenSpec.ofChange windowsSpec)

/-- ITS FALSE NEIGHBOUR: 'it returns false'. Refute it at one input. -/
def windowsWrong : ChangeSpec := { name := "windows", fn := fun _ => fun
  | [d1, d2] => { results := [.lit (.bool false)], args := [d1, d2] }
  | _ => none }
def WindowsWrongFalsely : Prop := windowsRow.holds Try.pinned (OpenSpec.ofChange windowsWrong)

/-- 'bastionlaw17.WindowOnce': WHATEVER THE INPUT: true; the input reads as it did. -/
def windowOnceSpec : ChangeSpec := { name := "windowOnce", fn := fun _ => fun
  | [d] => { results := [.lit (.bool true)], args := [d] }
  | _ => none }
def windowOnceRow : OpenClaim := { program := "ytlhmikjjnndjcaa", sum := "8a90cf6033e15630230d9b251ae8973f0d63b5fc95965d3f10882fc2414aea53", func := "bastion/bastionlaw17.WindowOnce", spec := "windowOnce", apart := false }
def WindowOnceSaid : Prop := windowOnceRow.holds Try.pinned (OpenSpec.ofChange windowOnceSpec)

/-- ITS FALSE NEIGHBOUR: 'it returns false'. Refute it at one input. -/
def windowOnceWrong : ChangeSpec := { name := "windowOnce", fn := fun _ => fun
  | [d] => { results := [.lit (.bool false)], args := [d] }
  | _ => none }
def WindowOnceWrongFalsely : Prop := windowOnceRow.holds Try.pinned (OpenSpec.ofChange windowOnceWrong)

/-- 'bastionlaw17.WindowForms': WHATEVER THE INPUT: true; the input reads as it did. -/
def windowFormsSpec : ChangeSpec := { name := "windowForms", fn := fun _ => fun
  | [d1, d2] => { results := [.lit (.bool true)], args := [d1, d2] }
  | _ => none }
def windowFormsRow : OpenClaim := { program := "ytlhmikjjnndjcaa", sum := "8a90cf6033e15630230d9b251ae8973f0d63b5fc95965d3f10882fc2414aea53", func := "bastion/bastionlaw17.WindowForms", spec := "windowForms", apart := false }
def WindowFormsSaid : Prop := windowFormsRow.holds Try.pinned (OpenSpec.ofChange windowFormsSpec)

/-- ITS FALSE NEIGHBOUR: 'it returns false'. Refute it at one input. -/
def windowFormsWrong : ChangeSpec := { name := "windowForms", fn := fun _ => fun
  | [d1, d2] => { results := [.lit (.bool false)], args := [d1, d2] }
  | _ => none }
def WindowFormsWrongFalsely : Prop := windowFormsRow.holds Try.pinned (OpenSpec.ofChange windowFormsWrong)

/-- 'bastionlaw17.WindowRows': WHATEVER THE INPUT: true; the input reads as it did. -/
def windowRowsSpec : ChangeSpec := { name := "windowRows", fn := fun _ => fun
  | [d1, d2] => { results := [.lit (.bool true)], args := [d1, d2] }
  | _ => none }
def windowRowsRow : OpenClaim := { program := "ytlhmikjjnndjcaa", sum := "8a90cf6033e15630230d9b251ae8973f0d63b5fc95965d3f10882fc2414aea53", func := "bastion/bastionlaw17.WindowRows", spec := "windowRows", apart := false }
def WindowRowsSaid : Prop := windowRowsRow.holds Try.pinned (OpenSpec.ofChange windowRowsSpec)

/-- ITS FALSE NEIGHBOUR: 'it returns false'. Refute it at one input. -/
def windowRowsWrong : ChangeSpec := { name := "windowRows", fn := fun _ => fun
  | [d1, d2] => { results := [.lit (.bool false)], args := [d1, d2] }
  | _ => none }
def WindowRowsWrongFalsely : Prop := windowRowsRow.holds Try.pinned (OpenSpec.ofChange windowRowsWrong)

/-- 'bastionlaw17.WindowBits': WHATEVER THE INPUT: true; the input reads as it did. -/
def windowBitsSpec : ChangeSpec := { name := "windowBits", fn := fun _ => fun
  | [d1, d2] => { results := [.lit (.bool true)], args := [d1, d2] }
  | _ => none }
def windowBitsRow : OpenClaim := { program := "ytlhmikjjnndjcaa", sum := "8a90cf6033e15630230d9b251ae8973f0d63b5fc95965d3f10882fc2414aea53", func := "bastion/bastionlaw17.WindowBits", spec := "windowBits", apart := false }
def WindowBitsSaid : Prop := windowBitsRow.holds Try.pinned (OpenSpec.ofChange windowBitsSpec)

/-- ITS FALSE NEIGHBOUR: 'it returns false'. Refute it at one input. -/
def windowBitsWrong : ChangeSpec := { name := "windowBits", fn := fun _ => fun
  | [d1, d2] => { results := [.lit (.bool false)], args := [d1, d2] }
  | _ => none }
def WindowBitsWrongFalsely : Prop := windowBitsRow.holds Try.pinned (OpenSpec.ofChange windowBitsWrong)

/-- 'bastionlaw14.RingForms': WHATEVER THE INPUT: true; the input reads as it did. -/
def ringFormsSpec : ChangeSpec := { name := "ringForms", fn := fun _ => fun
  | [d1, d2, d3, d4] => { results := [.lit (.bool true)], args := [d1, d2, d3, d4] }
  | _ => none }
def ringFormsRow : OpenClaim := { program := "ytlhmikjjnndjcaa", sum := "8a90cf6033e15630230d9b251ae8973f0d63b5fc95965d3f10882fc2414aea53", func := "bastion/bastionlaw14.RingForms", spec := "ringForms", apart := false }
def RingFormsSaid : Prop := ringFormsRow.holds Try.pinned (OpenSpec.ofChange ringFormsSpec)

/-- ITS FALSE NEIGHBOUR: 'it returns false'. Refute it at one input. -/
def ringFormsWrong : ChangeSpec := { name := "ringForms", fn := fun _ => fun
  | [d1, d2, d3, d4] => { results := [.lit (.bool false)], args := [d1, d2, d3, d4] }
  | _ => none }
def RingFormsWrongFalsely : Prop := ringFormsRow.holds Try.pinned (OpenSpec.ofChange ringFormsWrong)

/-- 'bastionlaw8.Disks': WHATEVER THE INPUT: true; the input reads as it did. -/
def disksSpec : ChangeSpec := { name := "disks", fn := fun _ => fun
  | [d1, d2] => { results := [.lit (.bool true)], args := [d1, d2] }
  | _ => none }
def disksRow : OpenClaim := { program := "ytlhmikjjnndjcaa", sum := "8a90cf6033e15630230d9b251ae8973f0d63b5fc95965d3f10882fc2414aea53", func := "bastion/bastionlaw8.Disks", spec := "disks", apart := false }
def DisksSaid : Prop := disksRow.holds Try.pinned (OpenSpec.ofChange disksSpec)

/-- ITS FALSE NEIGHBOUR: 'it returns false'. Refute it at one input. -/
def disksWrong : ChangeSpec := { name := "disks", fn := fun _ => fun
  | [d1, d2] => { results := [.lit (.bool false)], args := [d1, d2] }
  | _ => none }
def DisksWrongFalsely : Prop := disksRow.holds Try.pinned (OpenSpec.ofChange disksWrong)

/-- 'bastionlaw8.DiskForms': WHATEVER THE INPUT: true; the input reads as it did. -/
def diskFormsSpec : ChangeSpec := { name := "diskForms", fn := fun _ => fun
  | [d1, d2] => { results := [.lit (.bool true)], args := [d1, d2] }
  | _ => none }
def diskFormsRow : OpenClaim := { program := "ytlhmikjjnndjcaa", sum := "8a90cf6033e15630230d9b251ae8973f0d63b5fc95965d3f10882fc2414aea53", func := "bastion/bastionlaw8.DiskForms", spec := "diskForms", apart := false }
def DiskFormsSaid : Prop := diskFormsRow.holds Try.pinned (OpenSpec.ofChange diskFormsSpec)

/-- ITS FALSE NEIGHBOUR: 'it returns false'. Refute it at one input. -/
def diskFormsWrong : ChangeSpec := { name := "diskForms", fn := fun _ => fun
  | [d1, d2] => { results := [.lit (.bool false)], args := [d1, d2] }
  | _ => none }
def DiskFormsWrongFalsely : Prop := diskFormsRow.holds Try.pinned (OpenSpec.ofChange diskFormsWrong)

/-- 'bastionlaw8.DiskKeeps': WHATEVER THE INPUT: true; the input reads as it did. -/
def diskKeepsSpec : ChangeSpec := { name := "diskKeeps", fn := fun _ => fun
  | [d1, d2, d3, d4] => { results := [.lit (.bool true)], args := [d1, d2, d3, d4] }
  | _ => none }
def diskKeepsRow : OpenClaim := { program := "ytlhmikjjnndjcaa", sum := "8a90cf6033e15630230d9b251ae8973f0d63b5fc95965d3f10882fc2414aea53", func := "bastion/bastionlaw8.DiskKeeps", spec := "diskKeeps", apart := false }
def DiskKeepsSaid : Prop := diskKeepsRow.holds Try.pinned (OpenSpec.ofChange diskKeepsSpec)

/-- ITS FALSE NEIGHBOUR: 'it returns false'. Refute it at one input. -/
def diskKeepsWrong : ChangeSpec := { name := "diskKeeps", fn := fun _ => fun
  | [d1, d2, d3, d4] => { results := [.lit (.bool false)], args := [d1, d2, d3, d4] }
  | _ => none }
def DiskKeepsWrongFalsely : Prop := diskKeepsRow.holds Try.pinned (OpenSpec.ofChange diskKeepsWrong)

/-- 'bastionlaw8.DiskLast': WHATEVER THE INPUT: true; the input reads as it did. -/
def diskLastSpec : ChangeSpec := { name := "diskLast", fn := fun _ => fun
  | [d] => { results := [.lit (.bool true)], args := [d] }
  | _ => none }
def diskLastRow : OpenClaim := { program := "ytlhmikjjnndjcaa", sum := "8a90cf6033e15630230d9b251ae8973f0d63b5fc95965d3f10882fc2414aea53", func := "bastion/bastionlaw8.DiskLast", spec := "diskLast", apart := false }
def DiskLastSaid : Prop := diskLastRow.holds Try.pinned (OpenSpec.ofChange diskLastSpec)

/-- ITS FALSE NEIGHBOUR: 'it returns false'. Refute it at one input. -/
def diskLastWrong : ChangeSpec := { name := "diskLast", fn := fun _ => fun
  | [d] => { results := [.lit (.bool false)], args := [d] }
  | _ => none }
def DiskLastWrongFalsely : Prop := diskLastRow.holds Try.pinned (OpenSpec.ofChange diskLastWrong)

/-- 'bastionlaw14.Rings': WHATEVER THE INPUT: true; the input reads as it did. -/
def ringsSpec : ChangeSpec := { name := "rings", fn := fun _ => fun
  | [d1, d2, d3, d4] => { results := [.lit (.bool true)], args := [d1, d2, d3, d4] }
  | _ => none }
def ringsRow : OpenClaim := { program := "ytlhmikjjnndjcaa", sum := "8a90cf6033e15630230d9b251ae8973f0d63b5fc95965d3f10882fc2414aea53", func := "bastion/bastionlaw14.Rings", spec := "rings", apart := false }
def RingsSaid : Prop := ringsRow.holds Try.pinned (OpenSpec.ofChange ringsSpec)

/-- ITS FALSE NEIGHBOUR: 'it returns false'. Refute it at one input. -/
def ringsWrong : ChangeSpec := { name := "rings", fn := fun _ => fun
  | [d1, d2, d3, d4] => { results := [.lit (.bool false)], args := [d1, d2, d3, d4] }
  | _ => none }
def RingsWrongFalsely : Prop := ringsRow.holds Try.pinned (OpenSpec.ofChange ringsWrong)

/-- 'bastionlaw12.TotpOnce': WHATEVER THE INPUT: true; the input reads as it did. -/
def totpOnceSpec : ChangeSpec := { name := "totpOnce", fn := fun _ => fun
  | [d1, d2] => { results := [.lit (.bool true)], args := [d1, d2] }
  | _ => none }
def totpOnceRow : OpenClaim := { program := "ytlhmikjjnndjcaa", sum := "8a90cf6033e15630230d9b251ae8973f0d63b5fc95965d3f10882fc2414aea53", func := "bastion/bastionlaw12.TotpOnce", spec := "totpOnce", apart := false }
def TotpOnceSaid : Prop := totpOnceRow.holds Try.pinned (OpenSpec.ofChange totpOnceSpec)

/-- ITS FALSE NEIGHBOUR: 'it returns false'. Refute it at one input. -/
def totpOnceWrong : ChangeSpec := { name := "totpOnce", fn := fun _ => fun
  | [d1, d2] => { results := [.lit (.bool false)], args := [d1, d2] }
  | _ => none }
def TotpOnceWrongFalsely : Prop := totpOnceRow.holds Try.pinned (OpenSpec.ofChange totpOnceWrong)

/-- 'bastionlaw12.TotpForms': WHATEVER THE INPUT: true; the input reads as it did. -/
def totpFormsSpec : ChangeSpec := { name := "totpForms", fn := fun _ => fun
  | [d1, d2] => { results := [.lit (.bool true)], args := [d1, d2] }
  | _ => none }
def totpFormsRow : OpenClaim := { program := "ytlhmikjjnndjcaa", sum := "8a90cf6033e15630230d9b251ae8973f0d63b5fc95965d3f10882fc2414aea53", func := "bastion/bastionlaw12.TotpForms", spec := "totpForms", apart := false }
def TotpFormsSaid : Prop := totpFormsRow.holds Try.pinned (OpenSpec.ofChange totpFormsSpec)

/-- ITS FALSE NEIGHBOUR: 'it returns false'. Refute it at one input. -/
def totpFormsWrong : ChangeSpec := { name := "totpForms", fn := fun _ => fun
  | [d1, d2] => { results := [.lit (.bool false)], args := [d1, d2] }
  | _ => none }
def TotpFormsWrongFalsely : Prop := totpFormsRow.holds Try.pinned (OpenSpec.ofChange totpFormsWrong)

/-- 'bastionlaw12.TotpLeast': WHATEVER THE INPUT: true; the input reads as it did. -/
def totpLeastSpec : ChangeSpec := { name := "totpLeast", fn := fun _ => fun
  | [d1, d2, d3, d4] => { results := [.lit (.bool true)], args := [d1, d2, d3, d4] }
  | _ => none }
def totpLeastRow : OpenClaim := { program := "ytlhmikjjnndjcaa", sum := "8a90cf6033e15630230d9b251ae8973f0d63b5fc95965d3f10882fc2414aea53", func := "bastion/bastionlaw12.TotpLeast", spec := "totpLeast", apart := false }
def TotpLeastSaid : Prop := totpLeastRow.holds Try.pinned (OpenSpec.ofChange totpLeastSpec)

/-- ITS FALSE NEIGHBOUR: 'it returns false'. Refute it at one input. -/
def totpLeastWrong : ChangeSpec := { name := "totpLeast", fn := fun _ => fun
  | [d1, d2, d3, d4] => { results := [.lit (.bool false)], args := [d1, d2, d3, d4] }
  | _ => none }
def TotpLeastWrongFalsely : Prop := totpLeastRow.holds Try.pinned (OpenSpec.ofChange totpLeastWrong)

/-- 'bastionlaw3.Crafts': WHATEVER THE INPUT: true; the input reads as it did. -/
def craftsSpec : ChangeSpec := { name := "crafts", fn := fun _ => fun
  | [d1, d2, d3, d4, d5] => { results := [.lit (.bool true)], args := [d1, d2, d3, d4, d5] }
  | _ => none }
def craftsRow : OpenClaim := { program := "ytlhmikjjnndjcaa", sum := "8a90cf6033e15630230d9b251ae8973f0d63b5fc95965d3f10882fc2414aea53", func := "bastion/bastionlaw3.Crafts", spec := "crafts", apart := false }
def CraftsSaid : Prop := craftsRow.holds Try.pinned (OpenSpec.ofChange craftsSpec)

/-- ITS FALSE NEIGHBOUR: 'it returns false'. Refute it at one input. -/
def craftsWrong : ChangeSpec := { name := "crafts", fn := fun _ => fun
  | [d1, d2, d3, d4, d5] => { results := [.lit (.bool false)], args := [d1, d2, d3, d4, d5] }
  | _ => none }
def CraftsWrongFalsely : Prop := craftsRow.holds Try.pinned (OpenSpec.ofChange craftsWrong)

/-- 'bastionlaw3.CraftUnlike': WHATEVER THE INPUT: true; the input reads as it did. -/
def craftUnlikeSpec : ChangeSpec := { name := "craftUnlike", fn := fun _ => fun
  | [d1, d2, d3, d4] => { results := [.lit (.bool true)], args := [d1, d2, d3, d4] }
  | _ => none }
def craftUnlikeRow : OpenClaim := { program := "ytlhmikjjnndjcaa", sum := "8a90cf6033e15630230d9b251ae8973f0d63b5fc95965d3f10882fc2414aea53", func := "bastion/bastionlaw3.CraftUnlike", spec := "craftUnlike", apart := false }
def CraftUnlikeSaid : Prop := craftUnlikeRow.holds Try.pinned (OpenSpec.ofChange craftUnlikeSpec)

/-- ITS FALSE NEIGHBOUR: 'it returns false'. Refute it at one input. -/
def craftUnlikeWrong : ChangeSpec := { name := "craftUnlike", fn := fun _ => fun
  | [d1, d2, d3, d4] => { results := [.lit (.bool false)], args := [d1, d2, d3, d4] }
  | _ => none }
def CraftUnlikeWrongFalsely : Prop := craftUnlikeRow.holds Try.pinned (OpenSpec.ofChange craftUnlikeWrong)

/-- 'bastionlaw3.CraftForms': WHATEVER THE INPUT: true; the input reads as it did. -/
def craftFormsSpec : ChangeSpec := { name := "craftForms", fn := fun _ => fun
  | [d1, d2] => { results := [.lit (.bool true)], args := [d1, d2] }
  | _ => none }
def craftFormsRow : OpenClaim := { program := "ytlhmikjjnndjcaa", sum := "8a90cf6033e15630230d9b251ae8973f0d63b5fc95965d3f10882fc2414aea53", func := "bastion/bastionlaw3.CraftForms", spec := "craftForms", apart := false }
def CraftFormsSaid : Prop := craftFormsRow.holds Try.pinned (OpenSpec.ofChange craftFormsSpec)

/-- ITS FALSE NEIGHBOUR: 'it returns false'. Refute it at one input. -/
def craftFormsWrong : ChangeSpec := { name := "craftForms", fn := fun _ => fun
  | [d1, d2] => { results := [.lit (.bool false)], args := [d1, d2] }
  | _ => none }
def CraftFormsWrongFalsely : Prop := craftFormsRow.holds Try.pinned (OpenSpec.ofChange craftFormsWrong)

/-- 'bastionlaw3.CraftAsk': WHATEVER THE INPUT: true; the input reads as it did. -/
def craftAskSpec : ChangeSpec := { name := "craftAsk", fn := fun _ => fun
  | [d1, d2, d3, d4] => { results := [.lit (.bool true)], args := [d1, d2, d3, d4] }
  | _ => none }
def craftAskRow : OpenClaim := { program := "ytlhmikjjnndjcaa", sum := "8a90cf6033e15630230d9b251ae8973f0d63b5fc95965d3f10882fc2414aea53", func := "bastion/bastionlaw3.CraftAsk", spec := "craftAsk", apart := false }
def CraftAskSaid : Prop := craftAskRow.holds Try.pinned (OpenSpec.ofChange craftAskSpec)

/-- ITS FALSE NEIGHBOUR: 'it returns false'. Refute it at one input. -/
def craftAskWrong : ChangeSpec := { name := "craftAsk", fn := fun _ => fun
  | [d1, d2, d3, d4] => { results := [.lit (.bool false)], args := [d1, d2, d3, d4] }
  | _ => none }
def CraftAskWrongFalsely : Prop := craftAskRow.holds Try.pinned (OpenSpec.ofChange craftAskWrong)

/-- 'bastionlaw3.CraftSeals': WHATEVER THE INPUT: true; the input reads as it did. -/
def craftSealsSpec : ChangeSpec := { name := "craftSeals", fn := fun _ => fun
  | [d1, d2] => { results := [.lit (.bool true)], args := [d1, d2] }
  | _ => none }
def craftSealsRow : OpenClaim := { program := "ytlhmikjjnndjcaa", sum := "8a90cf6033e15630230d9b251ae8973f0d63b5fc95965d3f10882fc2414aea53", func := "bastion/bastionlaw3.CraftSeals", spec := "craftSeals", apart := false }
def CraftSealsSaid : Prop := craftSealsRow.holds Try.pinned (OpenSpec.ofChange craftSealsSpec)

/-- ITS FALSE NEIGHBOUR: 'it returns false'. Refute it at one input. -/
def craftSealsWrong : ChangeSpec := { name := "craftSeals", fn := fun _ => fun
  | [d1, d2] => { results := [.lit (.bool false)], args := [d1, d2] }
  | _ => none }
def CraftSealsWrongFalsely : Prop := craftSealsRow.holds Try.pinned (OpenSpec.ofChange craftSealsWrong)

/- THE SECOND FORM. 'bulk': how many values and letters a reading holds, each counted each time it is reached (what is shared counts as often as it is met; a slice's spare places count too). A statement '..UptoSaid' is the law's where the arguments, and the package variables that the reading takes, are together of bulk at most 1048576: NARROWER than '..Said'. Prove '..Said' where nothing that the law and all that it calls make is longer than what came in: it says more and counts as full. Else prove '..UptoSaid'. A law counts once. -/
mutual
def uptoBulk {H : Type} : DataW H → Nat
  | .lit (.string bytes) => bytes.length + 1
  | .lit _ => 1
  | .nil => 1
  | .ptr d => uptoBulk d + 1
  | .slice elems spare => uptoBulkAll elems + uptoBulkAll spare + 1
  | .agg parts => uptoBulkAll parts + 1
  | .iface _ d => uptoBulk d + 1
  | .map entries => uptoBulkEntries entries + 1
  | .held _ => 1
def uptoBulkAll {H : Type} : List (DataW H) → Nat
  | [] => 0
  | d :: r => uptoBulk d + uptoBulkAll r
def uptoBulkEntries {H : Type} : List (Lit × DataW H) → Nat
  | [] => 0
  | x :: r => uptoBulkEntry x + uptoBulkEntries r
def uptoBulkEntry {H : Type} : Lit × DataW H → Nat
  | (.string bytes, d) => bytes.length + uptoBulk d + 1
  | (_, d) => uptoBulk d + 1
 end
def uptoSmall : (H : Type) → List (DataW H) → Bool := fun _ ds => decide (uptoBulkAll ds ≤ 1048576)
def OpenSpec.upto (s : _root_.Go.ChangeSpec) : _root_.Go.OpenSpec := { _root_.Go.OpenSpec.ofChange s with cond := some uptoSmall }

/-- 'bastionlaw0.BastionNames', WHERE WHAT IT READS IS OF BULK AT MOST 1048576: true; the input reads as it did. -/
def bastionNamesUptoRow : OpenClaim := { program := "ytlhmikjjnndjcaa", sum := "8a90cf6033e15630230d9b251ae8973f0d63b5fc95965d3f10882fc2414aea53", func := "bastion/bastionlaw0.BastionNames", spec := "bastionNames", apart := false, narrowed := true }
def BastionNamesUptoSaid : Prop := bastionNamesUptoRow.holds Try.pinned (OpenSpec.upto bastionNamesSpec)

/-- 'bastionlaw17.Windows', WHERE WHAT IT READS IS OF BULK AT MOST 1048576: true; the input reads as it did. -/
def windowsUptoRow : OpenClaim := { program := "ytlhmikjjnndjcaa", sum := "8a90cf6033e15630230d9b251ae8973f0d63b5fc95965d3f10882fc2414aea53", func := "bastion/bastionlaw17.Windows", spec := "windows", apart := false, narrowed := true }
def WindowsUptoSaid : Prop := windowsUptoRow.holds Try.pinned (OpenSpec.upto windowsSpec)

/-- 'bastionlaw17.WindowOnce', WHERE WHAT IT READS IS OF BULK AT MOST 1048576: true; the input reads as it did. -/
def windowOnceUptoRow : OpenClaim := { program := "ytlhmikjjnndjcaa", sum := "8a90cf6033e15630230d9b251ae8973f0d63b5fc95965d3f10882fc2414aea53", func := "bastion/bastionlaw17.WindowOnce", spec := "windowOnce", apart := false, narrowed := true }
def WindowOnceUptoSaid : Prop := windowOnceUptoRow.holds Try.pinned (OpenSpec.upto windowOnceSpec)

/-- 'bastionlaw17.WindowForms', WHERE WHAT IT READS IS OF BULK AT MOST 1048576: true; the input reads as it did. -/
def windowFormsUptoRow : OpenClaim := { program := "ytlhmikjjnndjcaa", sum := "8a90cf6033e15630230d9b251ae8973f0d63b5fc95965d3f10882fc2414aea53", func := "bastion/bastionlaw17.WindowForms", spec := "windowForms", apart := false, narrowed := true }
def WindowFormsUptoSaid : Prop := windowFormsUptoRow.holds Try.pinned (OpenSpec.upto windowFormsSpec)

/-- 'bastionlaw17.WindowRows', WHERE WHAT IT READS IS OF BULK AT MOST 1048576: true; the input reads as it did. -/
def windowRowsUptoRow : OpenClaim := { program := "ytlhmikjjnndjcaa", sum := "8a90cf6033e15630230d9b251ae8973f0d63b5fc95965d3f10882fc2414aea53", func := "bastion/bastionlaw17.WindowRows", spec := "windowRows", apart := false, narrowed := true }
def WindowRowsUptoSaid : Prop := windowRowsUptoRow.holds Try.pinned (OpenSpec.upto windowRowsSpec)

/-- 'bastionlaw17.WindowBits', WHERE WHAT IT READS IS OF BULK AT MOST 1048576: true; the input reads as it did. -/
def windowBitsUptoRow : OpenClaim := { program := "ytlhmikjjnndjcaa", sum := "8a90cf6033e15630230d9b251ae8973f0d63b5fc95965d3f10882fc2414aea53", func := "bastion/bastionlaw17.WindowBits", spec := "windowBits", apart := false, narrowed := true }
def WindowBitsUptoSaid : Prop := windowBitsUptoRow.holds Try.pinned (OpenSpec.upto windowBitsSpec)

/-- 'bastionlaw14.RingForms', WHERE WHAT IT READS IS OF BULK AT MOST 1048576: true; the input reads as it did. -/
def ringFormsUptoRow : OpenClaim := { program := "ytlhmikjjnndjcaa", sum := "8a90cf6033e15630230d9b251ae8973f0d63b5fc95965d3f10882fc2414aea53", func := "bastion/bastionlaw14.RingForms", spec := "ringForms", apart := false, narrowed := true }
def RingFormsUptoSaid : Prop := ringFormsUptoRow.holds Try.pinned (OpenSpec.upto ringFormsSpec)

/-- 'bastionlaw8.Disks', WHERE WHAT IT READS IS OF BULK AT MOST 1048576: true; the input reads as it did. -/
def disksUptoRow : OpenClaim := { program := "ytlhmikjjnndjcaa", sum := "8a90cf6033e15630230d9b251ae8973f0d63b5fc95965d3f10882fc2414aea53", func := "bastion/bastionlaw8.Disks", spec := "disks", apart := false, narrowed := true }
def DisksUptoSaid : Prop := disksUptoRow.holds Try.pinned (OpenSpec.upto disksSpec)

/-- 'bastionlaw8.DiskForms', WHERE WHAT IT READS IS OF BULK AT MOST 1048576: true; the input reads as it did. -/
def diskFormsUptoRow : OpenClaim := { program := "ytlhmikjjnndjcaa", sum := "8a90cf6033e15630230d9b251ae8973f0d63b5fc95965d3f10882fc2414aea53", func := "bastion/bastionlaw8.DiskForms", spec := "diskForms", apart := false, narrowed := true }
def DiskFormsUptoSaid : Prop := diskFormsUptoRow.holds Try.pinned (OpenSpec.upto diskFormsSpec)

/-- 'bastionlaw8.DiskKeeps', WHERE WHAT IT READS IS OF BULK AT MOST 1048576: true; the input reads as it did. -/
def diskKeepsUptoRow : OpenClaim := { program := "ytlhmikjjnndjcaa", sum := "8a90cf6033e15630230d9b251ae8973f0d63b5fc95965d3f10882fc2414aea53", func := "bastion/bastionlaw8.DiskKeeps", spec := "diskKeeps", apart := false, narrowed := true }
def DiskKeepsUptoSaid : Prop := diskKeepsUptoRow.holds Try.pinned (OpenSpec.upto diskKeepsSpec)

/-- 'bastionlaw8.DiskLast', WHERE WHAT IT READS IS OF BULK AT MOST 1048576: true; the input reads as it did. -/
def diskLastUptoRow : OpenClaim := { program := "ytlhmikjjnndjcaa", sum := "8a90cf6033e15630230d9b251ae8973f0d63b5fc95965d3f10882fc2414aea53", func := "bastion/bastionlaw8.DiskLast", spec := "diskLast", apart := false, narrowed := true }
def DiskLastUptoSaid : Prop := diskLastUptoRow.holds Try.pinned (OpenSpec.upto diskLastSpec)

/-- 'bastionlaw14.Rings', WHERE WHAT IT READS IS OF BULK AT MOST 1048576: true; the input reads as it did. -/
def ringsUptoRow : OpenClaim := { program := "ytlhmikjjnndjcaa", sum := "8a90cf6033e15630230d9b251ae8973f0d63b5fc95965d3f10882fc2414aea53", func := "bastion/bastionlaw14.Rings", spec := "rings", apart := false, narrowed := true }
def RingsUptoSaid : Prop := ringsUptoRow.holds Try.pinned (OpenSpec.upto ringsSpec)

/-- 'bastionlaw12.TotpOnce', WHERE WHAT IT READS IS OF BULK AT MOST 1048576: true; the input reads as it did. -/
def totpOnceUptoRow : OpenClaim := { program := "ytlhmikjjnndjcaa", sum := "8a90cf6033e15630230d9b251ae8973f0d63b5fc95965d3f10882fc2414aea53", func := "bastion/bastionlaw12.TotpOnce", spec := "totpOnce", apart := false, narrowed := true }
def TotpOnceUptoSaid : Prop := totpOnceUptoRow.holds Try.pinned (OpenSpec.upto totpOnceSpec)

/-- 'bastionlaw12.TotpForms', WHERE WHAT IT READS IS OF BULK AT MOST 1048576: true; the input reads as it did. -/
def totpFormsUptoRow : OpenClaim := { program := "ytlhmikjjnndjcaa", sum := "8a90cf6033e15630230d9b251ae8973f0d63b5fc95965d3f10882fc2414aea53", func := "bastion/bastionlaw12.TotpForms", spec := "totpForms", apart := false, narrowed := true }
def TotpFormsUptoSaid : Prop := totpFormsUptoRow.holds Try.pinned (OpenSpec.upto totpFormsSpec)

/-- 'bastionlaw12.TotpLeast', WHERE WHAT IT READS IS OF BULK AT MOST 1048576: true; the input reads as it did. -/
def totpLeastUptoRow : OpenClaim := { program := "ytlhmikjjnndjcaa", sum := "8a90cf6033e15630230d9b251ae8973f0d63b5fc95965d3f10882fc2414aea53", func := "bastion/bastionlaw12.TotpLeast", spec := "totpLeast", apart := false, narrowed := true }
def TotpLeastUptoSaid : Prop := totpLeastUptoRow.holds Try.pinned (OpenSpec.upto totpLeastSpec)

/-- 'bastionlaw3.Crafts', WHERE WHAT IT READS IS OF BULK AT MOST 1048576: true; the input reads as it did. -/
def craftsUptoRow : OpenClaim := { program := "ytlhmikjjnndjcaa", sum := "8a90cf6033e15630230d9b251ae8973f0d63b5fc95965d3f10882fc2414aea53", func := "bastion/bastionlaw3.Crafts", spec := "crafts", apart := false, narrowed := true }
def CraftsUptoSaid : Prop := craftsUptoRow.holds Try.pinned (OpenSpec.upto craftsSpec)

/-- 'bastionlaw3.CraftUnlike', WHERE WHAT IT READS IS OF BULK AT MOST 1048576: true; the input reads as it did. -/
def craftUnlikeUptoRow : OpenClaim := { program := "ytlhmikjjnndjcaa", sum := "8a90cf6033e15630230d9b251ae8973f0d63b5fc95965d3f10882fc2414aea53", func := "bastion/bastionlaw3.CraftUnlike", spec := "craftUnlike", apart := false, narrowed := true }
def CraftUnlikeUptoSaid : Prop := craftUnlikeUptoRow.holds Try.pinned (OpenSpec.upto craftUnlikeSpec)

/-- 'bastionlaw3.CraftForms', WHERE WHAT IT READS IS OF BULK AT MOST 1048576: true; the input reads as it did. -/
def craftFormsUptoRow : OpenClaim := { program := "ytlhmikjjnndjcaa", sum := "8a90cf6033e15630230d9b251ae8973f0d63b5fc95965d3f10882fc2414aea53", func := "bastion/bastionlaw3.CraftForms", spec := "craftForms", apart := false, narrowed := true }
def CraftFormsUptoSaid : Prop := craftFormsUptoRow.holds Try.pinned (OpenSpec.upto craftFormsSpec)

/-- 'bastionlaw3.CraftAsk', WHERE WHAT IT READS IS OF BULK AT MOST 1048576: true; the input reads as it did. -/
def craftAskUptoRow : OpenClaim := { program := "ytlhmikjjnndjcaa", sum := "8a90cf6033e15630230d9b251ae8973f0d63b5fc95965d3f10882fc2414aea53", func := "bastion/bastionlaw3.CraftAsk", spec := "craftAsk", apart := false, narrowed := true }
def CraftAskUptoSaid : Prop := craftAskUptoRow.holds Try.pinned (OpenSpec.upto craftAskSpec)

/-- 'bastionlaw3.CraftSeals', WHERE WHAT IT READS IS OF BULK AT MOST 1048576: true; the input reads as it did. -/
def craftSealsUptoRow : OpenClaim := { program := "ytlhmikjjnndjcaa", sum := "8a90cf6033e15630230d9b251ae8973f0d63b5fc95965d3f10882fc2414aea53", func := "bastion/bastionlaw3.CraftSeals", spec := "craftSeals", apart := false, narrowed := true }
def CraftSealsUptoSaid : Prop := craftSealsUptoRow.holds Try.pinned (OpenSpec.upto craftSealsSpec)

end Rows
end Go.Proofs.Ytlhmikjjnndjcaa
