/-
  NARROWER THAN 'FOR EVERY INPUT', by the rows' own cells (each row's printed sentence says how): SheetChecks: loops · CondReads: loops · RoundEdits: loops.
  DERIVED. THE GIVEN ROWS OF THIS SEAT. 3 by the template 'for every input the law returns true; each argument reads behind the call as it read before'; 0 by the template 'total and deterministic' (their statements: YtnfhfeipljhciaaGreatTotals.lean).
  GIVEN WITH THE SEED: the statements are not yours to turn. If you find one false, say at which input.
  Laid BY PROGRAM, IN A SANDBOX (cutbox-rows.mjs): the forced cells as the released guide's own fill.sh prints them over the translation 370f9d7c44701aad… (all of the seat's roots in one cut). By AI agents, Wed Nov 11 2026. No macro, syntax, notation, axiom, sorry.
-/
import Derived.Test.YtnfhfeipljhciaaGreatChecked
import GoSem.Claim
import GoSem.ClaimJoined
import GoSem.ClaimMapViews
import Derived.JoinedTies
import Derived.KernelRfl
namespace Go.Proofs.YtnfhfeipljhciaaGreat
/- THE CELL 'sum', in the pinned program and in every row, IS THE sha256 OF THE DUMP (.gsa) THAT YtnfhfeipljhciaaGreatProg.lean LOADS. Nothing in Lean hashes anything: it is a label: what it is worth is what the hold of that sum in a sandbox is worth. -/
noncomputable def Tryz.pinned : Pinned := { name := "ytnfhfeipljhciaagreat", sum := "370f9d7c44701aadf9bc201dc3a3c2dade0c8838bad67aaa60c06c3ed1fbaf95", checked := Tryz.checked }
namespace Rows
def none {H : Type} : Left H := { results := [], args := [] }

/-- 'vitrinelaw11.SheetChecks': WHATEVER THE INPUT: true; the input reads as it did. -/
def sheetChecksSpec : ChangeSpec := { name := "sheetChecks", fn := fun _ => fun
  | [d1, d2] => { results := [.lit (.bool true)], args := [d1, d2] }
  | _ => none }
def sheetChecksRow : OpenClaim := { program := "ytnfhfeipljhciaagreat", sum := "370f9d7c44701aadf9bc201dc3a3c2dade0c8838bad67aaa60c06c3ed1fbaf95", func := "vitrine/vitrinelaw11.SheetChecks", spec := "sheetChecks", inPlace := ["internal/bytealg.IndexByteString", "internal/bytealg.IndexString"], unfollowed := true, recurses := true, named := ["internal/bytealg.MaxLen"], loops := true, apart := false }
def SheetChecksSaid : Prop := sheetChecksRow.holds Tryz.pinned (OpenSpec.ofChange sheetChecksSpec)

/-- ITS FALSE NEIGHBOUR: 'it returns false'. Refute it at one input. -/
def sheetChecksWrong : ChangeSpec := { name := "sheetChecks", fn := fun _ => fun
  | [d1, d2] => { results := [.lit (.bool false)], args := [d1, d2] }
  | _ => none }
def SheetChecksWrongFalsely : Prop := sheetChecksRow.holds Tryz.pinned (OpenSpec.ofChange sheetChecksWrong)

/-- 'vitrinelaw10.CondReads': WHATEVER THE INPUT: true; the input reads as it did. -/
def condReadsSpec : ChangeSpec := { name := "condReads", fn := fun _ => fun
  | [d] => { results := [.lit (.bool true)], args := [d] }
  | _ => none }
def condReadsRow : OpenClaim := { program := "ytnfhfeipljhciaagreat", sum := "370f9d7c44701aadf9bc201dc3a3c2dade0c8838bad67aaa60c06c3ed1fbaf95", func := "vitrine/vitrinelaw10.CondReads", spec := "condReads", inPlace := ["internal/bytealg.IndexByteString", "internal/bytealg.IndexString"], unfollowed := true, recurses := true, named := ["internal/bytealg.MaxLen"], loops := true, apart := false }
def CondReadsSaid : Prop := condReadsRow.holds Tryz.pinned (OpenSpec.ofChange condReadsSpec)

/-- ITS FALSE NEIGHBOUR: 'it returns false'. Refute it at one input. -/
def condReadsWrong : ChangeSpec := { name := "condReads", fn := fun _ => fun
  | [d] => { results := [.lit (.bool false)], args := [d] }
  | _ => none }
def CondReadsWrongFalsely : Prop := condReadsRow.holds Tryz.pinned (OpenSpec.ofChange condReadsWrong)

/-- 'vitrinelaw12.RoundEdits': WHATEVER THE INPUT: true; the input reads as it did. -/
def roundEditsSpec : ChangeSpec := { name := "roundEdits", fn := fun _ => fun
  | [d1, d2, d3] => { results := [.lit (.bool true)], args := [d1, d2, d3] }
  | _ => none }
def roundEditsRow : OpenClaim := { program := "ytnfhfeipljhciaagreat", sum := "370f9d7c44701aadf9bc201dc3a3c2dade0c8838bad67aaa60c06c3ed1fbaf95", func := "vitrine/vitrinelaw12.RoundEdits", spec := "roundEdits", inPlace := ["internal/bytealg.IndexByteString", "internal/bytealg.IndexString"], unfollowed := true, recurses := true, named := ["internal/bytealg.MaxLen"], loops := true, apart := false }
def RoundEditsSaid : Prop := roundEditsRow.holds Tryz.pinned (OpenSpec.ofChange roundEditsSpec)

/-- ITS FALSE NEIGHBOUR: 'it returns false'. Refute it at one input. -/
def roundEditsWrong : ChangeSpec := { name := "roundEdits", fn := fun _ => fun
  | [d1, d2, d3] => { results := [.lit (.bool false)], args := [d1, d2, d3] }
  | _ => none }
def RoundEditsWrongFalsely : Prop := roundEditsRow.holds Tryz.pinned (OpenSpec.ofChange roundEditsWrong)

/- THE SECOND FORM. 'bulk': how many values and letters a reading holds, each counted each time it is reached (what is shared counts as often as it is met; a slice's spare places count too). A statement '..UptoSaid' is the law's where the arguments, and the package variables that the reading takes, are together of bulk at most 1048576: NARROWER than '..Said'. Prove '..Said' where nothing that the law and all that it calls make is longer than what came in: it says more and counts as full. Else prove '..UptoSaid'. A law counts once. -/
mutual
def uptoBulk {H : Type} : DataW H → Nat
  | .lit (.string bytes) => bytes.length + 1
  | .lit _ => 1
  | .nil => 1
  | .ptr d => uptoBulk d + 1
  | .slice elems spare => uptoBulkAll elems + uptoBulkAll spare + 1
  | .agg parts => uptoBulkAll parts + 1
  | .iface _ d => uptoBulk d + 1
  | .map entries => uptoBulkEntries entries + 1
  | .held _ => 1
def uptoBulkAll {H : Type} : List (DataW H) → Nat
  | [] => 0
  | d :: r => uptoBulk d + uptoBulkAll r
def uptoBulkEntries {H : Type} : List (Lit × DataW H) → Nat
  | [] => 0
  | x :: r => uptoBulkEntry x + uptoBulkEntries r
def uptoBulkEntry {H : Type} : Lit × DataW H → Nat
  | (.string bytes, d) => bytes.length + uptoBulk d + 1
  | (_, d) => uptoBulk d + 1
 end
def uptoSmall : (H : Type) → List (DataW H) → Bool := fun _ ds => decide (uptoBulkAll ds ≤ 1048576)
def OpenSpec.upto (s : _root_.Go.ChangeSpec) : _root_.Go.OpenSpec := { _root_.Go.OpenSpec.ofChange s with cond := some uptoSmall }

/-- 'vitrinelaw11.SheetChecks', WHERE WHAT IT READS IS OF BULK AT MOST 1048576: true; the input reads as it did. -/
def sheetChecksUptoRow : OpenClaim := { program := "ytnfhfeipljhciaagreat", sum := "370f9d7c44701aadf9bc201dc3a3c2dade0c8838bad67aaa60c06c3ed1fbaf95", func := "vitrine/vitrinelaw11.SheetChecks", spec := "sheetChecks", inPlace := ["internal/bytealg.IndexByteString", "internal/bytealg.IndexString"], unfollowed := true, recurses := true, named := ["internal/bytealg.MaxLen"], loops := true, apart := false, narrowed := true }
def SheetChecksUptoSaid : Prop := sheetChecksUptoRow.holds Tryz.pinned (OpenSpec.upto sheetChecksSpec)

/-- 'vitrinelaw10.CondReads', WHERE WHAT IT READS IS OF BULK AT MOST 1048576: true; the input reads as it did. -/
def condReadsUptoRow : OpenClaim := { program := "ytnfhfeipljhciaagreat", sum := "370f9d7c44701aadf9bc201dc3a3c2dade0c8838bad67aaa60c06c3ed1fbaf95", func := "vitrine/vitrinelaw10.CondReads", spec := "condReads", inPlace := ["internal/bytealg.IndexByteString", "internal/bytealg.IndexString"], unfollowed := true, recurses := true, named := ["internal/bytealg.MaxLen"], loops := true, apart := false, narrowed := true }
def CondReadsUptoSaid : Prop := condReadsUptoRow.holds Tryz.pinned (OpenSpec.upto condReadsSpec)

/-- 'vitrinelaw12.RoundEdits', WHERE WHAT IT READS IS OF BULK AT MOST 1048576: true; the input reads as it did. -/
def roundEditsUptoRow : OpenClaim := { program := "ytnfhfeipljhciaagreat", sum := "370f9d7c44701aadf9bc201dc3a3c2dade0c8838bad67aaa60c06c3ed1fbaf95", func := "vitrine/vitrinelaw12.RoundEdits", spec := "roundEdits", inPlace := ["internal/bytealg.IndexByteString", "internal/bytealg.IndexString"], unfollowed := true, recurses := true, named := ["internal/bytealg.MaxLen"], loops := true, apart := false, narrowed := true }
def RoundEditsUptoSaid : Prop := roundEditsUptoRow.holds Tryz.pinned (OpenSpec.upto roundEditsSpec)

end Rows
end Go.Proofs.YtnfhfeipljhciaaGreat
