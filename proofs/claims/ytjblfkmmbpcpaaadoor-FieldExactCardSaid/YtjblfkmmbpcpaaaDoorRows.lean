/-
  NARROWER THAN 'FOR EVERY INPUT', by the rows' own cells (each row's printed sentence says how): FieldRing: laid · FieldRoots: laid · FieldExact: laid · CurveNames: laid · CurveMeets: laid · CurveForms: laid · CurveLow: laid · CurveExact: laid · CurveAgrees: laid.
  DERIVED. THE GIVEN ROWS OF THIS SEAT. 9 by the template 'for every input the law returns true; each argument reads behind the call as it read before'; 0 by the template 'total and deterministic' (their statements: YtjblfkmmbpcpaaaDoorTotals.lean).
  GIVEN WITH THE SEED: the statements are not yours to turn. If you find one false, say at which input.
  Laid BY PROGRAM, IN A SANDBOX (cutbox-rows.mjs): the forced cells as the released guide's own fill.sh prints them over the translation a2ead426938e372d… (all of the seat's roots in one cut). By AI agents, Wed Nov 11 2026. No macro, syntax, notation, axiom, sorry.
-/
import Derived.Test.YtjblfkmmbpcpaaaDoorChecked
import GoSem.Claim
import GoSem.ClaimJoined
import GoSem.ClaimMapViews
import Derived.JoinedTies
import Derived.KernelRfl
namespace Go.Proofs.YtjblfkmmbpcpaaaDoor
/- THE CELL 'sum', in the pinned program and in every row, IS THE sha256 OF THE DUMP (.gsa) THAT YtjblfkmmbpcpaaaDoorProg.lean LOADS. Nothing in Lean hashes anything: it is a label: what it is worth is what the hold of that sum in a sandbox is worth. -/
noncomputable def Tryd.pinned : Pinned := { name := "ytjblfkmmbpcpaaadoor", sum := "a2ead426938e372ddc79a8c5a943eed5986c85f39f95608028d6a97a6c875bbb", checked := Tryd.checked }
namespace Rows
def none {H : Type} : Left H := { results := [], args := [] }

/- WHAT THE LISTED PACKAGE-LEVEL VARIABLES READ AS WHEN THE CALL BEGINS. Each datum BY PROGRAM (the guide's laid-datum.mjs) off the statement by which the dump's own 'gosem.cut.vars' lays the variable. In a bare row this is a premise. The card (YtjblfkmmbpcpaaaDoorCards.lean) ties it to the program's text. -/
def laid_lethe_field_twice {H : Type} : DataW H := .agg [.lit (.int .u64 4503599627370458), .lit (.int .u64 4503599627370494), .lit (.int .u64 4503599627370494), .lit (.int .u64 4503599627370494), .lit (.int .u64 4503599627370494)]

/-- 'lethelaw06.FieldRing': WHATEVER THE INPUT: true; the input reads as it did. -/
def fieldRingSpec : ChangeSpec := { name := "fieldRing", fn := fun _ => fun
  | [d1, d2, d3] => { results := [.lit (.bool true)], args := [d1, d2, d3] }
  | _ => none }
def fieldRingRow : OpenClaim := { program := "ytjblfkmmbpcpaaadoor", sum := "a2ead426938e372ddc79a8c5a943eed5986c85f39f95608028d6a97a6c875bbb", func := "lethe/lethelaw06.FieldRing", spec := "fieldRing", inPlace := ["math/bits.Add64"], named := ["lethe/field.twice"], apart := false, laid := [("lethe/field.twice", laid_lethe_field_twice)] }
def FieldRingSaid : Prop := fieldRingRow.holds Tryd.pinned (OpenSpec.ofChange fieldRingSpec)

/-- ITS FALSE NEIGHBOUR: 'it returns false'. Refute it at one input. -/
def fieldRingWrong : ChangeSpec := { name := "fieldRing", fn := fun _ => fun
  | [d1, d2, d3] => { results := [.lit (.bool false)], args := [d1, d2, d3] }
  | _ => none }
def FieldRingWrongFalsely : Prop := fieldRingRow.holds Tryd.pinned (OpenSpec.ofChange fieldRingWrong)

/-- 'lethelaw06.FieldRoots': WHATEVER THE INPUT: true; the input reads as it did. -/
def fieldRootsSpec : ChangeSpec := { name := "fieldRoots", fn := fun _ => fun
  | [d1, d2] => { results := [.lit (.bool true)], args := [d1, d2] }
  | _ => none }
def fieldRootsRow : OpenClaim := { program := "ytjblfkmmbpcpaaadoor", sum := "a2ead426938e372ddc79a8c5a943eed5986c85f39f95608028d6a97a6c875bbb", func := "lethe/lethelaw06.FieldRoots", spec := "fieldRoots", inPlace := ["math/bits.Add64"], named := ["lethe/field.twice"], apart := false, laid := [("lethe/field.twice", laid_lethe_field_twice)] }
def FieldRootsSaid : Prop := fieldRootsRow.holds Tryd.pinned (OpenSpec.ofChange fieldRootsSpec)

/-- ITS FALSE NEIGHBOUR: 'it returns false'. Refute it at one input. -/
def fieldRootsWrong : ChangeSpec := { name := "fieldRoots", fn := fun _ => fun
  | [d1, d2] => { results := [.lit (.bool false)], args := [d1, d2] }
  | _ => none }
def FieldRootsWrongFalsely : Prop := fieldRootsRow.holds Tryd.pinned (OpenSpec.ofChange fieldRootsWrong)

/-- 'lethelaw06.FieldExact': WHATEVER THE INPUT: true; the input reads as it did. -/
def fieldExactSpec : ChangeSpec := { name := "fieldExact", fn := fun _ => fun
  | [d] => { results := [.lit (.bool true)], args := [d] }
  | _ => none }
def fieldExactRow : OpenClaim := { program := "ytjblfkmmbpcpaaadoor", sum := "a2ead426938e372ddc79a8c5a943eed5986c85f39f95608028d6a97a6c875bbb", func := "lethe/lethelaw06.FieldExact", spec := "fieldExact", inPlace := ["math/bits.Add64"], named := ["lethe/field.twice"], apart := false, laid := [("lethe/field.twice", laid_lethe_field_twice)] }
def FieldExactSaid : Prop := fieldExactRow.holds Tryd.pinned (OpenSpec.ofChange fieldExactSpec)

/-- ITS FALSE NEIGHBOUR: 'it returns false'. Refute it at one input. -/
def fieldExactWrong : ChangeSpec := { name := "fieldExact", fn := fun _ => fun
  | [d] => { results := [.lit (.bool false)], args := [d] }
  | _ => none }
def FieldExactWrongFalsely : Prop := fieldExactRow.holds Tryd.pinned (OpenSpec.ofChange fieldExactWrong)

/-- 'lethelaw07.CurveNames': WHATEVER THE INPUT: true; the input reads as it did. -/
def curveNamesSpec : ChangeSpec := { name := "curveNames", fn := fun _ => fun
  | [] => { results := [.lit (.bool true)], args := [] }
  | _ => none }
def curveNamesRow : OpenClaim := { program := "ytjblfkmmbpcpaaadoor", sum := "a2ead426938e372ddc79a8c5a943eed5986c85f39f95608028d6a97a6c875bbb", func := "lethe/lethelaw07.CurveNames", spec := "curveNames", inPlace := ["math/bits.Add64"], named := ["lethe/field.twice"], apart := false, laid := [("lethe/field.twice", laid_lethe_field_twice)] }
def CurveNamesSaid : Prop := curveNamesRow.holds Tryd.pinned (OpenSpec.ofChange curveNamesSpec)

/-- ITS FALSE NEIGHBOUR: 'it returns false'. Refute it at one input. -/
def curveNamesWrong : ChangeSpec := { name := "curveNames", fn := fun _ => fun
  | [] => { results := [.lit (.bool false)], args := [] }
  | _ => none }
def CurveNamesWrongFalsely : Prop := curveNamesRow.holds Tryd.pinned (OpenSpec.ofChange curveNamesWrong)

/-- 'lethelaw07.CurveMeets': WHATEVER THE INPUT: true; the input reads as it did. -/
def curveMeetsSpec : ChangeSpec := { name := "curveMeets", fn := fun _ => fun
  | [d1, d2, d3] => { results := [.lit (.bool true)], args := [d1, d2, d3] }
  | _ => none }
def curveMeetsRow : OpenClaim := { program := "ytjblfkmmbpcpaaadoor", sum := "a2ead426938e372ddc79a8c5a943eed5986c85f39f95608028d6a97a6c875bbb", func := "lethe/lethelaw07.CurveMeets", spec := "curveMeets", inPlace := ["math/bits.Add64"], named := ["lethe/field.twice"], apart := false, laid := [("lethe/field.twice", laid_lethe_field_twice)] }
def CurveMeetsSaid : Prop := curveMeetsRow.holds Tryd.pinned (OpenSpec.ofChange curveMeetsSpec)

/-- ITS FALSE NEIGHBOUR: 'it returns false'. Refute it at one input. -/
def curveMeetsWrong : ChangeSpec := { name := "curveMeets", fn := fun _ => fun
  | [d1, d2, d3] => { results := [.lit (.bool false)], args := [d1, d2, d3] }
  | _ => none }
def CurveMeetsWrongFalsely : Prop := curveMeetsRow.holds Tryd.pinned (OpenSpec.ofChange curveMeetsWrong)

/-- 'lethelaw07.CurveForms': WHATEVER THE INPUT: true; the input reads as it did. -/
def curveFormsSpec : ChangeSpec := { name := "curveForms", fn := fun _ => fun
  | [d1, d2, d3] => { results := [.lit (.bool true)], args := [d1, d2, d3] }
  | _ => none }
def curveFormsRow : OpenClaim := { program := "ytjblfkmmbpcpaaadoor", sum := "a2ead426938e372ddc79a8c5a943eed5986c85f39f95608028d6a97a6c875bbb", func := "lethe/lethelaw07.CurveForms", spec := "curveForms", inPlace := ["math/bits.Add64"], named := ["lethe/field.twice"], apart := false, laid := [("lethe/field.twice", laid_lethe_field_twice)] }
def CurveFormsSaid : Prop := curveFormsRow.holds Tryd.pinned (OpenSpec.ofChange curveFormsSpec)

/-- ITS FALSE NEIGHBOUR: 'it returns false'. Refute it at one input. -/
def curveFormsWrong : ChangeSpec := { name := "curveForms", fn := fun _ => fun
  | [d1, d2, d3] => { results := [.lit (.bool false)], args := [d1, d2, d3] }
  | _ => none }
def CurveFormsWrongFalsely : Prop := curveFormsRow.holds Tryd.pinned (OpenSpec.ofChange curveFormsWrong)

/-- 'lethelaw07.CurveLow': WHATEVER THE INPUT: true; the input reads as it did. -/
def curveLowSpec : ChangeSpec := { name := "curveLow", fn := fun _ => fun
  | [d] => { results := [.lit (.bool true)], args := [d] }
  | _ => none }
def curveLowRow : OpenClaim := { program := "ytjblfkmmbpcpaaadoor", sum := "a2ead426938e372ddc79a8c5a943eed5986c85f39f95608028d6a97a6c875bbb", func := "lethe/lethelaw07.CurveLow", spec := "curveLow", inPlace := ["math/bits.Add64"], named := ["lethe/field.twice"], apart := false, laid := [("lethe/field.twice", laid_lethe_field_twice)] }
def CurveLowSaid : Prop := curveLowRow.holds Tryd.pinned (OpenSpec.ofChange curveLowSpec)

/-- ITS FALSE NEIGHBOUR: 'it returns false'. Refute it at one input. -/
def curveLowWrong : ChangeSpec := { name := "curveLow", fn := fun _ => fun
  | [d] => { results := [.lit (.bool false)], args := [d] }
  | _ => none }
def CurveLowWrongFalsely : Prop := curveLowRow.holds Tryd.pinned (OpenSpec.ofChange curveLowWrong)

/-- 'lethelaw07.CurveExact': WHATEVER THE INPUT: true; the input reads as it did. -/
def curveExactSpec : ChangeSpec := { name := "curveExact", fn := fun _ => fun
  | [d] => { results := [.lit (.bool true)], args := [d] }
  | _ => none }
def curveExactRow : OpenClaim := { program := "ytjblfkmmbpcpaaadoor", sum := "a2ead426938e372ddc79a8c5a943eed5986c85f39f95608028d6a97a6c875bbb", func := "lethe/lethelaw07.CurveExact", spec := "curveExact", inPlace := ["math/bits.Add64"], named := ["lethe/field.twice"], apart := false, laid := [("lethe/field.twice", laid_lethe_field_twice)] }
def CurveExactSaid : Prop := curveExactRow.holds Tryd.pinned (OpenSpec.ofChange curveExactSpec)

/-- ITS FALSE NEIGHBOUR: 'it returns false'. Refute it at one input. -/
def curveExactWrong : ChangeSpec := { name := "curveExact", fn := fun _ => fun
  | [d] => { results := [.lit (.bool false)], args := [d] }
  | _ => none }
def CurveExactWrongFalsely : Prop := curveExactRow.holds Tryd.pinned (OpenSpec.ofChange curveExactWrong)

/-- 'lethelaw07.CurveAgrees': WHATEVER THE INPUT: true; the input reads as it did. -/
def curveAgreesSpec : ChangeSpec := { name := "curveAgrees", fn := fun _ => fun
  | [d1, d2] => { results := [.lit (.bool true)], args := [d1, d2] }
  | _ => none }
def curveAgreesRow : OpenClaim := { program := "ytjblfkmmbpcpaaadoor", sum := "a2ead426938e372ddc79a8c5a943eed5986c85f39f95608028d6a97a6c875bbb", func := "lethe/lethelaw07.CurveAgrees", spec := "curveAgrees", inPlace := ["math/bits.Add64"], named := ["lethe/field.twice"], apart := false, laid := [("lethe/field.twice", laid_lethe_field_twice)] }
def CurveAgreesSaid : Prop := curveAgreesRow.holds Tryd.pinned (OpenSpec.ofChange curveAgreesSpec)

/-- ITS FALSE NEIGHBOUR: 'it returns false'. Refute it at one input. -/
def curveAgreesWrong : ChangeSpec := { name := "curveAgrees", fn := fun _ => fun
  | [d1, d2] => { results := [.lit (.bool false)], args := [d1, d2] }
  | _ => none }
def CurveAgreesWrongFalsely : Prop := curveAgreesRow.holds Tryd.pinned (OpenSpec.ofChange curveAgreesWrong)

/- THE SECOND FORM. 'bulk': how many values and letters a reading holds, each counted each time it is reached (what is shared counts as often as it is met; a slice's spare places count too). A statement '..UptoSaid' is the law's where the arguments, and the package variables that the reading takes, are together of bulk at most 1048576: NARROWER than '..Said'. Prove '..Said' where nothing that the law and all that it calls make is longer than what came in: it says more and counts as full. Else prove '..UptoSaid'. A law counts once. -/
mutual
def uptoBulk {H : Type} : DataW H → Nat
  | .lit (.string bytes) => bytes.length + 1
  | .lit _ => 1
  | .nil => 1
  | .ptr d => uptoBulk d + 1
  | .slice elems spare => uptoBulkAll elems + uptoBulkAll spare + 1
  | .agg parts => uptoBulkAll parts + 1
  | .iface _ d => uptoBulk d + 1
  | .map entries => uptoBulkEntries entries + 1
  | .held _ => 1
def uptoBulkAll {H : Type} : List (DataW H) → Nat
  | [] => 0
  | d :: r => uptoBulk d + uptoBulkAll r
def uptoBulkEntries {H : Type} : List (Lit × DataW H) → Nat
  | [] => 0
  | x :: r => uptoBulkEntry x + uptoBulkEntries r
def uptoBulkEntry {H : Type} : Lit × DataW H → Nat
  | (.string bytes, d) => bytes.length + uptoBulk d + 1
  | (_, d) => uptoBulk d + 1
 end
def uptoSmall : (H : Type) → List (DataW H) → Bool := fun _ ds => decide (uptoBulkAll ds ≤ 1048576)
def OpenSpec.upto (s : _root_.Go.ChangeSpec) : _root_.Go.OpenSpec := { _root_.Go.OpenSpec.ofChange s with cond := some uptoSmall }

/-- 'lethelaw06.FieldRing', WHERE WHAT IT READS IS OF BULK AT MOST 1048576: true; the input reads as it did. -/
def fieldRingUptoRow : OpenClaim := { program := "ytjblfkmmbpcpaaadoor", sum := "a2ead426938e372ddc79a8c5a943eed5986c85f39f95608028d6a97a6c875bbb", func := "lethe/lethelaw06.FieldRing", spec := "fieldRing", inPlace := ["math/bits.Add64"], named := ["lethe/field.twice"], apart := false, laid := [("lethe/field.twice", laid_lethe_field_twice)], narrowed := true }
def FieldRingUptoSaid : Prop := fieldRingUptoRow.holds Tryd.pinned (OpenSpec.upto fieldRingSpec)

/-- 'lethelaw06.FieldRoots', WHERE WHAT IT READS IS OF BULK AT MOST 1048576: true; the input reads as it did. -/
def fieldRootsUptoRow : OpenClaim := { program := "ytjblfkmmbpcpaaadoor", sum := "a2ead426938e372ddc79a8c5a943eed5986c85f39f95608028d6a97a6c875bbb", func := "lethe/lethelaw06.FieldRoots", spec := "fieldRoots", inPlace := ["math/bits.Add64"], named := ["lethe/field.twice"], apart := false, laid := [("lethe/field.twice", laid_lethe_field_twice)], narrowed := true }
def FieldRootsUptoSaid : Prop := fieldRootsUptoRow.holds Tryd.pinned (OpenSpec.upto fieldRootsSpec)

/-- 'lethelaw06.FieldExact', WHERE WHAT IT READS IS OF BULK AT MOST 1048576: true; the input reads as it did. -/
def fieldExactUptoRow : OpenClaim := { program := "ytjblfkmmbpcpaaadoor", sum := "a2ead426938e372ddc79a8c5a943eed5986c85f39f95608028d6a97a6c875bbb", func := "lethe/lethelaw06.FieldExact", spec := "fieldExact", inPlace := ["math/bits.Add64"], named := ["lethe/field.twice"], apart := false, laid := [("lethe/field.twice", laid_lethe_field_twice)], narrowed := true }
def FieldExactUptoSaid : Prop := fieldExactUptoRow.holds Tryd.pinned (OpenSpec.upto fieldExactSpec)

/-- 'lethelaw07.CurveNames', WHERE WHAT IT READS IS OF BULK AT MOST 1048576: true; the input reads as it did. -/
def curveNamesUptoRow : OpenClaim := { program := "ytjblfkmmbpcpaaadoor", sum := "a2ead426938e372ddc79a8c5a943eed5986c85f39f95608028d6a97a6c875bbb", func := "lethe/lethelaw07.CurveNames", spec := "curveNames", inPlace := ["math/bits.Add64"], named := ["lethe/field.twice"], apart := false, laid := [("lethe/field.twice", laid_lethe_field_twice)], narrowed := true }
def CurveNamesUptoSaid : Prop := curveNamesUptoRow.holds Tryd.pinned (OpenSpec.upto curveNamesSpec)

/-- 'lethelaw07.CurveMeets', WHERE WHAT IT READS IS OF BULK AT MOST 1048576: true; the input reads as it did. -/
def curveMeetsUptoRow : OpenClaim := { program := "ytjblfkmmbpcpaaadoor", sum := "a2ead426938e372ddc79a8c5a943eed5986c85f39f95608028d6a97a6c875bbb", func := "lethe/lethelaw07.CurveMeets", spec := "curveMeets", inPlace := ["math/bits.Add64"], named := ["lethe/field.twice"], apart := false, laid := [("lethe/field.twice", laid_lethe_field_twice)], narrowed := true }
def CurveMeetsUptoSaid : Prop := curveMeetsUptoRow.holds Tryd.pinned (OpenSpec.upto curveMeetsSpec)

/-- 'lethelaw07.CurveForms', WHERE WHAT IT READS IS OF BULK AT MOST 1048576: true; the input reads as it did. -/
def curveFormsUptoRow : OpenClaim := { program := "ytjblfkmmbpcpaaadoor", sum := "a2ead426938e372ddc79a8c5a943eed5986c85f39f95608028d6a97a6c875bbb", func := "lethe/lethelaw07.CurveForms", spec := "curveForms", inPlace := ["math/bits.Add64"], named := ["lethe/field.twice"], apart := false, laid := [("lethe/field.twice", laid_lethe_field_twice)], narrowed := true }
def CurveFormsUptoSaid : Prop := curveFormsUptoRow.holds Tryd.pinned (OpenSpec.upto curveFormsSpec)

/-- 'lethelaw07.CurveLow', WHERE WHAT IT READS IS OF BULK AT MOST 1048576: true; the input reads as it did. -/
def curveLowUptoRow : OpenClaim := { program := "ytjblfkmmbpcpaaadoor", sum := "a2ead426938e372ddc79a8c5a943eed5986c85f39f95608028d6a97a6c875bbb", func := "lethe/lethelaw07.CurveLow", spec := "curveLow", inPlace := ["math/bits.Add64"], named := ["lethe/field.twice"], apart := false, laid := [("lethe/field.twice", laid_lethe_field_twice)], narrowed := true }
def CurveLowUptoSaid : Prop := curveLowUptoRow.holds Tryd.pinned (OpenSpec.upto curveLowSpec)

/-- 'lethelaw07.CurveExact', WHERE WHAT IT READS IS OF BULK AT MOST 1048576: true; the input reads as it did. -/
def curveExactUptoRow : OpenClaim := { program := "ytjblfkmmbpcpaaadoor", sum := "a2ead426938e372ddc79a8c5a943eed5986c85f39f95608028d6a97a6c875bbb", func := "lethe/lethelaw07.CurveExact", spec := "curveExact", inPlace := ["math/bits.Add64"], named := ["lethe/field.twice"], apart := false, laid := [("lethe/field.twice", laid_lethe_field_twice)], narrowed := true }
def CurveExactUptoSaid : Prop := curveExactUptoRow.holds Tryd.pinned (OpenSpec.upto curveExactSpec)

/-- 'lethelaw07.CurveAgrees', WHERE WHAT IT READS IS OF BULK AT MOST 1048576: true; the input reads as it did. -/
def curveAgreesUptoRow : OpenClaim := { program := "ytjblfkmmbpcpaaadoor", sum := "a2ead426938e372ddc79a8c5a943eed5986c85f39f95608028d6a97a6c875bbb", func := "lethe/lethelaw07.CurveAgrees", spec := "curveAgrees", inPlace := ["math/bits.Add64"], named := ["lethe/field.twice"], apart := false, laid := [("lethe/field.twice", laid_lethe_field_twice)], narrowed := true }
def CurveAgreesUptoSaid : Prop := curveAgreesUptoRow.holds Tryd.pinned (OpenSpec.upto curveAgreesSpec)

end Rows
end Go.Proofs.YtjblfkmmbpcpaaaDoor
