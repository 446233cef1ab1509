/-
  NARROWER THAN 'FOR EVERY INPUT', by the rows' own cells (each row's printed sentence says how): RatchetExact: laid · RatchetMeets: laid · RatchetLate: laid · RatchetRefuses: laid · RatchetBinds: laid · RatchetHands: laid.
  DERIVED. THE GIVEN ROWS OF THIS SEAT. 6 by the template 'for every input the law returns true; each argument reads behind the call as it read before'; 0 by the template 'total and deterministic' (their statements: YtjclppnbbpnfnaaGreatDoorTotals.lean).
  GIVEN WITH THE SEED: the statements are not yours to turn. If you find one false, say at which input.
  Laid BY PROGRAM, IN A SANDBOX (cutbox-rows.mjs): the forced cells as the released guide's own fill.sh prints them over the translation eb9c42f9e45bdf6b… (all of the seat's roots in one cut). By AI agents, Wed Nov 11 2026. No macro, syntax, notation, axiom, sorry.
-/
import Derived.Test.YtjclppnbbpnfnaaGreatDoorChecked
import GoSem.Claim
import GoSem.ClaimJoined
import GoSem.ClaimMapViews
import Derived.JoinedTies
import Derived.KernelRfl
namespace Go.Proofs.YtjclppnbbpnfnaaGreatDoor
/- THE CELL 'sum', in the pinned program and in every row, IS THE sha256 OF THE DUMP (.gsa) THAT YtjclppnbbpnfnaaGreatDoorProg.lean LOADS. Nothing in Lean hashes anything: it is a label: what it is worth is what the hold of that sum in a sandbox is worth. -/
noncomputable def Tryz.pinned : Pinned := { name := "ytjclppnbbpnfnaagreatdoor", sum := "eb9c42f9e45bdf6bd990bf3dc8139656469274743ed4bfd28ce4c930e6775e42", checked := Tryz.checked }
namespace Rows
def none {H : Type} : Left H := { results := [], args := [] }

/- WHAT THE LISTED PACKAGE-LEVEL VARIABLES READ AS WHEN THE CALL BEGINS. Each datum BY PROGRAM (the guide's laid-datum.mjs) off the statement by which the dump's own 'gosem.cut.vars' lays the variable. In a bare row this is a premise. The card (YtjclppnbbpnfnaaGreatDoorCards.lean) ties it to the program's text. -/
def laid_lethe_letheref02_constants {H : Type} : DataW H := .agg [.lit (.int .u64 1116352408), .lit (.int .u64 1899447441), .lit (.int .u64 3049323471), .lit (.int .u64 3921009573), .lit (.int .u64 961987163), .lit (.int .u64 1508970993), .lit (.int .u64 2453635748), .lit (.int .u64 2870763221), .lit (.int .u64 3624381080), .lit (.int .u64 310598401), .lit (.int .u64 607225278), .lit (.int .u64 1426881987), .lit (.int .u64 1925078388), .lit (.int .u64 2162078206), .lit (.int .u64 2614888103), .lit (.int .u64 3248222580), .lit (.int .u64 3835390401), .lit (.int .u64 4022224774), .lit (.int .u64 264347078), .lit (.int .u64 604807628), .lit (.int .u64 770255983), .lit (.int .u64 1249150122), .lit (.int .u64 1555081692), .lit (.int .u64 1996064986), .lit (.int .u64 2554220882), .lit (.int .u64 2821834349), .lit (.int .u64 2952996808), .lit (.int .u64 3210313671), .lit (.int .u64 3336571891), .lit (.int .u64 3584528711), .lit (.int .u64 113926993), .lit (.int .u64 338241895), .lit (.int .u64 666307205), .lit (.int .u64 773529912), .lit (.int .u64 1294757372), .lit (.int .u64 1396182291), .lit (.int .u64 1695183700), .lit (.int .u64 1986661051), .lit (.int .u64 2177026350), .lit (.int .u64 2456956037), .lit (.int .u64 2730485921), .lit (.int .u64 2820302411), .lit (.int .u64 3259730800), .lit (.int .u64 3345764771), .lit (.int .u64 3516065817), .lit (.int .u64 3600352804), .lit (.int .u64 4094571909), .lit (.int .u64 275423344), .lit (.int .u64 430227734), .lit (.int .u64 506948616), .lit (.int .u64 659060556), .lit (.int .u64 883997877), .lit (.int .u64 958139571), .lit (.int .u64 1322822218), .lit (.int .u64 1537002063), .lit (.int .u64 1747873779), .lit (.int .u64 1955562222), .lit (.int .u64 2024104815), .lit (.int .u64 2227730452), .lit (.int .u64 2361852424), .lit (.int .u64 2428436474), .lit (.int .u64 2756734187), .lit (.int .u64 3204031479), .lit (.int .u64 3329325298)]
def laid_lethe_letheref02_begin {H : Type} : DataW H := .agg [.lit (.int .u64 1779033703), .lit (.int .u64 3144134277), .lit (.int .u64 1013904242), .lit (.int .u64 2773480762), .lit (.int .u64 1359893119), .lit (.int .u64 2600822924), .lit (.int .u64 528734635), .lit (.int .u64 1541459225)]
def laid_lethe_field_twice {H : Type} : DataW H := .agg [.lit (.int .u64 4503599627370458), .lit (.int .u64 4503599627370494), .lit (.int .u64 4503599627370494), .lit (.int .u64 4503599627370494), .lit (.int .u64 4503599627370494)]
def laid_lethe_sha_constants {H : Type} : DataW H := .agg [.lit (.int .u32 1116352408), .lit (.int .u32 1899447441), .lit (.int .u32 3049323471), .lit (.int .u32 3921009573), .lit (.int .u32 961987163), .lit (.int .u32 1508970993), .lit (.int .u32 2453635748), .lit (.int .u32 2870763221), .lit (.int .u32 3624381080), .lit (.int .u32 310598401), .lit (.int .u32 607225278), .lit (.int .u32 1426881987), .lit (.int .u32 1925078388), .lit (.int .u32 2162078206), .lit (.int .u32 2614888103), .lit (.int .u32 3248222580), .lit (.int .u32 3835390401), .lit (.int .u32 4022224774), .lit (.int .u32 264347078), .lit (.int .u32 604807628), .lit (.int .u32 770255983), .lit (.int .u32 1249150122), .lit (.int .u32 1555081692), .lit (.int .u32 1996064986), .lit (.int .u32 2554220882), .lit (.int .u32 2821834349), .lit (.int .u32 2952996808), .lit (.int .u32 3210313671), .lit (.int .u32 3336571891), .lit (.int .u32 3584528711), .lit (.int .u32 113926993), .lit (.int .u32 338241895), .lit (.int .u32 666307205), .lit (.int .u32 773529912), .lit (.int .u32 1294757372), .lit (.int .u32 1396182291), .lit (.int .u32 1695183700), .lit (.int .u32 1986661051), .lit (.int .u32 2177026350), .lit (.int .u32 2456956037), .lit (.int .u32 2730485921), .lit (.int .u32 2820302411), .lit (.int .u32 3259730800), .lit (.int .u32 3345764771), .lit (.int .u32 3516065817), .lit (.int .u32 3600352804), .lit (.int .u32 4094571909), .lit (.int .u32 275423344), .lit (.int .u32 430227734), .lit (.int .u32 506948616), .lit (.int .u32 659060556), .lit (.int .u32 883997877), .lit (.int .u32 958139571), .lit (.int .u32 1322822218), .lit (.int .u32 1537002063), .lit (.int .u32 1747873779), .lit (.int .u32 1955562222), .lit (.int .u32 2024104815), .lit (.int .u32 2227730452), .lit (.int .u32 2361852424), .lit (.int .u32 2428436474), .lit (.int .u32 2756734187), .lit (.int .u32 3204031479), .lit (.int .u32 3329325298)]
def laid_lethe_sha_begin {H : Type} : DataW H := .agg [.lit (.int .u32 1779033703), .lit (.int .u32 3144134277), .lit (.int .u32 1013904242), .lit (.int .u32 2773480762), .lit (.int .u32 1359893119), .lit (.int .u32 2600822924), .lit (.int .u32 528734635), .lit (.int .u32 1541459225)]
def laid_lethe_lethelaw16_roomy {H : Type} : DataW H := .agg [.lit (.int .i64 0), .lit (.int .i64 0), .lit (.int .i64 64), .lit (.int .i64 256), .lit (.int .i64 0), .lit (.int .u32 1000)]

/-- 'lethelaw16.RatchetExact': WHATEVER THE INPUT: true; the input reads as it did. -/
def ratchetExactSpec : ChangeSpec := { name := "ratchetExact", fn := fun _ => fun
  | [d] => { results := [.lit (.bool true)], args := [d] }
  | _ => none }
def ratchetExactRow : OpenClaim := { program := "ytjclppnbbpnfnaagreatdoor", sum := "eb9c42f9e45bdf6bd990bf3dc8139656469274743ed4bfd28ce4c930e6775e42", func := "lethe/lethelaw16.RatchetExact", spec := "ratchetExact", inPlace := ["math/bits.Add64"], unfollowed := true, recurses := true, named := ["lethe/field.twice", "lethe/sha.begin", "lethe/sha.constants", "lethe/letheref02.begin", "lethe/letheref02.constants"], apart := false, laid := [("lethe/letheref02.constants", laid_lethe_letheref02_constants), ("lethe/letheref02.begin", laid_lethe_letheref02_begin), ("lethe/field.twice", laid_lethe_field_twice), ("lethe/sha.constants", laid_lethe_sha_constants), ("lethe/sha.begin", laid_lethe_sha_begin)] }
def RatchetExactSaid : Prop := ratchetExactRow.holds Tryz.pinned (OpenSpec.ofChange ratchetExactSpec)

/-- ITS FALSE NEIGHBOUR: 'it returns false'. Refute it at one input. -/
def ratchetExactWrong : ChangeSpec := { name := "ratchetExact", fn := fun _ => fun
  | [d] => { results := [.lit (.bool false)], args := [d] }
  | _ => none }
def RatchetExactWrongFalsely : Prop := ratchetExactRow.holds Tryz.pinned (OpenSpec.ofChange ratchetExactWrong)

/-- 'lethelaw16.RatchetMeets': WHATEVER THE INPUT: true; the input reads as it did. -/
def ratchetMeetsSpec : ChangeSpec := { name := "ratchetMeets", fn := fun _ => fun
  | [d1, d2, d3] => { results := [.lit (.bool true)], args := [d1, d2, d3] }
  | _ => none }
def ratchetMeetsRow : OpenClaim := { program := "ytjclppnbbpnfnaagreatdoor", sum := "eb9c42f9e45bdf6bd990bf3dc8139656469274743ed4bfd28ce4c930e6775e42", func := "lethe/lethelaw16.RatchetMeets", spec := "ratchetMeets", inPlace := ["math/bits.Add64"], unfollowed := true, recurses := true, named := ["lethe/field.twice", "lethe/sha.begin", "lethe/sha.constants", "lethe/lethelaw16.roomy"], apart := false, laid := [("lethe/field.twice", laid_lethe_field_twice), ("lethe/sha.constants", laid_lethe_sha_constants), ("lethe/sha.begin", laid_lethe_sha_begin), ("lethe/lethelaw16.roomy", laid_lethe_lethelaw16_roomy)] }
def RatchetMeetsSaid : Prop := ratchetMeetsRow.holds Tryz.pinned (OpenSpec.ofChange ratchetMeetsSpec)

/-- ITS FALSE NEIGHBOUR: 'it returns false'. Refute it at one input. -/
def ratchetMeetsWrong : ChangeSpec := { name := "ratchetMeets", fn := fun _ => fun
  | [d1, d2, d3] => { results := [.lit (.bool false)], args := [d1, d2, d3] }
  | _ => none }
def RatchetMeetsWrongFalsely : Prop := ratchetMeetsRow.holds Tryz.pinned (OpenSpec.ofChange ratchetMeetsWrong)

/-- 'lethelaw16.RatchetLate': WHATEVER THE INPUT: true; the input reads as it did. -/
def ratchetLateSpec : ChangeSpec := { name := "ratchetLate", fn := fun _ => fun
  | [d1, d2, d3, d4] => { results := [.lit (.bool true)], args := [d1, d2, d3, d4] }
  | _ => none }
def ratchetLateRow : OpenClaim := { program := "ytjclppnbbpnfnaagreatdoor", sum := "eb9c42f9e45bdf6bd990bf3dc8139656469274743ed4bfd28ce4c930e6775e42", func := "lethe/lethelaw16.RatchetLate", spec := "ratchetLate", inPlace := ["math/bits.Add64"], unfollowed := true, recurses := true, named := ["lethe/field.twice", "lethe/sha.begin", "lethe/sha.constants", "lethe/lethelaw16.roomy"], apart := false, laid := [("lethe/field.twice", laid_lethe_field_twice), ("lethe/sha.constants", laid_lethe_sha_constants), ("lethe/sha.begin", laid_lethe_sha_begin), ("lethe/lethelaw16.roomy", laid_lethe_lethelaw16_roomy)] }
def RatchetLateSaid : Prop := ratchetLateRow.holds Tryz.pinned (OpenSpec.ofChange ratchetLateSpec)

/-- ITS FALSE NEIGHBOUR: 'it returns false'. Refute it at one input. -/
def ratchetLateWrong : ChangeSpec := { name := "ratchetLate", fn := fun _ => fun
  | [d1, d2, d3, d4] => { results := [.lit (.bool false)], args := [d1, d2, d3, d4] }
  | _ => none }
def RatchetLateWrongFalsely : Prop := ratchetLateRow.holds Tryz.pinned (OpenSpec.ofChange ratchetLateWrong)

/-- 'lethelaw16.RatchetRefuses': WHATEVER THE INPUT: true; the input reads as it did. -/
def ratchetRefusesSpec : ChangeSpec := { name := "ratchetRefuses", fn := fun _ => fun
  | [d1, d2, d3, d4] => { results := [.lit (.bool true)], args := [d1, d2, d3, d4] }
  | _ => none }
def ratchetRefusesRow : OpenClaim := { program := "ytjclppnbbpnfnaagreatdoor", sum := "eb9c42f9e45bdf6bd990bf3dc8139656469274743ed4bfd28ce4c930e6775e42", func := "lethe/lethelaw16.RatchetRefuses", spec := "ratchetRefuses", inPlace := ["math/bits.Add64"], unfollowed := true, recurses := true, named := ["lethe/lethelaw16.roomy", "lethe/field.twice", "lethe/sha.begin", "lethe/sha.constants"], apart := false, laid := [("lethe/field.twice", laid_lethe_field_twice), ("lethe/sha.constants", laid_lethe_sha_constants), ("lethe/sha.begin", laid_lethe_sha_begin), ("lethe/lethelaw16.roomy", laid_lethe_lethelaw16_roomy)] }
def RatchetRefusesSaid : Prop := ratchetRefusesRow.holds Tryz.pinned (OpenSpec.ofChange ratchetRefusesSpec)

/-- ITS FALSE NEIGHBOUR: 'it returns false'. Refute it at one input. -/
def ratchetRefusesWrong : ChangeSpec := { name := "ratchetRefuses", fn := fun _ => fun
  | [d1, d2, d3, d4] => { results := [.lit (.bool false)], args := [d1, d2, d3, d4] }
  | _ => none }
def RatchetRefusesWrongFalsely : Prop := ratchetRefusesRow.holds Tryz.pinned (OpenSpec.ofChange ratchetRefusesWrong)

/-- 'lethelaw16.RatchetBinds': WHATEVER THE INPUT: true; the input reads as it did. -/
def ratchetBindsSpec : ChangeSpec := { name := "ratchetBinds", fn := fun _ => fun
  | [d1, d2, d3, d4, d5, d6] => { results := [.lit (.bool true)], args := [d1, d2, d3, d4, d5, d6] }
  | _ => none }
def ratchetBindsRow : OpenClaim := { program := "ytjclppnbbpnfnaagreatdoor", sum := "eb9c42f9e45bdf6bd990bf3dc8139656469274743ed4bfd28ce4c930e6775e42", func := "lethe/lethelaw16.RatchetBinds", spec := "ratchetBinds", inPlace := ["math/bits.Add64"], unfollowed := true, recurses := true, named := ["lethe/lethelaw16.roomy", "lethe/field.twice", "lethe/sha.begin", "lethe/sha.constants"], apart := false, laid := [("lethe/field.twice", laid_lethe_field_twice), ("lethe/sha.constants", laid_lethe_sha_constants), ("lethe/sha.begin", laid_lethe_sha_begin), ("lethe/lethelaw16.roomy", laid_lethe_lethelaw16_roomy)] }
def RatchetBindsSaid : Prop := ratchetBindsRow.holds Tryz.pinned (OpenSpec.ofChange ratchetBindsSpec)

/-- ITS FALSE NEIGHBOUR: 'it returns false'. Refute it at one input. -/
def ratchetBindsWrong : ChangeSpec := { name := "ratchetBinds", fn := fun _ => fun
  | [d1, d2, d3, d4, d5, d6] => { results := [.lit (.bool false)], args := [d1, d2, d3, d4, d5, d6] }
  | _ => none }
def RatchetBindsWrongFalsely : Prop := ratchetBindsRow.holds Tryz.pinned (OpenSpec.ofChange ratchetBindsWrong)

/-- 'lethelaw16.RatchetHands': WHATEVER THE INPUT: true; the input reads as it did. -/
def ratchetHandsSpec : ChangeSpec := { name := "ratchetHands", fn := fun _ => fun
  | [d1, d2, d3, d4] => { results := [.lit (.bool true)], args := [d1, d2, d3, d4] }
  | _ => none }
def ratchetHandsRow : OpenClaim := { program := "ytjclppnbbpnfnaagreatdoor", sum := "eb9c42f9e45bdf6bd990bf3dc8139656469274743ed4bfd28ce4c930e6775e42", func := "lethe/lethelaw16.RatchetHands", spec := "ratchetHands", inPlace := ["math/bits.Add64"], unfollowed := true, recurses := true, named := ["lethe/lethelaw16.roomy", "lethe/field.twice", "lethe/sha.begin", "lethe/sha.constants"], apart := false, laid := [("lethe/field.twice", laid_lethe_field_twice), ("lethe/sha.constants", laid_lethe_sha_constants), ("lethe/sha.begin", laid_lethe_sha_begin), ("lethe/lethelaw16.roomy", laid_lethe_lethelaw16_roomy)] }
def RatchetHandsSaid : Prop := ratchetHandsRow.holds Tryz.pinned (OpenSpec.ofChange ratchetHandsSpec)

/-- ITS FALSE NEIGHBOUR: 'it returns false'. Refute it at one input. -/
def ratchetHandsWrong : ChangeSpec := { name := "ratchetHands", fn := fun _ => fun
  | [d1, d2, d3, d4] => { results := [.lit (.bool false)], args := [d1, d2, d3, d4] }
  | _ => none }
def RatchetHandsWrongFalsely : Prop := ratchetHandsRow.holds Tryz.pinned (OpenSpec.ofChange ratchetHandsWrong)

/- THE SECOND FORM. 'bulk': how many values and letters a reading holds, each counted each time it is reached (what is shared counts as often as it is met; a slice's spare places count too). A statement '..UptoSaid' is the law's where the arguments, and the package variables that the reading takes, are together of bulk at most 1048576: NARROWER than '..Said'. Prove '..Said' where nothing that the law and all that it calls make is longer than what came in: it says more and counts as full. Else prove '..UptoSaid'. A law counts once. -/
mutual
def uptoBulk {H : Type} : DataW H → Nat
  | .lit (.string bytes) => bytes.length + 1
  | .lit _ => 1
  | .nil => 1
  | .ptr d => uptoBulk d + 1
  | .slice elems spare => uptoBulkAll elems + uptoBulkAll spare + 1
  | .agg parts => uptoBulkAll parts + 1
  | .iface _ d => uptoBulk d + 1
  | .map entries => uptoBulkEntries entries + 1
  | .held _ => 1
def uptoBulkAll {H : Type} : List (DataW H) → Nat
  | [] => 0
  | d :: r => uptoBulk d + uptoBulkAll r
def uptoBulkEntries {H : Type} : List (Lit × DataW H) → Nat
  | [] => 0
  | x :: r => uptoBulkEntry x + uptoBulkEntries r
def uptoBulkEntry {H : Type} : Lit × DataW H → Nat
  | (.string bytes, d) => bytes.length + uptoBulk d + 1
  | (_, d) => uptoBulk d + 1
 end
def uptoSmall : (H : Type) → List (DataW H) → Bool := fun _ ds => decide (uptoBulkAll ds ≤ 1048576)
def OpenSpec.upto (s : _root_.Go.ChangeSpec) : _root_.Go.OpenSpec := { _root_.Go.OpenSpec.ofChange s with cond := some uptoSmall }

/-- 'lethelaw16.RatchetExact', WHERE WHAT IT READS IS OF BULK AT MOST 1048576: true; the input reads as it did. -/
def ratchetExactUptoRow : OpenClaim := { program := "ytjclppnbbpnfnaagreatdoor", sum := "eb9c42f9e45bdf6bd990bf3dc8139656469274743ed4bfd28ce4c930e6775e42", func := "lethe/lethelaw16.RatchetExact", spec := "ratchetExact", inPlace := ["math/bits.Add64"], unfollowed := true, recurses := true, named := ["lethe/field.twice", "lethe/sha.begin", "lethe/sha.constants", "lethe/letheref02.begin", "lethe/letheref02.constants"], apart := false, laid := [("lethe/letheref02.constants", laid_lethe_letheref02_constants), ("lethe/letheref02.begin", laid_lethe_letheref02_begin), ("lethe/field.twice", laid_lethe_field_twice), ("lethe/sha.constants", laid_lethe_sha_constants), ("lethe/sha.begin", laid_lethe_sha_begin)], narrowed := true }
def RatchetExactUptoSaid : Prop := ratchetExactUptoRow.holds Tryz.pinned (OpenSpec.upto ratchetExactSpec)

/-- 'lethelaw16.RatchetMeets', WHERE WHAT IT READS IS OF BULK AT MOST 1048576: true; the input reads as it did. -/
def ratchetMeetsUptoRow : OpenClaim := { program := "ytjclppnbbpnfnaagreatdoor", sum := "eb9c42f9e45bdf6bd990bf3dc8139656469274743ed4bfd28ce4c930e6775e42", func := "lethe/lethelaw16.RatchetMeets", spec := "ratchetMeets", inPlace := ["math/bits.Add64"], unfollowed := true, recurses := true, named := ["lethe/field.twice", "lethe/sha.begin", "lethe/sha.constants", "lethe/lethelaw16.roomy"], apart := false, laid := [("lethe/field.twice", laid_lethe_field_twice), ("lethe/sha.constants", laid_lethe_sha_constants), ("lethe/sha.begin", laid_lethe_sha_begin), ("lethe/lethelaw16.roomy", laid_lethe_lethelaw16_roomy)], narrowed := true }
def RatchetMeetsUptoSaid : Prop := ratchetMeetsUptoRow.holds Tryz.pinned (OpenSpec.upto ratchetMeetsSpec)

/-- 'lethelaw16.RatchetLate', WHERE WHAT IT READS IS OF BULK AT MOST 1048576: true; the input reads as it did. -/
def ratchetLateUptoRow : OpenClaim := { program := "ytjclppnbbpnfnaagreatdoor", sum := "eb9c42f9e45bdf6bd990bf3dc8139656469274743ed4bfd28ce4c930e6775e42", func := "lethe/lethelaw16.RatchetLate", spec := "ratchetLate", inPlace := ["math/bits.Add64"], unfollowed := true, recurses := true, named := ["lethe/field.twice", "lethe/sha.begin", "lethe/sha.constants", "lethe/lethelaw16.roomy"], apart := false, laid := [("lethe/field.twice", laid_lethe_field_twice), ("lethe/sha.constants", laid_lethe_sha_constants), ("lethe/sha.begin", laid_lethe_sha_begin), ("lethe/lethelaw16.roomy", laid_lethe_lethelaw16_roomy)], narrowed := true }
def RatchetLateUptoSaid : Prop := ratchetLateUptoRow.holds Tryz.pinned (OpenSpec.upto ratchetLateSpec)

/-- 'lethelaw16.RatchetRefuses', WHERE WHAT IT READS IS OF BULK AT MOST 1048576: true; the input reads as it did. -/
def ratchetRefusesUptoRow : OpenClaim := { program := "ytjclppnbbpnfnaagreatdoor", sum := "eb9c42f9e45bdf6bd990bf3dc8139656469274743ed4bfd28ce4c930e6775e42", func := "lethe/lethelaw16.RatchetRefuses", spec := "ratchetRefuses", inPlace := ["math/bits.Add64"], unfollowed := true, recurses := true, named := ["lethe/lethelaw16.roomy", "lethe/field.twice", "lethe/sha.begin", "lethe/sha.constants"], apart := false, laid := [("lethe/field.twice", laid_lethe_field_twice), ("lethe/sha.constants", laid_lethe_sha_constants), ("lethe/sha.begin", laid_lethe_sha_begin), ("lethe/lethelaw16.roomy", laid_lethe_lethelaw16_roomy)], narrowed := true }
def RatchetRefusesUptoSaid : Prop := ratchetRefusesUptoRow.holds Tryz.pinned (OpenSpec.upto ratchetRefusesSpec)

/-- 'lethelaw16.RatchetBinds', WHERE WHAT IT READS IS OF BULK AT MOST 1048576: true; the input reads as it did. -/
def ratchetBindsUptoRow : OpenClaim := { program := "ytjclppnbbpnfnaagreatdoor", sum := "eb9c42f9e45bdf6bd990bf3dc8139656469274743ed4bfd28ce4c930e6775e42", func := "lethe/lethelaw16.RatchetBinds", spec := "ratchetBinds", inPlace := ["math/bits.Add64"], unfollowed := true, recurses := true, named := ["lethe/lethelaw16.roomy", "lethe/field.twice", "lethe/sha.begin", "lethe/sha.constants"], apart := false, laid := [("lethe/field.twice", laid_lethe_field_twice), ("lethe/sha.constants", laid_lethe_sha_constants), ("lethe/sha.begin", laid_lethe_sha_begin), ("lethe/lethelaw16.roomy", laid_lethe_lethelaw16_roomy)], narrowed := true }
def RatchetBindsUptoSaid : Prop := ratchetBindsUptoRow.holds Tryz.pinned (OpenSpec.upto ratchetBindsSpec)

/-- 'lethelaw16.RatchetHands', WHERE WHAT IT READS IS OF BULK AT MOST 1048576: true; the input reads as it did. -/
def ratchetHandsUptoRow : OpenClaim := { program := "ytjclppnbbpnfnaagreatdoor", sum := "eb9c42f9e45bdf6bd990bf3dc8139656469274743ed4bfd28ce4c930e6775e42", func := "lethe/lethelaw16.RatchetHands", spec := "ratchetHands", inPlace := ["math/bits.Add64"], unfollowed := true, recurses := true, named := ["lethe/lethelaw16.roomy", "lethe/field.twice", "lethe/sha.begin", "lethe/sha.constants"], apart := false, laid := [("lethe/field.twice", laid_lethe_field_twice), ("lethe/sha.constants", laid_lethe_sha_constants), ("lethe/sha.begin", laid_lethe_sha_begin), ("lethe/lethelaw16.roomy", laid_lethe_lethelaw16_roomy)], narrowed := true }
def RatchetHandsUptoSaid : Prop := ratchetHandsUptoRow.holds Tryz.pinned (OpenSpec.upto ratchetHandsSpec)

end Rows
end Go.Proofs.YtjclppnbbpnfnaaGreatDoor
