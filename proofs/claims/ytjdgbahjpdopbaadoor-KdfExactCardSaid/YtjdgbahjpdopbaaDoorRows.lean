/-
  NARROWER THAN 'FOR EVERY INPUT', by the rows' own cells (each row's printed sentence says how): ShaIsBlocks: laid · ShaPieces: laid · ShaKnown: laid · ShaExact: laid · ShaApart: laid · KdfIsHash: laid · KdfPads: laid · ChainHands: laid · KdfExpands: laid · KdfExact: laid · KdfBounds: laid · KdfKeys: laid · ChainExact: laid · ChainSteps: laid.
  DERIVED. THE GIVEN ROWS OF THIS SEAT. 14 by the template 'for every input the law returns true; each argument reads behind the call as it read before'; 0 by the template 'total and deterministic' (their statements: YtjdgbahjpdopbaaDoorTotals.lean).
  GIVEN WITH THE SEED: the statements are not yours to turn. If you find one false, say at which input.
  Laid BY PROGRAM, IN A SANDBOX (cutbox-rows.mjs): the forced cells as the released guide's own fill.sh prints them over the translation d089710fc4c151c0… (all of the seat's roots in one cut). By AI agents, Wed Nov 11 2026. No macro, syntax, notation, axiom, sorry.
-/
import Derived.Test.YtjdgbahjpdopbaaDoorChecked
import GoSem.Claim
import GoSem.ClaimJoined
import GoSem.ClaimMapViews
import Derived.JoinedTies
import Derived.KernelRfl
namespace Go.Proofs.YtjdgbahjpdopbaaDoor
/- THE CELL 'sum', in the pinned program and in every row, IS THE sha256 OF THE DUMP (.gsa) THAT YtjdgbahjpdopbaaDoorProg.lean LOADS. Nothing in Lean hashes anything: it is a label: what it is worth is what the hold of that sum in a sandbox is worth. -/
noncomputable def Tryd.pinned : Pinned := { name := "ytjdgbahjpdopbaadoor", sum := "d089710fc4c151c07db19de628bb37b9e1817a0e75f75daebf7c4e4ecc60ffd1", checked := Tryd.checked }
namespace Rows
def none {H : Type} : Left H := { results := [], args := [] }

/- WHAT THE LISTED PACKAGE-LEVEL VARIABLES READ AS WHEN THE CALL BEGINS. Each datum BY PROGRAM (the guide's laid-datum.mjs) off the statement by which the dump's own 'gosem.cut.vars' lays the variable. In a bare row this is a premise. The card (YtjdgbahjpdopbaaDoorCards.lean) ties it to the program's text. -/
def laid_lethe_sha_constants {H : Type} : DataW H := .agg [.lit (.int .u32 1116352408), .lit (.int .u32 1899447441), .lit (.int .u32 3049323471), .lit (.int .u32 3921009573), .lit (.int .u32 961987163), .lit (.int .u32 1508970993), .lit (.int .u32 2453635748), .lit (.int .u32 2870763221), .lit (.int .u32 3624381080), .lit (.int .u32 310598401), .lit (.int .u32 607225278), .lit (.int .u32 1426881987), .lit (.int .u32 1925078388), .lit (.int .u32 2162078206), .lit (.int .u32 2614888103), .lit (.int .u32 3248222580), .lit (.int .u32 3835390401), .lit (.int .u32 4022224774), .lit (.int .u32 264347078), .lit (.int .u32 604807628), .lit (.int .u32 770255983), .lit (.int .u32 1249150122), .lit (.int .u32 1555081692), .lit (.int .u32 1996064986), .lit (.int .u32 2554220882), .lit (.int .u32 2821834349), .lit (.int .u32 2952996808), .lit (.int .u32 3210313671), .lit (.int .u32 3336571891), .lit (.int .u32 3584528711), .lit (.int .u32 113926993), .lit (.int .u32 338241895), .lit (.int .u32 666307205), .lit (.int .u32 773529912), .lit (.int .u32 1294757372), .lit (.int .u32 1396182291), .lit (.int .u32 1695183700), .lit (.int .u32 1986661051), .lit (.int .u32 2177026350), .lit (.int .u32 2456956037), .lit (.int .u32 2730485921), .lit (.int .u32 2820302411), .lit (.int .u32 3259730800), .lit (.int .u32 3345764771), .lit (.int .u32 3516065817), .lit (.int .u32 3600352804), .lit (.int .u32 4094571909), .lit (.int .u32 275423344), .lit (.int .u32 430227734), .lit (.int .u32 506948616), .lit (.int .u32 659060556), .lit (.int .u32 883997877), .lit (.int .u32 958139571), .lit (.int .u32 1322822218), .lit (.int .u32 1537002063), .lit (.int .u32 1747873779), .lit (.int .u32 1955562222), .lit (.int .u32 2024104815), .lit (.int .u32 2227730452), .lit (.int .u32 2361852424), .lit (.int .u32 2428436474), .lit (.int .u32 2756734187), .lit (.int .u32 3204031479), .lit (.int .u32 3329325298)]
def laid_lethe_sha_begin {H : Type} : DataW H := .agg [.lit (.int .u32 1779033703), .lit (.int .u32 3144134277), .lit (.int .u32 1013904242), .lit (.int .u32 2773480762), .lit (.int .u32 1359893119), .lit (.int .u32 2600822924), .lit (.int .u32 528734635), .lit (.int .u32 1541459225)]
def laid_lethe_letheref02_constants {H : Type} : DataW H := .agg [.lit (.int .u64 1116352408), .lit (.int .u64 1899447441), .lit (.int .u64 3049323471), .lit (.int .u64 3921009573), .lit (.int .u64 961987163), .lit (.int .u64 1508970993), .lit (.int .u64 2453635748), .lit (.int .u64 2870763221), .lit (.int .u64 3624381080), .lit (.int .u64 310598401), .lit (.int .u64 607225278), .lit (.int .u64 1426881987), .lit (.int .u64 1925078388), .lit (.int .u64 2162078206), .lit (.int .u64 2614888103), .lit (.int .u64 3248222580), .lit (.int .u64 3835390401), .lit (.int .u64 4022224774), .lit (.int .u64 264347078), .lit (.int .u64 604807628), .lit (.int .u64 770255983), .lit (.int .u64 1249150122), .lit (.int .u64 1555081692), .lit (.int .u64 1996064986), .lit (.int .u64 2554220882), .lit (.int .u64 2821834349), .lit (.int .u64 2952996808), .lit (.int .u64 3210313671), .lit (.int .u64 3336571891), .lit (.int .u64 3584528711), .lit (.int .u64 113926993), .lit (.int .u64 338241895), .lit (.int .u64 666307205), .lit (.int .u64 773529912), .lit (.int .u64 1294757372), .lit (.int .u64 1396182291), .lit (.int .u64 1695183700), .lit (.int .u64 1986661051), .lit (.int .u64 2177026350), .lit (.int .u64 2456956037), .lit (.int .u64 2730485921), .lit (.int .u64 2820302411), .lit (.int .u64 3259730800), .lit (.int .u64 3345764771), .lit (.int .u64 3516065817), .lit (.int .u64 3600352804), .lit (.int .u64 4094571909), .lit (.int .u64 275423344), .lit (.int .u64 430227734), .lit (.int .u64 506948616), .lit (.int .u64 659060556), .lit (.int .u64 883997877), .lit (.int .u64 958139571), .lit (.int .u64 1322822218), .lit (.int .u64 1537002063), .lit (.int .u64 1747873779), .lit (.int .u64 1955562222), .lit (.int .u64 2024104815), .lit (.int .u64 2227730452), .lit (.int .u64 2361852424), .lit (.int .u64 2428436474), .lit (.int .u64 2756734187), .lit (.int .u64 3204031479), .lit (.int .u64 3329325298)]
def laid_lethe_letheref02_begin {H : Type} : DataW H := .agg [.lit (.int .u64 1779033703), .lit (.int .u64 3144134277), .lit (.int .u64 1013904242), .lit (.int .u64 2773480762), .lit (.int .u64 1359893119), .lit (.int .u64 2600822924), .lit (.int .u64 528734635), .lit (.int .u64 1541459225)]

/-- 'lethelaw02.ShaIsBlocks': WHATEVER THE INPUT: true; the input reads as it did. -/
def shaIsBlocksSpec : ChangeSpec := { name := "shaIsBlocks", fn := fun _ => fun
  | [d] => { results := [.lit (.bool true)], args := [d] }
  | _ => none }
def shaIsBlocksRow : OpenClaim := { program := "ytjdgbahjpdopbaadoor", sum := "d089710fc4c151c07db19de628bb37b9e1817a0e75f75daebf7c4e4ecc60ffd1", func := "lethe/lethelaw02.ShaIsBlocks", spec := "shaIsBlocks", named := ["lethe/sha.begin", "lethe/sha.constants"], apart := false, laid := [("lethe/sha.constants", laid_lethe_sha_constants), ("lethe/sha.begin", laid_lethe_sha_begin)] }
def ShaIsBlocksSaid : Prop := shaIsBlocksRow.holds Tryd.pinned (OpenSpec.ofChange shaIsBlocksSpec)

/-- ITS FALSE NEIGHBOUR: 'it returns false'. Refute it at one input. -/
def shaIsBlocksWrong : ChangeSpec := { name := "shaIsBlocks", fn := fun _ => fun
  | [d] => { results := [.lit (.bool false)], args := [d] }
  | _ => none }
def ShaIsBlocksWrongFalsely : Prop := shaIsBlocksRow.holds Tryd.pinned (OpenSpec.ofChange shaIsBlocksWrong)

/-- 'lethelaw02.ShaPieces': WHATEVER THE INPUT: true; the input reads as it did. -/
def shaPiecesSpec : ChangeSpec := { name := "shaPieces", fn := fun _ => fun
  | [d1, d2] => { results := [.lit (.bool true)], args := [d1, d2] }
  | _ => none }
def shaPiecesRow : OpenClaim := { program := "ytjdgbahjpdopbaadoor", sum := "d089710fc4c151c07db19de628bb37b9e1817a0e75f75daebf7c4e4ecc60ffd1", func := "lethe/lethelaw02.ShaPieces", spec := "shaPieces", named := ["lethe/sha.begin", "lethe/sha.constants"], apart := false, laid := [("lethe/sha.constants", laid_lethe_sha_constants), ("lethe/sha.begin", laid_lethe_sha_begin)] }
def ShaPiecesSaid : Prop := shaPiecesRow.holds Tryd.pinned (OpenSpec.ofChange shaPiecesSpec)

/-- ITS FALSE NEIGHBOUR: 'it returns false'. Refute it at one input. -/
def shaPiecesWrong : ChangeSpec := { name := "shaPieces", fn := fun _ => fun
  | [d1, d2] => { results := [.lit (.bool false)], args := [d1, d2] }
  | _ => none }
def ShaPiecesWrongFalsely : Prop := shaPiecesRow.holds Tryd.pinned (OpenSpec.ofChange shaPiecesWrong)

/-- 'lethelaw02.ShaKnown': WHATEVER THE INPUT: true; the input reads as it did. -/
def shaKnownSpec : ChangeSpec := { name := "shaKnown", fn := fun _ => fun
  | [] => { results := [.lit (.bool true)], args := [] }
  | _ => none }
def shaKnownRow : OpenClaim := { program := "ytjdgbahjpdopbaadoor", sum := "d089710fc4c151c07db19de628bb37b9e1817a0e75f75daebf7c4e4ecc60ffd1", func := "lethe/lethelaw02.ShaKnown", spec := "shaKnown", named := ["lethe/sha.begin", "lethe/sha.constants"], apart := false, laid := [("lethe/sha.constants", laid_lethe_sha_constants), ("lethe/sha.begin", laid_lethe_sha_begin)] }
def ShaKnownSaid : Prop := shaKnownRow.holds Tryd.pinned (OpenSpec.ofChange shaKnownSpec)

/-- ITS FALSE NEIGHBOUR: 'it returns false'. Refute it at one input. -/
def shaKnownWrong : ChangeSpec := { name := "shaKnown", fn := fun _ => fun
  | [] => { results := [.lit (.bool false)], args := [] }
  | _ => none }
def ShaKnownWrongFalsely : Prop := shaKnownRow.holds Tryd.pinned (OpenSpec.ofChange shaKnownWrong)

/-- 'lethelaw02.ShaExact': WHATEVER THE INPUT: true; the input reads as it did. -/
def shaExactSpec : ChangeSpec := { name := "shaExact", fn := fun _ => fun
  | [d] => { results := [.lit (.bool true)], args := [d] }
  | _ => none }
def shaExactRow : OpenClaim := { program := "ytjdgbahjpdopbaadoor", sum := "d089710fc4c151c07db19de628bb37b9e1817a0e75f75daebf7c4e4ecc60ffd1", func := "lethe/lethelaw02.ShaExact", spec := "shaExact", named := ["lethe/sha.begin", "lethe/sha.constants", "lethe/letheref02.begin", "lethe/letheref02.constants"], apart := false, laid := [("lethe/letheref02.constants", laid_lethe_letheref02_constants), ("lethe/letheref02.begin", laid_lethe_letheref02_begin), ("lethe/sha.constants", laid_lethe_sha_constants), ("lethe/sha.begin", laid_lethe_sha_begin)] }
def ShaExactSaid : Prop := shaExactRow.holds Tryd.pinned (OpenSpec.ofChange shaExactSpec)

/-- ITS FALSE NEIGHBOUR: 'it returns false'. Refute it at one input. -/
def shaExactWrong : ChangeSpec := { name := "shaExact", fn := fun _ => fun
  | [d] => { results := [.lit (.bool false)], args := [d] }
  | _ => none }
def ShaExactWrongFalsely : Prop := shaExactRow.holds Tryd.pinned (OpenSpec.ofChange shaExactWrong)

/-- 'lethelaw02.ShaApart': WHATEVER THE INPUT: true; the input reads as it did. -/
def shaApartSpec : ChangeSpec := { name := "shaApart", fn := fun _ => fun
  | [d1, d2, d3] => { results := [.lit (.bool true)], args := [d1, d2, d3] }
  | _ => none }
def shaApartRow : OpenClaim := { program := "ytjdgbahjpdopbaadoor", sum := "d089710fc4c151c07db19de628bb37b9e1817a0e75f75daebf7c4e4ecc60ffd1", func := "lethe/lethelaw02.ShaApart", spec := "shaApart", named := ["lethe/sha.begin", "lethe/sha.constants"], apart := false, laid := [("lethe/sha.constants", laid_lethe_sha_constants), ("lethe/sha.begin", laid_lethe_sha_begin)] }
def ShaApartSaid : Prop := shaApartRow.holds Tryd.pinned (OpenSpec.ofChange shaApartSpec)

/-- ITS FALSE NEIGHBOUR: 'it returns false'. Refute it at one input. -/
def shaApartWrong : ChangeSpec := { name := "shaApart", fn := fun _ => fun
  | [d1, d2, d3] => { results := [.lit (.bool false)], args := [d1, d2, d3] }
  | _ => none }
def ShaApartWrongFalsely : Prop := shaApartRow.holds Tryd.pinned (OpenSpec.ofChange shaApartWrong)

/-- 'lethelaw03.KdfIsHash': WHATEVER THE INPUT: true; the input reads as it did. -/
def kdfIsHashSpec : ChangeSpec := { name := "kdfIsHash", fn := fun _ => fun
  | [d1, d2, d3, d4] => { results := [.lit (.bool true)], args := [d1, d2, d3, d4] }
  | _ => none }
def kdfIsHashRow : OpenClaim := { program := "ytjdgbahjpdopbaadoor", sum := "d089710fc4c151c07db19de628bb37b9e1817a0e75f75daebf7c4e4ecc60ffd1", func := "lethe/lethelaw03.KdfIsHash", spec := "kdfIsHash", named := ["lethe/sha.begin", "lethe/sha.constants"], apart := false, laid := [("lethe/sha.constants", laid_lethe_sha_constants), ("lethe/sha.begin", laid_lethe_sha_begin)] }
def KdfIsHashSaid : Prop := kdfIsHashRow.holds Tryd.pinned (OpenSpec.ofChange kdfIsHashSpec)

/-- ITS FALSE NEIGHBOUR: 'it returns false'. Refute it at one input. -/
def kdfIsHashWrong : ChangeSpec := { name := "kdfIsHash", fn := fun _ => fun
  | [d1, d2, d3, d4] => { results := [.lit (.bool false)], args := [d1, d2, d3, d4] }
  | _ => none }
def KdfIsHashWrongFalsely : Prop := kdfIsHashRow.holds Tryd.pinned (OpenSpec.ofChange kdfIsHashWrong)

/-- 'lethelaw03.KdfPads': WHATEVER THE INPUT: true; the input reads as it did. -/
def kdfPadsSpec : ChangeSpec := { name := "kdfPads", fn := fun _ => fun
  | [d1, d2, d3, d4] => { results := [.lit (.bool true)], args := [d1, d2, d3, d4] }
  | _ => none }
def kdfPadsRow : OpenClaim := { program := "ytjdgbahjpdopbaadoor", sum := "d089710fc4c151c07db19de628bb37b9e1817a0e75f75daebf7c4e4ecc60ffd1", func := "lethe/lethelaw03.KdfPads", spec := "kdfPads", named := ["lethe/sha.begin", "lethe/sha.constants"], apart := false, laid := [("lethe/sha.constants", laid_lethe_sha_constants), ("lethe/sha.begin", laid_lethe_sha_begin)] }
def KdfPadsSaid : Prop := kdfPadsRow.holds Tryd.pinned (OpenSpec.ofChange kdfPadsSpec)

/-- ITS FALSE NEIGHBOUR: 'it returns false'. Refute it at one input. -/
def kdfPadsWrong : ChangeSpec := { name := "kdfPads", fn := fun _ => fun
  | [d1, d2, d3, d4] => { results := [.lit (.bool false)], args := [d1, d2, d3, d4] }
  | _ => none }
def KdfPadsWrongFalsely : Prop := kdfPadsRow.holds Tryd.pinned (OpenSpec.ofChange kdfPadsWrong)

/-- 'lethelaw13.ChainHands': WHATEVER THE INPUT: true; the input reads as it did. -/
def chainHandsSpec : ChangeSpec := { name := "chainHands", fn := fun _ => fun
  | [d1, d2, d3] => { results := [.lit (.bool true)], args := [d1, d2, d3] }
  | _ => none }
def chainHandsRow : OpenClaim := { program := "ytjdgbahjpdopbaadoor", sum := "d089710fc4c151c07db19de628bb37b9e1817a0e75f75daebf7c4e4ecc60ffd1", func := "lethe/lethelaw13.ChainHands", spec := "chainHands", named := ["lethe/sha.begin", "lethe/sha.constants"], apart := false, laid := [("lethe/sha.constants", laid_lethe_sha_constants), ("lethe/sha.begin", laid_lethe_sha_begin)] }
def ChainHandsSaid : Prop := chainHandsRow.holds Tryd.pinned (OpenSpec.ofChange chainHandsSpec)

/-- ITS FALSE NEIGHBOUR: 'it returns false'. Refute it at one input. -/
def chainHandsWrong : ChangeSpec := { name := "chainHands", fn := fun _ => fun
  | [d1, d2, d3] => { results := [.lit (.bool false)], args := [d1, d2, d3] }
  | _ => none }
def ChainHandsWrongFalsely : Prop := chainHandsRow.holds Tryd.pinned (OpenSpec.ofChange chainHandsWrong)

/-- 'lethelaw03.KdfExpands': WHATEVER THE INPUT: true; the input reads as it did. -/
def kdfExpandsSpec : ChangeSpec := { name := "kdfExpands", fn := fun _ => fun
  | [d1, d2, d3, d4] => { results := [.lit (.bool true)], args := [d1, d2, d3, d4] }
  | _ => none }
def kdfExpandsRow : OpenClaim := { program := "ytjdgbahjpdopbaadoor", sum := "d089710fc4c151c07db19de628bb37b9e1817a0e75f75daebf7c4e4ecc60ffd1", func := "lethe/lethelaw03.KdfExpands", spec := "kdfExpands", named := ["lethe/sha.begin", "lethe/sha.constants"], apart := false, laid := [("lethe/sha.constants", laid_lethe_sha_constants), ("lethe/sha.begin", laid_lethe_sha_begin)] }
def KdfExpandsSaid : Prop := kdfExpandsRow.holds Tryd.pinned (OpenSpec.ofChange kdfExpandsSpec)

/-- ITS FALSE NEIGHBOUR: 'it returns false'. Refute it at one input. -/
def kdfExpandsWrong : ChangeSpec := { name := "kdfExpands", fn := fun _ => fun
  | [d1, d2, d3, d4] => { results := [.lit (.bool false)], args := [d1, d2, d3, d4] }
  | _ => none }
def KdfExpandsWrongFalsely : Prop := kdfExpandsRow.holds Tryd.pinned (OpenSpec.ofChange kdfExpandsWrong)

/-- 'lethelaw03.KdfExact': WHATEVER THE INPUT: true; the input reads as it did. -/
def kdfExactSpec : ChangeSpec := { name := "kdfExact", fn := fun _ => fun
  | [d] => { results := [.lit (.bool true)], args := [d] }
  | _ => none }
def kdfExactRow : OpenClaim := { program := "ytjdgbahjpdopbaadoor", sum := "d089710fc4c151c07db19de628bb37b9e1817a0e75f75daebf7c4e4ecc60ffd1", func := "lethe/lethelaw03.KdfExact", spec := "kdfExact", named := ["lethe/sha.begin", "lethe/sha.constants", "lethe/letheref02.begin", "lethe/letheref02.constants"], apart := false, laid := [("lethe/letheref02.constants", laid_lethe_letheref02_constants), ("lethe/letheref02.begin", laid_lethe_letheref02_begin), ("lethe/sha.constants", laid_lethe_sha_constants), ("lethe/sha.begin", laid_lethe_sha_begin)] }
def KdfExactSaid : Prop := kdfExactRow.holds Tryd.pinned (OpenSpec.ofChange kdfExactSpec)

/-- ITS FALSE NEIGHBOUR: 'it returns false'. Refute it at one input. -/
def kdfExactWrong : ChangeSpec := { name := "kdfExact", fn := fun _ => fun
  | [d] => { results := [.lit (.bool false)], args := [d] }
  | _ => none }
def KdfExactWrongFalsely : Prop := kdfExactRow.holds Tryd.pinned (OpenSpec.ofChange kdfExactWrong)

/-- 'lethelaw03.KdfBounds': WHATEVER THE INPUT: true; the input reads as it did. -/
def kdfBoundsSpec : ChangeSpec := { name := "kdfBounds", fn := fun _ => fun
  | [d1, d2] => { results := [.lit (.bool true)], args := [d1, d2] }
  | _ => none }
def kdfBoundsRow : OpenClaim := { program := "ytjdgbahjpdopbaadoor", sum := "d089710fc4c151c07db19de628bb37b9e1817a0e75f75daebf7c4e4ecc60ffd1", func := "lethe/lethelaw03.KdfBounds", spec := "kdfBounds", named := ["lethe/sha.begin", "lethe/sha.constants"], apart := false, laid := [("lethe/sha.constants", laid_lethe_sha_constants), ("lethe/sha.begin", laid_lethe_sha_begin)] }
def KdfBoundsSaid : Prop := kdfBoundsRow.holds Tryd.pinned (OpenSpec.ofChange kdfBoundsSpec)

/-- ITS FALSE NEIGHBOUR: 'it returns false'. Refute it at one input. -/
def kdfBoundsWrong : ChangeSpec := { name := "kdfBounds", fn := fun _ => fun
  | [d1, d2] => { results := [.lit (.bool false)], args := [d1, d2] }
  | _ => none }
def KdfBoundsWrongFalsely : Prop := kdfBoundsRow.holds Tryd.pinned (OpenSpec.ofChange kdfBoundsWrong)

/-- 'lethelaw03.KdfKeys': WHATEVER THE INPUT: true; the input reads as it did. -/
def kdfKeysSpec : ChangeSpec := { name := "kdfKeys", fn := fun _ => fun
  | [d1, d2, d3, d4] => { results := [.lit (.bool true)], args := [d1, d2, d3, d4] }
  | _ => none }
def kdfKeysRow : OpenClaim := { program := "ytjdgbahjpdopbaadoor", sum := "d089710fc4c151c07db19de628bb37b9e1817a0e75f75daebf7c4e4ecc60ffd1", func := "lethe/lethelaw03.KdfKeys", spec := "kdfKeys", named := ["lethe/sha.begin", "lethe/sha.constants"], apart := false, laid := [("lethe/sha.constants", laid_lethe_sha_constants), ("lethe/sha.begin", laid_lethe_sha_begin)] }
def KdfKeysSaid : Prop := kdfKeysRow.holds Tryd.pinned (OpenSpec.ofChange kdfKeysSpec)

/-- ITS FALSE NEIGHBOUR: 'it returns false'. Refute it at one input. -/
def kdfKeysWrong : ChangeSpec := { name := "kdfKeys", fn := fun _ => fun
  | [d1, d2, d3, d4] => { results := [.lit (.bool false)], args := [d1, d2, d3, d4] }
  | _ => none }
def KdfKeysWrongFalsely : Prop := kdfKeysRow.holds Tryd.pinned (OpenSpec.ofChange kdfKeysWrong)

/-- 'lethelaw13.ChainExact': WHATEVER THE INPUT: true; the input reads as it did. -/
def chainExactSpec : ChangeSpec := { name := "chainExact", fn := fun _ => fun
  | [d1, d2, d3] => { results := [.lit (.bool true)], args := [d1, d2, d3] }
  | _ => none }
def chainExactRow : OpenClaim := { program := "ytjdgbahjpdopbaadoor", sum := "d089710fc4c151c07db19de628bb37b9e1817a0e75f75daebf7c4e4ecc60ffd1", func := "lethe/lethelaw13.ChainExact", spec := "chainExact", named := ["lethe/sha.begin", "lethe/sha.constants", "lethe/letheref02.begin", "lethe/letheref02.constants"], apart := false, laid := [("lethe/letheref02.constants", laid_lethe_letheref02_constants), ("lethe/letheref02.begin", laid_lethe_letheref02_begin), ("lethe/sha.constants", laid_lethe_sha_constants), ("lethe/sha.begin", laid_lethe_sha_begin)] }
def ChainExactSaid : Prop := chainExactRow.holds Tryd.pinned (OpenSpec.ofChange chainExactSpec)

/-- ITS FALSE NEIGHBOUR: 'it returns false'. Refute it at one input. -/
def chainExactWrong : ChangeSpec := { name := "chainExact", fn := fun _ => fun
  | [d1, d2, d3] => { results := [.lit (.bool false)], args := [d1, d2, d3] }
  | _ => none }
def ChainExactWrongFalsely : Prop := chainExactRow.holds Tryd.pinned (OpenSpec.ofChange chainExactWrong)

/-- 'lethelaw13.ChainSteps': WHATEVER THE INPUT: true; the input reads as it did. -/
def chainStepsSpec : ChangeSpec := { name := "chainSteps", fn := fun _ => fun
  | [d1, d2, d3, d4] => { results := [.lit (.bool true)], args := [d1, d2, d3, d4] }
  | _ => none }
def chainStepsRow : OpenClaim := { program := "ytjdgbahjpdopbaadoor", sum := "d089710fc4c151c07db19de628bb37b9e1817a0e75f75daebf7c4e4ecc60ffd1", func := "lethe/lethelaw13.ChainSteps", spec := "chainSteps", named := ["lethe/sha.begin", "lethe/sha.constants"], apart := false, laid := [("lethe/sha.constants", laid_lethe_sha_constants), ("lethe/sha.begin", laid_lethe_sha_begin)] }
def ChainStepsSaid : Prop := chainStepsRow.holds Tryd.pinned (OpenSpec.ofChange chainStepsSpec)

/-- ITS FALSE NEIGHBOUR: 'it returns false'. Refute it at one input. -/
def chainStepsWrong : ChangeSpec := { name := "chainSteps", fn := fun _ => fun
  | [d1, d2, d3, d4] => { results := [.lit (.bool false)], args := [d1, d2, d3, d4] }
  | _ => none }
def ChainStepsWrongFalsely : Prop := chainStepsRow.holds Tryd.pinned (OpenSpec.ofChange chainStepsWrong)

/- THE SECOND FORM. 'bulk': how many values and letters a reading holds, each counted each time it is reached (what is shared counts as often as it is met; a slice's spare places count too). A statement '..UptoSaid' is the law's where the arguments, and the package variables that the reading takes, are together of bulk at most 1048576: NARROWER than '..Said'. Prove '..Said' where nothing that the law and all that it calls make is longer than what came in: it says more and counts as full. Else prove '..UptoSaid'. A law counts once. -/
mutual
def uptoBulk {H : Type} : DataW H → Nat
  | .lit (.string bytes) => bytes.length + 1
  | .lit _ => 1
  | .nil => 1
  | .ptr d => uptoBulk d + 1
  | .slice elems spare => uptoBulkAll elems + uptoBulkAll spare + 1
  | .agg parts => uptoBulkAll parts + 1
  | .iface _ d => uptoBulk d + 1
  | .map entries => uptoBulkEntries entries + 1
  | .held _ => 1
def uptoBulkAll {H : Type} : List (DataW H) → Nat
  | [] => 0
  | d :: r => uptoBulk d + uptoBulkAll r
def uptoBulkEntries {H : Type} : List (Lit × DataW H) → Nat
  | [] => 0
  | x :: r => uptoBulkEntry x + uptoBulkEntries r
def uptoBulkEntry {H : Type} : Lit × DataW H → Nat
  | (.string bytes, d) => bytes.length + uptoBulk d + 1
  | (_, d) => uptoBulk d + 1
 end
def uptoSmall : (H : Type) → List (DataW H) → Bool := fun _ ds => decide (uptoBulkAll ds ≤ 1048576)
def OpenSpec.upto (s : _root_.Go.ChangeSpec) : _root_.Go.OpenSpec := { _root_.Go.OpenSpec.ofChange s with cond := some uptoSmall }

/-- 'lethelaw02.ShaIsBlocks', WHERE WHAT IT READS IS OF BULK AT MOST 1048576: true; the input reads as it did. -/
def shaIsBlocksUptoRow : OpenClaim := { program := "ytjdgbahjpdopbaadoor", sum := "d089710fc4c151c07db19de628bb37b9e1817a0e75f75daebf7c4e4ecc60ffd1", func := "lethe/lethelaw02.ShaIsBlocks", spec := "shaIsBlocks", named := ["lethe/sha.begin", "lethe/sha.constants"], apart := false, laid := [("lethe/sha.constants", laid_lethe_sha_constants), ("lethe/sha.begin", laid_lethe_sha_begin)], narrowed := true }
def ShaIsBlocksUptoSaid : Prop := shaIsBlocksUptoRow.holds Tryd.pinned (OpenSpec.upto shaIsBlocksSpec)

/-- 'lethelaw02.ShaPieces', WHERE WHAT IT READS IS OF BULK AT MOST 1048576: true; the input reads as it did. -/
def shaPiecesUptoRow : OpenClaim := { program := "ytjdgbahjpdopbaadoor", sum := "d089710fc4c151c07db19de628bb37b9e1817a0e75f75daebf7c4e4ecc60ffd1", func := "lethe/lethelaw02.ShaPieces", spec := "shaPieces", named := ["lethe/sha.begin", "lethe/sha.constants"], apart := false, laid := [("lethe/sha.constants", laid_lethe_sha_constants), ("lethe/sha.begin", laid_lethe_sha_begin)], narrowed := true }
def ShaPiecesUptoSaid : Prop := shaPiecesUptoRow.holds Tryd.pinned (OpenSpec.upto shaPiecesSpec)

/-- 'lethelaw02.ShaKnown', WHERE WHAT IT READS IS OF BULK AT MOST 1048576: true; the input reads as it did. -/
def shaKnownUptoRow : OpenClaim := { program := "ytjdgbahjpdopbaadoor", sum := "d089710fc4c151c07db19de628bb37b9e1817a0e75f75daebf7c4e4ecc60ffd1", func := "lethe/lethelaw02.ShaKnown", spec := "shaKnown", named := ["lethe/sha.begin", "lethe/sha.constants"], apart := false, laid := [("lethe/sha.constants", laid_lethe_sha_constants), ("lethe/sha.begin", laid_lethe_sha_begin)], narrowed := true }
def ShaKnownUptoSaid : Prop := shaKnownUptoRow.holds Tryd.pinned (OpenSpec.upto shaKnownSpec)

/-- 'lethelaw02.ShaExact', WHERE WHAT IT READS IS OF BULK AT MOST 1048576: true; the input reads as it did. -/
def shaExactUptoRow : OpenClaim := { program := "ytjdgbahjpdopbaadoor", sum := "d089710fc4c151c07db19de628bb37b9e1817a0e75f75daebf7c4e4ecc60ffd1", func := "lethe/lethelaw02.ShaExact", spec := "shaExact", named := ["lethe/sha.begin", "lethe/sha.constants", "lethe/letheref02.begin", "lethe/letheref02.constants"], apart := false, laid := [("lethe/letheref02.constants", laid_lethe_letheref02_constants), ("lethe/letheref02.begin", laid_lethe_letheref02_begin), ("lethe/sha.constants", laid_lethe_sha_constants), ("lethe/sha.begin", laid_lethe_sha_begin)], narrowed := true }
def ShaExactUptoSaid : Prop := shaExactUptoRow.holds Tryd.pinned (OpenSpec.upto shaExactSpec)

/-- 'lethelaw02.ShaApart', WHERE WHAT IT READS IS OF BULK AT MOST 1048576: true; the input reads as it did. -/
def shaApartUptoRow : OpenClaim := { program := "ytjdgbahjpdopbaadoor", sum := "d089710fc4c151c07db19de628bb37b9e1817a0e75f75daebf7c4e4ecc60ffd1", func := "lethe/lethelaw02.ShaApart", spec := "shaApart", named := ["lethe/sha.begin", "lethe/sha.constants"], apart := false, laid := [("lethe/sha.constants", laid_lethe_sha_constants), ("lethe/sha.begin", laid_lethe_sha_begin)], narrowed := true }
def ShaApartUptoSaid : Prop := shaApartUptoRow.holds Tryd.pinned (OpenSpec.upto shaApartSpec)

/-- 'lethelaw03.KdfIsHash', WHERE WHAT IT READS IS OF BULK AT MOST 1048576: true; the input reads as it did. -/
def kdfIsHashUptoRow : OpenClaim := { program := "ytjdgbahjpdopbaadoor", sum := "d089710fc4c151c07db19de628bb37b9e1817a0e75f75daebf7c4e4ecc60ffd1", func := "lethe/lethelaw03.KdfIsHash", spec := "kdfIsHash", named := ["lethe/sha.begin", "lethe/sha.constants"], apart := false, laid := [("lethe/sha.constants", laid_lethe_sha_constants), ("lethe/sha.begin", laid_lethe_sha_begin)], narrowed := true }
def KdfIsHashUptoSaid : Prop := kdfIsHashUptoRow.holds Tryd.pinned (OpenSpec.upto kdfIsHashSpec)

/-- 'lethelaw03.KdfPads', WHERE WHAT IT READS IS OF BULK AT MOST 1048576: true; the input reads as it did. -/
def kdfPadsUptoRow : OpenClaim := { program := "ytjdgbahjpdopbaadoor", sum := "d089710fc4c151c07db19de628bb37b9e1817a0e75f75daebf7c4e4ecc60ffd1", func := "lethe/lethelaw03.KdfPads", spec := "kdfPads", named := ["lethe/sha.begin", "lethe/sha.constants"], apart := false, laid := [("lethe/sha.constants", laid_lethe_sha_constants), ("lethe/sha.begin", laid_lethe_sha_begin)], narrowed := true }
def KdfPadsUptoSaid : Prop := kdfPadsUptoRow.holds Tryd.pinned (OpenSpec.upto kdfPadsSpec)

/-- 'lethelaw13.ChainHands', WHERE WHAT IT READS IS OF BULK AT MOST 1048576: true; the input reads as it did. -/
def chainHandsUptoRow : OpenClaim := { program := "ytjdgbahjpdopbaadoor", sum := "d089710fc4c151c07db19de628bb37b9e1817a0e75f75daebf7c4e4ecc60ffd1", func := "lethe/lethelaw13.ChainHands", spec := "chainHands", named := ["lethe/sha.begin", "lethe/sha.constants"], apart := false, laid := [("lethe/sha.constants", laid_lethe_sha_constants), ("lethe/sha.begin", laid_lethe_sha_begin)], narrowed := true }
def ChainHandsUptoSaid : Prop := chainHandsUptoRow.holds Tryd.pinned (OpenSpec.upto chainHandsSpec)

/-- 'lethelaw03.KdfExpands', WHERE WHAT IT READS IS OF BULK AT MOST 1048576: true; the input reads as it did. -/
def kdfExpandsUptoRow : OpenClaim := { program := "ytjdgbahjpdopbaadoor", sum := "d089710fc4c151c07db19de628bb37b9e1817a0e75f75daebf7c4e4ecc60ffd1", func := "lethe/lethelaw03.KdfExpands", spec := "kdfExpands", named := ["lethe/sha.begin", "lethe/sha.constants"], apart := false, laid := [("lethe/sha.constants", laid_lethe_sha_constants), ("lethe/sha.begin", laid_lethe_sha_begin)], narrowed := true }
def KdfExpandsUptoSaid : Prop := kdfExpandsUptoRow.holds Tryd.pinned (OpenSpec.upto kdfExpandsSpec)

/-- 'lethelaw03.KdfExact', WHERE WHAT IT READS IS OF BULK AT MOST 1048576: true; the input reads as it did. -/
def kdfExactUptoRow : OpenClaim := { program := "ytjdgbahjpdopbaadoor", sum := "d089710fc4c151c07db19de628bb37b9e1817a0e75f75daebf7c4e4ecc60ffd1", func := "lethe/lethelaw03.KdfExact", spec := "kdfExact", named := ["lethe/sha.begin", "lethe/sha.constants", "lethe/letheref02.begin", "lethe/letheref02.constants"], apart := false, laid := [("lethe/letheref02.constants", laid_lethe_letheref02_constants), ("lethe/letheref02.begin", laid_lethe_letheref02_begin), ("lethe/sha.constants", laid_lethe_sha_constants), ("lethe/sha.begin", laid_lethe_sha_begin)], narrowed := true }
def KdfExactUptoSaid : Prop := kdfExactUptoRow.holds Tryd.pinned (OpenSpec.upto kdfExactSpec)

/-- 'lethelaw03.KdfBounds', WHERE WHAT IT READS IS OF BULK AT MOST 1048576: true; the input reads as it did. -/
def kdfBoundsUptoRow : OpenClaim := { program := "ytjdgbahjpdopbaadoor", sum := "d089710fc4c151c07db19de628bb37b9e1817a0e75f75daebf7c4e4ecc60ffd1", func := "lethe/lethelaw03.KdfBounds", spec := "kdfBounds", named := ["lethe/sha.begin", "lethe/sha.constants"], apart := false, laid := [("lethe/sha.constants", laid_lethe_sha_constants), ("lethe/sha.begin", laid_lethe_sha_begin)], narrowed := true }
def KdfBoundsUptoSaid : Prop := kdfBoundsUptoRow.holds Tryd.pinned (OpenSpec.upto kdfBoundsSpec)

/-- 'lethelaw03.KdfKeys', WHERE WHAT IT READS IS OF BULK AT MOST 1048576: true; the input reads as it did. -/
def kdfKeysUptoRow : OpenClaim := { program := "ytjdgbahjpdopbaadoor", sum := "d089710fc4c151c07db19de628bb37b9e1817a0e75f75daebf7c4e4ecc60ffd1", func := "lethe/lethelaw03.KdfKeys", spec := "kdfKeys", named := ["lethe/sha.begin", "lethe/sha.constants"], apart := false, laid := [("lethe/sha.constants", laid_lethe_sha_constants), ("lethe/sha.begin", laid_lethe_sha_begin)], narrowed := true }
def KdfKeysUptoSaid : Prop := kdfKeysUptoRow.holds Tryd.pinned (OpenSpec.upto kdfKeysSpec)

/-- 'lethelaw13.ChainExact', WHERE WHAT IT READS IS OF BULK AT MOST 1048576: true; the input reads as it did. -/
def chainExactUptoRow : OpenClaim := { program := "ytjdgbahjpdopbaadoor", sum := "d089710fc4c151c07db19de628bb37b9e1817a0e75f75daebf7c4e4ecc60ffd1", func := "lethe/lethelaw13.ChainExact", spec := "chainExact", named := ["lethe/sha.begin", "lethe/sha.constants", "lethe/letheref02.begin", "lethe/letheref02.constants"], apart := false, laid := [("lethe/letheref02.constants", laid_lethe_letheref02_constants), ("lethe/letheref02.begin", laid_lethe_letheref02_begin), ("lethe/sha.constants", laid_lethe_sha_constants), ("lethe/sha.begin", laid_lethe_sha_begin)], narrowed := true }
def ChainExactUptoSaid : Prop := chainExactUptoRow.holds Tryd.pinned (OpenSpec.upto chainExactSpec)

/-- 'lethelaw13.ChainSteps', WHERE WHAT IT READS IS OF BULK AT MOST 1048576: true; the input reads as it did. -/
def chainStepsUptoRow : OpenClaim := { program := "ytjdgbahjpdopbaadoor", sum := "d089710fc4c151c07db19de628bb37b9e1817a0e75f75daebf7c4e4ecc60ffd1", func := "lethe/lethelaw13.ChainSteps", spec := "chainSteps", named := ["lethe/sha.begin", "lethe/sha.constants"], apart := false, laid := [("lethe/sha.constants", laid_lethe_sha_constants), ("lethe/sha.begin", laid_lethe_sha_begin)], narrowed := true }
def ChainStepsUptoSaid : Prop := chainStepsUptoRow.holds Tryd.pinned (OpenSpec.upto chainStepsSpec)

end Rows
end Go.Proofs.YtjdgbahjpdopbaaDoor
