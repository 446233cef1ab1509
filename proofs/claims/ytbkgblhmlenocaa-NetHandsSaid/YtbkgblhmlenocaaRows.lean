/-
  No cell of these rows narrows 'for every input' (looked for: loops, veiled, ifaces, maps, wideKeys, modest, calm, conditions, laid).
  DERIVED. THE GIVEN ROWS OF THIS SEAT. 11 by the template 'for every input the law returns true; each argument reads behind the call as it read before'; 0 by the template 'total and deterministic' (their statements: YtbkgblhmlenocaaTotals.lean).
  GIVEN WITH THE SEED: the statements are not yours to turn. If you find one false, say at which input.
  Laid BY PROGRAM, IN A SANDBOX (cutbox-rows.mjs): the forced cells as the released guide's own fill.sh prints them over the translation e1b266071c36ec69… (all of the seat's roots in one cut). By AI agents, Wed Nov 11 2026. No macro, syntax, notation, axiom, sorry.
-/
import Derived.Test.YtbkgblhmlenocaaChecked
import GoSem.Claim
import GoSem.ClaimJoined
import GoSem.ClaimMapViews
import Derived.JoinedTies
import Derived.KernelRfl
namespace Go.Proofs.Ytbkgblhmlenocaa
/- THE CELL 'sum', in the pinned program and in every row, IS THE sha256 OF THE DUMP (.gsa) THAT YtbkgblhmlenocaaProg.lean LOADS. Nothing in Lean hashes anything: it is a label: what it is worth is what the hold of that sum in a sandbox is worth. -/
noncomputable def Try.pinned : Pinned := { name := "ytbkgblhmlenocaa", sum := "e1b266071c36ec691bc24a30b31ca6ed18cbdd737388599151e91edf0c0f3210", checked := Try.checked }
namespace Rows
def none {H : Type} : Left H := { results := [], args := [] }

/-- 'lethelaw11.PackFinds': WHATEVER THE INPUT: true; the input reads as it did. -/
def packFindsSpec : ChangeSpec := { name := "packFinds", fn := fun _ => fun
  | [d1, d2, d3] => { results := [.lit (.bool true)], args := [d1, d2, d3] }
  | _ => none }
def packFindsRow : OpenClaim := { program := "ytbkgblhmlenocaa", sum := "e1b266071c36ec691bc24a30b31ca6ed18cbdd737388599151e91edf0c0f3210", func := "lethe/lethelaw11.PackFinds", spec := "packFinds", inPlace := ["internal/bytealg.Compare"], unfollowed := true, recurses := true, plainKeys := false, apart := false }
def PackFindsSaid : Prop := packFindsRow.holds Try.pinned (OpenSpec.ofChange packFindsSpec)

/-- ITS FALSE NEIGHBOUR: 'it returns false'. Refute it at one input. -/
def packFindsWrong : ChangeSpec := { name := "packFinds", fn := fun _ => fun
  | [d1, d2, d3] => { results := [.lit (.bool false)], args := [d1, d2, d3] }
  | _ => none }
def PackFindsWrongFalsely : Prop := packFindsRow.holds Try.pinned (OpenSpec.ofChange packFindsWrong)

/-- 'lethelaw11.PackOneForm': WHATEVER THE INPUT: true; the input reads as it did. -/
def packOneFormSpec : ChangeSpec := { name := "packOneForm", fn := fun _ => fun
  | [d1, d2, d3] => { results := [.lit (.bool true)], args := [d1, d2, d3] }
  | _ => none }
def packOneFormRow : OpenClaim := { program := "ytbkgblhmlenocaa", sum := "e1b266071c36ec691bc24a30b31ca6ed18cbdd737388599151e91edf0c0f3210", func := "lethe/lethelaw11.PackOneForm", spec := "packOneForm", inPlace := ["internal/bytealg.Compare"], plainKeys := false, apart := false }
def PackOneFormSaid : Prop := packOneFormRow.holds Try.pinned (OpenSpec.ofChange packOneFormSpec)

/-- ITS FALSE NEIGHBOUR: 'it returns false'. Refute it at one input. -/
def packOneFormWrong : ChangeSpec := { name := "packOneForm", fn := fun _ => fun
  | [d1, d2, d3] => { results := [.lit (.bool false)], args := [d1, d2, d3] }
  | _ => none }
def PackOneFormWrongFalsely : Prop := packOneFormRow.holds Try.pinned (OpenSpec.ofChange packOneFormWrong)

/-- 'lethelaw11.PackLayout': WHATEVER THE INPUT: true; the input reads as it did. -/
def packLayoutSpec : ChangeSpec := { name := "packLayout", fn := fun _ => fun
  | [d1, d2] => { results := [.lit (.bool true)], args := [d1, d2] }
  | _ => none }
def packLayoutRow : OpenClaim := { program := "ytbkgblhmlenocaa", sum := "e1b266071c36ec691bc24a30b31ca6ed18cbdd737388599151e91edf0c0f3210", func := "lethe/lethelaw11.PackLayout", spec := "packLayout", inPlace := ["internal/bytealg.Compare"], unfollowed := true, recurses := true, plainKeys := false, apart := false }
def PackLayoutSaid : Prop := packLayoutRow.holds Try.pinned (OpenSpec.ofChange packLayoutSpec)

/-- ITS FALSE NEIGHBOUR: 'it returns false'. Refute it at one input. -/
def packLayoutWrong : ChangeSpec := { name := "packLayout", fn := fun _ => fun
  | [d1, d2] => { results := [.lit (.bool false)], args := [d1, d2] }
  | _ => none }
def PackLayoutWrongFalsely : Prop := packLayoutRow.holds Try.pinned (OpenSpec.ofChange packLayoutWrong)

/-- 'lethelaw11.PackBack': WHATEVER THE INPUT: true; the input reads as it did. -/
def packBackSpec : ChangeSpec := { name := "packBack", fn := fun _ => fun
  | [d] => { results := [.lit (.bool true)], args := [d] }
  | _ => none }
def packBackRow : OpenClaim := { program := "ytbkgblhmlenocaa", sum := "e1b266071c36ec691bc24a30b31ca6ed18cbdd737388599151e91edf0c0f3210", func := "lethe/lethelaw11.PackBack", spec := "packBack", inPlace := ["internal/bytealg.Compare"], unfollowed := true, recurses := true, plainKeys := false, apart := false }
def PackBackSaid : Prop := packBackRow.holds Try.pinned (OpenSpec.ofChange packBackSpec)

/-- ITS FALSE NEIGHBOUR: 'it returns false'. Refute it at one input. -/
def packBackWrong : ChangeSpec := { name := "packBack", fn := fun _ => fun
  | [d] => { results := [.lit (.bool false)], args := [d] }
  | _ => none }
def PackBackWrongFalsely : Prop := packBackRow.holds Try.pinned (OpenSpec.ofChange packBackWrong)

/-- 'lethelaw23.NetHands': WHATEVER THE INPUT: true; the input reads as it did. -/
def netHandsSpec : ChangeSpec := { name := "netHands", fn := fun _ => fun
  | [d1, d2] => { results := [.lit (.bool true)], args := [d1, d2] }
  | _ => none }
def netHandsRow : OpenClaim := { program := "ytbkgblhmlenocaa", sum := "e1b266071c36ec691bc24a30b31ca6ed18cbdd737388599151e91edf0c0f3210", func := "lethe/lethelaw23.NetHands", spec := "netHands", unfollowed := true, recurses := true, plainKeys := false, apart := false }
def NetHandsSaid : Prop := netHandsRow.holds Try.pinned (OpenSpec.ofChange netHandsSpec)

/-- ITS FALSE NEIGHBOUR: 'it returns false'. Refute it at one input. -/
def netHandsWrong : ChangeSpec := { name := "netHands", fn := fun _ => fun
  | [d1, d2] => { results := [.lit (.bool false)], args := [d1, d2] }
  | _ => none }
def NetHandsWrongFalsely : Prop := netHandsRow.holds Try.pinned (OpenSpec.ofChange netHandsWrong)

/-- 'lethelaw15.SkipsOnce': WHATEVER THE INPUT: true; the input reads as it did. -/
def skipsOnceSpec : ChangeSpec := { name := "skipsOnce", fn := fun _ => fun
  | [d1, d2] => { results := [.lit (.bool true)], args := [d1, d2] }
  | _ => none }
def skipsOnceRow : OpenClaim := { program := "ytbkgblhmlenocaa", sum := "e1b266071c36ec691bc24a30b31ca6ed18cbdd737388599151e91edf0c0f3210", func := "lethe/lethelaw15.SkipsOnce", spec := "skipsOnce", unfollowed := true, recurses := true, plainKeys := false, apart := false }
def SkipsOnceSaid : Prop := skipsOnceRow.holds Try.pinned (OpenSpec.ofChange skipsOnceSpec)

/-- ITS FALSE NEIGHBOUR: 'it returns false'. Refute it at one input. -/
def skipsOnceWrong : ChangeSpec := { name := "skipsOnce", fn := fun _ => fun
  | [d1, d2] => { results := [.lit (.bool false)], args := [d1, d2] }
  | _ => none }
def SkipsOnceWrongFalsely : Prop := skipsOnceRow.holds Try.pinned (OpenSpec.ofChange skipsOnceWrong)

/-- 'lethelaw23.NetExact': WHATEVER THE INPUT: true; the input reads as it did. -/
def netExactSpec : ChangeSpec := { name := "netExact", fn := fun _ => fun
  | [d1, d2, d3] => { results := [.lit (.bool true)], args := [d1, d2, d3] }
  | _ => none }
def netExactRow : OpenClaim := { program := "ytbkgblhmlenocaa", sum := "e1b266071c36ec691bc24a30b31ca6ed18cbdd737388599151e91edf0c0f3210", func := "lethe/lethelaw23.NetExact", spec := "netExact", unfollowed := true, recurses := true, plainKeys := false, apart := false }
def NetExactSaid : Prop := netExactRow.holds Try.pinned (OpenSpec.ofChange netExactSpec)

/-- ITS FALSE NEIGHBOUR: 'it returns false'. Refute it at one input. -/
def netExactWrong : ChangeSpec := { name := "netExact", fn := fun _ => fun
  | [d1, d2, d3] => { results := [.lit (.bool false)], args := [d1, d2, d3] }
  | _ => none }
def NetExactWrongFalsely : Prop := netExactRow.holds Try.pinned (OpenSpec.ofChange netExactWrong)

/-- 'lethelaw23.NetIsBag': WHATEVER THE INPUT: true; the input reads as it did. -/
def netIsBagSpec : ChangeSpec := { name := "netIsBag", fn := fun _ => fun
  | [d1, d2] => { results := [.lit (.bool true)], args := [d1, d2] }
  | _ => none }
def netIsBagRow : OpenClaim := { program := "ytbkgblhmlenocaa", sum := "e1b266071c36ec691bc24a30b31ca6ed18cbdd737388599151e91edf0c0f3210", func := "lethe/lethelaw23.NetIsBag", spec := "netIsBag", unfollowed := true, recurses := true, plainKeys := false, apart := false }
def NetIsBagSaid : Prop := netIsBagRow.holds Try.pinned (OpenSpec.ofChange netIsBagSpec)

/-- ITS FALSE NEIGHBOUR: 'it returns false'. Refute it at one input. -/
def netIsBagWrong : ChangeSpec := { name := "netIsBag", fn := fun _ => fun
  | [d1, d2] => { results := [.lit (.bool false)], args := [d1, d2] }
  | _ => none }
def NetIsBagWrongFalsely : Prop := netIsBagRow.holds Try.pinned (OpenSpec.ofChange netIsBagWrong)

/-- 'lethelaw23.NetFull': WHATEVER THE INPUT: true; the input reads as it did. -/
def netFullSpec : ChangeSpec := { name := "netFull", fn := fun _ => fun
  | [d1, d2] => { results := [.lit (.bool true)], args := [d1, d2] }
  | _ => none }
def netFullRow : OpenClaim := { program := "ytbkgblhmlenocaa", sum := "e1b266071c36ec691bc24a30b31ca6ed18cbdd737388599151e91edf0c0f3210", func := "lethe/lethelaw23.NetFull", spec := "netFull", unfollowed := true, recurses := true, plainKeys := false, apart := false }
def NetFullSaid : Prop := netFullRow.holds Try.pinned (OpenSpec.ofChange netFullSpec)

/-- ITS FALSE NEIGHBOUR: 'it returns false'. Refute it at one input. -/
def netFullWrong : ChangeSpec := { name := "netFull", fn := fun _ => fun
  | [d1, d2] => { results := [.lit (.bool false)], args := [d1, d2] }
  | _ => none }
def NetFullWrongFalsely : Prop := netFullRow.holds Try.pinned (OpenSpec.ofChange netFullWrong)

/-- 'lethelaw15.SkipsHands': WHATEVER THE INPUT: true; the input reads as it did. -/
def skipsHandsSpec : ChangeSpec := { name := "skipsHands", fn := fun _ => fun
  | [d1, d2] => { results := [.lit (.bool true)], args := [d1, d2] }
  | _ => none }
def skipsHandsRow : OpenClaim := { program := "ytbkgblhmlenocaa", sum := "e1b266071c36ec691bc24a30b31ca6ed18cbdd737388599151e91edf0c0f3210", func := "lethe/lethelaw15.SkipsHands", spec := "skipsHands", inPlace := ["maps.clone"], unfollowed := true, recurses := true, plainKeys := false, apart := false }
def SkipsHandsSaid : Prop := skipsHandsRow.holds Try.pinned (OpenSpec.ofChange skipsHandsSpec)

/-- ITS FALSE NEIGHBOUR: 'it returns false'. Refute it at one input. -/
def skipsHandsWrong : ChangeSpec := { name := "skipsHands", fn := fun _ => fun
  | [d1, d2] => { results := [.lit (.bool false)], args := [d1, d2] }
  | _ => none }
def SkipsHandsWrongFalsely : Prop := skipsHandsRow.holds Try.pinned (OpenSpec.ofChange skipsHandsWrong)

/-- 'lethelaw15.SkipsExact': WHATEVER THE INPUT: true; the input reads as it did. -/
def skipsExactSpec : ChangeSpec := { name := "skipsExact", fn := fun _ => fun
  | [d1, d2, d3] => { results := [.lit (.bool true)], args := [d1, d2, d3] }
  | _ => none }
def skipsExactRow : OpenClaim := { program := "ytbkgblhmlenocaa", sum := "e1b266071c36ec691bc24a30b31ca6ed18cbdd737388599151e91edf0c0f3210", func := "lethe/lethelaw15.SkipsExact", spec := "skipsExact", inPlace := ["maps.clone"], unfollowed := true, recurses := true, plainKeys := false, apart := false }
def SkipsExactSaid : Prop := skipsExactRow.holds Try.pinned (OpenSpec.ofChange skipsExactSpec)

/-- ITS FALSE NEIGHBOUR: 'it returns false'. Refute it at one input. -/
def skipsExactWrong : ChangeSpec := { name := "skipsExact", fn := fun _ => fun
  | [d1, d2, d3] => { results := [.lit (.bool false)], args := [d1, d2, d3] }
  | _ => none }
def SkipsExactWrongFalsely : Prop := skipsExactRow.holds Try.pinned (OpenSpec.ofChange skipsExactWrong)

/- THE SECOND FORM. 'bulk': how many values and letters a reading holds, each counted each time it is reached (what is shared counts as often as it is met; a slice's spare places count too). A statement '..UptoSaid' is the law's where the arguments, and the package variables that the reading takes, are together of bulk at most 1048576: NARROWER than '..Said'. Prove '..Said' where nothing that the law and all that it calls make is longer than what came in: it says more and counts as full. Else prove '..UptoSaid'. A law counts once. -/
mutual
def uptoBulk {H : Type} : DataW H → Nat
  | .lit (.string bytes) => bytes.length + 1
  | .lit _ => 1
  | .nil => 1
  | .ptr d => uptoBulk d + 1
  | .slice elems spare => uptoBulkAll elems + uptoBulkAll spare + 1
  | .agg parts => uptoBulkAll parts + 1
  | .iface _ d => uptoBulk d + 1
  | .map entries => uptoBulkEntries entries + 1
  | .held _ => 1
def uptoBulkAll {H : Type} : List (DataW H) → Nat
  | [] => 0
  | d :: r => uptoBulk d + uptoBulkAll r
def uptoBulkEntries {H : Type} : List (Lit × DataW H) → Nat
  | [] => 0
  | x :: r => uptoBulkEntry x + uptoBulkEntries r
def uptoBulkEntry {H : Type} : Lit × DataW H → Nat
  | (.string bytes, d) => bytes.length + uptoBulk d + 1
  | (_, d) => uptoBulk d + 1
 end
def uptoSmall : (H : Type) → List (DataW H) → Bool := fun _ ds => decide (uptoBulkAll ds ≤ 1048576)
def OpenSpec.upto (s : _root_.Go.ChangeSpec) : _root_.Go.OpenSpec := { _root_.Go.OpenSpec.ofChange s with cond := some uptoSmall }

/-- 'lethelaw11.PackFinds', WHERE WHAT IT READS IS OF BULK AT MOST 1048576: true; the input reads as it did. -/
def packFindsUptoRow : OpenClaim := { program := "ytbkgblhmlenocaa", sum := "e1b266071c36ec691bc24a30b31ca6ed18cbdd737388599151e91edf0c0f3210", func := "lethe/lethelaw11.PackFinds", spec := "packFinds", inPlace := ["internal/bytealg.Compare"], unfollowed := true, recurses := true, plainKeys := false, apart := false, narrowed := true }
def PackFindsUptoSaid : Prop := packFindsUptoRow.holds Try.pinned (OpenSpec.upto packFindsSpec)

/-- 'lethelaw11.PackOneForm', WHERE WHAT IT READS IS OF BULK AT MOST 1048576: true; the input reads as it did. -/
def packOneFormUptoRow : OpenClaim := { program := "ytbkgblhmlenocaa", sum := "e1b266071c36ec691bc24a30b31ca6ed18cbdd737388599151e91edf0c0f3210", func := "lethe/lethelaw11.PackOneForm", spec := "packOneForm", inPlace := ["internal/bytealg.Compare"], plainKeys := false, apart := false, narrowed := true }
def PackOneFormUptoSaid : Prop := packOneFormUptoRow.holds Try.pinned (OpenSpec.upto packOneFormSpec)

/-- 'lethelaw11.PackLayout', WHERE WHAT IT READS IS OF BULK AT MOST 1048576: true; the input reads as it did. -/
def packLayoutUptoRow : OpenClaim := { program := "ytbkgblhmlenocaa", sum := "e1b266071c36ec691bc24a30b31ca6ed18cbdd737388599151e91edf0c0f3210", func := "lethe/lethelaw11.PackLayout", spec := "packLayout", inPlace := ["internal/bytealg.Compare"], unfollowed := true, recurses := true, plainKeys := false, apart := false, narrowed := true }
def PackLayoutUptoSaid : Prop := packLayoutUptoRow.holds Try.pinned (OpenSpec.upto packLayoutSpec)

/-- 'lethelaw11.PackBack', WHERE WHAT IT READS IS OF BULK AT MOST 1048576: true; the input reads as it did. -/
def packBackUptoRow : OpenClaim := { program := "ytbkgblhmlenocaa", sum := "e1b266071c36ec691bc24a30b31ca6ed18cbdd737388599151e91edf0c0f3210", func := "lethe/lethelaw11.PackBack", spec := "packBack", inPlace := ["internal/bytealg.Compare"], unfollowed := true, recurses := true, plainKeys := false, apart := false, narrowed := true }
def PackBackUptoSaid : Prop := packBackUptoRow.holds Try.pinned (OpenSpec.upto packBackSpec)

/-- 'lethelaw23.NetHands', WHERE WHAT IT READS IS OF BULK AT MOST 1048576: true; the input reads as it did. -/
def netHandsUptoRow : OpenClaim := { program := "ytbkgblhmlenocaa", sum := "e1b266071c36ec691bc24a30b31ca6ed18cbdd737388599151e91edf0c0f3210", func := "lethe/lethelaw23.NetHands", spec := "netHands", unfollowed := true, recurses := true, plainKeys := false, apart := false, narrowed := true }
def NetHandsUptoSaid : Prop := netHandsUptoRow.holds Try.pinned (OpenSpec.upto netHandsSpec)

/-- 'lethelaw15.SkipsOnce', WHERE WHAT IT READS IS OF BULK AT MOST 1048576: true; the input reads as it did. -/
def skipsOnceUptoRow : OpenClaim := { program := "ytbkgblhmlenocaa", sum := "e1b266071c36ec691bc24a30b31ca6ed18cbdd737388599151e91edf0c0f3210", func := "lethe/lethelaw15.SkipsOnce", spec := "skipsOnce", unfollowed := true, recurses := true, plainKeys := false, apart := false, narrowed := true }
def SkipsOnceUptoSaid : Prop := skipsOnceUptoRow.holds Try.pinned (OpenSpec.upto skipsOnceSpec)

/-- 'lethelaw23.NetExact', WHERE WHAT IT READS IS OF BULK AT MOST 1048576: true; the input reads as it did. -/
def netExactUptoRow : OpenClaim := { program := "ytbkgblhmlenocaa", sum := "e1b266071c36ec691bc24a30b31ca6ed18cbdd737388599151e91edf0c0f3210", func := "lethe/lethelaw23.NetExact", spec := "netExact", unfollowed := true, recurses := true, plainKeys := false, apart := false, narrowed := true }
def NetExactUptoSaid : Prop := netExactUptoRow.holds Try.pinned (OpenSpec.upto netExactSpec)

/-- 'lethelaw23.NetIsBag', WHERE WHAT IT READS IS OF BULK AT MOST 1048576: true; the input reads as it did. -/
def netIsBagUptoRow : OpenClaim := { program := "ytbkgblhmlenocaa", sum := "e1b266071c36ec691bc24a30b31ca6ed18cbdd737388599151e91edf0c0f3210", func := "lethe/lethelaw23.NetIsBag", spec := "netIsBag", unfollowed := true, recurses := true, plainKeys := false, apart := false, narrowed := true }
def NetIsBagUptoSaid : Prop := netIsBagUptoRow.holds Try.pinned (OpenSpec.upto netIsBagSpec)

/-- 'lethelaw23.NetFull', WHERE WHAT IT READS IS OF BULK AT MOST 1048576: true; the input reads as it did. -/
def netFullUptoRow : OpenClaim := { program := "ytbkgblhmlenocaa", sum := "e1b266071c36ec691bc24a30b31ca6ed18cbdd737388599151e91edf0c0f3210", func := "lethe/lethelaw23.NetFull", spec := "netFull", unfollowed := true, recurses := true, plainKeys := false, apart := false, narrowed := true }
def NetFullUptoSaid : Prop := netFullUptoRow.holds Try.pinned (OpenSpec.upto netFullSpec)

/-- 'lethelaw15.SkipsHands', WHERE WHAT IT READS IS OF BULK AT MOST 1048576: true; the input reads as it did. -/
def skipsHandsUptoRow : OpenClaim := { program := "ytbkgblhmlenocaa", sum := "e1b266071c36ec691bc24a30b31ca6ed18cbdd737388599151e91edf0c0f3210", func := "lethe/lethelaw15.SkipsHands", spec := "skipsHands", inPlace := ["maps.clone"], unfollowed := true, recurses := true, plainKeys := false, apart := false, narrowed := true }
def SkipsHandsUptoSaid : Prop := skipsHandsUptoRow.holds Try.pinned (OpenSpec.upto skipsHandsSpec)

/-- 'lethelaw15.SkipsExact', WHERE WHAT IT READS IS OF BULK AT MOST 1048576: true; the input reads as it did. -/
def skipsExactUptoRow : OpenClaim := { program := "ytbkgblhmlenocaa", sum := "e1b266071c36ec691bc24a30b31ca6ed18cbdd737388599151e91edf0c0f3210", func := "lethe/lethelaw15.SkipsExact", spec := "skipsExact", inPlace := ["maps.clone"], unfollowed := true, recurses := true, plainKeys := false, apart := false, narrowed := true }
def SkipsExactUptoSaid : Prop := skipsExactUptoRow.holds Try.pinned (OpenSpec.upto skipsExactSpec)

end Rows
end Go.Proofs.Ytbkgblhmlenocaa
