/-
 ELEMENTS of slices, printed by this session's own program (auto.py).
-/
import Derived.Test.YtjclppnbbpnfnaaGreatDoorEd
namespace Go.Proofs.YtjclppnbbpnfnaaGreatDoor
set_option linter.unusedSimpArgs false
set_option linter.unusedVariables false
set_option linter.unusedSectionVars false
open Go Go.LW
def D3:EL where
 α:=Int
 β:=Unit
 sz:=1
 E:=fun _ x=> [(1,fun _=> .int .i64 x)]
 val:=fun _ x=> .int .i64 x
 ck:=fun _=>True
 side:=fun _ _ _=>True
 hlen:=fun _ x=>(fj _).trans rfl
 dQ:=fun _ _=>rfl
 one:=fun _ x=>ja.mem ⟨fun _=>rfl,trivial⟩
 h9:=fun _ _ _ _=>trivial
 mono:=fun _ _ _ _ h=>h
theorem DO:D3.flat:=fun _ _ _ _ h=>h
def dp:EL where
 α:=(Int×(Nat→BitVec 8)×(BitVec 32)×(Nat→BitVec 8)×(BitVec 32)×(BitVec 32)×(List af)×(List af)×(List af))
 β:=(Option Addr×Nat)
 sz:=55
 E:=fun b x=> [(1,fun _=> .int .i64 x.1),(16,fun q=>VU .u8 (x.2.1 q)),(1,fun _=>VU .u32 x.2.2.1),(32,fun q=>VU .u8 (x.2.2.2.1 q)),(1,fun _=>VU .u32 x.2.2.2.2.1),(1,fun _=>VU .u32 x.2.2.2.2.2.1),(1,fun _=> .slice b.1 x.2.2.2.2.2.2.1.length b.2),(1,fun _=> .string (bV x.2.2.2.2.2.2.2.1)),(1,fun _=> .string (bV x.2.2.2.2.2.2.2.2))]
 val:=fun b x=>AG [(1,fun _=> .int .i64 x.1),(16,fun q=>VU .u8 (x.2.1 q)),(1,fun _=>VU .u32 x.2.2.1),(32,fun q=>VU .u8 (x.2.2.2.1 q)),(1,fun _=>VU .u32 x.2.2.2.2.1),(1,fun _=>VU .u32 x.2.2.2.2.2.1),(1,fun _=> .slice b.1 x.2.2.2.2.2.2.1.length b.2),(1,fun _=> .string (bV x.2.2.2.2.2.2.2.1)),(1,fun _=> .string (bV x.2.2.2.2.2.2.2.2))]
 ck:=fun _=>True
 side:=fun L b x=>(∃a,Bx L a b.1 x.2.2.2.2.2.2.1.length b.2 x.2.2.2.2.2.2.1)
 hlen:=fun _ x=>(fj _).trans rfl
 dQ:=fun _ _=>rfl
 one:=fun _ x=>ja.mem ⟨fun _=>rfl,fun _=>rfl,fun _=>rfl,fun _=>rfl,fun _=>rfl,fun _=>rfl,fun _=>rfl,fun _=>rfl,fun _=>rfl,trivial⟩
 h9:=fun _ _ _ _=>trivial
 mono:=fun C L b x h=>by
   obtain ⟨_,c⟩:=h
   exact ⟨_,c.app C⟩
theorem gG:dp.jE:=by
 intro L L' b x hs h
 obtain ⟨_,a⟩:=h
 exact Bx.lift a hs
def bB:EL where
 α:=((BitVec 32)×(BitVec 32)×(Nat→BitVec 8))
 β:=Unit
 sz:=34
 E:=fun _ x=> [(1,fun _=>VU .u32 x.1),(1,fun _=>VU .u32 x.2.1),(32,fun q=>VU .u8 (x.2.2 q))]
 val:=fun _ x=>AG [(1,fun _=>VU .u32 x.1),(1,fun _=>VU .u32 x.2.1),(32,fun q=>VU .u8 (x.2.2 q))]
 ck:=fun _=>True
 side:=fun _ _ _=>True
 hlen:=fun _ x=>(fj _).trans rfl
 dQ:=fun _ _=>rfl
 one:=fun _ x=>ja.mem ⟨fun _=>rfl,fun _=>rfl,fun _=>rfl,trivial⟩
 h9:=fun _ _ _ _=>trivial
 mono:=fun _ _ _ _ h=>h
theorem gg:bB.flat:=fun _ _ _ _ h=>h
def cx:EL where
 α:=((BitVec 32)×Int×Int)
 β:=Unit
 sz:=3
 E:=fun _ x=> [(1,fun _=>VU .u32 x.1),(1,fun _=> .int .i64 x.2.1),(1,fun _=> .int .i64 x.2.2)]
 val:=fun _ x=>AG [(1,fun _=>VU .u32 x.1),(1,fun _=> .int .i64 x.2.1),(1,fun _=> .int .i64 x.2.2)]
 ck:=fun _=>True
 side:=fun _ _ _=>True
 hlen:=fun _ x=>(fj _).trans rfl
 dQ:=fun _ _=>rfl
 one:=fun _ x=>ja.mem ⟨fun _=>rfl,fun _=>rfl,fun _=>rfl,trivial⟩
 h9:=fun _ _ _ _=>trivial
 mono:=fun _ _ _ _ h=>h
theorem fp:cx.flat:=fun _ _ _ _ h=>h
end Go.Proofs.YtjclppnbbpnfnaaGreatDoor
