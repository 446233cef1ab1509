/-
 WALKS of the package's functions, printed by this session's own program (auto.py).
-/
import Derived.Test.YtjclppnbbpnfnaaGreatDoorWF
import Derived.Test.YtjclppnbbpnfnaaGreatDoorProg
import Derived.Test.YtjclppnbbpnfnaaGreatDoorEd
import Derived.Test.YtjclppnbbpnfnaaGreatDoorRBits
import Derived.Test.YtjclppnbbpnfnaaGreatDoorEls
namespace Go.Proofs.YtjclppnbbpnfnaaGreatDoor
set_option linter.unusedSimpArgs false
set_option linter.unusedVariables false
set_option linter.unusedSectionVars false
set_option maxRecDepth 8000
set_option maxHeartbeats 1000000
open Go Go.LW
theorem EJ {B:Nat} {w0:aC} {w:World} {L:List Rg} {a b:BitVec 64} {r:((BitVec 64)×(BitVec 64))} (q:o6 a b r) (s:St B w0 (L) w):
  Calls Tryz.prog 170 #[VU .u64 a,VU .u64 b] w fun e w'=>e= .returned (.tuple #[VU .u64 r.1,VU .u64 r.2])∧St B w0 (L) w':=by
 refine W.enter 51 Tryz.func170 rr rr rr ?_
 unfold o6 at q
 refine ad fun _ d=>ag 2 3 ?_
 refine ak rr rr<|ak rr rr<|aa.fin d ?_;clear d
 refine ad fun _ f=>ag 3 7 ?_
 refine aj rr rr<|dx .u64 (X:=a) (Y:=4294967295#64) rr rr rr<|ak rr rr<|aa.fin f ?_;clear f
 refine ad fun _ g=>ag 3 7 ?_
 refine aj rr rr<|cJ .u64 (X:=a) (c:=32) rr rr rr<|ak rr rr<|aa.fin g ?_;clear g
 refine ad fun _ h=>ag 3 7 ?_
 refine aj rr rr<|dx .u64 (X:=b) (Y:=4294967295#64) rr rr rr<|ak rr rr<|aa.fin h ?_;clear h
 refine ad fun _ i=>ag 3 7 ?_
 refine aj rr rr<|cJ .u64 (X:=b) (c:=32) rr rr rr<|ak rr rr<|aa.fin i ?_;clear i
 refine ad fun _ j=>ag 4 15 ?_
 refine aj rr rr<|aj rr rr<|gH .u64 (X:=(a &&& (4294967295#64))) (Y:=(b &&& (4294967295#64))) rr rr rr<|ak rr rr<|aa.fin j ?_;clear j
 refine ad fun _ k=>ag 7 127 ?_
 refine aj rr rr<|aj rr rr<|gH .u64 (X:=(a >>> 32)) (Y:=(b &&& (4294967295#64))) rr rr rr<|aj rr rr<|cJ .u64 (X:=((a &&& (4294967295#64))*(b &&& (4294967295#64)))) (c:=32) rr rr rr<|cD .u64 (X:=((a >>> 32)*(b &&& (4294967295#64)))) (Y:=(((a &&& (4294967295#64))*(b &&& (4294967295#64))) >>> 32)) rr rr rr<|ak rr rr<|aa.fin k ?_;clear k
 refine ad fun _ l=>ag 3 7 ?_
 refine aj rr rr<|dx .u64 (X:=(((a >>> 32)*(b &&& (4294967295#64)))+(((a &&& (4294967295#64))*(b &&& (4294967295#64))) >>> 32))) (Y:=4294967295#64) rr rr rr<|ak rr rr<|aa.fin l ?_;clear l
 refine ad fun _ m=>ag 3 7 ?_
 refine aj rr rr<|cJ .u64 (X:=(((a >>> 32)*(b &&& (4294967295#64)))+(((a &&& (4294967295#64))*(b &&& (4294967295#64))) >>> 32))) (c:=32) rr rr rr<|ak rr rr<|aa.fin m ?_;clear m
 refine ad fun _ n=>ag 6 63 ?_
 refine aj rr rr<|aj rr rr<|aj rr rr<|gH .u64 (X:=(a &&& (4294967295#64))) (Y:=(b >>> 32)) rr rr rr<|cD .u64 (X:=((((a >>> 32)*(b &&& (4294967295#64)))+(((a &&& (4294967295#64))*(b &&& (4294967295#64))) >>> 32)) &&& (4294967295#64))) (Y:=((a &&& (4294967295#64))*(b >>> 32))) rr rr rr<|ak rr rr<|aa.fin n ?_;clear n
 refine ad fun _ o=>ag 9 511 ?_
 refine aj rr rr<|aj rr rr<|gH .u64 (X:=(a >>> 32)) (Y:=(b >>> 32)) rr rr rr<|aj rr rr<|cD .u64 (X:=((a >>> 32)*(b >>> 32))) (Y:=((((a >>> 32)*(b &&& (4294967295#64)))+(((a &&& (4294967295#64))*(b &&& (4294967295#64))) >>> 32)) >>> 32)) rr rr rr<|aj rr rr<|cJ .u64 (X:=(((((a >>> 32)*(b &&& (4294967295#64)))+(((a &&& (4294967295#64))*(b &&& (4294967295#64))) >>> 32)) &&& (4294967295#64))+((a &&& (4294967295#64))*(b >>> 32)))) (c:=32) rr rr rr<|cD .u64 (X:=(((a >>> 32)*(b >>> 32))+((((a >>> 32)*(b &&& (4294967295#64)))+(((a &&& (4294967295#64))*(b &&& (4294967295#64))) >>> 32)) >>> 32))) (Y:=((((((a >>> 32)*(b &&& (4294967295#64)))+(((a &&& (4294967295#64))*(b &&& (4294967295#64))) >>> 32)) &&& (4294967295#64))+((a &&& (4294967295#64))*(b >>> 32))) >>> 32)) rr rr rr ?_
 refine ak rr rr<|aa.fin o ?_;clear o
 refine ad fun _ p=>ag 4 15 ?_
 refine aj rr rr<|aj rr rr<|gH .u64 (X:=a) (Y:=b) rr rr rr<|ak rr rr<|aa.fin p ?_;clear p
 refine W.ret (aB ?_)
 subst r
 refine ax.mk (.bj rr (.bj rr .nil)) ?_
 exact ⟨rr,s⟩
theorem Fw {B:Nat} {w0:aC} {w:World} {L:List Rg} {d:U4} {b:Int} {r:U4} (i:tb d b r) (j:St B w0 (L) w):
  Calls Tryz.prog 167 #[VU .u32 d,.int .i64 b] w fun e w'=>e= .returned (VU .u32 r)∧St B w0 (L) w':=by
 refine W.enter 17 Tryz.func167 rr rr rr ?_
 unfold tb at i
 refine ad fun _ f=>ag 1 1 ?_
 refine ak rr rr<|aa.fin f ?_;clear f
 refine ad fun _ g=>ag 4 15 ?_
 refine aj rr rr<|hQ .u64 (a:=b) xk e_ rr rr<|dx .u64 (X:=(BitVec.ofInt 64 b)) (Y:=31#64) rr rr rr<|ak rr rr<|aa.fin g ?_;clear g
 refine ad fun _ h=>ag 9 511 ?_
 refine aj rr rr<|aj rr rr<|hE .u32 (X:=d) (c:=((BitVec.ofInt 64 b) &&& (31#64)).toNat) rr rr rr<|aj rr rr<|aj rr rr<|nN .u64 (X:=32#64) (Y:=((BitVec.ofInt 64 b) &&& (31#64))) rr rr rr<|cJ .u32 (X:=d) (c:=((32#64) - ((BitVec.ofInt 64 b) &&& (31#64))).toNat) rr rr rr<|gI .u32 (X:=(d <<< (((BitVec.ofInt 64 b) &&& (31#64)).toNat))) (Y:=(d >>> (((32#64) - ((BitVec.ofInt 64 b) &&& (31#64))).toNat))) rr rr rr ?_
 refine ak rr rr<|aa.fin h ?_;clear h
 refine W.ret (aB ?_)
 subst r
 refine ax.mk (.bj rr .nil) ?_
 exact ⟨rr,j⟩
end Go.Proofs.YtjclppnbbpnfnaaGreatDoor
