/-
  THE LAW 'RatchetBinds' OF THE GIVEN PROGRAM: FOR EVERY INPUT SHE RETURNS TRUE AND THE INPUT READS AS IT DID. CONDITIONS: the row's own cells (laid: the package-level variables that she lists begin as the text lays them; the card ties them).
-/
import Derived.Test.YtjclppnbbpnfnaaGreatDoorCards
import Derived.Test.YtjclppnbbpnfnaaGreatDoorTie
import Derived.WalkKit
import Derived.ProofKit
import Derived.OpenShut
import Derived.ShutString
import Derived.ChangeOld
import Derived.Below
import Derived.Deep.DeepHandedRow
import Derived.Lib.LaidTab
import Derived.Stop.LaidErr
import Derived.SizedLaws
import Derived.Test.YtjclppnbbpnfnaaGreatDoorEd
import Derived.Test.YtjclppnbbpnfnaaGreatDoorEls
import Derived.Test.YtjclppnbbpnfnaaGreatDoorWRatchetBinds
import Derived.Test.YtjclppnbbpnfnaaGreatDoorPRatchetBinds
namespace Go.Proofs.YtjclppnbbpnfnaaGreatDoor.ratchetBinds
open Go.ChangeShapes Go.WideShapes Go.ChangeAt Go.RowKit Go.LW
set_option linter.unusedSimpArgs false
set_option linter.unusedVariables false
set_option linter.unusedSectionVars false

theorem own:ownKnob Tryz.prog.godebug=none:=by kernel_rfl
theorem laidOut:laidOutB Tryz.prog=true:=by kernel_rfl
theorem g0:Tryz.prog.globalNamed "lethe/field.twice" =some 3:=by kernel_rfl
theorem Gl:(Tryz.prog.globals[3]?).map (·.type)=some 178:=by kernel_rfl
theorem Av:Tryz.prog.cellsOf 178=5:=by kernel_rfl
theorem zI:Tryz.prog.cellsOf 171=1:=by kernel_rfl
def u3:List Int:= [4503599627370458,4503599627370494,4503599627370494,4503599627370494,4503599627370494]
theorem Cc:(List.range 5).all (fun i=>u3.getD i 0==((dn i).toNat:Int))=true:=by decide +kernel
theorem BI {W:World} (h:laidMetH Tryz.prog Rows.ratchetBindsRow.laid W):Lib.TabIs Tryz.prog W "lethe/field.twice" .u64 u3:=
  Lib.tabIs_of_head g0 Gl Tryz.underlying178 Tryz.underlying171 zI Av (show laidMet Tryz.prog _ W from h)
theorem g1:Tryz.prog.globalNamed "lethe/sha.constants" =some 2:=by kernel_rfl
theorem Gg:(Tryz.prog.globals[2]?).map (·.type)=some 216:=by kernel_rfl
theorem Bw:Tryz.prog.cellsOf 216=64:=by kernel_rfl
theorem Dz:Tryz.prog.cellsOf 30=1:=by kernel_rfl
def vk:List Int:= [1116352408,1899447441,3049323471,3921009573,961987163,1508970993,2453635748,2870763221,3624381080,310598401,607225278,1426881987,1925078388,2162078206,2614888103,3248222580,3835390401,4022224774,264347078,604807628,770255983,1249150122,1555081692,1996064986,2554220882,2821834349,2952996808,3210313671,3336571891,3584528711,113926993,338241895,666307205,773529912,1294757372,1396182291,1695183700,1986661051,2177026350,2456956037,2730485921,2820302411,3259730800,3345764771,3516065817,3600352804,4094571909,275423344,430227734,506948616,659060556,883997877,958139571,1322822218,1537002063,1747873779,1955562222,2024104815,2227730452,2361852424,2428436474,2756734187,3204031479,3329325298]
theorem Er:(List.range 64).all (fun i=>vk.getD i 0==((bE i).toNat:Int))=true:=by decide +kernel
theorem DP {W:World} (h:laidMetH Tryz.prog Rows.ratchetBindsRow.laid W):Lib.TabIs Tryz.prog W "lethe/sha.constants" .u32 vk:=
  Lib.tabIs_of_head g1 Gg Tryz.underlying216 Tryz.underlying30 Dz Bw (laidMet.tail (show laidMet Tryz.prog _ W from h))
theorem g2:Tryz.prog.globalNamed "lethe/sha.begin" =some 1:=by kernel_rfl
theorem Gh:(Tryz.prog.globals[1]?).map (·.type)=some 167:=by kernel_rfl
theorem GD:Tryz.prog.cellsOf 167=8:=by kernel_rfl
theorem DB:Tryz.prog.cellsOf 30=1:=by kernel_rfl
def vu:List Int:= [1779033703,3144134277,1013904242,2773480762,1359893119,2600822924,528734635,1541459225]
theorem zy:(List.range 8).all (fun i=>vu.getD i 0==((cH i).toNat:Int))=true:=by decide +kernel
theorem FY {W:World} (h:laidMetH Tryz.prog Rows.ratchetBindsRow.laid W):Lib.TabIs Tryz.prog W "lethe/sha.begin" .u32 vu:=
  Lib.tabIs_of_head g2 Gh Tryz.underlying167 Tryz.underlying30 DB GD (laidMet.tail (laidMet.tail (show laidMet Tryz.prog _ W from h)))
theorem g3:Tryz.prog.globalNamed "lethe/lethelaw16.roomy" =some 0:=by kernel_rfl
theorem FP:(Tryz.prog.globals[0]?).map (·.type)=some 41:=by kernel_rfl
theorem Bq:qt Tryz.prog 41 6=true:=by kernel_rfl
theorem la {W:World} (h:laidMetH Tryz.prog Rows.ratchetBindsRow.laid W) (i:Nat) (k:IntKind) (z:Int) (a:([.lit (.int .i64 0),.lit (.int .i64 0),.lit (.int .i64 64),.lit (.int .i64 256),.lit (.int .i64 0),.lit (.int .u32 1000)]:List (DataW Unit))[i]? =some (.lit (.int k z))):W.cell? ⟨0,i,none⟩=some (.int k z):=
  Fm g3 FP Bq (laidMet.tail (laidMet.tail (laidMet.tail (show laidMet Tryz.prog _ W from h)))) i k z a
theorem dS:Tryz.prog.cellTypes Tryz.prog.depth 25=some (List.replicate 16 5):=by kernel_rfl
theorem Bo:Tryz.prog.cellsOf 25=16:=by kernel_rfl
theorem dY:Tryz.prog.cellTypes Tryz.prog.depth 27=some (List.replicate 32 5):=by kernel_rfl
theorem zm:Tryz.prog.cellsOf 27=32:=by kernel_rfl
set_option maxRecDepth 100000 in
theorem Ef (H:Type) (enc:TypeId×Value→H) (W:World) (base:Nat) (args:Array Value) (ds gs:List (DataW H)) (before:List MemPlace)
    (dQ:∀(j:Nat) t v,Tryz.f7.params[j]? =some t→args[j]? =some v→Value.okWide Tryz.prog W .any base t v)
    (A:DataW.Whole enc Tryz.prog Tryz.f7.params.toList Rows.ratchetBindsSpec.vars false W args.toList ds gs before) (f:laidMetH Tryz.prog Rows.ratchetBindsRow.laid W):
    Calls Tryz.prog 7 args W fun e B=>∃v,e= .returned v∧Rows.ratchetBindsSpec.post enc Tryz.prog Tryz.f7 false true false false W args v B:=by
  have S:=A
  obtain ⟨p,q,C,T,rfl,d6,d7⟩:=A
  have D:DataW.TrodAll enc Tryz.prog W 0 (fun _=>true) true Tryz.f7.params.toList args.toList ds p:=C
  rw [Tryz.params7] at D dQ
  obtain ⟨v0,d8,d0,d9,U,el,em,rfl,rfl,V,X⟩:=trodAll_cons D
  obtain ⟨v1,eq,d1,es,p1,ex,fd,rfl,rfl,h1,Y⟩:=trodAll_cons X
  obtain ⟨v2,fn,d2,f0,Z,f1,f2,rfl,rfl,h2,E⟩:=trodAll_cons Y
  obtain ⟨v3,f3,d3,f4,am,f5,f6,rfl,rfl,h3,n⟩:=trodAll_cons E
  obtain ⟨v4,f8,d4,f9,p4,f',gc,rfl,rfl,ap,a0⟩:=trodAll_cons n
  obtain ⟨v5,gd,d5,ge,a4,go,gt,rfl,rfl,a5,a9⟩:=trodAll_cons a0
  obtain ⟨rfl,rfl,rfl⟩:=trodAll_nil a9
  obtain rfl:args= #[v0,v1,v2,v3,v4,v5]:=by cases args;simp_all
  obtain ⟨rfl,rfl⟩:=trodVars_none T
  have G:=V
  have be:∀x∈U,x.block < W.heap.size:=by obtain ⟨m,hm⟩:=G;exact DataW.trod_lt m _ _ _ hm
  obtain ⟨X0,rfl⟩:=vR .u8 Tryz.underlying27 dY zm Tryz.underlying5 (dQ 0 27 v0 rfl rfl)
  have I:=h1
  have bi:∀x∈p1,x.block < W.heap.size:=by obtain ⟨m,hm⟩:=I;exact DataW.trod_lt m _ _ _ hm
  obtain ⟨X1,rfl⟩:=vR .u8 Tryz.underlying25 dS Bo Tryz.underlying5 (dQ 1 25 v1 rfl rfl)
  have J:=h2
  have bv:∀x∈Z,x.block < W.heap.size:=by obtain ⟨m,hm⟩:=J;exact DataW.trod_lt m _ _ _ hm
  obtain ⟨a2,cc,cd,rfl⟩:=okWide_slice Tryz.underlying44 (dQ 2 44 v2 rfl rfl)
  obtain ⟨z2,K⟩:∃zs,gp .u8 W a2 cc cd zs:=by
    obtain ⟨fuel,hf⟩:=h2
    rcases open_ints Tryz.underlying44 Tryz.underlying5 (by kernel_rfl) hf with ⟨d,_⟩ | ⟨x,l,c,zs,d,_,hl,hm,s,_,u,w⟩
    · simp [Value.cells] at d
      obtain ⟨rfl,rfl,rfl⟩:=d
      exact ⟨[],.inl ⟨rfl,rfl,rfl,rfl⟩⟩
    · simp [Value.cells] at d
      obtain ⟨rfl,rfl,rfl⟩:=d
      exact ⟨zs,.inr ⟨_,rfl,hl,hm,by simpa using s,u,w⟩⟩
  have L:=h3
  have ce:∀x∈am,x.block < W.heap.size:=by obtain ⟨m,hm⟩:=L;exact DataW.trod_lt m _ _ _ hm
  obtain ⟨a3,ci,cl,rfl⟩:=okWide_slice Tryz.underlying44 (dQ 3 44 v3 rfl rfl)
  obtain ⟨z3,M⟩:∃zs,gp .u8 W a3 ci cl zs:=by
    obtain ⟨fuel,hf⟩:=h3
    rcases open_ints Tryz.underlying44 Tryz.underlying5 (by kernel_rfl) hf with ⟨d,_⟩ | ⟨x,l,c,zs,d,_,hl,hm,s,_,u,w⟩
    · simp [Value.cells] at d
      obtain ⟨rfl,rfl,rfl⟩:=d
      exact ⟨[],.inl ⟨rfl,rfl,rfl,rfl⟩⟩
    · simp [Value.cells] at d
      obtain ⟨rfl,rfl,rfl⟩:=d
      exact ⟨zs,.inr ⟨_,rfl,hl,hm,by simpa using s,u,w⟩⟩
  have N:=ap
  have co:∀x∈p4,x.block < W.heap.size:=by obtain ⟨m,hm⟩:=N;exact DataW.trod_lt m _ _ _ hm
  obtain ⟨O,rfl,cs⟩:=xx Tryz.underlying3 (dQ 4 3 v4 rfl rfl)
  have P:=a5
  have c1:∀x∈a4,x.block < W.heap.size:=by obtain ⟨m,hm⟩:=P;exact DataW.trod_lt m _ _ _ hm
  obtain ⟨Q,rfl,c2⟩:=xx Tryz.underlying3 (dQ 5 3 v5 rfl rfl)
  clear C
  have a:=uR W.heap.size W (Nat.le_refl _)
  have b:c5 []:=c5.nil
  obtain ⟨a,b⟩:=a.rW b (F:=dn) (BI f) g0 5 (by decide +kernel) Cc
  obtain ⟨a,b⟩:=a.rW b (F:=bE) (DP f) g1 64 (by decide +kernel) Er
  obtain ⟨a,b⟩:=a.rW b (F:=cH) (FY f) g2 8 (by decide +kernel) zy
  obtain ⟨a,b⟩:=a.j_ b (g:=0) (o:=0) (VN 0) (la f 0 .i64 0 rfl)
  obtain ⟨a,b⟩:=a.j_ b (g:=0) (o:=1) (VN 0) (la f 1 .i64 0 rfl)
  obtain ⟨a,b⟩:=a.j_ b (g:=0) (o:=2) (VN 64) (la f 2 .i64 64 rfl)
  obtain ⟨a,b⟩:=a.j_ b (g:=0) (o:=3) (VN 256) (la f 3 .i64 256 rfl)
  obtain ⟨a,b⟩:=a.j_ b (g:=0) (o:=4) (VN 0) (la f 4 .i64 0 rfl)
  obtain ⟨a,b⟩:=a.j_ b (g:=0) (o:=5) (VU .u32 (1000#32)) (la f 5 .u32 1000 rfl)
  obtain ⟨E,y,i2,a,b,k⟩:=K.bx a b
  have g3:y.length < 9223372036854775808:=by have h1:=k.hl;have h2:=K.le;rcases vt with h | h <;> omega
  obtain ⟨n,z,i3,a,b,R⟩:=M.bx a b
  replace k:=k.app [n]
  have g4:z.length < 9223372036854775808:=by have h1:=R.hl;have h2:=M.le;rcases vt with h | h <;> omega
  have dl:pZ X0 X1 y z O Q true:=DM X0 X1 y z O Q (wG cs) (wG c2)
  refine (B5 (r:=true) (iG1:=8) rfl (iG2:=9) rfl (iG3:=10) rfl (iG1000:=7) rfl (iG1001:=6) rfl (iG1002:=5) rfl (iG1003:=4) rfl (iG1004:=3) rfl (iG1005:=2) rfl k R dl a).mono fun e B ⟨he,hs⟩=>?_
  have i:=hs.below.toBelow
  subst he
  exact ⟨_,rfl,_,_,_,[],_,[],S,trodAll_mk1 (shut_bool Tryz.underlying4 _),(trodAll_cons_mk (Below.trod laidOut (by kernel_rfl) (of_decide_eq_true (by kernel_rfl)) G i be) (trodAll_cons_mk (Below.trod laidOut (by kernel_rfl) (of_decide_eq_true (by kernel_rfl)) I i bi) (trodAll_cons_mk (Below.trod laidOut (by kernel_rfl) (of_decide_eq_true (by kernel_rfl)) J i bv) (trodAll_cons_mk (Below.trod laidOut (by kernel_rfl) (of_decide_eq_true (by kernel_rfl)) L i ce) (trodAll_cons_mk (Below.trod laidOut (by kernel_rfl) (of_decide_eq_true (by kernel_rfl)) N i co) (trodAll_cons_mk (Below.trod laidOut (by kernel_rfl) (of_decide_eq_true (by kernel_rfl)) P i c1) trodAll_mk0)))))),rfl,i.frame _,fun h=>by cases h⟩
/-- A WORLD FOR THE WITNESS: the settled one, the tables as their initialisers lay them. -/
noncomputable def rK (os:Os):World:= { World.holding Tryz.prog os ⟨#[],#[],[]⟩ with heap:=(((((World.holding Tryz.prog os ⟨#[],#[],[]⟩).heap.modify 3 fun
      | .cells _ t frozen=> .cells #[.int .u64 4503599627370458,.int .u64 4503599627370494,.int .u64 4503599627370494,.int .u64 4503599627370494,.int .u64 4503599627370494] t frozen
      | o=>o).modify 2 fun
      | .cells _ t frozen=> .cells #[.int .u32 1116352408,.int .u32 1899447441,.int .u32 3049323471,.int .u32 3921009573,.int .u32 961987163,.int .u32 1508970993,.int .u32 2453635748,.int .u32 2870763221,.int .u32 3624381080,.int .u32 310598401,.int .u32 607225278,.int .u32 1426881987,.int .u32 1925078388,.int .u32 2162078206,.int .u32 2614888103,.int .u32 3248222580,.int .u32 3835390401,.int .u32 4022224774,.int .u32 264347078,.int .u32 604807628,.int .u32 770255983,.int .u32 1249150122,.int .u32 1555081692,.int .u32 1996064986,.int .u32 2554220882,.int .u32 2821834349,.int .u32 2952996808,.int .u32 3210313671,.int .u32 3336571891,.int .u32 3584528711,.int .u32 113926993,.int .u32 338241895,.int .u32 666307205,.int .u32 773529912,.int .u32 1294757372,.int .u32 1396182291,.int .u32 1695183700,.int .u32 1986661051,.int .u32 2177026350,.int .u32 2456956037,.int .u32 2730485921,.int .u32 2820302411,.int .u32 3259730800,.int .u32 3345764771,.int .u32 3516065817,.int .u32 3600352804,.int .u32 4094571909,.int .u32 275423344,.int .u32 430227734,.int .u32 506948616,.int .u32 659060556,.int .u32 883997877,.int .u32 958139571,.int .u32 1322822218,.int .u32 1537002063,.int .u32 1747873779,.int .u32 1955562222,.int .u32 2024104815,.int .u32 2227730452,.int .u32 2361852424,.int .u32 2428436474,.int .u32 2756734187,.int .u32 3204031479,.int .u32 3329325298] t frozen
      | o=>o).modify 1 fun
      | .cells _ t frozen=> .cells #[.int .u32 1779033703,.int .u32 3144134277,.int .u32 1013904242,.int .u32 2773480762,.int .u32 1359893119,.int .u32 2600822924,.int .u32 528734635,.int .u32 1541459225] t frozen
      | o=>o).modify 0 fun
      | .cells _ t frozen=> .cells #[.int .i64 0,.int .i64 0,.int .i64 64,.int .i64 256,.int .i64 0,.int .u32 1000] t frozen
      | o=>o) }
theorem Fj (os:Os):laidMet Tryz.prog Rows.ratchetBindsRow.laid ((rK os).forCall (fun _ _=>0) ⟨#[],#[.agg #[.int .u8 0,.int .u8 0,.int .u8 0,.int .u8 0,.int .u8 0,.int .u8 0,.int .u8 0,.int .u8 0,.int .u8 0,.int .u8 0,.int .u8 0,.int .u8 0,.int .u8 0,.int .u8 0,.int .u8 0,.int .u8 0,.int .u8 0,.int .u8 0,.int .u8 0,.int .u8 0,.int .u8 0,.int .u8 0,.int .u8 0,.int .u8 0,.int .u8 0,.int .u8 0,.int .u8 0,.int .u8 0,.int .u8 0,.int .u8 0,.int .u8 0,.int .u8 0],.agg #[.int .u8 0,.int .u8 0,.int .u8 0,.int .u8 0,.int .u8 0,.int .u8 0,.int .u8 0,.int .u8 0,.int .u8 0,.int .u8 0,.int .u8 0,.int .u8 0,.int .u8 0,.int .u8 0,.int .u8 0,.int .u8 0],.slice none 0 0,.slice none 0 0,.int .i64 0,.int .i64 0],[]⟩).memory:=
  laidMet_of_run' 8 (by kernel_rfl) (by kernel_rfl)
theorem reads (os:Os) {H:Type} (enc:TypeId×Value→H):∃places,DataW.whole enc Tryz.prog ((rK os).forCall (fun _ _=>0) ⟨#[],#[.agg #[.int .u8 0,.int .u8 0,.int .u8 0,.int .u8 0,.int .u8 0,.int .u8 0,.int .u8 0,.int .u8 0,.int .u8 0,.int .u8 0,.int .u8 0,.int .u8 0,.int .u8 0,.int .u8 0,.int .u8 0,.int .u8 0,.int .u8 0,.int .u8 0,.int .u8 0,.int .u8 0,.int .u8 0,.int .u8 0,.int .u8 0,.int .u8 0,.int .u8 0,.int .u8 0,.int .u8 0,.int .u8 0,.int .u8 0,.int .u8 0,.int .u8 0,.int .u8 0],.agg #[.int .u8 0,.int .u8 0,.int .u8 0,.int .u8 0,.int .u8 0,.int .u8 0,.int .u8 0,.int .u8 0,.int .u8 0,.int .u8 0,.int .u8 0,.int .u8 0,.int .u8 0,.int .u8 0,.int .u8 0,.int .u8 0],.slice none 0 0,.slice none 0 0,.int .i64 0,.int .i64 0],[]⟩).memory Tryz.f7.params.toList Rows.ratchetBindsSpec.vars false (#[.agg #[.int .u8 0,.int .u8 0,.int .u8 0,.int .u8 0,.int .u8 0,.int .u8 0,.int .u8 0,.int .u8 0,.int .u8 0,.int .u8 0,.int .u8 0,.int .u8 0,.int .u8 0,.int .u8 0,.int .u8 0,.int .u8 0,.int .u8 0,.int .u8 0,.int .u8 0,.int .u8 0,.int .u8 0,.int .u8 0,.int .u8 0,.int .u8 0,.int .u8 0,.int .u8 0,.int .u8 0,.int .u8 0,.int .u8 0,.int .u8 0,.int .u8 0,.int .u8 0],.agg #[.int .u8 0,.int .u8 0,.int .u8 0,.int .u8 0,.int .u8 0,.int .u8 0,.int .u8 0,.int .u8 0,.int .u8 0,.int .u8 0,.int .u8 0,.int .u8 0,.int .u8 0,.int .u8 0,.int .u8 0,.int .u8 0],.slice none 0 0,.slice none 0 0,.int .i64 0,.int .i64 0]:Array Value).toList 8=some ([.agg [.lit (.int .u8 0),.lit (.int .u8 0),.lit (.int .u8 0),.lit (.int .u8 0),.lit (.int .u8 0),.lit (.int .u8 0),.lit (.int .u8 0),.lit (.int .u8 0),.lit (.int .u8 0),.lit (.int .u8 0),.lit (.int .u8 0),.lit (.int .u8 0),.lit (.int .u8 0),.lit (.int .u8 0),.lit (.int .u8 0),.lit (.int .u8 0),.lit (.int .u8 0),.lit (.int .u8 0),.lit (.int .u8 0),.lit (.int .u8 0),.lit (.int .u8 0),.lit (.int .u8 0),.lit (.int .u8 0),.lit (.int .u8 0),.lit (.int .u8 0),.lit (.int .u8 0),.lit (.int .u8 0),.lit (.int .u8 0),.lit (.int .u8 0),.lit (.int .u8 0),.lit (.int .u8 0),.lit (.int .u8 0)],.agg [.lit (.int .u8 0),.lit (.int .u8 0),.lit (.int .u8 0),.lit (.int .u8 0),.lit (.int .u8 0),.lit (.int .u8 0),.lit (.int .u8 0),.lit (.int .u8 0),.lit (.int .u8 0),.lit (.int .u8 0),.lit (.int .u8 0),.lit (.int .u8 0),.lit (.int .u8 0),.lit (.int .u8 0),.lit (.int .u8 0),.lit (.int .u8 0)],.nil,.nil,.lit (.int .i64 0),.lit (.int .i64 0)],[],places):=
  ⟨[],by kernel_rfl⟩
set_option maxRecDepth 100000 in
theorem lifted (os:Os) (started:os.Started) (H:Type) (enc:TypeId×Value→H) (F:Stop.Interp):
    ReturnsInHanded {} Tryz.checked os 7 .any ((OpenSpec.ofChange Rows.ratchetBindsSpec).preRow enc Tryz.prog Tryz.f7 Rows.ratchetBindsRow.domain false Rows.ratchetBindsRow.laid) (((OpenSpec.ofChange Rows.ratchetBindsSpec).at F).post enc Tryz.prog Tryz.f7 false true false false):=by
  obtain ⟨places,hx⟩:=reads os enc
  refine returnsInHanded_of_row (C:=Tryz.checked) (s:=(OpenSpec.ofChange Rows.ratchetBindsSpec)) own started (by kernel_rfl) Tryz.func7
    (witness_row_at (enc:=enc) (C:=Tryz.checked) false (rK os) #[.agg #[.int .u8 0,.int .u8 0,.int .u8 0,.int .u8 0,.int .u8 0,.int .u8 0,.int .u8 0,.int .u8 0,.int .u8 0,.int .u8 0,.int .u8 0,.int .u8 0,.int .u8 0,.int .u8 0,.int .u8 0,.int .u8 0,.int .u8 0,.int .u8 0,.int .u8 0,.int .u8 0,.int .u8 0,.int .u8 0,.int .u8 0,.int .u8 0,.int .u8 0,.int .u8 0,.int .u8 0,.int .u8 0,.int .u8 0,.int .u8 0,.int .u8 0,.int .u8 0],.agg #[.int .u8 0,.int .u8 0,.int .u8 0,.int .u8 0,.int .u8 0,.int .u8 0,.int .u8 0,.int .u8 0,.int .u8 0,.int .u8 0,.int .u8 0,.int .u8 0,.int .u8 0,.int .u8 0,.int .u8 0,.int .u8 0],.slice none 0 0,.slice none 0 0,.int .i64 0,.int .i64 0] rfl (by kernel_rfl) (by kernel_rfl) (by kernel_rfl)
      (OpenSpec.preRow_of_cond 8 hx (by kernel_rfl) (fun k hk=>by cases hk) (by kernel_rfl) (Fj os))) ?_
  intro W base args ds gs before dQ a _ _ _ b _ _
  exact Ef H enc W base args ds gs before dQ a b
theorem said:Rows.RatchetBindsSaid:=
  OpenClaim.holds_of_cond 7 Tryz.f7 rfl rfl rfl rfl rfl rfl rfl ⟨rfl,rfl,rfl,rfl,rfl⟩ rfl rfl rfl rfl rfl (by kernel_rfl) Tryz.func7 (by kernel_rfl)
    (of_decide_eq_true (by kernel_rfl)) (by unfold Func.isWrapper;first | (rw [if_pos (by decide +kernel)];kernel_rfl) | (rw [if_neg (by decide +kernel)];exact ⟨rfl,rfl⟩))
    (fun os started H enc _ F=>by rw [OpenClaim.pre_eq_preRow];exact lifted os started H enc F)
theorem plain (f:FuncId) (fn:Func) (hf:Tryz.pinned.checked.prog.funcNamed "lethe/lethelaw16.RatchetBinds" =some f) (b:Tryz.pinned.checked.prog.funcs[f]? =some fn):
    false=Tryz.pinned.checked.prog.looks []∧∀(j:Nat) t,fn.params[j]? =some t→Tryz.pinned.checked.prog.wantsStandIn t=false:=by
  obtain rfl:f=7:=Option.some.inj ((show Tryz.prog.funcNamed "lethe/lethelaw16.RatchetBinds" =some 7 by kernel_rfl).symm.trans hf) |>.symm
  obtain rfl:fn=Tryz.f7:=(Option.some.inj (Tryz.func7.symm.trans b)).symm
  refine ⟨by kernel_rfl,fun j t a=>?_⟩
  rw [Tryz.params7] at a
  have hm:=Array.mem_of_getElem? a
  simp at hm
  rcases (show t=3∨t=25∨t=27∨t=44 by (first | (simpa using hm) | (rcases hm with h1 | h1 <;> simp [h1]) | (rcases hm with h1 | h1 | h1 <;> simp [h1]) | (rcases hm with h1 | h1 | h1 | h1 <;> simp [h1]) | (rcases hm with h1 | h1 | h1 | h1 | h1 <;> simp [h1]) | (rcases hm with h1 | h1 | h1 | h1 | h1 | h1 <;> simp [h1]))) with rfl | rfl | rfl | rfl
  · exact (show Tryz.prog.wantsStandIn 3=false by kernel_rfl)
  · exact (show Tryz.prog.wantsStandIn 25=false by kernel_rfl)
  · exact (show Tryz.prog.wantsStandIn 27=false by kernel_rfl)
  · exact (show Tryz.prog.wantsStandIn 44=false by kernel_rfl)
/-- THE CARD. -/
theorem CK:Rows.RatchetBindsCardSaid:=
  Claim7.holds_tied_plain_at .later [] _ _ _ _ said (fun _ h=>by cases h) (by kernel_rfl) (fun _ h=>by cases h) ratchetBinds_row_tie rfl ⟨rfl,rfl⟩ (by kernel_rfl) rfl plain (by kernel_rfl)
end Go.Proofs.YtjclppnbbpnfnaaGreatDoor.ratchetBinds
namespace Go.Proofs.YtjclppnbbpnfnaaGreatDoor
theorem ratchetBinds_holds:Rows.RatchetBindsCardSaid:=ratchetBinds.CK
end Go.Proofs.YtjclppnbbpnfnaaGreatDoor
