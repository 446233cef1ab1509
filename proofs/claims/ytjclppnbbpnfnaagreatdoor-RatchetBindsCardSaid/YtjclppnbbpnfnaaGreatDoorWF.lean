import Derived.Test.YtjclppnbbpnfnaaGreatDoorProg
import Derived.Test.YtjclppnbbpnfnaaGreatDoorEd
namespace Go.Proofs.YtjclppnbbpnfnaaGreatDoor
set_option maxRecDepth 8000
open Go Go.LW
theorem e_:(Tryz.prog.underlying 3).isSome=true:=by kernel_rfl
theorem xk:Tryz.prog.underlying 110=some (.int .u64):=by kernel_rfl
theorem bZ:dC Tryz.prog 5=true:=by kernel_rfl
theorem cw:Tryz.prog.underlying 5=some (.int .u8):=by kernel_rfl
theorem bJ:bN Tryz.prog 5 1=true:=by kernel_rfl
theorem cB:∃el,Tryz.prog.underlying 44=some (.slice el):=⟨5,by kernel_rfl⟩
theorem a7:Tryz.prog.follows .mixedOrders=true:=by kernel_rfl
theorem lD:Tryz.prog.underlying 171=some (.int .u64):=by kernel_rfl
theorem jl:(Tryz.prog.underlying 5).isSome=true:=by kernel_rfl
theorem eP:(Tryz.prog.underlying 30).isSome=true:=by kernel_rfl
theorem p3:(Tryz.prog.underlying 171).isSome=true:=by kernel_rfl
theorem dX:du Tryz.prog 33 64 1=true:=by kernel_rfl
theorem td:cz Tryz.prog 33 64=true:=by kernel_rfl
theorem cq:Tryz.prog.underlying 44=some (.slice 5):=by kernel_rfl
theorem df:(Tryz.prog.info? 5).bind (·.zero)=some (VU .u8 0#8):=by kernel_rfl
theorem dZ:cM Tryz.prog 106 [(32,fun _=>VU .u8 0#8)]:=dr (by kernel_rfl)
theorem mr:cz Tryz.prog 167 8=true:=by kernel_rfl
theorem FJ:e2 Tryz.prog 169 [(0,8),(8,64),(72,1)]=true:=by kernel_rfl
theorem xw:cM Tryz.prog 169 [(8,fun _=>VU .u32 0#32),(64,fun _=>VU .u8 0#8),(1,fun _=> .int .i64 0)]:=dr (by kernel_rfl)
theorem xd:bc Tryz.prog 64=true:=by kernel_rfl
theorem kj:∃el,Tryz.prog.underlying 132=some (.slice el):=⟨44,by kernel_rfl⟩
theorem kY:dc Tryz.prog 132 1=true:=by kernel_rfl
theorem hT:dC Tryz.prog 44=true:=by kernel_rfl
theorem xJ:bC Tryz.prog 169 1 8=true:=by kernel_rfl
theorem kg:bC Tryz.prog 169 2 72=true:=by kernel_rfl
theorem ed:dC Tryz.prog 3=true:=by kernel_rfl
theorem b4:dc Tryz.prog 44 1=true:=by kernel_rfl
theorem tX:bN Tryz.prog 3 1=true:=by kernel_rfl
theorem r0:bC Tryz.prog 169 0 0=true:=by kernel_rfl
theorem u7:cM Tryz.prog 167 [(8,fun _=>VU .u32 0#32)]:=dr (by kernel_rfl)
theorem BM:cM Tryz.prog 216 [(64,fun _=>VU .u32 0#32)]:=dr (by kernel_rfl)
theorem jF:Tryz.prog.underlying 30=some (.int .u32):=by kernel_rfl
theorem ji:du Tryz.prog 216 64 1=true:=by kernel_rfl
theorem fC:bN Tryz.prog 30 1=true:=by kernel_rfl
theorem bf:dC Tryz.prog 30=true:=by kernel_rfl
theorem BT:bc Tryz.prog 167=true:=by kernel_rfl
theorem hL:bc Tryz.prog 134=true:=by kernel_rfl
theorem gq:du Tryz.prog 167 8 1=true:=by kernel_rfl
theorem xH:Tryz.prog.underlying 167=some (.array 8 30):=by kernel_rfl
theorem vr:bN Tryz.prog 167 8=true:=by kernel_rfl
theorem F_:bc Tryz.prog 99=true:=by kernel_rfl
theorem ky:bc Tryz.prog 65=true:=by kernel_rfl
theorem BU:cz Tryz.prog 169 73=true:=by kernel_rfl
theorem F7:bN Tryz.prog 169 73=true:=by kernel_rfl
theorem Cg:bc Tryz.prog 100=true:=by kernel_rfl
theorem gQ:du Tryz.prog 106 32 1=true:=by kernel_rfl
theorem lH:cz Tryz.prog 106 32=true:=by kernel_rfl
theorem dV:bN Tryz.prog 106 32=true:=by kernel_rfl
theorem yZ:bc Tryz.prog 67=true:=by kernel_rfl
theorem mM:cM Tryz.prog 33 [(64,fun _=>VU .u8 0#8)]:=dr (by kernel_rfl)
theorem cU:(Tryz.prog.info? 44).bind (·.zero)=some (.slice none 0 0):=by kernel_rfl
theorem cV:Tryz.prog.underlying 132=some (.slice 44):=by kernel_rfl
theorem cW:bN Tryz.prog 44 1=true:=by kernel_rfl
theorem yl:bc Tryz.prog 68=true:=by kernel_rfl
theorem tI:bc Tryz.prog 66=true:=by kernel_rfl
theorem cS:bc Tryz.prog 36=true:=by kernel_rfl
theorem BJ:bc Tryz.prog 69=true:=by kernel_rfl
theorem eY:eT Tryz.prog 44=some (1,1,some (VU .u8 0#8)):=by kernel_rfl
theorem DZ:bc Tryz.prog 70=true:=by kernel_rfl
theorem ba:cz Tryz.prog 27 32=true:=by kernel_rfl
theorem c':du Tryz.prog 27 32 1=true:=by kernel_rfl
theorem c4:cM Tryz.prog 27 [(32,fun _=>VU .u8 0#8)]:=dr (by kernel_rfl)
theorem bP:bN Tryz.prog 27 32=true:=by kernel_rfl
theorem j6:bc Tryz.prog 37=true:=by kernel_rfl
theorem c6:cM Tryz.prog 180 [(5,fun _=>VU .u64 0#64)]:=dr (by kernel_rfl)
theorem nf:bc Tryz.prog 139=true:=by kernel_rfl
theorem cP:du Tryz.prog 178 5 1=true:=by kernel_rfl
theorem mU:cM Tryz.prog 178 [(5,fun _=>VU .u64 0#64)]:=dr (by kernel_rfl)
theorem lP:e2 Tryz.prog 180 [(0,5)]=true:=by kernel_rfl
theorem cY:bN Tryz.prog 180 5=true:=by kernel_rfl
theorem bF:cz Tryz.prog 180 5=true:=by kernel_rfl
theorem rR:bc Tryz.prog 106=true:=by kernel_rfl
theorem gy:bC Tryz.prog 180 0 0=true:=by kernel_rfl
theorem dv:dC Tryz.prog 171=true:=by kernel_rfl
theorem fN:bN Tryz.prog 171 1=true:=by kernel_rfl
theorem kM:cz Tryz.prog 178 5=true:=by kernel_rfl
theorem wo:bN Tryz.prog 178 5=true:=by kernel_rfl
theorem me:bc Tryz.prog 146=true:=by kernel_rfl
theorem Bp:cM Tryz.prog 232 [(10,fun _=>VU .u64 0#64)]:=dr (by kernel_rfl)
theorem tT:du Tryz.prog 232 5 2=true:=by kernel_rfl
theorem oD:cz Tryz.prog 231 2=true:=by kernel_rfl
theorem yn:cM Tryz.prog 231 [(1,fun _=>VU .u64 0#64),(1,fun _=>VU .u64 0#64)]:=dr (by kernel_rfl)
theorem GA:bc Tryz.prog 170=true:=by kernel_rfl
theorem sn:bC Tryz.prog 231 1 1=true:=by kernel_rfl
theorem qQ:bC Tryz.prog 231 0 0=true:=by kernel_rfl
theorem qA:bN Tryz.prog 231 2=true:=by kernel_rfl
theorem Et:bc Tryz.prog 144=true:=by kernel_rfl
theorem CM:cz Tryz.prog 232 10=true:=by kernel_rfl
theorem C1:Tryz.prog.underlying 232=some (.array 5 231):=by kernel_rfl
theorem ib:bc Tryz.prog 109=true:=by kernel_rfl
theorem lK:bc Tryz.prog 143=true:=by kernel_rfl
theorem FU:bc Tryz.prog 148=true:=by kernel_rfl
theorem Eo:bc Tryz.prog 147=true:=by kernel_rfl
theorem iY:cM Tryz.prog 29 [(32,fun _=>VU .u8 0#8),(32,fun _=>VU .u8 0#8)]:=dr (by kernel_rfl)
theorem Dc:gZ Tryz.prog 29=true:=by kernel_rfl
theorem iA:bN Tryz.prog 29 64=true:=by kernel_rfl
theorem D6:Tryz.prog.underlying 27=some (.array 32 5):=by kernel_rfl
theorem uX:bc Tryz.prog 56=true:=by kernel_rfl
theorem BC:bc Tryz.prog 105=true:=by kernel_rfl
theorem hM:cM Tryz.prog 184 [(5,fun _=>VU .u64 0#64),(5,fun _=>VU .u64 0#64)]:=dr (by kernel_rfl)
theorem Ew:gZ Tryz.prog 180=true:=by kernel_rfl
theorem oz:e2 Tryz.prog 184 [(0,5),(5,5)]=true:=by kernel_rfl
theorem fQ:bN Tryz.prog 184 10=true:=by kernel_rfl
theorem gX:Tryz.prog.underlying 3=some (.int .i64):=by kernel_rfl
theorem fP:cz Tryz.prog 184 10=true:=by kernel_rfl
theorem il:bC Tryz.prog 184 0 0=true:=by kernel_rfl
theorem w7:bc Tryz.prog 140=true:=by kernel_rfl
theorem hS:bC Tryz.prog 184 1 5=true:=by kernel_rfl
theorem yd:bc Tryz.prog 107=true:=by kernel_rfl
theorem pS:bc Tryz.prog 141=true:=by kernel_rfl
theorem qe:bc Tryz.prog 142=true:=by kernel_rfl
theorem E_:bc Tryz.prog 108=true:=by kernel_rfl
theorem AN:bc Tryz.prog 110=true:=by kernel_rfl
theorem zq:bc Tryz.prog 111=true:=by kernel_rfl
theorem v7:bc Tryz.prog 77=true:=by kernel_rfl
theorem DA:bc Tryz.prog 57=true:=by kernel_rfl
theorem FM:e2 Tryz.prog 29 [(0,32),(32,32)]=true:=by kernel_rfl
theorem iV:cz Tryz.prog 29 64=true:=by kernel_rfl
theorem Ft:gZ Tryz.prog 27=true:=by kernel_rfl
theorem xY:gm Tryz.prog 27 32 .u8=true:=by kernel_rfl
theorem ur:bC Tryz.prog 43 0 0=true:=by kernel_rfl
theorem FO:du Tryz.prog 25 16 1=true:=by kernel_rfl
theorem gi:bC Tryz.prog 43 1 16=true:=by kernel_rfl
theorem l_:bC Tryz.prog 43 2 17=true:=by kernel_rfl
theorem oj:bC Tryz.prog 43 3 49=true:=by kernel_rfl
theorem gl:bC Tryz.prog 43 4 50=true:=by kernel_rfl
theorem sE:bc Tryz.prog 72=true:=by kernel_rfl
theorem xZ:bc Tryz.prog 71=true:=by kernel_rfl
theorem wX:bc Tryz.prog 129=true:=by kernel_rfl
theorem DK:∃el,Tryz.prog.underlying 54=some (.slice el):=⟨3,by kernel_rfl⟩
theorem CU:dc Tryz.prog 54 1=true:=by kernel_rfl
theorem fX:cM Tryz.prog 24 [(16,fun _=>VU .u8 0#8)]:=dr (by kernel_rfl)
theorem dq:cz Tryz.prog 24 16=true:=by kernel_rfl
theorem eI:bN Tryz.prog 24 16=true:=by kernel_rfl
theorem ta:cM Tryz.prog 219 [(256,fun _=>VU .u8 0#8),(256,fun _=>VU .u8 0#8),(256,fun _=>VU .u8 0#8)]:=dr (by kernel_rfl)
theorem Cu:gZ Tryz.prog 219=true:=by kernel_rfl
theorem xP:bN Tryz.prog 219 768=true:=by kernel_rfl
theorem hd:bC Tryz.prog 219 0 0=true:=by kernel_rfl
theorem eW:du Tryz.prog 201 256 1=true:=by kernel_rfl
theorem DU:bC Tryz.prog 219 1 256=true:=by kernel_rfl
theorem tE:bc Tryz.prog 168=true:=by kernel_rfl
theorem n1:bc Tryz.prog 169=true:=by kernel_rfl
theorem wK:bC Tryz.prog 219 2 512=true:=by kernel_rfl
theorem yS:cz Tryz.prog 219 768=true:=by kernel_rfl
theorem CF:bc Tryz.prog 135=true:=by kernel_rfl
theorem Dy:e2 Tryz.prog 223 [(0,240),(240,768)]=true:=by kernel_rfl
theorem Ap:cM Tryz.prog 223 [(240,fun _=>VU .u8 0#8),(256,fun _=>VU .u8 0#8),(256,fun _=>VU .u8 0#8),(256,fun _=>VU .u8 0#8)]:=dr (by kernel_rfl)
theorem A5:cM Tryz.prog 253 [(240,fun _=>VU .u8 0#8)]:=dr (by kernel_rfl)
theorem oy:du Tryz.prog 253 60 4=true:=by kernel_rfl
theorem fh:du Tryz.prog 206 4 1=true:=by kernel_rfl
theorem uE:cz Tryz.prog 206 4=true:=by kernel_rfl
theorem nY:cM Tryz.prog 206 [(4,fun _=>VU .u8 0#8)]:=dr (by kernel_rfl)
theorem p9:bN Tryz.prog 206 4=true:=by kernel_rfl
theorem hC:bC Tryz.prog 223 1 240=true:=by kernel_rfl
theorem Fk:cz Tryz.prog 253 240=true:=by kernel_rfl
theorem Au:Tryz.prog.underlying 253=some (.array 60 206):=by kernel_rfl
theorem tR:bC Tryz.prog 223 0 0=true:=by kernel_rfl
theorem x':du Tryz.prog 221 15 16=true:=by kernel_rfl
theorem e1:du Tryz.prog 24 16 1=true:=by kernel_rfl
theorem CR:bc Tryz.prog 136=true:=by kernel_rfl
theorem r5:Tryz.prog.underlying 24=some (.array 16 5):=by kernel_rfl
theorem wq:bc Tryz.prog 137=true:=by kernel_rfl
theorem D9:bc Tryz.prog 138=true:=by kernel_rfl
theorem zh:bc Tryz.prog 102=true:=by kernel_rfl
theorem AK:bc Tryz.prog 103=true:=by kernel_rfl
theorem wC:bc Tryz.prog 101=true:=by kernel_rfl
theorem kK:bc Tryz.prog 73=true:=by kernel_rfl
theorem wu:bc Tryz.prog 74=true:=by kernel_rfl
theorem oU:bc Tryz.prog 75=true:=by kernel_rfl
theorem rU:bc Tryz.prog 131=true:=by kernel_rfl
theorem gB:Tryz.prog.underlying 9=some .string:=by kernel_rfl
theorem EA:bc Tryz.prog 104=true:=by kernel_rfl
theorem iN:∃el,Tryz.prog.underlying 36=some (.slice el):=⟨81,by kernel_rfl⟩
theorem gY:dc Tryz.prog 36 34=true:=by kernel_rfl
theorem kL:Tryz.prog.underlying 36=some (.slice 81):=by kernel_rfl
theorem yU:bN Tryz.prog 81 34=true:=by kernel_rfl
theorem o5:eT Tryz.prog 36=some (34,40,some (AG [(1,fun _=>VU .u32 0#32),(1,fun _=>VU .u32 0#32),(32,fun _=>VU .u8 0#8)])):=by kernel_rfl
theorem hJ:cz Tryz.prog 25 16=true:=by kernel_rfl
theorem va:bc Tryz.prog 31=true:=by kernel_rfl
theorem ub:bC Tryz.prog 29 1 32=true:=by kernel_rfl
theorem eu:cM Tryz.prog 35 [(16,fun _=>VU .u8 0#8),(32,fun _=>VU .u8 0#8),(32,fun _=>VU .u8 0#8),(32,fun _=>VU .u8 0#8),(32,fun _=>VU .u8 0#8),(32,fun _=>VU .u8 0#8),(32,fun _=>VU .u8 0#8),(1,fun _=>VU .u32 0#32),(1,fun _=>VU .u32 0#32),(1,fun _=>VU .u32 0#32),(1,fun _=>VU .u32 0#32),(1,fun _=>VU .u32 0#32),(1,fun _=>VU .u32 0#32),(32,fun _=>VU .u8 0#8),(32,fun _=>VU .u8 0#8),(1,fun _=>VU .u32 0#32),(64,fun _=>VU .u8 0#8)]:=dr (by kernel_rfl)
theorem kW:bC Tryz.prog 29 0 0=true:=by kernel_rfl
theorem tu:bc Tryz.prog 41=true:=by kernel_rfl
theorem mO:gZ Tryz.prog 35=true:=by kernel_rfl
theorem vl:e2 Tryz.prog 35 [(0,16),(16,32),(48,64),(112,32),(144,32),(176,32),(208,1),(209,1),(210,1),(211,1),(212,1),(213,1),(214,65),(279,64)]=true:=by kernel_rfl
theorem sI:bc Tryz.prog 42=true:=by kernel_rfl
theorem l5:bC Tryz.prog 35 1 16=true:=by kernel_rfl
theorem mc:bC Tryz.prog 35 4 144=true:=by kernel_rfl
theorem gz:bC Tryz.prog 35 6 208=true:=by kernel_rfl
theorem q2:bC Tryz.prog 35 0 0=true:=by kernel_rfl
theorem uM:gm Tryz.prog 25 16 .u8=true:=by kernel_rfl
theorem ik:cM Tryz.prog 43 [(16,fun _=>VU .u8 0#8),(1,fun _=>VU .u32 0#32),(32,fun _=>VU .u8 0#8),(1,fun _=>VU .u32 0#32),(1,fun _=>VU .u32 0#32)]:=dr (by kernel_rfl)
theorem jD:bC Tryz.prog 41 5 5=true:=by kernel_rfl
theorem gR:bC Tryz.prog 35 8 210=true:=by kernel_rfl
theorem sa:bC Tryz.prog 35 11 213=true:=by kernel_rfl
theorem yR:gZ Tryz.prog 43=true:=by kernel_rfl
theorem iw:bN Tryz.prog 43 51=true:=by kernel_rfl
theorem nS:bC Tryz.prog 35 2 48=true:=by kernel_rfl
theorem vI:bC Tryz.prog 35 10 212=true:=by kernel_rfl
theorem DF:e2 Tryz.prog 43 [(0,16),(16,1),(17,32),(49,1),(50,1)]=true:=by kernel_rfl
theorem oJ:bc Tryz.prog 18=true:=by kernel_rfl
theorem ei:cz Tryz.prog 43 51=true:=by kernel_rfl
theorem FV:bC Tryz.prog 35 13 279=true:=by kernel_rfl
theorem kV:bc Tryz.prog 38=true:=by kernel_rfl
theorem AB:bc Tryz.prog 76=true:=by kernel_rfl
theorem se:bc Tryz.prog 40=true:=by kernel_rfl
theorem E3:bc Tryz.prog 39=true:=by kernel_rfl
theorem hr:dC Tryz.prog 36=true:=by kernel_rfl
theorem sm:cz Tryz.prog 41 6=true:=by kernel_rfl
theorem r9:bC Tryz.prog 41 2 2=true:=by kernel_rfl
theorem sw:bC Tryz.prog 41 3 3=true:=by kernel_rfl
theorem kh:cz Tryz.prog 81 34=true:=by kernel_rfl
theorem yb:bC Tryz.prog 81 0 0=true:=by kernel_rfl
theorem yY:bC Tryz.prog 81 1 1=true:=by kernel_rfl
theorem wP:bc Tryz.prog 92=true:=by kernel_rfl
theorem z8:(Tryz.prog.info? 3).bind (·.zero)=some (.int .i64 0):=by kernel_rfl
theorem DL:Tryz.prog.underlying 54=some (.slice 3):=by kernel_rfl
theorem FB:bc Tryz.prog 91=true:=by kernel_rfl
theorem ss:bc Tryz.prog 58=true:=by kernel_rfl
theorem D0:bc Tryz.prog 32=true:=by kernel_rfl
theorem B_:bc Tryz.prog 33=true:=by kernel_rfl
theorem By:e2 Tryz.prog 103 [(0,343),(343,1),(344,6),(350,51),(401,1)]=true:=by kernel_rfl
theorem Cv:cM Tryz.prog 103 [(16,fun _=>VU .u8 0#8),(32,fun _=>VU .u8 0#8),(32,fun _=>VU .u8 0#8),(32,fun _=>VU .u8 0#8),(32,fun _=>VU .u8 0#8),(32,fun _=>VU .u8 0#8),(32,fun _=>VU .u8 0#8),(1,fun _=>VU .u32 0#32),(1,fun _=>VU .u32 0#32),(1,fun _=>VU .u32 0#32),(1,fun _=>VU .u32 0#32),(1,fun _=>VU .u32 0#32),(1,fun _=>VU .u32 0#32),(32,fun _=>VU .u8 0#8),(32,fun _=>VU .u8 0#8),(1,fun _=>VU .u32 0#32),(64,fun _=>VU .u8 0#8),(1,fun _=> .slice none 0 0),(1,fun _=> .int .i64 0),(1,fun _=> .int .i64 0),(1,fun _=> .int .i64 0),(1,fun _=> .int .i64 0),(1,fun _=> .int .i64 0),(1,fun _=>VU .u32 0#32),(16,fun _=>VU .u8 0#8),(1,fun _=>VU .u32 0#32),(32,fun _=>VU .u8 0#8),(1,fun _=>VU .u32 0#32),(1,fun _=>VU .u32 0#32),(1,fun _=> .slice none 0 0)]:=dr (by kernel_rfl)
theorem e7:bC Tryz.prog 103 3 350=true:=by kernel_rfl
theorem fx:bC Tryz.prog 103 0 0=true:=by kernel_rfl
theorem e8:bC Tryz.prog 35 7 209=true:=by kernel_rfl
theorem r8:bC Tryz.prog 35 9 211=true:=by kernel_rfl
theorem Ee:bc Tryz.prog 59=true:=by kernel_rfl
theorem gM:bC Tryz.prog 103 1 343=true:=by kernel_rfl
theorem yB:e2 Tryz.prog 81 [(0,1),(1,1),(2,32)]=true:=by kernel_rfl
theorem w5:cM Tryz.prog 81 [(1,fun _=>VU .u32 0#32),(1,fun _=>VU .u32 0#32),(32,fun _=>VU .u8 0#8)]:=dr (by kernel_rfl)
theorem Cp:(Tryz.prog.underlying 110).isSome=true:=by kernel_rfl
theorem Cs:bc Tryz.prog 130=true:=by kernel_rfl
theorem yV:bc Tryz.prog 93=true:=by kernel_rfl
theorem C8:bC Tryz.prog 81 2 2=true:=by kernel_rfl
theorem vQ:bc Tryz.prog 94=true:=by kernel_rfl
theorem EX:bc Tryz.prog 95=true:=by kernel_rfl
theorem r3:bN Tryz.prog 36 1=true:=by kernel_rfl
theorem Bi:bc Tryz.prog 60=true:=by kernel_rfl
theorem j1:bC Tryz.prog 103 2 344=true:=by kernel_rfl
theorem wL:bC Tryz.prog 35 3 112=true:=by kernel_rfl
theorem oE:e2 Tryz.prog 163 [(0,1),(1,1),(2,1)]=true:=by kernel_rfl
theorem j7:cM Tryz.prog 163 [(1,fun _=>VU .u32 0#32),(1,fun _=> .int .i64 0),(1,fun _=> .int .i64 0)]:=dr (by kernel_rfl)
theorem pM:(Tryz.prog.info? 163).bind (·.zero)=some (AG [(1,fun _=>VU .u32 0#32),(1,fun _=> .int .i64 0),(1,fun _=> .int .i64 0)]):=by kernel_rfl
theorem jR:Tryz.prog.underlying 101=some (.slice 163):=by kernel_rfl
theorem j5:bN Tryz.prog 163 3=true:=by kernel_rfl
theorem gC:bC Tryz.prog 103 4 401=true:=by kernel_rfl
theorem rh:bN Tryz.prog 101 1=true:=by kernel_rfl
theorem jh:dC Tryz.prog 101=true:=by kernel_rfl
theorem qJ:eT Tryz.prog 101=some (3,24,some (AG [(1,fun _=>VU .u32 0#32),(1,fun _=> .int .i64 0),(1,fun _=> .int .i64 0)])):=by kernel_rfl
theorem AH:bc Tryz.prog 61=true:=by kernel_rfl
theorem nW:∃el,Tryz.prog.underlying 101=some (.slice el):=⟨163,by kernel_rfl⟩
theorem p6:dc Tryz.prog 101 3=true:=by kernel_rfl
theorem l1:cz Tryz.prog 163 3=true:=by kernel_rfl
theorem q7:bC Tryz.prog 163 2 2=true:=by kernel_rfl
theorem sM:bC Tryz.prog 163 1 1=true:=by kernel_rfl
theorem tD:bC Tryz.prog 163 0 0=true:=by kernel_rfl
theorem CN:bc Tryz.prog 62=true:=by kernel_rfl
theorem o2:bC Tryz.prog 35 5 176=true:=by kernel_rfl
theorem Gf:(Tryz.prog.info? 81).bind (·.zero)=some (AG [(1,fun _=>VU .u32 0#32),(1,fun _=>VU .u32 0#32),(32,fun _=>VU .u8 0#8)]):=by kernel_rfl
theorem v_:bc Tryz.prog 96=true:=by kernel_rfl
theorem z':bc Tryz.prog 97=true:=by kernel_rfl
theorem zw:bc Tryz.prog 98=true:=by kernel_rfl
theorem DS:bc Tryz.prog 63=true:=by kernel_rfl
theorem zo:bc Tryz.prog 34=true:=by kernel_rfl
theorem DD:gZ Tryz.prog 32=true:=by kernel_rfl
theorem BV:cM Tryz.prog 32 [(32,fun _=>VU .u8 0#8),(32,fun _=>VU .u8 0#8),(1,fun _=>VU .u32 0#32)]:=dr (by kernel_rfl)
theorem zR:bC Tryz.prog 35 12 214=true:=by kernel_rfl
theorem zi:bN Tryz.prog 32 65=true:=by kernel_rfl
theorem Cn:bc Tryz.prog 35=true:=by kernel_rfl
theorem Ev:e2 Tryz.prog 59 [(0,686),(686,2),(688,1),(689,1)]=true:=by kernel_rfl
theorem Ak:cM Tryz.prog 59 [(16,fun _=>VU .u8 0#8),(32,fun _=>VU .u8 0#8),(32,fun _=>VU .u8 0#8),(32,fun _=>VU .u8 0#8),(32,fun _=>VU .u8 0#8),(32,fun _=>VU .u8 0#8),(32,fun _=>VU .u8 0#8),(1,fun _=>VU .u32 0#32),(1,fun _=>VU .u32 0#32),(1,fun _=>VU .u32 0#32),(1,fun _=>VU .u32 0#32),(1,fun _=>VU .u32 0#32),(1,fun _=>VU .u32 0#32),(32,fun _=>VU .u8 0#8),(32,fun _=>VU .u8 0#8),(1,fun _=>VU .u32 0#32),(64,fun _=>VU .u8 0#8),(16,fun _=>VU .u8 0#8),(32,fun _=>VU .u8 0#8),(32,fun _=>VU .u8 0#8),(32,fun _=>VU .u8 0#8),(32,fun _=>VU .u8 0#8),(32,fun _=>VU .u8 0#8),(32,fun _=>VU .u8 0#8),(1,fun _=>VU .u32 0#32),(1,fun _=>VU .u32 0#32),(1,fun _=>VU .u32 0#32),(1,fun _=>VU .u32 0#32),(1,fun _=>VU .u32 0#32),(1,fun _=>VU .u32 0#32),(32,fun _=>VU .u8 0#8),(32,fun _=>VU .u8 0#8),(1,fun _=>VU .u32 0#32),(64,fun _=>VU .u8 0#8),(1,fun _=> .slice none 0 0),(1,fun _=> .slice none 0 0),(1,fun _=> .slice none 0 0),(1,fun _=> .int .i64 0)]:=dr (by kernel_rfl)
theorem rQ:bc Tryz.prog 15=true:=by kernel_rfl
theorem FT:bc Tryz.prog 22=true:=by kernel_rfl
theorem eS:bC Tryz.prog 59 0 0=true:=by kernel_rfl
theorem eQ:du Tryz.prog 55 2 343=true:=by kernel_rfl
theorem Dw:bc Tryz.prog 24=true:=by kernel_rfl
theorem hn:bC Tryz.prog 59 2 688=true:=by kernel_rfl
theorem iR:dC Tryz.prog 57=true:=by kernel_rfl
theorem oe:∃el,Tryz.prog.underlying 57=some (.slice el):=⟨71,by kernel_rfl⟩
theorem qw:bc Tryz.prog 30=true:=by kernel_rfl
theorem uz:bc Tryz.prog 21=true:=by kernel_rfl
theorem x2:e2 Tryz.prog 71 [(0,1),(1,51),(52,1),(53,1),(54,1)]=true:=by kernel_rfl
theorem nG:cM Tryz.prog 71 [(1,fun _=> .int .i64 0),(16,fun _=>VU .u8 0#8),(1,fun _=>VU .u32 0#32),(32,fun _=>VU .u8 0#8),(1,fun _=>VU .u32 0#32),(1,fun _=>VU .u32 0#32),(1,fun _=> .slice none 0 0),(1,fun _=> .string .empty),(1,fun _=> .string .empty)]:=dr (by kernel_rfl)
theorem xl:(Tryz.prog.info? 71).bind (·.zero)=some (AG [(1,fun _=> .int .i64 0),(16,fun _=>VU .u8 0#8),(1,fun _=>VU .u32 0#32),(32,fun _=>VU .u8 0#8),(1,fun _=>VU .u32 0#32),(1,fun _=>VU .u32 0#32),(1,fun _=> .slice none 0 0),(1,fun _=> .string .empty),(1,fun _=> .string .empty)]):=by kernel_rfl
theorem nO:Tryz.prog.underlying 57=some (.slice 71):=by kernel_rfl
theorem vf:eT Tryz.prog 57=some (55,128,some (AG [(1,fun _=> .int .i64 0),(16,fun _=>VU .u8 0#8),(1,fun _=>VU .u32 0#32),(32,fun _=>VU .u8 0#8),(1,fun _=>VU .u32 0#32),(1,fun _=>VU .u32 0#32),(1,fun _=> .slice none 0 0),(1,fun _=> .string .empty),(1,fun _=> .string .empty)])):=by kernel_rfl
theorem uH:bN Tryz.prog 57 1=true:=by kernel_rfl
theorem w_:dc Tryz.prog 57 55=true:=by kernel_rfl
theorem tx:bC Tryz.prog 59 1 686=true:=by kernel_rfl
theorem sG:du Tryz.prog 56 2 1=true:=by kernel_rfl
theorem qO:bC Tryz.prog 71 1 1=true:=by kernel_rfl
theorem tr:bC Tryz.prog 71 2 52=true:=by kernel_rfl
theorem sh:bC Tryz.prog 71 4 54=true:=by kernel_rfl
theorem pa:dC Tryz.prog 9=true:=by kernel_rfl
theorem yx:bc Tryz.prog 17=true:=by kernel_rfl
theorem Bn:bC Tryz.prog 71 3 53=true:=by kernel_rfl
theorem x5:bc Tryz.prog 11=true:=by kernel_rfl
theorem tz:bc Tryz.prog 12=true:=by kernel_rfl
theorem yf:bc Tryz.prog 16=true:=by kernel_rfl
theorem vE:bc Tryz.prog 19=true:=by kernel_rfl
theorem rG:bc Tryz.prog 14=true:=by kernel_rfl
end Go.Proofs.YtjclppnbbpnfnaaGreatDoor
