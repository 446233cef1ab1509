/-
 PLAIN (own work): the model of SHA-256's compression, in words of 32 bits, as the code reckons it.
-/
import Derived.Test.YtjclppnbbpnfnaaGreatDoorEa
namespace Go.LW
set_option linter.unusedSimpArgs false
set_option linter.unusedVariables false
set_option linter.unusedSectionVars false
def zb (a b c d:BitVec 8):BitVec 32:=a.setWidth 32 <<< 24 ||| b.setWidth 32 <<< 16 ||| c.setWidth 32 <<< 8 ||| d.setWidth 32
def pg (bz:Nat→BitVec 8) (i:Nat):BitVec 32:=zb (bz (4*i)) (bz (4*i+1)) (bz (4*i+2)) (bz (4*i+3))
def jA (bz:Nat→BitVec 8):Nat→(Nat→BitVec 32)
 | 0=>fun _=>0#32
 | t+1=>an (jA bz t) t (pg bz t)
def CW (w:Nat→BitVec 32) (t:Nat):BitVec 32:=
 ((w (t - 2)).rotateRight 17 ^^^ (w (t - 2)).rotateRight 19 ^^^ (w (t - 2)) >>> 10)+w (t - 7)+((w (t - 15)).rotateRight 7 ^^^ (w (t - 15)).rotateRight 18 ^^^ (w (t - 15)) >>> 3)+w (t - 16)
def de (bz:Nat→BitVec 8):Nat→(Nat→BitVec 32)
 | 0=>jA bz 16
 | k+1=>an (de bz k) (16+k) (CW (de bz k) (16+k))
structure H8 where
 (a b c d e f g h:BitVec 32)
def t1 (K w:BitVec 32) (s:H8):BitVec 32:=
 s.h+(s.e.rotateRight 6 ^^^ s.e.rotateRight 11 ^^^ s.e.rotateRight 25)+((s.e &&& s.f) ^^^ (~~~s.e &&& s.g))+K+w
def t2 (s:H8):BitVec 32:=(s.a.rotateRight 2 ^^^ s.a.rotateRight 13 ^^^ s.a.rotateRight 22)+((s.a &&& s.b) ^^^ (s.a &&& s.c) ^^^ (s.b &&& s.c))
def round (K w:BitVec 32) (s:H8):H8:=⟨t1 K w s+t2 s,s.a,s.b,s.c,s.d+t1 K w s,s.e,s.f,s.g⟩
def rounds (K w:Nat→BitVec 32) (s:H8):Nat→H8
 | 0=>s
 | t+1=>round (K t) (w t) (rounds K w s t)
def H8.of (s:Nat→BitVec 32):H8:=⟨s 0,s 1,s 2,s 3,s 4,s 5,s 6,s 7⟩
def H8.at (s:H8):Nat→BitVec 32
 | 0=>s.a | 1=>s.b | 2=>s.c | 3=>s.d | 4=>s.e | 5=>s.f | 6=>s.g | _=>s.h
def ij (st x:Nat→BitVec 32):Nat→(Nat→BitVec 32)
 | 0=>st
 | i+1=>an (ij st x i) i (ij st x i i+x i)
def bE:Nat→BitVec 32:=fun i=> #[0x428a2f98#32,0x71374491#32,0xb5c0fbcf#32,0xe9b5dba5#32,0x3956c25b#32,0x59f111f1#32,0x923f82a4#32,0xab1c5ed5#32,
 0xd807aa98#32,0x12835b01#32,0x243185be#32,0x550c7dc3#32,0x72be5d74#32,0x80deb1fe#32,0x9bdc06a7#32,0xc19bf174#32,
 0xe49b69c1#32,0xefbe4786#32,0x0fc19dc6#32,0x240ca1cc#32,0x2de92c6f#32,0x4a7484aa#32,0x5cb0a9dc#32,0x76f988da#32,
 0x983e5152#32,0xa831c66d#32,0xb00327c8#32,0xbf597fc7#32,0xc6e00bf3#32,0xd5a79147#32,0x06ca6351#32,0x14292967#32,
 0x27b70a85#32,0x2e1b2138#32,0x4d2c6dfc#32,0x53380d13#32,0x650a7354#32,0x766a0abb#32,0x81c2c92e#32,0x92722c85#32,
 0xa2bfe8a1#32,0xa81a664b#32,0xc24b8b70#32,0xc76c51a3#32,0xd192e819#32,0xd6990624#32,0xf40e3585#32,0x106aa070#32,
 0x19a4c116#32,0x1e376c08#32,0x2748774c#32,0x34b0bcb5#32,0x391c0cb3#32,0x4ed8aa4a#32,0x5b9cca4f#32,0x682e6ff3#32,
 0x748f82ee#32,0x78a5636f#32,0x84c87814#32,0x8cc70208#32,0x90befffa#32,0xa4506ceb#32,0xbef9a3f7#32,0xc67178f2#32].getD i 0#32
def compress (K:Nat→BitVec 32) (st:Nat→BitVec 32) (bz:Nat→BitVec 8):Nat→BitVec 32:=
 ij st (rounds K (de bz 48) (H8.of st) 64).at 8
def cH:Nat→BitVec 32:=fun i=> #[0x6a09e667#32,0xbb67ae85#32,0x3c6ef372#32,0xa54ff53a#32,0x510e527f#32,0x9b05688c#32,0x1f83d9ab#32,0x5be0cd19#32].getD i 0#32
theorem vc {b a:Nat→BitVec 8} (h:∀q,q < 64→b q=a q):∀t,t≤16→jA b t=jA a t
 | 0,_=>rfl
 | t+1,c=>by
   have e:pg b t=pg a t:=by unfold pg;rw [h _ (by omega),h _ (by omega),h _ (by omega),h _ (by omega)]
   simp only [jA];rw [vc h t (by omega),e]
theorem vX {b a:Nat→BitVec 8} (h:∀q,q < 64→b q=a q):∀k,de b k=de a k
 | 0=>vc h 16 (by omega)
 | k+1=>by simp only [de];rw [vX h k]
theorem yG (st x:Nat→BitVec 32):∀k i,k≤i→ij st x k i=st i
 | 0,_,_=>rfl
 | k+1,i,h=>by simp only [ij];rw [eR _ _ _ _ (by omega)];exact yG st x k i (by omega)
theorem tv (st x:Nat→BitVec 32):∀k i,i < k→ij st x k i=st i+x i
 | k+1,i,h=>by
   simp only [ij]
   by_cases hi:i=k
   · subst hi;rw [fz,yG st x i i (Nat.le_refl _)]
   · rw [eR _ _ _ _ hi];exact tv st x k i (by omega)
theorem Fb {s s':Nat→BitVec 32} (h:∀i,i < 8→s i=s' i):H8.of s=H8.of s':=by
 unfold H8.of;rw [h 0 (by omega),h 1 (by omega),h 2 (by omega),h 3 (by omega),h 4 (by omega),h 5 (by omega),h 6 (by omega),h 7 (by omega)]
theorem wA {KK:Nat→BitVec 32} {s s':Nat→BitVec 32} {b a:Nat→BitVec 8} (hs:∀i,i < 8→s i=s' i) (hb:∀q,q < 64→b q=a q):∀i,i < 8→compress KK s b i=compress KK s' a i:=fun i hi=>by
 unfold compress
 rw [tv _ _ _ _ hi,tv _ _ _ _ hi,hs i hi,vX hb,Fb hs]
def jJ (KK H0:Nat→BitVec 32) (m:Nat→BitVec 8):Nat→(Nat→BitVec 32)
 | 0=>H0
 | i+1=>compress KK (jJ KK H0 m i) (fun q=>m (64*i+q))
theorem qh {KK H0:Nat→BitVec 32} {m m':Nat→BitVec 8}:∀i,(∀q,q < 64*i→m q=m' q)→∀j,j < 8→jJ KK H0 m i j=jJ KK H0 m' i j
 | 0,_,_,_=>rfl
 | i+1,h,j,a=>wA (qh i fun q hq=>h q (by omega)) (fun q hq=>h _ (by omega)) j a
structure eD (KK H0:Nat→BitVec 32) (N:Nat) (m:Nat→BitVec 8) (st:Nat→BitVec 32) (bz:Nat→BitVec 8):Prop where
 px:∀i,i < 8→st i=jJ KK H0 m (N / 64) i
 sR:∀q,q < N % 64→bz q=m (64*(N / 64)+q)
theorem eD.zero (KK H0:Nat→BitVec 32) (m:Nat→BitVec 8) (bz:Nat→BitVec 8):eD KK H0 0 m H0 bz:=⟨fun _ _=>rfl,fun q hq=>absurd hq (by omega)⟩
theorem eD.congr {KK H0:Nat→BitVec 32} {N:Nat} {m m':Nat→BitVec 8} {st:Nat→BitVec 32} {bz:Nat→BitVec 8} (h:eD KK H0 N m st bz) (hm:∀q,q < N→m q=m' q):eD KK H0 N m' st bz:=
 ⟨fun i hi=>by rw [h.px i hi];exact qh _ (fun q hq=>hm q (by omega)) i hi,fun q hq=>by rw [h.sR q hq];exact hm _ (by omega)⟩
theorem eD.part {KK H0:Nat→BitVec 32} {N a:Nat} {m g:Nat→BitVec 8} {st:Nat→BitVec 32} {bz:Nat→BitVec 8} (h:eD KK H0 N m st bz) (hc:N % 64+a < 64):
   eD KK H0 (N+a) (bh m N a g) st (bh bz (N % 64) a g):=by
 have b:(N+a) / 64=N / 64:=by omega
 have d:(N+a) % 64=N % 64+a:=by omega
 refine ⟨fun i hi=>?_,fun q hq=>?_⟩
 · rw [h.px i hi,b]
   exact qh _ (fun q hq=>by rw [c7 _ _ _ _ _ (by omega)]) i hi
 · rw [b]
   by_cases c:q < N % 64
   · rw [c7 _ _ _ _ _ (by omega),c7 _ _ _ _ _ (by omega)];exact h.sR q c
   · rw [eh _ _ _ _ _ (by omega),eh _ _ _ _ _ (by omega)]
     congr 1;omega
theorem eD.whole {KK H0:Nat→BitVec 32} {N a:Nat} {m g:Nat→BitVec 8} {st:Nat→BitVec 32} {bz:Nat→BitVec 8} (h:eD KK H0 N m st bz) (hc:N % 64+a=64):
   eD KK H0 (N+a) (bh m N a g) (compress KK st (bh bz (N % 64) a g)) (bh bz (N % 64) a g):=by
 have c:(N+a) / 64=N / 64+1:=by omega
 have e:(N+a) % 64=0:=by omega
 refine ⟨fun i hi=>?_,fun q hq=>absurd hq (by omega)⟩
 rw [c]
 simp only [jJ]
 refine wA (fun j b=>?_) (fun q hq=>?_) i hi
 · rw [h.px j b]
   exact qh _ (fun q hq=>by rw [c7 _ _ _ _ _ (by omega)]) j b
 · by_cases d:q < N % 64
   · rw [c7 _ _ _ _ _ (by omega),c7 _ _ _ _ _ (by omega)];exact h.sR q d
   · rw [eh _ _ _ _ _ (by omega),eh _ _ _ _ _ (by omega)]
     congr 1;omega
def EM (m:Nat→BitVec 8) (N q:Nat):BitVec 8:=if q < N then m q else if q=N then 128#8 else 0#8
def q6 (N:Nat):Nat:=N+1+(119 - N % 64) % 64
def Aa (N:Nat):BitVec 64:=8#64*BitVec.ofNat 64 N
def Ed (m:Nat→BitVec 8) (N q:Nat):BitVec 8:=if q < q6 N then EM m N q else (Aa N >>> (56 - 8*(q - q6 N))).setWidth 8
def Dx (st:Nat→BitVec 32) (q:Nat):BitVec 8:=(st (q / 4) >>> (24 - 8*(q % 4))).setWidth 8
def GM (KK H0:Nat→BitVec 32) (m:Nat→BitVec 8) (N:Nat):Nat→BitVec 8:=Dx (jJ KK H0 (Ed m N) ((q6 N+8) / 64))
def jk (st:Nat→BitVec 32):Nat→(Nat→BitVec 8)
 | 0=>fun _=>0#8
 | i+1=>an (an (an (an (jk st i) (4*i) ((st i >>> 24).setWidth 8)) (4*i+1) ((st i >>> 16).setWidth 8)) (4*i+2) ((st i >>> 8).setWidth 8)) (4*i+3) ((st i).setWidth 8)
def GK:Nat→BitVec 64:=fun i=>(bE i).setWidth 64
end Go.LW
