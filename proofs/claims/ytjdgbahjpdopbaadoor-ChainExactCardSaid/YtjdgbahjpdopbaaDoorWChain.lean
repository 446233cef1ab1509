/-
  WALKS of the package's functions, printed by this session's own program (auto.py).
-/
import Derived.Test.YtjdgbahjpdopbaaDoorProg
import Derived.Test.YtjdgbahjpdopbaaDoorLx9
import Derived.Test.YtjdgbahjpdopbaaDoorRChain
import Derived.Test.YtjdgbahjpdopbaaDoorEls
import Derived.Test.YtjdgbahjpdopbaaDoorWKdf
namespace Go.Proofs.YtjdgbahjpdopbaaDoor
set_option linter.unusedSimpArgs false
set_option linter.unusedVariables false
set_option linter.unusedSectionVars false
open Go Go.LW
theorem FChain.slu22 : Tryd.prog.underlying 22 = some (.slice 5) := by kernel_rfl
theorem FChain.u5 : Tryd.prog.underlying 5 = some (.int .u8) := by kernel_rfl
theorem FChain.sz5 : szT Tryd.prog 5 1 = true := by kernel_rfl
theorem FChain.zv5 : (Tryd.prog.info? 5).bind (·.zero) = some (VU .u8 0#8) := by kernel_rfl
theorem FChain.zv22 : (Tryd.prog.info? 22).bind (·.zero) = some (.slice none 0 0) := by kernel_rfl
theorem FChain.slu75 : Tryd.prog.underlying 75 = some (.slice 22) := by kernel_rfl
theorem FChain.sz22 : szT Tryd.prog 22 1 = true := by kernel_rfl
theorem FChain.mixed : Tryd.prog.follows .mixedOrders = true := by kernel_rfl
theorem FChain.sl22 : slB Tryd.prog 22 1 = true := by kernel_rfl
theorem FChain.call36 : callB Tryd.prog 36 = true := by kernel_rfl
theorem FChain.call42 : callB Tryd.prog 42 = true := by kernel_rfl
theorem FChain.agg61 : aggT Tryd.prog 61 32 = true := by kernel_rfl
theorem FChain.zv61 : (Tryd.prog.info? 61).bind (·.zero) = some (AG [(32, fun _ => VU .u8 0#8)]) := by kernel_rfl
theorem FChain.slu62 : Tryd.prog.underlying 62 = some (.slice 61) := by kernel_rfl
theorem FChain.sz61 : szT Tryd.prog 61 32 = true := by kernel_rfl
theorem FChain.el62 : elD Tryd.prog 62 = some (32, 32, some (AG [(32, fun _ => VU .u8 0#8)])) := by kernel_rfl
theorem FChain.arr61 : arrB Tryd.prog 61 32 1 = true := by kernel_rfl
theorem FChain.z61 : zeroIs Tryd.prog 61 [(32, fun _ => VU .u8 0#8)] := zeroIs_agg (by kernel_rfl)
theorem FChain.row61 : rowB Tryd.prog 61 = true := by kernel_rfl
theorem FChain.call48 : callB Tryd.prog 48 = true := by kernel_rfl

set_option maxRecDepth 8000 in
set_option maxHeartbeats 1000000 in
theorem chain_Step_ok {B : Nat} {w0 w : World} {L : List Rg} {iG0 : Nat} (hG0 : L[iG0]? = some ⟨some 0, 0, 64, fun q => VU .u32 (K256 q), false⟩) {iG1 : Nat} (hG1 : L[iG1]? = some ⟨some 1, 0, 8, fun q => VU .u32 (H256 q), false⟩) {key1 : Nat → BitVec 8} {r : ((Nat → BitVec 8) × (Nat → BitVec 8))} (hR : chain_Step key1 r) (HST : St B w0 (L) w) :
    Calls Tryd.prog 48 #[AG [(32, fun q => VU .u8 (key1 q))]] w fun e w' => e = .returned (.tuple #[AG [(32, fun q => VU .u8 (r.1 q))], AG [(32, fun q => VU .u8 (r.2 q))]]) ∧ St B w0 (L) w' := by
  refine W.enter 12 Tryd.func48 rfl rfl rfl ?_
  unfold chain_Step at hR
  refine W.seq_k fun K2 hK2 => ?_
  refine W.regionT [(0, false), (1, false), (2, false)] (by kernel_rfl) ?_
  refine Plan.boxA HST rfl rfl PIn.nil fun b3 w3 hb3 h3 => ?_
  simp only [rngs, Nat.zero_add, Nat.reduceAdd, List.cons_append, List.nil_append] at h3
  refine Plan.alloc h3 rfl FChain.z61 PIn.nil fun b4 w4 hb4 h4 => ?_
  simp only [rngs, Nat.zero_add, Nat.reduceAdd, List.cons_append, List.nil_append] at h4
  refine Plan.alloc h4 rfl FChain.z61 PIn.nil fun b5 w5 hb5 h5 => ?_
  simp only [rngs, Nat.zero_add, Nat.reduceAdd, List.cons_append, List.nil_append] at h5
  refine Plan.nil ?_
  refine hK2 _ _ ?_; clear hK2
  refine W.seq_k fun K6 hK6 => ?_
  refine W.regionF FChain.mixed (.fork [(0, true), (4, true)] (.fork [(1, false)] (.fork [(2, false)] (.line [(3, false), (5, false), (6, false), (7, false), (8, false), (9, false)]) (.fork [(5, false)] (.line [(3, false), (6, false), (7, false), (8, false), (9, false)]) (.line [(6, false), (3, false), (7, false), (8, false), (9, false)]))) (.fork [(5, false)] (.fork [(2, false)] (.line [(3, false), (6, false), (7, false), (8, false), (9, false)]) (.line [(6, false), (3, false), (7, false), (8, false), (9, false)])) (.line [(6, false), (2, false), (3, false), (7, false), (8, false), (9, false)]))) (.fork [(5, false)] (.fork [(1, false)] (.fork [(2, false)] (.line [(3, false), (6, false), (7, false), (8, false), (9, false)]) (.line [(6, false), (3, false), (7, false), (8, false), (9, false)])) (.line [(6, false), (2, false), (3, false), (7, false), (8, false), (9, false)])) (.line [(6, false), (1, false), (2, false), (3, false), (7, false), (8, false), (9, false)]))) (by kernel_rfl) (PlanT.toFork ?_)
  have h7 := h5.drew
  refine Plan.slArrO (lo := 0) (hi := 32) (m := 32) (c := 32) (o' := 0) FChain.arr61 rfl rfl rfl rfl (by omega) (by omega) (by omega) (by omega) ?_
  refine Plan.slArrO (lo := 0) (hi := 32) (m := 32) (c := 32) (o' := 0) FChain.arr61 rfl rfl rfl rfl (by omega) (by omega) (by omega) (by omega) ?_
  obtain ⟨x_12, hr11, hR⟩ := hR
  obtain ⟨x_18, hr17, hR⟩ := hR
  obtain ⟨x_24, hr23, hR⟩ := hR
  obtain ⟨x_29, hr28, hR⟩ := hR
  obtain ⟨x_36, hr35, hR⟩ := hR
  obtain ⟨x_39, hr38, hR⟩ := hR
  obtain ⟨x_47, hr46, hR⟩ := hR
  obtain ⟨x_52, hr51, hR⟩ := hR
  obtain ⟨x_59, hr58, hR⟩ := hR
  obtain ⟨x_62, hr61, hR⟩ := hR
  obtain ⟨x_71, hr70, hR⟩ := hR
  obtain ⟨x_74, hr73, hR⟩ := hR
  refine Plan.forked ?_ ?_
  ·
    refine PlanT.toFork ?_
    refine Plan.buildSlice h7 (ps := [(1, fun q => VU .u8 (lit ([2#8] : List Byte) q))]) FChain.slu22 FChain.sz5 FChain.zv5 (by decide) (by decide) rfl rfl (by kernel_rfl) (EffO.keep PIn.nil) fun b78 w78 hb78 h78 => ?_
    simp only [rngs, List.cons_append, List.nil_append] at h78
    have ho78 : Ow (some ⟨b78, 0, none⟩) (some b78) ([2#8] : List Byte).length 1 (lit ([2#8] : List Byte)) ([2#8] : List Byte) := ⟨.inr ⟨b78, rfl, rfl⟩, Nat.le_refl _, rfl, fun q _ => rfl⟩
    refine Plan.forked ?_ ?_
    ·
      refine PlanT.toFork ?_
      refine Plan.buildSlice h78 (ps := [(1, fun i => .slice ((fun i => ([some ⟨b78, 0, none⟩] : List (Option Addr)).getD i none) i) ((fun i => ([([2#8] : List Byte).length] : List Nat).getD i 0) i) ((fun i => ([1] : List Nat).getD i 0) i))]) FChain.slu75 FChain.sz22 FChain.zv22 (by decide) (by decide) rfl rfl rfl (EffO.keep PIn.nil) fun b80 w80 hb80 h80 => ?_
      simp only [rngs, List.cons_append, List.nil_append] at h80
      refine Plan.forked ?_ ?_
      ·
        refine PlanT.toLine ?_
        refine Plan.call (vs := [.slice (some ⟨b3, 0, none⟩) 32 32, .slice (some ⟨b80, 0, none⟩) 1 1]) rfl FChain.call36 rfl (kdf_Mac_ok (iG0 := iG0 + 5) hG0 (iG1 := iG1 + 5) hG1 (by exact (Bx.arr0 (n := 32) (cc := 32) 4 rfl (by omega) (by omega))) (by exact (Bss.of 0 rfl rfl (fun i hi => match i, hi with | 0, _ => ⟨_, (ho78.bx 1 rfl)⟩ | k + 1, hk => absurd hk (by omega)))) hr70 h80) ?_
        rintro _ w83 ⟨rfl, h83⟩
        refine ⟨_, rfl, .inl ⟨PIn.keep PIn.nil h83, ?_⟩⟩
        refine Plan.buildSlice h83 (ps := [(1, fun q => VU .u8 (lit ([1#8] : List Byte) q))]) FChain.slu22 FChain.sz5 FChain.zv5 (by decide) (by decide) rfl rfl (by kernel_rfl) (EffO.keep PIn.nil) fun b84 w84 hb84 h84 => ?_
        simp only [rngs, List.cons_append, List.nil_append] at h84
        have ho84 : Ow (some ⟨b84, 0, none⟩) (some b84) ([1#8] : List Byte).length 1 (lit ([1#8] : List Byte)) ([1#8] : List Byte) := ⟨.inr ⟨b84, rfl, rfl⟩, Nat.le_refl _, rfl, fun q _ => rfl⟩
        refine Plan.buildSlice h84 (ps := [(1, fun i => .slice ((fun i => ([some ⟨b84, 0, none⟩] : List (Option Addr)).getD i none) i) ((fun i => ([([1#8] : List Byte).length] : List Nat).getD i 0) i) ((fun i => ([1] : List Nat).getD i 0) i))]) FChain.slu75 FChain.sz22 FChain.zv22 (by decide) (by decide) rfl rfl rfl (EffO.keep PIn.nil) fun b86 w86 hb86 h86 => ?_
        simp only [rngs, List.cons_append, List.nil_append] at h86
        refine Plan.call (vs := [.slice (some ⟨b3, 0, none⟩) 32 32, .slice (some ⟨b86, 0, none⟩) 1 1]) rfl FChain.call36 rfl (kdf_Mac_ok (iG0 := iG0 + 7) hG0 (iG1 := iG1 + 7) hG1 (by exact (Bx.arr0 (n := 32) (cc := 32) 6 rfl (by omega) (by omega))) (by exact (Bss.of 0 rfl rfl (fun i hi => match i, hi with | 0, _ => ⟨_, (ho84.bx 1 rfl)⟩ | k + 1, hk => absurd hk (by omega)))) hr73 h86) ?_
        rintro _ w89 ⟨rfl, h89⟩
        refine ⟨_, rfl, .inl ⟨PIn.keep PIn.nil h89, ?_⟩⟩
        refine Plan.storeA (f' := fun q => VU .u8 (x_71 q)) h89 5 rfl rfl rfl rfl (fun _ _ => rfl) FChain.sz61 rfl fun w90 h90 => ?_
        simp only [List.cons_append, List.nil_append, List.set_cons_zero, List.set_cons_succ] at h90
        refine Plan.storeA (f' := fun q => VU .u8 (x_74 q)) h90 4 rfl rfl rfl rfl (fun _ _ => rfl) FChain.sz61 rfl fun w91 h91 => ?_
        simp only [List.cons_append, List.nil_append, List.set_cons_zero, List.set_cons_succ] at h91
        refine Plan.nil ?_
        refine hK6 _ _ ?_; clear hK6
        refine W.ret (finR_ret ?_)
        have h92 := St.pickT (C := [_, _, _, _, _, _, _]) h91 [] (by decide)
        simp only [pick, List.filterMap_cons, List.filterMap_nil, List.getElem?_cons_zero, List.getElem?_cons_succ, List.cons_append, List.nil_append] at h92
        subst r
        refine RetOk.mk (.agg h91 rfl (.cons 5 rfl .nil) FChain.agg61 (.agg h91 rfl (.cons 4 rfl .nil) FChain.agg61 .nil)) ?_
        exact ⟨rfl, h92⟩
      ·
        refine PlanT.toFork ?_
        refine Plan.buildSlice h80 (ps := [(1, fun q => VU .u8 (lit ([1#8] : List Byte) q))]) FChain.slu22 FChain.sz5 FChain.zv5 (by decide) (by decide) rfl rfl (by kernel_rfl) (EffO.keep PIn.nil) fun b93 w93 hb93 h93 => ?_
        simp only [rngs, List.cons_append, List.nil_append] at h93
        have ho93 : Ow (some ⟨b93, 0, none⟩) (some b93) ([1#8] : List Byte).length 1 (lit ([1#8] : List Byte)) ([1#8] : List Byte) := ⟨.inr ⟨b93, rfl, rfl⟩, Nat.le_refl _, rfl, fun q _ => rfl⟩
        refine Plan.forked ?_ ?_
        ·
          refine PlanT.toLine ?_
          refine Plan.call (vs := [.slice (some ⟨b3, 0, none⟩) 32 32, .slice (some ⟨b80, 0, none⟩) 1 1]) rfl FChain.call36 rfl (kdf_Mac_ok (iG0 := iG0 + 6) hG0 (iG1 := iG1 + 6) hG1 (by exact (Bx.arr0 (n := 32) (cc := 32) 5 rfl (by omega) (by omega))) (by exact (Bss.of 1 rfl rfl (fun i hi => match i, hi with | 0, _ => ⟨_, (ho78.bx 2 rfl)⟩ | k + 1, hk => absurd hk (by omega)))) hr70 h93) ?_
          rintro _ w96 ⟨rfl, h96⟩
          refine ⟨_, rfl, .inl ⟨PIn.keep PIn.nil h96, ?_⟩⟩
          refine Plan.buildSlice h96 (ps := [(1, fun i => .slice ((fun i => ([some ⟨b93, 0, none⟩] : List (Option Addr)).getD i none) i) ((fun i => ([([1#8] : List Byte).length] : List Nat).getD i 0) i) ((fun i => ([1] : List Nat).getD i 0) i))]) FChain.slu75 FChain.sz22 FChain.zv22 (by decide) (by decide) rfl rfl rfl (EffO.keep PIn.nil) fun b98 w98 hb98 h98 => ?_
          simp only [rngs, List.cons_append, List.nil_append] at h98
          refine Plan.call (vs := [.slice (some ⟨b3, 0, none⟩) 32 32, .slice (some ⟨b98, 0, none⟩) 1 1]) rfl FChain.call36 rfl (kdf_Mac_ok (iG0 := iG0 + 7) hG0 (iG1 := iG1 + 7) hG1 (by exact (Bx.arr0 (n := 32) (cc := 32) 6 rfl (by omega) (by omega))) (by exact (Bss.of 0 rfl rfl (fun i hi => match i, hi with | 0, _ => ⟨_, (ho93.bx 1 rfl)⟩ | k + 1, hk => absurd hk (by omega)))) hr73 h98) ?_
          rintro _ w101 ⟨rfl, h101⟩
          refine ⟨_, rfl, .inl ⟨PIn.keep PIn.nil h101, ?_⟩⟩
          refine Plan.storeA (f' := fun q => VU .u8 (x_71 q)) h101 5 rfl rfl rfl rfl (fun _ _ => rfl) FChain.sz61 rfl fun w102 h102 => ?_
          simp only [List.cons_append, List.nil_append, List.set_cons_zero, List.set_cons_succ] at h102
          refine Plan.storeA (f' := fun q => VU .u8 (x_74 q)) h102 4 rfl rfl rfl rfl (fun _ _ => rfl) FChain.sz61 rfl fun w103 h103 => ?_
          simp only [List.cons_append, List.nil_append, List.set_cons_zero, List.set_cons_succ] at h103
          refine Plan.nil ?_
          refine hK6 _ _ ?_; clear hK6
          refine W.ret (finR_ret ?_)
          have h104 := St.pickT (C := [_, _, _, _, _, _, _]) h103 [] (by decide)
          simp only [pick, List.filterMap_cons, List.filterMap_nil, List.getElem?_cons_zero, List.getElem?_cons_succ, List.cons_append, List.nil_append] at h104
          subst r
          refine RetOk.mk (.agg h103 rfl (.cons 5 rfl .nil) FChain.agg61 (.agg h103 rfl (.cons 4 rfl .nil) FChain.agg61 .nil)) ?_
          exact ⟨rfl, h104⟩
        ·
          refine PlanT.toLine ?_
          refine Plan.buildSlice h93 (ps := [(1, fun i => .slice ((fun i => ([some ⟨b93, 0, none⟩] : List (Option Addr)).getD i none) i) ((fun i => ([([1#8] : List Byte).length] : List Nat).getD i 0) i) ((fun i => ([1] : List Nat).getD i 0) i))]) FChain.slu75 FChain.sz22 FChain.zv22 (by decide) (by decide) rfl rfl rfl (EffO.keep PIn.nil) fun b106 w106 hb106 h106 => ?_
          simp only [rngs, List.cons_append, List.nil_append] at h106
          refine Plan.call (vs := [.slice (some ⟨b3, 0, none⟩) 32 32, .slice (some ⟨b80, 0, none⟩) 1 1]) rfl FChain.call36 rfl (kdf_Mac_ok (iG0 := iG0 + 7) hG0 (iG1 := iG1 + 7) hG1 (by exact (Bx.arr0 (n := 32) (cc := 32) 6 rfl (by omega) (by omega))) (by exact (Bss.of 2 rfl rfl (fun i hi => match i, hi with | 0, _ => ⟨_, (ho78.bx 3 rfl)⟩ | k + 1, hk => absurd hk (by omega)))) hr70 h106) ?_
          rintro _ w109 ⟨rfl, h109⟩
          refine ⟨_, rfl, .inl ⟨PIn.keep PIn.nil h109, ?_⟩⟩
          refine Plan.call (vs := [.slice (some ⟨b3, 0, none⟩) 32 32, .slice (some ⟨b106, 0, none⟩) 1 1]) rfl FChain.call36 rfl (kdf_Mac_ok (iG0 := iG0 + 7) hG0 (iG1 := iG1 + 7) hG1 (by exact (Bx.arr0 (n := 32) (cc := 32) 6 rfl (by omega) (by omega))) (by exact (Bss.of 0 rfl rfl (fun i hi => match i, hi with | 0, _ => ⟨_, (ho93.bx 1 rfl)⟩ | k + 1, hk => absurd hk (by omega)))) hr73 h109) ?_
          rintro _ w112 ⟨rfl, h112⟩
          refine ⟨_, rfl, .inl ⟨PIn.keep PIn.nil h112, ?_⟩⟩
          refine Plan.storeA (f' := fun q => VU .u8 (x_71 q)) h112 5 rfl rfl rfl rfl (fun _ _ => rfl) FChain.sz61 rfl fun w113 h113 => ?_
          simp only [List.cons_append, List.nil_append, List.set_cons_zero, List.set_cons_succ] at h113
          refine Plan.storeA (f' := fun q => VU .u8 (x_74 q)) h113 4 rfl rfl rfl rfl (fun _ _ => rfl) FChain.sz61 rfl fun w114 h114 => ?_
          simp only [List.cons_append, List.nil_append, List.set_cons_zero, List.set_cons_succ] at h114
          refine Plan.nil ?_
          refine hK6 _ _ ?_; clear hK6
          refine W.ret (finR_ret ?_)
          have h115 := St.pickT (C := [_, _, _, _, _, _, _]) h114 [] (by decide)
          simp only [pick, List.filterMap_cons, List.filterMap_nil, List.getElem?_cons_zero, List.getElem?_cons_succ, List.cons_append, List.nil_append] at h115
          subst r
          refine RetOk.mk (.agg h114 rfl (.cons 5 rfl .nil) FChain.agg61 (.agg h114 rfl (.cons 4 rfl .nil) FChain.agg61 .nil)) ?_
          exact ⟨rfl, h115⟩
    ·
      refine PlanT.toFork ?_
      refine Plan.buildSlice h78 (ps := [(1, fun q => VU .u8 (lit ([1#8] : List Byte) q))]) FChain.slu22 FChain.sz5 FChain.zv5 (by decide) (by decide) rfl rfl (by kernel_rfl) (EffO.keep PIn.nil) fun b116 w116 hb116 h116 => ?_
      simp only [rngs, List.cons_append, List.nil_append] at h116
      have ho116 : Ow (some ⟨b116, 0, none⟩) (some b116) ([1#8] : List Byte).length 1 (lit ([1#8] : List Byte)) ([1#8] : List Byte) := ⟨.inr ⟨b116, rfl, rfl⟩, Nat.le_refl _, rfl, fun q _ => rfl⟩
      refine Plan.forked ?_ ?_
      ·
        refine PlanT.toFork ?_
        refine Plan.buildSlice h116 (ps := [(1, fun i => .slice ((fun i => ([some ⟨b78, 0, none⟩] : List (Option Addr)).getD i none) i) ((fun i => ([([2#8] : List Byte).length] : List Nat).getD i 0) i) ((fun i => ([1] : List Nat).getD i 0) i))]) FChain.slu75 FChain.sz22 FChain.zv22 (by decide) (by decide) rfl rfl rfl (EffO.keep PIn.nil) fun b118 w118 hb118 h118 => ?_
        simp only [rngs, List.cons_append, List.nil_append] at h118
        refine Plan.forked ?_ ?_
        ·
          refine PlanT.toLine ?_
          refine Plan.call (vs := [.slice (some ⟨b3, 0, none⟩) 32 32, .slice (some ⟨b118, 0, none⟩) 1 1]) rfl FChain.call36 rfl (kdf_Mac_ok (iG0 := iG0 + 6) hG0 (iG1 := iG1 + 6) hG1 (by exact (Bx.arr0 (n := 32) (cc := 32) 5 rfl (by omega) (by omega))) (by exact (Bss.of 0 rfl rfl (fun i hi => match i, hi with | 0, _ => ⟨_, (ho78.bx 2 rfl)⟩ | k + 1, hk => absurd hk (by omega)))) hr70 h118) ?_
          rintro _ w121 ⟨rfl, h121⟩
          refine ⟨_, rfl, .inl ⟨PIn.keep PIn.nil h121, ?_⟩⟩
          refine Plan.buildSlice h121 (ps := [(1, fun i => .slice ((fun i => ([some ⟨b116, 0, none⟩] : List (Option Addr)).getD i none) i) ((fun i => ([([1#8] : List Byte).length] : List Nat).getD i 0) i) ((fun i => ([1] : List Nat).getD i 0) i))]) FChain.slu75 FChain.sz22 FChain.zv22 (by decide) (by decide) rfl rfl rfl (EffO.keep PIn.nil) fun b123 w123 hb123 h123 => ?_
          simp only [rngs, List.cons_append, List.nil_append] at h123
          refine Plan.call (vs := [.slice (some ⟨b3, 0, none⟩) 32 32, .slice (some ⟨b123, 0, none⟩) 1 1]) rfl FChain.call36 rfl (kdf_Mac_ok (iG0 := iG0 + 7) hG0 (iG1 := iG1 + 7) hG1 (by exact (Bx.arr0 (n := 32) (cc := 32) 6 rfl (by omega) (by omega))) (by exact (Bss.of 0 rfl rfl (fun i hi => match i, hi with | 0, _ => ⟨_, (ho116.bx 2 rfl)⟩ | k + 1, hk => absurd hk (by omega)))) hr73 h123) ?_
          rintro _ w126 ⟨rfl, h126⟩
          refine ⟨_, rfl, .inl ⟨PIn.keep PIn.nil h126, ?_⟩⟩
          refine Plan.storeA (f' := fun q => VU .u8 (x_71 q)) h126 5 rfl rfl rfl rfl (fun _ _ => rfl) FChain.sz61 rfl fun w127 h127 => ?_
          simp only [List.cons_append, List.nil_append, List.set_cons_zero, List.set_cons_succ] at h127
          refine Plan.storeA (f' := fun q => VU .u8 (x_74 q)) h127 4 rfl rfl rfl rfl (fun _ _ => rfl) FChain.sz61 rfl fun w128 h128 => ?_
          simp only [List.cons_append, List.nil_append, List.set_cons_zero, List.set_cons_succ] at h128
          refine Plan.nil ?_
          refine hK6 _ _ ?_; clear hK6
          refine W.ret (finR_ret ?_)
          have h129 := St.pickT (C := [_, _, _, _, _, _, _]) h128 [] (by decide)
          simp only [pick, List.filterMap_cons, List.filterMap_nil, List.getElem?_cons_zero, List.getElem?_cons_succ, List.cons_append, List.nil_append] at h129
          subst r
          refine RetOk.mk (.agg h128 rfl (.cons 5 rfl .nil) FChain.agg61 (.agg h128 rfl (.cons 4 rfl .nil) FChain.agg61 .nil)) ?_
          exact ⟨rfl, h129⟩
        ·
          refine PlanT.toLine ?_
          refine Plan.buildSlice h118 (ps := [(1, fun i => .slice ((fun i => ([some ⟨b116, 0, none⟩] : List (Option Addr)).getD i none) i) ((fun i => ([([1#8] : List Byte).length] : List Nat).getD i 0) i) ((fun i => ([1] : List Nat).getD i 0) i))]) FChain.slu75 FChain.sz22 FChain.zv22 (by decide) (by decide) rfl rfl rfl (EffO.keep PIn.nil) fun b131 w131 hb131 h131 => ?_
          simp only [rngs, List.cons_append, List.nil_append] at h131
          refine Plan.call (vs := [.slice (some ⟨b3, 0, none⟩) 32 32, .slice (some ⟨b118, 0, none⟩) 1 1]) rfl FChain.call36 rfl (kdf_Mac_ok (iG0 := iG0 + 7) hG0 (iG1 := iG1 + 7) hG1 (by exact (Bx.arr0 (n := 32) (cc := 32) 6 rfl (by omega) (by omega))) (by exact (Bss.of 1 rfl rfl (fun i hi => match i, hi with | 0, _ => ⟨_, (ho78.bx 3 rfl)⟩ | k + 1, hk => absurd hk (by omega)))) hr70 h131) ?_
          rintro _ w134 ⟨rfl, h134⟩
          refine ⟨_, rfl, .inl ⟨PIn.keep PIn.nil h134, ?_⟩⟩
          refine Plan.call (vs := [.slice (some ⟨b3, 0, none⟩) 32 32, .slice (some ⟨b131, 0, none⟩) 1 1]) rfl FChain.call36 rfl (kdf_Mac_ok (iG0 := iG0 + 7) hG0 (iG1 := iG1 + 7) hG1 (by exact (Bx.arr0 (n := 32) (cc := 32) 6 rfl (by omega) (by omega))) (by exact (Bss.of 0 rfl rfl (fun i hi => match i, hi with | 0, _ => ⟨_, (ho116.bx 2 rfl)⟩ | k + 1, hk => absurd hk (by omega)))) hr73 h134) ?_
          rintro _ w137 ⟨rfl, h137⟩
          refine ⟨_, rfl, .inl ⟨PIn.keep PIn.nil h137, ?_⟩⟩
          refine Plan.storeA (f' := fun q => VU .u8 (x_71 q)) h137 5 rfl rfl rfl rfl (fun _ _ => rfl) FChain.sz61 rfl fun w138 h138 => ?_
          simp only [List.cons_append, List.nil_append, List.set_cons_zero, List.set_cons_succ] at h138
          refine Plan.storeA (f' := fun q => VU .u8 (x_74 q)) h138 4 rfl rfl rfl rfl (fun _ _ => rfl) FChain.sz61 rfl fun w139 h139 => ?_
          simp only [List.cons_append, List.nil_append, List.set_cons_zero, List.set_cons_succ] at h139
          refine Plan.nil ?_
          refine hK6 _ _ ?_; clear hK6
          refine W.ret (finR_ret ?_)
          have h140 := St.pickT (C := [_, _, _, _, _, _, _]) h139 [] (by decide)
          simp only [pick, List.filterMap_cons, List.filterMap_nil, List.getElem?_cons_zero, List.getElem?_cons_succ, List.cons_append, List.nil_append] at h140
          subst r
          refine RetOk.mk (.agg h139 rfl (.cons 5 rfl .nil) FChain.agg61 (.agg h139 rfl (.cons 4 rfl .nil) FChain.agg61 .nil)) ?_
          exact ⟨rfl, h140⟩
      ·
        refine PlanT.toLine ?_
        refine Plan.buildSlice h116 (ps := [(1, fun i => .slice ((fun i => ([some ⟨b116, 0, none⟩] : List (Option Addr)).getD i none) i) ((fun i => ([([1#8] : List Byte).length] : List Nat).getD i 0) i) ((fun i => ([1] : List Nat).getD i 0) i))]) FChain.slu75 FChain.sz22 FChain.zv22 (by decide) (by decide) rfl rfl rfl (EffO.keep PIn.nil) fun b142 w142 hb142 h142 => ?_
        simp only [rngs, List.cons_append, List.nil_append] at h142
        refine Plan.buildSlice h142 (ps := [(1, fun i => .slice ((fun i => ([some ⟨b78, 0, none⟩] : List (Option Addr)).getD i none) i) ((fun i => ([([2#8] : List Byte).length] : List Nat).getD i 0) i) ((fun i => ([1] : List Nat).getD i 0) i))]) FChain.slu75 FChain.sz22 FChain.zv22 (by decide) (by decide) rfl rfl rfl (EffO.keep PIn.nil) fun b144 w144 hb144 h144 => ?_
        simp only [rngs, List.cons_append, List.nil_append] at h144
        refine Plan.call (vs := [.slice (some ⟨b3, 0, none⟩) 32 32, .slice (some ⟨b144, 0, none⟩) 1 1]) rfl FChain.call36 rfl (kdf_Mac_ok (iG0 := iG0 + 7) hG0 (iG1 := iG1 + 7) hG1 (by exact (Bx.arr0 (n := 32) (cc := 32) 6 rfl (by omega) (by omega))) (by exact (Bss.of 0 rfl rfl (fun i hi => match i, hi with | 0, _ => ⟨_, (ho78.bx 3 rfl)⟩ | k + 1, hk => absurd hk (by omega)))) hr70 h144) ?_
        rintro _ w147 ⟨rfl, h147⟩
        refine ⟨_, rfl, .inl ⟨PIn.keep PIn.nil h147, ?_⟩⟩
        refine Plan.call (vs := [.slice (some ⟨b3, 0, none⟩) 32 32, .slice (some ⟨b142, 0, none⟩) 1 1]) rfl FChain.call36 rfl (kdf_Mac_ok (iG0 := iG0 + 7) hG0 (iG1 := iG1 + 7) hG1 (by exact (Bx.arr0 (n := 32) (cc := 32) 6 rfl (by omega) (by omega))) (by exact (Bss.of 1 rfl rfl (fun i hi => match i, hi with | 0, _ => ⟨_, (ho116.bx 2 rfl)⟩ | k + 1, hk => absurd hk (by omega)))) hr73 h147) ?_
        rintro _ w150 ⟨rfl, h150⟩
        refine ⟨_, rfl, .inl ⟨PIn.keep PIn.nil h150, ?_⟩⟩
        refine Plan.storeA (f' := fun q => VU .u8 (x_71 q)) h150 5 rfl rfl rfl rfl (fun _ _ => rfl) FChain.sz61 rfl fun w151 h151 => ?_
        simp only [List.cons_append, List.nil_append, List.set_cons_zero, List.set_cons_succ] at h151
        refine Plan.storeA (f' := fun q => VU .u8 (x_74 q)) h151 4 rfl rfl rfl rfl (fun _ _ => rfl) FChain.sz61 rfl fun w152 h152 => ?_
        simp only [List.cons_append, List.nil_append, List.set_cons_zero, List.set_cons_succ] at h152
        refine Plan.nil ?_
        refine hK6 _ _ ?_; clear hK6
        refine W.ret (finR_ret ?_)
        have h153 := St.pickT (C := [_, _, _, _, _, _, _]) h152 [] (by decide)
        simp only [pick, List.filterMap_cons, List.filterMap_nil, List.getElem?_cons_zero, List.getElem?_cons_succ, List.cons_append, List.nil_append] at h153
        subst r
        refine RetOk.mk (.agg h152 rfl (.cons 5 rfl .nil) FChain.agg61 (.agg h152 rfl (.cons 4 rfl .nil) FChain.agg61 .nil)) ?_
        exact ⟨rfl, h153⟩
  ·
    refine PlanT.toFork ?_
    refine Plan.buildSlice h7 (ps := [(1, fun q => VU .u8 (lit ([1#8] : List Byte) q))]) FChain.slu22 FChain.sz5 FChain.zv5 (by decide) (by decide) rfl rfl (by kernel_rfl) (EffO.keep PIn.nil) fun b154 w154 hb154 h154 => ?_
    simp only [rngs, List.cons_append, List.nil_append] at h154
    have ho154 : Ow (some ⟨b154, 0, none⟩) (some b154) ([1#8] : List Byte).length 1 (lit ([1#8] : List Byte)) ([1#8] : List Byte) := ⟨.inr ⟨b154, rfl, rfl⟩, Nat.le_refl _, rfl, fun q _ => rfl⟩
    refine Plan.forked ?_ ?_
    ·
      refine PlanT.toFork ?_
      refine Plan.buildSlice h154 (ps := [(1, fun q => VU .u8 (lit ([2#8] : List Byte) q))]) FChain.slu22 FChain.sz5 FChain.zv5 (by decide) (by decide) rfl rfl (by kernel_rfl) (EffO.keep PIn.nil) fun b155 w155 hb155 h155 => ?_
      simp only [rngs, List.cons_append, List.nil_append] at h155
      have ho155 : Ow (some ⟨b155, 0, none⟩) (some b155) ([2#8] : List Byte).length 1 (lit ([2#8] : List Byte)) ([2#8] : List Byte) := ⟨.inr ⟨b155, rfl, rfl⟩, Nat.le_refl _, rfl, fun q _ => rfl⟩
      refine Plan.forked ?_ ?_
      ·
        refine PlanT.toFork ?_
        refine Plan.buildSlice h155 (ps := [(1, fun i => .slice ((fun i => ([some ⟨b155, 0, none⟩] : List (Option Addr)).getD i none) i) ((fun i => ([([2#8] : List Byte).length] : List Nat).getD i 0) i) ((fun i => ([1] : List Nat).getD i 0) i))]) FChain.slu75 FChain.sz22 FChain.zv22 (by decide) (by decide) rfl rfl rfl (EffO.keep PIn.nil) fun b157 w157 hb157 h157 => ?_
        simp only [rngs, List.cons_append, List.nil_append] at h157
        refine Plan.forked ?_ ?_
        ·
          refine PlanT.toLine ?_
          refine Plan.call (vs := [.slice (some ⟨b3, 0, none⟩) 32 32, .slice (some ⟨b157, 0, none⟩) 1 1]) rfl FChain.call36 rfl (kdf_Mac_ok (iG0 := iG0 + 6) hG0 (iG1 := iG1 + 6) hG1 (by exact (Bx.arr0 (n := 32) (cc := 32) 5 rfl (by omega) (by omega))) (by exact (Bss.of 0 rfl rfl (fun i hi => match i, hi with | 0, _ => ⟨_, (ho155.bx 1 rfl)⟩ | k + 1, hk => absurd hk (by omega)))) hr70 h157) ?_
          rintro _ w160 ⟨rfl, h160⟩
          refine ⟨_, rfl, .inl ⟨PIn.keep PIn.nil h160, ?_⟩⟩
          refine Plan.buildSlice h160 (ps := [(1, fun i => .slice ((fun i => ([some ⟨b154, 0, none⟩] : List (Option Addr)).getD i none) i) ((fun i => ([([1#8] : List Byte).length] : List Nat).getD i 0) i) ((fun i => ([1] : List Nat).getD i 0) i))]) FChain.slu75 FChain.sz22 FChain.zv22 (by decide) (by decide) rfl rfl rfl (EffO.keep PIn.nil) fun b162 w162 hb162 h162 => ?_
          simp only [rngs, List.cons_append, List.nil_append] at h162
          refine Plan.call (vs := [.slice (some ⟨b3, 0, none⟩) 32 32, .slice (some ⟨b162, 0, none⟩) 1 1]) rfl FChain.call36 rfl (kdf_Mac_ok (iG0 := iG0 + 7) hG0 (iG1 := iG1 + 7) hG1 (by exact (Bx.arr0 (n := 32) (cc := 32) 6 rfl (by omega) (by omega))) (by exact (Bss.of 0 rfl rfl (fun i hi => match i, hi with | 0, _ => ⟨_, (ho154.bx 3 rfl)⟩ | k + 1, hk => absurd hk (by omega)))) hr73 h162) ?_
          rintro _ w165 ⟨rfl, h165⟩
          refine ⟨_, rfl, .inl ⟨PIn.keep PIn.nil h165, ?_⟩⟩
          refine Plan.storeA (f' := fun q => VU .u8 (x_71 q)) h165 5 rfl rfl rfl rfl (fun _ _ => rfl) FChain.sz61 rfl fun w166 h166 => ?_
          simp only [List.cons_append, List.nil_append, List.set_cons_zero, List.set_cons_succ] at h166
          refine Plan.storeA (f' := fun q => VU .u8 (x_74 q)) h166 4 rfl rfl rfl rfl (fun _ _ => rfl) FChain.sz61 rfl fun w167 h167 => ?_
          simp only [List.cons_append, List.nil_append, List.set_cons_zero, List.set_cons_succ] at h167
          refine Plan.nil ?_
          refine hK6 _ _ ?_; clear hK6
          refine W.ret (finR_ret ?_)
          have h168 := St.pickT (C := [_, _, _, _, _, _, _]) h167 [] (by decide)
          simp only [pick, List.filterMap_cons, List.filterMap_nil, List.getElem?_cons_zero, List.getElem?_cons_succ, List.cons_append, List.nil_append] at h168
          subst r
          refine RetOk.mk (.agg h167 rfl (.cons 5 rfl .nil) FChain.agg61 (.agg h167 rfl (.cons 4 rfl .nil) FChain.agg61 .nil)) ?_
          exact ⟨rfl, h168⟩
        ·
          refine PlanT.toLine ?_
          refine Plan.buildSlice h157 (ps := [(1, fun i => .slice ((fun i => ([some ⟨b154, 0, none⟩] : List (Option Addr)).getD i none) i) ((fun i => ([([1#8] : List Byte).length] : List Nat).getD i 0) i) ((fun i => ([1] : List Nat).getD i 0) i))]) FChain.slu75 FChain.sz22 FChain.zv22 (by decide) (by decide) rfl rfl rfl (EffO.keep PIn.nil) fun b170 w170 hb170 h170 => ?_
          simp only [rngs, List.cons_append, List.nil_append] at h170
          refine Plan.call (vs := [.slice (some ⟨b3, 0, none⟩) 32 32, .slice (some ⟨b157, 0, none⟩) 1 1]) rfl FChain.call36 rfl (kdf_Mac_ok (iG0 := iG0 + 7) hG0 (iG1 := iG1 + 7) hG1 (by exact (Bx.arr0 (n := 32) (cc := 32) 6 rfl (by omega) (by omega))) (by exact (Bss.of 1 rfl rfl (fun i hi => match i, hi with | 0, _ => ⟨_, (ho155.bx 2 rfl)⟩ | k + 1, hk => absurd hk (by omega)))) hr70 h170) ?_
          rintro _ w173 ⟨rfl, h173⟩
          refine ⟨_, rfl, .inl ⟨PIn.keep PIn.nil h173, ?_⟩⟩
          refine Plan.call (vs := [.slice (some ⟨b3, 0, none⟩) 32 32, .slice (some ⟨b170, 0, none⟩) 1 1]) rfl FChain.call36 rfl (kdf_Mac_ok (iG0 := iG0 + 7) hG0 (iG1 := iG1 + 7) hG1 (by exact (Bx.arr0 (n := 32) (cc := 32) 6 rfl (by omega) (by omega))) (by exact (Bss.of 0 rfl rfl (fun i hi => match i, hi with | 0, _ => ⟨_, (ho154.bx 3 rfl)⟩ | k + 1, hk => absurd hk (by omega)))) hr73 h173) ?_
          rintro _ w176 ⟨rfl, h176⟩
          refine ⟨_, rfl, .inl ⟨PIn.keep PIn.nil h176, ?_⟩⟩
          refine Plan.storeA (f' := fun q => VU .u8 (x_71 q)) h176 5 rfl rfl rfl rfl (fun _ _ => rfl) FChain.sz61 rfl fun w177 h177 => ?_
          simp only [List.cons_append, List.nil_append, List.set_cons_zero, List.set_cons_succ] at h177
          refine Plan.storeA (f' := fun q => VU .u8 (x_74 q)) h177 4 rfl rfl rfl rfl (fun _ _ => rfl) FChain.sz61 rfl fun w178 h178 => ?_
          simp only [List.cons_append, List.nil_append, List.set_cons_zero, List.set_cons_succ] at h178
          refine Plan.nil ?_
          refine hK6 _ _ ?_; clear hK6
          refine W.ret (finR_ret ?_)
          have h179 := St.pickT (C := [_, _, _, _, _, _, _]) h178 [] (by decide)
          simp only [pick, List.filterMap_cons, List.filterMap_nil, List.getElem?_cons_zero, List.getElem?_cons_succ, List.cons_append, List.nil_append] at h179
          subst r
          refine RetOk.mk (.agg h178 rfl (.cons 5 rfl .nil) FChain.agg61 (.agg h178 rfl (.cons 4 rfl .nil) FChain.agg61 .nil)) ?_
          exact ⟨rfl, h179⟩
      ·
        refine PlanT.toLine ?_
        refine Plan.buildSlice h155 (ps := [(1, fun i => .slice ((fun i => ([some ⟨b154, 0, none⟩] : List (Option Addr)).getD i none) i) ((fun i => ([([1#8] : List Byte).length] : List Nat).getD i 0) i) ((fun i => ([1] : List Nat).getD i 0) i))]) FChain.slu75 FChain.sz22 FChain.zv22 (by decide) (by decide) rfl rfl rfl (EffO.keep PIn.nil) fun b181 w181 hb181 h181 => ?_
        simp only [rngs, List.cons_append, List.nil_append] at h181
        refine Plan.buildSlice h181 (ps := [(1, fun i => .slice ((fun i => ([some ⟨b155, 0, none⟩] : List (Option Addr)).getD i none) i) ((fun i => ([([2#8] : List Byte).length] : List Nat).getD i 0) i) ((fun i => ([1] : List Nat).getD i 0) i))]) FChain.slu75 FChain.sz22 FChain.zv22 (by decide) (by decide) rfl rfl rfl (EffO.keep PIn.nil) fun b183 w183 hb183 h183 => ?_
        simp only [rngs, List.cons_append, List.nil_append] at h183
        refine Plan.call (vs := [.slice (some ⟨b3, 0, none⟩) 32 32, .slice (some ⟨b183, 0, none⟩) 1 1]) rfl FChain.call36 rfl (kdf_Mac_ok (iG0 := iG0 + 7) hG0 (iG1 := iG1 + 7) hG1 (by exact (Bx.arr0 (n := 32) (cc := 32) 6 rfl (by omega) (by omega))) (by exact (Bss.of 0 rfl rfl (fun i hi => match i, hi with | 0, _ => ⟨_, (ho155.bx 2 rfl)⟩ | k + 1, hk => absurd hk (by omega)))) hr70 h183) ?_
        rintro _ w186 ⟨rfl, h186⟩
        refine ⟨_, rfl, .inl ⟨PIn.keep PIn.nil h186, ?_⟩⟩
        refine Plan.call (vs := [.slice (some ⟨b3, 0, none⟩) 32 32, .slice (some ⟨b181, 0, none⟩) 1 1]) rfl FChain.call36 rfl (kdf_Mac_ok (iG0 := iG0 + 7) hG0 (iG1 := iG1 + 7) hG1 (by exact (Bx.arr0 (n := 32) (cc := 32) 6 rfl (by omega) (by omega))) (by exact (Bss.of 1 rfl rfl (fun i hi => match i, hi with | 0, _ => ⟨_, (ho154.bx 3 rfl)⟩ | k + 1, hk => absurd hk (by omega)))) hr73 h186) ?_
        rintro _ w189 ⟨rfl, h189⟩
        refine ⟨_, rfl, .inl ⟨PIn.keep PIn.nil h189, ?_⟩⟩
        refine Plan.storeA (f' := fun q => VU .u8 (x_71 q)) h189 5 rfl rfl rfl rfl (fun _ _ => rfl) FChain.sz61 rfl fun w190 h190 => ?_
        simp only [List.cons_append, List.nil_append, List.set_cons_zero, List.set_cons_succ] at h190
        refine Plan.storeA (f' := fun q => VU .u8 (x_74 q)) h190 4 rfl rfl rfl rfl (fun _ _ => rfl) FChain.sz61 rfl fun w191 h191 => ?_
        simp only [List.cons_append, List.nil_append, List.set_cons_zero, List.set_cons_succ] at h191
        refine Plan.nil ?_
        refine hK6 _ _ ?_; clear hK6
        refine W.ret (finR_ret ?_)
        have h192 := St.pickT (C := [_, _, _, _, _, _, _]) h191 [] (by decide)
        simp only [pick, List.filterMap_cons, List.filterMap_nil, List.getElem?_cons_zero, List.getElem?_cons_succ, List.cons_append, List.nil_append] at h192
        subst r
        refine RetOk.mk (.agg h191 rfl (.cons 5 rfl .nil) FChain.agg61 (.agg h191 rfl (.cons 4 rfl .nil) FChain.agg61 .nil)) ?_
        exact ⟨rfl, h192⟩
    ·
      refine PlanT.toLine ?_
      refine Plan.buildSlice h154 (ps := [(1, fun i => .slice ((fun i => ([some ⟨b154, 0, none⟩] : List (Option Addr)).getD i none) i) ((fun i => ([([1#8] : List Byte).length] : List Nat).getD i 0) i) ((fun i => ([1] : List Nat).getD i 0) i))]) FChain.slu75 FChain.sz22 FChain.zv22 (by decide) (by decide) rfl rfl rfl (EffO.keep PIn.nil) fun b194 w194 hb194 h194 => ?_
      simp only [rngs, List.cons_append, List.nil_append] at h194
      refine Plan.buildSlice h194 (ps := [(1, fun q => VU .u8 (lit ([2#8] : List Byte) q))]) FChain.slu22 FChain.sz5 FChain.zv5 (by decide) (by decide) rfl rfl (by kernel_rfl) (EffO.keep PIn.nil) fun b195 w195 hb195 h195 => ?_
      simp only [rngs, List.cons_append, List.nil_append] at h195
      have ho195 : Ow (some ⟨b195, 0, none⟩) (some b195) ([2#8] : List Byte).length 1 (lit ([2#8] : List Byte)) ([2#8] : List Byte) := ⟨.inr ⟨b195, rfl, rfl⟩, Nat.le_refl _, rfl, fun q _ => rfl⟩
      refine Plan.buildSlice h195 (ps := [(1, fun i => .slice ((fun i => ([some ⟨b195, 0, none⟩] : List (Option Addr)).getD i none) i) ((fun i => ([([2#8] : List Byte).length] : List Nat).getD i 0) i) ((fun i => ([1] : List Nat).getD i 0) i))]) FChain.slu75 FChain.sz22 FChain.zv22 (by decide) (by decide) rfl rfl rfl (EffO.keep PIn.nil) fun b197 w197 hb197 h197 => ?_
      simp only [rngs, List.cons_append, List.nil_append] at h197
      refine Plan.call (vs := [.slice (some ⟨b3, 0, none⟩) 32 32, .slice (some ⟨b197, 0, none⟩) 1 1]) rfl FChain.call36 rfl (kdf_Mac_ok (iG0 := iG0 + 7) hG0 (iG1 := iG1 + 7) hG1 (by exact (Bx.arr0 (n := 32) (cc := 32) 6 rfl (by omega) (by omega))) (by exact (Bss.of 0 rfl rfl (fun i hi => match i, hi with | 0, _ => ⟨_, (ho195.bx 1 rfl)⟩ | k + 1, hk => absurd hk (by omega)))) hr70 h197) ?_
      rintro _ w200 ⟨rfl, h200⟩
      refine ⟨_, rfl, .inl ⟨PIn.keep PIn.nil h200, ?_⟩⟩
      refine Plan.call (vs := [.slice (some ⟨b3, 0, none⟩) 32 32, .slice (some ⟨b194, 0, none⟩) 1 1]) rfl FChain.call36 rfl (kdf_Mac_ok (iG0 := iG0 + 7) hG0 (iG1 := iG1 + 7) hG1 (by exact (Bx.arr0 (n := 32) (cc := 32) 6 rfl (by omega) (by omega))) (by exact (Bss.of 2 rfl rfl (fun i hi => match i, hi with | 0, _ => ⟨_, (ho154.bx 3 rfl)⟩ | k + 1, hk => absurd hk (by omega)))) hr73 h200) ?_
      rintro _ w203 ⟨rfl, h203⟩
      refine ⟨_, rfl, .inl ⟨PIn.keep PIn.nil h203, ?_⟩⟩
      refine Plan.storeA (f' := fun q => VU .u8 (x_71 q)) h203 5 rfl rfl rfl rfl (fun _ _ => rfl) FChain.sz61 rfl fun w204 h204 => ?_
      simp only [List.cons_append, List.nil_append, List.set_cons_zero, List.set_cons_succ] at h204
      refine Plan.storeA (f' := fun q => VU .u8 (x_74 q)) h204 4 rfl rfl rfl rfl (fun _ _ => rfl) FChain.sz61 rfl fun w205 h205 => ?_
      simp only [List.cons_append, List.nil_append, List.set_cons_zero, List.set_cons_succ] at h205
      refine Plan.nil ?_
      refine hK6 _ _ ?_; clear hK6
      refine W.ret (finR_ret ?_)
      have h206 := St.pickT (C := [_, _, _, _, _, _, _]) h205 [] (by decide)
      simp only [pick, List.filterMap_cons, List.filterMap_nil, List.getElem?_cons_zero, List.getElem?_cons_succ, List.cons_append, List.nil_append] at h206
      subst r
      refine RetOk.mk (.agg h205 rfl (.cons 5 rfl .nil) FChain.agg61 (.agg h205 rfl (.cons 4 rfl .nil) FChain.agg61 .nil)) ?_
      exact ⟨rfl, h206⟩


set_option maxRecDepth 8000 in
set_option maxHeartbeats 1000000 in
theorem chain_Ahead_ok {B : Nat} {w0 w : World} {L : List Rg} {iG0 : Nat} (hG0 : L[iG0]? = some ⟨some 0, 0, 64, fun q => VU .u32 (K256 q), false⟩) {iG1 : Nat} (hG1 : L[iG1]? = some ⟨some 1, 0, 8, fun q => VU .u32 (H256 q), false⟩) {key1 : Nat → BitVec 8} {n_2 : Int} {r : ((Nat → BitVec 8) × (List (Nat → BitVec 8)) × Nat)} (hR : chain_Ahead key1 n_2 r) (HST : St B w0 (L) w) :
    Calls Tryd.prog 38 #[AG [(32, fun q => VU .u8 (key1 q))], .int .i64 n_2] w fun e w' => ∃ ay1 : Option Addr, ∃ py1 : Option Nat, ∃ ny1 : Nat, ∃ cy1 : Nat, ∃ Fy1 : Nat → Value, e = .returned (.tuple #[AG [(32, fun q => VU .u8 (r.1 q))], .slice ay1 ny1 cy1, VN r.2.2]) ∧ St B w0 (⟨py1, 0, cy1 * 32, Fy1, true⟩ :: L) w' ∧ LO D61 [] ay1 py1 ny1 cy1 Fy1 r.2.1 := by
  refine W.enter 30 Tryd.func38 rfl rfl rfl ?_
  unfold chain_Ahead at hR
  refine W.seq_k fun K3 hK3 => ?_
  refine W.regionT [(0, false), (1, false), (2, true), (3, true)] (by kernel_rfl) ?_
  refine Plan.boxA HST rfl rfl PIn.nil fun b4 w4 hb4 h4 => ?_
  simp only [rngs, Nat.zero_add, Nat.reduceAdd, List.cons_append, List.nil_append] at h4
  refine Plan.alloc h4 rfl FChain.z61 PIn.nil fun b5 w5 hb5 h5 => ?_
  simp only [rngs, Nat.zero_add, Nat.reduceAdd, List.cons_append, List.nil_append] at h5
  refine Plan.assign_slice rfl rfl ?_
  refine Plan.assign_int rfl rfl ?_
  refine Plan.nil ?_
  refine hK3 _ _ ?_; clear hK3
  refine W.seq_k fun K6 hK6 => ?_
  refine W.seq_k fun K14 hK14 => ?_
  refine W.regionT [(0, true), (1, true), (2, true), (3, true), (4, true), (5, true)] (by kernel_rfl) ?_
  refine Plan.move_int rfl rfl ?_
  by_cases hc15 : n_2 < 0
  ·
    replace hR := ifT hR hc15
    refine Plan.cmpV (a := (n_2 : Int)) (b := (0 : Int)) (p := n_2 < 0) (v := true) rfl rfl rfl rfl icmp_lt (decide_eq_true hc15) ?_
    refine Plan.move_bool rfl rfl ?_
    refine Plan.passed rfl ?_
    refine Plan.passed rfl ?_
    refine Plan.pickTb rfl rfl rfl ?_
    refine Plan.nil ?_
    refine hK14 _ _ ?_; clear hK14
    refine W.condT rfl ?_
    refine W.seq_k fun K16 hK16 => ?_
    refine W.regionT [(0, true), (1, false), (2, true), (3, true)] (by kernel_rfl) ?_
    refine Plan.buildZ FChain.row61 FChain.z61 rfl ?_
    refine Plan.storeA (f' := fun q => VU .u8 ((fun _ => 0#8) q)) h5 0 rfl rfl rfl rfl (fun _ _ => rfl) FChain.sz61 rfl fun w17 h17 => ?_
    simp only [List.cons_append, List.nil_append, List.set_cons_zero, List.set_cons_succ] at h17
    refine Plan.assign_slice rfl rfl ?_
    refine Plan.assign_int rfl rfl ?_
    refine Plan.nil ?_
    refine hK16 _ _ ?_; clear hK16
    refine W.ret (thenR_ret (finR_ret ?_))
    have h18 : St B w0 (⟨none, 0, 0 * 32, fun _ => undef, true⟩ :: _) _ := h17.nilE (fun _ => undef)
    have h19 := St.pickT (C := [_, _, _]) h18 [0] (by decide)
    simp only [pick, List.filterMap_cons, List.filterMap_nil, List.getElem?_cons_zero, List.getElem?_cons_succ, List.cons_append, List.nil_append] at h19
    subst r
    refine RetOk.mk (.agg h17 rfl (.cons 0 rfl .nil) FChain.agg61 (.tmp_slice rfl (.tmp_int rfl .nil))) ?_
    exact ⟨none, none, 0, 0, (fun _ => undef), rfl, h19, LO.nil⟩
  ·
    replace hR := ifF hR hc15
    refine Plan.cmpV (a := (n_2 : Int)) (b := (0 : Int)) (p := n_2 < 0) (v := false) rfl rfl rfl rfl icmp_lt (decide_eq_false hc15) ?_
    refine Plan.move_bool rfl rfl ?_
    refine Plan.move_int rfl rfl ?_
    refine Plan.cmpP (a := (n_2 : Int)) (b := (256 : Int)) (p := 256 < n_2) rfl rfl rfl rfl icmp_gt ?_
    refine Plan.pickFb rfl rfl rfl ?_
    refine Plan.nil ?_
    refine hK14 _ _ ?_; clear hK14
    by_cases hc20 : 256 < n_2
    ·
      replace hR := ifT hR hc20
      refine W.condT (congrArg Value.bool (decide_eq_true hc20)) ?_
      refine W.seq_k fun K21 hK21 => ?_
      refine W.regionT [(0, true), (1, false), (2, true), (3, true)] (by kernel_rfl) ?_
      refine Plan.buildZ FChain.row61 FChain.z61 rfl ?_
      refine Plan.storeA (f' := fun q => VU .u8 ((fun _ => 0#8) q)) h5 0 rfl rfl rfl rfl (fun _ _ => rfl) FChain.sz61 rfl fun w22 h22 => ?_
      simp only [List.cons_append, List.nil_append, List.set_cons_zero, List.set_cons_succ] at h22
      refine Plan.assign_slice rfl rfl ?_
      refine Plan.assign_int rfl rfl ?_
      refine Plan.nil ?_
      refine hK21 _ _ ?_; clear hK21
      refine W.ret (thenR_ret (finR_ret ?_))
      have h23 : St B w0 (⟨none, 0, 0 * 32, fun _ => undef, true⟩ :: _) _ := h22.nilE (fun _ => undef)
      have h24 := St.pickT (C := [_, _, _]) h23 [0] (by decide)
      simp only [pick, List.filterMap_cons, List.filterMap_nil, List.getElem?_cons_zero, List.getElem?_cons_succ, List.cons_append, List.nil_append] at h24
      subst r
      refine RetOk.mk (.agg h22 rfl (.cons 0 rfl .nil) FChain.agg61 (.tmp_slice rfl (.tmp_int rfl .nil))) ?_
      exact ⟨none, none, 0, 0, (fun _ => undef), rfl, h24, LO.nil⟩
    ·
      replace hR := ifF hR hc20
      refine W.condF (congrArg Value.bool (decide_eq_false hc20)) ?_
      refine W.skip ?_
      refine hK6 _ _ ?_; clear hK6
      refine W.seq_k fun K25 hK25 => ?_
      refine W.seq_k fun K26 hK26 => ?_
      refine W.regionT [(0, true), (1, true)] (by kernel_rfl) ?_
      refine Plan.move_int rfl rfl ?_
      refine Plan.move_int rfl rfl ?_
      refine Plan.nil ?_
      refine hK26 _ _ ?_; clear hK26
      have h73 : St B w0 (⟨none, 0, 0 * 32, fun _ => undef, true⟩ :: _) _ := h5.nilE (fun _ => undef)
      obtain ⟨messages70, m71, hI72, hR072⟩ := hR
      refine W.cutN (fun e w => ∃ y_messages70 : List (Nat → BitVec 8), ∃ y_m71 : Nat → BitVec 8, (messages70, m71) = (y_messages70, y_m71) ∧ ∃ n_messages70 : Nat, ∃ amessages70 : Option Addr, ∃ pmessages70 : Option Nat, ∃ cmessages70 : Nat, ∃ Fmessages70 : Nat → Value, EnvHas e [(2, .pointer (some ⟨b4, 0, none⟩)), (4, .pointer (some ⟨b5, 0, none⟩)), (5, .slice amessages70 n_messages70 cmessages70)] ∧ St B w0 (⟨pmessages70, 0, cmessages70 * 32, Fmessages70, true⟩ :: ⟨some b5, 0, 32, fun q => VU .u8 ((fun _ => 0#8) q), true⟩ :: ⟨some b4, 0, 32, fun q => VU .u8 (y_m71 q), true⟩ :: L) w ∧ LO D61 [] amessages70 pmessages70 n_messages70 cmessages70 Fmessages70 y_messages70) ?_ ?_
      ·
        refine W.block ?_
        refine W.iter hI72 (fun (s72 : ((List (Nat → BitVec 8)) × Nat × (Nat → BitVec 8))) e w => ∃ n_messages66 : Nat, ∃ amessages66 : Option Addr, ∃ pmessages66 : Option Nat, ∃ cmessages66 : Nat, ∃ Fmessages66 : Nat → Value, EnvHas e [(2, .pointer (some ⟨b4, 0, none⟩)), (4, .pointer (some ⟨b5, 0, none⟩)), (5, .slice amessages66 n_messages66 cmessages66), (15, .int .i64 n_2), (16, VN s72.2.1)] ∧ St B w0 (⟨pmessages66, 0, cmessages66 * 32, Fmessages66, true⟩ :: ⟨some b5, 0, 32, fun q => VU .u8 ((fun _ => 0#8) q), true⟩ :: ⟨some b4, 0, 32, fun q => VU .u8 (s72.2.2 q), true⟩ :: L) w ∧ LO D61 [] amessages66 pmessages66 n_messages66 cmessages66 Fmessages66 s72.1) ⟨0, none, none, 0, (fun _ => undef), (EnvHas.cons rfl (EnvHas.cons rfl (EnvHas.cons rfl (EnvHas.cons rfl (EnvHas.cons rfl EnvHas.nil))))), h73, LO.nil⟩ ?_
        rintro ⟨messages66, t68, m69⟩ o72 hR hx72 ev74 wl74 ⟨n_messages66, amessages66, pmessages66, cmessages66, Fmessages66, he74, h74, hmessages66⟩
        try dsimp only at he74 h74 hmessages66
        obtain rfl : List.length (α := (Nat → BitVec 8)) messages66 = n_messages66 := hmessages66.hl
        obtain ⟨ev74, rfl⟩ := he74.open
        unfold chain_Ahead_l0 at hR
        refine W.seq_k fun K75 hK75 => ?_
        refine W.regionT [(0, true)] (by kernel_rfl) ?_
        refine Plan.cmpP (a := (((t68 : Nat) : Int) : Int)) (b := (n_2 : Int)) (p := ((t68 : Nat) : Int) < n_2) rfl rfl rfl rfl icmp_lt ?_
        refine Plan.nil ?_
        refine hK75 _ _ ?_; clear hK75
        refine W.seq_k fun K76 hK76 => ?_
        by_cases hc77 : ((t68 : Nat) : Int) < n_2
        ·
          replace hR := ifT hR hc77
          refine W.condT (congrArg Value.bool (decide_eq_true hc77)) ?_
          refine W.skip ?_
          refine hK76 _ _ ?_; clear hK76
          refine W.seq_k fun K78 hK78 => ?_
          refine W.block ?_
          refine W.seq_k fun K79 hK79 => ?_
          refine W.regionT [(0, false)] (by kernel_rfl) ?_
          refine Plan.alloc h74 rfl FChain.z61 PIn.nil fun b80 w80 hb80 h80 => ?_
          simp only [rngs, Nat.zero_add, Nat.reduceAdd, List.cons_append, List.nil_append] at h80
          refine Plan.nil ?_
          refine hK79 _ _ ?_; clear hK79
          refine W.seq_k fun K81 hK81 => ?_
          refine W.regionT [(0, true), (1, false), (2, true), (3, true), (4, true), (5, false), (6, false)] (by kernel_rfl) ?_
          refine Plan.loadA1 h80 3 rfl rfl rfl FChain.agg61 ?_
          obtain ⟨x_83, x_84, hr82, hR⟩ := hR
          refine Plan.call (vs := [AG [(32, fun q => VU .u8 (m69 q))]]) rfl FChain.call48 rfl (chain_Step_ok (iG0 := iG0 + 4) hG0 (iG1 := iG1 + 4) hG1 hr82 h80) ?_
          rintro _ w85 ⟨rfl, h85⟩
          refine ⟨_, rfl, .inr ⟨rfl, ?_⟩⟩
          refine Plan.move_tuple rfl rfl ?_
          refine Plan.extract_agg rfl rfl rfl ?_
          refine Plan.extract_agg rfl rfl rfl ?_
          refine Plan.storeA (f' := fun q => VU .u8 (x_83 q)) h85 3 rfl rfl rfl rfl (fun _ _ => rfl) FChain.sz61 rfl fun w86 h86 => ?_
          simp only [List.cons_append, List.nil_append, List.set_cons_zero, List.set_cons_succ] at h86
          refine Plan.storeA (f' := fun q => VU .u8 (x_84 q)) h86 0 rfl rfl rfl rfl (fun _ _ => rfl) FChain.sz61 rfl fun w87 h87 => ?_
          simp only [List.cons_append, List.nil_append, List.set_cons_zero, List.set_cons_succ] at h87
          refine Plan.nil ?_
          refine hK81 _ _ ?_; clear hK81
          refine W.regionT [(0, true), (1, true), (2, false), (3, false), (4, true)] (by kernel_rfl) ?_
          refine Plan.move_slice rfl rfl ?_
          refine Plan.loadA1 h87 0 rfl rfl rfl FChain.agg61 ?_
          refine Plan.buildLO (D := D61) (sz := 32) h87 [((), x_84)] FChain.slu62 FChain.sz61 FChain.zv61 (by decide) (by decide) rfl rfl rfl rfl (fun _ _ => trivial) (EffO.wait rfl) fun b89 w89 F89 hb89 ho89 h89 => ?_
          replace ho89 : LO D61 [] (some ⟨b89, 0, none⟩) (some b89) ([x_84] : List (Nat → BitVec 8)).length 1 F89 ([x_84] : List (Nat → BitVec 8)) := ho89.re (fun _ _ h => h)
          obtain ⟨hc91, hR⟩ := hR
          refine Plan.appendLK (D := D61) (X := messages66) (Y := ([x_84] : List (Nat → BitVec 8))) (sz := 32) h89 () (fun _ => 0#8) 2 D61_flat hmessages66 rfl FChain.el62 rfl FChain.slu62 rfl rfl rfl rfl (LO.lvf D61_flat ho89 0 rfl) hc91.1 hc91.2 (fun _ _ => EffO.keep .nil) fun a90 pb90 cap90 F90 r90 iz90 w90 ho90 hi90 hv90 h90 => ?_
          simp only [List.cons_append, List.nil_append, List.set_cons_zero, List.set_cons_succ] at h90 hv90
          refine Plan.assign_slice rfl rfl ?_
          refine Plan.nil ?_
          refine blockR_norm ?_
          refine hK78 _ _ ?_; clear hK78
          refine W.regionT [(0, true), (1, true)] (by kernel_rfl) ?_
          refine Plan.addN (a := t68) (b := 1) rfl rfl rfl (by omega) ?_
          refine Plan.move_int rfl rfl ?_
          refine Plan.nil ?_
          have h92 := St.pickT (C := [_, _, _, _, _, _]) h90 [0, 4, 5] (by decide)
          simp only [pick, List.filterMap_cons, List.filterMap_nil, List.getElem?_cons_zero, List.getElem?_cons_succ, List.cons_append, List.nil_append] at h92
          exact iterR_norm ⟨_, hR, (messages66 ++ ([x_84] : List (Nat → BitVec 8))).length, a90, pb90, cap90, F90, (EnvHas.cons rfl (EnvHas.cons rfl (EnvHas.cons rfl (EnvHas.cons rfl (EnvHas.cons rfl EnvHas.nil))))), h92, ho90⟩
        ·
          replace hR := ifF hR hc77
          refine W.condF (congrArg Value.bool (decide_eq_false hc77)) ?_
          refine W.exit (thenR_exit (iterR_exit (blockR_here ?_)))
          exact ⟨messages66, m69, (hx72 _ hR).symm, messages66.length, amessages66, pmessages66, cmessages66, Fmessages66, (EnvHas.cons rfl (EnvHas.cons rfl (EnvHas.cons rfl EnvHas.nil))), h74, hmessages66⟩
      ·
        rintro ev93 wl93 ⟨y_messages70, y_m71, hy93, n_messages70, amessages70, pmessages70, cmessages70, Fmessages70, he93, h93, hmessages70⟩
        obtain ⟨ev93, rfl⟩ := he93.open
        cases hy93
        replace hR := hR072
        obtain rfl : List.length (α := (Nat → BitVec 8)) messages70 = n_messages70 := hmessages70.hl
        refine hK25 _ _ ?_; clear hK25
        refine W.seq_k fun K94 hK94 => ?_
        refine W.regionT [(0, true), (1, true), (2, false), (3, true), (4, true)] (by kernel_rfl) ?_
        refine Plan.loadA1 h93 2 rfl rfl rfl FChain.agg61 ?_
        refine Plan.move_slice rfl rfl ?_
        refine Plan.storeA (f' := fun q => VU .u8 (m71 q)) h93 1 rfl rfl rfl rfl (fun _ _ => rfl) FChain.sz61 rfl fun w95 h95 => ?_
        simp only [List.cons_append, List.nil_append, List.set_cons_zero, List.set_cons_succ] at h95
        refine Plan.assign_slice rfl rfl ?_
        refine Plan.assign_int rfl rfl ?_
        refine Plan.nil ?_
        refine hK94 _ _ ?_; clear hK94
        refine W.ret (finR_ret ?_)
        have h96 := St.pickT (C := [_, _, _]) h95 [0] (by decide)
        simp only [pick, List.filterMap_cons, List.filterMap_nil, List.getElem?_cons_zero, List.getElem?_cons_succ, List.cons_append, List.nil_append] at h96
        subst r
        refine RetOk.mk (.agg h95 rfl (.cons 1 rfl .nil) FChain.agg61 (.tmp_slice rfl (.tmp_int rfl .nil))) ?_
        exact ⟨amessages70, pmessages70, messages70.length, cmessages70, Fmessages70, rfl, h96, hmessages70⟩


set_option maxRecDepth 8000 in
set_option maxHeartbeats 1000000 in
theorem chain_Root_ok {B : Nat} {w0 w : World} {L : List Rg} {iG0 : Nat} (hG0 : L[iG0]? = some ⟨some 0, 0, 64, fun q => VU .u32 (K256 q), false⟩) {iG1 : Nat} (hG1 : L[iG1]? = some ⟨some 1, 0, 8, fun q => VU .u32 (H256 q), false⟩) {root1 : Nat → BitVec 8} {shared2 : Nat → BitVec 8} {r : ((Nat → BitVec 8) × (Nat → BitVec 8))} (hR : chain_Root root1 shared2 r) (HST : St B w0 (L) w) :
    Calls Tryd.prog 46 #[AG [(32, fun q => VU .u8 (root1 q))], AG [(32, fun q => VU .u8 (shared2 q))]] w fun e w' => e = .returned (.tuple #[AG [(32, fun q => VU .u8 (r.1 q))], AG [(32, fun q => VU .u8 (r.2 q))]]) ∧ St B w0 (L) w' := by
  refine W.enter 25 Tryd.func46 rfl rfl rfl ?_
  unfold chain_Root at hR
  refine W.seq_k fun K3 hK3 => ?_
  refine W.regionT [(0, false), (1, false), (2, false), (3, false)] (by kernel_rfl) ?_
  refine Plan.boxA HST rfl rfl PIn.nil fun b4 w4 hb4 h4 => ?_
  simp only [rngs, Nat.zero_add, Nat.reduceAdd, List.cons_append, List.nil_append] at h4
  refine Plan.boxA h4 rfl rfl PIn.nil fun b5 w5 hb5 h5 => ?_
  simp only [rngs, Nat.zero_add, Nat.reduceAdd, List.cons_append, List.nil_append] at h5
  refine Plan.alloc h5 rfl FChain.z61 PIn.nil fun b6 w6 hb6 h6 => ?_
  simp only [rngs, Nat.zero_add, Nat.reduceAdd, List.cons_append, List.nil_append] at h6
  refine Plan.alloc h6 rfl FChain.z61 PIn.nil fun b7 w7 hb7 h7 => ?_
  simp only [rngs, Nat.zero_add, Nat.reduceAdd, List.cons_append, List.nil_append] at h7
  refine Plan.nil ?_
  refine hK3 _ _ ?_; clear hK3
  refine W.seq_k fun K8 hK8 => ?_
  refine W.regionD FChain.mixed [(0, true), (1, true), (2, false), (3, false), (4, false), (5, true), (6, true), (7, true), (8, true), (9, true)] (by kernel_rfl) ?_
  have h9 := h7.drew
  refine Plan.slArrO (lo := 0) (hi := 32) (m := 32) (c := 32) (o' := 0) FChain.arr61 rfl rfl rfl rfl (by omega) (by omega) (by omega) (by omega) ?_
  refine Plan.slArrO (lo := 0) (hi := 32) (m := 32) (c := 32) (o' := 0) FChain.arr61 rfl rfl rfl rfl (by omega) (by omega) (by omega) (by omega) ?_
  refine Plan.constBytesO PIn.nil h9 (f := fun q => VU .u8 (lit ([108#8, 101#8, 116#8, 104#8, 101#8, 32#8, 114#8, 111#8, 111#8, 116#8] : List Byte) q)) FChain.slu22 FChain.u5 FChain.sz5 FChain.zv5 (by decide) (by decide) rfl (fun _ => rfl) (fun _ => rfl) rfl (by kernel_rfl) fun b10 w10 hb10 h10 => ?_
  obtain ⟨x_12, x_13, hr11, hR⟩ := hR
  refine Plan.call (vs := [.slice (some ⟨b4, 0, none⟩) 32 32, .slice (some ⟨b5, 0, none⟩) 32 32, .slice (some ⟨b10, 0, none⟩) 10 10, VN 64]) rfl FChain.call42 rfl (kdf_Derive_ok (iG0 := iG0 + 5) hG0 (iG1 := iG1 + 5) hG1 (by exact (Bx.arr0 (n := 32) (cc := 32) 4 rfl (by omega) (by omega))) (by exact (Bx.arr0 (n := 32) (cc := 32) 3 rfl (by omega) (by omega))) (by exact (Bx.arr0 (n := 10) (cc := 10) 0 rfl (by omega) (by omega))) hr11 h10) ?_
  rintro _ w19 ⟨ay0_14, py0_15, ny0_16, cy0_17, Fy0_18, rfl, h19, hf19_0⟩
  try dsimp only at hf19_0
  obtain rfl := hf19_0.hl
  refine ⟨_, rfl, .inl ⟨PIn.keep PIn.nil h19, ?_⟩⟩
  refine Plan.move_tuple rfl rfl ?_
  refine Plan.extract_slice rfl rfl rfl ?_
  refine Plan.extract_int rfl rfl rfl ?_
  refine Plan.assign_slice rfl rfl ?_
  refine Plan.assign_int rfl rfl ?_
  refine Plan.nil ?_
  refine hK8 _ _ ?_; clear hK8
  refine W.seq_k fun K20 hK20 => ?_
  refine W.regionT [(0, true), (1, true), (2, false)] (by kernel_rfl) ?_
  refine Plan.slArrO (lo := 0) (hi := 32) (m := 32) (c := 32) (o' := 0) FChain.arr61 rfl rfl rfl rfl (by omega) (by omega) (by omega) (by omega) ?_
  refine Plan.move_slice rfl rfl ?_
  refine Plan.copyB (jd := 0) (X := x_12) h19 3 (min x_12.length 32) FChain.sl22 rfl rfl rfl rfl ((hf19_0.bx 0 rfl).bs' 3 rfl) (fun _ => ⟨_, rfl, rfl⟩) rfl rfl (by omega) (EffO.keep PIn.nil) fun w21 h21 => ?_
  simp only [List.cons_append, List.nil_append, List.set_cons_zero, List.set_cons_succ] at h21
  refine Plan.nil ?_
  refine hK20 _ _ ?_; clear hK20
  refine W.seq_k fun K22 hK22 => ?_
  refine W.regionD FChain.mixed [(0, true), (1, true), (2, true), (3, false)] (by kernel_rfl) ?_
  have h23 := h21.drew
  refine Plan.slArrO (lo := 0) (hi := 32) (m := 32) (c := 32) (o' := 0) FChain.arr61 rfl rfl rfl rfl (by omega) (by omega) (by omega) (by omega) ?_
  refine Plan.move_slice rfl rfl ?_
  obtain ⟨hc24, hR⟩ := hR
  have hm25 := hf19_0.hc
  refine Plan.slSl (lo := 32) (hi := x_12.length) FChain.sl22 rfl rfl ⟨_, rfl⟩ rfl (by omega) ?_
  refine Plan.copyB (jd := 0) (X := (seg x_12 32 x_12.length)) h23 2 (min (x_12.length - 32) 32) FChain.sl22 rfl rfl rfl rfl (((hf19_0.bx 0 rfl).seg (lo := 32) (hi := x_12.length) hc24).bs' 2 rfl) (fun _ => ⟨_, rfl, rfl⟩) rfl rfl (by omega) (EffO.keep PIn.nil) fun w26 h26 => ?_
  simp only [List.cons_append, List.nil_append, List.set_cons_zero, List.set_cons_succ] at h26
  refine Plan.nil ?_
  refine hK22 _ _ ?_; clear hK22
  refine W.seq_k fun K27 hK27 => ?_
  refine W.regionT [(0, true), (1, true), (2, false), (3, false)] (by kernel_rfl) ?_
  refine Plan.loadA1 h26 3 rfl rfl rfl FChain.agg61 ?_
  refine Plan.loadA1 h26 2 rfl rfl rfl FChain.agg61 ?_
  refine Plan.storeA (f' := fun q => VU .u8 ((spl (fun _ => 0#8) 0 (min x_12.length 32) (lit x_12)) q)) h26 3 rfl rfl rfl rfl (fun _ _ => rfl) FChain.sz61 rfl fun w28 h28 => ?_
  simp only [List.cons_append, List.nil_append, List.set_cons_zero, List.set_cons_succ] at h28
  refine Plan.storeA (f' := fun q => VU .u8 ((spl (fun _ => 0#8) 0 (min (x_12.length - 32) 32) (lit (seg x_12 32 x_12.length))) q)) h28 2 rfl rfl rfl rfl (fun _ _ => rfl) FChain.sz61 rfl fun w29 h29 => ?_
  simp only [List.cons_append, List.nil_append, List.set_cons_zero, List.set_cons_succ] at h29
  refine Plan.nil ?_
  refine hK27 _ _ ?_; clear hK27
  refine W.ret (finR_ret ?_)
  have h30 := St.pickT (C := [_, _, _, _, _, _]) h29 [] (by decide)
  simp only [pick, List.filterMap_cons, List.filterMap_nil, List.getElem?_cons_zero, List.getElem?_cons_succ, List.cons_append, List.nil_append] at h30
  subst r
  refine RetOk.mk (.agg h29 rfl (.cons 3 rfl .nil) FChain.agg61 (.agg h29 rfl (.cons 2 rfl .nil) FChain.agg61 .nil)) ?_
  exact ⟨rfl, h30⟩

end Go.Proofs.YtjdgbahjpdopbaaDoor
