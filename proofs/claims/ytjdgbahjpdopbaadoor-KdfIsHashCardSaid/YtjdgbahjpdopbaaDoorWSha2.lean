/-
  WALKS, printed by this session's own generator (gen.py).
-/
import Derived.Test.YtjdgbahjpdopbaaDoorProg
import Derived.Test.YtjdgbahjpdopbaaDoorWSha1
namespace Go.Proofs.YtjdgbahjpdopbaaDoor
set_option linter.unusedSimpArgs false
set_option linter.unusedVariables false
set_option linter.unusedSectionVars false
open Go Go.LW
theorem FS2.pl96 : placesB Tryd.prog 96 [(0, 8), (8, 64), (72, 1)] = true := by kernel_rfl
theorem FS2.z96 : zeroIs Tryd.prog 96 [(8, fun _ => VU .u32 0#32), (64, fun _ => VU .u8 0#8), (1, fun _ => .int .i64 0)] := zeroIs_agg (by kernel_rfl)
theorem FS2.agg27 : aggT Tryd.prog 27 8 = true := by kernel_rfl
theorem FS2.fld96_2 : fieldB Tryd.prog 96 2 72 = true := by kernel_rfl
theorem FS2.sc3 : scalarT Tryd.prog 3 = true := by kernel_rfl
theorem FS2.agg96 : aggT Tryd.prog 96 73 = true := by kernel_rfl
theorem FS2.sz96 : szT Tryd.prog 96 73 = true := by kernel_rfl
theorem FS2.call23 : callB Tryd.prog 23 = true := by kernel_rfl

set_option maxRecDepth 8000 in
set_option maxHeartbeats 1000000 in
theorem new_spec {B : Nat} {w0 w : World} {L : List Rg} {i1 : Nat} {H0 : Nat → BitVec 32} (hH : L[i1]? = some ⟨some 1, 0, 8, fun q => VU .u32 (H0 q), false⟩) (h : St B w0 L w) :
    Calls Tryd.prog 23 #[] w fun e w' => ∃ b, e = .returned (.pointer (some ⟨b, 0, none⟩)) ∧ St B w0 (⟨some b, 0, 8, fun q => VU .u32 (H0 q), true⟩ :: ⟨some b, 8, 64, fun q => VU .u8 ((fun _ => 0#8) q), true⟩ :: ⟨some b, 72, 1, fun _ => VN (0), true⟩ :: L) w' ∧ B ≤ b := by
  refine W.enter 4 Tryd.func23 rfl rfl rfl ?_
  refine W.seq_k fun K1 hK1 => ?_
  refine W.regionT [(0, true)] (by kernel_rfl) ?_
  refine Plan.assign_ptr rfl rfl ?_
  refine Plan.nil ?_
  refine hK1 _ _ ?_; clear hK1
  refine W.seq_k fun K2 hK2 => ?_
  refine W.regionT [(0, true), (1, true), (2, false), (3, true)] (by kernel_rfl) ?_
  refine Plan.loadA1 h (i1 + 0) rfl rfl hH FS2.agg27 ?_
  refine Plan.buildStr (ps := [(8, fun q => VU .u32 (H0 q)), (64, fun _ => VU .u8 0#8), (1, fun _ => VN 0)]) FS2.pl96 rfl FS2.z96 rfl rfl rfl ?_
  refine Plan.boxA h rfl rfl (PIn.cons (i1 + 0) hH PIn.nil) fun b1 w1 hb1 h1 => ?_
  simp only [rngs, Nat.zero_add, Nat.reduceAdd, List.cons_append, List.nil_append] at h1
  refine Plan.assign_ptr rfl rfl ?_
  refine Plan.nil ?_
  refine hK2 _ _ ?_; clear hK2
  refine W.ret (finR_ret ?_)
  refine RetOk.mk (.tmp_ptr rfl .nil) ?_
  exact ⟨_, rfl, h1, hb1⟩


set_option maxRecDepth 8000 in
set_option maxHeartbeats 1000000 in
theorem len_spec {B : Nat} {w0 w : World} {L : List Rg} {N hb : Nat} {st : Nat → BitVec 32} {blk : Nat → BitVec 8} (h : St B w0 (⟨some hb, 0, 8, fun q => VU .u32 (st q), true⟩ :: ⟨some hb, 8, 64, fun q => VU .u8 (blk q), true⟩ :: ⟨some hb, 72, 1, fun _ => VN (N), true⟩ :: L) w) :
    Calls Tryd.prog 26 #[.pointer (some ⟨hb, 0, none⟩)] w fun e w' => e = .returned (VN N) ∧ w' = w := by
  refine W.enter 7 Tryd.func26 rfl rfl rfl ?_
  refine W.seq_k fun K1 hK1 => ?_
  refine W.regionT [(0, true)] (by kernel_rfl) ?_
  refine Plan.assign_int rfl rfl ?_
  refine Plan.nil ?_
  refine hK1 _ _ ?_; clear hK1
  refine W.seq_k fun K2 hK2 => ?_
  refine W.regionT [(0, true), (1, true), (2, true), (3, true), (4, true)] (by kernel_rfl) ?_
  refine Plan.move_ptr rfl rfl ?_
  refine Plan.nilCheck rfl rfl ?_
  refine Plan.fieldAddr 72 FS2.fld96_2 rfl rfl ?_
  refine Plan.load0 h 2 rfl rfl rfl (by omega) FS2.sc3 ?_
  refine Plan.assign_int rfl rfl ?_
  refine Plan.nil ?_
  refine hK2 _ _ ?_; clear hK2
  refine W.ret (finR_ret ?_)
  refine RetOk.mk (.tmp_int rfl .nil) ?_
  exact ⟨rfl, rfl⟩


set_option maxRecDepth 8000 in
set_option maxHeartbeats 1000000 in
theorem copy_spec {B : Nat} {w0 w : World} {L : List Rg} {N hb : Nat} {st : Nat → BitVec 32} {blk : Nat → BitVec 8} (h : St B w0 (⟨some hb, 0, 8, fun q => VU .u32 (st q), true⟩ :: ⟨some hb, 8, 64, fun q => VU .u8 (blk q), true⟩ :: ⟨some hb, 72, 1, fun _ => VN (N), true⟩ :: L) w) :
    Calls Tryd.prog 30 #[.pointer (some ⟨hb, 0, none⟩)] w fun e w' => ∃ b, e = .returned (.pointer (some ⟨b, 0, none⟩)) ∧ St B w0 (⟨some b, 0, 8, fun q => VU .u32 (st q), true⟩ :: ⟨some b, 8, 64, fun q => VU .u8 (blk q), true⟩ :: ⟨some b, 72, 1, fun _ => VN (N), true⟩ :: ⟨some hb, 0, 8, fun q => VU .u32 (st q), true⟩ :: ⟨some hb, 8, 64, fun q => VU .u8 (blk q), true⟩ :: ⟨some hb, 72, 1, fun _ => VN (N), true⟩ :: L) w' ∧ B ≤ b := by
  refine W.enter 7 Tryd.func30 rfl rfl rfl ?_
  refine W.seq_k fun K1 hK1 => ?_
  refine W.regionT [(0, true)] (by kernel_rfl) ?_
  refine Plan.assign_ptr rfl rfl ?_
  refine Plan.nil ?_
  refine hK1 _ _ ?_; clear hK1
  refine W.seq_k fun K2 hK2 => ?_
  refine W.regionT [(0, true), (1, true), (2, true), (3, false), (4, false)] (by kernel_rfl) ?_
  refine Plan.move_ptr rfl rfl ?_
  refine Plan.nilCheck rfl rfl ?_
  refine Plan.loadA h rfl rfl (.cons 0 rfl (.cons 1 rfl (.cons 2 rfl .nil))) FS2.agg96 ?_
  refine Plan.alloc h rfl FS2.z96 (PIn.parts (.cons 0 rfl (.cons 1 rfl (.cons 2 rfl .nil))) PIn.nil) fun b1 w1 hb1 h1 => ?_
  simp only [rngs, Nat.zero_add, Nat.reduceAdd, List.cons_append, List.nil_append] at h1
  refine Plan.storeP h1 rfl rfl rfl (.cons 0 rfl (.cons 1 rfl (.cons 2 rfl .nil))) ⟨fun _ _ => rfl, fun _ _ => rfl, fun _ _ => rfl, trivial⟩ FS2.sz96 (EffO.wait rfl) fun w2 h2 => ?_
  simp only [List.set_cons_zero, List.set_cons_succ] at h2
  refine Plan.nil ?_
  refine hK2 _ _ ?_; clear hK2
  refine W.seq_k fun K3 hK3 => ?_
  refine W.regionT [(0, true)] (by kernel_rfl) ?_
  refine Plan.assign_ptr rfl rfl ?_
  refine Plan.nil ?_
  refine hK3 _ _ ?_; clear hK3
  refine W.ret (finR_ret ?_)
  refine RetOk.mk (.tmp_ptr rfl .nil) ?_
  exact ⟨_, rfl, h2, hb1⟩


set_option maxRecDepth 8000 in
set_option maxHeartbeats 1000000 in
theorem wipe_spec {B : Nat} {w0 w : World} {L : List Rg} {i1 : Nat} {H0 : Nat → BitVec 32} (hH : L[i1]? = some ⟨some 1, 0, 8, fun q => VU .u32 (H0 q), false⟩) {N hb : Nat} {st : Nat → BitVec 32} {blk : Nat → BitVec 8} (h : St B w0 (⟨some hb, 0, 8, fun q => VU .u32 (st q), true⟩ :: ⟨some hb, 8, 64, fun q => VU .u8 (blk q), true⟩ :: ⟨some hb, 72, 1, fun _ => VN (N), true⟩ :: L) w) :
    Calls Tryd.prog 31 #[.pointer (some ⟨hb, 0, none⟩)] w fun e w' => e = .returned (.tuple #[]) ∧ St B w0 (⟨some hb, 0, 8, fun q => VU .u32 (H0 q), true⟩ :: ⟨some hb, 8, 64, fun q => VU .u8 ((fun _ => 0#8) q), true⟩ :: ⟨some hb, 72, 1, fun _ => VN (0), true⟩ :: L) w' := by
  refine W.enter 7 Tryd.func31 rfl rfl rfl ?_
  refine W.regionT [(0, true), (1, false), (2, true), (3, true), (4, true), (5, false)] (by kernel_rfl) ?_
  refine Plan.move_ptr rfl rfl ?_
  refine Plan.callE (v := fun b => .pointer (some ⟨b, 0, none⟩)) (L' := fun b => ⟨some b, 0, 8, fun q => VU .u32 (H0 q), true⟩ :: ⟨some b, 8, 64, fun q => VU .u8 ((fun _ => 0#8) q), true⟩ :: ⟨some b, 72, 1, fun _ => VN (0), true⟩ :: _) rfl FS2.call23 rfl (new_spec (i1 := (i1 + 3)) hH h) (fun b => PIn.nil) fun b1 w1 h1 hb1 => ?_
  refine Plan.nilCheck rfl rfl ?_
  refine Plan.loadA h1 rfl rfl (.cons 0 rfl (.cons 1 rfl (.cons 2 rfl .nil))) FS2.agg96 ?_
  refine Plan.nilCheck rfl rfl ?_
  refine Plan.storeP h1 rfl rfl rfl (.cons 3 rfl (.cons 4 rfl (.cons 5 rfl .nil))) ⟨fun _ _ => rfl, fun _ _ => rfl, fun _ _ => rfl, trivial⟩ FS2.sz96 (EffO.wait rfl) fun w2 h2 => ?_
  simp only [List.set_cons_zero, List.set_cons_succ] at h2
  refine Plan.nil ?_
  refine finR_norm ?_
  refine RetOk.mk .nil ?_
  exact ⟨rfl, h2.tl.tl.tl⟩

end Go.Proofs.YtjdgbahjpdopbaaDoor
