/-
  WALKS of the package's functions, printed by this session's own program (auto.py).
-/
import Derived.Test.YtjdgbahjpdopbaaDoorProg
import Derived.Test.YtjdgbahjpdopbaaDoorLx5
import Derived.Test.YtjdgbahjpdopbaaDoorRLaw02
import Derived.Test.YtjdgbahjpdopbaaDoorWSha
namespace Go.Proofs.YtjdgbahjpdopbaaDoor
set_option linter.unusedSimpArgs false
set_option linter.unusedVariables false
set_option linter.unusedSectionVars false
open Go Go.LW
theorem FLaw02.slu22 : Tryd.prog.underlying 22 = some (.slice 5) := by kernel_rfl
theorem FLaw02.sz5 : szT Tryd.prog 5 1 = true := by kernel_rfl
theorem FLaw02.zv5 : (Tryd.prog.info? 5).bind (·.zero) = some (VU .u8 0#8) := by kernel_rfl
theorem FLaw02.call23 : callB Tryd.prog 23 = true := by kernel_rfl
theorem FLaw02.call25 : callB Tryd.prog 25 = true := by kernel_rfl
theorem FLaw02.ptr37 : ptrB Tryd.prog 37 = true := by kernel_rfl
theorem FLaw02.call26 : callB Tryd.prog 26 = true := by kernel_rfl

set_option maxRecDepth 8000 in
set_option maxHeartbeats 1000000 in
theorem lethelaw02_moves_ok {B : Nat} {w0 w : World} {L : List Rg} {iG0 : Nat} (hG0 : L[iG0]? = some ⟨some 0, 0, 64, fun q => VU .u32 (K256 q), false⟩) {iG1 : Nat} (hG1 : L[iG1]? = some ⟨some 1, 0, 8, fun q => VU .u32 (H256 q), false⟩)  {r : Bool} (hR : lethelaw02_moves r) (HST : St B w0 (L) w) :
    Calls Tryd.prog 17 #[] w fun e w' => e = .returned (.bool r) ∧ St B w0 (L) w' := by
  refine W.enter 11 Tryd.func17 rfl rfl rfl ?_
  unfold lethelaw02_moves at hR
  refine W.seq_k fun K1 hK1 => ?_
  refine W.regionT [(0, true)] (by kernel_rfl) ?_
  refine Plan.assign_bool rfl rfl ?_
  refine Plan.nil ?_
  refine hK1 _ _ ?_; clear hK1
  refine W.seq_k fun K2 hK2 => ?_
  refine W.regionT [(0, false), (1, true)] (by kernel_rfl) ?_
  obtain ⟨x_4, x_5, x_6, hr3, hR⟩ := hR
  refine Plan.call (vs := []) rfl FLaw02.call23 rfl (sha_New_ok (iG1 := iG1 + 0) hG1 hr3 HST) ?_
  rintro _ w8 ⟨b0_7, rfl, h8⟩
  refine ⟨_, rfl, .inl ⟨PIn.keep PIn.nil h8, ?_⟩⟩
  refine Plan.assign_ptr rfl rfl ?_
  refine Plan.nil ?_
  refine hK2 _ _ ?_; clear hK2
  refine W.seq_k fun K9 hK9 => ?_
  refine W.seq_k fun K10 hK10 => ?_
  refine W.regionT [(0, true), (1, true)] (by kernel_rfl) ?_
  refine Plan.move_ptr rfl rfl ?_
  refine Plan.eqNil (b := false) FLaw02.ptr37 rfl rfl rfl rfl ?_
  refine Plan.nil ?_
  refine hK10 _ _ ?_; clear hK10
  refine W.condF rfl ?_
  refine W.skip ?_
  refine hK9 _ _ ?_; clear hK9
  refine W.seq_k fun K11 hK11 => ?_
  refine W.regionT [(0, true), (1, false), (2, false)] (by kernel_rfl) ?_
  refine Plan.move_ptr rfl rfl ?_
  refine Plan.buildSlice h8 (ps := [(3, fun q => VU .u8 (lit ([1#8, 2#8, 3#8] : List Byte) q))]) FLaw02.slu22 FLaw02.sz5 FLaw02.zv5 (by decide) (by decide) rfl rfl (by kernel_rfl) (EffO.keep PIn.nil) fun b12 w12 hb12 h12 => ?_
  simp only [rngs, List.cons_append, List.nil_append] at h12
  have ho12 : Ow (some ⟨b12, 0, none⟩) (some b12) ([1#8, 2#8, 3#8] : List Byte).length 3 (lit ([1#8, 2#8, 3#8] : List Byte)) ([1#8, 2#8, 3#8] : List Byte) := ⟨.inr ⟨b12, rfl, rfl⟩, Nat.le_refl _, rfl, fun q _ => rfl⟩
  have h13 := St.pickT (C := [_, _, _, _]) h12 [1, 2, 3, 0] (by decide)
  simp only [pick, List.filterMap_cons, List.filterMap_nil, List.getElem?_cons_zero, List.getElem?_cons_succ, List.cons_append, List.nil_append] at h13
  obtain ⟨x_15, x_16, x_17, hr14, hR⟩ := hR
  refine Plan.call (vs := [.pointer (some ⟨b0_7, 0, none⟩), .slice (some ⟨b12, 0, none⟩) (([1#8, 2#8, 3#8] : List Byte).length) 3]) rfl FLaw02.call25 rfl (sha_Hash_Write_ok (iG0 := iG0 + 1) hG0 (by exact (ho12.bx 0 rfl)) hr14 h13) ?_
  rintro _ w18 ⟨rfl, h18⟩
  refine ⟨_, rfl, .inl ⟨PIn.keep PIn.nil h18, ?_⟩⟩
  refine Plan.nil ?_
  refine hK11 _ _ ?_; clear hK11
  refine W.seq_k fun K19 hK19 => ?_
  refine W.regionT [(0, true), (1, false), (2, true), (3, true)] (by kernel_rfl) ?_
  refine Plan.move_ptr rfl rfl ?_
  obtain ⟨x_21, hr20, hR⟩ := hR
  refine Plan.call (vs := [.pointer (some ⟨b0_7, 0, none⟩)]) rfl FLaw02.call26 rfl (sha_Hash_Len_ok  hr20 h18) ?_
  rintro _ w22 ⟨rfl, h22⟩
  refine ⟨_, rfl, .inl ⟨PIn.keep PIn.nil h22, ?_⟩⟩
  refine Plan.cmpP (a := (x_21 : Int)) (b := (3 : Int)) (p := x_21 = 3) rfl rfl rfl rfl icmp_eq ?_
  refine Plan.assign_bool rfl rfl ?_
  refine Plan.nil ?_
  refine hK19 _ _ ?_; clear hK19
  refine W.ret (finR_ret ?_)
  have h23 := St.pickT (C := [_, _, _, _]) h22 [] (by decide)
  simp only [pick, List.filterMap_cons, List.filterMap_nil, List.getElem?_cons_zero, List.getElem?_cons_succ, List.cons_append, List.nil_append] at h23
  subst r
  refine RetOk.mk (.tmp_bool rfl .nil) ?_
  exact ⟨rfl, h23⟩

end Go.Proofs.YtjdgbahjpdopbaaDoor
