/-
  PLAIN LAW OF KdfExpands (own work): block by block; fewer bytes are the beginning; Derive is Extract and Expand.
-/
import Derived.Test.YtjdgbahjpdopbaaDoorPKdfPads
import Derived.Test.YtjdgbahjpdopbaaDoorRKdfExpands
namespace Go.Proofs.YtjdgbahjpdopbaaDoor
set_option linter.unusedSimpArgs false
set_option linter.unusedVariables false
set_option linter.unusedSectionVars false
open Go Go.LW

theorem kdfExpands_true (prk info : List Byte) (n less : Int) : lethelaw03_KdfExpands prk info n less true := by
  have hP := short_le prk
  have hI := short_le info
  obtain ⟨N, hN, hr⟩ := rest_ok n (m := 400) (by omega) (by omega)
  refine ⟨_, short_ok prk, _, short_ok info, _, hr, ?_⟩
  generalize prk.take 400 = P at hP ⊢
  generalize info.take 400 = I at hI ⊢
  have hL := expL_length P I N
  refine ⟨_, _, expand_ok (by omega) (by omega) (by omega), ?_⟩
  rw [if_neg (by omega), if_neg (by omega)]
  refine ⟨some (expL P I N), ?_, ?_⟩
  · refine Iter.count (fun i => (expL P I N, expT P I i, i)) ((N + 31) / 32) (fun i hi => ?_) ?_
    · unfold lethelaw03_KdfExpands_l0
      dsimp only
      have hTl := expT_le P I i
      refine ⟨by omega, ?_⟩
      rw [if_pos (by omega)]
      have e1 : (min (N : Int) ((32 * i + 32 : Nat) : Int)).toNat = min N (32 * i + 32) := by omega
      have e2 : (min 32 ((N : Int) - ((32 * i : Nat) : Int))).toNat = min 32 (N - 32 * i) := by omega
      have hm := mac_ok (X := P) (P := [expT P I i, I, [BitVec.ofNat 8 (i + 1)]]) (by omega) (by simp) (by simp only [List.flatten_cons, List.flatten_nil, List.append_nil, List.length_append, List.length_cons, List.length_nil]; omega)
      simp only [List.flatten_cons, List.flatten_nil, List.append_nil] at hm
      refine ⟨by omega, _, hm, by omega, by omega, by omega, by omega, ⟨by omega, by omega⟩, by omega, ⟨by omega, by omega⟩, by omega, ⟨by omega, ?_⟩, _, rfl, ?_⟩
      · rw [List.nil_append, dl_length]; omega
      rw [e1, e2, List.nil_append]
      have e3 : dl 32 (macL P (expT P I i ++ (I ++ [BitVec.ofNat 8 (i + 1)]))) = expT P I (i + 1) := rfl
      rw [e3]
      have e4 : seg (expL P I N) (32 * i) (min N (32 * i + 32)) = seg (expT P I (i + 1)) 0 (min 32 (N - 32 * i)) := by
        rw [← expO_blk P I ((N + 31) / 32) i hi]
        have hO := expO_length P I ((N + 31) / 32)
        refine lext ?_ fun q hq => ?_
        · rw [seg_length (by omega), seg_length (by rw [seg_length (by omega)]; omega)]; omega
        · rw [seg_length (by omega)] at hq
          rw [lit_seg (by omega) hq, lit_seg (by rw [seg_length (by omega)]; omega) (by omega), lit_seg (by omega) (by omega)]
          unfold expL
          rw [lit_seg (by omega) (by omega)]
          congr 1; omega
      rw [e4, if_pos (by simp)]
      exact ⟨by omega, rfl⟩
    · unfold lethelaw03_KdfExpands_l0
      dsimp only
      refine ⟨by omega, ?_⟩
      rw [if_neg (by omega)]
  · intro l hl
    obtain rfl := Option.some.inj hl
    obtain ⟨m, hm, hr2⟩ := rest_ok less (m := N + 1) (by omega) (by omega)
    refine ⟨by omega, _, hr2, _, _, expand_ok (by omega) (by omega) (by omega), ?_⟩
    rw [if_neg (by omega)]
    refine ⟨by omega, ⟨by omega, by omega⟩, _, rfl, ?_⟩
    rw [show ((m : Nat) : Int).toNat = m from rfl, expL_less P I (by omega), if_pos (by simp)]
    refine ⟨_, extract_ok (by omega) (by omega), _, _, derive_ok (by omega) (by omega) (by omega) (by omega), _, _, expand_ok (by rw [dl_length]; decide) (by omega) (by omega), ?_⟩
    rw [if_pos rfl, if_pos rfl]
    exact ⟨_, rfl, by simp⟩
end Go.Proofs.YtjdgbahjpdopbaaDoor
