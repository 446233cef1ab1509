/-
  PLAIN (own work): a record that was put is found at its place; one that was deleted is not; the order is one.
-/
import Derived.Test.YtbkgblhmlenocaaRPackFinds
import Derived.Test.YtbkgblhmlenocaaPm
namespace Go.Proofs.Ytbkgblhmlenocaa
set_option linter.unusedSimpArgs false
set_option linter.unusedVariables false
set_option linter.unusedSectionVars false
open Go Go.LW

theorem finds_loop {l : List Rec} (hs : Srt l) (hl : l.length ≤ 1000) (r : Rec) (hf : fnd r l = true) (b : Bool) : Iter (lethelaw11_PackFinds_l0 r.1 r.2.1 r.2.2 l (pos r l) b) 0 (some ()) := by
  have hp : pos r l < l.length ∧ cmpR (l.getD (pos r l) zR) r = 0 := of_decide_eq_true hf
  refine Iter.count (fun i => i) l.length (fun i hi => ?_) (ineg (Nat.lt_irrefl _) rfl)
  refine ipos hi ⟨hi, _, compare_ok _ _, false, ?_, ineg (by decide) ⟨by omega, rfl⟩⟩
  have h3 := cmpR_three (l.getD i zR) r
  by_cases h1 : i < pos r l
  · have hc := pos_lt r l i h1
    have hc1 : cmpR (l.getD i zR) r = -1 := by omega
    exact ipos h1 (ineg (fun h => h hc1) (ineg (by omega) (ineg (by omega) rfl)))
  · by_cases h2 : i = pos r l
    · have hc0 : cmpR (l.getD i zR) r = 0 := by rw [h2]; exact hp.2
      exact ineg h1 (ipos h2 (ineg (fun h => h hc0) (ineg (by omega) rfl)))
    · have hc := hs.lt (i := pos r l) (j := i) (by omega) hi
      rw [cmpR_eq hp.2, cmpR_anti] at hc
      have hc1 : cmpR (l.getD i zR) r = 1 := by omega
      refine ineg h1 (ineg h2 (ipos (by omega) (Eq.symm (decide_eq_false (fun h => h hc1)))))
theorem packFinds_true (l : List Rec) (a1 : Int) (a2 a3 : List Byte) (b1 : Int) (b2 b3 : List Byte) : lethelaw11_PackFinds l a1 a2 a3 b1 b2 b3 true := by
  obtain ⟨hw, hwl⟩ := wantL_srt l
  obtain ⟨hr, hro⟩ := right_ok (a1, a2, a3)
  obtain ⟨hs, hso⟩ := right_ok (b1, b2, b3)
  generalize rgt (a1, a2, a3) = r at hr hro
  generalize rgt (b1, b2, b3) = s at hs hso
  have hsrt := srt_ins hro hw
  have hlen := (ins_length r (wantL l)).1
  have hfi := fnd_ins r (wantL l)
  obtain ⟨hgl, hge⟩ := get_ins r (wantL l)
  have hpi := pos_ins r (wantL l)
  have hds := srt_del (r := r) hsrt
  have hdf := fnd_del r _ hsrt
  have hdl := del_length r _ hfi
  have hdp := pos_del r _ hsrt
  refine ⟨_, lsorted_ok l, r.1, r.2.1, r.2.2, hr, s.1, s.2.1, s.2.2, hs, _, compare_ok r s, false, ⟨_, compare_ok s r, ?_, ?_⟩, ineg (by decide) ⟨_, _, put_ok hw (by omega) hro, _, _, find_ok hsrt (by omega) r, ineg (by decide) (ipos hfi (ineg (Nat.not_lt_zero _) (ineg ?_ ⟨?_, true, ?_, ipos rfl ⟨some (), finds_loop hsrt (by omega) r hfi true, fun _ => ⟨_, _, delete_ok hsrt (by omega) hfi, _, _, find_ok hds (by omega) r, _, _, delete_no hds (by omega) hdf, ipos rfl (ineg (by rw [hdf]; decide) (ipos hdp rfl))⟩⟩⟩)))⟩⟩
  · have := cmpR_three s r; omega
  · have h1 : ¬ cmpR r s ≠ -cmpR s r := fun h => h (by rw [cmpR_anti s r])
    refine ineg h1 ?_
    by_cases h2 : r.1 = s.1
    · refine ipos h2 ⟨_, rfl, ineg ?_ ⟨_, ahead_ok r s, ineg (by simp) ⟨_, compare_ok r r, Eq.symm (decide_eq_false (fun h => h (cmpR_self r)))⟩⟩⟩
      have : (cmpR r s = 0) ↔ r.2.1 = s.2.1 := ⟨fun h => ((cmpR_zero r s).1 h).2, fun h => (cmpR_zero r s).2 ⟨h2, h⟩⟩
      have e : decide (cmpR r s = 0) = decide (r.2.1 = s.2.1) := decide_eq_decide.2 this
      rw [e]; simp
    · refine ineg h2 (ineg ?_ ⟨_, ahead_ok r s, ineg (by simp) ⟨_, compare_ok r r, Eq.symm (decide_eq_false (fun h => h (cmpR_self r)))⟩⟩)
      have : ¬ cmpR r s = 0 := fun h => h2 ((cmpR_zero r s).1 h).1
      simp [this]
  · rw [hpi] at *; exact Nat.not_le.2 hgl
  · rw [hpi]; exact hgl
  · have : (ins r (wantL l)).getD (pos r (ins r (wantL l))) zR = r := by rw [hpi]; exact hge
    show true = decide (((ins r (wantL l)).getD (pos r (ins r (wantL l))) zR).2.2 = r.2.2)
    rw [this]; simp
end Go.Proofs.Ytbkgblhmlenocaa
