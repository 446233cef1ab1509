/-
  PLAIN (own work): room for so many packets, and not one more.
-/
import Derived.Test.YtbkgblhmlenocaaPm
import Derived.Test.YtbkgblhmlenocaaRNetFull
namespace Go.Proofs.Ytbkgblhmlenocaa
set_option linter.unusedSimpArgs false
set_option linter.unusedVariables false
set_option linter.unusedSectionVars false
open Go Go.LW

/-- packets 0 to n - 1 are on their way -/
def rowX (f : Nat → Fl) (n : Nat) : FM := (List.range n).map fun (j : Nat) => ((j : Int), f j)
theorem rowX_length (f : Nat → Fl) (n : Nat) : (rowX f n).length = n := by simp [rowX]
theorem rowX_keys {f : Nat → Fl} {n : Nat} {k : Int} : k ∈ (rowX f n).map (·.1) ↔ ∃ j : Nat, j < n ∧ k = j := by
  simp only [rowX, List.map_map, List.mem_map, List.mem_range, Function.comp_def]
  exact ⟨fun ⟨j, h, e⟩ => ⟨j, h, e.symm⟩, fun ⟨j, h, e⟩ => ⟨j, h, e.symm⟩⟩
theorem rowX_nodup (f : Nat → Fl) (n : Nat) : ((rowX f n).map (·.1)).Nodup := by
  have e : (rowX f n).map (·.1) = (List.range n).map fun (j : Nat) => (j : Int) := by simp [rowX, Function.comp_def]
  rw [e]
  exact List.pairwise_map.2 ((List.nodup_range (n := n)).imp fun h he => h (Int.ofNat.inj he))
theorem rowX_get {f : Nat → Fl} {n j : Nat} (hj : j < n) : mget (j : Int) (rowX f n) = some (f j) := mget_mem (List.mem_map.2 ⟨j, List.mem_range.2 hj, rfl⟩) (rowX_nodup f n)
theorem rowX_no {f : Nat → Fl} {n : Nat} {k : Int} (h : ¬ (0 ≤ k ∧ k < n)) : mget k (rowX f n) = none := by
  rw [mget_none, rowX_keys]
  rintro ⟨j, h1, rfl⟩
  omega
theorem rowX_succ (f : Nat → Fl) (n : Nat) (x : Fl) : rowX f n ++ [((n : Int), x)] = rowX (fun j => if j = n then x else f j) (n + 1) := by
  unfold rowX
  rw [List.range_succ, List.map_append]
  congr 1
  · refine List.map_congr_left fun j hj => ?_
    have hj := List.mem_range.1 hj
    show _ = ((j : Int), if j = n then x else f j)
    rw [if_neg (by omega)]
  · simp

theorem netFull_true (most k : Int) (hm : IntKind.i64.has most) (hk : IntKind.i64.has k) : lethelaw23_NetFull most k true := by
  obtain ⟨M, hM, hM40⟩ : ∃ M : Nat, (max most (w64 (-(w64 (most + 1))))).tmod 40 = (M : Int) ∧ M < 40 := by
    have h1 := fold_w64 (wf_has hm)
    have h2 := Int.tmod_lt_of_pos (max most (w64 (-(w64 (most + 1))))) (show (0 : Int) < 40 by decide)
    have h3 := Int.tmod_nonneg 40 h1
    exact ⟨((max most (w64 (-(w64 (most + 1))))).tmod 40).toNat, by omega, by omega⟩
  unfold lethelaw23_NetFull
  rw [hM]
  refine .inr ⟨_, _, _, _, _, newNet_ok ⟨by omega, by omega, by omega, by omega⟩, ineg (by decide) ?_⟩
  obtain ⟨x, hx, f, hf, rfl⟩ : ∃ x, Iter (lethelaw23_NetFull_l0 most 2 (M : Int) true) ([], 0, ((0 : Nat) : Int)) x ∧ ∃ f : Nat → Fl, (∀ j, j < M → (f j).1 = j ∧ (f j).2.2.2.length ≤ 1) ∧ x = some (rowX f M, (M : Int)) := by
    have key : ∀ (d i : Nat), i + d = M → ∀ f : Nat → Fl, (∀ j, j < i → (f j).1 = j ∧ (f j).2.2.2.length ≤ 1) → ∃ x, Iter (lethelaw23_NetFull_l0 most 2 (M : Int) true) (rowX f i, i, (i : Int)) x ∧ ∃ f : Nat → Fl, (∀ j, j < M → (f j).1 = j ∧ (f j).2.2.2.length ≤ 1) ∧ x = some (rowX f M, (M : Int)) := by
      intro d
      induction d with
      | zero =>
        intro i hi f hf
        obtain rfl : i = M := by omega
        refine ⟨_, .done ?_, f, hf, rfl⟩
        unfold lethelaw23_NetFull_l0
        dsimp only
        rw [hM]
        exact ineg (by omega) rfl
      | succ d ih =>
        intro i hi f hf
        have hroom : (((rowX f i).length : Nat) : Int) < (M : Int) := by rw [rowX_length]; omega
        have hno : mget (i : Int) (rowX f i) = none := rowX_no (by omega)
        -- what is laid
        have step : ∀ x : Fl, x.1 = i → x.2.2.2.length ≤ 1 → lethelaw23_NetFull_l0 most 2 (M : Int) true (rowX f i, i, (i : Int)) (.inl (rowX f i ++ [((i : Int), x)], i + 1, (i : Int) + 1)) → ∃ x, Iter (lethelaw23_NetFull_l0 most 2 (M : Int) true) (rowX f i, i, (i : Int)) x ∧ ∃ f : Nat → Fl, (∀ j, j < M → (f j).1 = j ∧ (f j).2.2.2.length ≤ 1) ∧ x = some (rowX f M, (M : Int)) := fun x h1 h2 h3 => by
          rw [rowX_succ] at h3
          obtain ⟨y, hy, hz⟩ := ih (i + 1) (by omega) (fun j => if j = i then x else f j) (fun j hj => by
            show (if j = i then x else f j).1 = j ∧ (if j = i then x else f j).2.2.2.length ≤ 1
            by_cases hji : j = i
            · rw [if_pos hji, hji]; exact ⟨h1, h2⟩
            · rw [if_neg hji]; exact hf j (by omega))
          refine ⟨y, .more h3 ?_, hz⟩
          exact hy
        by_cases h0 : 0 < i
        · by_cases h1 : i % 2 = 1
          · have hg : mget (((i - 1 : Nat) : Int)) (rowX f i) = some (f (i - 1)) := rowX_get (by omega)
            have hb := (hf (i - 1) (by omega)).2
            refine step ((i : Int), (f (i - 1)).2.1, (f (i - 1)).2.2.1, (f (i - 1)).2.2.2) rfl hb ?_
            unfold lethelaw23_NetFull_l0
            dsimp only
            rw [hM]
            exact ipos (by omega) ⟨_, _, _, _, ipos h0 (ipos h1 ⟨_, _, _, _, copy_ok hg hroom (by omega) ⟨by omega, by omega⟩ hno, rfl, rfl, rfl, rfl⟩), ineg (by simp) (ineg (by decide) rfl)⟩
          · refine step ((i : Int), 1, 2, [BitVec.ofNat 8 i]) rfl (Nat.le_refl _) ?_
            unfold lethelaw23_NetFull_l0
            dsimp only
            rw [hM]
            exact ipos (by omega) ⟨_, _, _, _, ipos h0 (ineg h1 ⟨_, _, _, _, send_ok ⟨by decide, by decide, by decide, by decide⟩ hroom (show 1 ≤ 140737488355328 by decide) ⟨by omega, by omega⟩ hno, rfl, rfl, rfl, rfl⟩), ineg (by simp) (ineg (by decide) rfl)⟩
        · refine step ((i : Int), 1, 2, [BitVec.ofNat 8 i]) rfl (Nat.le_refl _) ?_
          unfold lethelaw23_NetFull_l0
          dsimp only
          rw [hM]
          exact ipos (by omega) ⟨_, _, _, _, ineg h0 ⟨_, _, _, _, send_ok ⟨by decide, by decide, by decide, by decide⟩ hroom (show 1 ≤ 140737488355328 by decide) ⟨by omega, by omega⟩ hno, rfl, rfl, rfl, rfl⟩, ineg (by simp) (ineg (by decide) rfl)⟩
    exact key M 0 (by omega) (fun _ => (0, 0, 0, [])) (fun j hj => absurd hj (Nat.not_lt_zero j))
  refine ⟨_, hx, fun mp m hmp => ?_⟩
  obtain ⟨rfl, rfl⟩ : mp = rowX f M ∧ m = (M : Int) := by
    have := Option.some.inj hmp
    exact ⟨(congrArg Prod.fst this).symm, (congrArg Prod.snd this).symm⟩
  have hl := rowX_length f M
  have hfl : ∀ mm : Int, net_Net_Flights 2 (M : Int) (rowX f M) mm ((rowX f M).map (·.2)) := fun mm => by
    refine flights_ok _ _ _ ?_ (.refl _) (by omega) (fun p hp => ?_)
    · have e : (rowX f M).map (·.2) = (List.range M).map f := by simp [rowX, Function.comp_def]
      rw [e]
      refine List.pairwise_map.2 ((List.pairwise_lt_range (n := M)).imp_of_mem fun {a b} ha hb hab => ?_)
      have ha := List.mem_range.1 ha; have hb := List.mem_range.1 hb
      rw [(hf a ha).1, (hf b hb).1]; omega
    · obtain ⟨j, hj, rfl⟩ := List.mem_map.1 hp
      have := (hf j (List.mem_range.1 hj)).2
      show (f j).2.2.2.length ≤ _
      omega
  refine ⟨_, _, _, _, send_full ⟨by decide, by decide, by decide, by decide⟩ (by omega), ineg (by decide) ⟨_, rfl, ineg (by simp) ⟨_, hfl _, ineg (by rw [List.length_map, hl]; simp) ?_⟩⟩⟩
  by_cases hM0 : (M : Int) = 0
  · exact ipos hM0 rfl
  refine ineg hM0 ⟨hM0, ?_⟩
  obtain ⟨j, hj, hjM⟩ : ∃ j : Nat, (max k (w64 (-(w64 (k + 1))))).tmod (M : Int) = (j : Int) ∧ j < M := by
    have h1 := fold_w64 (wf_has hk)
    have h2 := Int.tmod_lt_of_pos (max k (w64 (-(w64 (k + 1))))) (show (0 : Int) < (M : Int) by omega)
    have h3 := Int.tmod_nonneg (M : Int) h1
    exact ⟨((max k (w64 (-(w64 (k + 1))))).tmod (M : Int)).toNat, by omega, by omega⟩
  rw [hj]
  have hg := rowX_get (f := f) hjM
  have hnM : mget (M : Int) (rowX f M) = none := rowX_no (by omega)
  have hdl : (mdel (j : Int) (rowX f M)).length + 1 = M := by rw [mdel_length (by rw [hg]; rfl), hl]
  have hnd : mget (M : Int) (mdel (j : Int) (rowX f M)) = none := by
    rw [mget_none]
    exact fun h => mget_none.1 hnM (mdel_keys h)
  refine ⟨_, _, _, _, copy_full hg (by omega), _, _, _, _, copy_no hnM, _, _, drop_ok hg, _, _, _, _, send_ok ⟨by decide, by decide, by decide, by decide⟩ (by omega) (by decide) ⟨by omega, by omega⟩ hnd, _, _, _, _, send_full ⟨by decide, by decide, by decide, by decide⟩ (by rw [List.length_append]; show (M : Int) ≤ ((_ + 1 : Nat) : Int); omega), ipos rfl (ipos rfl (ipos rfl (ipos rfl (ipos rfl ?_))))⟩
  rfl
end Go.Proofs.Ytbkgblhmlenocaa
