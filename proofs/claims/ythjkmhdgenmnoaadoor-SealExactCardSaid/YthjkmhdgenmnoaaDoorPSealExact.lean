/-
  PLAIN LAW OF SealExact (own work): every answer is the document's, and the book holds.
-/
import Derived.Test.YthjkmhdgenmnoaaDoorPm
import Derived.Test.YthjkmhdgenmnoaaDoorRSealExact
namespace Go.Proofs.YthjkmhdgenmnoaaDoor
set_option linter.unusedSimpArgs false
set_option linter.unusedVariables false
set_option linter.unusedSectionVars false
open Go Go.LW
set_option maxRecDepth 10000

theorem reachBytes_le5 : reachBytes ≤ 140737488355000 := by decide +kernel
theorem room5 {X : List Byte} (h : X.length ≤ reachBytes) : lethelaw05_Room X (rooM X) := by
  have hb := reachBytes_le5
  exact ⟨by omega, by simp only [List.nil_append, List.length_cons, List.length_nil]; omega, rfl⟩
theorem kept5 {X : List Byte} (h : X.length ≤ reachBytes) : lethelaw05_Kept (rooM X) X true := ⟨_, room5 h, true, (decide_eq_true rfl).symm, rfl⟩
theorem note5 {b : List (List Byte)} {n : Nat} (hb : b.length ≤ n) (hn : n ≤ 1000) {l : List Byte} (hl : l.length ≤ 10000) : ∃ b' : List (List Byte), b'.length ≤ n + 2 ∧ lethelaw05_Book_Note b b l (b', b') := by
  refine ⟨b ++ [_, _], by simp only [List.length_append, List.length_cons, List.length_nil]; omega, by omega, by omega, (List.range l.length).map fun i => BitVec.ofNat 8 (((b.length * 29) + 7) + i), _, ?_, by omega, by omega, ?_, ?_, ?_, ?_, rfl⟩
  · have key : Iter (lethelaw05_Book_Note_l0 b l) (mkl (fun i => BitVec.ofNat 8 (((b.length * 29) + 7) + i)) l 0, (List.range 0).map fun i => BitVec.ofNat 8 (((b.length * 29) + 7) + i), 0) ((List.range l.length).map fun i => BitVec.ofNat 8 (((b.length * 29) + 7) + i), (List.range l.length).map fun i => BitVec.ofNat 8 (((b.length * 29) + 7) + i)) := by
      refine Iter.count (fun i => (mkl (fun i => BitVec.ofNat 8 (((b.length * 29) + 7) + i)) l i, (List.range i).map (fun i => BitVec.ofNat 8 (((b.length * 29) + 7) + i)), i)) l.length (fun i hi => ?_) ?_
      · unfold lethelaw05_Book_Note_l0; dsimp only
        rw [if_pos hi, mkl_set (fun i => BitVec.ofNat 8 (((b.length * 29) + 7) + i)) l hi, mkl_lit _ l hi, map_snoc (fun i => BitVec.ofNat 8 (((b.length * 29) + 7) + i))]
        refine ⟨by omega, hi, hi, ?_, by omega, rfl⟩
        simp only [List.length_map, List.length_range, List.length_cons, List.length_nil]; omega
      · unfold lethelaw05_Book_Note_l0; dsimp only
        rw [if_neg (by omega), mkl_all]
    exact key
  · simp only [List.length_cons, List.length_nil]; omega
  · simp only [List.length_cons, List.length_nil]; omega
  · simp only [List.length_cons, List.length_nil, List.length_map, List.length_range]; omega
  · simp only [List.length_cons, List.length_nil]; omega
theorem holds5 {b : List (List Byte)} {n : Nat} (hb : b.length ≤ n) (hn : n ≤ 1000) : lethelaw05_Book_Holds b b true := by
  refine ⟨some (), ?_, fun _ => rfl⟩
  refine Iter.count (fun i => i) b.length (fun i hi => ?_) ?_
  · unfold lethelaw05_Book_Holds_l0
    rw [if_pos hi]
    exact ⟨hi, hi, true, (decide_eq_true rfl).symm, by rw [if_pos rfl]; exact ⟨by omega, rfl⟩⟩
  · unfold lethelaw05_Book_Holds_l0; rw [if_neg (by omega)]
theorem seal_both (key : Nat → Byte) (data text : List Byte) : ∃ l c, seal_Seal key data text (l, c) ∧ letheref05_Seal key data text (l, c) ∧ l.length ≤ 600 := by
  by_cases h : 512 < text.length ∨ 65535 < data.length
  · exact ⟨_, _, seal_no h, refseal_no h, by simp⟩
  · exact ⟨_, _, seal_ok (by omega) (by omega), refseal_ok (by omega) (by omega), by rw [sealF_length]; omega⟩
theorem openF_le (key : Nat → Byte) (data s : List Byte) (h : s.length ≤ 544) : (openF key data s).1.length ≤ 600 := by
  unfold openF
  split
  · show (encS key _).length ≤ 600
    rw [encS_length]
    have : (seg s 0 (s.length - 32)).length ≤ s.length - 32 := by rw [seg_zero, List.length_take]; omega
    omega
  · simp
theorem open_both (key : Nat → Byte) (data s : List Byte) (hs : s.length ≤ reachBytes) : ∃ l c, seal_Open key data s (l, c) ∧ letheref05_Open key data s (l, c) ∧ l.length ≤ 600 := by
  have hb := reachBytes_le5
  by_cases h0 : s.length < 32
  · exact ⟨_, _, open_short h0, refopen_short h0, by simp⟩
  · by_cases h : 544 < s.length ∨ 65535 < data.length
    · exact ⟨_, _, open_no (by omega) (by omega) h, refopen_no (by omega) (by omega) h, by simp⟩
    · exact ⟨_, _, open_ok (by omega) (by omega) (by omega), refopen_ok (by omega) (by omega) (by omega), openF_le _ _ _ (by omega)⟩
theorem plays5 {b : List (List Byte)} {m : Nat} (hb : b.length ≤ m) (hm : m ≤ 900) (kind : Int) (key : Nat → Byte) {D T : List Byte} (hD : D.length ≤ reachBytes) (hT : T.length ≤ reachBytes) (n : Int) : ∃ b' : List (List Byte), b'.length ≤ m + 2 ∧ lethelaw05_Book_plays b b kind key D T n (true, b', b') := by
  have lD := rooM_length D
  have lT := rooM_length T
  have hrb := reachBytes_le5
  have hr6 : 600 ≤ reachBytes := by decide +kernel
  have go : ∀ b' : List (List Byte), b'.length ≤ m + 2 → (∃ ok294 : Bool, ∃ x_289 : List Byte, ∃ y290 : List Byte, ∃ ok291 : Bool, ∃ m292 : List (List Byte), ∃ m293 : List (List Byte), (
    if kind = 1 then (
      ∃ x_300 : List Byte, ∃ x_301 : Nat, seal_Seal key D T (x_300, x_301) ∧
      ∃ x_310 : List Byte, ∃ x_311 : Nat, letheref05_Seal key D T (x_310, x_311) ∧
      if x_301 = x_311 then (
        ∃ x_321 : Bool, lethelaw05_Eq x_300 x_310 x_321 ∧
        ∃ x_325 : List (List Byte), ∃ x_326 : List (List Byte), lethelaw05_Book_Note b b x_300 (x_325, x_326) ∧
        ok294 = true ∧ x_289 = rooM D ∧ y290 = rooM T ∧ ok291 = x_321 ∧ m292 = x_325 ∧ m293 = x_326
      ) else (
        ∃ x_347 : List (List Byte), ∃ x_348 : List (List Byte), lethelaw05_Book_Note b b x_300 (x_347, x_348) ∧
        ok294 = true ∧ x_289 = rooM D ∧ y290 = rooM T ∧ ok291 = false ∧ m292 = x_347 ∧ m293 = x_348
      )
    ) else (
      if kind = 2 then (
        ∃ x_371 : List Byte, ∃ x_372 : Nat, seal_Open key D T (x_371, x_372) ∧
        ∃ x_381 : List Byte, ∃ x_382 : Nat, letheref05_Open key D T (x_381, x_382) ∧
        if x_372 = x_382 then (
          ∃ x_392 : Bool, lethelaw05_Eq x_371 x_381 x_392 ∧
          ∃ x_396 : List (List Byte), ∃ x_397 : List (List Byte), lethelaw05_Book_Note b b x_371 (x_396, x_397) ∧
          ok294 = true ∧ x_289 = rooM D ∧ y290 = rooM T ∧ ok291 = x_392 ∧ m292 = x_396 ∧ m293 = x_397
        ) else (
          ∃ x_418 : List (List Byte), ∃ x_419 : List (List Byte), lethelaw05_Book_Note b b x_371 (x_418, x_419) ∧
          ok294 = true ∧ x_289 = rooM D ∧ y290 = rooM T ∧ ok291 = false ∧ m292 = x_418 ∧ m293 = x_419
        )
      ) else (
        if kind = 3 then (
          ∃ x_443 : Int, seal_Length n x_443 ∧
          ∃ x_446 : Int, letheref05_Length n x_446 ∧
          ok294 = false ∧ (true, b', b') = ((decide (x_443 = x_446)), b, b)
        ) else (
          if kind = 4 then (
            ∃ x_453 : List Byte, ∃ x_454 : Nat, letheref05_Seal key D T (x_453, x_454) ∧
            if x_454 ≠ 0 then (
              ok294 = false ∧ (true, b', b') = (true, b, b)
            ) else (
              ∃ x_468 : List Byte, lethelaw05_Room x_453 x_468 ∧
              (0 ≤ x_453.length ∧ x_453.length ≤ x_468.length) ∧
              ∃ x_480 : List Byte, ∃ x_481 : Nat, seal_Open key D (seg x_468 0 x_453.length) (x_480, x_481) ∧
              if x_481 = 0 then (
                ∃ x_491 : Bool, lethelaw05_Eq x_480 T x_491 ∧
                if x_491 = true then (
                  ∃ x_495 : Bool, lethelaw05_Kept x_468 x_453 x_495 ∧
                  ∃ x_499 : List (List Byte), ∃ x_500 : List (List Byte), lethelaw05_Book_Note b b x_480 (x_499, x_500) ∧
                  ok294 = true ∧ x_289 = rooM D ∧ y290 = rooM T ∧ ok291 = x_495 ∧ m292 = x_499 ∧ m293 = x_500
                ) else (
                  ∃ x_521 : List (List Byte), ∃ x_522 : List (List Byte), lethelaw05_Book_Note b b x_480 (x_521, x_522) ∧
                  ok294 = true ∧ x_289 = rooM D ∧ y290 = rooM T ∧ ok291 = false ∧ m292 = x_521 ∧ m293 = x_522
                )
              ) else (
                ∃ x_543 : List (List Byte), ∃ x_544 : List (List Byte), lethelaw05_Book_Note b b x_480 (x_543, x_544) ∧
                ok294 = true ∧ x_289 = rooM D ∧ y290 = rooM T ∧ ok291 = false ∧ m292 = x_543 ∧ m293 = x_544
              )
            )
          ) else (
            ok294 = true ∧ x_289 = rooM D ∧ y290 = rooM T ∧ ok291 = true ∧ m292 = b ∧ m293 = b
          )
        )
      )
    )
  ) ∧ (ok294 = true → x_289 = rooM D ∧ y290 = rooM T ∧ ok291 = true ∧ m292 = b' ∧ m293 = b')) → ∃ b' : List (List Byte), b'.length ≤ m + 2 ∧ lethelaw05_Book_plays b b kind key D T n (true, b', b') := fun b' hb' ⟨ok, x, y, ok', m1, m2, h, ht⟩ => by
    refine ⟨b', hb', _, room5 hD, _, room5 hT, by omega, by omega, ok, x, y, ok', m1, m2, ?_, fun hok => ?_⟩
    · rw [rooM_seg, rooM_seg]; exact h
    · obtain ⟨rfl, rfl, rfl, rfl, rfl⟩ := ht hok
      rw [if_pos rfl]
      refine ⟨true, kept5 hD, ?_⟩
      rw [if_pos rfl]
      exact ⟨true, kept5 hT, rfl⟩
  by_cases h1 : kind = 1
  · obtain ⟨l, c, s1, s2, hl⟩ := seal_both key D T
    obtain ⟨b', hb', hn⟩ := note5 hb (by omega) (l := l) (by omega)
    refine go b' hb' ⟨true, _, _, true, b', b', ?_, fun _ => ⟨rfl, rfl, rfl, rfl, rfl⟩⟩
    rw [if_pos h1]
    refine ⟨l, c, s1, l, c, s2, ?_⟩
    rw [if_pos rfl]
    exact ⟨true, (decide_eq_true rfl).symm, _, _, hn, rfl, rfl, rfl, rfl, rfl, rfl⟩
  · by_cases h2 : kind = 2
    · obtain ⟨l, c, s1, s2, hl⟩ := open_both key D T hT
      obtain ⟨b', hb', hn⟩ := note5 hb (by omega) (l := l) (by omega)
      refine go b' hb' ⟨true, _, _, true, b', b', ?_, fun _ => ⟨rfl, rfl, rfl, rfl, rfl⟩⟩
      rw [if_neg h1, if_pos h2]
      refine ⟨l, c, s1, l, c, s2, ?_⟩
      rw [if_pos rfl]
      exact ⟨true, (decide_eq_true rfl).symm, _, _, hn, rfl, rfl, rfl, rfl, rfl, rfl⟩
    · by_cases h3 : kind = 3
      · refine go b (by omega) ⟨false, [], [], false, [], [], ?_, fun h => by cases h⟩
        rw [if_neg h1, if_neg h2, if_pos h3]
        refine ⟨_, length_ok n, _, reflength_ok n, rfl, ?_⟩
        rw [decide_eq_true rfl]
      · by_cases h4 : kind = 4
        · by_cases hlong : 512 < T.length ∨ 65535 < D.length
          · refine go b (by omega) ⟨false, [], [], false, [], [], ?_, fun h => by cases h⟩
            rw [if_neg h1, if_neg h2, if_neg h3, if_pos h4]
            refine ⟨_, _, refseal_no hlong, ?_⟩
            rw [if_pos (by decide)]
            exact ⟨rfl, rfl⟩
          · have hsl := sealF_length key D T
            have ho := open_ok (key := key) (data := D) (s := sealF key D T) (by omega) (by omega) (by omega)
            rw [open_seal] at ho
            obtain ⟨b', hb', hn⟩ := note5 hb (by omega) (l := T) (by omega)
            refine go b' hb' ⟨true, _, _, true, b', b', ?_, fun _ => ⟨rfl, rfl, rfl, rfl, rfl⟩⟩
            rw [if_neg h1, if_neg h2, if_neg h3, if_pos h4]
            have hrl := rooM_length (sealF key D T)
            refine ⟨_, _, refseal_ok (by omega) (by omega), ?_⟩
            rw [if_neg (by decide)]
            refine ⟨_, room5 (by omega), by omega, T, 0, by rw [rooM_seg]; exact ho, ?_⟩
            rw [if_pos rfl]
            refine ⟨true, (decide_eq_true rfl).symm, ?_⟩
            rw [if_pos rfl]
            exact ⟨true, kept5 (by omega), _, _, hn, rfl, rfl, rfl, rfl, rfl, rfl⟩
        · refine go b (by omega) ⟨true, _, _, true, b, b, ?_, fun _ => ⟨rfl, rfl, rfl, rfl, rfl⟩⟩
          rw [if_neg h1, if_neg h2, if_neg h3, if_neg h4]
          exact ⟨rfl, rfl, rfl, rfl, rfl, rfl⟩
theorem sealExact_true (script : List (Int × (Nat → BitVec 8) × (List Byte) × (List Byte) × Int)) (hQ : ∀ (j : Nat) x, script[j]? = some x → x.2.2.1.length ≤ reachBytes ∧ x.2.2.2.1.length ≤ reachBytes) : lethelaw05_SealExact script true := by
  obtain ⟨x, hI, b, rfl, hb⟩ := iter_go (step := lethelaw05_SealExact_l0 script true) (fun s : Nat × (List (List Byte)) × (List (List Byte)) => s.1 ≤ 20 ∧ s.2.1 = s.2.2 ∧ s.2.1.length ≤ 2 * s.1) (fun r => ∃ b : List (List Byte), r = some (b, b) ∧ b.length ≤ 40) (fun s => 20 - s.1) (by
    rintro ⟨i, a, a'⟩ ⟨hi, h1, hb⟩
    dsimp only at hi h1 hb ⊢
    subst h1
    unfold lethelaw05_SealExact_l0
    dsimp only
    by_cases h1 : i < script.length
    · by_cases h2 : i < 20
      · simp only [if_pos h1, if_pos h2]
        have hq := hQ i _ (getD_of h1 ((0 : Int), (fun _ => 0#8), ([] : List Byte), ([] : List Byte), (0 : Int)))
        generalize script.getD i ((0 : Int), (fun _ => 0#8), ([] : List Byte), ([] : List Byte), (0 : Int)) = o at hq
        obtain ⟨b', hb', hp⟩ := plays5 hb (by omega) o.1 o.2.1 hq.1 hq.2 o.2.2.2.2
        have hh := holds5 hb' (by omega)
        refine .inr ⟨(i + 1, b', b'), ⟨h1, true, _, _, hp, ?_⟩, ⟨by dsimp only; omega, rfl, by dsimp only; omega⟩, by dsimp only; omega⟩
        rw [if_pos rfl]
        exact ⟨true, hh, by rw [if_pos rfl]⟩
      · simp only [if_pos h1, if_neg h2]
        exact .inl ⟨_, rfl, a, rfl, by omega⟩
    · simp only [if_neg h1]
      exact .inl ⟨_, rfl, a, rfl, by omega⟩) 21 (0, [], []) (by dsimp only; omega) ⟨by dsimp only; omega, rfl, by simp⟩
  refine ⟨_, hI, fun m1 m2 he => ?_⟩
  obtain ⟨rfl, rfl⟩ : m1 = b ∧ m2 = b := by
    simp only [Option.some.injEq, Prod.mk.injEq] at he
    exact ⟨he.1.symm, he.2.symm⟩
  have r3 : ([1#8, 2#8, 3#8] : List Byte).length ≤ reachBytes := by decide +kernel
  have r1 : ([1#8] : List Byte).length ≤ reachBytes := by decide +kernel
  have r4 : ([4#8] : List Byte).length ≤ reachBytes := by decide +kernel
  obtain ⟨b1, hb1, p1⟩ := plays5 hb (by omega) 4 (fun _ => 0#8) r4 r3 0
  obtain ⟨b2, hb2, p2⟩ := plays5 hb1 (by omega) 1 (fun _ => 0#8) (D := []) (T := [1#8]) (Nat.zero_le _) r1 0
  refine ⟨true, _, _, p1, ?_⟩
  rw [if_pos rfl]
  refine ⟨true, _, _, p2, ?_⟩
  rw [if_pos rfl]
  exact ⟨true, holds5 hb2 (by omega), rfl⟩
end Go.Proofs.YthjkmhdgenmnoaaDoor
