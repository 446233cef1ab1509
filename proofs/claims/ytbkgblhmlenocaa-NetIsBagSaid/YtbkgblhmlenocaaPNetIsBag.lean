/-
  PLAIN (own work): packets come out as they went in, each number once; in the end all that were sent and copied and not dropped have come.
-/
import Derived.Test.YtbkgblhmlenocaaPm
import Derived.Test.YtbkgblhmlenocaaRNetIsBag
namespace Go.Proofs.Ytbkgblhmlenocaa
set_option linter.unusedSimpArgs false
set_option linter.unusedVariables false
set_option linter.unusedSectionVars false
open Go Go.LW

abbrev Sn := Int × Int × Int × List Byte × Bool
abbrev zS : Sn := ((0 : Int), (0 : Int), (0 : Int), ([] : List Byte), false)
def flt (s : Sn) : Fl := (s.1, s.2.1, s.2.2.1, s.2.2.2.1)
/-- those that are on their way -/
def stB (l : List Sn) : FM := ((List.range l.length).filter fun j => (l.getD j zS).2.2.2.2).map fun (j : Nat) => ((j : Int), flt (l.getD j zS))
def Good (l : List Sn) : Prop := ∀ j, j < l.length → (l.getD j zS).1 = j ∧ (l.getD j zS).2.2.2.1.length ≤ 140737488355328
def off (l : List Sn) (k : Nat) : List Sn := l.set k ((l.getD k zS).1, (l.getD k zS).2.1, (l.getD k zS).2.2.1, (l.getD k zS).2.2.2.1, false)
theorem off_length (l : List Sn) (k : Nat) : (off l k).length = l.length := List.length_set
theorem off_get {l : List Sn} {k : Nat} (hk : k < l.length) (j : Nat) : (off l k).getD j zS = if j = k then ((l.getD k zS).1, (l.getD k zS).2.1, (l.getD k zS).2.2.1, (l.getD k zS).2.2.2.1, false) else l.getD j zS := by
  unfold off
  simp only [List.getD_eq_getElem?_getD, List.getElem?_set]
  by_cases h : k = j
  · subst h; rw [if_pos rfl, if_pos rfl, if_pos hk]; rfl
  · rw [if_neg h, if_neg (Ne.symm h)]
theorem off_good {l : List Sn} {k : Nat} (hk : k < l.length) (h : Good l) : Good (off l k) := fun j hj => by
  rw [off_length] at hj
  rw [off_get hk]
  by_cases hjk : j = k
  · rw [if_pos hjk, hjk]; exact h k hk
  · rw [if_neg hjk]; exact h j hj
theorem stB_keys {l : List Sn} {k : Int} : k ∈ (stB l).map (·.1) ↔ ∃ j : Nat, j < l.length ∧ (l.getD j zS).2.2.2.2 = true ∧ k = j := by
  simp only [stB, List.map_map, List.mem_map, List.mem_filter, List.mem_range, Function.comp_def]
  exact ⟨fun ⟨j, ⟨h1, h2⟩, e⟩ => ⟨j, h1, h2, e.symm⟩, fun ⟨j, h1, h2, e⟩ => ⟨j, ⟨h1, h2⟩, e.symm⟩⟩
theorem stB_nodup (l : List Sn) : ((stB l).map (·.1)).Nodup := by
  unfold stB
  rw [List.map_map]
  exact List.pairwise_map.2 (((List.nodup_range (n := l.length)).filter _).imp fun h he => h (Int.ofNat.inj he))
theorem stB_get {l : List Sn} {k : Nat} (hk : k < l.length) (h : (l.getD k zS).2.2.2.2 = true) : mget (k : Int) (stB l) = some (flt (l.getD k zS)) :=
  mget_mem (List.mem_map.2 ⟨k, List.mem_filter.2 ⟨List.mem_range.2 hk, h⟩, rfl⟩) (stB_nodup l)
theorem stB_no {l : List Sn} {k : Nat} (h : k < l.length → (l.getD k zS).2.2.2.2 = false) : mget (k : Int) (stB l) = none := by
  rw [mget_none, stB_keys]
  rintro ⟨j, h1, h2, h3⟩
  obtain rfl : k = j := Int.ofNat.inj h3
  rw [h h1] at h2; cases h2
theorem stB_len (l : List Sn) : (stB l).length ≤ l.length := by
  unfold stB
  rw [List.length_map]
  have := List.length_filter_le (fun j => (l.getD j zS).2.2.2.2) (List.range l.length)
  rw [List.length_range] at this; exact this
theorem stB_del {l : List Sn} {k : Nat} (hk : k < l.length) : mdel (k : Int) (stB l) = stB (off l k) := by
  rw [mdel_filter (stB_nodup l)]
  unfold stB
  rw [List.filter_map, List.filter_filter, off_length]
  have e : ((List.range l.length).filter fun j => ((fun p : Int × Fl => decide (p.1 ≠ (k : Int))) ∘ fun (j : Nat) => ((j : Int), flt (l.getD j zS))) j && (l.getD j zS).2.2.2.2) = (List.range l.length).filter fun j => ((off l k).getD j zS).2.2.2.2 := by
    refine List.filter_congr fun j hj => ?_
    rw [off_get hk]
    by_cases hjk : j = k
    · subst hjk; simp
    · rw [if_neg hjk]
      have : decide (((j : Int), flt (l.getD j zS)).1 ≠ (k : Int)) = true := decide_eq_true (fun he => hjk (Int.ofNat.inj he))
      show (decide (((j : Int), flt (l.getD j zS)).1 ≠ (k : Int)) && _) = _
      rw [this, Bool.true_and]
  rw [e]
  refine List.map_congr_left fun j hj => ?_
  have hj2 := (List.mem_filter.1 hj).2
  rw [off_get hk] at hj2 ⊢
  by_cases hjk : j = k
  · rw [if_pos hjk] at hj2; cases hj2
  · rw [if_neg hjk]
theorem getD_app {l : List Sn} {x : Sn} {j : Nat} (h : j < l.length) : (l ++ [x]).getD j zS = l.getD j zS := by
  simp only [List.getD_eq_getElem?_getD, List.getElem?_append_left h]
theorem getD_last (l : List Sn) (x : Sn) : (l ++ [x]).getD l.length zS = x := by
  simp [List.getD_eq_getElem?_getD]
theorem stB_app {l : List Sn} {x : Sn} (hx : x.2.2.2.2 = true) : stB l ++ [((l.length : Int), flt x)] = stB (l ++ [x]) := by
  unfold stB
  rw [List.length_append, List.length_singleton, List.range_succ, List.filter_append, List.map_append]
  congr 1
  · have e : ((List.range l.length).filter fun j => ((l ++ [x]).getD j zS).2.2.2.2) = (List.range l.length).filter fun j => (l.getD j zS).2.2.2.2 :=
      List.filter_congr fun j hj => by rw [getD_app (List.mem_range.1 hj)]
    rw [e]
    exact List.map_congr_left fun j hj => by rw [getD_app (List.mem_range.1 (List.mem_filter.1 hj).1)]
  · rw [List.filter_cons, if_pos (by rw [getD_last]; exact hx), List.filter_nil, List.map_cons, List.map_nil, getD_last]
theorem good_app {l : List Sn} {x : Sn} (h : Good l) (hx : x.1 = l.length ∧ x.2.2.2.1.length ≤ 140737488355328) : Good (l ++ [x]) := fun j hj => by
  rw [List.length_append, List.length_singleton] at hj
  by_cases hjl : j < l.length
  · rw [getD_app hjl]; exact h j hjl
  · obtain rfl : j = l.length := by omega
    rw [getD_last]; exact hx
theorem same_self (a b c : Int) (d : List Byte) : lethelaw23_same a b c d a b c d true := ipos rfl (ipos rfl (ipos rfl (decide_eq_true rfl).symm))
/-- what has come, has come -/
def come (l : List Sn) (k : Nat) : List Sn := if (l.getD k zS).2.2.2.2 = true then off l k else l
theorem getD_far {l : List Sn} {k : Nat} (h : ¬ k < l.length) : l.getD k zS = zS := by
  rw [List.getD_eq_getElem?_getD, List.getElem?_eq_none (by omega)]; rfl
theorem brought_ok {n m x : Int} {l : List Sn} {k : Nat} : lethelaw23_brought n m (stB l) x l (k : Int) (true, stB (come l k), come l k) := by
  by_cases hk : k < l.length
  · by_cases hh : (l.getD k zS).2.2.2.2 = true
    · have hc : come l k = off l k := if_pos hh
      have hno : mget (k : Int) (stB (off l k)) = none := stB_no fun _ => by rw [off_get hk, if_pos rfl]
      refine ⟨_, _, _, _, _, _, deliver_ok (stB_get hk hh), ineg (by omega) ⟨⟨by omega, by omega⟩, ?_⟩⟩
      rw [Int.toNat_natCast, stB_del hk, hc]
      refine ipos hh ⟨⟨by omega, by omega⟩, _, _, _, _, _, _, deliver_no hno, ipos rfl ⟨⟨by omega, by omega⟩, true, ?_, ipos rfl ?_⟩⟩
      · have e : (l.set k ((l.getD k zS).1, (l.getD k zS).2.1, (l.getD k zS).2.2.1, (l.getD k zS).2.2.2.1, false)).getD k zS = _ := off_get hk k
        rw [if_pos rfl] at e
        rw [e]
        exact same_self _ _ _ _
      · rw [decide_eq_true rfl]; rfl
    · have hf : (l.getD k zS).2.2.2.2 = false := by simpa using hh
      have hc : come l k = l := if_neg hh
      refine ⟨_, _, _, _, _, _, deliver_no (stB_no fun _ => hf), ineg (by omega) ⟨⟨by omega, by omega⟩, ?_⟩⟩
      rw [Int.toNat_natCast, hc]
      exact ineg hh (ipos rfl ⟨true, same_self _ _ _ _, rfl⟩)
  · have hc : come l k = l := if_neg (by rw [getD_far hk]; decide)
    refine ⟨_, _, _, _, _, _, deliver_no (stB_no fun h => absurd h hk), ipos (by omega) ?_⟩
    rw [hc]
    exact ipos rfl ⟨true, same_self _ _ _ _, rfl⟩
theorem come_length (l : List Sn) (k : Nat) : (come l k).length = l.length := by
  unfold come
  split
  · exact off_length l k
  · rfl
theorem come_good {l : List Sn} {k : Nat} (h : Good l) : Good (come l k) := by
  unfold come
  split
  · rename_i hh
    refine off_good ?_ h
    rcases Nat.lt_or_ge k l.length with hk | hk
    · exact hk
    · rw [getD_far (by omega)] at hh; cases hh
  · exact h
theorem come_off {l : List Sn} {k j : Nat} (h : j = k ∨ (l.getD j zS).2.2.2.2 = false) : ((come l k).getD j zS).2.2.2.2 = false := by
  unfold come
  split
  · rename_i hh
    have hk : k < l.length := by
      rcases Nat.lt_or_ge k l.length with hk | hk
      · exact hk
      · rw [getD_far (by omega)] at hh; cases hh
    rw [off_get hk]
    by_cases hjk : j = k
    · rw [if_pos hjk]
    · rw [if_neg hjk]; exact h.resolve_left hjk
  · rename_i hh
    rcases h with rfl | h
    · simpa using hh
    · exact h

theorem netIsBag_true (script : List (Int × Int × Int × Int × List Byte)) (back : Bool) (hQ : ∀ x ∈ script, IntKind.i64.has x.1 ∧ IntKind.i64.has x.2.1 ∧ IntKind.i64.has x.2.2.1 ∧ IntKind.i64.has x.2.2.2.1 ∧ x.2.2.2.2.length ≤ reachBytes) : lethelaw23_NetIsBag script back true := by
  have hr : reachBytes ≤ 140737488355328 := by decide
  refine .inr ⟨_, _, _, _, _, newNet_ok ⟨by decide, by decide, by decide, by decide⟩, ineg (by decide) ?_⟩
  generalize hab : dl 2 (lit ([97#8, 98#8] : List Byte)) = ab
  have habl : ab.length = 2 := by rw [← hab, dl_length]
  refine ⟨_, _, _, _, send_ok (X := []) ⟨by decide, by decide, by decide, by decide⟩ (by decide) (by omega) ⟨by decide, by decide⟩ rfl, ineg (by decide) (ineg (by decide) ?_)⟩
  have h0 : ([] ++ [((0 : Int), ((0 : Int), (1 : Int), (2 : Int), ab))] : FM) = stB [((0 : Int), (1 : Int), (2 : Int), ab, true)] := by
    have := stB_app (l := []) (x := ((0 : Int), (1 : Int), (2 : Int), ab, true)) rfl
    exact this
  have hg0 : Good [((0 : Int), (1 : Int), (2 : Int), ab, true)] := fun j hj => by
    have hj : j < 1 := hj
    obtain rfl : j = 0 := by omega
    exact ⟨rfl, by show ab.length ≤ _; omega⟩
  obtain ⟨x, hx, l, hgl, hll, rfl⟩ : ∃ x, Iter (lethelaw23_NetIsBag_l0 script 3 1000 true) (stB [((0 : Int), (1 : Int), (2 : Int), ab, true)], [((0 : Int), (1 : Int), (2 : Int), ab, true)], 0, 0 + 1) x ∧ ∃ l : List Sn, Good l ∧ l.length ≤ 201 ∧ x = some (stB l, l, (l.length : Int)) := by
    refine iter_ga (fun s => s.1 = stB s.2.1 ∧ Good s.2.1 ∧ s.2.2.2 = (s.2.1.length : Int) ∧ s.2.1.length ≤ s.2.2.1 + 1 ∧ s.2.2.1 ≤ 200) _ (fun s => 200 - s.2.2.1) ?_ 201 _ (by show 200 - 0 < 201; omega) ⟨rfl, hg0, rfl, Nat.le_refl _, Nat.zero_le _⟩
    rintro ⟨mp, l, i, m⟩ ⟨h1, h2, h3, h4, h5⟩
    dsimp only at h1 h2 h3 h4 h5
    subst h1 h3
    by_cases hi : i < script.length
    · by_cases hi2 : i < 200
      · right
        obtain ⟨S, hS⟩ : ∃ S, S = script.getD i ((0 : Int), (0 : Int), (0 : Int), (0 : Int), ([] : List Byte)) := ⟨_, rfl⟩
        have hSm : S ∈ script := by rw [hS, List.getD_eq_getElem?_getD, List.getElem?_eq_getElem hi]; exact List.getElem_mem hi
        obtain ⟨_, hSi, _, _, hSb⟩ := hQ S hSm
        obtain ⟨k, hk, hkl⟩ : ∃ k : Nat, (max S.2.1 (w64 (-(w64 (S.2.1 + 1))))).tmod (((l.length + 1 : Nat)) : Int) = (k : Int) ∧ k ≤ l.length := by
          have e1 := fold_w64 (wf_has hSi)
          have e2 := Int.tmod_lt_of_pos (max S.2.1 (w64 (-(w64 (S.2.1 + 1))))) (show (0 : Int) < ((l.length + 1 : Nat) : Int) by omega)
          have e3 := Int.tmod_nonneg ((l.length + 1 : Nat) : Int) e1
          exact ⟨((max S.2.1 (w64 (-(w64 (S.2.1 + 1))))).tmod ((l.length + 1 : Nat) : Int)).toNat, by omega, by omega⟩
        have hroom : (((stB l).length : Nat) : Int) < 1000 := by have := stB_len l; omega
        have hnew : mget (l.length : Int) (stB l) = none := stB_no fun h => absurd h (Nat.lt_irrefl _)
        have hcl : 0 ≤ (l.length : Int) ∧ (l.length : Int) ≤ 1000000 := ⟨by omega, by omega⟩
        unfold lethelaw23_NetIsBag_l0
        dsimp only
        rw [← hS, hk, Int.toNat_natCast]
        -- here
        obtain ⟨hr', hhr, hh1, hh2⟩ : ∃ hr' : Bool, (if (k : Int) < ((l.length : Nat) : Int) then ((0 ≤ (k : Int) ∧ (k : Int) < l.length) ∧ hr' = (l.getD k zS).2.2.2.2) else hr' = false) ∧ hr' = (l.getD k zS).2.2.2.2 ∧ (hr' = true → k < l.length) := by
          by_cases hkl' : k < l.length
          · exact ⟨_, ipos (by omega) ⟨⟨by omega, by omega⟩, rfl⟩, rfl, fun _ => hkl'⟩
          · exact ⟨false, ineg (by omega) rfl, by rw [getD_far hkl'], fun h => by cases h⟩
        by_cases c2 : S.1 = 2
        · exact ⟨_, ipos hi (ipos hi2 ⟨hi, by omega, by omega, hr', hhr, ipos c2 ⟨_, _, _, brought_ok, ipos rfl rfl⟩⟩), ⟨rfl, come_good h2, by show (l.length : Int) = ((come l k).length : Int); rw [come_length], by show (come l k).length ≤ i + 1 + 1; rw [come_length]; omega, by show i + 1 ≤ 200; omega⟩, by show 200 - (i + 1) < 200 - i; omega⟩
        by_cases c3 : S.1 = 3
        · cases hr' with
          | true =>
            have hkn := hh2 rfl
            refine ⟨(stB (off l k), off l k, i + 1, (l.length : Int)), ipos hi (ipos hi2 ⟨hi, by omega, by omega, true, hhr, ineg c2 (ipos c3 ⟨_, _, drop_ok (stB_get hkn hh1.symm), ineg (by decide) (ipos rfl ⟨⟨by omega, by omega⟩, ?_⟩)⟩)⟩), ⟨rfl, off_good hkn h2, by show (l.length : Int) = ((off l k).length : Int); rw [off_length], by show (off l k).length ≤ i + 1 + 1; rw [off_length]; omega, by show i + 1 ≤ 200; omega⟩, by show 200 - (i + 1) < 200 - i; omega⟩
            rw [stB_del hkn]; rfl
          | false =>
            exact ⟨(stB l, l, i + 1, (l.length : Int)), ipos hi (ipos hi2 ⟨hi, by omega, by omega, false, hhr, ineg c2 (ipos c3 ⟨_, _, drop_no (stB_no fun _ => hh1.symm), ineg (by decide) (ineg (by decide) rfl)⟩)⟩), ⟨rfl, h2, rfl, by show l.length ≤ i + 1 + 1; omega, by show i + 1 ≤ 200; omega⟩, by show 200 - (i + 1) < 200 - i; omega⟩
        by_cases c4 : S.1 = 4
        · cases hr' with
          | true =>
            have hkn := hh2 rfl
            have hg := h2 k hkn
            have happ := stB_app (l := l) (x := ((l.length : Int), (l.getD k zS).2.1, (l.getD k zS).2.2.1, (l.getD k zS).2.2.2.1, (l.getD k zS).2.2.2.2)) hh1.symm
            refine ⟨(stB (l ++ [((l.length : Int), (l.getD k zS).2.1, (l.getD k zS).2.2.1, (l.getD k zS).2.2.2.1, (l.getD k zS).2.2.2.2)]), _, i + 1, (l.length : Int) + 1), ipos hi (ipos hi2 ⟨hi, by omega, by omega, true, hhr, ineg c2 (ineg c3 (ipos c4 ⟨_, _, _, _, copy_ok (stB_get hkn hh1.symm) hroom hg.2 hcl hnew, true, true, true, _, ineg (by decide) (ipos rfl (ineg (by simp) ⟨rfl, rfl, rfl, rfl⟩)), fun _ => ipos rfl ⟨⟨by omega, by omega⟩, ⟨?_, ?_⟩, ?_⟩⟩))⟩), ⟨rfl, good_app h2 ⟨rfl, hg.2⟩, ?_, ?_, by show i + 1 ≤ 200; omega⟩, by show 200 - (i + 1) < 200 - i; omega⟩
            · show (l.length + 1) * 56 ≤ _; omega
            · show l.length + 1 < _; omega
            · rw [← happ]; rfl
            · show (l.length : Int) + 1 = ((l ++ [_]).length : Int); rw [List.length_append]; rfl
            · show (l ++ [_]).length ≤ i + 1 + 1; rw [List.length_append]; show l.length + 1 ≤ _; omega
          | false =>
            exact ⟨(stB l, l, i + 1, (l.length : Int)), ipos hi (ipos hi2 ⟨hi, by omega, by omega, false, hhr, ineg c2 (ineg c3 (ipos c4 ⟨_, _, _, _, copy_no (stB_no fun _ => hh1.symm), true, false, false, false, ineg (by decide) (ineg (by decide) ⟨rfl, rfl, rfl, rfl⟩), fun _ => ineg (by decide) rfl⟩))⟩), ⟨rfl, h2, rfl, by show l.length ≤ i + 1 + 1; omega, by show i + 1 ≤ 200; omega⟩, by show 200 - (i + 1) < 200 - i; omega⟩
        · have happ := stB_app (l := l) (x := ((l.length : Int), 1 + S.2.2.1 % 2, 1 + S.2.2.2.1 % 2, [] ++ S.2.2.2.2, true)) rfl
          have hb2 : ([] ++ S.2.2.2.2 : List Byte).length ≤ 140737488355328 := by rw [List.nil_append]; omega
          refine ⟨(stB (l ++ [((l.length : Int), 1 + S.2.2.1 % 2, 1 + S.2.2.2.1 % 2, [] ++ S.2.2.2.2, true)]), _, i + 1, (l.length : Int) + 1), ipos hi (ipos hi2 ⟨hi, by omega, by omega, hr', hhr, ineg c2 (ineg c3 (ineg c4 ⟨by omega, by omega, _, _, _, _, send_ok ⟨by omega, by omega, by omega, by omega⟩ hroom hb2 hcl hnew, ineg (by decide) (ineg (by simp) ⟨⟨?_, ?_⟩, ?_⟩)⟩))⟩), ⟨rfl, good_app h2 ⟨rfl, hb2⟩, ?_, ?_, by show i + 1 ≤ 200; omega⟩, by show 200 - (i + 1) < 200 - i; omega⟩
          · show (l.length + 1) * 56 ≤ _; omega
          · show l.length + 1 < _; omega
          · rw [← happ]; rfl
          · show (l.length : Int) + 1 = ((l ++ [_]).length : Int); rw [List.length_append]; rfl
          · show (l ++ [_]).length ≤ i + 1 + 1; rw [List.length_append]; show l.length + 1 ≤ _; omega
      · exact .inl ⟨_, ipos hi (ineg hi2 rfl), l, h2, by omega, rfl⟩
    · exact .inl ⟨_, ineg hi rfl, l, h2, by omega, rfl⟩
  rw [← h0] at hx
  refine ⟨_, hx, fun mp0 l0 m0 he => ?_⟩
  obtain ⟨rfl, rfl, rfl⟩ : mp0 = stB l ∧ l0 = l ∧ m0 = (l.length : Int) := by
    have := Option.some.inj he
    exact ⟨(congrArg Prod.fst this).symm, (congrArg (fun z => z.2.1) this).symm, (congrArg (fun z => z.2.2) this).symm⟩
  -- the end
  obtain ⟨kk, hkk⟩ : ∃ kk : Nat → Nat, kk = fun i => if back = true then l0.length - 1 - i else i := ⟨_, rfl⟩
  obtain ⟨x, hx, l, hlen, hoff, rfl⟩ : ∃ x, Iter (lethelaw23_NetIsBag_l1 back 3 1000 (l0.length : Int) true) (stB l0, l0, 0) x ∧ ∃ l : List Sn, l.length = l0.length ∧ (∀ j, j < l.length → (l.getD j zS).2.2.2.2 = false) ∧ x = some (stB l, l) := by
    refine iter_ga (fun s => s.1 = stB s.2.1 ∧ s.2.1.length = l0.length ∧ s.2.2 ≤ l0.length ∧ ∀ i', i' < s.2.2 → (s.2.1.getD (kk i') zS).2.2.2.2 = false) _ (fun s => l0.length - s.2.2) ?_ (l0.length + 1) _ (by show l0.length - 0 < _; omega) ⟨rfl, rfl, Nat.zero_le _, fun i' h => absurd h (Nat.not_lt_zero _)⟩
    rintro ⟨mp, l, i⟩ ⟨h1, h2, h3, h4⟩
    dsimp only at h1 h2 h3 h4
    subst h1
    unfold lethelaw23_NetIsBag_l1
    dsimp only
    by_cases hi : i < l.length
    · right
      have hk : ∃ kI : Int, (if back = true then ((-9223372036854775808 ≤ (((l.length : Nat) : Int) - 1) ∧ (((l.length : Nat) : Int) - 1) ≤ 9223372036854775807) ∧ (-9223372036854775808 ≤ ((((l.length : Nat) : Int) - 1) - ((i : Nat) : Int)) ∧ ((((l.length : Nat) : Int) - 1) - ((i : Nat) : Int)) ≤ 9223372036854775807) ∧ kI = ((((l.length : Nat) : Int) - 1) - ((i : Nat) : Int))) else kI = ((i : Nat) : Int)) ∧ kI = ((kk i : Nat) : Int) := by
        rw [hkk]
        cases back with
        | true => exact ⟨_, ipos rfl ⟨⟨by omega, by omega⟩, ⟨by omega, by omega⟩, rfl⟩, by show _ = (((if true = true then l0.length - 1 - i else i : Nat)) : Int); rw [if_pos rfl]; omega⟩
        | false => exact ⟨_, ineg (by decide) rfl, by show _ = (((if false = true then l0.length - 1 - i else i : Nat)) : Int); rw [if_neg (by decide)]⟩
      obtain ⟨_, hk1, rfl⟩ := hk
      refine ⟨_, ipos hi ⟨_, hk1, _, _, _, brought_ok, ipos rfl ⟨by omega, rfl⟩⟩, ⟨rfl, by show (come l (kk i)).length = _; rw [come_length]; exact h2, by show i + 1 ≤ _; omega, fun i' hi' => ?_⟩, by show l0.length - (i + 1) < l0.length - i; omega⟩
      have hi' : i' < i + 1 := hi'
      refine come_off ?_
      by_cases he : i' = i
      · exact .inl (by rw [he])
      · exact .inr (h4 i' (by omega))
    · refine .inl ⟨_, ineg hi rfl, l, h2, fun j hj => ?_, rfl⟩
      obtain ⟨i', hi', rfl⟩ : ∃ i', i' < i ∧ j = kk i' := by
        rw [hkk]
        cases back with
        | true => exact ⟨l0.length - 1 - j, by omega, by show j = if true = true then l0.length - 1 - (l0.length - 1 - j) else _; rw [if_pos rfl]; omega⟩
        | false => exact ⟨j, by omega, by show j = if false = true then _ else j; rw [if_neg (by decide)]⟩
      exact h4 i' hi'
  refine ⟨_, hx, fun mp1 l1 he1 => ?_⟩
  obtain ⟨rfl, rfl⟩ : mp1 = stB l ∧ l1 = l := by
    have := Option.some.inj he1
    exact ⟨(congrArg Prod.fst this).symm, (congrArg Prod.snd this).symm⟩
  have hnil : stB l1 = [] := by
    unfold stB
    rw [List.filter_eq_nil_iff.2 fun j hj => by rw [hoff j (List.mem_range.1 hj)]; decide]
    rfl
  rw [hnil]
  refine ⟨[], flights_ok _ _ _ .nil (.refl _) (by decide) (fun p hp => by cases hp), ipos rfl ⟨_, rfl, (decide_eq_true ?_).symm⟩⟩
  rw [hlen]
end Go.Proofs.Ytbkgblhmlenocaa
