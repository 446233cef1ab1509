/-
  PLAIN (own work): net against the document's: a map of packets and a row of packets answer alike.
-/
import Derived.Test.YtbkgblhmlenocaaPm
import Derived.Test.YtbkgblhmlenocaaRNetExact
namespace Go.Proofs.Ytbkgblhmlenocaa
set_option linter.unusedSimpArgs false
set_option linter.unusedVariables false
set_option linter.unusedSectionVars false
open Go Go.LW

abbrev zF : Fl := ((0 : Int), (0 : Int), (0 : Int), ([] : List Byte))
def toX (R : List Fl) : FM := R.map fun x => (x.1, x)
structure OkR (R : List Fl) (c : Int) : Prop where
  srt : R.Pairwise fun x y => x.1 < y.1
  lt : ∀ x ∈ R, x.1 < c
  len : ∀ x ∈ R, x.2.2.2.length ≤ 140737488355328
theorem toX_len (R : List Fl) : (toX R).length = R.length := List.length_map _
theorem toX_snd (R : List Fl) : (toX R).map (·.2) = R := by
  unfold toX; rw [List.map_map]; exact List.map_id' R
theorem first (k : Int) : ∀ R : List Fl, (∃ i, i < R.length ∧ (R.getD i zF).1 = k ∧ (∀ j, j < i → (R.getD j zF).1 ≠ k) ∧ mget k (toX R) = some (R.getD i zF) ∧ mdel k (toX R) = toX (R.eraseIdx i)) ∨ ((∀ j, j < R.length → (R.getD j zF).1 ≠ k) ∧ mget k (toX R) = none)
  | [] => .inr ⟨fun j hj => absurd hj (Nat.not_lt_zero _), rfl⟩
  | x :: R => by
    by_cases h : k = x.1
    · exact .inl ⟨0, Nat.succ_pos _, h.symm, fun j hj => absurd hj (Nat.not_lt_zero _), by show (if k = x.1 then some x else _) = _; rw [if_pos h]; rfl, by show (if k = x.1 then toX R else _) = _; rw [if_pos h]; rfl⟩
    · rcases first k R with ⟨i, h1, h2, h3, h4, h5⟩ | ⟨h1, h2⟩
      · refine .inl ⟨i + 1, Nat.succ_lt_succ h1, h2, fun j hj => ?_, ?_, ?_⟩
        · cases j with
          | zero => exact Ne.symm h
          | succ j => exact h3 j (by omega)
        · show (if k = x.1 then some x else mget k (toX R)) = _; rw [if_neg h, h4]; rfl
        · show (if k = x.1 then toX R else (x.1, x) :: mdel k (toX R)) = _; rw [if_neg h, h5]; rfl
      · refine .inr ⟨fun j hj => ?_, ?_⟩
        · cases j with
          | zero => exact Ne.symm h
          | succ j => exact h1 j (by simpa using hj)
        · show (if k = x.1 then some x else mget k (toX R)) = _; rw [if_neg h, h2]
theorem toX_new {R : List Fl} {c : Int} (h : OkR R c) : mget c (toX R) = none := by
  rw [mget_none]
  intro hm
  obtain ⟨p, hp, he⟩ := List.mem_map.1 hm
  obtain ⟨x, hx, rfl⟩ := List.mem_map.1 hp
  have := h.lt x hx
  have he : x.1 = c := he
  omega
theorem okR_app {R : List Fl} {c f t : Int} {b : List Byte} (h : OkR R c) (hb : b.length ≤ 140737488355328) : OkR (R ++ [(c, f, t, b)]) (c + 1) where
  srt := by
    refine List.pairwise_append.2 ⟨h.srt, List.pairwise_singleton _ _, fun x hx y hy => ?_⟩
    rw [List.mem_singleton.1 hy]; exact h.lt x hx
  lt x hx := by
    rcases List.mem_append.1 hx with hx | hx
    · have := h.lt x hx; omega
    · rw [List.mem_singleton.1 hx]; show c < c + 1; omega
  len x hx := by
    rcases List.mem_append.1 hx with hx | hx
    · exact h.len x hx
    · rw [List.mem_singleton.1 hx]; exact hb
theorem okR_del {R : List Fl} {c : Int} (i : Nat) (h : OkR R c) : OkR (R.eraseIdx i) c where
  srt := h.srt.sublist (List.eraseIdx_sublist R i)
  lt x hx := h.lt x ((List.eraseIdx_sublist R i).subset hx)
  len x hx := h.len x ((List.eraseIdx_sublist R i).subset hx)
theorem getD_mem {R : List Fl} {i : Nat} (h : i < R.length) : R.getD i zF ∈ R := by
  rw [List.getD_eq_getElem?_getD, List.getElem?_eq_getElem h]; exact List.getElem_mem h
theorem toX_app (R : List Fl) (x : Fl) : toX (R ++ [x]) = toX R ++ [(x.1, x)] := by
  unfold toX; rw [List.map_append]; rfl
/-! the document's -/
theorem rfind_ok {n m c k : Int} {R : List Fl} {i : Nat} (hR : R.length ≤ 1000) (hi : i < R.length) (he : (R.getD i zF).1 = k) (hl : ∀ j, j < i → (R.getD j zF).1 ≠ k) : letheref23_Net_find n m R c k (i : Int) := by
  obtain ⟨x, hx, hp⟩ : ∃ x, Iter (letheref23_Net_find_l0 R k i) 0 x ∧ x = none := by
    refine iter_ga (fun j => j ≤ i) _ (fun j => i - j) ?_ (i + 1) _ (by omega) (Nat.zero_le _)
    intro j hj
    by_cases h : j = i
    · exact .inl ⟨none, ipos (by omega) ⟨by omega, ipos (by rw [h]; exact he) ⟨rfl, by rw [h]⟩⟩, rfl⟩
    · exact .inr ⟨j + 1, ipos (by omega) ⟨by omega, ineg (hl j (by omega)) ⟨by omega, rfl⟩⟩, by omega, by omega⟩
  exact ⟨x, hx, fun h => by rw [hp] at h; cases h⟩
theorem rfind_no {n m c k : Int} {R : List Fl} (hR : R.length ≤ 1000) (hl : ∀ j, j < R.length → (R.getD j zF).1 ≠ k) : letheref23_Net_find n m R c k (-1) := by
  obtain ⟨x, hx, hp⟩ : ∃ x, Iter (letheref23_Net_find_l0 R k (-1)) 0 x ∧ x = some () := by
    refine iter_ga (fun j => j ≤ R.length) _ (fun j => R.length - j) ?_ (R.length + 1) _ (by omega) (Nat.zero_le _)
    intro j hj
    by_cases h : j < R.length
    · exact .inr ⟨j + 1, ipos h ⟨h, ineg (hl j h) ⟨by omega, rfl⟩⟩, by omega, by omega⟩
    · exact .inl ⟨some (), ineg h rfl, rfl⟩
  exact ⟨x, hx, fun _ => rfl⟩
theorem rgone_ok {n m c : Int} {R : List Fl} {i : Nat} (hR : R.length ≤ 1000) (hi : i < R.length) : letheref23_Net_gone n m R c (i : Int) (R.eraseIdx i) := by
  have e1 : ((i : Int)).toNat = i := Int.toNat_natCast i
  have e2 : ((i : Int) + 1).toNat = i + 1 := by omega
  unfold letheref23_Net_gone
  rw [e1, e2]
  have e3 : ([] ++ sgl R 0 i : List Fl).length = i := by rw [List.nil_append, sgl_length ⟨Nat.zero_le _, by omega⟩]; omega
  refine ⟨by omega, ⟨by omega, by omega⟩, ⟨by omega, by omega⟩, ⟨by omega, by omega⟩, by omega, ⟨by omega, Nat.le_refl _⟩, ⟨by rw [e3]; omega, by rw [e3]; omega⟩, ?_⟩
  rw [List.nil_append, List.eraseIdx_eq_take_drop_succ]
  unfold sgl
  rw [List.drop_zero, Nat.sub_zero, List.take_of_length_le (i := R.length - (i + 1)) (by rw [List.length_drop]; exact Nat.le_refl _)]
theorem rtwin_ok {a b c : Int} {d : List Byte} (h : d.length ≤ 140737488355328) : letheref23_Twin a b c d (a, b, c, d) := ⟨by omega, rfl⟩
theorem radd_ok {n m c a f t : Int} {b : List Byte} {R : List Fl} (hR : R.length ≤ 1000) (hc : 0 ≤ c ∧ c ≤ 1000) (hb : b.length ≤ 140737488355328) : letheref23_Net_add n m R c a f t b (c, R ++ [(c, f, t, b)], c + 1) :=
  ⟨_, _, _, _, rtwin_ok hb, ⟨by show (R.length + 1) * 48 ≤ _; omega, by show R.length + 1 < _; omega⟩, ⟨by omega, by omega⟩, rfl⟩
theorem rnew_ok {n m : Int} (h : 1 ≤ n ∧ n ≤ 4 ∧ 0 ≤ m ∧ m ≤ 4096) : letheref23_New n m (.inr (n, m, [], 0, 0)) := ineg (by omega) (ineg (by omega) (ineg (by omega) (ineg (by omega) rfl)))
theorem rnew_no {n m : Int} (h : ¬ (1 ≤ n ∧ n ≤ 4 ∧ 0 ≤ m ∧ m ≤ 4096)) : letheref23_New n m (.inl 2) := by
  unfold letheref23_New
  by_cases h1 : n < 1
  · exact ipos h1 rfl
  by_cases h2 : 4 < n
  · exact ineg h1 (ipos h2 rfl)
  by_cases h3 : m < 0
  · exact ineg h1 (ineg h2 (ipos h3 rfl))
  · exact ineg h1 (ineg h2 (ineg h3 (ipos (by omega) rfl)))
theorem newNet_no {n m : Int} (h : ¬ (1 ≤ n ∧ n ≤ 4 ∧ 0 ≤ m ∧ m ≤ 4096)) : net_New n m (.inl 2) := by
  unfold net_New
  by_cases h1 : n < 1
  · exact ipos h1 rfl
  by_cases h2 : 4 < n
  · exact ineg h1 (ipos h2 rfl)
  by_cases h3 : m < 0
  · exact ineg h1 (ineg h2 (ipos h3 rfl))
  · exact ineg h1 (ineg h2 (ineg h3 (ipos (by omega) rfl)))
theorem rflights_ok {n m c : Int} {R : List Fl} (hR : R.length ≤ 1000) (h : OkR R c) : letheref23_Net_Flights n m R c (R, R) := by
  obtain ⟨x, hx, hp⟩ : ∃ x, Iter (letheref23_Net_Flights_l0) (([] : List Fl), 0, R) x ∧ x = (R, R) := by
    refine iter_ga (fun s => s.1 = R.take s.2.1 ∧ s.2.1 ≤ R.length ∧ s.2.2 = R) _ (fun s => R.length - s.2.1) ?_ (R.length + 1) _ (by show R.length - 0 < _; omega) ⟨rfl, Nat.zero_le _, rfl⟩
    rintro ⟨out, i, R'⟩ ⟨h1, h2, h3⟩
    dsimp only at h1 h2 h3
    subst h1 h3
    by_cases hi : i < R'.length
    · refine .inr ⟨(R'.take i ++ [R'.getD i zF], i + 1, R'), ipos hi ⟨hi, _, _, _, _, rtwin_ok (h.len _ (getD_mem hi)), ⟨?_, ?_⟩, by omega, rfl⟩, ⟨?_, by show i + 1 ≤ _; omega, rfl⟩, by show R'.length - (i + 1) < R'.length - i; omega⟩
      · show ((R'.take i).length + 1) * 48 ≤ _; rw [List.length_take]; omega
      · show (R'.take i).length + 1 < _; rw [List.length_take]; omega
      · show R'.take i ++ [R'.getD i zF] = R'.take (i + 1)
        rw [List.getD_eq_getElem?_getD, List.getElem?_eq_getElem hi]
        exact List.take_append_getElem hi
    · refine .inl ⟨_, ineg hi rfl, ?_⟩
      rw [List.take_of_length_le (by omega)]
  subst hp
  exact ⟨_, _, hx, rfl⟩
theorem sameE (a b c : Int) (d : List Byte) : lethelaw23_same a b c d a b c d true := ipos rfl (ipos rfl (ipos rfl (decide_eq_true rfl).symm))
theorem sameAll_refl {R : List Fl} (hR : R.length ≤ 1000) : lethelaw23_sameAll R R true := by
  obtain ⟨x, hx, _⟩ : ∃ x, Iter (lethelaw23_sameAll_l0 R R true) 0 x ∧ True := by
    refine iter_ga (fun j => j ≤ R.length) _ (fun j => R.length - j) ?_ (R.length + 1) _ (by omega) (Nat.zero_le _)
    intro j hj
    by_cases h : j < R.length
    · exact .inr ⟨j + 1, ipos h ⟨h, h, true, sameE _ _ _ _, ipos rfl ⟨by omega, rfl⟩⟩, by omega, by omega⟩
    · exact .inl ⟨some (), ineg h rfl, trivial⟩
  exact ineg (by simp) ⟨x, hx, fun _ => rfl⟩
theorem flightsX_ok {n m c : Int} {R : List Fl} (hR : R.length ≤ 1000) (h : OkR R c) : net_Net_Flights n m (toX R) c R := by
  refine flights_ok n m c h.srt (by rw [toX_snd]) (by rw [toX_len]; omega) fun p hp => ?_
  obtain ⟨x, hx, rfl⟩ := List.mem_map.1 hp
  exact h.len x hx
/-! one step -/
theorem send_both {n m c f t : Int} {b : List Byte} {R : List Fl} (hR : R.length ≤ 300) (h : OkR R c) (hc : 0 ≤ c ∧ c ≤ 1000) (hb : b.length ≤ 140737488355328) :
    ∃ a e R' c', net_Net_Send n m (toX R) c f t b (a, e, c', toX R') ∧ letheref23_Net_Send n m R c f t b (a, e, R', c') ∧ OkR R' c' ∧ R'.length ≤ R.length + 1 ∧ c ≤ c' ∧ c' ≤ c + 1 := by
  by_cases h1 : f < 1
  · exact ⟨_, _, R, c, ipos h1 rfl, ipos h1 rfl, h, by omega, by omega, by omega⟩
  by_cases h2 : n < f
  · exact ⟨_, _, R, c, ineg h1 (ipos h2 rfl), ineg h1 (ipos h2 rfl), h, by omega, by omega, by omega⟩
  by_cases h3 : t < 1
  · exact ⟨_, _, R, c, ineg h1 (ineg h2 (ipos h3 rfl)), ineg h1 (ineg h2 (ipos h3 rfl)), h, by omega, by omega, by omega⟩
  by_cases h4 : n < t
  · exact ⟨_, _, R, c, ineg h1 (ineg h2 (ineg h3 (ipos h4 rfl))), ineg h1 (ineg h2 (ineg h3 (ipos h4 rfl))), h, by omega, by omega, by omega⟩
  by_cases h5 : m ≤ ((R.length : Nat) : Int)
  · exact ⟨_, _, R, c, send_full ⟨by omega, by omega, by omega, by omega⟩ (by rw [toX_len]; exact h5), ineg h1 (ineg h2 (ineg h3 (ineg h4 (ipos h5 rfl)))), h, by omega, by omega, by omega⟩
  · refine ⟨c, 0, R ++ [(c, f, t, b)], c + 1, ?_, ineg h1 (ineg h2 (ineg h3 (ineg h4 (ineg h5 ⟨_, _, _, radd_ok (by omega) hc hb, rfl⟩)))), okR_app h hb, by rw [List.length_append]; exact Nat.le_refl _, by omega, by omega⟩
    rw [toX_app]
    exact send_ok ⟨by omega, by omega, by omega, by omega⟩ (by rw [toX_len]; omega) hb ⟨by omega, by omega⟩ (toX_new h)
theorem xor_ok {b : List Byte} (hb : b.length ≤ 140737488355328) : Iter (lethelaw23_step_l0 b) ([] ++ b, 0) () := by
  obtain ⟨⟨⟩, hx, _⟩ : ∃ x, Iter (lethelaw23_step_l0 b) ([] ++ b, 0) x ∧ True := by
    refine iter_ga (fun s => s.2 ≤ b.length) _ (fun s => b.length - s.2) ?_ (b.length + 1) _ (by show b.length - 0 < _; omega) (Nat.zero_le _)
    rintro ⟨d, i⟩ h
    have h : i ≤ b.length := h
    by_cases hi : i < b.length
    · exact .inr ⟨_, ipos (c := i < b.length) hi ⟨hi, hi, by omega, rfl⟩, by show i + 1 ≤ _; omega, by show b.length - (i + 1) < b.length - i; omega⟩
    · exact .inl ⟨(), ineg (c := i < b.length) hi rfl, trivial⟩
  exact hx
theorem step_ok {n m c kind k f t : Int} {b : List Byte} {R : List Fl} (hR : R.length ≤ 300) (h : OkR R c) (hc : 0 ≤ c ∧ c ≤ 1000) (hb : b.length ≤ 140737488355328) :
    ∃ R' c', lethelaw23_step n m (toX R) c n m R c kind k f t b (true, c', R', c', toX R') ∧ OkR R' c' ∧ R'.length ≤ R.length + 1 ∧ c ≤ c' ∧ c' ≤ c + 1 := by
  unfold lethelaw23_step
  by_cases k1 : kind = 1
  · obtain ⟨a, e, R', c', h1, h2, h3, h4, h5⟩ := send_both (n := n) (m := m) (f := f) (t := t) hR h hc hb
    exact ⟨R', c', ipos k1 ⟨by omega, _, _, _, _, h1, _, _, _, _, h2, ineg (by simp) (ineg (by simp) (ipos rfl ⟨xor_ok hb, rfl⟩))⟩, h3, h4, h5⟩
  by_cases k2 : kind = 2
  · rcases first k R with ⟨i, h1, h2, h3, h4, h5⟩ | ⟨h1, h2⟩
    · refine ⟨R.eraseIdx i, c, ineg k1 (ipos k2 ⟨_, _, _, _, _, _, deliver_ok h4, _, _, _, _, _, _, ⟨(i : Int), rfind_ok (by omega) h1 h2 h3, ineg (by omega) ⟨⟨by omega, by omega⟩, _, _, _, _, rtwin_ok (h.len _ (getD_mem h1)), _, rgone_ok (by omega) h1, rfl⟩⟩, ipos rfl ⟨true, sameE _ _ _ _, by rw [h5]⟩⟩), okR_del i h, ?_, by omega, by omega⟩
      have := (List.eraseIdx_sublist R i).length_le; omega
    · exact ⟨R, c, ineg k1 (ipos k2 ⟨_, _, _, _, _, _, deliver_no h2, _, _, _, _, _, _, ⟨-1, rfind_no (by omega) h1, ipos (by omega) rfl⟩, ipos rfl ⟨true, sameE _ _ _ _, rfl⟩⟩), h, by omega, by omega, by omega⟩
  by_cases k3 : kind = 3
  · rcases first k R with ⟨i, h1, h2, h3, h4, h5⟩ | ⟨h1, h2⟩
    · refine ⟨R.eraseIdx i, c, ineg k1 (ineg k2 (ipos k3 ⟨_, _, drop_ok h4, _, _, ⟨(i : Int), rfind_ok (by omega) h1 h2 h3, ineg (by omega) ⟨_, rgone_ok (by omega) h1, rfl⟩⟩, by rw [h5]; rfl⟩)), okR_del i h, ?_, by omega, by omega⟩
      have := (List.eraseIdx_sublist R i).length_le; omega
    · exact ⟨R, c, ineg k1 (ineg k2 (ipos k3 ⟨_, _, drop_no h2, _, _, ⟨-1, rfind_no (by omega) h1, ipos (by omega) rfl⟩, rfl⟩)), h, by omega, by omega, by omega⟩
  by_cases k4 : kind = 4
  · rcases first k R with ⟨i, h1, h2, h3, h4, h5⟩ | ⟨h1, h2⟩
    · by_cases hf : m ≤ ((R.length : Nat) : Int)
      · exact ⟨R, c, ineg k1 (ineg k2 (ineg k3 (ipos k4 ⟨_, _, _, _, copy_full h4 (by rw [toX_len]; exact hf), _, _, _, _, ⟨(i : Int), rfind_ok (by omega) h1 h2 h3, ineg (by omega) (ipos hf rfl)⟩, ipos rfl rfl⟩))), h, by omega, by omega, by omega⟩
      · have hx := h.len _ (getD_mem h1)
        refine ⟨R ++ [(c, (R.getD i zF).2.1, (R.getD i zF).2.2.1, (R.getD i zF).2.2.2)], c + 1, ineg k1 (ineg k2 (ineg k3 (ipos k4 ⟨_, _, _, _, copy_ok h4 (by rw [toX_len]; omega) hx ⟨by omega, by omega⟩ (toX_new h), _, _, _, _, ⟨(i : Int), rfind_ok (by omega) h1 h2 h3, ineg (by omega) (ineg hf ⟨⟨by omega, by omega⟩, _, _, _, radd_ok (by omega) hc hx, rfl⟩)⟩, ipos rfl ?_⟩))), okR_app h hx, by rw [List.length_append]; exact Nat.le_refl _, by omega, by omega⟩
        rw [toX_app]; rfl
    · exact ⟨R, c, ineg k1 (ineg k2 (ineg k3 (ipos k4 ⟨_, _, _, _, copy_no h2, _, _, _, _, ⟨-1, rfind_no (by omega) h1, ipos (by omega) rfl⟩, ipos rfl rfl⟩))), h, by omega, by omega, by omega⟩
  by_cases k5 : kind = 5
  · exact ⟨R, c, ineg k1 (ineg k2 (ineg k3 (ineg k4 (ipos k5 ⟨R, flightsX_ok (by omega) h, R, R, rflights_ok (by omega) h, true, sameAll_refl (by omega), ipos rfl ⟨c, rfl, c, rfl, by rw [decide_eq_true rfl]⟩⟩)))), h, by omega, by omega, by omega⟩
  · exact ⟨R, c, ineg k1 (ineg k2 (ineg k3 (ineg k4 (ineg k5 rfl)))), h, by omega, by omega, by omega⟩
theorem l1_l5 : @lethelaw23_NetExact_l1 = @lethelaw23_NetExact_l5 := rfl
theorem loop_ok (script : List (Int × Int × Int × Int × List Byte)) (n m : Int) (hQ : ∀ x ∈ script, x.2.2.2.2.length ≤ reachBytes) :
    ∃ x, Iter (lethelaw23_NetExact_l5 script n m n m true) (([] : FM), 0, ([] : List Fl), ((0 : Nat) : Int), ((0 : Nat) : Int)) x ∧ ∃ R c, OkR R c ∧ R.length ≤ 300 ∧ x = some (toX R, R, c, c) := by
  have hr : reachBytes ≤ 140737488355328 := by decide
  refine iter_ga (fun s => ∃ R c, OkR R c ∧ R.length ≤ s.2.1 ∧ 0 ≤ c ∧ c ≤ (s.2.1 : Int) ∧ s.2.1 ≤ 200 ∧ s.1 = toX R ∧ s.2.2 = (R, c, c)) _ (fun s => 200 - s.2.1) ?_ 201 _ (by show 200 - 0 < 201; omega) ⟨[], 0, ⟨.nil, fun x hx => (by cases hx), fun x hx => (by cases hx)⟩, Nat.le_refl _, Int.le_refl _, Int.le_refl _, Nat.zero_le _, rfl, rfl⟩
  rintro ⟨mp, i, row, c1, c2⟩ ⟨R, c, h, h1, h2, h3, h4, h5, h6⟩
  dsimp only at h1 h2 h3 h4 h5 h6
  obtain ⟨rfl, rfl, rfl⟩ : row = R ∧ c1 = c ∧ c2 = c := ⟨congrArg Prod.fst h6, congrArg (fun z => z.2.1) h6, congrArg (fun z => z.2.2) h6⟩
  subst h5
  unfold lethelaw23_NetExact_l5
  dsimp only
  by_cases hi : i < script.length
  · by_cases hi2 : i < 200
    · obtain ⟨S, hS⟩ : ∃ S, S = script.getD i ((0 : Int), (0 : Int), (0 : Int), (0 : Int), ([] : List Byte)) := ⟨_, rfl⟩
      have hSm : S ∈ script := by rw [hS, List.getD_eq_getElem?_getD, List.getElem?_eq_getElem hi]; exact List.getElem_mem hi
      have hb := hQ S hSm
      rw [← hS]
      obtain ⟨R', c', g1, g2, g3, g4, g5⟩ := step_ok (n := n) (m := m) (kind := S.1) (k := S.2.1) (f := S.2.2.1) (t := S.2.2.2.1) (b := S.2.2.2.2) (by omega) h ⟨h2, by omega⟩ (by omega)
      exact .inr ⟨(toX R', i + 1, R', c', c'), ipos hi (ipos hi2 ⟨hi, _, _, _, _, _, g1, ipos rfl rfl⟩), ⟨R', c', g2, by show R'.length ≤ i + 1; omega, by omega, by show c' ≤ ((i + 1 : Nat) : Int); omega, by show i + 1 ≤ 200; omega, rfl, rfl⟩, by show 200 - (i + 1) < 200 - i; omega⟩
    · exact .inl ⟨_, ipos hi (ineg hi2 rfl), row, c2, h, by omega, rfl⟩
  · exact .inl ⟨_, ineg hi rfl, row, c2, h, by omega, rfl⟩

theorem netExact_true (nodes most : Int) (script : List (Int × Int × Int × Int × List Byte)) (hQ : ∀ x ∈ script, x.2.2.2.2.length ≤ reachBytes) : lethelaw23_NetExact nodes most script true := by
  have tail : ∀ (n m : Int) (x : Option (FM × List Fl × Int × Int)) (R : List Fl) (c : Int), OkR R c → R.length ≤ 300 → x = some (toX R, R, c, c) → ∀ (mp : FM) (m1 : List Fl) (m2 m3 : Int), x = some (mp, m1, m2, m3) →
      ∃ a, net_Net_Flights n m mp m3 a ∧ ∃ b d, letheref23_Net_Flights n m m1 m2 (b, d) ∧ ∃ e, lethelaw23_sameAll a b e ∧ if e = true then (∃ p, net_Net_Next n m mp m3 p ∧ ∃ q, letheref23_Net_Next n m d m2 q ∧ true = (decide (p = q))) else true = false := by
    intro n m x R c h hl hx mp m1 m2 m3 he
    rw [hx] at he
    have he := Option.some.inj he
    obtain ⟨rfl, rfl, rfl, rfl⟩ : mp = toX R ∧ m1 = R ∧ m2 = c ∧ m3 = c := ⟨(congrArg Prod.fst he).symm, (congrArg (fun z => z.2.1) he).symm, (congrArg (fun z => z.2.2.1) he).symm, (congrArg (fun z => z.2.2.2) he).symm⟩
    exact ⟨m1, flightsX_ok (by omega) h, m1, m1, rflights_ok (by omega) h, true, sameAll_refl (by omega), ipos rfl ⟨_, rfl, _, rfl, (decide_eq_true rfl).symm⟩⟩
  unfold lethelaw23_NetExact
  by_cases hn : 1 ≤ nodes ∧ nodes ≤ 4 ∧ 0 ≤ most ∧ most ≤ 4096
  · obtain ⟨x, hx, R, c, h1, h2, h3⟩ := loop_ok script nodes most hQ
    exact .inr ⟨_, _, _, _, _, newNet_ok hn, .inr ⟨_, _, _, _, _, rnew_ok hn, ineg (by decide) (ineg (by decide) ⟨x, hx, tail _ _ x R c h1 h2 h3⟩)⟩⟩
  · obtain ⟨x, hx, R, c, h1, h2, h3⟩ := loop_ok script 2 3 hQ
    have h23 : (1 : Int) ≤ 2 ∧ (2 : Int) ≤ 4 ∧ (0 : Int) ≤ 3 ∧ (3 : Int) ≤ 4096 := ⟨by decide, by decide, by decide, by decide⟩
    rw [← l1_l5] at hx
    exact .inl ⟨2, newNet_no hn, .inl ⟨2, rnew_no hn, ineg (by decide) (ineg (by decide) (.inr ⟨_, _, _, _, _, newNet_ok h23, .inr ⟨_, _, _, _, _, rnew_ok h23, ineg (by decide) (ineg (by decide) ⟨x, hx, tail _ _ x R c h1 h2 h3⟩)⟩⟩))⟩⟩
end Go.Proofs.Ytbkgblhmlenocaa
