/-
  ENGINE X, PART 7 (own work): floating allocs. Where allocs that wait for nothing may come up anywhere beside a line of other operations, the line is walked once: for every memory beside, and every value of the allocs' slots.
-/
import Derived.Test.YtjdgbahjpdopbaaDoorLx6
namespace Go.LW
set_option linter.unusedSimpArgs false
set_option linter.unusedVariables false
set_option linter.unusedSectionVars false
open Go Go.RowKit

/-- a floating alloc: its number, slot, type, parts -/
structure FA where
  i : Nat
  d : Nat
  T : TypeId
  ps : List (Nat × (Nat → Value))

theorem tmod_bd (a : Int) {c : Int} (hc : 0 < c) : -c < a.tmod c ∧ a.tmod c < c := by
  rcases Int.le_total 0 a with h | h
  · rw [Int.tmod_eq_emod_of_nonneg h]
    have h1 := Int.emod_nonneg a (show c ≠ 0 by omega)
    have h2 := Int.emod_lt_of_pos a hc
    omega
  · have e : a.tmod c = -((-a).tmod c) := by rw [Int.neg_tmod, Int.neg_neg]
    rw [e, Int.tmod_eq_emod_of_nonneg (by omega)]
    have h1 := Int.emod_nonneg (-a) (show c ≠ 0 by omega)
    have h2 := Int.emod_lt_of_pos (-a) hc
    omega
def ov (ds : List Nat) (z e : Env) : Env := fun i => cond (ds.any (Nat.beq i)) (z i) (e i)
theorem ov_in {ds : List Nat} {z e : Env} {i : Nat} (h : i ∈ ds) : ov ds z e i = z i := by
  unfold ov
  rw [show ds.any (Nat.beq i) = true from List.any_eq_true.2 ⟨i, h, Nat.beq_refl i⟩]
  rfl
theorem ov_out {ds : List Nat} {z e : Env} {i : Nat} (h : ¬ i ∈ ds) : ov ds z e i = e i := by
  unfold ov
  rw [show ds.any (Nat.beq i) = false from by
    rw [List.any_eq_false]
    intro x hx hb
    rw [Nat.eq_of_beq_eq_true hb] at h
    exact h hx]
  rfl
theorem ov_self {ds : List Nat} {z e : Env} (h : ∀ i, ¬ i ∈ ds → z i = e i) : ov ds z e = z := by
  funext i
  by_cases hi : i ∈ ds
  · exact ov_in hi
  · rw [ov_out hi, h i hi]

theorem St.perm {B : Nat} {w0 w : World} {L L' : List Rg} (h : St B w0 L w) (hp : L.Perm L') : St B w0 L' w :=
  ⟨h.below, h.base, fun r hr => h.at_ r (hp.mem_iff.2 hr), fun r hr => h.free r (hp.mem_iff.2 hr), (hp.pairwise_iff (fun h => Rg.apart.symm h)).1 h.apart⟩

section
variable {P : Program} {n : Nat} {ops : Array Oper} {Q : Exit → Act → World → Prop} {B : Nat} {w0 : World}

/-- behind all allocs -/
def KE (G : Env → World → Prop) (B : Nat) (w0 : World) (F L : List Rg) : List FA → List Rg → Env → Prop
  | [], R, e => ∀ w, St B w0 (F ++ (R ++ L)) w → G e w
  | a :: A, R, e => ∀ b, KE G B w0 F L A (R ++ rngs b 0 a.ps) (upd e a.d (.pointer (some ⟨b, 0, none⟩)))
/-- the segments, each an effect and what is still behind it -/
def PX (P : Program) (n : Nat) (ops : Array Oper) (B : Nat) (w0 : World) (L : List Rg) (ds : List Nat) (Z : List Rg → Pend → Env → Prop) : List (List (Nat × Bool)) → List Rg → Pend → Env → Prop
  | [], F, O, e => Z F O e
  | σ :: segs, F, O, e => ∀ C z w, St B w0 (F ++ (C ++ L)) w →
      Plan P n (fun O' e' w' => ∃ F', St B w0 (F' ++ (C ++ L)) w' ∧ PIn O' (F' ++ L) ∧ PX P n ops B w0 L ds Z segs F' O' e') (items ops σ) O (ov ds z e) w

theorem KE.all {G : Env → World → Prop} {F L : List Rg} (bs : Nat → Nat) : ∀ (A : List FA) (R : List Rg) (e : Env), KE G B w0 F L A R e →
    ∀ w, St B w0 (F ++ (R ++ A.flatMap (fun a => rngs (bs a.d) 0 a.ps) ++ L)) w → G (A.foldl (fun e a => upd e a.d (.pointer (some ⟨bs a.d, 0, none⟩))) e) w
  | [], R, e, h, w, hst => h w (by simpa using hst)
  | a :: A, R, e, h, w, hst => by
    refine KE.all bs A _ _ (h (bs a.d)) w ?_
    simpa [List.append_assoc] using hst
theorem foldl_env (bs : Nat → Nat) (i : Nat) : ∀ (A : List FA) (e : Env), (A.foldl (fun e a => upd e a.d (.pointer (some ⟨bs a.d, 0, none⟩))) e) i = if i ∈ A.map (·.d) then .pointer (some ⟨bs i, 0, none⟩) else e i
  | [], e => by simp
  | a :: A, e => by
    rw [List.foldl_cons, foldl_env bs i A, List.map_cons]
    by_cases h : i ∈ A.map (·.d)
    · rw [if_pos h, if_pos (List.mem_cons_of_mem _ h)]
    · rw [if_neg h, upd_at]
      by_cases h2 : i = a.d
      · subst h2; rw [if_pos rfl, if_pos List.mem_cons_self]
      · rw [if_neg h2, if_neg (by rw [List.mem_cons]; exact fun h3 => h3.elim h2 h)]

theorem PIn.mid {O : Pend} {F L : List Rg} (h : PIn O (F ++ L)) {w : World} {C : List Rg} (hst : St B w0 (F ++ (C ++ L)) w) : ∀ p ∈ O, p.2 w := by
  have hs : St B w0 (F ++ L) w := hst.sub (List.Sublist.append (List.Sublist.refl F) (List.sublist_append_right C L))
  intro p hp
  clear hst
  generalize F ++ L = M at h hs
  induction h with
  | nil => cases hp
  | cons i h t ih =>
    rcases List.mem_cons.1 hp with rfl | hp
    · exact hs.mem h
    · exact ih hp hs
  | tru t ih =>
    rcases List.mem_cons.1 hp with rfl | hp
    · trivial
    · exact ih hp hs
  | parts h t ih =>
    rcases List.mem_cons.1 hp with rfl | hp
    · exact h.cells hs
    · exact ih hp hs
theorem KE.mono {G G' : Env → World → Prop} {F L : List Rg} (h : ∀ e w, G e w → G' e w) : ∀ (A : List FA) (R : List Rg) (e : Env), KE G B w0 F L A R e → KE G' B w0 F L A R e
  | [], _, _, hk => fun w hst => h _ _ (hk w hst)
  | _ :: A, _, _, hk => fun b => KE.mono h A _ _ (hk b)
theorem PX.mono {L : List Rg} {ds : List Nat} {Z Z' : List Rg → Pend → Env → Prop} (h : ∀ F O e, Z F O e → Z' F O e) : ∀ (segs : List (List (Nat × Bool))) (F : List Rg) (O : Pend) (e : Env), PX P n ops B w0 L ds Z segs F O e → PX P n ops B w0 L ds Z' segs F O e
  | [], _, _, _, hk => h _ _ _ hk
  | _ :: segs, _, _, _, hk => fun C z w hst => Plan.mono (fun _ _ _ ⟨F', h1, h2, h3⟩ => ⟨F', h1, h2, PX.mono h segs _ _ _ h3⟩) _ _ _ _ (hk C z w hst)

/-- A plan turns no slot but its own. -/
theorem Plan.env {ds : List Nat} : ∀ (l : List It) {K : Pend → Env → World → Prop} (O : Pend) (e : Env) (w : World), (∀ it ∈ l, ∀ d, it.o.dst = some d → ¬ d ∈ ds) → Plan P n K l O e w →
    Plan P n (fun O' e' w' => K O' e' w' ∧ ∀ i ∈ ds, e' i = e i) l O e w
  | [], K, O, e, w, _, h => ⟨h, fun _ _ => rfl⟩
  | it :: l, K, O, e, w, hd, h => by
    have hl : ∀ it ∈ l, ∀ d, it.o.dst = some d → ¬ d ∈ ds := fun q hq => hd q (List.mem_cons_of_mem _ hq)
    have key : ∀ v, ∀ i ∈ ds, updO e it.o.dst v i = e i := fun v i hi => by
      unfold updO
      cases hx : it.o.dst with
      | none => rfl
      | some d =>
        refine upd_ne _ _ _ _ ?_
        rintro rfl
        exact hd it List.mem_cons_self _ hx hi
    have go : ∀ v O w, Plan P n K l O (updO e it.o.dst v) w → Plan P n (fun O' e' w' => K O' e' w' ∧ ∀ i ∈ ds, e' i = e i) l O (updO e it.o.dst v) w := fun v O w hp =>
      Plan.mono (fun O e' w hk => ⟨hk.1, fun i hi => by rw [hk.2 i hi, key v i hi]⟩) _ _ _ _ (Plan.env l O _ w hl hp)
    unfold Plan at h ⊢
    split
    · rename_i hw
      rw [if_pos hw] at h
      split
      · rename_i hst
        rw [if_pos hst] at h
        obtain ⟨v, ⟨h3, h4⟩ | ⟨S, h2, h3, h4⟩⟩ := h
        · exact ⟨v, .inl ⟨h3, go _ _ _ h4⟩⟩
        · exact ⟨v, .inr ⟨S, h2, h3, go _ _ _ h4⟩⟩
      · rename_i hst
        rw [if_neg hst] at h
        exact uponE_mono (fun v w' hk => hk.imp (fun ⟨a, b⟩ => ⟨a, go _ _ _ b⟩) (fun ⟨a, b⟩ => ⟨a, go _ _ _ b⟩)) h
    · rename_i hw
      rw [if_neg hw] at h
      exact go _ _ _ h

/-- all ways to take one out -/
def picks {α : Type} : List α → List (α × List α)
  | [] => []
  | a :: l => (a, l) :: (picks l).map fun p => (p.1, a :: p.2)
theorem picks_perm {α : Type} {a : α} {r : List α} : ∀ {l : List α}, (a, r) ∈ picks l → l.Perm (a :: r)
  | [], h => by cases h
  | x :: l, h => by
    rcases List.mem_cons.1 h with h | h
    · cases h; exact List.Perm.refl _
    · obtain ⟨⟨b, r'⟩, hb, he⟩ := List.mem_map.1 h
      cases he
      exact ((picks_perm hb).cons x).trans (List.Perm.swap _ _ _)
theorem picks_of {α : Type} {a : α} : ∀ {l : List α}, a ∈ l → ∃ r, (a, r) ∈ picks l
  | x :: l, h => by
    by_cases hx : a ∈ l
    · obtain ⟨r, hr⟩ := picks_of hx
      exact ⟨x :: r, List.mem_cons_of_mem _ (List.mem_map.2 ⟨_, hr, rfl⟩)⟩
    · rcases List.mem_cons.1 h with rfl | h
      · exact ⟨l, List.mem_cons_self⟩
      · exact absurd h hx

/-- The orders fit: only the next effect of the line, or a float, may come up. -/
def okF (ops : Array Oper) (σ2 : List (Nat × Bool)) : Nat → List Nat → List (List (Nat × Bool)) → Array Bool → Bool
  | 0, _, _, _ => false
  | f + 1, A, segs, l =>
    match segs with
    | [] => match A with
      | [] => (match planP ops σ2 l with
        | some l' => Region.ready .any ops l' == []
        | none => false)
      | _ => !(Region.ready .any ops l).isEmpty && (Region.ready .any ops l).all (fun j => A.contains j) && (picks A).all (fun p => okF ops σ2 f p.2 [] (l.setIfInBounds p.1 true))
    | ((i, false) :: st) :: segs' => !(Region.ready .any ops l).isEmpty && (Region.ready .any ops l).all (fun j => (i :: A).contains j) && (picks A).all (fun p => okF ops σ2 f p.2 segs (l.setIfInBounds p.1 true)) &&
      (match planP ops st (l.setIfInBounds i true) with
        | some l' => okF ops σ2 f A segs' l'
        | none => false)
    | _ => false
def segLen (segs : List (List (Nat × Bool))) : Nat := (segs.map List.length).sum
/-- each float is what it is said to be -/
def isFA (P : Program) (ops : Array Oper) (a : FA) : Prop := (∃ ty pos aft, ops[a.i]? = some ⟨some a.d, .alloc a.T, ty, pos, aft, none⟩) ∧ zeroIs P a.T a.ps
def segsOut (ops : Array Oper) (ds : List Nat) (segs : List (List (Nat × Bool))) : Bool := segs.all fun σ => σ.all fun p => match (ops.getD p.1 default).dst with | some d => !ds.contains d | none => true
theorem segsOut_spec {ds : List Nat} {σ : List (Nat × Bool)} (h : (σ.all fun p => match (ops.getD p.1 default).dst with | some d => !ds.contains d | none => true) = true) : ∀ it ∈ items ops σ, ∀ d, it.o.dst = some d → ¬ d ∈ ds := by
  intro it hit d hd
  obtain ⟨p, hp, rfl⟩ := List.mem_map.1 hit
  have := List.all_eq_true.1 h p hp
  simp only [] at hd
  rw [hd] at this
  simpa using this
theorem rest_nil {α : Type} {a : α} {r : List α} : ∀ {l : List α}, (a, r) ∈ picks l → l.length = r.length + 1 := fun h => by
  have := (picks_perm h).length_eq
  simpa using this
theorem map_picks {α β : Type} (f : α → β) {a : α} {r : List α} : ∀ {l : List α}, (a, r) ∈ picks l → (f a, r.map f) ∈ picks (l.map f)
  | x :: l, h => by
    rcases List.mem_cons.1 h with h | h
    · cases h; exact List.mem_cons_self
    · obtain ⟨⟨b, r'⟩, hb, he⟩ := List.mem_map.1 h
      cases he
      exact List.mem_cons_of_mem _ (List.mem_map.2 ⟨_, map_picks f hb, rfl⟩)

theorem fl_sound (hn : n ≤ 1000000) (hs : Region.noSelect ops = true) (hQ : ∀ c a w, ¬ Q (.panic c) a w) {L : List Rg} {σ2 : List (Nat × Bool)} {A : List FA} (hA : ∀ a ∈ A, isFA P ops a) (hnd : (A.map (·.d)).Nodup) :
    ∀ (f : Nat) (Done A' : List FA) (segs : List (List (Nat × Bool))) (l : Array Bool), okF ops σ2 f (A'.map (·.i)) segs l = true → segsOut ops (A.map (·.d)) segs = true → (Done ++ A').Perm A →
      ∀ (F C : List Rg) (O : Pend) (e ea : Env) (w : World) (bs : Nat → Nat), (∀ i, ¬ i ∈ A.map (·.d) → ea i = e i) → (∀ a ∈ Done, ea a.d = .pointer (some ⟨bs a.d, 0, none⟩)) → C.Perm (Done.flatMap fun a => rngs (bs a.d) 0 a.ps) →
        St B w0 (F ++ (C ++ L)) w → PIn O (F ++ L) →
        PX P n ops B w0 L (A.map (·.d)) (fun F O e => KE (fun e w => Plan P n (fun _ e w => Q .normal (act n e) w) (items ops σ2) O e w) B w0 F L A [] e) segs F O e →
        wpAnyO P ops Q O (A'.length + segLen segs + σ2.length) l (act n ea) w := by
  intro f
  induction f with
  | zero => intro Done A' segs l h; simp [okF] at h
  | succ f ih =>
    intro Done A' segs l hok hout hperm F C O e ea w bs hea hD hC hst hO hX
    have hOw : ∀ p ∈ O, p.2 w := hO.mid hst
    -- a float comes up
    have float : ∀ (a : FA) (r : List FA), (a, r) ∈ picks A' → okF ops σ2 f (r.map (·.i)) segs (l.setIfInBounds a.i true) = true →
        wpOp P ops Q a.i (fun a' w' => (∀ p ∈ O, waitsO (ops.getD a.i default) p.1 = false → p.2 w') ∧ wpAnyO P ops Q (O.filter fun p => !waitsO (ops.getD a.i default) p.1) (r.length + segLen segs + σ2.length) (l.setIfInBounds a.i true) a' w') (act n ea) w := by
      intro a r hr hok2
      have hp1 := picks_perm hr
      have haA : a ∈ A := hperm.mem_iff.1 (List.mem_append_right _ (hp1.mem_iff.2 List.mem_cons_self))
      obtain ⟨⟨ty, pos, aft, hop⟩, z, hz1, hz2⟩ := hA a haA
      unfold wpOp
      simp only [hop]
      rw [if_pos (show Region.wanted (⟨some a.d, .alloc a.T, ty, pos, aft, none⟩ : Oper) (yielded ops (act n ea).tmps) = true from rfl)]
      refine .inl ?_
      have hrun : (execOp (ev n ea) ⟨some a.d, .alloc a.T, ty, pos, aft, none⟩).run P w = .ok (.value (.pointer (some ⟨w.heap.size, 0, none⟩))) (w.alloc (.cells (catL a.ps).toArray a.T)) := run_v (by
        simp only [Instr.alloc, Sem.run_bind, run_zeroValue hz1, Result.andThen, newVar, newRow, newObj, hz2]
        rfl)
      have hst1 := hst.alloc a.ps a.T
      have hst2 : St B w0 (F ++ ((rngs w.heap.size 0 a.ps ++ C) ++ L)) (w.alloc (.cells (catL a.ps).toArray a.T)) := hst1.perm (by
        rw [List.append_assoc (rngs w.heap.size 0 a.ps) C L, ← List.append_assoc, ← List.append_assoc F]
        exact List.perm_append_comm.append_right _)
      refine upon_wp (fun v w' hk => hk) (K := fun v w' => (∀ p ∈ O, waitsO (ops.getD a.i default) p.1 = false → p.2 w') ∧ wpAnyO P ops Q (O.filter fun p => !waitsO (ops.getD a.i default) p.1) (r.length + segLen segs + σ2.length) (l.setIfInBounds a.i true) (act n (updO ea (some a.d) v)) w') ?_
      rw [hrun]
      refine ⟨fun p hp _ => hO.mid hst2 p hp, anyO_weaken _ O _ _ _ _ (fun p hp => .inl (List.mem_filter.1 hp).1) ?_⟩
      have hperm2 : ((Done ++ [a]) ++ r).Perm A := by
        refine List.Perm.trans ?_ hperm
        rw [List.append_assoc]
        exact (List.Perm.append_left Done hp1.symm)
      have hnd2 : ((Done ++ A').map (·.d)).Nodup := ((hperm.map (·.d)).nodup_iff).2 hnd
      have hne : ∀ q ∈ Done, q.d ≠ a.d := fun q hq he => by
        rw [List.map_append, List.nodup_append] at hnd2
        exact hnd2.2.2 q.d (List.mem_map_of_mem hq) a.d (List.mem_map_of_mem (hp1.mem_iff.2 List.mem_cons_self)) he
      refine ih (Done ++ [a]) r segs _ hok2 hout hperm2 F (rngs w.heap.size 0 a.ps ++ C) O e _ _ (upd bs a.d w.heap.size) (fun i hi => ?_) (fun q hq => ?_) ?_ hst2 hO hX
      · show upd ea a.d _ i = e i
        rw [upd_ne _ _ _ _ (fun hia => hi (by rw [hia]; exact List.mem_map_of_mem haA))]
        exact hea i hi
      · show upd ea a.d _ q.d = _
        rcases List.mem_append.1 hq with hq | hq
        · rw [upd_ne _ _ _ _ (hne q hq), upd_ne _ _ _ _ (hne q hq)]
          exact hD q hq
        · obtain rfl : q = a := by simpa using hq
          rw [upd_same, upd_same]
      · rw [List.flatMap_append]
        have e1 : (Done.flatMap fun q => rngs (upd bs a.d w.heap.size q.d) 0 q.ps) = (Done.flatMap fun q => rngs (bs q.d) 0 q.ps) := by
          have : ∀ (D : List FA), (∀ q ∈ D, q.d ≠ a.d) → (D.flatMap fun q => rngs (upd bs a.d w.heap.size q.d) 0 q.ps) = (D.flatMap fun q => rngs (bs q.d) 0 q.ps) := by
            intro D hD
            induction D with
            | nil => rfl
            | cons x D ihD =>
              rw [List.flatMap_cons, List.flatMap_cons, ihD (fun q hq => hD q (List.mem_cons_of_mem _ hq)), upd_ne _ _ _ _ (hD x List.mem_cons_self)]
          exact this Done hne
        rw [e1]
        simp only [List.flatMap_cons, List.flatMap_nil, List.append_nil, upd_same]
        exact (List.perm_append_comm).trans (hC.append_right _)
    unfold okF at hok
    cases segs with
    | nil =>
      simp only at hok
      cases A' with
      | nil =>
        simp only [List.map_nil] at hok
        split at hok
        · rename_i l'' hp
          rw [beq_iff_eq] at hok
          rw [show ([] : List FA).length + segLen [] + σ2.length = σ2.length + 0 by simp [segLen]]
          refine plan_pre hn hs hQ (f := 0) (fun O e w _ hk => ⟨hok, hk⟩) σ2 O l ea w hp hOw ?_
          rw [List.append_nil] at hperm
          have hX' : KE (fun e w => Plan P n (fun _ e w => Q .normal (act n e) w) (items ops σ2) O e w) B w0 F L A [] e := hX
          have h1 := KE.all bs A [] e hX' w (hst.perm (by
            rw [List.nil_append]
            refine List.Perm.append_left F (List.Perm.append_right L ?_)
            exact hC.trans (hperm.flatMap_right _)))
          have h2 : (A.foldl (fun e a => upd e a.d (.pointer (some ⟨bs a.d, 0, none⟩))) e) = ea := by
            funext i
            rw [foldl_env]
            by_cases hi : i ∈ A.map (·.d)
            · rw [if_pos hi]
              obtain ⟨a, ha, rfl⟩ := List.mem_map.1 hi
              exact (hD a (hperm.mem_iff.2 ha)).symm
            · rw [if_neg hi, hea i hi]
          rw [h2] at h1
          exact h1
        · cases hok
      | cons a0 A0 =>
        simp only [List.map_cons, Bool.and_eq_true, Bool.not_eq_true'] at hok
        obtain ⟨⟨hne, hall⟩, hpk⟩ := hok
        rw [show (a0 :: A0).length + segLen [] + σ2.length = (A0.length + segLen [] + σ2.length) + 1 by simp [segLen]; omega]
        refine ⟨fun h0 => (by rw [h0] at hne; cases hne), fun j hj => ?_⟩
        have h1 := List.all_eq_true.1 hall j hj
        have h2 : j ∈ (a0 :: A0).map (·.i) := by simpa using h1
        obtain ⟨a, ha, rfl⟩ := List.mem_map.1 h2
        obtain ⟨r, hr⟩ := picks_of ha
        have hlen : r.length = A0.length := by have := rest_nil hr; simpa using this.symm
        have hk := List.all_eq_true.1 hpk _ (map_picks (·.i) hr)
        have := float a r hr hk
        rw [hlen] at this
        exact this
    | cons σ segs' =>
      match σ, hok, hout, hX, float with
      | [], hok, _, _, _ => simp at hok
      | (i, true) :: st, hok, _, _, _ => simp at hok
      | (i, false) :: st, hok, hout, hX, float =>
        simp only [Bool.and_eq_true, Bool.not_eq_true'] at hok
        obtain ⟨⟨⟨hne, hall⟩, hpk⟩, hnx⟩ := hok
        have hlen : segLen (((i, false) :: st) :: segs') = st.length + 1 + segLen segs' := by simp [segLen]
        obtain ⟨m, hm⟩ : ∃ m, A'.length + segLen (((i, false) :: st) :: segs') + σ2.length = m + 1 := ⟨A'.length + st.length + segLen segs' + σ2.length, by rw [hlen]; omega⟩
        rw [hm]
        refine ⟨fun h0 => (by rw [h0] at hne; cases hne), fun j hj => ?_⟩
        have h1 := List.all_eq_true.1 hall j hj
        have h2 : j = i ∨ j ∈ A'.map (·.i) := by simpa using h1
        by_cases hji : j ∈ A'.map (·.i)
        · obtain ⟨a, ha, rfl⟩ := List.mem_map.1 hji
          obtain ⟨r, hr⟩ := picks_of ha
          have hl2 := rest_nil hr
          have hk := List.all_eq_true.1 hpk _ (map_picks (·.i) hr)
          have := float a r hr hk
          rw [show r.length + segLen (((i, false) :: st) :: segs') + σ2.length = m by omega] at this
          exact this
        · obtain rfl : j = i := h2.resolve_right hji
          split at hnx
          · rename_i l'' hp
            have hout1 : (((j, false) :: st).all fun p => match (ops.getD p.1 default).dst with | some d => !(A.map (·.d)).contains d | none => true) = true ∧ segsOut ops (A.map (·.d)) segs' = true := by
              unfold segsOut at hout
              rw [List.all_cons, Bool.and_eq_true] at hout
              exact hout
            have hplan := Plan.env (ds := A.map (·.d)) _ O _ w (segsOut_spec hout1.1) (hX C ea w hst)
            rw [ov_self hea] at hplan
            have hmm : m = st.length + (A'.length + segLen segs' + σ2.length) := by rw [hlen] at hm; omega
            rw [hmm]
            refine eff_step hn hj hOw (fun O' e' w' hO' h' => ?_) hplan
            refine plan_pre hn hs hQ (f := A'.length + segLen segs' + σ2.length) (fun O'' e'' w'' hO'' hk => ?_) st O' _ e' w' hp hO' h'
            obtain ⟨⟨F', hk2, hk1, hk3⟩, hk4⟩ := hk
            refine ih Done A' segs' l'' hnx hout1.2 hperm F' C O'' e'' e'' w'' bs (fun _ _ => rfl) (fun a ha => ?_) hC hk2 hk1 hk3
            rw [hk4 a.d (List.mem_map_of_mem (hperm.mem_iff.1 (List.mem_append_left _ ha)))]
            exact hD a ha
          · cases hnx
end

section
variable {P : Program} {n : Nat} {ops : Array Oper} {B : Nat} {w0 : World}
theorem PX.step {L : List Rg} {ds : List Nat} {Z : List Rg → Pend → Env → Prop} {σ : List (Nat × Bool)} {segs : List (List (Nat × Bool))} {F : List Rg} {O : Pend} {e : Env}
    (h : ∀ C z w, St B w0 (F ++ (C ++ L)) w → Plan P n (fun O' e' w' => ∃ F', St B w0 (F' ++ (C ++ L)) w' ∧ PIn O' (F' ++ L) ∧ PX P n ops B w0 L ds Z segs F' O' e') (items ops σ) O (ov ds z e) w) : PX P n ops B w0 L ds Z (σ :: segs) F O e := h
theorem PX.done {L : List Rg} {ds : List Nat} {Z : List Rg → Pend → Env → Prop} {F : List Rg} {O : Pend} {e : Env} (h : Z F O e) : PX P n ops B w0 L ds Z [] F O e := h
theorem KE.step {G : Env → World → Prop} {F L : List Rg} {a : FA} {A : List FA} {R : List Rg} {e : Env} (h : ∀ b, KE G B w0 F L A (R ++ rngs b 0 a.ps) (upd e a.d (.pointer (some ⟨b, 0, none⟩)))) : KE G B w0 F L (a :: A) R e := h
theorem KE.fin {G : Env → World → Prop} {F L : List Rg} {R : List Rg} {e : Env} (h : ∀ w, St B w0 (F ++ (R ++ L)) w → G e w) : KE G B w0 F L [] R e := h
theorem flget {L : List Rg} {i : Nat} {r : Rg} (h : L[i]? = some r) (C : List Rg) : (C ++ L)[i + C.length]? = some r := by
  rw [List.getElem?_append_right (by omega), Nat.add_sub_cancel]; exact h
theorem flun {L C : List Rg} {i : Nat} {r : Rg} (h : (C ++ L)[i + C.length]? = some r) : L[i]? = some r := by
  rw [List.getElem?_append_right (by omega), Nat.add_sub_cancel] at h; exact h

end

section regions
variable {P : Program} {n : Nat} {R : Exit → Env → World → Prop} {e : Env} {w : World} {B : Nat} {w0 : World}
def planFl (ops : Array Oper) (n : Nat) (A : List (Nat × Nat)) (σ0 : List (Nat × Bool)) (segs : List (List (Nat × Bool))) (σ2 : List (Nat × Bool)) : Bool :=
  Region.noSelect ops && Nat.ble n 1000000 && (σ0.length + (A.length + segLen segs + σ2.length) == ops.size) && segsOut ops (A.map (·.2)) segs && decide ((A.map (·.2)).Nodup) &&
  (match planP ops σ0 (Array.replicate ops.size false) with
    | some l => okF ops σ2 (A.length + segs.length + 1) (A.map (·.1)) segs l
    | none => false)
def isAlloc (ops : Array Oper) (a : Nat × Nat × TypeId) : Bool := match ops[a.1]? with
  | some ⟨some d, .alloc t, _, _, _, none⟩ => d == a.2.1 && t == a.2.2
  | _ => false
inductive ZeroL (P : Program) : List (TypeId × List (Nat × (Nat → Value))) → Prop
  | nil : ZeroL P []
  | cons {T : TypeId} {ps : List (Nat × (Nat → Value))} {l : List (TypeId × List (Nat × (Nat → Value)))} (h : zeroIs P T ps) (t : ZeroL P l) : ZeroL P ((T, ps) :: l)
theorem ZeroL.mem {P : Program} {l : List (TypeId × List (Nat × (Nat → Value)))} (h : ZeroL P l) : ∀ q ∈ l, zeroIs P q.1 q.2 := by
  induction h with
  | nil => intro q hq; cases hq
  | cons h t ih =>
    intro q hq
    rcases List.mem_cons.1 hq with rfl | hq
    · exact h
    · exact ih q hq
theorem W.regionX {id : Nat} {ops : Array Oper} {L : List Rg} (hm : P.follows .mixedOrders = true) (A : List FA) (σ0 : List (Nat × Bool)) (segs : List (List (Nat × Bool))) (σ2 : List (Nat × Bool))
    (hB : planFl ops n (A.map fun a => (a.i, a.d)) σ0 segs σ2 = true) (hal : (A.map fun a => (a.i, a.d, a.T)).all (isAlloc ops) = true) (hz : ZeroL P (A.map fun a => (a.T, a.ps)))
    (h : Plan P n (fun O' e' w' => ∃ F', St B w0 (F' ++ L) w' ∧ PIn O' (F' ++ L) ∧ PX P n ops B w0 L (A.map (·.d)) (fun F O e => KE (fun e w => Plan P n (fun _ e w => R .normal e w) (items ops σ2) O e w) B w0 F L A [] e) segs F' O' e') (items ops σ0) [] e w.drew) :
    W P n (.region id ops true) R e w := by
  simp only [planFl, Bool.and_eq_true, beq_iff_eq, decide_eq_true_iff, List.length_map, List.map_map] at hB
  obtain ⟨⟨⟨⟨⟨hs, hn⟩, hl⟩, hout⟩, hnd⟩, hp⟩ := hB
  refine wp_region_any hm (anyO_any _ [] _ _ _ ?_)
  split at hp
  · rename_i l0 hp0
    have hfa : ∀ a ∈ A, isFA P ops a := fun a ha => by
      have h1 := List.all_eq_true.1 hal _ (List.mem_map.2 ⟨a, ha, rfl⟩)
      refine ⟨?_, hz.mem _ (List.mem_map.2 ⟨a, ha, rfl⟩)⟩
      unfold isAlloc at h1
      split at h1
      · rename_i d t ty pos aft he
        simp only [Bool.and_eq_true, beq_iff_eq] at h1
        obtain ⟨rfl, rfl⟩ := h1
        exact ⟨ty, pos, aft, he⟩
      · cases h1
    rw [← hl]
    rw [← hl] at hp0
    have hw : ({ w with drawn := w.drawn + 1 } : World) = w.drew := rfl
    rw [hw]
    refine plan_pre (by simpa using hn) hs (fun c a w hq => hq) (f := A.length + segLen segs + σ2.length) (fun O' e' w' hO' hk => ?_) σ0 [] _ e _ hp0 (fun p hp => by cases hp) h
    obtain ⟨F', hk2, hk1, hk3⟩ := hk
    refine fl_sound (L := L) (A := A) (by simpa using hn) hs (fun c a w hq => hq) hfa hnd (A.length + segs.length + 1) [] A segs l0 hp hout (List.Perm.refl _) F' [] O' e' e' w' (fun _ => 0) (fun _ _ => rfl) (fun a ha => by cases ha) (List.Perm.refl _) hk2 hk1 ?_
    revert hk3
    generalize w.drew = w1 at *
    intro hk3
    exact PX.mono (fun F O e hz => KE.mono (fun e w hg => Plan.mono (fun O e w hr => ⟨e, rfl, hr⟩) _ _ _ _ hg) A _ _ hz) segs F' O' e' hk3
  · cases hp
end regions
end Go.LW
