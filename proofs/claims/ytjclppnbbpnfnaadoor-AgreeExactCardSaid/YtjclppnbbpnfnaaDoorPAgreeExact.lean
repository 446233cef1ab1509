/-
 PLAIN LAW OF AgreeExact (own work): every answer is the document's.
-/
import Derived.Test.YtjclppnbbpnfnaaDoorPm
import Derived.Test.YtjclppnbbpnfnaaDoorRAgreeExact
namespace Go.Proofs.YtjclppnbbpnfnaaDoor
set_option linter.unusedSimpArgs false
set_option linter.unusedVariables false
set_option linter.unusedSectionVars false
open Go Go.LW
set_option maxRecDepth 10000
theorem shared7 {k u k' u' : Nat → Byte} (hk : ∀ q, q < 32 → k' q = k q) (hu : ∀ q, q < 32 → u' q = u q) :
   (shE k u = 0 → ∃ r, letheref07_Shared k' u' (r, 0) ∧ ∀ q, q < 32 → r q = tmR k u q) ∧ (shE k u ≠ 0 → letheref07_Shared k' u' ((fun _ => 0#8), 70)) := by
 obtain ⟨r, h1, h2⟩ := times7 k' u'
 have e1 : numB (clampF k') 32 = numB (clampF k) 32 := numB_congr' 32 (clampE k' k hk)
 have e2 : ofB u' = ofB u := by unfold ofB; rw [numB_congr' 32 hu]
 rw [e1, e2, ← tm_num] at h2
 have hz : eqB 32 r (fun _ => 0#8) = true ↔ eqB 32 (tmR k u) (fun _ => 0#8) = true := by
   rw [eqB_iffN, eqB_iffN, h2]
 constructor
 · intro h
   refine ⟨r, ⟨r, h1, ?_⟩, num_at h2⟩
   rw [if_neg (fun hr => ?_)]
   have := hz.1 hr
   unfold shE at h
   rw [if_pos this] at h
   exact absurd h (by decide)
 · intro h
   refine ⟨r, h1, ?_⟩
   rw [if_pos]
   refine hz.2 ?_
   unfold shE at h
   by_cases hc : eqB 32 (tmR k u) (fun _ => 0#8) = true
   · exact hc
   · rw [if_neg hc] at h; exact absurd rfl h
theorem arrs3 (a b c : Nat → Byte) {i q : Nat} (hi : i < 3) (hq : q < 32) : arrs 32 0#8 [a, b, c] (i * 32 + q) = ([a, b, c].getD i (fun _ => 0#8)) q := arrs_at hq
theorem three_ok (a b c x y z : Nat → Byte) :
   (shE a x = 0 → shE b y = 0 → shE c z = 0 → ∃ m, letheref17_three (arrs 32 (0#8) [a, b, c]) (arrs 32 (0#8) [x, y, z]) (m, 0) ∧ (∀ q, q < 32 → m (0 * 32 + q) = tmR a x q) ∧ (∀ q, q < 32 → m (1 * 32 + q) = tmR b y q) ∧ (∀ q, q < 32 → m (2 * 32 + q) = tmR c z q)) ∧
   (shE a x ≠ 0 ∨ shE b y ≠ 0 ∨ shE c z ≠ 0 → ∃ m, letheref17_three (arrs 32 (0#8) [a, b, c]) (arrs 32 (0#8) [x, y, z]) (m, 70)) := by
 have s0 := shared7 (k := a) (u := x) (k' := fun q => arrs 32 (0#8) [a, b, c] (0 * 32 + q)) (u' := fun q => arrs 32 (0#8) [x, y, z] (0 * 32 + q)) (fun q hq => arrs3 a b c (by decide) hq) (fun q hq => arrs3 x y z (by decide) hq)
 have s1 := shared7 (k := b) (u := y) (k' := fun q => arrs 32 (0#8) [a, b, c] (1 * 32 + q)) (u' := fun q => arrs 32 (0#8) [x, y, z] (1 * 32 + q)) (fun q hq => arrs3 a b c (by decide) hq) (fun q hq => arrs3 x y z (by decide) hq)
 have s2 := shared7 (k := c) (u := z) (k' := fun q => arrs 32 (0#8) [a, b, c] (2 * 32 + q)) (u' := fun q => arrs 32 (0#8) [x, y, z] (2 * 32 + q)) (fun q hq => arrs3 a b c (by decide) hq) (fun q hq => arrs3 x y z (by decide) hq)
 generalize arrs 32 (0#8) [a, b, c] = p at *
 generalize arrs 32 (0#8) [x, y, z] = u at *
 have good : ∀ {R : (Nat → Byte) × Nat} {i : Nat} {m r : Nat → Byte}, i < 3 → letheref07_Shared (fun q => p (i * 32 + q)) (fun q => u (i * 32 + q)) (r, 0) → letheref17_three_l0 p u R (i, m) (.inl (i + 1, spl m (i * 32) 32 r)) := fun {R i m r} hi h => by
   unfold letheref17_three_l0; dsimp only
   rw [if_pos hi]
   exact ⟨r, 0, h, by rw [if_neg (by decide)]⟩
 have bad : ∀ {i : Nat} {m : Nat → Byte}, i < 3 → letheref07_Shared (fun q => p (i * 32 + q)) (fun q => u (i * 32 + q)) ((fun _ => 0#8), 70) → letheref17_three_l0 p u (m, 70) (i, m) (.inr none) := fun {i m} hi h => by
   unfold letheref17_three_l0; dsimp only
   rw [if_pos hi]
   exact ⟨_, 70, h, by rw [if_pos (by decide)]; exact ⟨rfl, rfl⟩⟩
 constructor
 · intro h0 h1 h2
   obtain ⟨r0, a0, b0⟩ := s0.1 h0
   obtain ⟨r1, a1, b1⟩ := s1.1 h1
   obtain ⟨r2, a2, b2⟩ := s2.1 h2
   refine ⟨spl (spl (spl (fun _ => 0#8) (0 * 32) 32 r0) (1 * 32) 32 r1) (2 * 32) 32 r2, ⟨_, Iter.more (good (by decide) a0) (Iter.more (good (by decide) a1) (Iter.more (good (by decide) a2) (Iter.done (x := some (spl (spl (spl (fun _ => 0#8) (0 * 32) 32 r0) (1 * 32) 32 r1) (2 * 32) 32 r2)) ?_))), fun m hm => ?_⟩, fun q hq => ?_, fun q hq => ?_, fun q hq => ?_⟩
   · unfold letheref17_three_l0; dsimp only; rw [if_neg (by decide)]
   · rw [Option.some.inj hm]
   · rw [spl_out _ _ _ _ _ (by omega), spl_out _ _ _ _ _ (by omega), spl_in _ _ _ _ _ (by omega), show 0 * 32 + q - 0 * 32 = q by omega, b0 q hq]
   · rw [spl_out _ _ _ _ _ (by omega), spl_in _ _ _ _ _ (by omega), show 1 * 32 + q - 1 * 32 = q by omega, b1 q hq]
   · rw [spl_in _ _ _ _ _ (by omega), show 2 * 32 + q - 2 * 32 = q by omega, b2 q hq]
 · intro h
   by_cases h0 : shE a x = 0
   · obtain ⟨r0, a0, b0⟩ := s0.1 h0
     by_cases h1 : shE b y = 0
     · obtain ⟨r1, a1, b1⟩ := s1.1 h1
       have h2 := (h.resolve_left (fun h => h h0)).resolve_left (fun h => h h1)
       exact ⟨_, none, Iter.more (good (by decide) a0) (Iter.more (good (by decide) a1) (Iter.done (bad (by decide) (s2.2 h2)))), fun m hm => by cases hm⟩
     · exact ⟨_, none, Iter.more (good (by decide) a0) (Iter.done (bad (by decide) (s1.2 h1))), fun m hm => by cases hm⟩
   · exact ⟨_, none, Iter.done (bad (by decide) (s0.2 h0)), fun m hm => by cases hm⟩
def ffs7 (i : Nat) : List Byte := dl 32 fun q => if q < i then 255#8 else 0#8
theorem ffs7_set {i : Nat} (hi : i < 32) : (ffs7 i).set i 255#8 = ffs7 (i + 1) := by
 have hl : (ffs7 i).length = 32 := dl_length _ _
 refine lext (by rw [List.length_set, hl]; exact (dl_length _ _).symm) fun q hq => ?_
 rw [List.length_set, hl] at hq
 have e : ∀ v, lit ((ffs7 i).set i v) q = if q = i then v else lit (ffs7 i) q := fun v => by
   unfold lit
   rw [List.getD_eq_getElem?_getD, List.getD_eq_getElem?_getD, List.getElem?_set]
   by_cases h : q = i
   · subst h; rw [if_pos rfl, if_pos rfl, if_pos (by omega)]; rfl
   · rw [if_neg (fun h2 => h h2.symm), if_neg h]
 rw [e]
 unfold ffs7
 rw [lit_dl _ hq, lit_dl _ hq]
 by_cases h : q = i
 · subst h; rw [if_pos rfl, if_pos (by omega)]
 · rw [if_neg h]
   by_cases h2 : q < i
   · rw [if_pos h2, if_pos (by omega)]
   · rw [if_neg h2, if_neg (by omega)]
theorem ffs7_ok : Iter (letheref17_Made_l0) ((List.replicate 32 0#8), 0) (List.replicate 32 255#8) := by
 have z : List.replicate 32 0#8 = ffs7 0 := by decide +kernel
 have o : ffs7 32 = List.replicate 32 255#8 := by decide +kernel
 rw [← o]
 have key : Iter (letheref17_Made_l0) (ffs7 0, 0) (ffs7 32) :=
   Iter.count (fun i => (ffs7 i, i)) 32 (fun i hi => by
     unfold letheref17_Made_l0; dsimp only
     rw [if_pos hi, ffs7_set hi]
     exact ⟨by rw [List.length_replicate]; exact hi, rfl⟩) (by
     unfold letheref17_Made_l0; dsimp only; rw [if_neg (by omega)])
 rwa [← z] at key
def ck (b : List Byte) (i : Nat) : Nat → Byte := fun q => if q < i ∧ q < 32 then lit b q else 0#8
def cs (b : List Byte) (i : Nat) : Nat → Byte := fun q => if 32 + q < i then lit b (32 + q) else 0#8
theorem cut_ok {b : List Byte} (hb : b.length = 48) : Iter (letheref17_Made_l1 b) (0, (fun _ => 0#8), (fun _ => 0#8)) (cs b 48, ck b 48) := by
 have z1 : (fun _ => 0#8) = cs b 0 := by funext q; unfold cs; rw [if_neg (by omega)]
 have z2 : (fun _ => 0#8) = ck b 0 := by funext q; unfold ck; rw [if_neg (by omega)]
 have key : Iter (letheref17_Made_l1 b) (0, cs b 0, ck b 0) (cs b 48, ck b 48) :=
   Iter.count (fun i => (i, cs b i, ck b i)) 48 (fun i hi => by
     unfold letheref17_Made_l1; dsimp only
     rw [if_pos hi]
     by_cases h : i < 32
     · have e1 : upd (ck b i) i (lit b i) = ck b (i + 1) := by
         funext q; rw [upd_at]; unfold ck
         by_cases hq : q = i
         · subst hq; rw [if_pos rfl, if_pos (by omega)]
         · rw [if_neg hq]
           by_cases h2 : q < i ∧ q < 32
           · rw [if_pos h2, if_pos (by omega)]
           · rw [if_neg h2, if_neg (by omega)]
       have e2 : cs b i = cs b (i + 1) := by
         funext q; unfold cs; rw [if_neg (by omega), if_neg (by omega)]
       rw [if_pos h, e1, ← e2]
       exact ⟨by omega, rfl⟩
     · have e1 : upd (cs b i) (i - 32) (lit b i) = cs b (i + 1) := by
         funext q; rw [upd_at]; unfold cs
         by_cases hq : q = i - 32
         · subst hq; rw [if_pos rfl, if_pos (by omega), show 32 + (i - 32) = i by omega]
         · rw [if_neg hq]
           by_cases h2 : 32 + q < i
           · rw [if_pos h2, if_pos (by omega)]
           · rw [if_neg h2, if_neg (by omega)]
       have e2 : ck b i = ck b (i + 1) := by
         funext q; unfold ck
         by_cases h2 : q < i ∧ q < 32
         · rw [if_pos h2, if_pos (by omega)]
         · rw [if_neg h2, if_neg (by omega)]
       rw [if_neg h, e1, ← e2]
       exact ⟨by omega, rfl⟩) (by
     unfold letheref17_Made_l1; dsimp only; rw [if_neg (by omega)])
 rwa [← z1, ← z2] at key
theorem made7 {x y z a b c : Nat → Byte} (hx : ∀ q, q < 32 → x q = a q) (hy : ∀ q, q < 32 → y q = b q) (hz : ∀ q, q < 32 → z q = c q) : letheref17_Made x y z (ck (outA a b c) 48, cs (outA a b c) 48) := by
 have hj := joined_ok (P := [List.replicate 32 255#8, dl 32 x, dl 32 y, dl 32 z]) (by simp) (by simp only [List.flatten_cons, List.flatten_nil, List.append_nil, List.length_append, List.length_replicate, dl_length]; decide)
 have e : [List.replicate 32 255#8, dl 32 x, dl 32 y, dl 32 z].flatten = inA a b c := by
   rw [dl_congr hx, dl_congr hy, dl_congr hz]
   unfold inA
   simp only [List.flatten_cons, List.flatten_nil, List.append_nil, List.append_assoc]
 rw [e] at hj
 have hd := refderive_ok (n := 48) (salt := List.replicate 32 0#8) (key := inA a b c) (info := labA) (by rw [List.length_replicate]; decide) (by rw [inA_length]; decide) (by unfold labA; rw [dl_length]; decide) (by decide)
 exact ⟨_, ffs7_ok, outA a b c, ⟨_, hj, _, rfl, _, rfl, .inr ⟨_, _, hd, rfl⟩⟩, _, _, cut_ok (outA_length a b c), rfl⟩
theorem sec_eq (a b c : Nat → Byte) : eqB 32 (secA a b c) (ck (outA a b c) 48) = true := eqB_iff.2 fun q hq => by
 unfold secA ck
 rw [spl_in _ _ _ _ _ (by omega), if_pos (by omega)]; rfl
theorem sid_eq (a b c : Nat → Byte) : eqB 16 (sidA a b c) (cs (outA a b c) 48) = true := eqB_iff.2 fun q hq => by
 have hl := outA_length a b c
 unfold sidA cs
 rw [spl_in _ _ _ _ _ (by omega), if_pos (by omega), lit_seg (by omega) (by omega)]; rfl
def bnd7 (a b : Nat → Byte) (i : Nat) : Nat → Byte := fun q => if q < i then a q else if 32 ≤ q ∧ q < 32 + i then b (q - 32) else 0#8
theorem bind7 (a b : Nat → Byte) : letheref17_Bind a b (bnd7 a b 32) := by
 refine ⟨_, ?_, rfl⟩
 have z : (fun _ => 0#8) = bnd7 a b 0 := by funext q; unfold bnd7; rw [if_neg (by omega), if_neg (by omega)]
 have key : Iter (letheref17_Bind_l0 a b) (0, bnd7 a b 0) (bnd7 a b 32) :=
   Iter.count (fun i => (i, bnd7 a b i)) 32 (fun i hi => by
     unfold letheref17_Bind_l0; dsimp only
     have e : upd (upd (bnd7 a b i) i (a i)) (32 + i) (b i) = bnd7 a b (i + 1) := by
       funext q; rw [upd_at, upd_at]; unfold bnd7
       by_cases h1 : q = 32 + i
       · rw [if_pos h1, if_neg (by omega), if_pos (by omega), show q - 32 = i by omega]
       · rw [if_neg h1]
         by_cases h2 : q = i
         · rw [if_pos h2, if_pos (by omega), h2]
         · rw [if_neg h2]
           by_cases h3 : q < i
           · rw [if_pos h3, if_pos (by omega)]
           · rw [if_neg h3, if_neg (show ¬ q < i + 1 by omega)]
             by_cases h4 : 32 ≤ q ∧ q < 32 + i
             · rw [if_pos h4, if_pos (by omega)]
             · rw [if_neg h4, if_neg (by omega)]
     rw [if_pos hi, e]) (by
     unfold letheref17_Bind_l0; dsimp only; rw [if_neg (by omega)])
 rwa [← z] at key
theorem bnd_eq (a b : Nat → Byte) : eqB 64 (bndA a b) (bnd7 a b 32) = true := eqB_iff.2 fun q hq => by
 unfold bndA bnd7
 by_cases h : q < 32
 · rw [spl_out _ _ _ _ _ (by omega), spl_in _ _ _ _ _ (by omega), if_pos h, Nat.sub_zero, lit_dl _ h]
 · rw [spl_in _ _ _ _ _ (by omega), if_neg h, if_pos (by omega), lit_dl _ (by omega)]
theorem plays_start (pk pp qk qp oi : Nat → Byte) (n : BitVec 32) (ok hi ho : Nat → Byte) (hn : BitVec 32) : lethelaw17_plays 1 pk pp qk qp oi n ok hi ho hn true := by
 unfold lethelaw17_plays
 rw [if_pos rfl]
 by_cases h0 : n = 0#32
 · subst h0
   refine ⟨_, _, _, _, _, _, _, start_none pk pp qk qp oi ok, _, _, _, _, _, _, _, by unfold letheref17_Start; rw [if_pos rfl], ?_⟩
   simp only [eqA]; simp
 · by_cases hb : shE pk ok ≠ 0 ∨ shE qk oi ≠ 0 ∨ shE qk ok ≠ 0
   · obtain ⟨m, hm⟩ := (three_ok pk qk qk ok oi ok).2 hb
     refine ⟨_, _, _, _, _, _, _, start_bad pk pp qk qp oi ok _ h0 hb, _, _, _, _, _, _, _, by unfold letheref17_Start; rw [if_neg h0]; exact ⟨m, 70, hm, by rw [if_pos (by decide)]⟩, ?_⟩
     simp only [eqA]; simp
   · have h1 : shE pk ok = 0 := Classical.not_not.1 fun h => hb (.inl h)
     have h2 : shE qk oi = 0 := Classical.not_not.1 fun h => hb (.inr (.inl h))
     have h3 : shE qk ok = 0 := Classical.not_not.1 fun h => hb (.inr (.inr h))
     obtain ⟨m, hm, e0, e1, e2⟩ := (three_ok pk qk qk ok oi ok).1 h1 h2 h3
     refine ⟨_, _, _, _, _, _, _, start_good pk pp qk qp oi ok _ h0 h1 h2 h3, _, _, _, _, _, _, _, by unfold letheref17_Start; rw [if_neg h0]; exact ⟨m, 0, hm, by rw [if_neg (by decide)]; exact ⟨_, bind7 pp oi, _, _, made7 e0 e1 e2, rfl⟩⟩, ?_⟩
     simp only [sec_eq, sid_eq, bnd_eq, eqA]; simp
theorem plays_meet (pk pp qk qp oi : Nat → Byte) (n : BitVec 32) (ok hi ho : Nat → Byte) (hn : BitVec 32) : lethelaw17_plays 2 pk pp qk qp oi n ok hi ho hn true := by
 unfold lethelaw17_plays
 rw [if_neg (by decide), if_pos rfl]
 by_cases h0 : hn = 0#32
 · subst h0
   refine ⟨_, _, _, _, _, _, _, meet_none pk pp qk qp hi ho, _, _, _, _, _, _, _, by unfold letheref17_Meet; rw [if_pos rfl], ?_⟩
   simp only [eqA]; simp
 · by_cases hb : shE qk hi ≠ 0 ∨ shE pk ho ≠ 0 ∨ shE qk ho ≠ 0
   · obtain ⟨m, hm⟩ := (three_ok qk pk qk hi ho ho).2 hb
     refine ⟨_, _, _, _, _, _, _, meet_bad pk pp qk qp hi ho _ h0 hb, _, _, _, _, _, _, _, by unfold letheref17_Meet; rw [if_neg h0]; exact ⟨m, 70, hm, by rw [if_pos (by decide)]⟩, ?_⟩
     simp only [eqA]; simp
   · have h1 : shE qk hi = 0 := Classical.not_not.1 fun h => hb (.inl h)
     have h2 : shE pk ho = 0 := Classical.not_not.1 fun h => hb (.inr (.inl h))
     have h3 : shE qk ho = 0 := Classical.not_not.1 fun h => hb (.inr (.inr h))
     obtain ⟨m, hm, e0, e1, e2⟩ := (three_ok qk pk qk hi ho ho).1 h1 h2 h3
     refine ⟨_, _, _, _, _, _, _, meet_good pk pp qk qp hi ho _ h0 h1 h2 h3, _, _, _, _, _, _, _, by unfold letheref17_Meet; rw [if_neg h0]; exact ⟨m, 0, hm, by rw [if_neg (by decide)]; exact ⟨_, bind7 hi pp, _, _, made7 e0 e1 e2, rfl⟩⟩, ?_⟩
     simp only [sec_eq, sid_eq, bnd_eq, eqA]; simp
theorem plays17 (kind : Int) (pk pp qk qp oi : Nat → Byte) (n : BitVec 32) (ok hi ho : Nat → Byte) (hn : BitVec 32) : lethelaw17_plays kind pk pp qk qp oi n ok hi ho hn true := by
 by_cases h1 : kind = 1
 · subst h1; exact plays_start ..
 · by_cases h2 : kind = 2
   · subst h2; exact plays_meet ..
   · unfold lethelaw17_plays
     rw [if_neg h1, if_neg h2]
theorem agreeExact_true (script : List (Int × (Nat → Byte) × (Nat → Byte) × (Nat → Byte) × (Nat → Byte) × (Nat → Byte) × (BitVec 32) × (Nat → Byte) × (Nat → Byte) × (Nat → Byte) × (BitVec 32))) : lethelaw17_AgreeExact script true := by
 obtain ⟨r, hI, hr⟩ := iter_go (step := lethelaw17_AgreeExact_l0 script true) (fun _ => True) (fun r => r = some ()) (fun i => script.length - i) (by
   intro i _
   unfold lethelaw17_AgreeExact_l0
   by_cases h1 : i < script.length
   · by_cases h2 : i < 4
     · refine .inr ⟨i + 1, ?_, trivial, by omega⟩
       rw [if_pos h1, if_pos h2]
       exact ⟨h1, true, plays17 .., by rw [if_pos rfl]⟩
     · exact .inl ⟨some (), by rw [if_pos h1, if_neg h2], rfl⟩
   · exact .inl ⟨some (), by rw [if_neg h1], rfl⟩) (script.length + 1) 0 (by omega) trivial
 subst hr
 exact ⟨some (), hI, fun _ => ⟨true, plays17 .., rfl⟩⟩
end Go.Proofs.YtjclppnbbpnfnaaDoor
