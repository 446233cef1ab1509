import Derived.Test.YtbkgblhmlenocaaEd
import Derived.Test.YtbkgblhmlenocaaRNet
import Derived.Test.YtbkgblhmlenocaaProg
import Derived.Test.YtbkgblhmlenocaaEls
import Derived.Test.YtbkgblhmlenocaaLay
import Derived.Test.YtbkgblhmlenocaaRSlices
import Derived.Test.YtbkgblhmlenocaaWSlices
import Derived.Test.YtbkgblhmlenocaaWNet
import Derived.Test.YtbkgblhmlenocaaEc
namespace Go.Proofs.Ytbkgblhmlenocaa
set_option linter.unusedSimpArgs false
set_option linter.unusedVariables false
set_option linter.unusedSectionVars false
open Go Go.LW
theorem ipos {c : Prop} [Decidable c] {t e : Prop} (h : c) (x : t) : if c then t else e := (if_pos h).symm ▸ x
theorem ineg {c : Prop} [Decidable c] {t e : Prop} (h : ¬ c) (x : e) : if c then t else e := (if_neg h).symm ▸ x
section maps
variable {κ α : Type} [DecidableEq κ]
end maps
theorem perm_erase {α : Type} {R : List α} {i : Nat} {p : α} (h : R[i]? = some p) : R.Perm (p :: R.eraseIdx i) := by
 induction R generalizing i with
 | nil => simp at h
 | cons x R ih =>
   cases i with
   | zero => obtain rfl : x = p := by simpa using h
             exact .refl _
   | succ i => exact ((ih (by simpa using h)).cons x).trans (.swap _ _ _)
end Go.Proofs.Ytbkgblhmlenocaa
namespace Go.Proofs.Ytbkgblhmlenocaa
set_option linter.unusedSimpArgs false
set_option linter.unusedVariables false
set_option linter.unusedSectionVars false
open Go Go.LW
abbrev Vl := Int × Int × Int × List Byte
abbrev Rw := Int × Int × Int × (Option Addr × Nat × Nat)
def cmpN (a b : Int) : Int := if a < b then -1 else if b < a then 1 else 0
theorem cmpN_ok (a b : Int) : cmp_Compare_int a b (cmpN a b) := by
 refine ⟨false, (decide_eq_false (by simp)).symm, false, (decide_eq_false (by simp)).symm, ineg (by decide) (ineg (by decide) ?_)⟩
 by_cases h1 : a < b
 · exact ipos h1 (if_pos h1)
 · refine ineg h1 ?_
   by_cases h2 : b < a
   · exact ipos h2 ((if_neg h1).trans (if_pos h2))
   · exact ineg h2 ((if_neg h1).trans (if_neg h2))
theorem cmpN_lt {a b : Int} : cmpN a b < 0 ↔ a < b := by
 unfold cmpN
 by_cases h1 : a < b
 · simp [h1]
 · by_cases h2 : b < a <;> simp [h1, h2]
def cfR (x y : Rw) : Int := cmpN x.1 y.1
theorem cfR_ok (x y : Rw) : net_Net_Flights_1 x.1 x.2.1 x.2.2.1 x.2.2.2 y.1 y.2.1 y.2.2.1 y.2.2.2 (cfR x y) := ⟨_, cmpN_ok _ _, rfl⟩
theorem cfR_swo : Sort.SWO (Proofs.ltOf cfR) where
 irrefl x := by simp only [Proofs.ltOf, decide_eq_false_iff_not, cfR, cmpN_lt]; omega
 trans x y z h1 h2 := by simp only [Proofs.ltOf, decide_eq_true_eq, cfR, cmpN_lt] at *; omega
 ntrans x y z h1 h2 := by simp only [Proofs.ltOf, decide_eq_false_iff_not, cfR, cmpN_lt] at *; omega
def owns (v : Vl) (x : Rw) (r : Rg) : Prop := ∃ (a : Option Addr) (p : Option Nat) (c : Nat) (F : Nat → Byte), x = (v.1, v.2.1, v.2.2.1, (a, v.2.2.2.length, c)) ∧ r = ⟨p, 0, c, fun q => VU .u8 (F q), true⟩ ∧ Ow a p v.2.2.2.length c F v.2.2.2
inductive OwnsL : List Vl → List Rw → List Rg → Prop
 | nil : OwnsL [] [] []
 | cons {v : Vl} {x : Rw} {r : Rg} {vs : List Vl} {xs : List Rw} {rs : List Rg} (h : owns v x r) (t : OwnsL vs xs rs) : OwnsL (v :: vs) (x :: xs) (r :: rs)
theorem OwnsL.length {vs : List Vl} {xs : List Rw} {rs : List Rg} (h : OwnsL vs xs rs) : xs.length = vs.length := by
 induction h with
 | nil => rfl
 | cons _ _ ih => rw [List.length_cons, List.length_cons, ih]
theorem OwnsL.snoc {v : Vl} {x : Rw} {r : Rg} {vs : List Vl} {xs : List Rw} {rs : List Rg} (h : OwnsL vs xs rs) (hx : owns v x r) : OwnsL (vs ++ [v]) (xs ++ [x]) (rs ++ [r]) := by
 induction h with
 | nil => exact .cons hx .nil
 | cons h _ ih => exact .cons h ih
theorem OwnsL.rev {vs : List Vl} {xs : List Rw} {rs : List Rg} (h : OwnsL vs.reverse xs.reverse rs) : OwnsL vs xs rs.reverse := by
 have key : ∀ {vs : List Vl} {xs : List Rw} {rs : List Rg}, OwnsL vs xs rs → OwnsL vs.reverse xs.reverse rs.reverse := by
   intro vs xs rs h
   induction h with
   | nil => exact .nil
   | cons h _ ih => rw [List.reverse_cons, List.reverse_cons, List.reverse_cons]; exact ih.snoc h
 have := key h
 rwa [List.reverse_reverse, List.reverse_reverse] at this
theorem OwnsL.perm {xs so : List Rw} (hp : xs.Perm so) : ∀ {vs : List Vl} {rs : List Rg}, OwnsL vs xs rs → ∃ vs' rs', vs'.Perm vs ∧ rs'.Perm rs ∧ OwnsL vs' so rs' := by
 induction hp with
 | nil => intro vs rs h; cases h; exact ⟨[], [], .refl _, .refl _, .nil⟩
 | cons x _ ih =>
   intro vs rs h
   cases h with
   | cons h t =>
     obtain ⟨vs', rs', h1, h2, h3⟩ := ih t
     exact ⟨_, _, h1.cons _, h2.cons _, .cons h h3⟩
 | swap x y l =>
   intro vs rs h
   cases h with
   | cons h t =>
     cases t with
     | cons h' t => exact ⟨_, _, .swap _ _ _, .swap _ _ _, .cons h' (.cons h t)⟩
 | trans _ _ ih1 ih2 =>
   intro vs rs h
   obtain ⟨vs1, rs1, h1, h2, h3⟩ := ih1 h
   obtain ⟨vs2, rs2, h4, h5, h6⟩ := ih2 h3
   exact ⟨vs2, rs2, h4.trans h1, h5.trans h2, h6⟩
theorem OwnsL.first {vs : List Vl} {xs : List Rw} {rs : List Rg} (h : OwnsL vs xs rs) : xs.map (·.1) = vs.map (·.1) := by
 induction h with
 | nil => rfl
 | cons h _ ih =>
   obtain ⟨a, p, c, F, rfl, -⟩ := h
   rw [List.map_cons, List.map_cons, ih]
theorem vl_one {E vs : List Vl} (hE : E.Pairwise fun x y => x.1 < y.1) (hp : vs.Perm E) (hs : (vs.map (·.1)).Pairwise fun x y => ¬ y < x) : vs = E := by
 have hE' : E.Pairwise fun x y => ¬ y.1 < x.1 := hE.imp fun {a b} h => by omega
 refine hp.eq_of_pairwise (fun a b ha hb h1 h2 => ?_) (List.pairwise_map.1 hs) hE'
 have ha' : a ∈ E := hp.mem_iff.1 ha
 obtain ⟨i, hi, rfl⟩ := List.getElem_of_mem ha'
 obtain ⟨j, hj, rfl⟩ := List.getElem_of_mem hb
 rcases Nat.lt_trichotomy i j with h | h | h
 · exact absurd (List.pairwise_iff_getElem.1 hE i j hi hj h) h2
 · subst h; rfl
 · exact absurd (List.pairwise_iff_getElem.1 hE j i hj hi h) h1
theorem OwnsL.sorted {E vs : List Vl} {xs so : List Rw} {rs : List Rg} (h : OwnsL vs xs rs) (hE : E.Pairwise fun x y => x.1 < y.1) (hv : vs.Perm E) (hp : so.Perm xs) (hs : so.Pairwise fun x y => ¬ cfR y x < 0) : ∃ rs', rs'.Perm rs ∧ OwnsL E so rs' := by
 obtain ⟨vs', rs', h1, h2, h3⟩ := h.perm hp.symm
 have hf := h3.first
 have : vs' = E := vl_one hE (h1.trans hv) (by
   rw [← hf]
   refine List.pairwise_map.2 (hs.imp fun {a b} h => ?_)
   intro h4
   exact h (show cmpN b.1 a.1 < 0 from cmpN_lt.2 h4))
 subst this
 exact ⟨rs', h2, h3⟩
theorem range_fl (X : List (Int × Rw)) (val : Rw → Vl) (hl : X.length ≤ 1000) : ∃ (stp : Int × Rw → List Vl → List Vl → Prop) (Q : List Vl → Prop), RangeR stp Q X.length X [] ∧ (∀ p s o, stp p s o → p ∈ X ∧ s.length ≤ 1000 ∧ o = s ++ [val p.2]) ∧ ∀ s, Q s → s.Perm (X.map fun p => val p.2) := by
 refine ⟨fun p s o => p ∈ X ∧ s.length ≤ 1000 ∧ o = s ++ [val p.2], fun s => s.Perm (X.map fun p => val p.2), ?_, fun _ _ _ h => h, fun _ h => h⟩
 refine RangeR.by (fun R out => (out ++ R.map fun p => val p.2).Perm (X.map fun p => val p.2) ∧ ∀ p ∈ R, p ∈ X) (fun R out i p hi hp => ?_) (fun out hi => by simpa using hi.1) X.length X [] rfl ⟨by simp, fun _ h => h⟩
 have hlen : out.length + R.length = X.length := by have := hi.1.length_eq; simpa using this
 refine ⟨out ++ [val p.2], ⟨hi.2 p (List.mem_of_getElem? hp), by omega, rfl⟩, ?_, fun q hq => hi.2 q ((List.eraseIdx_sublist R i).subset hq)⟩
 refine List.Perm.trans ?_ hi.1
 rw [List.append_assoc]
 exact List.Perm.append_left _ ((perm_erase hp).map fun q : Int × Rw => val q.2).symm
end Go.Proofs.Ytbkgblhmlenocaa
namespace Go.Proofs.Ytbkgblhmlenocaa
set_option linter.unusedSimpArgs false
set_option linter.unusedVariables false
set_option linter.unusedSectionVars false
open Go Go.LW
theorem FRaw.key3 : KeyK Try.prog 3 kvI := KeyK.int (by kernel_rfl)
theorem FRaw.mixed : Try.prog.follows .mixedOrders = true := by kernel_rfl
theorem FRaw.fld127_2 : fieldB Try.prog 127 2 2 = true := by kernel_rfl
theorem FRaw.sc125 : scalarT Try.prog 125 = true := by kernel_rfl
theorem FRaw.fld127_1 : fieldB Try.prog 127 1 1 = true := by kernel_rfl
theorem FRaw.sc3 : scalarT Try.prog 3 = true := by kernel_rfl
theorem FRaw.mapt125 : Try.prog.underlying 125 = some (.map 3 60) := by kernel_rfl
theorem FRaw.fld127_3 : fieldB Try.prog 127 3 3 = true := by kernel_rfl
theorem FRaw.el23 : elD Try.prog 23 = some (1, 1, some (VU .u8 0#8)) := by kernel_rfl
theorem FRaw.sl23 : slB Try.prog 23 1 = true := by kernel_rfl
theorem FRaw.call89 : callB Try.prog 89 = true := by kernel_rfl
theorem FRaw.pl60 : placesB Try.prog 60 [(0, 1), (1, 1), (2, 1), (3, 1)] = true := by kernel_rfl
theorem FRaw.z60 : zeroIs Try.prog 60 [(1, fun _ => .int .i64 0), (1, fun _ => .int .i64 0), (1, fun _ => .int .i64 0), (1, fun _ => .slice none 0 0)] := zeroIs_agg (by kernel_rfl)
theorem FRaw.sz3 : szT Try.prog 3 1 = true := by kernel_rfl
theorem FRaw.fld127_0 : fieldB Try.prog 127 0 0 = true := by kernel_rfl
theorem FRaw.call66 : callB Try.prog 66 = true := by kernel_rfl
theorem FRaw.zM60 : (Try.prog.info? 60).bind (·.zero) = some (D60.val () ((0 : Int), (0 : Int), (0 : Int), ((none, 0, 0) : Option Addr × Nat × Nat))) := by kernel_rfl
theorem FRaw.sz60 : szT Try.prog 60 4 = true := by kernel_rfl
theorem FRaw.fld60_1 : fieldB Try.prog 60 1 1 = true := by kernel_rfl
theorem FRaw.fld60_2 : fieldB Try.prog 60 2 2 = true := by kernel_rfl
theorem FRaw.fld60_3 : fieldB Try.prog 60 3 3 = true := by kernel_rfl
theorem FRaw.sc23 : scalarT Try.prog 23 = true := by kernel_rfl
theorem FRaw.sz23 : szT Try.prog 23 1 = true := by kernel_rfl
theorem FRaw.agg60 : aggT Try.prog 60 4 = true := by kernel_rfl
theorem FRaw.zv60 : (Try.prog.info? 60).bind (·.zero) = some (AG [(1, fun _ => .int .i64 0), (1, fun _ => .int .i64 0), (1, fun _ => .int .i64 0), (1, fun _ => .slice none 0 0)]) := by kernel_rfl
theorem FRaw.slu57 : Try.prog.underlying 57 = some (.slice 60) := by kernel_rfl
theorem FRaw.el57 : elD Try.prog 57 = some (4, 48, some (AG [(1, fun _ => .int .i64 0), (1, fun _ => .int .i64 0), (1, fun _ => .int .i64 0), (1, fun _ => .slice none 0 0)])) := by kernel_rfl
theorem FRaw.call67 : callB Try.prog 67 = true := by kernel_rfl
set_option maxRecDepth 8000 in
set_option maxHeartbeats 1000000 in
theorem net_Net_begin_raw {B : Nat} {w0 : Base} {w : World} {L : List Rg} {bn_1 : Nat} {nnodes2 : Int} {nmost3 : Int} {nflights4 : List (Int × (Int × Int × Int × (Option Addr × Nat × Nat)))} {mnflights4 : Nat} {nnext5 : Int} {from_6 : Int} {to7 : Int} {b8 : List Byte} {ab8 : Option Addr} {nb8 cb8 ib8 : Nat} (hb8 : Bx L ib8 ab8 nb8 cb8 b8) (hmost : ¬ nmost3 ≤ ((nflights4.length : Nat) : Int)) (hov : -9223372036854775808 ≤ (nnext5 + 1) ∧ (nnext5 + 1) ≤ 9223372036854775807) (hlen : b8.length ≤ 140737488355328) (HST : St B (w0.on [mapR kvI D60 [] mnflights4 nflights4]) (⟨some bn_1, 0, 1, fun _ => .int .i64 nnodes2, true⟩ :: ⟨some bn_1, 1, 1, fun _ => .int .i64 nmost3, true⟩ :: ⟨some bn_1, 2, 1, fun _ => .map (some mnflights4), true⟩ :: ⟨some bn_1, 3, 1, fun _ => .int .i64 nnext5, true⟩ :: L) w) :
   Calls Try.prog 66 #[.pointer (some ⟨bn_1, 0, none⟩), .int .i64 from_6, .int .i64 to7, .slice ab8 nb8 cb8] w fun e w' => ∃ (a : Option Addr) (p : Option Nat) (c : Nat) (F : Nat → Byte), e = .returned (.tuple #[.int .i64 nnext5, VN 0]) ∧ St B (w0.on [mapR kvI D60 [] mnflights4 (mset nnext5 (nnext5, from_6, to7, ((a, b8.length, c) : Option Addr × Nat × Nat)) nflights4)]) (⟨p, 0, c, fun q => VU .u8 (F q), true⟩ :: ⟨some bn_1, 0, 1, fun _ => .int .i64 nnodes2, true⟩ :: ⟨some bn_1, 1, 1, fun _ => .int .i64 nmost3, true⟩ :: ⟨some bn_1, 2, 1, fun _ => .map (some mnflights4), true⟩ :: ⟨some bn_1, 3, 1, fun _ => .int .i64 (nnext5 + 1), true⟩ :: L) w' ∧ Ow a p b8.length c F b8 := by
 refine W.enter 44 Try.func66 rfl rfl rfl ?_
 have eb8 := hb8.hl; subst eb8
 refine W.seq_k fun K9 hK9 => ?_
 refine W.regionT [(0, true), (1, true)] (by kernel_rfl) ?_
 refine Plan.assign_int rfl rfl ?_
 refine Plan.assign_int rfl rfl ?_
 refine Plan.nil ?_
 refine hK9 _ _ ?_; clear hK9
 refine W.seq_k fun K10 hK10 => ?_
 refine W.seq_k fun K11 hK11 => ?_
 refine W.regionD FRaw.mixed [(0, true), (1, true), (2, true), (3, true), (5, true), (6, true), (7, true), (8, true), (4, false), (9, true)] (by kernel_rfl) ?_
 have h12 := HST.drew
 refine Plan.move_ptr rfl rfl ?_
 refine Plan.nilCheck rfl rfl ?_
 refine Plan.fieldAddr 2 FRaw.fld127_2 rfl rfl ?_
 refine Plan.load0 h12 2 rfl rfl rfl (by omega) FRaw.sc125 ?_
 refine Plan.move_ptr rfl rfl ?_
 refine Plan.nilCheck rfl rfl ?_
 refine Plan.fieldAddr 1 FRaw.fld127_1 rfl rfl ?_
 refine Plan.load0 h12 1 rfl rfl rfl (by omega) FRaw.sc3 ?_
 refine Plan.lenM (w0 := w0) (N := [mapR kvI D60 [] mnflights4 nflights4]) h12 0 FRaw.mapt125 rfl rfl rfl (by exact (EffO.mix _ (Filt.keep rfl (Filt.drop rfl Filt.nil)) (PIn.cons 1 rfl PIn.nil))) fun w13 h13 => ?_
 refine Plan.cmpP (a := (((nflights4.length : Nat) : Int) : Int)) (b := (nmost3 : Int)) (p := nmost3 ≤ ((nflights4.length : Nat) : Int)) rfl rfl rfl rfl icmp_ge ?_
 refine Plan.nil ?_
 refine hK11 _ _ ?_; clear hK11
 by_cases hc14 : nmost3 ≤ ((nflights4.length : Nat) : Int)
 ·
   exact absurd hc14 hmost
 ·
   refine W.condF (congrArg Value.bool (decide_eq_false hc14)) ?_
   refine W.skip ?_
   refine hK10 _ _ ?_; clear hK10
   refine W.seq_k fun K16 hK16 => ?_
   refine W.regionT [(0, true), (1, true), (2, true), (3, true), (4, true)] (by kernel_rfl) ?_
   refine Plan.move_ptr rfl rfl ?_
   refine Plan.nilCheck rfl rfl ?_
   refine Plan.fieldAddr 3 FRaw.fld127_3 rfl rfl ?_
   refine Plan.load0 h13 3 rfl rfl rfl (by omega) FRaw.sc3 ?_
   refine Plan.assign_int rfl rfl ?_
   refine Plan.nil ?_
   refine hK16 _ _ ?_; clear hK16
   refine W.seq_k fun K17 hK17 => ?_
   refine W.regionD FRaw.mixed [(0, true), (1, true), (2, true), (3, true), (4, true), (5, true), (6, true), (7, true), (8, true), (9, false), (10, true), (11, false)] (by kernel_rfl) ?_
   have h18 := h13.drew
   refine Plan.move_ptr rfl rfl ?_
   refine Plan.nilCheck rfl rfl ?_
   refine Plan.fieldAddr 2 FRaw.fld127_2 rfl rfl ?_
   refine Plan.load0 h18 2 rfl rfl rfl (by omega) FRaw.sc125 ?_
   refine Plan.move_int rfl rfl ?_
   refine Plan.move_int rfl rfl ?_
   refine Plan.move_int rfl rfl ?_
   refine Plan.move_int rfl rfl ?_
   refine Plan.move_slice rfl rfl ?_
   have hr19 : slices_Clone_byte_byte b8 b8 := ⟨by omega, by rw [List.nil_append]⟩
   refine Plan.call (vs := [.slice ab8 b8.length cb8]) rfl FRaw.call89 rfl (slices_Clone_byte_byte_ok (hb8.app [_, _, _, _]) hr19 h18) ?_
   rintro _ w26 ⟨ay0_21, py0_22, ny0_23, cy0_24, Fy0_25, rfl, h26, hf26_0⟩
   obtain rfl := hf26_0.hl
   refine ⟨_, rfl, .inl ⟨PIn.keep (by exact (PIn.cons 3 rfl PIn.nil)) h26, ?_⟩⟩
   refine Plan.buildP (ps := [(1, fun _ => .int .i64 nnext5), (1, fun _ => .int .i64 from_6), (1, fun _ => .int .i64 to7), (1, fun _ => .slice ay0_21 b8.length cy0_24)]) FRaw.pl60 (by decide) FRaw.z60 rfl rfl (.one [] [(1, fun _ => VN 0), (1, fun _ => VN 0), (1, fun _ => .slice none 0 0)] (fun _ => VN 0) rfl rfl (.one [(1, fun _ => .int .i64 nnext5)] [(1, fun _ => VN 0), (1, fun _ => .slice none 0 0)] (fun _ => VN 0) rfl rfl (.one [(1, fun _ => .int .i64 nnext5), (1, fun _ => .int .i64 from_6)] [(1, fun _ => .slice none 0 0)] (fun _ => VN 0) rfl rfl (.one [(1, fun _ => .int .i64 nnext5), (1, fun _ => .int .i64 from_6), (1, fun _ => .int .i64 to7)] [] (fun _ => .slice none 0 0) rfl rfl .nil)))) ?_
   refine Plan.updM (w0 := w0) (D := D60) (N := [mapR kvI D60 [] mnflights4 nflights4]) (X := nflights4) (k := nnext5) h26 0 FRaw.key3 FRaw.mapt125 rfl () (nnext5, from_6, to7, ((ay0_21, b8.length, cy0_24) : Option Addr × Nat × Nat)) trivial rfl rfl rfl rfl (by exact (EffO.wait rfl)) fun w27 h27 => ?_
   simp only [List.set_cons_zero, List.set_cons_succ] at h27
   refine Plan.nil ?_
   refine hK17 _ _ ?_; clear hK17
   refine W.seq_k fun K28 hK28 => ?_
   refine W.regionT [(0, true), (1, true), (2, true), (3, true), (4, true), (5, true), (6, true), (7, false)] (by kernel_rfl) ?_
   refine Plan.move_ptr rfl rfl ?_
   refine Plan.nilCheck rfl rfl ?_
   refine Plan.fieldAddr 3 FRaw.fld127_3 rfl rfl ?_
   refine Plan.load0 h27 4 rfl rfl rfl (by omega) FRaw.sc3 ?_
   have hc29 := hov
   refine Plan.addI (a := nnext5) (b := 1) rfl rfl rfl (by omega) ?_
   refine Plan.nilCheck rfl rfl ?_
   refine Plan.fieldAddr 3 FRaw.fld127_3 rfl rfl ?_
   refine Plan.storeC_int h27 4 rfl rfl rfl rfl FRaw.sz3 rfl fun w30 h30 => ?_
   simp only [List.cons_append, List.nil_append, List.set_cons_zero, List.set_cons_succ] at h30
   refine Plan.nil ?_
   refine hK28 _ _ ?_; clear hK28
   refine W.seq_k fun K31 hK31 => ?_
   refine W.regionT [(0, true), (1, true), (2, true)] (by kernel_rfl) ?_
   refine Plan.move_int rfl rfl ?_
   refine Plan.assign_int rfl rfl ?_
   refine Plan.assign_int rfl rfl ?_
   refine Plan.nil ?_
   refine hK31 _ _ ?_; clear hK31
   refine W.ret (finR_ret ?_)
   refine RetOk.mk (.tmp_int rfl (.tmp_int rfl .nil)) ?_
   exact ⟨ay0_21, py0_22, cy0_24, Fy0_25, rfl, h30, hf26_0⟩
set_option maxRecDepth 8000 in
set_option maxHeartbeats 1000000 in
theorem net_Net_Send_raw {B : Nat} {w0 : Base} {w : World} {L : List Rg} {bn_1 : Nat} {nnodes2 : Int} {nmost3 : Int} {nflights4 : List (Int × (Int × Int × Int × (Option Addr × Nat × Nat)))} {mnflights4 : Nat} {nnext5 : Int} {from_6 : Int} {to7 : Int} {b8 : List Byte} {ab8 : Option Addr} {nb8 cb8 ib8 : Nat} (hb8 : Bx L ib8 ab8 nb8 cb8 b8) (hc0 : ¬ from_6 < 1) (hc1 : ¬ nnodes2 < from_6) (hc2 : ¬ to7 < 1) (hc3 : ¬ nnodes2 < to7) (hmost : ¬ nmost3 ≤ ((nflights4.length : Nat) : Int)) (hov : -9223372036854775808 ≤ (nnext5 + 1) ∧ (nnext5 + 1) ≤ 9223372036854775807) (hlen : b8.length ≤ 140737488355328) (HST : St B (w0.on [mapR kvI D60 [] mnflights4 nflights4]) (⟨some bn_1, 0, 1, fun _ => .int .i64 nnodes2, true⟩ :: ⟨some bn_1, 1, 1, fun _ => .int .i64 nmost3, true⟩ :: ⟨some bn_1, 2, 1, fun _ => .map (some mnflights4), true⟩ :: ⟨some bn_1, 3, 1, fun _ => .int .i64 nnext5, true⟩ :: L) w) :
   Calls Try.prog 30 #[.pointer (some ⟨bn_1, 0, none⟩), .int .i64 from_6, .int .i64 to7, .slice ab8 nb8 cb8] w fun e w' => ∃ (a : Option Addr) (p : Option Nat) (c : Nat) (F : Nat → Byte), e = .returned (.tuple #[.int .i64 nnext5, VN 0]) ∧ St B (w0.on [mapR kvI D60 [] mnflights4 (mset nnext5 (nnext5, from_6, to7, ((a, b8.length, c) : Option Addr × Nat × Nat)) nflights4)]) (⟨p, 0, c, fun q => VU .u8 (F q), true⟩ :: ⟨some bn_1, 0, 1, fun _ => .int .i64 nnodes2, true⟩ :: ⟨some bn_1, 1, 1, fun _ => .int .i64 nmost3, true⟩ :: ⟨some bn_1, 2, 1, fun _ => .map (some mnflights4), true⟩ :: ⟨some bn_1, 3, 1, fun _ => .int .i64 (nnext5 + 1), true⟩ :: L) w' ∧ Ow a p b8.length c F b8 := by
 refine W.enter 39 Try.func30 rfl rfl rfl ?_
 have eb8 := hb8.hl; subst eb8
 refine W.seq_k fun K9 hK9 => ?_
 refine W.regionT [(0, true), (1, true)] (by kernel_rfl) ?_
 refine Plan.assign_int rfl rfl ?_
 refine Plan.assign_int rfl rfl ?_
 refine Plan.nil ?_
 refine hK9 _ _ ?_; clear hK9
 refine W.seq_k fun K10 hK10 => ?_
 refine W.seq_k fun K20 hK20 => ?_
 refine W.regionT [(0, true), (1, true), (2, true), (3, true), (4, true), (5, true), (6, true), (7, true), (8, true), (9, true), (10, true), (11, true), (12, true), (13, true), (14, true), (15, true), (16, true), (17, true), (18, true), (19, true), (20, true), (21, true)] (by kernel_rfl) ?_
 refine Plan.move_int rfl rfl ?_
 by_cases hc21 : from_6 < 1
 ·
   exact absurd hc21 hc0
 ·
   refine Plan.cmpV (a := (from_6 : Int)) (b := (1 : Int)) (p := from_6 < 1) (v := false) rfl rfl rfl rfl icmp_lt (decide_eq_false hc21) ?_
   refine Plan.move_bool rfl rfl ?_
   refine Plan.move_int rfl rfl ?_
   refine Plan.move_ptr rfl rfl ?_
   refine Plan.nilCheck rfl rfl ?_
   refine Plan.fieldAddr0 FRaw.fld127_0 rfl rfl ?_
   refine Plan.load0 HST 0 rfl rfl rfl (by omega) FRaw.sc3 ?_
   by_cases hc23 : nnodes2 < from_6
   ·
     exact absurd hc23 hc1
   ·
     refine Plan.cmpV (a := (from_6 : Int)) (b := (nnodes2 : Int)) (p := nnodes2 < from_6) (v := false) rfl rfl rfl rfl icmp_gt (decide_eq_false hc23) ?_
     refine Plan.pickFb rfl rfl rfl ?_
     refine Plan.move_bool rfl rfl ?_
     refine Plan.move_int rfl rfl ?_
     by_cases hc25 : to7 < 1
     ·
       exact absurd hc25 hc2
     ·
       refine Plan.cmpV (a := (to7 : Int)) (b := (1 : Int)) (p := to7 < 1) (v := false) rfl rfl rfl rfl icmp_lt (decide_eq_false hc25) ?_
       refine Plan.pickFb rfl rfl rfl ?_
       refine Plan.move_bool rfl rfl ?_
       refine Plan.move_int rfl rfl ?_
       refine Plan.move_ptr rfl rfl ?_
       refine Plan.nilCheck rfl rfl ?_
       refine Plan.fieldAddr0 FRaw.fld127_0 rfl rfl ?_
       refine Plan.load0 HST 0 rfl rfl rfl (by omega) FRaw.sc3 ?_
       refine Plan.cmpP (a := (to7 : Int)) (b := (nnodes2 : Int)) (p := nnodes2 < to7) rfl rfl rfl rfl icmp_gt ?_
       refine Plan.pickFb rfl rfl rfl ?_
       refine Plan.nil ?_
       refine hK20 _ _ ?_; clear hK20
       by_cases hc27 : nnodes2 < to7
       ·
         exact absurd hc27 hc3
       ·
         refine W.condF (congrArg Value.bool (decide_eq_false hc27)) ?_
         refine W.skip ?_
         refine hK10 _ _ ?_; clear hK10
         refine W.seq_k fun K29 hK29 => ?_
         refine W.regionT [(0, true), (1, true), (2, true), (3, true), (4, false), (5, true), (6, true), (7, true), (8, true)] (by kernel_rfl) ?_
         refine Plan.move_ptr rfl rfl ?_
         refine Plan.move_int rfl rfl ?_
         refine Plan.move_int rfl rfl ?_
         refine Plan.move_slice rfl rfl ?_
         refine Plan.call (vs := [.pointer (some ⟨bn_1, 0, none⟩), .int .i64 from_6, .int .i64 to7, .slice ab8 b8.length cb8]) rfl FRaw.call66 rfl (net_Net_begin_raw (w0 := w0) hb8 hmost hov hlen (show St B (w0.on [mapR kvI D60 [] mnflights4 nflights4]) _ _ from HST)) ?_
         rintro _ w35 ⟨a9, p9, c9, F9, rfl, h35, ho9⟩
         refine ⟨_, rfl, .inl ⟨PIn.keep (by exact PIn.nil) h35, ?_⟩⟩
         refine Plan.extract_int rfl rfl rfl ?_
         refine Plan.extract_int rfl rfl rfl ?_
         refine Plan.assign_int rfl rfl ?_
         refine Plan.assign_int rfl rfl ?_
         refine Plan.nil ?_
         refine hK29 _ _ ?_; clear hK29
         refine W.ret (finR_ret ?_)
         refine RetOk.mk (.tmp_int rfl (.tmp_int rfl .nil)) ?_
         exact ⟨a9, p9, c9, F9, rfl, h35, ho9⟩
set_option maxRecDepth 8000 in
set_option maxHeartbeats 1000000 in
theorem net_Net_Copy_raw {B : Nat} {w0 : Base} {w : World} {L : List Rg} {bn_1 : Nat} {nnodes2 : Int} {nmost3 : Int} {nflights4 : List (Int × (Int × Int × Int × (Option Addr × Nat × Nat)))} {mnflights4 : Nat} {nnext5 : Int} {k6 : Int} {rb : List Byte} {irb : Nat} (hrb : Bx L irb ((mget k6 nflights4).getD ((0 : Int), (0 : Int), (0 : Int), ((none, 0, 0) : Option Addr × Nat × Nat))).2.2.2.1 ((mget k6 nflights4).getD ((0 : Int), (0 : Int), (0 : Int), ((none, 0, 0) : Option Addr × Nat × Nat))).2.2.2.2.1 ((mget k6 nflights4).getD ((0 : Int), (0 : Int), (0 : Int), ((none, 0, 0) : Option Addr × Nat × Nat))).2.2.2.2.2 rb) (hk9 : (mget k6 nflights4).isSome = true) (hmost : ¬ nmost3 ≤ ((nflights4.length : Nat) : Int)) (hov : -9223372036854775808 ≤ (nnext5 + 1) ∧ (nnext5 + 1) ≤ 9223372036854775807) (hlen : rb.length ≤ 140737488355328) (HST : St B (w0.on [mapR kvI D60 [] mnflights4 nflights4]) (⟨some bn_1, 0, 1, fun _ => .int .i64 nnodes2, true⟩ :: ⟨some bn_1, 1, 1, fun _ => .int .i64 nmost3, true⟩ :: ⟨some bn_1, 2, 1, fun _ => .map (some mnflights4), true⟩ :: ⟨some bn_1, 3, 1, fun _ => .int .i64 nnext5, true⟩ :: L) w) :
   Calls Try.prog 31 #[.pointer (some ⟨bn_1, 0, none⟩), .int .i64 k6] w fun e w' => ∃ (a : Option Addr) (p : Option Nat) (c : Nat) (F : Nat → Byte), e = .returned (.tuple #[.int .i64 nnext5, VN 0]) ∧ St B (w0.on [mapR kvI D60 [] mnflights4 (mset nnext5 (nnext5, ((mget k6 nflights4).getD ((0 : Int), (0 : Int), (0 : Int), ((none, 0, 0) : Option Addr × Nat × Nat))).2.1, ((mget k6 nflights4).getD ((0 : Int), (0 : Int), (0 : Int), ((none, 0, 0) : Option Addr × Nat × Nat))).2.2.1, ((a, rb.length, c) : Option Addr × Nat × Nat)) nflights4)]) (⟨p, 0, c, fun q => VU .u8 (F q), true⟩ :: ⟨some bn_1, 0, 1, fun _ => .int .i64 nnodes2, true⟩ :: ⟨some bn_1, 1, 1, fun _ => .int .i64 nmost3, true⟩ :: ⟨some bn_1, 2, 1, fun _ => .map (some mnflights4), true⟩ :: ⟨some bn_1, 3, 1, fun _ => .int .i64 (nnext5 + 1), true⟩ :: L) w' ∧ Ow a p rb.length c F rb := by
 refine W.enter 29 Try.func31 rfl rfl rfl ?_
 refine W.seq_k fun K7 hK7 => ?_
 refine W.regionT [(0, true), (1, true)] (by kernel_rfl) ?_
 refine Plan.assign_int rfl rfl ?_
 refine Plan.assign_int rfl rfl ?_
 refine Plan.nil ?_
 refine hK7 _ _ ?_; clear hK7
 refine W.seq_k fun K8 hK8 => ?_
 refine W.regionT [(0, true), (1, true), (2, true), (3, true), (4, true), (5, false), (6, true), (7, true), (8, true), (9, false), (10, false), (11, true)] (by kernel_rfl) ?_
 refine Plan.move_ptr rfl rfl ?_
 refine Plan.nilCheck rfl rfl ?_
 refine Plan.fieldAddr 2 FRaw.fld127_2 rfl rfl ?_
 refine Plan.load0 HST 2 rfl rfl rfl (by omega) FRaw.sc125 ?_
 refine Plan.move_int rfl rfl ?_
 refine Plan.lookupM (w0 := w0) (D := D60) (N := [mapR kvI D60 [] mnflights4 nflights4]) (X := nflights4) (k := k6) HST 0 FRaw.key3 FRaw.mapt125 rfl () ((0 : Int), (0 : Int), (0 : Int), ((none, 0, 0) : Option Addr × Nat × Nat)) FRaw.zM60 trivial rfl rfl rfl (by exact (EffO.wait rfl)) fun b9 w9 hs9 h9 => ?_
 refine Plan.move_tuple rfl rfl ?_
 refine Plan.extract_agg rfl rfl rfl ?_
 refine Plan.extract_bool rfl rfl rfl ?_
 refine Plan.alloc h9 rfl FRaw.z60 PIn.nil fun b10 w10 hb10 h10 => ?_
 simp only [rngs, Nat.zero_add, Nat.reduceAdd, List.cons_append, List.nil_append] at h10
 refine Plan.storeP (ps := [(1, fun _ => .int .i64 (((mget k6 nflights4).getD ((0 : Int), (0 : Int), (0 : Int), ((none, 0, 0) : Option Addr × Nat × Nat))).1)), (1, fun _ => .int .i64 (((mget k6 nflights4).getD ((0 : Int), (0 : Int), (0 : Int), ((none, 0, 0) : Option Addr × Nat × Nat))).2.1)), (1, fun _ => .int .i64 (((mget k6 nflights4).getD ((0 : Int), (0 : Int), (0 : Int), ((none, 0, 0) : Option Addr × Nat × Nat))).2.2.1)), (1, fun _ => .slice ((((mget k6 nflights4).getD ((0 : Int), (0 : Int), (0 : Int), ((none, 0, 0) : Option Addr × Nat × Nat))).2.2.2).1) ((((mget k6 nflights4).getD ((0 : Int), (0 : Int), (0 : Int), ((none, 0, 0) : Option Addr × Nat × Nat))).2.2.2).2.1) ((((mget k6 nflights4).getD ((0 : Int), (0 : Int), (0 : Int), ((none, 0, 0) : Option Addr × Nat × Nat))).2.2.2).2.2))]) h10 rfl rfl rfl (.cons 0 rfl (.cons 1 rfl (.cons 2 rfl (.cons 3 rfl .nil)))) ⟨fun _ _ => rfl, fun _ _ => rfl, fun _ _ => rfl, fun _ _ => rfl, trivial⟩ FRaw.sz60 (EffO.keep PIn.nil) fun w11 h11 => ?_
 simp only [List.cons_append, List.nil_append, List.set_cons_zero, List.set_cons_succ] at h11
 refine Plan.assign_bool rfl rfl ?_
 refine Plan.nil ?_
 refine hK8 _ _ ?_; clear hK8
 refine W.seq_k fun K12 hK12 => ?_
 refine W.seq_k fun K13 hK13 => ?_
 refine W.regionT [(0, true), (1, true)] (by kernel_rfl) ?_
 refine Plan.move_bool rfl rfl ?_
 refine Plan.not rfl rfl ?_
 refine Plan.nil ?_
 refine hK13 _ _ ?_; clear hK13
 by_cases hc14 : (mget k6 nflights4).isSome = true
 ·
   refine W.condF (congrArg Value.bool (congrArg Bool.not hc14)) ?_
   refine W.skip ?_
   refine hK12 _ _ ?_; clear hK12
   refine W.seq_k fun K15 hK15 => ?_
   refine W.regionT [(0, true), (1, true), (2, true), (3, true), (4, true), (5, true), (6, true), (7, false), (8, true), (9, true), (10, true), (11, true)] (by kernel_rfl) ?_
   refine Plan.move_ptr rfl rfl ?_
   refine Plan.fieldAddr 1 FRaw.fld60_1 rfl rfl ?_
   refine Plan.load0 h11 1 rfl rfl rfl (by omega) FRaw.sc3 ?_
   refine Plan.fieldAddr 2 FRaw.fld60_2 rfl rfl ?_
   refine Plan.load0 h11 2 rfl rfl rfl (by omega) FRaw.sc3 ?_
   refine Plan.fieldAddr 3 FRaw.fld60_3 rfl rfl ?_
   refine Plan.load0 h11 3 rfl rfl rfl (by omega) FRaw.sc23 ?_
   have h16 := St.pickT (C := [_, _, _, _, _, _, _, _]) h11 [4, 5, 6, 7, 0, 1, 2, 3] (by decide)
   simp only [pick, List.filterMap_cons, List.filterMap_nil, List.getElem?_cons_zero, List.getElem?_cons_succ, List.cons_append, List.nil_append] at h16
   refine Plan.call (vs := [.pointer (some ⟨bn_1, 0, none⟩), .int .i64 (((mget k6 nflights4).getD ((0 : Int), (0 : Int), (0 : Int), ((none, 0, 0) : Option Addr × Nat × Nat))).2.1), .int .i64 (((mget k6 nflights4).getD ((0 : Int), (0 : Int), (0 : Int), ((none, 0, 0) : Option Addr × Nat × Nat))).2.2.1), .slice ((((mget k6 nflights4).getD ((0 : Int), (0 : Int), (0 : Int), ((none, 0, 0) : Option Addr × Nat × Nat))).2.2.2).1) ((((mget k6 nflights4).getD ((0 : Int), (0 : Int), (0 : Int), ((none, 0, 0) : Option Addr × Nat × Nat))).2.2.2).2.1) ((((mget k6 nflights4).getD ((0 : Int), (0 : Int), (0 : Int), ((none, 0, 0) : Option Addr × Nat × Nat))).2.2.2).2.2)]) rfl FRaw.call66 rfl (net_Net_begin_raw (w0 := w0) (hrb.app [_, _, _, _]) hmost hov hlen (show St B (w0.on [mapR kvI D60 [] mnflights4 nflights4]) _ _ from h16)) ?_
   rintro _ w22 ⟨a9, p9, c9, F9, rfl, h22, ho9⟩
   refine ⟨_, rfl, .inr ⟨rfl, ?_⟩⟩
   refine Plan.extract_int rfl rfl rfl ?_
   refine Plan.extract_int rfl rfl rfl ?_
   refine Plan.assign_int rfl rfl ?_
   refine Plan.assign_int rfl rfl ?_
   refine Plan.nil ?_
   refine hK15 _ _ ?_; clear hK15
   refine W.ret (finR_ret ?_)
   have h99 := St.pickT (C := [_, _, _, _, _, _, _, _, _]) h22 [0, 1, 2, 3, 4] (by decide)
   simp only [pick, List.filterMap_cons, List.filterMap_nil, List.getElem?_cons_zero, List.getElem?_cons_succ, List.cons_append, List.nil_append] at h99
   refine RetOk.mk (.tmp_int rfl (.tmp_int rfl .nil)) ?_
   exact ⟨a9, p9, c9, F9, rfl, h99, ho9⟩
 ·
   exact absurd hk9 (by assumption)
set_option maxRecDepth 8000 in
set_option maxHeartbeats 1000000 in
theorem net_Net_Deliver_raw {B : Nat} {w0 : Base} {w : World} {L : List Rg} {bn_1 : Nat} {nnodes2 : Int} {nmost3 : Int} {nflights4 : List (Int × (Int × Int × Int × (Option Addr × Nat × Nat)))} {mnflights4 : Nat} {nnext5 : Int} {k6 : Int} {x9 : Int × Int × Int × (Option Addr × Nat × Nat)} (hk9 : mget k6 nflights4 = some x9) (HST : St B (w0.on [mapR kvI D60 [] mnflights4 nflights4]) (⟨some bn_1, 0, 1, fun _ => .int .i64 nnodes2, true⟩ :: ⟨some bn_1, 1, 1, fun _ => .int .i64 nmost3, true⟩ :: ⟨some bn_1, 2, 1, fun _ => .map (some mnflights4), true⟩ :: ⟨some bn_1, 3, 1, fun _ => .int .i64 nnext5, true⟩ :: L) w) :
   Calls Try.prog 34 #[.pointer (some ⟨bn_1, 0, none⟩), .int .i64 k6] w fun e w' => e = .returned (.tuple #[AG [(1, fun _ => .int .i64 x9.1), (1, fun _ => .int .i64 x9.2.1), (1, fun _ => .int .i64 x9.2.2.1), (1, fun _ => .slice x9.2.2.2.1 x9.2.2.2.2.1 x9.2.2.2.2.2)], VN 0]) ∧ St B (w0.on [mapR kvI D60 [] mnflights4 (mdel k6 nflights4)]) (⟨some bn_1, 0, 1, fun _ => .int .i64 nnodes2, true⟩ :: ⟨some bn_1, 1, 1, fun _ => .int .i64 nmost3, true⟩ :: ⟨some bn_1, 2, 1, fun _ => .map (some mnflights4), true⟩ :: ⟨some bn_1, 3, 1, fun _ => .int .i64 nnext5, true⟩ :: L) w' := by
 refine W.enter 26 Try.func34 rfl rfl rfl ?_
 obtain rfl : x9 = ((mget k6 nflights4).getD ((0 : Int), (0 : Int), (0 : Int), ((none, 0, 0) : Option Addr × Nat × Nat))) := by rw [hk9]; rfl
 refine W.seq_k fun K7 hK7 => ?_
 refine W.regionT [(0, false), (1, true)] (by kernel_rfl) ?_
 refine Plan.alloc HST rfl FRaw.z60 PIn.nil fun b8 w8 hb8 h8 => ?_
 simp only [rngs, Nat.zero_add, Nat.reduceAdd, List.cons_append, List.nil_append] at h8
 refine Plan.assign_int rfl rfl ?_
 refine Plan.nil ?_
 refine hK7 _ _ ?_; clear hK7
 refine W.seq_k fun K9 hK9 => ?_
 refine W.regionT [(0, true), (1, true), (2, true), (3, true), (4, true), (5, false), (6, true), (7, true), (8, true), (9, false), (10, false), (11, true)] (by kernel_rfl) ?_
 refine Plan.move_ptr rfl rfl ?_
 refine Plan.nilCheck rfl rfl ?_
 refine Plan.fieldAddr 2 FRaw.fld127_2 rfl rfl ?_
 refine Plan.load0 h8 6 rfl rfl rfl (by omega) FRaw.sc125 ?_
 refine Plan.move_int rfl rfl ?_
 refine Plan.lookupM (w0 := w0) (D := D60) (N := [mapR kvI D60 [] mnflights4 nflights4]) (X := nflights4) (k := k6) h8 0 FRaw.key3 FRaw.mapt125 rfl () ((0 : Int), (0 : Int), (0 : Int), ((none, 0, 0) : Option Addr × Nat × Nat)) FRaw.zM60 trivial rfl rfl rfl (by exact (EffO.wait rfl)) fun b10 w10 hs10 h10 => ?_
 refine Plan.move_tuple rfl rfl ?_
 refine Plan.extract_agg rfl rfl rfl ?_
 refine Plan.extract_bool rfl rfl rfl ?_
 refine Plan.alloc h10 rfl FRaw.z60 PIn.nil fun b11 w11 hb11 h11 => ?_
 simp only [rngs, Nat.zero_add, Nat.reduceAdd, List.cons_append, List.nil_append] at h11
 refine Plan.storeP (ps := [(1, fun _ => .int .i64 (((mget k6 nflights4).getD ((0 : Int), (0 : Int), (0 : Int), ((none, 0, 0) : Option Addr × Nat × Nat))).1)), (1, fun _ => .int .i64 (((mget k6 nflights4).getD ((0 : Int), (0 : Int), (0 : Int), ((none, 0, 0) : Option Addr × Nat × Nat))).2.1)), (1, fun _ => .int .i64 (((mget k6 nflights4).getD ((0 : Int), (0 : Int), (0 : Int), ((none, 0, 0) : Option Addr × Nat × Nat))).2.2.1)), (1, fun _ => .slice (((mget k6 nflights4).getD ((0 : Int), (0 : Int), (0 : Int), ((none, 0, 0) : Option Addr × Nat × Nat))).2.2.2.1) (((mget k6 nflights4).getD ((0 : Int), (0 : Int), (0 : Int), ((none, 0, 0) : Option Addr × Nat × Nat))).2.2.2.2.1) (((mget k6 nflights4).getD ((0 : Int), (0 : Int), (0 : Int), ((none, 0, 0) : Option Addr × Nat × Nat))).2.2.2.2.2))]) h11 rfl rfl rfl (.cons 0 rfl (.cons 1 rfl (.cons 2 rfl (.cons 3 rfl .nil)))) ⟨fun _ _ => rfl, fun _ _ => rfl, fun _ _ => rfl, fun _ _ => rfl, trivial⟩ FRaw.sz60 (EffO.keep PIn.nil) fun w12 h12 => ?_
 simp only [List.cons_append, List.nil_append, List.set_cons_zero, List.set_cons_succ] at h12
 refine Plan.assign_bool rfl rfl ?_
 refine Plan.nil ?_
 refine hK9 _ _ ?_; clear hK9
 refine W.seq_k fun K13 hK13 => ?_
 refine W.seq_k fun K14 hK14 => ?_
 refine W.regionT [(0, true), (1, true)] (by kernel_rfl) ?_
 refine Plan.move_bool rfl rfl ?_
 refine Plan.not rfl rfl ?_
 refine Plan.nil ?_
 refine hK14 _ _ ?_; clear hK14
 by_cases hc15 : (mget k6 nflights4).isSome = true
 ·
   refine W.condF (congrArg Value.bool (congrArg Bool.not hc15)) ?_
   refine W.skip ?_
   refine hK13 _ _ ?_; clear hK13
   refine W.seq_k fun K16 hK16 => ?_
   refine W.regionT [(0, true), (1, true), (2, true), (3, true), (4, true), (5, false)] (by kernel_rfl) ?_
   refine Plan.move_ptr rfl rfl ?_
   refine Plan.nilCheck rfl rfl ?_
   refine Plan.fieldAddr 2 FRaw.fld127_2 rfl rfl ?_
   refine Plan.load0 h12 10 rfl rfl rfl (by omega) FRaw.sc125 ?_
   refine Plan.move_int rfl rfl ?_
   refine Plan.delM (w0 := w0) (N := [mapR kvI D60 [] mnflights4 nflights4]) (k := k6) h12 0 FRaw.key3 FRaw.mapt125 rfl rfl rfl rfl (by exact (EffO.wait rfl)) fun w17 h17 => ?_
   simp only [List.set_cons_zero, List.set_cons_succ] at h17
   refine Plan.nil ?_
   refine hK16 _ _ ?_; clear hK16
   refine W.seq_k fun K18 hK18 => ?_
   refine W.regionT [(0, true), (1, false), (2, true)] (by kernel_rfl) ?_
   refine Plan.loadA h17 rfl rfl (.cons 0 rfl (.cons 1 rfl (.cons 2 rfl (.cons 3 rfl .nil)))) FRaw.agg60 ?_
   refine Plan.storeP (ps := [(1, fun _ => .int .i64 (((mget k6 nflights4).getD ((0 : Int), (0 : Int), (0 : Int), ((none, 0, 0) : Option Addr × Nat × Nat))).1)), (1, fun _ => .int .i64 (((mget k6 nflights4).getD ((0 : Int), (0 : Int), (0 : Int), ((none, 0, 0) : Option Addr × Nat × Nat))).2.1)), (1, fun _ => .int .i64 (((mget k6 nflights4).getD ((0 : Int), (0 : Int), (0 : Int), ((none, 0, 0) : Option Addr × Nat × Nat))).2.2.1)), (1, fun _ => .slice (((mget k6 nflights4).getD ((0 : Int), (0 : Int), (0 : Int), ((none, 0, 0) : Option Addr × Nat × Nat))).2.2.2.1) (((mget k6 nflights4).getD ((0 : Int), (0 : Int), (0 : Int), ((none, 0, 0) : Option Addr × Nat × Nat))).2.2.2.2.1) (((mget k6 nflights4).getD ((0 : Int), (0 : Int), (0 : Int), ((none, 0, 0) : Option Addr × Nat × Nat))).2.2.2.2.2))]) h17 rfl rfl rfl (.cons 4 rfl (.cons 5 rfl (.cons 6 rfl (.cons 7 rfl .nil)))) ⟨fun _ _ => rfl, fun _ _ => rfl, fun _ _ => rfl, fun _ _ => rfl, trivial⟩ FRaw.sz60 (EffO.wait rfl) fun w19 h19 => ?_
   simp only [List.cons_append, List.nil_append, List.set_cons_zero, List.set_cons_succ] at h19
   refine Plan.assign_int rfl rfl ?_
   refine Plan.nil ?_
   refine hK18 _ _ ?_; clear hK18
   refine W.ret (finR_ret ?_)
   have h21 := St.pickT (C := [_, _, _, _, _, _, _, _, _, _, _, _]) h19 [8, 9, 10, 11] (by decide)
   simp only [pick, List.filterMap_cons, List.filterMap_nil, List.getElem?_cons_zero, List.getElem?_cons_succ, List.cons_append, List.nil_append] at h21
   refine RetOk.mk (.agg h19 rfl (.cons 4 rfl (.cons 5 rfl (.cons 6 rfl (.cons 7 rfl .nil)))) FRaw.agg60 (.tmp_int rfl .nil)) ?_
   exact ⟨rfl, h21⟩
 ·
   exact absurd (show (mget k6 nflights4).isSome = true by rw [hk9]; rfl) (by assumption)
set_option maxRecDepth 8000 in
set_option maxHeartbeats 1000000 in
theorem net_Net_Flights_raw {B : Nat} {w0 : Base} {w : World} {L : List Rg} {bn_1 : Nat} {nnodes2 : Int} {nmost3 : Int} {nflights4 : List (Int × (Int × Int × Int × (Option Addr × Nat × Nat)))} {mnflights4 : Nat} {nnext5 : Int} (by9 : Rw → List Byte) (hX9 : nflights4.length ≤ 1000) (hB9 : ∀ p ∈ nflights4, ∃ i, Bx L i p.2.2.2.2.1 p.2.2.2.2.2.1 p.2.2.2.2.2.2 (by9 p.2)) (hlen9 : ∀ p ∈ nflights4, (by9 p.2).length ≤ 140737488355328) {E9 : List Vl} (hE9 : E9.Pairwise fun x y => x.1 < y.1) (hEp9 : (nflights4.map fun p => (p.2.1, p.2.2.1, p.2.2.2.1, by9 p.2)).Perm E9) (HST : St B (w0.on [mapR kvI D60 [] mnflights4 nflights4]) (⟨some bn_1, 0, 1, fun _ => .int .i64 nnodes2, true⟩ :: ⟨some bn_1, 1, 1, fun _ => .int .i64 nmost3, true⟩ :: ⟨some bn_1, 2, 1, fun _ => .map (some mnflights4), true⟩ :: ⟨some bn_1, 3, 1, fun _ => .int .i64 nnext5, true⟩ :: L) w) :
   Calls Try.prog 32 #[.pointer (some ⟨bn_1, 0, none⟩)] w fun e w' => ∃ (RS : List Rg) (H : List Rw) (a : Option Addr) (p : Option Nat) (n c : Nat) (F : Nat → Value), e = .returned (.slice a n c) ∧ St B (w0.on [mapR kvI D60 [] mnflights4 nflights4]) (⟨p, 0, c * 4, F, true⟩ :: ⟨some bn_1, 0, 1, fun _ => .int .i64 nnodes2, true⟩ :: ⟨some bn_1, 1, 1, fun _ => .int .i64 nmost3, true⟩ :: ⟨some bn_1, 2, 1, fun _ => .map (some mnflights4), true⟩ :: ⟨some bn_1, 3, 1, fun _ => .int .i64 nnext5, true⟩ :: (RS ++ L)) w' ∧ LO D60 [] a p n c F H ∧ OwnsL E9 H RS := by
 refine W.enter 26 Try.func32 rfl rfl rfl ?_
 obtain ⟨stp, QF, hR, hst, hQF⟩ := range_fl nflights4 (fun x => (x.1, x.2.1, x.2.2.1, by9 x)) hX9
 refine W.seq_k fun K6 hK6 => ?_
 refine W.regionT [(0, true)] (by kernel_rfl) ?_
 refine Plan.assign_slice rfl rfl ?_
 refine Plan.nil ?_
 refine hK6 _ _ ?_; clear hK6
 refine W.seq_k fun K7 hK7 => ?_
 refine W.regionT [(0, true)] (by kernel_rfl) ?_
 refine Plan.assign_slice rfl rfl ?_
 refine Plan.nil ?_
 refine hK7 _ _ ?_; clear hK7
 refine W.seq_k fun K8 hK8 => ?_
 refine W.seq_k fun K9 hK9 => ?_
 refine W.regionT [(0, true), (1, true), (2, true), (3, true), (4, false)] (by kernel_rfl) ?_
 refine Plan.move_ptr rfl rfl ?_
 refine Plan.nilCheck rfl rfl ?_
 refine Plan.fieldAddr 2 FRaw.fld127_2 rfl rfl ?_
 refine Plan.load0 HST 2 rfl rfl rfl (by omega) FRaw.sc125 ?_
 refine Plan.rangeM (w0 := w0) (N := [mapR kvI D60 [] mnflights4 nflights4]) HST 0 FRaw.mapt125 rfl rfl rfl (by exact (EffO.wait rfl)) fun r10 Z10 c10 w10 hz10 h10 => ?_
 simp only [List.set_cons_zero, List.set_cons_succ] at h10
 refine Plan.nil ?_
 refine hK9 _ _ ?_; clear hK9
 have h53 : St B (w0.on [itR kvI D60 r10 mnflights4 Z10 c10 Z10, mapX kvI D60 [] mnflights4 nflights4 Z10 c10]) (⟨none, 0, 0 * 4, fun _ => undef, true⟩ :: _) _ := h10.nilE (fun _ => undef)
 rw [← hz10.hX] at hR
 obtain ⟨Q52, hQ52⟩ : ∃ Q : List Vl → Prop, RangeR _ Q _ _ _ ∧ Q = _ := ⟨_, hR, rfl⟩; clear hR
 refine W.cutN (fun e w => ∃ s52 : List Vl, Q52 s52 ∧ ∃ n_out50 : Nat, ∃ aout50 : Option Addr, ∃ pout50 : Option Nat, ∃ cout50 : Nat, ∃ Fout50 : Nat → Value, ∃ RS9 : List Rg, ∃ out50 : List Rw, EnvHas e [(3, .slice aout50 n_out50 cout50), (10, .pointer (some ⟨r10, 0, none⟩))] ∧ St B (w0.on [itR kvI D60 r10 mnflights4 Z10 c10 ([] : List (ZE Int D60)), mapX kvI D60 [] mnflights4 nflights4 Z10 c10]) (⟨pout50, 0, cout50 * 4, Fout50, true⟩ :: ⟨some bn_1, 0, 1, fun _ => .int .i64 nnodes2, true⟩ :: ⟨some bn_1, 1, 1, fun _ => .int .i64 nmost3, true⟩ :: ⟨some bn_1, 2, 1, fun _ => .map (some mnflights4), true⟩ :: ⟨some bn_1, 3, 1, fun _ => .int .i64 nnext5, true⟩ :: (RS9 ++ L)) w ∧ LO D60 [] aout50 pout50 n_out50 cout50 Fout50 out50 ∧ OwnsL s52.reverse out50.reverse RS9) ?_ ?_
 ·
   refine W.block ?_
   refine W.range hQ52.1 (fun (Y52 : List (ZE Int D60)) (s52 : List Vl) e w => ∃ n_out50 : Nat, ∃ aout50 : Option Addr, ∃ pout50 : Option Nat, ∃ cout50 : Nat, ∃ Fout50 : Nat → Value, ∃ RS9 : List Rg, ∃ out50 : List Rw, EnvHas e [(3, .slice aout50 n_out50 cout50), (10, .pointer (some ⟨r10, 0, none⟩))] ∧ St B (w0.on [itR kvI D60 r10 mnflights4 Z10 c10 Y52, mapX kvI D60 [] mnflights4 nflights4 Z10 c10]) (⟨pout50, 0, cout50 * 4, Fout50, true⟩ :: ⟨some bn_1, 0, 1, fun _ => .int .i64 nnodes2, true⟩ :: ⟨some bn_1, 1, 1, fun _ => .int .i64 nmost3, true⟩ :: ⟨some bn_1, 2, 1, fun _ => .map (some mnflights4), true⟩ :: ⟨some bn_1, 3, 1, fun _ => .int .i64 nnext5, true⟩ :: (RS9 ++ L)) w ∧ LO D60 [] aout50 pout50 n_out50 cout50 Fout50 out50 ∧ OwnsL s52.reverse out50.reverse RS9) ⟨0, none, none, 0, (fun _ => undef), [], [], (EnvHas.cons rfl (EnvHas.cons rfl EnvHas.nil)), h53, LO.nil, .nil⟩ ?_
   clear hQ52
   rintro Y52 s52 hR ev54 wl54 ⟨n_out50, aout50, pout50, cout50, Fout50, RS9, out50, he54, h54, hout50, how9⟩
   obtain rfl : List.length (α := (Int × Int × Int × (Option Addr × Nat × Nat))) out50 = n_out50 := hout50.hl
   obtain ⟨ev54, rfl⟩ := he54.open
   refine W.seq_k fun K55 hK55 => ?_
   refine W.regionT [(0, false), (1, true)] (by kernel_rfl) ?_
   refine Plan.nextM (w0 := w0) (D := D60) (N := [itR kvI D60 r10 mnflights4 Z10 c10 Y52, mapX kvI D60 [] mnflights4 nflights4 Z10 c10]) h54 0 1 rfl rfl rfl rfl (by exact (EffO.keep PIn.nil)) (fun hy56 w56 h56 => ?_) ?_
   ·
     replace hR := hR.nil (by rw [hy56]; rfl)
     subst hy56
     refine Plan.extract_bool rfl rfl rfl ?_
     refine Plan.nil ?_
     refine hK55 _ _ ?_; clear hK55
     refine W.seq_k fun K58 hK58 => ?_
     refine W.condF rfl ?_
     refine W.exit (thenR_exit (rangeQ_exit (blockR_here ?_)))
     exact ⟨s52, hR, out50.length, aout50, pout50, cout50, Fout50, RS9, out50, (EnvHas.cons rfl (EnvHas.cons rfl EnvHas.nil)), h56, hout50, how9⟩
   ·
     rintro q57 ⟨bo57, kx57, b57, vx57⟩ hq57 w56 h56
     simp only [List.set_cons_zero, List.set_cons_succ] at h56
     obtain ⟨o52, hR, hrest57⟩ := hR.cons (i := q57) (p := (kx57, vx57)) (by rw [List.getElem?_map, hq57]; rfl)
     obtain ⟨hmem9, hsl9, rfl⟩ := hst _ _ _ hR
     have hol9 : out50.length = s52.length := by have := how9.length; simpa using this
     obtain ⟨irb, hrb0⟩ := hB9 _ hmem9
     have hbl9 := hrb0.hl
     have hbm9 := hlen9 _ hmem9
     have hrb := (hrb0.app RS9)
     refine Plan.extract_bool rfl rfl rfl ?_
     refine Plan.nil ?_
     refine hK55 _ _ ?_; clear hK55
     refine W.seq_k fun K59 hK59 => ?_
     refine W.condT rfl ?_
     refine W.skip ?_
     refine hK59 _ _ ?_; clear hK59
     refine W.block ?_
     refine W.seq_k fun K60 hK60 => ?_
     refine W.regionT [(0, false), (1, true), (2, false), (3, false)] (by kernel_rfl) ?_
     refine Plan.entryM (w0 := w0) (D := D60) (N := [itE kvI D60 r10 mnflights4 Z10 c10 (Y52.eraseIdx q57) (bo57, kx57, b57, vx57), mapX kvI D60 [] mnflights4 nflights4 Z10 c10]) h56 0 1 rfl rfl rfl rfl (by exact (EffO.keep PIn.nil)) fun w61 hs57 h61 => ?_
     simp only [List.set_cons_zero, List.set_cons_succ] at h61
     refine Plan.extract_agg rfl rfl rfl ?_
     refine Plan.alloc h61 rfl FRaw.z60 PIn.nil fun b62 w62 hb62 h62 => ?_
     simp only [rngs, Nat.zero_add, Nat.reduceAdd, List.cons_append, List.nil_append] at h62
     refine Plan.storeP (ps := [(1, fun _ => .int .i64 vx57.1), (1, fun _ => .int .i64 vx57.2.1), (1, fun _ => .int .i64 vx57.2.2.1), (1, fun _ => .slice ((vx57.2.2.2).1) ((vx57.2.2.2).2.1) ((vx57.2.2.2).2.2))]) h62 rfl rfl rfl (.cons 0 rfl (.cons 1 rfl (.cons 2 rfl (.cons 3 rfl .nil)))) ⟨fun _ _ => rfl, fun _ _ => rfl, fun _ _ => rfl, fun _ _ => rfl, trivial⟩ FRaw.sz60 (EffO.keep PIn.nil) fun w63 h63 => ?_
     simp only [List.cons_append, List.nil_append, List.set_cons_zero, List.set_cons_succ] at h63
     refine Plan.nil ?_
     refine hK60 _ _ ?_; clear hK60
     refine W.seq_k fun K64 hK64 => ?_
     refine W.regionT [(0, true), (1, true), (2, false), (3, true), (4, false)] (by kernel_rfl) ?_
     refine Plan.fieldAddr 3 FRaw.fld60_3 rfl rfl ?_
     refine Plan.load0 h63 3 rfl rfl rfl (by omega) FRaw.sc23 ?_
     have h65 := h63.nilR
     have hc67 : 0 + (vx57.2.2.2).2.1 ≤ 140737488355328 := by dsimp only at hbl9 hbm9; omega
     refine Plan.appendO (X := ([] : List Byte)) (Y := (by9 vx57)) h65 0 Ow.nil FRaw.el23 FRaw.sl23 rfl rfl rfl rfl (hrb.app [_, _, _, _, _, _, _, _, _, _]) hc67 (fun _ => EffO.wait rfl) fun a66 pb66 cap66 F66 w66 ho66 h66 => ?_
     simp only [List.cons_append, List.nil_append, List.set_cons_zero, List.set_cons_succ] at h66
     refine Plan.fieldAddr 3 FRaw.fld60_3 rfl rfl ?_
     refine Plan.storeC h66 4 rfl rfl rfl rfl rfl FRaw.sz23 rfl fun w68 h68 => ?_
     simp only [List.cons_append, List.nil_append, List.set_cons_zero, List.set_cons_succ] at h68
     refine Plan.nil ?_
     refine hK64 _ _ ?_; clear hK64
     refine W.regionT [(0, true), (1, true), (2, false), (3, false), (4, true)] (by kernel_rfl) ?_
     refine Plan.move_slice rfl rfl ?_
     refine Plan.loadA h68 rfl rfl (.cons 1 rfl (.cons 2 rfl (.cons 3 rfl (.cons 4 rfl .nil)))) FRaw.agg60 ?_
     refine Plan.buildLO (D := D60) (sz := 4) h68 [((), (vx57.1, vx57.2.1, vx57.2.2.1, ((a66, (([] : List Byte) ++ (by9 vx57)).length, cap66) : Option Addr × Nat × Nat)))] FRaw.slu57 FRaw.sz60 FRaw.zv60 (by decide) (by decide) rfl rfl rfl rfl (fun _ _ => trivial) (EffO.wait rfl) fun b70 w70 F70 hb70 ho70 h70 => ?_
     replace ho70 : LO D60 [] (some ⟨b70, 0, none⟩) (some b70) ([(vx57.1, vx57.2.1, vx57.2.2.1, ((a66, (([] : List Byte) ++ (by9 vx57)).length, cap66) : Option Addr × Nat × Nat))] : List (Int × Int × Int × (Option Addr × Nat × Nat))).length 1 F70 ([(vx57.1, vx57.2.1, vx57.2.2.1, ((a66, (([] : List Byte) ++ (by9 vx57)).length, cap66) : Option Addr × Nat × Nat))] : List (Int × Int × Int × (Option Addr × Nat × Nat))) := ho70.re (fun _ _ h => h)
     have hc72 : (out50.length + ([(vx57.1, vx57.2.1, vx57.2.2.1, ((a66, (([] : List Byte) ++ (by9 vx57)).length, cap66) : Option Addr × Nat × Nat))] : List (Int × Int × Int × (Option Addr × Nat × Nat))).length) * 48 ≤ 140737488355328 ∧ out50.length + ([(vx57.1, vx57.2.1, vx57.2.2.1, ((a66, (([] : List Byte) ++ (by9 vx57)).length, cap66) : Option Addr × Nat × Nat))] : List (Int × Int × Int × (Option Addr × Nat × Nat))).length < 9223372036854775808 := ⟨by show (out50.length + 1) * 48 ≤ _; omega, by show out50.length + 1 < _; omega⟩
     refine Plan.appendLO (D := D60) (X := out50) (Y := ([(vx57.1, vx57.2.1, vx57.2.2.1, ((a66, (([] : List Byte) ++ (by9 vx57)).length, cap66) : Option Addr × Nat × Nat))] : List (Int × Int × Int × (Option Addr × Nat × Nat)))) (sz := 4) h70 () ((0 : Int), (0 : Int), (0 : Int), ((none, 0, 0) : Option Addr × Nat × Nat)) 6 hout50 rfl FRaw.el57 rfl FRaw.slu57 rfl rfl rfl rfl (LO.lvf D60_flat ho70 0 rfl) (fun _ _ h => h) hc72.1 hc72.2 (fun _ => EffO.keep PIn.nil) fun a71 pb71 cap71 F71 w71 ho71 h71 => ?_
     simp only [List.cons_append, List.nil_append, List.set_cons_zero, List.set_cons_succ] at h71
     replace ho71 : LO D60 [] a71 pb71 (out50 ++ ([(vx57.1, vx57.2.1, vx57.2.2.1, ((a66, (([] : List Byte) ++ (by9 vx57)).length, cap66) : Option Addr × Nat × Nat))] : List (Int × Int × Int × (Option Addr × Nat × Nat)))).length cap71 F71 (out50 ++ ([(vx57.1, vx57.2.1, vx57.2.2.1, ((a66, (([] : List Byte) ++ (by9 vx57)).length, cap66) : Option Addr × Nat × Nat))] : List (Int × Int × Int × (Option Addr × Nat × Nat)))) := ho71.re (fun _ _ h => h)
     refine Plan.assign_slice rfl rfl ?_
     refine Plan.nil ?_
     refine blockR_norm ?_
     have h73 := St.pickT (C := [_, _, _, _, _, _, _, _, _, _, _]) h71 [6, 7, 8, 9, 10, 1] (by decide)
     simp only [pick, List.filterMap_cons, List.filterMap_nil, List.getElem?_cons_zero, List.getElem?_cons_succ, List.cons_append, List.nil_append] at h73
     exact rangeQ_norm hq57 hrest57 ⟨(out50 ++ ([(vx57.1, vx57.2.1, vx57.2.2.1, ((a66, (([] : List Byte) ++ (by9 vx57)).length, cap66) : Option Addr × Nat × Nat))] : List (Int × Int × Int × (Option Addr × Nat × Nat)))).length, a71, pb71, cap71, F71, (⟨pb66, 0, cap66, fun q => VU .u8 (F66 q), true⟩ :: RS9), _, (EnvHas.cons rfl (EnvHas.cons rfl EnvHas.nil)), h73, ho71, by
       rw [List.reverse_append, List.reverse_append]
       exact .cons ⟨a66, pb66, cap66, F66, by simp, rfl, by simpa using ho66⟩ how9⟩
 ·
   rintro ev74 wl74 ⟨s52, hR, n_out50, aout50, pout50, cout50, Fout50, RS9, out50, he74, h74, hout50, how9⟩
   rw [hQ52.2] at hR; clear hQ52
   have hpm9 := hQF _ hR; clear hR
   have hol9 : out50.length = s52.length := by have := how9.length; simpa using this
   have hsl9 : s52.length = nflights4.length := by have := hpm9.length_eq; simpa using this
   try dsimp only at he74 h74 hout50
   obtain rfl : List.length (α := (Int × Int × Int × (Option Addr × Nat × Nat))) out50 = n_out50 := hout50.hl
   obtain ⟨ev74, rfl⟩ := he74.open
   have h75 : St B (w0.on [itR kvI D60 r10 mnflights4 Z10 c10 ([] : List (ZE Int D60)), mapR kvI D60 [] mnflights4 nflights4]) _ _ := St.unfixM h74 (i := 1) rfl
   have h76 : St B (w0.on [mapR kvI D60 [] mnflights4 nflights4]) _ _ := St.mpick (N := [itR kvI D60 r10 mnflights4 Z10 c10 ([] : List (ZE Int D60)), mapR kvI D60 [] mnflights4 nflights4]) (N' := [mapR kvI D60 [] mnflights4 nflights4]) h75 [1] (by decide) rfl
   refine hK8 _ _ ?_; clear hK8
   refine W.seq_k fun K77 hK77 => ?_
   refine W.regionT [(0, true), (1, false)] (by kernel_rfl) ?_
   refine Plan.move_slice rfl rfl ?_
   have hc80 : out50.length < 4611686018427387904 := by omega
   obtain ⟨cf78, hcfe9⟩ : ∃ z, z = cfR := ⟨_, rfl⟩
   have hcf78 : ∀ x y : Rw, net_Net_Flights_1 x.1 x.2.1 x.2.2.1 x.2.2.2 y.1 y.2.1 y.2.2.1 y.2.2.2 (cf78 x y) := by rw [hcfe9]; exact cfR_ok
   have hsw78 : Sort.SWO (Proofs.ltOf cf78) := by rw [hcfe9]; exact cfR_swo
   refine Plan.call (vs := [.slice aout50 out50.length cout50, .func (.func 68) #[] #[]]) rfl FRaw.call67 rfl (sortFn_ok (D := D60) (L0 := []) sortL67 Try.isAgg60 Try.sizeOf60 (enters_of Try.func68 (by kernel_rfl) rfl) h76 hout50 (kk := 0) rfl cf78 hsw78 (fun _ _ => rfl) (fun B w0 L' w b1 x1 b2 x2 hs _ _ => net_Net_Flights_1_ok (hcf78 x1 x2) hs) (fun _ _ _ hs => D60_flat _ _ _ _ hs) hc80 (by decide)) ?_
   rintro _ w79 ⟨rfl, so78, F79, hp78, hq78, ho79, h79⟩
   simp only [List.cons_append, List.nil_append, List.set_cons_zero, List.set_cons_succ] at h79
   subst hcfe9
   obtain ⟨RS8, hpr9, hown9⟩ := OwnsL.sorted (how9.rev) hE9 (hpm9.trans hEp9) hp78 hq78
   have e79 : so78.length = out50.length := hp78.length_eq
   refine ⟨_, rfl, .inl ⟨PIn.keep (by exact PIn.nil) h79, ?_⟩⟩
   refine Plan.nil ?_
   refine hK77 _ _ ?_; clear hK77
   refine W.seq_k fun K81 hK81 => ?_
   refine W.regionT [(0, true), (1, true)] (by kernel_rfl) ?_
   refine Plan.move_slice rfl rfl ?_
   refine Plan.assign_slice rfl rfl ?_
   refine Plan.nil ?_
   refine hK81 _ _ ?_; clear hK81
   refine W.ret (finR_ret ?_)
   refine RetOk.mk (.tmp_slice rfl .nil) ?_
   refine ⟨RS8, _, aout50, pout50, out50.length, cout50, F79, rfl, ?_, ho79, hown9⟩
   refine h79.perm ?_
   exact List.Perm.cons _ (List.Perm.cons _ (List.Perm.cons _ (List.Perm.cons _ (List.Perm.cons _ (((List.reverse_perm RS9).symm.trans hpr9.symm).append_right L)))))
end Go.Proofs.Ytbkgblhmlenocaa
namespace Go.Proofs.Ytbkgblhmlenocaa
set_option linter.unusedSimpArgs false
set_option linter.unusedVariables false
set_option linter.unusedSectionVars false
open Go Go.LW
set_option linter.unusedVariables false
theorem cells1 {B : Nat} {w0 : Base} {w : World} {L : List Rg} {p : Option Nat} {o m : Nat} {F : Nat → Value} (h : St B w0 (⟨p, o, m + 1, F, true⟩ :: L) w) : St B w0 (⟨p, o, 1, fun _ => F 0, true⟩ :: ⟨p, o + 1, m, fun q => F (q + 1), true⟩ :: L) w := by
 have h1 := h.at_ _ List.mem_cons_self
 have h2 := h.free _ List.mem_cons_self
 obtain ⟨h3, h4⟩ := List.pairwise_cons.1 h.apart
 refine ⟨h.below, h.base, fun r hr => ?_, fun r hr => ?_, List.pairwise_cons.2 ⟨fun s hs => ?_, List.pairwise_cons.2 ⟨fun s hs => ?_, h4⟩⟩⟩
 · rcases List.mem_cons.1 hr with rfl | hr
   · intro j hj
     obtain rfl : j = 0 := by simp only at hj; omega
     exact h1 0 (by first | omega | (simp only; omega))
   · rcases List.mem_cons.1 hr with rfl | hr
     · intro j hj
       obtain ⟨b, h5, h6⟩ := h1 (j + 1) (by simp only at hj ⊢; omega)
       exact ⟨b, h5, by simp only at h6 ⊢; rw [← h6]; congr 2; omega⟩
     · exact h.at_ r (List.mem_cons_of_mem _ hr)
 · rcases List.mem_cons.1 hr with rfl | hr
   · intro _ j hj
     obtain rfl : j = 0 := by simp only at hj; omega
     exact h2 rfl 0 (by first | omega | (simp only; omega))
   · rcases List.mem_cons.1 hr with rfl | hr
     · intro _ j hj
       obtain ⟨b, h5, h6, h7⟩ := h2 rfl (j + 1) (by simp only at hj ⊢; omega)
       exact ⟨b, h5, h6, by simp only at h7 ⊢; rw [← h7]; congr 2; omega⟩
     · exact h.free r (List.mem_cons_of_mem _ hr)
 · rcases List.mem_cons.1 hs with rfl | hs
   · intro _
     exact .inr (.inl (Nat.le_refl _))
   · intro hw
     have h6 := h3 s hs (.inl rfl)
     simp only at h6
     rcases h6 with h5 | h5 | h5 | h5 | h5
     · exact .inl h5
     · exact .inr (.inl (by first | omega | (simp only; omega)))
     · exact .inr (.inr (.inl h5))
     · omega
     · exact .inr (.inr (.inr (.inr h5)))
 · intro hw
   have h6 := h3 s hs (.inl rfl)
   simp only at h6
   rcases h6 with h5 | h5 | h5 | h5 | h5
   · exact .inl h5
   · exact .inr (.inl (by first | omega | (simp only; omega)))
   · exact .inr (.inr (.inl (by first | omega | (simp only; omega))))
   · omega
   · exact .inr (.inr (.inr (.inr h5)))
theorem cells12 {B : Nat} {w0 : Base} {w : World} {L : List Rg} {p : Option Nat} {m : Nat} {F : Nat → Value} (h : St B w0 (⟨p, 0, m, F, true⟩ :: L) w) (hm : 12 ≤ m) :
   St B w0 (⟨p, 0, 1, fun _ => F 0, true⟩ :: ⟨p, 1, 1, fun _ => F 1, true⟩ :: ⟨p, 2, 1, fun _ => F 2, true⟩ :: ⟨p, 3, 1, fun _ => F 3, true⟩ :: ⟨p, 4, 1, fun _ => F 4, true⟩ :: ⟨p, 5, 1, fun _ => F 5, true⟩ :: ⟨p, 6, 1, fun _ => F 6, true⟩ :: ⟨p, 7, 1, fun _ => F 7, true⟩ :: ⟨p, 8, 1, fun _ => F 8, true⟩ :: ⟨p, 9, 1, fun _ => F 9, true⟩ :: ⟨p, 10, 1, fun _ => F 10, true⟩ :: ⟨p, 11, 1, fun _ => F 11, true⟩ :: L) w := by
 obtain ⟨q, rfl⟩ : ∃ q, m = q + 12 := ⟨m - 12, by omega⟩
 have step : ∀ {C : List Rg} {o k : Nat} {G : Nat → Value}, St B w0 (⟨p, o, k + 1, G, true⟩ :: (C ++ L)) w → St B w0 (⟨p, o + 1, k, fun q => G (q + 1), true⟩ :: ((C ++ [⟨p, o, 1, fun _ => G 0, true⟩]) ++ L)) w := by
   intro C o k G h
   refine (cells1 h).perm ?_
   rw [List.append_assoc]
   refine (List.Perm.swap _ _ _).trans (List.Perm.cons _ ?_)
   exact List.perm_middle.symm
 have h12 := step (step (step (step (step (step (step (step (step (step (step (step (C := []) h)))))))))))
 exact h12.tl
theorem OwnsL.three {v0 v1 v2 : Vl} {H : List Rw} {RS : List Rg} (h : OwnsL [v0, v1, v2] H RS) : ∃ x0 x1 x2 r0 r1 r2, H = [x0, x1, x2] ∧ RS = [r0, r1, r2] ∧ owns v0 x0 r0 ∧ owns v1 x1 r1 ∧ owns v2 x2 r2 := by
 cases h with
 | cons h0 t =>
   cases t with
   | cons h1 t =>
     cases t with
     | cons h2 t => cases t; exact ⟨_, _, _, _, _, _, rfl, rfl, h0, h1, h2⟩
theorem D60_cells {F : Nat → Value} {j : Nat} {x : Rw} (h : D60.cells [] (fun k => F (j * 4 + k)) x) : F (j * 4) = .int .i64 x.1 ∧ F (j * 4 + 1) = .int .i64 x.2.1 ∧ F (j * 4 + 2) = .int .i64 x.2.2.1 ∧ F (j * 4 + 3) = .slice x.2.2.2.1 x.2.2.2.2.1 x.2.2.2.2.2 := by
 obtain ⟨b, -, h⟩ := h
 exact ⟨h 0 _ rfl, h 1 _ rfl, h 2 _ rfl, h 3 _ rfl⟩
section hd
variable {B : Nat} {w0 : Base} {w : World} {L : List Rg} {bn m : Nat} {nx : Int}
theorem net_Hd_New (HST : St B w0 L w) : Calls Try.prog 29 #[.int .i64 2, .int .i64 9] w fun e w' => ∃ bn m : Nat, e = .returned (.tuple #[.pointer (some ⟨bn, 0, none⟩), VN 0]) ∧ St B (w0.on [mapR kvI D60 [] m []]) (⟨some bn, 0, 1, fun _ => .int .i64 2, true⟩ :: ⟨some bn, 1, 1, fun _ => .int .i64 9, true⟩ :: ⟨some bn, 2, 1, fun _ => .map (some m), true⟩ :: ⟨some bn, 3, 1, fun _ => .int .i64 0, true⟩ :: L) w' := by
 have hR : net_New 2 9 (.inr (2, 9, [], 0, 0)) := by
   unfold net_New
   repeat (first | rw [if_neg (by decide)] | rfl | exact ⟨_, rfl⟩)
 refine (net_New_ok hR HST).mono ?_
 rintro e w' ⟨b, m, rfl, h⟩
 exact ⟨b, m, rfl, h⟩
theorem net_Hd_Flights {f0 t0 f1 t1 f2 t2 : Int} {A0 A1 A2 : Option Addr} {N0 N1 N2 C0 C1 C2 i0 i1 i2 : Nat} {b0 b1 b2 : List Byte} (h0 : Bx L i0 A0 N0 C0 b0) (h1 : Bx L i1 A1 N1 C1 b1) (h2 : Bx L i2 A2 N2 C2 b2)
   (hl0 : b0.length ≤ 140737488355328) (hl1 : b1.length ≤ 140737488355328) (hl2 : b2.length ≤ 140737488355328)
   (HST : St B (w0.on [mapR kvI D60 [] m [(0, (0, f0, t0, ((A0, N0, C0) : Option Addr × Nat × Nat))), (1, (1, f1, t1, ((A1, N1, C1) : Option Addr × Nat × Nat))), (2, (2, f2, t2, ((A2, N2, C2) : Option Addr × Nat × Nat)))]]) (⟨some bn, 0, 1, fun _ => .int .i64 2, true⟩ :: ⟨some bn, 1, 1, fun _ => .int .i64 9, true⟩ :: ⟨some bn, 2, 1, fun _ => .map (some m), true⟩ :: ⟨some bn, 3, 1, fun _ => .int .i64 nx, true⟩ :: L) w) :
   Calls Try.prog 32 #[.pointer (some ⟨bn, 0, none⟩)] w fun e w' => ∃ (P c : Nat) (a0 : Option Addr) (p0 : Option Nat) (c0 : Nat) (F0 : Nat → Byte) (a1 : Option Addr) (p1 : Option Nat) (c1 : Nat) (F1 : Nat → Byte) (a2 : Option Addr) (p2 : Option Nat) (c2 : Nat) (F2 : Nat → Byte), e = .returned (.slice (some ⟨P, 0, none⟩) 3 c) ∧
     St B (w0.on [mapR kvI D60 [] m [(0, (0, f0, t0, ((A0, N0, C0) : Option Addr × Nat × Nat))), (1, (1, f1, t1, ((A1, N1, C1) : Option Addr × Nat × Nat))), (2, (2, f2, t2, ((A2, N2, C2) : Option Addr × Nat × Nat)))]])
       (⟨some P, 0, 1, fun _ => .int .i64 0, true⟩ :: ⟨some P, 1, 1, fun _ => .int .i64 f0, true⟩ :: ⟨some P, 2, 1, fun _ => .int .i64 t0, true⟩ :: ⟨some P, 3, 1, fun _ => .slice a0 b0.length c0, true⟩ ::
        ⟨some P, 4, 1, fun _ => .int .i64 1, true⟩ :: ⟨some P, 5, 1, fun _ => .int .i64 f1, true⟩ :: ⟨some P, 6, 1, fun _ => .int .i64 t1, true⟩ :: ⟨some P, 7, 1, fun _ => .slice a1 b1.length c1, true⟩ ::
        ⟨some P, 8, 1, fun _ => .int .i64 2, true⟩ :: ⟨some P, 9, 1, fun _ => .int .i64 f2, true⟩ :: ⟨some P, 10, 1, fun _ => .int .i64 t2, true⟩ :: ⟨some P, 11, 1, fun _ => .slice a2 b2.length c2, true⟩ ::
        ⟨p0, 0, c0, fun q => VU .u8 (F0 q), true⟩ :: ⟨p1, 0, c1, fun q => VU .u8 (F1 q), true⟩ :: ⟨p2, 0, c2, fun q => VU .u8 (F2 q), true⟩ ::
        ⟨some bn, 0, 1, fun _ => .int .i64 2, true⟩ :: ⟨some bn, 1, 1, fun _ => .int .i64 9, true⟩ :: ⟨some bn, 2, 1, fun _ => .map (some m), true⟩ :: ⟨some bn, 3, 1, fun _ => .int .i64 nx, true⟩ :: L) w' ∧
     Ow a0 p0 b0.length c0 F0 b0 ∧ Ow a1 p1 b1.length c1 F1 b1 ∧ Ow a2 p2 b2.length c2 F2 b2 := by
 refine (net_Net_Flights_raw (fun r : Rw => if r.1 = 0 then b0 else if r.1 = 1 then b1 else b2) ?_ (fun p hp => ?_) (fun p hp => ?_) (E9 := [(0, f0, t0, b0), (1, f1, t1, b1), (2, f2, t2, b2)]) ?_ ?_ HST).mono ?_
 · exact (by decide : 3 ≤ 1000)
 · rcases List.mem_cons.1 hp with rfl | hp
   · exact ⟨i0, h0⟩
   · rcases List.mem_cons.1 hp with rfl | hp
     · exact ⟨i1, h1⟩
     · rcases List.mem_cons.1 hp with rfl | hp
       · exact ⟨i2, h2⟩
       · cases hp
 · rcases List.mem_cons.1 hp with rfl | hp
   · exact hl0
   · rcases List.mem_cons.1 hp with rfl | hp
     · exact hl1
     · rcases List.mem_cons.1 hp with rfl | hp
       · exact hl2
       · cases hp
 · simp
 · exact .refl _
 · rintro e w' ⟨RS, H, a, p, n, c, F, rfl, h, hlo, hown⟩
   obtain ⟨x0, x1, x2, r0, r1, r2, rfl, rfl, ⟨a0, p0, c0, F0, rfl, rfl, ho0⟩, ⟨a1, p1, c1, F1, rfl, rfl, ho1⟩, ⟨a2, p2, c2, F2, rfl, rfl, ho2⟩⟩ := hown.three
   obtain rfl : 3 = n := hlo.hl
   have hc := hlo.hc
   rcases hlo.ho with hz | ⟨P, rfl, rfl⟩
   · have := hz.2.2; omega
   · obtain ⟨e0, e1, e2, e3⟩ := D60_cells (hlo.hF 0 _ rfl)
     obtain ⟨e4, e5, e6, e7⟩ := D60_cells (hlo.hF 1 _ rfl)
     obtain ⟨e8, e9, e10, e11⟩ := D60_cells (hlo.hF 2 _ rfl)
     have h12 := cells12 h (by omega)
     simp only [show F 0 = _ from e0, show F 1 = _ from e1, show F 2 = _ from e2, show F 3 = _ from e3, show F 4 = _ from e4, show F 5 = _ from e5, show F 6 = _ from e6, show F 7 = _ from e7, show F 8 = _ from e8, show F 9 = _ from e9, show F 10 = _ from e10, show F 11 = _ from e11, List.cons_append, List.nil_append] at h12
     have h13 := St.pickT (C := [_, _, _, _, _, _, _, _, _, _, _, _, _, _, _, _, _, _, _]) h12 [0, 1, 2, 3, 4, 5, 6, 7, 8, 9, 10, 11, 16, 17, 18, 12, 13, 14, 15] (by decide)
     exact ⟨P, c, a0, p0, c0, F0, a1, p1, c1, F1, a2, p2, c2, F2, rfl, h13, ho0, ho1, ho2⟩
end hd
end Go.Proofs.Ytbkgblhmlenocaa
namespace Go.Proofs.Ytbkgblhmlenocaa
set_option linter.unusedSimpArgs false
set_option linter.unusedVariables false
set_option linter.unusedSectionVars false
open Go Go.LW
def mkl {α : Type} (f : Nat → α) (l : List α) (i : Nat) : List α := (List.range i).map f ++ l.drop i
theorem mkl_all {α : Type} (f : Nat → α) (l : List α) : mkl f l l.length = (List.range l.length).map f := by unfold mkl; rw [List.drop_length, List.append_nil]
theorem mkl_set {α : Type} (f : Nat → α) (l : List α) {i : Nat} (h : i < l.length) : (mkl f l i).set i (f i) = mkl f l (i + 1) := by
 unfold mkl
 rw [List.set_append, if_neg (by rw [List.length_map, List.length_range]; omega), List.length_map, List.length_range, Nat.sub_self, List.drop_eq_getElem_cons h, List.set_cons_zero, List.range_succ, List.map_append, List.append_assoc]
 rfl
end Go.Proofs.Ytbkgblhmlenocaa
