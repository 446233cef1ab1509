/-
  WALKS, printed by this session's own generator (gen.py).
-/
import Derived.Test.YtjdgbahjpdopbaaDoorProg
import Derived.Test.YtjdgbahjpdopbaaDoorWSha3
import Derived.Test.YtjdgbahjpdopbaaDoorLw12
namespace Go.Proofs.YtjdgbahjpdopbaaDoor
set_option linter.unusedSimpArgs false
set_option linter.unusedVariables false
set_option linter.unusedSectionVars false
open Go Go.LW


/-- the hash of bytes -/
def shaL (KK H0 : Nat → BitVec 32) (X : List Byte) : Nat → Byte := sha KK H0 (lit X) X.length
/-- a hash holds these bytes -/
def HoldsL (KK H0 : Nat → BitVec 32) (X : List Byte) (st : Nat → BitVec 32) (blk : Nat → Byte) : Prop := HashIs KK H0 X.length (lit X) st blk
theorem HoldsL.new (KK H0 : Nat → BitVec 32) (blk : Nat → Byte) : HoldsL KK H0 [] H0 blk := HashIs.zero _ _ _ _
theorem write_l {B : Nat} {w0 w : World} {L : List Rg} {KK H0 : Nat → BitVec 32} {iG : Nat} (hG : L[iG]? = some ⟨some 0, 0, 64, fun q => VU .u32 (KK q), false⟩) {hb len cc : Nat} {X Y : List Byte} {st : Nat → BitVec 32} {blk : Nat → Byte} {a : Option Addr}
    (h : St B w0 (⟨some hb, 0, 8, fun q => VU .u32 (st q), true⟩ :: ⟨some hb, 8, 64, fun q => VU .u8 (blk q), true⟩ :: ⟨some hb, 72, 1, fun _ => VN (X.length), true⟩ :: L) w) (hY : Bs L a len cc (lit Y)) (hl : Y.length = len) (hN : X.length + len < 9223372036854775808) (hI : HoldsL KK H0 X st blk) :
    Calls Tryd.prog 25 #[.pointer (some ⟨hb, 0, none⟩), .slice a len cc] w fun e w' => ∃ sb : (Nat → BitVec 32) × (Nat → Byte), e = .returned (.tuple #[]) ∧ St B w0 (⟨some hb, 0, 8, fun q => VU .u32 (sb.1 q), true⟩ :: ⟨some hb, 8, 64, fun q => VU .u8 (sb.2 q), true⟩ :: ⟨some hb, 72, 1, fun _ => VN ((X ++ Y).length), true⟩ :: L) w' ∧ HoldsL KK H0 (X ++ Y) sb.1 sb.2 := by
  refine (write_bs hG h hY hN hI).mono fun e w' => ?_
  rintro ⟨sb, he, hs, hi⟩
  subst hl
  refine ⟨sb, he, by rw [List.length_append]; exact hs, ?_⟩
  unfold HoldsL
  rw [List.length_append]
  refine hi.congr fun q hq => ?_
  rw [lit_app]
  split
  · rw [spl_out _ _ _ _ _ (by omega)]
  · rw [spl_in _ _ _ _ _ (by omega)]
theorem sum_l {B : Nat} {w0 w : World} {L : List Rg} {KK H0 : Nat → BitVec 32} {iG : Nat} (hG : L[iG]? = some ⟨some 0, 0, 64, fun q => VU .u32 (KK q), false⟩) {hb : Nat} {X : List Byte} {st : Nat → BitVec 32} {blk : Nat → Byte}
    (h : St B w0 (⟨some hb, 0, 8, fun q => VU .u32 (st q), true⟩ :: ⟨some hb, 8, 64, fun q => VU .u8 (blk q), true⟩ :: ⟨some hb, 72, 1, fun _ => VN (X.length), true⟩ :: L) w) (hI : HoldsL KK H0 X st blk) (hN : X.length < 9223372036854770000) :
    Calls Tryd.prog 27 #[.pointer (some ⟨hb, 0, none⟩)] w fun e w' => e = .returned (AG [(32, fun q => VU .u8 (shaL KK H0 X q))]) ∧ St B w0 (⟨some hb, 0, 8, fun q => VU .u32 (st q), true⟩ :: ⟨some hb, 8, 64, fun q => VU .u8 (blk q), true⟩ :: ⟨some hb, 72, 1, fun _ => VN (X.length), true⟩ :: L) w' :=
  sum_spec hG h hI hN
theorem catN_flat (X : Nat → List Byte) : ∀ np, catN (fun i => (X i).length) np = ((List.range np).flatMap X).length
  | 0 => rfl
  | np + 1 => by
    rw [List.range_succ, List.flatMap_append, List.length_append, ← catN_flat X np]
    simp [catN]
theorem catM_flat (X : Nat → List Byte) : ∀ np q, q < ((List.range np).flatMap X).length → catM (fun i => (X i).length) (fun i => lit (X i)) np q = lit ((List.range np).flatMap X) q
  | 0, q, h => absurd h (by simp)
  | np + 1, q, h => by
    have hr : (List.range (np + 1)).flatMap X = (List.range np).flatMap X ++ X np := by rw [List.range_succ, List.flatMap_append]; simp
    rw [hr] at h ⊢
    rw [lit_app]
    simp only [catM]
    rw [catN_flat]
    rw [List.length_append] at h
    split
    · rename_i h1
      rw [spl_out _ _ _ _ _ (by omega)]; exact catM_flat X np q h1
    · rw [spl_in _ _ _ _ _ (by omega)]
theorem sumall_l {B : Nat} {w0 w : World} {L : List Rg} {KK H0 : Nat → BitVec 32} {iG : Nat} (hG : L[iG]? = some ⟨some 0, 0, 64, fun q => VU .u32 (KK q), false⟩) {i1 : Nat} (hH : L[i1]? = some ⟨some 1, 0, 8, fun q => VU .u32 (H0 q), false⟩) {iP np np' op cap : Nat} {ap pp : Option _} {pa : Nat → Option Addr} {pl pc : Nat → Nat} {X : Nat → List Byte} {rwp : Bool} (h : St B w0 L w)
    (hP : L[iP]? = some ⟨pp, op, np', fun i => .slice (pa i) (pl i) (pc i), rwp⟩) (hsl : SlV ap pp op np) (hnp : np ≤ np') (hnp2 : np < 9223372036854775807) (hPs : ∀ i, i < np → Bs L (pa i) (pl i) (pc i) (lit (X i)) ∧ (X i).length = pl i) (hN : ((List.range np).flatMap X).length < 9223372036854770000) :
    Calls Tryd.prog 21 #[.slice ap np cap] w fun e w' => e = .returned (AG [(32, fun q => VU .u8 (shaL KK H0 ((List.range np).flatMap X) q))]) ∧ St B w0 L w' := by
  have hcn : ∀ k, k ≤ np → catN pl k = catN (fun i => (X i).length) k := by
    intro k
    induction k with
    | zero => intro _; rfl
    | succ k ih => intro hk; simp only [catN]; rw [ih (by omega), (hPs k (by omega)).2]
  have hcm : ∀ k, k ≤ np → catM pl (fun i => lit (X i)) k = catM (fun i => (X i).length) (fun i => lit (X i)) k := by
    intro k
    induction k with
    | zero => intro _; rfl
    | succ k ih => intro hk; simp only [catM]; rw [ih (by omega), hcn k (by omega), (hPs k (by omega)).2]
  have h1 := sumall_spec hG hH h hP hsl hnp hnp2 (M := fun i => lit (X i)) (cap := cap) (fun i hi => (hPs i hi).1) (by rw [hcn np (Nat.le_refl _), catN_flat]; exact hN)
  refine h1.mono fun e w' ⟨he, hs⟩ => ⟨?_, hs⟩
  rw [he]
  congr 1
  refine AG_congr fun j hj => ?_
  unfold shaL
  rw [hcm np (Nat.le_refl _), hcn np (Nat.le_refl _), catN_flat, sha_congr (catM_flat X np)]
theorem sumall_z {B : Nat} {w0 w : World} {L : List Rg} {KK H0 : Nat → BitVec 32} {iG : Nat} (hG : L[iG]? = some ⟨some 0, 0, 64, fun q => VU .u32 (KK q), false⟩) {i1 : Nat} (hH : L[i1]? = some ⟨some 1, 0, 8, fun q => VU .u32 (H0 q), false⟩) {iP np np' op cap : Nat} {ap pp : Option _} {pa : Nat → Option Addr} {pl pc : Nat → Nat} {X : Nat → List Byte} {Z : List Byte} {rwp : Bool} (h : St B w0 L w)
    (hP : L[iP]? = some ⟨pp, op, np', fun i => .slice (pa i) (pl i) (pc i), rwp⟩) (hsl : SlV ap pp op np) (hnp : np ≤ np') (hnp2 : np < 9223372036854775807) (hPs : ∀ i, i < np → Bs L (pa i) (pl i) (pc i) (lit (X i)) ∧ (X i).length = pl i) (hZ : (List.range np).flatMap X = Z) (hN : Z.length < 9223372036854770000) :
    Calls Tryd.prog 21 #[.slice ap np cap] w fun e w' => e = .returned (AG [(32, fun q => VU .u8 (shaL KK H0 Z q))]) ∧ St B w0 L w' := by
  subst hZ
  exact sumall_l hG hH h hP hsl hnp hnp2 hPs hN
theorem take_seg {α : Type} {X : List α} {a b : Nat} (h : a ≤ b ∧ b ≤ X.length) : X.take a ++ seg X a b = X.take b := by
  rw [← seg_zero, ← seg_zero, seg_app (by omega)]
theorem take_len {α : Type} {X : List α} {a : Nat} (h : a ≤ X.length) : (X.take a).length = a := by simp; omega
theorem shaL_congr {KK H0 : Nat → BitVec 32} {X Y : List Byte} (h : X = Y) : ∀ q, q < 32 → shaL KK H0 X q = shaL KK H0 Y q := fun _ _ => by rw [h]
end Go.Proofs.YtjdgbahjpdopbaaDoor
