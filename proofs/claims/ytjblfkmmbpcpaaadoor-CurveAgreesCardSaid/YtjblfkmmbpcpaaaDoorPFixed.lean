/-
  PLAIN (own work), CURVE: the worked example, reckoned by the kernel.
-/
import Derived.Test.YtjblfkmmbpcpaaaDoorPCurve1
import Derived.Test.YtjblfkmmbpcpaaaDoorRLaw07
namespace Go.Proofs.YtjblfkmmbpcpaaaDoor
set_option linter.unusedSimpArgs false
set_option linter.unusedVariables false
set_option linter.unusedSectionVars false
open Go Go.LW
set_option maxRecDepth 10000

/-- n is reckoned ahead of what is made of it -/
@[reducible] def frc {α : Type} (n : Nat) (k : Nat → α) : α := Nat.rec (k Nat.zero) (fun m _ => k (Nat.succ m)) n
theorem frc_eq {α : Type} (n : Nat) (k : Nat → α) : frc n k = k n := by cases n <;> rfl
theorem c_add (a b : Nat) : Nat.add a b = a + b := rfl
theorem c_sub (a b : Nat) : Nat.sub a b = a - b := rfl
theorem c_mul (a b : Nat) : Nat.mul a b = a * b := rfl
theorem c_mod (a b : Nat) : Nat.mod a b = a % b := rfl
noncomputable def mK (p u K : Nat) (fin : Nat → Nat → Bool) (n : Nat) : Nat → Nat → Nat → Nat → Bool :=
  Nat.rec (motive := fun _ => Nat → Nat → Nat → Nat → Bool) (fun px pz _ _ => fin px pz) (fun n ih px pz qx qz =>
    frc (Nat.add px pz) fun a => frc (Nat.sub (Nat.add px p) pz) fun b => frc (Nat.add qx qz) fun c => frc (Nat.sub (Nat.add qx p) qz) fun d =>
    frc (Nat.mod (Nat.mul d a) p) fun da => frc (Nat.mod (Nat.mul c b) p) fun cb =>
    frc (Nat.add da cb) fun s => frc (Nat.sub (Nat.add da p) cb) fun t =>
    frc (Nat.mod (Nat.mul s s) p) fun x3 => frc (Nat.mod (Nat.mul u (Nat.mod (Nat.mul t t) p)) p) fun z3 =>
    frc (cond (Nat.beq (K / 2 ^ n % 2) 1) c a) fun g => frc (cond (Nat.beq (K / 2 ^ n % 2) 1) d b) fun h =>
    frc (Nat.mod (Nat.mul g g) p) fun aa => frc (Nat.mod (Nat.mul h h) p) fun bb => frc (Nat.sub (Nat.add aa p) bb) fun f =>
    frc (Nat.mod (Nat.mul aa bb) p) fun x2 => frc (Nat.mod (Nat.mul f (Nat.add aa (Nat.mul 121665 f))) p) fun z2 =>
    cond (Nat.beq (K / 2 ^ n % 2) 1) (ih x3 z3 x2 z2) (ih x2 z2 x3 z3)) n
theorem mK_succ (p u K : Nat) (fin : Nat → Nat → Bool) (n px pz qx qz : Nat) : mK p u K fin (n + 1) px pz qx qz =
    cond (Nat.beq (K / 2 ^ n % 2) 1)
      (mK p u K fin n ((((qx + p - qz) * (px + pz) % p + (qx + qz) * (px + p - pz) % p) * ((qx + p - qz) * (px + pz) % p + (qx + qz) * (px + p - pz) % p)) % p) ((u * ((((qx + p - qz) * (px + pz) % p + p - (qx + qz) * (px + p - pz) % p) * ((qx + p - qz) * (px + pz) % p + p - (qx + qz) * (px + p - pz) % p)) % p)) % p)
        ((((qx + qz) * (qx + qz) % p) * ((qx + p - qz) * (qx + p - qz) % p)) % p) ((((qx + qz) * (qx + qz) % p + p - (qx + p - qz) * (qx + p - qz) % p) * ((qx + qz) * (qx + qz) % p + 121665 * ((qx + qz) * (qx + qz) % p + p - (qx + p - qz) * (qx + p - qz) % p))) % p))
      (mK p u K fin n ((((px + pz) * (px + pz) % p) * ((px + p - pz) * (px + p - pz) % p)) % p) ((((px + pz) * (px + pz) % p + p - (px + p - pz) * (px + p - pz) % p) * ((px + pz) * (px + pz) % p + 121665 * ((px + pz) * (px + pz) % p + p - (px + p - pz) * (px + p - pz) % p))) % p)
        ((((qx + p - qz) * (px + pz) % p + (qx + qz) * (px + p - pz) % p) * ((qx + p - qz) * (px + pz) % p + (qx + qz) * (px + p - pz) % p)) % p) ((u * ((((qx + p - qz) * (px + pz) % p + p - (qx + qz) * (px + p - pz) % p) * ((qx + p - qz) * (px + pz) % p + p - (qx + qz) * (px + p - pz) % p)) % p)) % p)) := by
  cases hb : Nat.beq (K / 2 ^ n % 2) 1 with
  | true => unfold mK; simp only [frc_eq, c_add, c_sub, c_mul, c_mod, hb, cond_true]
  | false => unfold mK; simp only [frc_eq, c_add, c_sub, c_mul, c_mod, hb, cond_false]
theorem ofN_pmod (m : Nat) : ofN (m % p255) = ofN m := ofN_eq.2 (Nat.mod_mod _ _)
theorem ofN_sub {a b : Nat} (h : b ≤ p255) : ofN (a + p255 - b) = ofN a - ofN b := by
  have h1 : ofN (a + p255 - b) + ofN b = ofN a := by
    rw [← ofN_add, show a + p255 - b + b = a + p255 by omega, ofN_add, ofN_p]; grind
  grind
theorem k_dbl {x z : Nat} (hz : z < p255) : (ofN ((((x + z) * (x + z) % p255) * ((x + p255 - z) * (x + p255 - z) % p255)) % p255), ofN ((((x + z) * (x + z) % p255 + p255 - (x + p255 - z) * (x + p255 - z) % p255) * ((x + z) * (x + z) % p255 + 121665 * ((x + z) * (x + z) % p255 + p255 - (x + p255 - z) * (x + p255 - z) % p255))) % p255)) = dbl (ofN x, ofN z) := by
  have hp : 0 < p255 := by decide
  have e1 : ofN ((x + z) * (x + z) % p255) = (ofN x + ofN z) * (ofN x + ofN z) := by rw [ofN_pmod, ofN_mul, ofN_add]
  have e2 : ofN ((x + p255 - z) * (x + p255 - z) % p255) = (ofN x - ofN z) * (ofN x - ofN z) := by rw [ofN_pmod, ofN_mul, ofN_sub (Nat.le_of_lt hz)]
  have hlt := Nat.mod_lt ((x + p255 - z) * (x + p255 - z)) hp
  generalize (x + z) * (x + z) % p255 = aa at *
  generalize (x + p255 - z) * (x + p255 - z) % p255 = bb at *
  have e3 : ofN (aa + p255 - bb) = ofN aa - ofN bb := ofN_sub (Nat.le_of_lt hlt)
  unfold dbl
  refine Prod.ext ?_ ?_
  · show ofN (aa * bb % p255) = _
    rw [ofN_pmod, ofN_mul, e1, e2]
  · show ofN ((aa + p255 - bb) * (aa + 121665 * (aa + p255 - bb)) % p255) = _
    rw [ofN_pmod, ofN_mul, ofN_add, ofN_mul 121665, e3, e1, e2]
theorem k_add {u px pz qx qz : Nat} (hz : pz < p255) (hq : qz < p255) :
    (ofN ((((qx + p255 - qz) * (px + pz) % p255 + (qx + qz) * (px + p255 - pz) % p255) * ((qx + p255 - qz) * (px + pz) % p255 + (qx + qz) * (px + p255 - pz) % p255)) % p255), ofN ((u * ((((qx + p255 - qz) * (px + pz) % p255 + p255 - (qx + qz) * (px + p255 - pz) % p255) * ((qx + p255 - qz) * (px + pz) % p255 + p255 - (qx + qz) * (px + p255 - pz) % p255)) % p255)) % p255)) = dadd (ofN u) (ofN px, ofN pz) (ofN qx, ofN qz) := by
  have hp : 0 < p255 := by decide
  have e1 : ofN ((qx + p255 - qz) * (px + pz) % p255) = (ofN qx - ofN qz) * (ofN px + ofN pz) := by rw [ofN_pmod, ofN_mul, ofN_add, ofN_sub (Nat.le_of_lt hq)]
  have e2 : ofN ((qx + qz) * (px + p255 - pz) % p255) = (ofN qx + ofN qz) * (ofN px - ofN pz) := by rw [ofN_pmod, ofN_mul, ofN_add, ofN_sub (Nat.le_of_lt hz)]
  have hlt := Nat.mod_lt ((qx + qz) * (px + p255 - pz)) hp
  generalize (qx + p255 - qz) * (px + pz) % p255 = da at *
  generalize (qx + qz) * (px + p255 - pz) % p255 = cb at *
  have e3 : ofN (da + p255 - cb) = ofN da - ofN cb := ofN_sub (Nat.le_of_lt hlt)
  unfold dadd
  refine Prod.ext ?_ ?_
  · show ofN ((da + cb) * (da + cb) % p255) = _
    rw [ofN_pmod, ofN_mul, ofN_add, e1, e2]
  · show ofN ((u * ((da + p255 - cb) * (da + p255 - cb) % p255)) % p255) = _
    rw [ofN_pmod, ofN_mul, ofN_pmod, ofN_mul, e3, e1, e2]
theorem mK_ok (u K : Nat) (fin : Nat → Nat → Bool) : ∀ n, n ≤ 255 → ∀ px pz qx qz, pz < p255 → qz < p255 → (ofN px, ofN pz) = (mont K (ofN u) (255 - n)).1 → (ofN qx, ofN qz) = (mont K (ofN u) (255 - n)).2 →
    ∃ x z, mK p255 u K fin n px pz qx qz = fin x z ∧ (ofN x, ofN z) = (mont K (ofN u) 255).1
  | 0, _, px, pz, qx, qz, _, _, h1, _ => ⟨px, pz, rfl, h1⟩
  | n + 1, hn, px, pz, qx, qz, hz, hq, h1, h2 => by
    have hp : 0 < p255 := by decide
    have hi : 255 - n = (255 - (n + 1)) + 1 := by omega
    have hb : 254 - (255 - (n + 1)) = n := by omega
    have hm : mont K (ofN u) (255 - n) = if K / 2 ^ n % 2 = 1 then (dadd (ofN u) (mont K (ofN u) (255 - (n + 1))).1 (mont K (ofN u) (255 - (n + 1))).2, dbl (mont K (ofN u) (255 - (n + 1))).2) else (dbl (mont K (ofN u) (255 - (n + 1))).1, dadd (ofN u) (mont K (ofN u) (255 - (n + 1))).1 (mont K (ofN u) (255 - (n + 1))).2) := by
      rw [hi]
      show (if K / 2 ^ (254 - (255 - (n + 1))) % 2 = 1 then _ else _) = _
      rw [hb]
    rw [← h1, ← h2, ← k_dbl hz, ← k_dbl hq, ← k_add hz hq] at hm
    rw [mK_succ]
    cases hbit : Nat.beq (K / 2 ^ n % 2) 1 with
    | true =>
      rw [if_pos (Nat.eq_of_beq_eq_true hbit)] at hm
      rw [cond_true]
      exact mK_ok u K fin n (by omega) _ _ _ _ (Nat.mod_lt _ hp) (Nat.mod_lt _ hp) (by rw [hm]) (by rw [hm])
    | false =>
      rw [if_neg (Nat.ne_of_beq_eq_false hbit)] at hm
      rw [cond_false]
      exact mK_ok u K fin n (by omega) _ _ _ _ (Nat.mod_lt _ hp) (Nat.mod_lt _ hp) (by rw [hm]) (by rw [hm])
theorem times_is {u K B : Nat} (h : mK p255 u K (fun x z => Nat.beq (B * z % p255) (x % p255) && !Nat.beq (z % p255) 0) 255 1 0 u 1 = true) : timesN K (ofN u) = ofN B := by
  obtain ⟨x, z, h1, h2⟩ := mK_ok u K (fun x z => Nat.beq (B * z % p255) (x % p255) && !Nat.beq (z % p255) 0) 255 (Nat.le_refl _) 1 0 u 1 (by decide) (by decide) rfl rfl
  rw [h] at h1
  have h3 := h1.symm
  simp only [Bool.and_eq_true, Bool.not_eq_true'] at h3
  have hx : ofN B * ofN z = ofN x := by rw [← ofN_mul]; exact ofN_eq.2 (Nat.eq_of_beq_eq_true h3.1)
  have hz : ofN z ≠ 0 := fun e => Nat.ne_of_beq_eq_false h3.2 (congrArg Fin.val e)
  have hi := inv_mul hz
  unfold timesN
  rw [← h2]
  show ofN x * invN (ofN z) = ofN B
  rw [← hx]
  generalize invN (ofN z) = i at *
  grind
theorem times_is0 {u K : Nat} (h : mK p255 u K (fun x z => Nat.beq (z % p255) 0) 255 1 0 u 1 = true) : timesN K (ofN u) = 0 := by
  obtain ⟨x, z, h1, h2⟩ := mK_ok u K (fun x z => Nat.beq (z % p255) 0) 255 (Nat.le_refl _) 1 0 u 1 (by decide) (by decide) rfl rfl
  rw [h] at h1
  have hz : ofN z = 0 := Fin.ext (Nat.eq_of_beq_eq_true h1.symm)
  unfold timesN
  rw [← h2]
  show ofN x * invN (ofN z) = 0
  rw [hz, inv_zero]; grind

/-! ### the worked example -/
def kaN : Nat := 43022926935730390011262297432620561717984869619654631869808613518295781474560
def kbN : Nat := 43821139992256756556415941323895369171967618879575791159784574487639065755384
def paN : Nat := 43040781892050427594145608265502699427324224701665063692814682666944625459343
def pbN : Nat := 9883189261367187259361010393992601034106500622863711872302551461753603406910
def shN : Nat := 27641978549128510829810396160983159826310580635854241985004266816403507323184
theorem t_pa : timesN kaN (ofN 9) = ofN paN := times_is (by decide +kernel)
theorem t_pb : timesN kbN (ofN 9) = ofN pbN := times_is (by decide +kernel)
theorem t_x : timesN kaN (ofN pbN) = ofN shN := times_is (by decide +kernel)
theorem t_y : timesN kbN (ofN paN) = ofN shN := times_is (by decide +kernel)
theorem t_0 : timesN kaN (ofN 0) = 0 := times_is0 (by decide +kernel)
def cntF (a s : Int) (i : Nat) : Nat → BitVec 8 := fun q => if q < i then BitVec.ofInt 8 (a + s * (q : Int)) else 0#8
theorem cnt_ok (a s : Int) (ha : -1000 ≤ a ∧ a ≤ 1000) (hs : s = 1 ∨ s = -1) : lethelaw07_counted a s (cntF a s 32) := by
  refine ⟨cntF a s 32, ?_, rfl⟩
  have e : (fun _ => 0#8) = cntF a s 0 := by funext q; unfold cntF; rw [if_neg (by omega)]
  rw [e]
  refine Iter.count (fun i => (i, cntF a s i)) 32 (fun i hi => ?_) ?_
  · unfold lethelaw07_counted_l0; dsimp only
    rw [if_pos hi]
    have : upd (cntF a s i) i (BitVec.ofInt 8 (a + s * (i : Int))) = cntF a s (i + 1) := by
      funext q
      rw [upd_at]
      unfold cntF
      by_cases h : q = i
      · rw [if_pos h, if_pos (by omega), h]
      · rw [if_neg h]
        by_cases h2 : q < i
        · rw [if_pos h2, if_pos (by omega)]
        · rw [if_neg h2, if_neg (by omega)]
    rw [this]
    refine ⟨?_, ?_, rfl⟩ <;> rcases hs with rfl | rfl <;> omega
  · unfold lethelaw07_counted_l0; dsimp only
    rw [if_neg (by omega)]
theorem ka_num : numB (clampF (cntF 0 1 32)) 32 = kaN := by decide +kernel
theorem kb_num : numB (clampF (cntF 255 (-1) 32)) 32 = kbN := by decide +kernel
theorem byte_is {r : Nat → BitVec 8} {B : Nat} (h : numB r 32 = B) {q : Nat} (hq : q < 32) {v : BitVec 8} (hv : B / 256 ^ q % 256 = v.toNat) : r q = v := by
  apply BitVec.eq_of_toNat_eq
  rw [byte_num r hq, h, hv]
theorem fixed_ok : lethelaw07_fixed true := by
  have ca := cnt_ok 0 1 (by decide) (.inl rfl)
  have cb := cnt_ok 255 (-1) (by decide) (.inr rfl)
  have b9 : ofB (upd (fun _ => 0#8) 0 9#8) = ofN 9 := by
    unfold ofB
    rw [numB_single]; exact ofN_eq.2 (by decide +kernel)
  obtain ⟨ra, ha1, ha2⟩ := times_rp (cntF 0 1 32) (upd (fun _ => 0#8) 0 9#8)
  obtain ⟨rb, hb1, hb2⟩ := times_rp (cntF 255 (-1) 32) (upd (fun _ => 0#8) 0 9#8)
  rw [ka_num, b9, t_pa] at ha2
  rw [kb_num, b9, t_pb] at hb2
  have ea : numB ra 32 = paN := ha2.trans (by decide +kernel)
  have eb : numB rb 32 = pbN := hb2.trans (by decide +kernel)
  have oa : ofB ra = ofN paN := by unfold ofB; rw [ea]; exact ofN_eq.2 (by decide +kernel)
  have ob : ofB rb = ofN pbN := by unfold ofB; rw [eb]; exact ofN_eq.2 (by decide +kernel)
  obtain ⟨x, hx1, hx2⟩ := times_rp (cntF 0 1 32) rb
  obtain ⟨y, hy1, hy2⟩ := times_rp (cntF 255 (-1) 32) ra
  obtain ⟨z, hz1, hz2⟩ := times_rp (cntF 0 1 32) (fun _ => 0#8)
  rw [ka_num, ob, t_x] at hx2
  rw [kb_num, oa, t_y] at hy2
  have o0 : ofB (fun _ => 0#8) = ofN 0 := by unfold ofB; rw [numB_zero]
  rw [ka_num, o0, t_0] at hz2
  have ex : numB x 32 = shN := hx2.trans (by decide +kernel)
  have ey : numB y 32 = shN := hy2.trans (by decide +kernel)
  have ez : numB z 32 = 0 := hz2
  have nz : ∀ r : Nat → BitVec 8, numB r 32 = shN → ¬ eqB 32 r (fun _ => 0#8) = true := fun r hr h => by
    have := eqB_iffN.1 h
    rw [hr, numB_zero] at this
    exact absurd this (by decide)
  refine ⟨_, ca, _, cb, ra, ⟨_, ha1, rfl⟩, rb, ⟨_, hb1, rfl⟩, x, 0, ⟨_, hx1, by rw [if_neg (nz x ex)]⟩, y, 0, ⟨_, hy1, by rw [if_neg (nz y ey)]⟩, z, 70, ⟨_, hz1, by rw [if_pos (eqB_iffN.2 (by rw [ez, numB_zero]))]⟩, ?_⟩
  rw [if_pos rfl, if_pos rfl, if_pos rfl, if_pos (eqB_iffN.2 (by rw [ex, ey])), if_pos (byte_is ea (by omega) (by decide +kernel)), if_pos (byte_is ea (by omega) (by decide +kernel)), if_pos (byte_is eb (by omega) (by decide +kernel)), if_pos (byte_is eb (by omega) (by decide +kernel)), if_pos (byte_is ex (by omega) (by decide +kernel))]
  exact (decide_eq_true (byte_is ex (by omega) (by decide +kernel))).symm
end Go.Proofs.YtjblfkmmbpcpaaaDoor
