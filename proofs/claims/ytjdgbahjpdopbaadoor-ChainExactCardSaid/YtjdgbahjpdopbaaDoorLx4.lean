/-
  ENGINE X, PART 4 (own work): arguments that came in: numbers, arrays of numbers.
-/
import Derived.Test.YtjdgbahjpdopbaaDoorLx3
import Derived.WideShapes
namespace Go.LW
set_option linter.unusedSimpArgs false
set_option linter.unusedVariables false
set_option linter.unusedSectionVars false
open Go Go.RowKit

theorem has_u {k : IntKind} {s : Nat} (hk : UK k s) {n : Int} (h : k.has n) : n = ((BitVec.ofInt s n).toNat : Int) := by
  have h1 : 0 ≤ n ∧ n < (2 ^ s : Nat) := by
    cases hk <;> simp [IntKind.has, IntKind.min, IntKind.max, IntKind.signed, IntKind.bits] at h <;> omega
  rw [BitVec.toNat_ofInt, Int.emod_eq_of_lt h1.1 h1.2, Int.toNat_of_nonneg h1.1]
theorem cell_u {P : Program} {w : World} {r : Reach} {base : Nat} {t : TypeId} {v : Value} {k : IntKind} (hu : P.underlying t = some (.int k)) (h : Cell.okWide P w r base t v) : ∃ n, v = .int k n ∧ k.has n := by
  unfold Cell.okWide at h
  rw [hu] at h
  cases v <;> simp [Cell.ok, hu] at h
  obtain ⟨rfl, h⟩ := h
  exact ⟨_, rfl, h⟩
theorem arg_int {P : Program} {w : World} {r : Reach} {base : Nat} {t : TypeId} {v : Value} {k : IntKind} (hu : P.underlying t = some (.int k)) (h : Value.okWide P w r base t v) : ∃ n, v = .int k n ∧ k.has n := by
  unfold Value.okWide at h
  rw [hu] at h
  exact cell_u hu h
theorem arg_u {P : Program} {w : World} {r : Reach} {base : Nat} {t : TypeId} {v : Value} {k : IntKind} {s : Nat} (hk : UK k s) (hu : P.underlying t = some (.int k)) (h : Value.okWide P w r base t v) : ∃ X : BitVec s, v = VU k X := by
  obtain ⟨n, rfl, hn⟩ := arg_int hu h
  exact ⟨BitVec.ofInt s n, congrArg (Value.int k) (has_u hk hn)⟩
/-- an array of numbers -/
theorem arg_arr {P : Program} {w : World} {r : Reach} {base : Nat} {t u e n : Nat} {v : Value} {k : IntKind} {s m : Nat} (hk : UK k s) (hu : P.underlying t = some (.array n e)) (hts : P.cellTypes P.depth t = some (List.replicate m u)) (hc : P.cellsOf t = m) (hku : P.underlying u = some (.int k))
    (h : Value.okWide P w r base t v) : ∃ F : Nat → BitVec s, v = AG [(m, fun q => VU k (F q))] := by
  unfold Value.okWide at h
  rw [hu] at h
  obtain ⟨cs, rfl, hsz, ts, hts', _, hcell⟩ := h
  rw [hts] at hts'
  obtain rfl := Option.some.inj hts'
  rw [hc] at hsz
  have hget : ∀ i, i < m → ∃ x : BitVec s, cs[i]? = some (VU k x) := fun i hi => by
    have h1 : cs[i]? = some (cs[i]'(by omega)) := Array.getElem?_eq_getElem (by omega)
    obtain ⟨u', hu', hok⟩ := hcell i _ h1
    rw [List.length_replicate, Nat.mod_eq_of_lt hi, List.getElem?_replicate, if_pos hi] at hu'
    obtain rfl := Option.some.inj hu'
    obtain ⟨n', hn', hh⟩ := cell_u hku hok
    exact ⟨BitVec.ofInt s n', by rw [h1, hn']; exact congrArg (fun z => some (Value.int k z)) (has_u hk hh)⟩
  let F : Nat → BitVec s := fun q => if hq : q < m then (hget q hq).choose else 0#s
  refine ⟨F, ?_⟩
  unfold AG
  rw [catL_one]
  congr 1
  apply Array.ext_getElem?
  intro q
  by_cases hq : q < m
  · rw [(hget q hq).choose_spec]
    simp [hq, F]
  · rw [Array.getElem?_eq_none (by omega)]
    simp [hq]
/-- a slice of bytes that came in -/
theorem IsRow.bx {B : Nat} {w0 w : World} {L : List Rg} {a : Option Addr} {len cap : Nat} {zs : List Int} (hz : IsRow .u8 w a len cap zs) (h : St B w0 L w) (hr : roL L) : ∃ (r : Rg) (X : List Byte) (ix : Nat), St B w0 (r :: L) w ∧ roL (r :: L) ∧ Bx (r :: L) ix a len cap X := by
  obtain ⟨r, h1, h2, h3⟩ := hz.bytes h hr
  obtain ⟨X, hl, h4⟩ := h3.list
  obtain ⟨ix, h5⟩ := h4.bx hl
  exact ⟨r, X, ix, h1, h2, h5⟩
end Go.LW
