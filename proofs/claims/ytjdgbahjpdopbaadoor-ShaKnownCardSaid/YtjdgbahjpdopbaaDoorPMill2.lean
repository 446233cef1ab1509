/-
  PLAIN (printed by g_shaknown.py, own work): a million letters a: the state behind them.
-/
import Derived.Test.YtjdgbahjpdopbaaDoorPMillion
namespace Go.Proofs.YtjdgbahjpdopbaaDoor
set_option linter.unusedSimpArgs false
set_option linter.unusedVariables false
set_option linter.unusedSectionVars false
open Go Go.LW
set_option maxRecDepth 100000

def fin : List (BitVec 8) := ([128#8, 0#8, 0#8, 0#8, 0#8, 0#8, 0#8, 0#8, 0#8, 0#8, 0#8, 0#8, 0#8, 0#8, 0#8, 0#8, 0#8, 0#8, 0#8, 0#8, 0#8, 0#8, 0#8, 0#8, 0#8, 0#8, 0#8, 0#8, 0#8, 0#8, 0#8, 0#8, 0#8, 0#8, 0#8, 0#8, 0#8, 0#8, 0#8, 0#8, 0#8, 0#8, 0#8, 0#8, 0#8, 0#8, 0#8, 0#8, 0#8, 0#8, 0#8, 0#8, 0#8, 0#8, 0#8, 0#8, 0#8, 0#8, 0#8, 0#8, 0#8, 122#8, 18#8, 0#8] : List (BitVec 8))
def million : List (BitVec 8) := ([205#8, 199#8, 110#8, 92#8, 153#8, 20#8, 251#8, 146#8, 129#8, 161#8, 199#8, 226#8, 132#8, 215#8, 62#8, 103#8, 241#8, 128#8, 154#8, 72#8, 164#8, 151#8, 32#8, 14#8, 4#8, 109#8, 57#8, 204#8, 199#8, 17#8, 44#8, 208#8] : List (BitVec 8))
theorem lastb : (stepF (kws kl256 (wsR (lit fin))) ⟨2061136107, 1745259042, 791610055, 2140370626, 1884297759, 3529239238, 671294972, 693152569⟩).list = [3452399196, 2568289170, 2174863330, 2228698727, 4051737160, 2761367566, 74267084, 3339791568] := by decide +kernel
theorem kwA_eq : kws kl256 (wsR fun _ => 97#8) = kwA := by decide +kernel
theorem itF_succ (kw : List Nat) (n : Nat) (s : N8) : itF kw (n + 1) s = stepF kw (itF kw n s) := itF_add kw 1 n s
theorem itF_hst {m : Nat → BitVec 8} {k : Nat} (h : ∀ q, q < 64 * k → m q = 97#8) : hstF m k = itF kwA k h0F := by
  induction k with
  | zero => rfl
  | succ k ih =>
    rw [itF_succ, ← ih fun q hq => h q (by omega), ← kwA_eq]
    show stepF (kws kl256 (wsR fun q => m (64 * k + q))) (hstF m k) = _
    have e : wsR (fun q => m (64 * k + q)) = wsR (fun _ => 97#8) := by
      unfold wsR
      refine List.map_congr_left fun t ht => ?_
      have ht : t < 16 := by simpa using ht
      unfold wfst; dsimp only
      rw [h _ (by omega), h _ (by omega), h _ (by omega), h _ (by omega)]
    rw [e]
theorem million_hst {m : Nat → BitVec 8} (h : ∀ q, q < 1000000 → m q = 97#8) (h2 : ∀ q, q < 64 → m (1000000 + q) = lit fin q) : (nOf (hstN K256 H256 m 15626)).list = [3452399196, 2568289170, 2174863330, 2228698727, 4051737160, 2761367566, 74267084, 3339791568] := by
  rw [hstF_eq]
  show (stepF (kws kl256 (wsR fun q => m (64 * 15625 + q))) (hstF m 15625)).list = _
  rw [itF_hst (k := 15625) (fun q hq => h q (by omega)), i24]
  have e : wsR (fun q => m (64 * 15625 + q)) = wsR (lit fin) := by
    unfold wsR
    refine List.map_congr_left fun t ht => ?_
    have ht : t < 16 := by simpa using ht
    unfold wfst; dsimp only
    rw [show 64 * 15625 = 1000000 from rfl, h2 _ (by omega), h2 _ (by omega), h2 _ (by omega), h2 _ (by omega)]
  rw [e]; exact lastb
end Go.Proofs.YtjdgbahjpdopbaaDoor
