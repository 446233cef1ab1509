/-
  PLAIN LAW OF AesKnown (own work; its rows printed by g_paesknown.py): two published blocks; the relation of the law's function holds with 'true'.
-/
import Derived.Test.YthjkmhdgenmnoaaPAes5
import Derived.Test.YthjkmhdgenmnoaaRAesKnown
namespace Go.Proofs.Ythjkmhdgenmnoaa
set_option linter.unusedSimpArgs false
set_option linter.unusedVariables false
set_option linter.unusedSectionVars false
open Go Go.LW

/-! ### the schedule, checked word by word -/
def pwF : Nat → BitVec 8
  | 0 => 1#8
  | t + 1 => if t < 8 then pwF t else pwW (pwF t) t
def gS (pw : BitVec 8) (t : Nat) (m : F8) (k : Nat) : BitVec 8 :=
  if t % 8 = 0 then (match k with | 0 => sb (m ((t - 1) * 4 + 1)) ^^^ pw | 1 => sb (m ((t - 1) * 4 + 2)) | 2 => sb (m ((t - 1) * 4 + 3)) | _ => sb (m ((t - 1) * 4 + 0)))
  else if t % 8 = 4 then sb (m ((t - 1) * 4 + k)) else m ((t - 1) * 4 + k)
theorem gW_S (pw : BitVec 8) (t : Nat) (m : F8) {k : Nat} (hk : k < 4) : gW boxF pw t m k = gS pw t m k := by
  unfold gW gS
  by_cases h0 : t % 8 = 0
  · rw [if_pos h0, if_pos h0]
    match k, hk with
    | 0, _ => exact congrArg (· ^^^ pw) (box_at _)
    | 1, _ => exact box_at _
    | 2, _ => exact box_at _
    | 3, _ => exact box_at _
  · rw [if_neg h0, if_neg h0]
    by_cases h4 : t % 8 = 4
    · rw [if_pos h4, if_pos h4]
      match k, hk with
      | 0, _ => exact box_at _
      | 1, _ => exact box_at _
      | 2, _ => exact box_at _
      | 3, _ => exact box_at _
    · rw [if_neg h4, if_neg h4]
theorem innerAt_at (m g : F8) {t : Nat} (ht : 8 ≤ t) : ∀ k, k ≤ 4 → ∀ q, innerAt m g t k q = if t * 4 ≤ q ∧ q < t * 4 + k then m (q - 32) ^^^ g (q - t * 4) else m q
  | 0, _, q => by rw [if_neg (by omega)]; rfl
  | k + 1, hk, q => by
    unfold innerAt
    rw [upd_at, innerAt_at m g ht k (by omega), innerAt_at m g ht k (by omega)]
    by_cases hq : q = t * 4 + k
    · subst hq
      rw [if_pos rfl, if_neg (by omega), if_pos (by omega), show t * 4 + k - 32 = (t - 8) * 4 + k by omega, Nat.add_sub_cancel_left]
    · rw [if_neg hq]
      by_cases h2 : t * 4 ≤ q ∧ q < t * 4 + k
      · rw [if_pos h2, if_pos (by omega)]
      · rw [if_neg h2, if_neg (by omega)]
theorem sched {key KL : List Byte} (hk : key.length = 32) (h1 : ∀ q, q < 32 → lit KL q = lit key q)
    (h2 : ∀ t, t < 60 → 8 ≤ t → ∀ k, k < 4 → lit KL (t * 4 + k) = lit KL (t * 4 + k - 32) ^^^ gS (pwF t) t (lit KL) k) : E240 (keyF key) (lit KL) := by
  have key' : ∀ t, t ≤ 60 → (exAt boxF key t).1 = pwF t ∧ ∀ q, q < 4 * t → (exAt boxF key t).2 q = lit KL q := by
    intro t
    induction t with
    | zero => intro _; exact ⟨rfl, fun q hq => absurd hq (by omega)⟩
    | succ t ih =>
      intro ht
      obtain ⟨ih1, ih2⟩ := ih (by omega)
      by_cases h8 : t < 8
      · simp only [exAt, pwF, h8, if_true]
        refine ⟨ih1, fun q hq => ?_⟩
        have e2 : min (seg key (4 * t) key.length).length 4 = 4 := by rw [seg_length (Nat.le_refl _)]; omega
        rw [e2]
        unfold spl
        by_cases h : t * 4 ≤ q ∧ q < t * 4 + 4
        · rw [if_pos h, lit_seg (Nat.le_refl _) (by omega), h1 q (by omega)]
          congr 1; omega
        · rw [if_neg h]; exact ih2 q (by omega)
      · simp only [exAt, pwF, h8, if_false]
        refine ⟨by rw [ih1], fun q hq => ?_⟩
        rw [innerAt_at _ _ (by omega) 4 (Nat.le_refl _)]
        by_cases h : t * 4 ≤ q ∧ q < t * 4 + 4
        · rw [if_pos h, ih2 _ (by omega), gW_S _ _ _ (by omega), ih1]
          have h3 := h2 t (by omega) (by omega) (q - t * 4) (by omega)
          rw [show t * 4 + (q - t * 4) = q by omega] at h3
          rw [h3]
          congr 1
          unfold gS
          have h4 : ∀ j, j < 4 → (exAt boxF key t).2 ((t - 1) * 4 + j) = lit KL ((t - 1) * 4 + j) := fun j hj => ih2 _ (by omega)
          rw [h4 1 (by omega), h4 2 (by omega), h4 3 (by omega), h4 0 (by omega), h4 (q - t * 4) (by omega)]
        · rw [if_neg h]; exact ih2 q (by omega)
  intro q hq
  unfold keyF expF kAt
  rw [if_pos hq]
  exact (key' 60 (Nat.le_refl _)).2 q (by omega)
/-! ### the rounds, checked byte by byte -/
def shS (s : F8) (q : Nat) : BitVec 8 := sb (s ((q + 4 * (q % 4)) % 16))
def mixS (s : F8) (q : Nat) : BitVec 8 := colX (q % 4) (s (4 * (q / 4))) (s (4 * (q / 4) + 1)) (s (4 * (q / 4) + 2)) (s (4 * (q / 4) + 3))
theorem shF_S (s : F8) : E16 (shF boxF s) (shS s) := fun q hq => by rw [shF_at _ _ hq]; exact box_at _
theorem mixF_S {s t : F8} (h : E16 s t) : E16 (mixF twoF s) (mixS t) := E16.cols fun c i hc hi => by
  rw [mixF_at _ _ hc hi]
  unfold mixS
  rw [show (4 * c + i) % 4 = i by omega, show (4 * c + i) / 4 = c by omega, ← h _ (by omega), ← h _ (by omega), ← h _ (by omega), ← h _ (by omega)]
  exact colT_X _ _ _ _ _
theorem enc_rows {KL RL I : List Byte} (h0 : ∀ q, q < 16 → lit RL q = lit I q ^^^ lit KL q)
    (hR : ∀ i, i < 14 → ∀ q, q < 16 → lit RL (16 * (i + 1) + q) = (if i + 1 < 14 then mixS (shS fun q => lit RL (16 * i + q)) q else shS (fun q => lit RL (16 * i + q)) q) ^^^ lit KL ((i + 1) * 16 + q)) :
    E16 (encF (lit KL) boxF twoF (lit I)) (fun q => lit RL (224 + q)) := by
  have key : ∀ i, i ≤ 14 → E16 (encAt (lit KL) boxF twoF (lit I) i) (fun q => lit RL (16 * i + q)) := by
    intro i
    induction i with
    | zero =>
      intro _ q hq
      unfold encAt
      dsimp only
      rw [addF_at _ _ _ hq]
      simp only [Nat.mul_zero, Nat.zero_mul, Nat.zero_add]
      exact (h0 q hq).symm
    | succ i ih =>
      intro hi q hq
      have h := ih (by omega)
      unfold encAt
      dsimp only
      rw [addF_at _ _ _ hq, hR i (by omega) q hq]
      congr 1
      have hs := (shF_E (box := boxF) h).trans (shF_S _)
      by_cases hc : i + 1 < 14
      · rw [if_pos hc, if_pos hc]; exact mixF_S hs q hq
      · rw [if_neg hc, if_neg hc]; exact hs q hq
  exact key 14 (Nat.le_refl _)
def keyA : List Byte := [0#8, 1#8, 2#8, 3#8, 4#8, 5#8, 6#8, 7#8, 8#8, 9#8, 10#8, 11#8, 12#8, 13#8, 14#8, 15#8, 16#8, 17#8, 18#8, 19#8, 20#8, 21#8, 22#8, 23#8, 24#8, 25#8, 26#8, 27#8, 28#8, 29#8, 30#8, 31#8]
def keyB : List Byte := [96#8, 61#8, 235#8, 16#8, 21#8, 202#8, 113#8, 190#8, 43#8, 115#8, 174#8, 240#8, 133#8, 125#8, 119#8, 129#8, 31#8, 53#8, 44#8, 7#8, 59#8, 97#8, 8#8, 215#8, 45#8, 152#8, 16#8, 163#8, 9#8, 20#8, 223#8, 244#8]
def KA : List Byte := [0#8, 1#8, 2#8, 3#8, 4#8, 5#8, 6#8, 7#8, 8#8, 9#8, 10#8, 11#8, 12#8, 13#8, 14#8, 15#8, 16#8, 17#8, 18#8, 19#8, 20#8, 21#8, 22#8, 23#8, 24#8, 25#8, 26#8, 27#8, 28#8, 29#8, 30#8, 31#8, 165#8, 115#8, 194#8, 159#8, 161#8, 118#8, 196#8, 152#8, 169#8, 127#8, 206#8, 147#8, 165#8, 114#8, 192#8, 156#8, 22#8, 81#8, 168#8, 205#8, 2#8, 68#8, 190#8, 218#8, 26#8, 93#8, 164#8, 193#8, 6#8, 64#8, 186#8, 222#8, 174#8, 135#8, 223#8, 240#8, 15#8, 241#8, 27#8, 104#8, 166#8, 142#8, 213#8, 251#8, 3#8, 252#8, 21#8, 103#8, 109#8, 225#8, 241#8, 72#8, 111#8, 165#8, 79#8, 146#8, 117#8, 248#8, 235#8, 83#8, 115#8, 184#8, 81#8, 141#8, 198#8, 86#8, 130#8, 127#8, 201#8, 167#8, 153#8, 23#8, 111#8, 41#8, 76#8, 236#8, 108#8, 213#8, 89#8, 139#8, 61#8, 226#8, 58#8, 117#8, 82#8, 71#8, 117#8, 231#8, 39#8, 191#8, 158#8, 180#8, 84#8, 7#8, 207#8, 57#8, 11#8, 220#8, 144#8, 95#8, 194#8, 123#8, 9#8, 72#8, 173#8, 82#8, 69#8, 164#8, 193#8, 135#8, 28#8, 47#8, 69#8, 245#8, 166#8, 96#8, 23#8, 178#8, 211#8, 135#8, 48#8, 13#8, 77#8, 51#8, 100#8, 10#8, 130#8, 10#8, 124#8, 207#8, 247#8, 28#8, 190#8, 180#8, 254#8, 84#8, 19#8, 230#8, 187#8, 240#8, 210#8, 97#8, 167#8, 223#8, 240#8, 26#8, 250#8, 254#8, 231#8, 168#8, 41#8, 121#8, 215#8, 165#8, 100#8, 74#8, 179#8, 175#8, 230#8, 64#8, 37#8, 65#8, 254#8, 113#8, 155#8, 245#8, 0#8, 37#8, 136#8, 19#8, 187#8, 213#8, 90#8, 114#8, 28#8, 10#8, 78#8, 90#8, 102#8, 153#8, 169#8, 242#8, 79#8, 224#8, 126#8, 87#8, 43#8, 170#8, 205#8, 248#8, 205#8, 234#8, 36#8, 252#8, 121#8, 204#8, 191#8, 9#8, 121#8, 233#8, 55#8, 26#8, 194#8, 60#8, 109#8, 104#8, 222#8, 54#8]
def KB : List Byte := [96#8, 61#8, 235#8, 16#8, 21#8, 202#8, 113#8, 190#8, 43#8, 115#8, 174#8, 240#8, 133#8, 125#8, 119#8, 129#8, 31#8, 53#8, 44#8, 7#8, 59#8, 97#8, 8#8, 215#8, 45#8, 152#8, 16#8, 163#8, 9#8, 20#8, 223#8, 244#8, 155#8, 163#8, 84#8, 17#8, 142#8, 105#8, 37#8, 175#8, 165#8, 26#8, 139#8, 95#8, 32#8, 103#8, 252#8, 222#8, 168#8, 176#8, 156#8, 26#8, 147#8, 209#8, 148#8, 205#8, 190#8, 73#8, 132#8, 110#8, 183#8, 93#8, 91#8, 154#8, 213#8, 154#8, 236#8, 184#8, 91#8, 243#8, 201#8, 23#8, 254#8, 233#8, 66#8, 72#8, 222#8, 142#8, 190#8, 150#8, 181#8, 169#8, 50#8, 138#8, 38#8, 120#8, 166#8, 71#8, 152#8, 49#8, 34#8, 41#8, 47#8, 108#8, 121#8, 179#8, 129#8, 44#8, 129#8, 173#8, 218#8, 223#8, 72#8, 186#8, 36#8, 54#8, 10#8, 242#8, 250#8, 184#8, 180#8, 100#8, 152#8, 197#8, 191#8, 201#8, 190#8, 189#8, 25#8, 142#8, 38#8, 140#8, 59#8, 167#8, 9#8, 224#8, 66#8, 20#8, 104#8, 0#8, 123#8, 172#8, 178#8, 223#8, 51#8, 22#8, 150#8, 233#8, 57#8, 228#8, 108#8, 81#8, 141#8, 128#8, 200#8, 20#8, 226#8, 4#8, 118#8, 169#8, 251#8, 138#8, 80#8, 37#8, 192#8, 45#8, 89#8, 197#8, 130#8, 57#8, 222#8, 19#8, 105#8, 103#8, 108#8, 204#8, 90#8, 113#8, 250#8, 37#8, 99#8, 149#8, 150#8, 116#8, 238#8, 21#8, 88#8, 134#8, 202#8, 93#8, 46#8, 47#8, 49#8, 215#8, 126#8, 10#8, 241#8, 250#8, 39#8, 207#8, 115#8, 195#8, 116#8, 156#8, 71#8, 171#8, 24#8, 80#8, 29#8, 218#8, 226#8, 117#8, 126#8, 79#8, 116#8, 1#8, 144#8, 90#8, 202#8, 250#8, 170#8, 227#8, 228#8, 213#8, 155#8, 52#8, 154#8, 223#8, 106#8, 206#8, 189#8, 16#8, 25#8, 13#8, 254#8, 72#8, 144#8, 209#8, 230#8, 24#8, 141#8, 11#8, 4#8, 109#8, 243#8, 68#8, 112#8, 108#8, 99#8, 30#8]
def RA : List Byte := [0#8, 16#8, 32#8, 48#8, 64#8, 80#8, 96#8, 112#8, 128#8, 144#8, 160#8, 176#8, 192#8, 208#8, 224#8, 240#8, 79#8, 99#8, 118#8, 6#8, 67#8, 224#8, 170#8, 133#8, 239#8, 167#8, 33#8, 50#8, 1#8, 164#8, 231#8, 5#8, 24#8, 89#8, 251#8, 194#8, 138#8, 28#8, 0#8, 160#8, 120#8, 237#8, 138#8, 173#8, 196#8, 47#8, 97#8, 9#8, 151#8, 92#8, 102#8, 193#8, 203#8, 159#8, 63#8, 168#8, 169#8, 58#8, 40#8, 223#8, 142#8, 225#8, 15#8, 99#8, 28#8, 5#8, 242#8, 113#8, 164#8, 23#8, 224#8, 79#8, 249#8, 33#8, 197#8, 193#8, 4#8, 112#8, 21#8, 84#8, 195#8, 87#8, 170#8, 225#8, 27#8, 69#8, 183#8, 176#8, 162#8, 199#8, 189#8, 40#8, 168#8, 220#8, 153#8, 250#8, 127#8, 7#8, 65#8, 67#8, 203#8, 78#8, 36#8, 62#8, 193#8, 12#8, 129#8, 93#8, 131#8, 117#8, 213#8, 76#8, 214#8, 83#8, 164#8, 105#8, 108#8, 160#8, 188#8, 15#8, 90#8, 202#8, 171#8, 93#8, 185#8, 108#8, 94#8, 125#8, 90#8, 168#8, 88#8, 57#8, 95#8, 210#8, 141#8, 125#8, 5#8, 225#8, 163#8, 136#8, 104#8, 243#8, 185#8, 197#8, 74#8, 130#8, 72#8, 81#8, 197#8, 126#8, 126#8, 71#8, 100#8, 61#8, 229#8, 12#8, 42#8, 243#8, 232#8, 201#8, 193#8, 73#8, 7#8, 246#8, 202#8, 59#8, 58#8, 160#8, 112#8, 233#8, 170#8, 49#8, 59#8, 82#8, 181#8, 236#8, 95#8, 156#8, 106#8, 191#8, 186#8, 198#8, 52#8, 170#8, 80#8, 64#8, 159#8, 167#8, 102#8, 103#8, 118#8, 83#8, 81#8, 102#8, 4#8, 149#8, 67#8, 83#8, 149#8, 3#8, 20#8, 251#8, 134#8, 228#8, 1#8, 146#8, 37#8, 33#8, 98#8, 123#8, 206#8, 185#8, 153#8, 157#8, 90#8, 170#8, 201#8, 69#8, 236#8, 244#8, 35#8, 245#8, 109#8, 165#8, 142#8, 162#8, 183#8, 202#8, 81#8, 103#8, 69#8, 191#8, 234#8, 252#8, 73#8, 144#8, 75#8, 73#8, 96#8, 137#8]
def RB : List Byte := [144#8, 204#8, 25#8, 227#8, 225#8, 63#8, 135#8, 73#8, 211#8, 138#8, 84#8, 11#8, 121#8, 128#8, 137#8, 126#8, 147#8, 44#8, 119#8, 15#8, 228#8, 134#8, 232#8, 63#8, 66#8, 35#8, 69#8, 102#8, 159#8, 38#8, 113#8, 63#8, 239#8, 48#8, 143#8, 174#8, 227#8, 196#8, 173#8, 125#8, 127#8, 178#8, 62#8, 195#8, 182#8, 219#8, 46#8, 36#8, 173#8, 172#8, 122#8, 162#8, 61#8, 25#8, 231#8, 43#8, 93#8, 152#8, 19#8, 44#8, 156#8, 145#8, 82#8, 133#8, 105#8, 172#8, 245#8, 128#8, 229#8, 98#8, 230#8, 76#8, 213#8, 56#8, 40#8, 62#8, 52#8, 191#8, 81#8, 8#8, 189#8, 115#8, 89#8, 100#8, 154#8, 10#8, 141#8, 96#8, 73#8, 58#8, 133#8, 144#8, 139#8, 118#8, 58#8, 251#8, 68#8, 53#8, 184#8, 205#8, 233#8, 164#8, 174#8, 239#8, 1#8, 235#8, 239#8, 247#8, 55#8, 7#8, 28#8, 49#8, 109#8, 241#8, 26#8, 231#8, 131#8, 104#8, 17#8, 184#8, 57#8, 10#8, 32#8, 47#8, 11#8, 18#8, 37#8, 3#8, 19#8, 15#8, 250#8, 236#8, 115#8, 40#8, 97#8, 82#8, 60#8, 227#8, 9#8, 97#8, 85#8, 171#8, 39#8, 244#8, 208#8, 189#8, 115#8, 211#8, 66#8, 133#8, 175#8, 90#8, 22#8, 125#8, 19#8, 68#8, 32#8, 16#8, 231#8, 122#8, 59#8, 11#8, 1#8, 178#8, 220#8, 196#8, 16#8, 162#8, 0#8, 217#8, 50#8, 126#8, 15#8, 167#8, 252#8, 226#8, 24#8, 161#8, 193#8, 116#8, 225#8, 63#8, 160#8, 173#8, 26#8, 111#8, 120#8, 11#8, 143#8, 89#8, 175#8, 69#8, 120#8, 106#8, 78#8, 82#8, 251#8, 250#8, 18#8, 39#8, 22#8, 71#8, 67#8, 48#8, 15#8, 6#8, 119#8, 75#8, 119#8, 129#8, 193#8, 118#8, 244#8, 133#8, 197#8, 112#8, 70#8, 251#8, 83#8, 196#8, 154#8, 38#8, 232#8, 84#8, 11#8, 223#8, 125#8, 241#8, 89#8, 23#8, 22#8, 51#8, 94#8, 154#8, 139#8, 21#8, 200#8, 96#8, 197#8, 2#8]
def inA : List Byte := [0#8, 17#8, 34#8, 51#8, 68#8, 85#8, 102#8, 119#8, 136#8, 153#8, 170#8, 187#8, 204#8, 221#8, 238#8, 255#8]
def inB : List Byte := [240#8, 241#8, 242#8, 243#8, 244#8, 245#8, 246#8, 247#8, 248#8, 249#8, 250#8, 251#8, 252#8, 253#8, 254#8, 255#8]
theorem schA : E240 (keyF keyA) (lit KA) := sched rfl (by decide +kernel) (by decide +kernel)
theorem schB : E240 (keyF keyB) (lit KB) := sched rfl (by decide +kernel) (by decide +kernel)
theorem encA : E16 (encF (lit KA) boxF twoF (lit inA)) (fun q => lit RA (224 + q)) := enc_rows (by decide +kernel) (by decide +kernel)
theorem encB : E16 (encF (lit KB) boxF twoF (lit inB)) (fun q => lit RB (224 + q)) := enc_rows (by decide +kernel) (by decide +kernel)
def cntAt (n : Nat) : F8 := fun q => if q < n then BitVec.ofNat 8 q else 0#8
theorem cnt_ok : Iter lethelaw04_AesKnown_l0 (0, fun _ => 0#8) (cntAt 32) := by
  have e0 : (fun _ => 0#8 : F8) = cntAt 0 := by funext q; simp [cntAt]
  rw [e0]
  refine Iter.count (fun i => (i, cntAt i)) 32 (fun i hi => ?_) ?_
  · unfold lethelaw04_AesKnown_l0
    simp only [hi, if_true]
    congr 2
    funext q
    simp only [upd_at, cntAt]
    by_cases hq : q = i
    · subst hq; simp
    · rw [if_neg hq]
      by_cases h2 : q < i
      · rw [if_pos h2, if_pos (by omega)]
      · rw [if_neg h2, if_neg (by omega)]
  · unfold lethelaw04_AesKnown_l0
    simp only [Nat.lt_irrefl, if_false]
theorem dlA : dl 32 (cntAt 32) = keyA := by decide +kernel
theorem aesKnown_true : lethelaw04_AesKnown true := by
  refine ⟨_, cnt_ok, .inr ⟨_, _, _, _, of_ok _, _, enc_ok _ _ _ _ _, ?_⟩⟩
  rw [dlA]
  have e1 : eqB 16 (encF (keyF keyA) boxF twoF (lit inA)) (lit [142#8, 162#8, 183#8, 202#8, 81#8, 103#8, 69#8, 191#8, 234#8, 252#8, 73#8, 144#8, 75#8, 73#8, 96#8, 137#8]) = true := eqB_iff.2 (fun q hq => ((encF_k schA (E16.rfl' (s := lit inA))).trans encA q hq).trans ((show ∀ q, q < 16 → lit RA (224 + q) = lit [142#8, 162#8, 183#8, 202#8, 81#8, 103#8, 69#8, 191#8, 234#8, 252#8, 73#8, 144#8, 75#8, 73#8, 96#8, 137#8] q by decide +kernel) q hq))
  unfold inA at e1
  rw [if_pos e1]
  refine .inr ⟨_, _, _, _, of_ok _, _, str_ok _ _ backF _ _ (by decide), _, Eq_ok _ _, ?_⟩
  have hB : dl 32 (lit keyB) = keyB := by decide +kernel
  symm
  rw [decide_eq_true_eq]
  refine list_ext (by rw [strF_length]; rfl) fun q hq => ?_
  rw [strF_length] at hq
  have hq16 : q < 16 := hq
  rw [strF_at _ _ _ _ _ hq, show q / 16 = 0 by omega, show q % 16 = q by omega]
  show lit _ q ^^^ encF (keyF (dl 32 (lit keyB))) boxF twoF (lit inB) q = _
  rw [hB, (encF_k schB E16.rfl').trans encB q hq16]
  exact (show ∀ q, q < 16 → lit [107#8, 193#8, 190#8, 226#8, 46#8, 64#8, 159#8, 150#8, 233#8, 61#8, 126#8, 17#8, 115#8, 147#8, 23#8, 42#8] q ^^^ lit RB (224 + q) = lit [96#8, 30#8, 195#8, 19#8, 119#8, 87#8, 137#8, 165#8, 183#8, 167#8, 245#8, 4#8, 187#8, 243#8, 210#8, 40#8] q by decide +kernel) q hq16
end Go.Proofs.Ythjkmhdgenmnoaa
