import PyProof.Rows.All
import Wide.All
import OpenK.AllK
import Wide.FinOn
import KE.DataMinMax
import HandS.Base
import HandS.Call
import HandS.List
import HandS.Comp
import HandS.Ends
import HandS.Words
import HandS.Defaults
import HandS.Exc
import HandS.Text
import HandS.Evl
import HandS.IsInst
import HandS.Wide
import HandS.WideBits
import HandS.SortKw
import HandS.Head0
import HandS.Head1
import HandS.Head2
import HandS.HeadEnd
import HandS.HeadHook1
import HandS.HeadHook2
import HandS.EndBits
import KE.IntBitsLaws
import PySem.Challenge.RW_roundmill_k34_whole_deeds
/-! The plain law: rounding in codes. No program in sight. -/
namespace RM
set_option maxRecDepth 10000
/-! ### powers -/
theorem tp (n : Nat) : 0 < 2 ^ n := Nat.two_pow_pos n
theorem pow_split {a b c : Nat} (h : a = b + c) : 2 ^ a = 2 ^ b * 2 ^ c := by rw [h, Nat.pow_add]
/-- the value of a code, in steps of 2 ^ L -/
def val (F c : Nat) : Nat := if c / 2 ^ F = 0 then c else (2 ^ F + c % 2 ^ F) * 2 ^ (c / 2 ^ F - 1)
theorem val_kw {F k w : Nat} (h : w < 2 ^ (F + 1)) (hk : k = 0 ∨ 2 ^ F ≤ w) : val F (k * 2 ^ F + w) = w * 2 ^ k := by
  have hp := tp F
  have e2 : 2 ^ (F + 1) = 2 ^ F * 2 := by rw [Nat.pow_succ]
  rw [e2] at h
  unfold val
  by_cases hw : w < 2 ^ F
  · have k0 : k = 0 := by omega
    subst k0
    have e : (0 * 2 ^ F + w) / 2 ^ F = 0 := by rw [Nat.zero_mul, Nat.zero_add]; exact Nat.div_eq_of_lt hw
    rw [if_pos e]
    simp
  · obtain ⟨r, hr⟩ : ∃ r, w = 2 ^ F + r := ⟨w - 2 ^ F, by omega⟩
    subst hr
    have hr2 : r < 2 ^ F := by omega
    have e0 : k * 2 ^ F + (2 ^ F + r) = r + (k + 1) * 2 ^ F := by rw [Nat.succ_mul]; omega
    have e : (k * 2 ^ F + (2 ^ F + r)) / 2 ^ F = k + 1 := by
      rw [e0, Nat.add_mul_div_right _ _ hp, Nat.div_eq_of_lt hr2, Nat.zero_add]
    have e3 : (k * 2 ^ F + (2 ^ F + r)) % 2 ^ F = r := by
      rw [e0, Nat.add_mul_mod_self_right, Nat.mod_eq_of_lt hr2]
    rw [if_neg (by rw [e]; omega), e, e3]
    rfl
theorem val_kw_succ {F k w : Nat} (h : w < 2 ^ (F + 1)) (hk : k = 0 ∨ 2 ^ F ≤ w) : val F (k * 2 ^ F + w + 1) = (w + 1) * 2 ^ k := by
  have hp := tp F
  by_cases h1 : w + 1 < 2 ^ (F + 1)
  · have := val_kw (F := F) (k := k) (w := w + 1) h1 (by omega)
    rw [← Nat.add_assoc] at this
    exact this
  · have e : w + 1 = 2 ^ (F + 1) := by omega
    have e2 : 2 ^ (F + 1) = 2 ^ F * 2 := by rw [Nat.pow_succ]
    have e3 : k * 2 ^ F + w + 1 = (k + 1) * 2 ^ F + 2 ^ F := by rw [Nat.succ_mul]; omega
    rw [e3, val_kw (k := k + 1) (w := 2 ^ F) (by rw [e2]; omega) (Or.inr (Nat.le_refl _)), e, e2, Nat.pow_succ, Nat.mul_assoc, Nat.mul_comm 2 (2 ^ k)]
theorem decomp (F c : Nat) : ∃ k w, w < 2 ^ (F + 1) ∧ (k = 0 ∨ 2 ^ F ≤ w) ∧ c = k * 2 ^ F + w := by
  have hp := tp F
  have e2 : 2 ^ (F + 1) = 2 ^ F * 2 := by rw [Nat.pow_succ]
  have hd := Nat.div_add_mod c (2 ^ F)
  have hm := Nat.mod_lt c hp
  by_cases h : c / 2 ^ F = 0
  · refine ⟨0, c, ?_, Or.inl rfl, by simp⟩
    rw [h, Nat.mul_zero, Nat.zero_add] at hd
    rw [e2]
    omega
  · obtain ⟨n, hn⟩ : ∃ n, c / 2 ^ F = n + 1 := ⟨c / 2 ^ F - 1, (Nat.succ_pred_eq_of_ne_zero h).symm⟩
    refine ⟨n, 2 ^ F + c % 2 ^ F, by rw [e2]; omega, Or.inr (Nat.le_add_right _ _), ?_⟩
    rw [hn, Nat.mul_comm, Nat.succ_mul] at hd
    omega
theorem val_lt_succ (F c : Nat) : val F c < val F (c + 1) := by
  obtain ⟨k, w, h1, h2, rfl⟩ := decomp F c
  rw [val_kw h1 h2, val_kw_succ h1 h2]
  exact Nat.mul_lt_mul_of_pos_right (Nat.lt_succ_self _) (tp k)
theorem val_lt {F a b : Nat} (h : a < b) : val F a < val F b := by
  induction b with
  | zero => omega
  | succ b ih =>
    by_cases e : a = b
    · subst e; exact val_lt_succ F a
    · exact Nat.lt_trans (ih (by omega)) (val_lt_succ F b)
theorem val_le {F a b : Nat} (h : a ≤ b) : val F a ≤ val F b := by
  rcases Nat.lt_or_eq_of_le h with h | h
  · exact Nat.le_of_lt (val_lt h)
  · rw [h]; exact Nat.le_refl _
theorem lt_of_val {F a b : Nat} (h : val F a < val F b) : a < b := by
  apply Nat.lt_of_not_le
  intro q
  have := val_le (F := F) q
  omega
theorem val_inj {F a b : Nat} (h : val F a = val F b) : a = b := by
  rcases Nat.lt_trichotomy a b with q | q | q
  · have := val_lt (F := F) q; omega
  · exact q
  · have := val_lt (F := F) q; omega
theorem val_zero (F : Nat) : val F 0 = 0 := by unfold val; simp
theorem val_small {F c : Nat} (h : c < 2 ^ F) : val F c = c := by
  unfold val
  rw [if_pos (Nat.div_eq_of_lt h)]
theorem val_pow {F j : Nat} : val F ((j + 1) * 2 ^ F) = 2 ^ (F + j) := by
  have h := val_kw (F := F) (k := j) (w := 2 ^ F) (by rw [Nat.pow_succ]; have := tp F; omega) (Or.inr (Nat.le_refl _))
  rw [← Nat.succ_mul] at h
  rw [h, Nat.pow_add]
theorem val_ge_pow {F c : Nat} (h : 2 ^ F ≤ c) : 2 ^ F ≤ val F c := by
  have e : val F (2 ^ F) = 2 ^ F := by
    have := val_pow (F := F) (j := 0)
    simpa using this
  have := val_le (F := F) h
  omega
theorem val_ge_pow_iff {F c : Nat} : 2 ^ F ≤ val F c ↔ 2 ^ F ≤ c := by
  constructor
  · intro h
    apply Nat.le_of_not_lt
    intro q
    rw [val_small q] at h
    omega
  · exact val_ge_pow
/-! ### sizes -/
structure Sz (E F : Nat) : Prop where
  e2 : 2 ≤ E
  e15 : E ≤ 15
  f1 : 1 ≤ F
  f112 : F ≤ 112
/-- the half of the fields; the steps below one: L = - st -/
def hf (E : Nat) : Nat := 2 ^ (E - 1)
def st (E F : Nat) : Nat := hf E - 2 + F
def last (E F : Nat) : Nat := (2 ^ E - 1) * 2 ^ F
def top (E F : Nat) : Nat := 2 ^ (E + F)
theorem hf2 {E F : Nat} (z : Sz E F) : 2 ≤ hf E := by
  unfold hf
  have : 2 ^ 1 ≤ 2 ^ (E - 1) := Nat.pow_le_pow_right (by decide) (by have := z.e2; omega)
  simpa using this
theorem hf_dbl {E F : Nat} (z : Sz E F) : 2 ^ E = 2 * hf E := by
  unfold hf
  have := z.e2
  obtain ⟨n, rfl⟩ : ∃ n, E = n + 1 := ⟨E - 1, by omega⟩
  rw [Nat.pow_succ, Nat.mul_comm]
  rfl
theorem last_lt_top {E F : Nat} (z : Sz E F) : last E F + 2 ^ F = top E F := by
  unfold last top
  have h := tp E
  rw [← Nat.succ_mul, Nat.pow_add]
  congr 1
  omega
theorem last_ge {E F : Nat} (z : Sz E F) : 3 * 2 ^ F ≤ last E F := by
  unfold last
  apply Nat.mul_le_mul_right
  have := hf2 z
  have := hf_dbl z
  omega
theorem val_last {E F : Nat} (z : Sz E F) : val F (last E F) = 2 ^ (F + (2 * hf E - 2)) := by
  unfold last
  have h1 := hf2 z
  have h2 := hf_dbl z
  have e : 2 ^ E - 1 = (2 * hf E - 2) + 1 := by omega
  rw [e]
  exact val_pow
theorem val_last2 {E F : Nat} (z : Sz E F) : val F (last E F - 2 ^ F) = 2 ^ (F + (2 * hf E - 3)) := by
  unfold last
  have h1 := hf2 z
  have h2 := hf_dbl z
  have e : (2 ^ E - 1) * 2 ^ F - 2 ^ F = ((2 * hf E - 3) + 1) * 2 ^ F := by
    rw [show 2 ^ E - 1 = ((2 * hf E - 3) + 1) + 1 by omega, Nat.succ_mul]
    omega
  rw [e]
  exact val_pow
/-! ### ways -/
inductive W5 where
  | even | away | nought | up | down
  deriving DecidableEq
def grows : W5 → Nat → Bool → Nat → Bool
  | .even, _, odd, r => if r = 2 then odd else decide (r = 3)
  | .away, _, _, r => if r = 2 then true else decide (r = 3)
  | .nought, _, _, _ => false
  | .up, s, _, r => decide (0 < r) && decide (s = 0)
  | .down, s, _, r => decide (0 < r) && decide (s = 1)
def bursts : W5 → Nat → Bool
  | .even, _ => true
  | .away, _ => true
  | .nought, _ => false
  | .up, s => decide (s = 0)
  | .down, s => decide (s = 1)
/-- what a cut settles to: code and flags -/
def settle (E F : Nat) (wy : W5) (s c r : Nat) (small : Bool) : Nat × Nat :=
  if last E F ≤ c then (if bursts wy s then (last E F, 5) else (last E F - 1, 5))
  else if r = 0 then (c, 0)
  else
    let c' := if grows wy s (decide (c % 2 = 1)) r then c + 1 else c
    (c', (1 ||| (if small then 2 else 0)) ||| (if c' = last E F then 4 else 0))
/-! ### the law's look -/
def outw (wy : W5) (s : Nat) : Bool := (decide (wy = .up) && decide (s = 0)) || (decide (wy = .down) && decide (s = 1))
def nearB (wy : W5) (out : Bool) (lean : Int) (ev : Bool) : Bool :=
  if wy = .even then decide (lean < 0) || (decide (lean = 0) && ev) else if wy = .away then decide (lean < 0) else !out
def farB (wy : W5) (out : Bool) (lean : Int) (ev : Bool) : Bool :=
  if wy = .even then decide (0 < lean) || (decide (lean = 0) && ev) else if wy = .away then decide (0 ≤ lean) else out
def fairB (E F : Nat) (wy : W5) (s tall bottom c fl : Nat) : Bool :=
  if c = last E F ∧ val F c * bottom ≤ tall then decide (fl = 5) && (decide (wy = .even) || decide (wy = .away) || outw wy s)
  else if tall = val F c * bottom then decide (fl = 0)
  else if val F c * bottom < tall then
    (if val F (c + 1) * bottom ≤ tall then decide (fl = 5) && (decide (c + 1 = last E F) && (!decide (wy = .even) && (!decide (wy = .away) && !outw wy s)))
     else decide (fl = if tall < bottom * 2 ^ F then 3 else 1) && nearB wy (outw wy s) (2 * (tall : Int) - (val F c * bottom : Nat) - (val F (c + 1) * bottom : Nat)) (decide (c % 2 = 0)))
  else if tall ≤ val F (c - 1) * bottom then false
  else decide (fl = if c = last E F then 5 else if tall < bottom * 2 ^ F then 3 else 1) && farB wy (outw wy s) (2 * (tall : Int) - (val F c * bottom : Nat) - (val F (c - 1) * bottom : Nat)) (decide (c % 2 = 0))
/-- N / D lies at code c with the rest r -/
structure Near (F N D c r : Nat) : Prop where
  lo : val F c * D ≤ N
  hi : N < val F (c + 1) * D
  r0 : r = 0 → N = val F c * D
  r1 : r = 1 → val F c * D < N ∧ 2 * N < val F c * D + val F (c + 1) * D
  r2 : r = 2 → val F c * D < N ∧ 2 * N = val F c * D + val F (c + 1) * D
  r3 : r = 3 → val F c * D < N ∧ val F c * D + val F (c + 1) * D < 2 * N
  r4 : r ≤ 3
theorem scale_le {a b c d m n : Nat} (hm : 0 < m) (h1 : a * m = c * n) (h2 : b * m = d * n) (hn : 0 < n) : a ≤ b ↔ c ≤ d := by
  constructor
  · intro h
    have := Nat.mul_le_mul_right m h
    rw [h1, h2] at this
    exact Nat.le_of_mul_le_mul_right this hn
  · intro h
    have := Nat.mul_le_mul_right n h
    rw [← h1, ← h2] at this
    exact Nat.le_of_mul_le_mul_right this hm
theorem scale_lt {a b c d m n : Nat} (hm : 0 < m) (h1 : a * m = c * n) (h2 : b * m = d * n) (hn : 0 < n) : a < b ↔ c < d := by
  have := scale_le hm h2 h1 hn
  omega
theorem scale_eq {a b c d m n : Nat} (hm : 0 < m) (h1 : a * m = c * n) (h2 : b * m = d * n) (hn : 0 < n) : a = b ↔ c = d := by
  have := scale_le hm h2 h1 hn
  have := scale_le hm h1 h2 hn
  omega
/-- the same number, written with other tops and bottoms -/
theorem Near.scale {F N D N' D' c r : Nat} (h : Near F N D c r) (hD : 0 < D) (hD' : 0 < D') (e : N * D' = N' * D) : Near F N' D' c r := by
  have v : ∀ x : Nat, x * D * D' = x * D' * D := fun x => by rw [Nat.mul_assoc, Nat.mul_comm D D', ← Nat.mul_assoc]
  have t2 : 2 * N * D' = 2 * N' * D := by rw [Nat.mul_assoc, e, Nat.mul_assoc]
  have vv : (val F c * D + val F (c + 1) * D) * D' = (val F c * D' + val F (c + 1) * D') * D := by
    rw [Nat.add_mul, Nat.add_mul, v, v]
  refine ⟨(scale_le hD' (v _) e hD).mp h.lo, (scale_lt hD' e (v _) hD).mp h.hi, fun q => (scale_eq hD' e (v _) hD).mp (h.r0 q), fun q => ?_, fun q => ?_, fun q => ?_, h.r4⟩
  · exact ⟨(scale_lt hD' (v _) e hD).mp (h.r1 q).1, (scale_lt hD' t2 vv hD).mp (h.r1 q).2⟩
  · exact ⟨(scale_lt hD' (v _) e hD).mp (h.r2 q).1, (scale_eq hD' t2 vv hD).mp (h.r2 q).2⟩
  · exact ⟨(scale_lt hD' (v _) e hD).mp (h.r3 q).1, (scale_lt hD' vv t2 hD).mp (h.r3 q).2⟩
theorem Near.small {F N D c r : Nat} (h : Near F N D c r) (hD : 0 < D) : N < D * 2 ^ F ↔ c < 2 ^ F := by
  constructor
  · intro q
    apply Nat.lt_of_not_le
    intro k
    have h1 := Nat.mul_le_mul_right D (val_ge_pow k)
    have h2 := h.lo
    rw [Nat.mul_comm] at q
    omega
  · intro q
    have h1 : val F (c + 1) ≤ 2 ^ F := by
      have e : val F (2 ^ F) = 2 ^ F := by have := val_pow (F := F) (j := 0); simpa using this
      rw [← e]
      exact val_le q
    have h2 := Nat.mul_le_mul_right D h1
    have h3 := h.hi
    rw [Nat.mul_comm D]
    omega
theorem settle_le {E F : Nat} (z : Sz E F) (wy : W5) (s c r : Nat) (b : Bool) : (settle E F wy s c r b).1 ≤ last E F := by
  unfold settle
  split
  · split
    · exact Nat.le_refl _
    · exact Nat.sub_le _ _
  · split
    · show c ≤ _
      omega
    · by_cases hg : grows wy s (decide (c % 2 = 1)) r = true
      · simp only [if_pos hg]
        omega
      · simp only [if_neg hg]
        omega
theorem fair_ok {E F : Nat} (z : Sz E F) {wy : W5} {s N D c r : Nat} (hs : s ≤ 1) (hD : 0 < D) (h : Near F N D c r) :
    fairB E F wy s N D (settle E F wy s c r (decide (c < 2 ^ F))).1 (settle E F wy s c r (decide (c < 2 ^ F))).2 = true := by
  have hlg := last_ge z
  have hp := tp F
  have hsm := h.small hD
  unfold settle
  by_cases hc : last E F ≤ c
  · rw [if_pos hc]
    have hN : val F (last E F) * D ≤ N := Nat.le_trans (Nat.mul_le_mul_right D (val_le hc)) h.lo
    by_cases hb : bursts wy s = true
    · rw [if_pos hb]
      unfold fairB
      rw [if_pos ⟨rfl, hN⟩]
      revert hb
      cases wy <;> simp [bursts, outw]
    · rw [if_neg hb]
      unfold fairB
      have e1 : last E F - 1 + 1 = last E F := by omega
      have l1 : val F (last E F - 1) * D < val F (last E F) * D := Nat.mul_lt_mul_of_pos_right (val_lt (by omega)) hD
      rw [if_neg (by omega), if_neg (by show ¬ N = val F (last E F - 1) * D; omega), if_pos (by show val F (last E F - 1) * D < N; omega), if_pos (by rw [e1]; exact hN)]
      revert hb
      cases wy <;> simp [bursts, outw, e1]
  · rw [if_neg hc]
    by_cases hr : r = 0
    · rw [if_pos hr]
      unfold fairB
      have e := h.r0 hr
      rw [if_neg (by omega), if_pos e]
      rfl
    · rw [if_neg hr]
      have hlo : val F c * D < N := by
        have h4 := h.r4
        have h1 := h.r1
        have h2 := h.r2
        have h3 := h.r3
        omega
      have hhi := h.hi
      by_cases hg : grows wy s (decide (c % 2 = 1)) r = true
      · simp only [if_pos hg]
        unfold fairB
        have l2 : val F (c + 1 - 1) = val F c := by rw [Nat.add_sub_cancel]
        rw [if_neg (by omega), if_neg (by show ¬ N = val F (c + 1) * D; omega), if_neg (by show ¬ val F (c + 1) * D < N; omega), l2, if_neg (by omega), Bool.and_eq_true]
        constructor
        · by_cases hl : c + 1 = last E F
          · have : ¬ c < 2 ^ F := by omega
            simp [hl, this]
          · by_cases q : N < D * 2 ^ F
            · have := hsm.mp q
              simp [hl, q, this]
            · have : ¬ c < 2 ^ F := fun k => q (hsm.mpr k)
              simp [hl, q, this]
        · revert hg
          have h2 := h.r2
          have h3 := h.r3
          have h4 := h.r4
          have par : (c + 1) % 2 = 0 ↔ c % 2 = 1 := by omega
          cases wy with
          | even =>
            intro hg
            simp only [grows] at hg
            simp only [farB, if_true]
            by_cases q : r = 2
            · rw [if_pos q] at hg
              have q2 := (h2 q).2
              have q3 : c % 2 = 1 := by simpa using hg
              have e0 : 2 * (N : Int) - (val F (c + 1) * D : Nat) - (val F c * D : Nat) = 0 := by omega
              rw [e0, decide_eq_true (par.mpr q3)]
              rfl
            · rw [if_neg q] at hg
              have q2 := (h3 (by simpa using hg)).2
              have e0 : 0 < 2 * (N : Int) - (val F (c + 1) * D : Nat) - (val F c * D : Nat) := by omega
              rw [decide_eq_true e0]
              rfl
          | away =>
            intro hg
            simp only [grows] at hg
            unfold farB
            have e0 : 0 ≤ 2 * (N : Int) - (val F (c + 1) * D : Nat) - (val F c * D : Nat) := by
              by_cases q : r = 2
              · have q2 := (h2 q).2
                omega
              · rw [if_neg q] at hg
                have q2 := (h3 (by simpa using hg)).2
                omega
            rw [if_neg (by decide), if_pos rfl, decide_eq_true e0]
          | nought => intro hg; simp [grows] at hg
          | up => intro hg; simp [grows] at hg; simp [farB, outw, hg.2]
          | down => intro hg; simp [grows] at hg; simp [farB, outw, hg.2]
      · simp only [if_neg hg]
        unfold fairB
        rw [if_neg (by omega), if_neg (by show ¬ N = val F c * D; omega), if_pos hlo, if_neg (by omega), Bool.and_eq_true]
        constructor
        · have hl : ¬ c = last E F := by omega
          by_cases q : N < D * 2 ^ F
          · have := hsm.mp q
            simp [hl, q, this]
          · have : ¬ c < 2 ^ F := fun k => q (hsm.mpr k)
            simp [hl, q, this]
        · revert hg
          have h1 := h.r1
          have h2 := h.r2
          have h4 := h.r4
          cases wy with
          | even =>
            intro hg
            simp only [grows] at hg
            simp only [nearB, if_true]
            by_cases q : r = 2
            · rw [if_pos q] at hg
              have q2 := (h2 q).2
              have q3 : ¬ c % 2 = 1 := by simpa using hg
              have e0 : 2 * (N : Int) - (val F c * D : Nat) - (val F (c + 1) * D : Nat) = 0 := by omega
              have q4 : c % 2 = 0 := by omega
              rw [e0, decide_eq_true q4]
              rfl
            · rw [if_neg q] at hg
              have q3 : r ≠ 3 := by simpa using hg
              have q2 := (h1 (by omega)).2
              have e0 : 2 * (N : Int) - (val F c * D : Nat) - (val F (c + 1) * D : Nat) < 0 := by omega
              rw [decide_eq_true e0]
              rfl
          | away =>
            intro hg
            simp only [grows] at hg
            have e0 : 2 * (N : Int) - (val F c * D : Nat) - (val F (c + 1) * D : Nat) < 0 := by
              by_cases q : r = 2
              · rw [if_pos q] at hg
                exact absurd rfl hg
              · rw [if_neg q] at hg
                have q3 : r ≠ 3 := by simpa using hg
                have q2 := (h1 (by omega)).2
                omega
            unfold nearB
            rw [if_neg (by decide), if_pos rfl, decide_eq_true e0]
          | nought => intro _; simp [nearB, outw]
          | up =>
            intro hg
            have : s ≠ 0 := by
              intro q
              apply hg
              simp [grows, q]
              omega
            simp [nearB, outw, this]
          | down =>
            intro hg
            have : s ≠ 1 := by
              intro q
              apply hg
              simp [grows, q]
              omega
            simp [nearB, outw, this]
end RM
namespace RM
set_option maxRecDepth 10000
/-! ### cuts -/
def blen (n : Nat) : Nat := if n = 0 then 0 else n.log2 + 1
theorem blen_lt (n : Nat) : n < 2 ^ blen n := by
  unfold blen
  split
  · omega
  · exact Nat.lt_log2_self
theorem blen_le {n : Nat} (h : 0 < n) : 2 ^ blen n ≤ 2 * n := by
  unfold blen
  rw [if_neg (by omega), Nat.pow_succ]
  have := Nat.log2_self_le (show n ≠ 0 by omega)
  omega
theorem blen_pos {n : Nat} (h : 0 < n) : 0 < blen n := by
  unfold blen
  rw [if_neg (by omega)]
  omega
def up (p : Int) : Nat := 2 ^ p.toNat
def dn (p : Int) : Nat := 2 ^ (-p).toNat
theorem up_pos (p : Int) : 0 < up p := tp _
theorem dn_pos (p : Int) : 0 < dn p := tp _
theorem updn {p : Int} {n m : Nat} (h : p + n = m) : dn p * 2 ^ m = 2 ^ n * up p := by
  unfold dn up
  rw [← Nat.pow_add, ← Nat.pow_add]
  congr 1
  omega
/-- top / bottom < 2 ^ p -/
def Lt2 (a b : Nat) (p : Int) : Prop := a * dn p < b * up p
theorem Lt2_iff {a b : Nat} {p : Int} {n m : Nat} (h : p + n = m) : Lt2 a b p ↔ a * 2 ^ n < b * 2 ^ m := by
  unfold Lt2
  have e := updn h
  refine scale_lt (tp m) (n := up p) ?_ ?_ (up_pos p)
  · rw [Nat.mul_assoc, e, Nat.mul_assoc]
  · rw [Nat.mul_assoc, Nat.mul_assoc, Nat.mul_comm (up p)]
theorem Lt2_mono {a b : Nat} {p q : Int} (h : p ≤ q) (l : Lt2 a b p) : Lt2 a b q := by
  obtain ⟨n, m, k, e1, e2⟩ : ∃ n m k : Nat, p + n = m ∧ q + n = (m + k : Nat) := ⟨(-p).toNat, (p + (-p).toNat).toNat, (q - p).toNat, by omega, by omega⟩
  rw [Lt2_iff e1] at l
  rw [Lt2_iff e2, Nat.pow_add, ← Nat.mul_assoc]
  have : b * 2 ^ m * 1 ≤ b * 2 ^ m * 2 ^ k := Nat.mul_le_mul_left _ (tp k)
  omega
def aheadI (a b : Nat) : Int := if a * dn ((blen a : Int) - blen b) < b * up ((blen a : Int) - blen b) then (blen a : Int) - blen b else (blen a : Int) - blen b + 1
theorem ahead_ok {a b : Nat} (ha : 0 < a) (hb : 0 < b) : Lt2 a b (aheadI a b) ∧ ¬ Lt2 a b (aheadI a b - 1) := by
  have a1 := blen_lt a
  have a2 := blen_le ha
  have b1 := blen_lt b
  have b2 := blen_le hb
  have p1 : Lt2 a b ((blen a : Int) - blen b + 1) := by
    rw [Lt2_iff (n := blen b) (m := blen a + 1) (by omega), Nat.pow_succ]
    calc a * 2 ^ blen b ≤ a * (2 * b) := Nat.mul_le_mul_left _ b2
      _ < 2 ^ blen a * (2 * b) := Nat.mul_lt_mul_of_pos_right a1 (by omega)
      _ = b * (2 ^ blen a * 2) := by rw [Nat.mul_comm 2 b, ← Nat.mul_assoc, ← Nat.mul_assoc, Nat.mul_comm b]
  have p2 : ¬ Lt2 a b ((blen a : Int) - blen b - 1) := by
    have e : (blen a : Int) - blen b - 1 + (blen b + 1 : Nat) = blen a := by omega
    rw [Lt2_iff e, Nat.pow_succ]
    have q1 : b * 2 ^ blen a ≤ b * (2 * a) := Nat.mul_le_mul_left _ a2
    have q2 : b * (2 * a) ≤ 2 ^ blen b * (2 * a) := Nat.mul_le_mul_right _ (Nat.le_of_lt b1)
    have q3 : 2 ^ blen b * (2 * a) = a * (2 ^ blen b * 2) := by rw [Nat.mul_comm 2 a, ← Nat.mul_assoc, ← Nat.mul_assoc, Nat.mul_comm a]
    omega
  unfold aheadI
  split
  · exact ⟨by assumption, p2⟩
  · refine ⟨p1, ?_⟩
    rw [Int.add_sub_cancel]
    assumption
theorem ahead_le (a b : Nat) : aheadI a b ≤ blen a + 1 := by
  unfold aheadI
  split <;> omega
theorem ahead_ge (a b : Nat) : -(blen b : Int) ≤ aheadI a b := by
  unfold aheadI
  split <;> omega
def restOf (l h : Nat) : Nat := if l = 0 then 0 else if l < h then 1 else if l = h then 2 else 3
theorem rest_le (l h : Nat) : restOf l h ≤ 3 := by
  unfold restOf
  repeat' split
  all_goals omega
def maxI (i j : Int) : Int := if j > i then j else i
def cutP (E F a b : Nat) : Int := maxI (-(st E F : Int)) (aheadI a b - F - 1)
def cutM (E F a b : Nat) : Nat × Int × Nat :=
  if a = 0 then (0, -(st E F : Int), 0)
  else (a * dn (cutP E F a b) / (b * up (cutP E F a b)), cutP E F a b, restOf (2 * (a * dn (cutP E F a b) % (b * up (cutP E F a b)))) (b * up (cutP E F a b)))
/-- a cut of N / D in steps: whole, power, rest -/
structure CutOk (E F : Nat) (k w : Nat) : Prop where
  lt : w < 2 ^ (F + 1)
  ge : k = 0 ∨ 2 ^ F ≤ w
theorem maxI_ge (i j : Int) : i ≤ maxI i j ∧ j ≤ maxI i j ∧ (maxI i j = i ∨ maxI i j = j) := by
  unfold maxI
  split <;> omega
theorem floor_lt {t w q : Nat} (hw : 0 < w) : t / w < q ↔ t < q * w := Nat.div_lt_iff_lt_mul hw
theorem floor_ge {t w q : Nat} (hw : 0 < w) : q ≤ t / w ↔ q * w ≤ t := Nat.le_div_iff_mul_le hw
theorem rest_near {F c t W N D m n k w : Nat} (hW : 0 < W) (hw : w = t / W) (hv : val F c = w * 2 ^ k) (hv1 : val F (c + 1) = (w + 1) * 2 ^ k)
    (hm : 0 < m) (hn : 0 < n) (e1 : N * m = t * n) (e2 : ∀ x : Nat, x * 2 ^ k * D * m = x * W * n) : Near F N D c (restOf (2 * (t % W)) W) := by
  have hd : W * w + t % W = t := by rw [hw]; exact Nat.div_add_mod t W
  have hl := Nat.mod_lt t hW
  have c1 : w * W = W * w := Nat.mul_comm _ _
  have c2 : (w + 1) * W = W * w + W := by rw [Nat.succ_mul, c1]
  have t2 : 2 * N * m = 2 * t * n := by rw [Nat.mul_assoc, e1, Nat.mul_assoc]
  have vv : (w * 2 ^ k * D + (w + 1) * 2 ^ k * D) * m = (w * W + (w + 1) * W) * n := by rw [Nat.add_mul, e2, e2, ← Nat.add_mul]
  have hr4 := rest_le (2 * (t % W)) W
  refine ⟨?_, ?_, fun q => ?_, fun q => ?_, fun q => ?_, fun q => ?_, hr4⟩
  · rw [hv]; exact (scale_le hm (e2 w) e1 hn).mpr (by omega)
  · rw [hv1]; exact (scale_lt hm e1 (e2 (w + 1)) hn).mpr (by omega)
  all_goals rw [hv]
  all_goals try rw [hv1]
  · refine (scale_eq hm e1 (e2 w) hn).mpr ?_
    unfold restOf at q
    split at q
    · omega
    · split at q
      · omega
      · split at q <;> omega
  all_goals
    unfold restOf at q
    split at q
    · omega
    · split at q
      · refine ⟨(scale_lt hm (e2 w) e1 hn).mpr (by omega), ?_⟩
        first
          | exact (scale_lt hm t2 vv hn).mpr (by omega)
          | omega
      · split at q
        · refine ⟨(scale_lt hm (e2 w) e1 hn).mpr (by omega), ?_⟩
          first
            | exact (scale_eq hm t2 vv hn).mpr (by omega)
            | omega
        · refine ⟨(scale_lt hm (e2 w) e1 hn).mpr (by omega), ?_⟩
          first
            | exact (scale_lt hm vv t2 hn).mpr (by omega)
            | omega
theorem cut_ok {E F a b : Nat} (ha : 0 < a) (hb : 0 < b) : ∃ k : Nat, (cutM E F a b).2.1 = (k : Int) - st E F ∧ k ≤ blen a + st E F ∧ CutOk E F k (cutM E F a b).1 ∧
    Near F (a * 2 ^ st E F) b (k * 2 ^ F + (cutM E F a b).1) (cutM E F a b).2.2 := by
  unfold cutM
  rw [if_neg (by omega)]
  obtain ⟨m1, m2, m3⟩ := maxI_ge (-(st E F : Int)) (aheadI a b - F - 1)
  obtain ⟨q1, q2⟩ := ahead_ok ha hb
  have q3 := ahead_le a b
  change -(st E F : Int) ≤ cutP E F a b at m1
  change aheadI a b - F - 1 ≤ cutP E F a b at m2
  change cutP E F a b = _ ∨ cutP E F a b = _ at m3
  generalize hp : cutP E F a b = p at m1 m2 m3
  obtain ⟨k, hk⟩ : ∃ k : Nat, p + st E F = k := ⟨(p + st E F).toNat, by omega⟩
  have hW : 0 < b * up p := Nat.mul_pos hb (up_pos p)
  have bp := blen_pos ha
  have lt : a * dn p / (b * up p) < 2 ^ (F + 1) := by
    rw [floor_lt hW]
    have l := Lt2_mono (q := p + F + 1) (by omega) q1
    obtain ⟨n, m, e⟩ : ∃ n m : Nat, p + n = m := ⟨(-p).toNat, (p + (-p).toNat).toNat, by omega⟩
    have e' : p + F + 1 + n = (m + (F + 1) : Nat) := by omega
    rw [Lt2_iff e', Nat.pow_add, ← Nat.mul_assoc] at l
    have u := updn e
    refine (scale_lt (tp m) (n := up p) (c := a * 2 ^ n) (d := b * 2 ^ m * 2 ^ (F + 1)) ?_ ?_ (up_pos p)).mpr l
    · rw [Nat.mul_assoc, u, Nat.mul_assoc]
    · rw [Nat.mul_comm (2 ^ (F + 1)), Nat.mul_assoc (b * up p), Nat.mul_comm (2 ^ (F + 1)), ← Nat.mul_assoc, Nat.mul_assoc b (up p), Nat.mul_comm (up p), ← Nat.mul_assoc, Nat.mul_assoc (b * 2 ^ m), Nat.mul_comm (up p), ← Nat.mul_assoc]
  have ge : k = 0 ∨ 2 ^ F ≤ a * dn p / (b * up p) := by
    by_cases k0 : k = 0
    · exact Or.inl k0
    · right
      rw [floor_ge hW]
      have pe : p = aheadI a b - F - 1 := by omega
      have l : ¬ Lt2 a b (p + F) := by rw [pe, show aheadI a b - F - 1 + F = aheadI a b - 1 by omega]; exact q2
      obtain ⟨n, m, e⟩ : ∃ n m : Nat, p + n = m := ⟨(-p).toNat, (p + (-p).toNat).toNat, by omega⟩
      have e' : p + F + n = (m + F : Nat) := by omega
      rw [Lt2_iff e', Nat.pow_add, ← Nat.mul_assoc, Nat.not_lt] at l
      have u := updn e
      refine (scale_le (tp m) (n := up p) (c := b * 2 ^ m * 2 ^ F) (d := a * 2 ^ n) ?_ ?_ (up_pos p)).mpr l
      · rw [Nat.mul_comm (2 ^ F), Nat.mul_assoc (b * up p), Nat.mul_comm (2 ^ F), ← Nat.mul_assoc, Nat.mul_assoc b (up p), Nat.mul_comm (up p), ← Nat.mul_assoc, Nat.mul_assoc (b * 2 ^ m), Nat.mul_comm (up p), ← Nat.mul_assoc]
      · rw [Nat.mul_assoc, u, Nat.mul_assoc]
  refine ⟨k, by show p = _; omega, by omega, ⟨lt, ge⟩, ?_⟩
  have u := updn hk
  refine rest_near (m := up p) (n := 2 ^ k) (k := k) hW rfl (val_kw lt ge) (val_kw_succ lt ge) (up_pos p) (tp k) ?_ ?_
  · show a * 2 ^ st E F * up p = a * dn p * 2 ^ k
    rw [Nat.mul_assoc, ← u, Nat.mul_assoc]
  · intro x
    ac_rfl
/-! ### roots -/
def isq : Nat → Nat
  | 0 => 0
  | n + 1 => if (isq n + 1) * (isq n + 1) ≤ n + 1 then isq n + 1 else isq n
theorem isq_ok : ∀ n : Nat, isq n * isq n ≤ n ∧ n < (isq n + 1) * (isq n + 1)
  | 0 => by simp [isq]
  | n + 1 => by
    obtain ⟨h1, h2⟩ := isq_ok n
    unfold isq
    split
    · rename_i h
      refine ⟨h, ?_⟩
      have : (isq n + 1 + 1) * (isq n + 1 + 1) = (isq n + 1) * (isq n + 1) + 2 * (isq n + 1) + 1 := by
        rw [Nat.succ_mul, Nat.mul_succ]; omega
      omega
    · exact ⟨by omega, by omega⟩
theorem sq_lt_iff {a b : Nat} : a * a < b * b ↔ a < b := by
  constructor
  · intro h
    apply Nat.lt_of_not_le
    intro q
    have := Nat.mul_le_mul q q
    omega
  · intro h
    exact Nat.mul_lt_mul'' h h
theorem sq_le_iff {a b : Nat} : a * a ≤ b * b ↔ a ≤ b := by
  have := sq_lt_iff (a := b) (b := a)
  omega
theorem isq_unique {n r : Nat} (h1 : r * r ≤ n) (h2 : n < (r + 1) * (r + 1)) : r = isq n := by
  obtain ⟨k1, k2⟩ := isq_ok n
  have a := sq_lt_iff.mp (Nat.lt_of_le_of_lt h1 k2)
  have b := sq_lt_iff.mp (Nat.lt_of_le_of_lt k1 h2)
  omega
/-- a turn of the search: never below the root -/
theorem newton_ge {n g : Nat} (hg : 0 < g) : isq n ≤ (g + n / g) / 2 := by
  obtain ⟨k1, _⟩ := isq_ok n
  rw [Nat.le_div_iff_mul_le (by decide)]
  by_cases q : isq n * 2 ≤ g
  · exact Nat.le_trans q (Nat.le_add_right _ _)
  · have h : isq n * 2 - g ≤ n / g := by
      rw [Nat.le_div_iff_mul_le hg]
      refine Nat.le_trans ?_ k1
      obtain ⟨r, hr⟩ : ∃ r, isq n = r := ⟨_, rfl⟩
      rw [hr] at q ⊢
      rcases Nat.le_total r g with q2 | q2
      · obtain ⟨d, rfl⟩ : ∃ d, g = r + d := ⟨g - r, by omega⟩
        have : r * 2 - (r + d) = r - d := by omega
        rw [this]
        obtain ⟨e, rfl⟩ : ∃ e, r = d + e := ⟨r - d, by omega⟩
        rw [Nat.add_sub_cancel_left]
        have := Nat.zero_le (d * d)
        grind
      · obtain ⟨d, rfl⟩ : ∃ d, r = g + d := ⟨r - g, by omega⟩
        have : (g + d) * 2 - g = g + 2 * d := by omega
        rw [this]
        have := Nat.zero_le (d * d)
        grind
    omega
theorem newton_end {n g : Nat} (hg : 0 < g) (h : isq n ≤ g) (q : g ≤ (g + n / g) / 2) : g = isq n := by
  rw [Nat.le_div_iff_mul_le (by decide)] at q
  have q2 : g ≤ n / g := by omega
  rw [Nat.le_div_iff_mul_le hg] at q2
  obtain ⟨_, k2⟩ := isq_ok n
  have := sq_lt_iff.mp (Nat.lt_of_le_of_lt q2 k2)
  omega
theorem newton_start {n : Nat} (h : 0 < n) : isq n ≤ 2 ^ ((blen n + 1) / 2) := by
  obtain ⟨k1, _⟩ := isq_ok n
  have l := blen_lt n
  have : 2 ^ blen n ≤ 2 ^ ((blen n + 1) / 2) * 2 ^ ((blen n + 1) / 2) := by
    rw [← Nat.pow_add]
    exact Nat.pow_le_pow_right (by decide) (by omega)
  exact Nat.le_of_lt (sq_lt_iff.mp (by omega))
def rootP (E F a b : Nat) : Int := maxI (-(st E F : Int)) ((aheadI a b + 1) / 2 - F - 1)
def rootM (E F a b : Nat) : Nat × Int × Nat :=
  if a = 0 then (0, -(st E F : Int), 0)
  else
    let p := rootP E F a b
    let t := a * dn (2 * p)
    let w := b * up (2 * p)
    let s := isq (t / w)
    if s * s * w = t then (s, p, 0) else (s, p, restOf (4 * t) ((2 * s + 1) * (2 * s + 1) * w))
/-- the root of S lies at code c with the rest r -/
structure NearR (F S c r : Nat) : Prop where
  lo : val F c * val F c ≤ S
  hi : S < val F (c + 1) * val F (c + 1)
  r0 : r = 0 → S = val F c * val F c
  r1 : r = 1 → val F c * val F c < S ∧ 4 * S < (val F c + val F (c + 1)) * (val F c + val F (c + 1))
  r2 : r = 2 → val F c * val F c < S ∧ 4 * S = (val F c + val F (c + 1)) * (val F c + val F (c + 1))
  r3 : r = 3 → val F c * val F c < S ∧ (val F c + val F (c + 1)) * (val F c + val F (c + 1)) < 4 * S
  r4 : r ≤ 3
theorem sq_split (a b : Nat) : a * b * (a * b) = a * a * (b * b) := by
  rw [Nat.mul_assoc, Nat.mul_left_comm b a b, ← Nat.mul_assoc]
theorem root_ok {E F a b S : Nat} (ha : 0 < a) (hb : 0 < b) (hS : a * 2 ^ (2 * st E F) = S * b) : ∃ k : Nat, (rootM E F a b).2.1 = (k : Int) - st E F ∧ k ≤ blen a + st E F ∧ CutOk E F k (rootM E F a b).1 ∧
    NearR F S (k * 2 ^ F + (rootM E F a b).1) (rootM E F a b).2.2 := by
  obtain ⟨m1, m2, m3⟩ := maxI_ge (-(st E F : Int)) ((aheadI a b + 1) / 2 - F - 1)
  obtain ⟨q1, q2⟩ := ahead_ok ha hb
  have q3 := ahead_le a b
  change -(st E F : Int) ≤ rootP E F a b at m1
  change (aheadI a b + 1) / 2 - F - 1 ≤ rootP E F a b at m2
  change rootP E F a b = _ ∨ rootP E F a b = _ at m3
  unfold rootM
  rw [if_neg (by omega)]
  simp only
  generalize hp : rootP E F a b = p at m1 m2 m3
  obtain ⟨k, hk⟩ : ∃ k : Nat, p + st E F = k := ⟨(p + st E F).toNat, by omega⟩
  have hk2 : 2 * p + (2 * st E F : Nat) = (2 * k : Nat) := by omega
  have hW : 0 < b * up (2 * p) := Nat.mul_pos hb (up_pos _)
  have bp := blen_pos ha
  have lt : a * dn (2 * p) < 2 ^ (F + 1) * 2 ^ (F + 1) * (b * up (2 * p)) := by
    have l := Lt2_mono (q := 2 * p + (2 * (F + 1) : Nat)) (by omega) q1
    obtain ⟨n, m, e⟩ : ∃ n m : Nat, 2 * p + n = m := ⟨(-(2 * p)).toNat, (2 * p + (-(2 * p)).toNat).toNat, by omega⟩
    have e' : 2 * p + (2 * (F + 1) : Nat) + n = (m + 2 * (F + 1) : Nat) := by omega
    rw [Lt2_iff e', Nat.pow_add, ← Nat.mul_assoc] at l
    have u := updn e
    have ee : 2 ^ (2 * (F + 1)) = 2 ^ (F + 1) * 2 ^ (F + 1) := by rw [← Nat.pow_add]; congr 1; omega
    rw [ee] at l
    refine (scale_lt (tp m) (n := up (2 * p)) (c := a * 2 ^ n) (d := b * 2 ^ m * (2 ^ (F + 1) * 2 ^ (F + 1))) ?_ ?_ (up_pos _)).mpr l
    · rw [Nat.mul_assoc, u, Nat.mul_assoc]
    · ac_rfl
  have wlt : isq (a * dn (2 * p) / (b * up (2 * p))) < 2 ^ (F + 1) := by
    obtain ⟨k1, _⟩ := isq_ok (a * dn (2 * p) / (b * up (2 * p)))
    exact sq_lt_iff.mp (Nat.lt_of_le_of_lt k1 ((floor_lt hW).mpr lt))
  have wge : k = 0 ∨ 2 ^ F ≤ isq (a * dn (2 * p) / (b * up (2 * p))) := by
    by_cases k0 : k = 0
    · exact Or.inl k0
    · right
      have pe : p = (aheadI a b + 1) / 2 - F - 1 := by omega
      have l : ¬ Lt2 a b (2 * p + (2 * F : Nat)) := fun q => q2 (Lt2_mono (by omega) q)
      obtain ⟨n, m, e⟩ : ∃ n m : Nat, 2 * p + n = m := ⟨(-(2 * p)).toNat, (2 * p + (-(2 * p)).toNat).toNat, by omega⟩
      have e' : 2 * p + (2 * F : Nat) + n = (m + 2 * F : Nat) := by omega
      rw [Lt2_iff e', Nat.pow_add, ← Nat.mul_assoc, Nat.not_lt] at l
      have u := updn e
      have ee : 2 ^ (2 * F) = 2 ^ F * 2 ^ F := by rw [← Nat.pow_add]; congr 1; omega
      rw [ee] at l
      have l2 : 2 ^ F * 2 ^ F * (b * up (2 * p)) ≤ a * dn (2 * p) := by
        refine (scale_le (tp m) (n := up (2 * p)) (c := b * 2 ^ m * (2 ^ F * 2 ^ F)) (d := a * 2 ^ n) ?_ ?_ (up_pos _)).mpr l
        · ac_rfl
        · rw [Nat.mul_assoc, u, Nat.mul_assoc]
      rw [← floor_ge hW] at l2
      obtain ⟨_, k2⟩ := isq_ok (a * dn (2 * p) / (b * up (2 * p)))
      have := sq_lt_iff.mp (Nat.lt_of_le_of_lt l2 k2)
      omega
  obtain ⟨k1, k2⟩ := isq_ok (a * dn (2 * p) / (b * up (2 * p)))
  rw [floor_ge hW] at k1
  rw [floor_lt hW] at k2
  have u := updn hk2
  generalize isq (a * dn (2 * p) / (b * up (2 * p))) = w at wlt wge k1 k2 ⊢
  have ht : a * dn (2 * p) * 2 ^ (2 * k) = S * b * up (2 * p) := by
    rw [Nat.mul_assoc, u, ← hS, Nat.mul_assoc]
  generalize a * dn (2 * p) = t at lt k1 k2 ht ⊢
  have v0 := val_kw wlt wge
  have v1 := val_kw_succ wlt wge
  have ek : 2 ^ (2 * k) = 2 ^ k * 2 ^ k := by rw [← Nat.pow_add]; congr 1; omega
  rw [ek] at ht
  -- x * x * W against t is the square of x * 2 ^ k against S
  have sc : ∀ x : Nat, x * (2 ^ k * 2 ^ k) * (b * up (2 * p)) = x * (b * up (2 * p)) * (2 ^ k * 2 ^ k) := fun x => by ac_rfl
  have hS2 : S * (b * up (2 * p)) = t * (2 ^ k * 2 ^ k) := by rw [ht]; ac_rfl
  have hk4 : 0 < 2 ^ k * 2 ^ k := Nat.mul_pos (tp k) (tp k)
  have h4 : 4 * S * (b * up (2 * p)) = 4 * t * (2 ^ k * 2 ^ k) := by rw [Nat.mul_assoc, hS2, Nat.mul_assoc]
  have mid : w * 2 ^ k + (w + 1) * 2 ^ k = (2 * w + 1) * 2 ^ k := by rw [← Nat.add_mul]; congr 1; omega
  have pk : (if w * w * (b * up (2 * p)) = t then (w, p, 0) else (w, p, restOf (4 * t) ((2 * w + 1) * (2 * w + 1) * (b * up (2 * p))))).1 = w := by split <;> rfl
  have pp : (if w * w * (b * up (2 * p)) = t then (w, p, 0) else (w, p, restOf (4 * t) ((2 * w + 1) * (2 * w + 1) * (b * up (2 * p))))).2.1 = p := by split <;> rfl
  rw [pk, pp]
  refine ⟨k, by omega, by omega, ⟨wlt, wge⟩, ?_⟩
  have lo : val F (k * 2 ^ F + w) * val F (k * 2 ^ F + w) ≤ S := by
    rw [v0, sq_split]; exact (scale_le hW (sc _) hS2 hk4).mpr k1
  have hi : S < val F (k * 2 ^ F + w + 1) * val F (k * 2 ^ F + w + 1) := by
    rw [v1, sq_split]; exact (scale_lt hW hS2 (sc _) hk4).mpr k2
  by_cases hx : w * w * (b * up (2 * p)) = t
  · rw [if_pos hx]
    refine ⟨lo, hi, fun _ => ?_, (fun q => by cases q), (fun q => by cases q), (fun q => by cases q), Nat.zero_le _⟩
    rw [v0, sq_split]
    exact (scale_eq hW hS2 (sc _) hk4).mpr hx.symm
  · rw [if_neg hx]
    have ne : val F (k * 2 ^ F + w) * val F (k * 2 ^ F + w) < S := by
      rw [v0, sq_split]; exact (scale_lt hW (sc _) hS2 hk4).mpr (by omega)
    have t0 : 0 < t := by
      apply Nat.pos_of_ne_zero
      intro q
      subst q
      have : w * w * (b * up (2 * p)) = 0 := by omega
      exact hx this
    refine ⟨lo, hi, fun q => ?_, fun q => ⟨ne, ?_⟩, fun q => ⟨ne, ?_⟩, fun q => ⟨ne, ?_⟩, rest_le _ _⟩
    all_goals
      simp only [restOf] at q
      rw [if_neg (by omega)] at q
      split at q
      · first
          | omega
          | (rw [v0, v1, mid, sq_split]; exact (scale_lt hW h4 (sc _) hk4).mpr (by assumption))
      · split at q
        · first
            | omega
            | (rw [v0, v1, mid, sq_split]; exact (scale_eq hW h4 (sc _) hk4).mpr (by assumption))
        · first
            | omega
            | (rw [v0, v1, mid, sq_split]; exact (scale_lt hW (sc _) h4 hk4).mpr (by omega))
end RM
set_option Elab.async false
set_option linter.all false
set_option maxRecDepth 100000
set_option maxHeartbeats 2000000
/-! Data in the place of values and heaps: what a reading evaluates to, told of data alone. -/
namespace RM
open PySem PySem.Spec PyProof.Rows L2
open Evl (Ex Ex.refl Ex.trans Ex.new Ex.mut ex_l ex_t ex_rd fresh_back)
inductive D where
  | non | bl (b : Bool) | int (i : Int) | str (x : Str) | tup (ds : List D) | lst (ds : List D) | ob (C : Addr) (fs : List (Str × V)) | ty (n : String) | raw (v : V)
mutual
inductive Rep (K : PySem.W.Frag) (H : Hp) : V → D → Prop
  | non : Rep K H .non .non
  | bl (b : Bool) : Rep K H (.bl b) (.bl b)
  | int (i : Int) : Rep K H (.int i) (.int i)
  | str (x : Str) : Rep K H (.str x) (.str x)
  | tup {p : Addr} {vs : List V} {ds : List D} (h : SqT K H p vs) (r : RepL K H vs ds) : Rep K H (.ref p) (.tup ds)
  | lst {p : Addr} {vs : List V} {ds : List D} (h : SqL K H p vs) (r : RepL K H vs ds) : Rep K H (.ref p) (.lst ds)
  | ob {p dx C : Addr} {fs : List (Str × V)} (h : H p = some (.ins C dx fs)) : Rep K H (.ref p) (.ob C fs)
  | ty (n : String) : Rep K H (.ty n) (.ty n)
  | raw (v : V) : Rep K H v (.raw v)
inductive RepL (K : PySem.W.Frag) (H : Hp) : List V → List D → Prop
  | nil : RepL K H [] []
  | cons {v : V} {d : D} {vs : List V} {ds : List D} (h : Rep K H v d) (r : RepL K H vs ds) : RepL K H (v :: vs) (d :: ds)
end
section
variable {K : PySem.W.Frag} {H H' : Hp}
mutual
theorem Rep.mono (e : Ex H H') : ∀ {v : V} {d : D}, Rep K H v d → Rep K H' v d
  | _, _, .non => .non
  | _, _, .bl b => .bl b
  | _, _, .int i => .int i
  | _, _, .str x => .str x
  | _, _, .tup h r => .tup (ex_t e h) (RepL.mono e r)
  | _, _, .lst h r => .lst (ex_l e h) (RepL.mono e r)
  | _, _, .ob h => .ob (e _ _ h)
  | _, _, .ty n => .ty n
  | _, _, .raw v => .raw v
theorem RepL.mono (e : Ex H H') : ∀ {vs : List V} {ds : List D}, RepL K H vs ds → RepL K H' vs ds
  | _, _, .nil => .nil
  | _, _, .cons h r => .cons (Rep.mono e h) (RepL.mono e r)
end
theorem RepL.length : ∀ {vs : List V} {ds : List D}, RepL K H vs ds → vs.length = ds.length
  | _, _, .nil => rfl
  | _, _, .cons _ r => by rw [List.length_cons, List.length_cons, RepL.length r]
theorem RepL.get : ∀ {vs : List V} {ds : List D} {i : Nat} {d : D}, RepL K H vs ds → ds[i]? = some d → ∃ v, vs[i]? = some v ∧ Rep K H v d
  | _, _, i, d, .nil, e => by simp at e
  | _, _, 0, d, .cons h r, e => by
    simp at e
    subst e
    exact ⟨_, rfl, h⟩
  | _, _, i + 1, d, .cons h r, e => by
    obtain ⟨v, h1, h2⟩ := RepL.get (i := i) r (by simpa using e)
    exact ⟨v, by simpa using h1, h2⟩
theorem RepL.ints : ∀ {vs : List V} {ns : List Int}, RepL K H vs (ns.map D.int) → vs = ns.map V.int
  | _, [], .nil => rfl
  | _, n :: ns, .cons h r => by
    cases h
    rw [List.map_cons, ← RepL.ints r]
theorem RepL.strs : ∀ {vs : List V} {ns : List Str}, RepL K H vs (ns.map D.str) → vs = ns.map V.str
  | _, [], .nil => rfl
  | _, n :: ns, .cons h r => by
    cases h
    rw [List.map_cons, ← RepL.strs r]
theorem RepL.app {vs : List V} {ds : List D} {v : V} {d : D} (h : Rep K H v d) : RepL K H vs ds → RepL K H (vs ++ [v]) (ds ++ [d]) := by
  intro r
  induction vs generalizing ds with
  | nil =>
    cases r
    exact .cons h .nil
  | cons a vs ih =>
    cases r with
    | cons h2 r2 => exact .cons h2 (ih r2)
end
/-! ### a list changes: what speaks of no list stands -/
def isSc : D → Bool
  | .non => true
  | .bl _ => true
  | .int _ => true
  | .str _ => true
  | _ => false
def nol : D → Bool
  | .tup ds => ds.all isSc
  | .raw _ => true
  | d => isSc d
section
variable {K : PySem.W.Frag} {H H2 : Hp} {l : Addr} {xs ys : List V}
theorem sqT_upd (hl : H l = some (.lst xs)) {p : Addr} {vs : List V} (h : SqT K H p vs) : SqT K (upd H l (.lst ys)) p vs := by
  rcases h with (h | ⟨o, h⟩) | h
  · exact .inl (.inl (by rw [upd_ne (ne_of h hl (by intro q; cases q))]; exact h))
  · exact .inl (.inr ⟨o, by rw [upd_ne (ne_of h hl (by intro q; cases q))]; exact h⟩)
  · exact .inr h
theorem Rep.any {v : V} {d : D} (h : isSc d = true) (r : Rep K H v d) : Rep K H2 v d := by
  cases r <;> first | exact .non | exact .bl _ | exact .int _ | exact .str _ | cases h
theorem RepL.any : ∀ {vs : List V} {ds : List D}, ds.all isSc = true → RepL K H vs ds → RepL K H2 vs ds
  | _, _, _, .nil => .nil
  | _, _, n, .cons h r => by
    rw [List.all_cons, Bool.and_eq_true] at n
    exact .cons (Rep.any n.1 h) (RepL.any n.2 r)
theorem Rep.updl (hl : H l = some (.lst xs)) {v : V} {d : D} (n : nol d = true) (r : Rep K H v d) : Rep K (upd H l (.lst ys)) v d := by
  cases r with
  | tup h r => exact .tup (sqT_upd hl h) (RepL.any n r)
  | non => exact .non
  | bl b => exact .bl b
  | int i => exact .int i
  | str x => exact .str x
  | lst _ _ => cases n
  | ob _ => cases n
  | ty _ => cases n
  | raw _ => exact .raw _
theorem RepL.updl (hl : H l = some (.lst xs)) : ∀ {vs : List V} {ds : List D}, ds.all nol = true → RepL K H vs ds → RepL K (upd H l (.lst ys)) vs ds
  | _, _, _, .nil => .nil
  | _, _, n, .cons h r => by
    rw [List.all_cons, Bool.and_eq_true] at n
    exact .cons (Rep.updl hl n.1 h) (RepL.updl hl n.2 r)
end
/-! ### names -/
abbrev DE := List (Option D)
def EnvR (K : PySem.W.Frag) (H : Hp) (σ : L2.St) (ds : DE) : Prop := σ.length = ds.length ∧ ∀ (i : Nat) (d : D), ds[i]? = some (some d) → ∃ v, σ[i]? = some (some v) ∧ Rep K H v d
theorem EnvR.mono {K : PySem.W.Frag} {H H' : Hp} {σ : L2.St} {ds : DE} (r : EnvR K H σ ds) (e : Ex H H') : EnvR K H' σ ds :=
  ⟨r.1, fun i d h => by
    obtain ⟨v, h1, h2⟩ := r.2 i d h
    exact ⟨v, h1, h2.mono e⟩⟩
theorem EnvR.set {K : PySem.W.Frag} {H : Hp} {σ : L2.St} {ds : DE} (r : EnvR K H σ ds) {v : V} {d : D} (i : Nat) (h : Rep K H v d) : EnvR K H (σ.set i (some v)) (ds.set i (some d)) := by
  refine ⟨by rw [List.length_set, List.length_set]; exact r.1, fun j e hj => ?_⟩
  by_cases q : i = j
  · subst q
    by_cases hl : i < ds.length
    · rw [List.getElem?_set_self hl] at hj
      have e1 := Option.some.inj (Option.some.inj hj)
      subst e1
      exact ⟨v, by rw [List.getElem?_set_self (by rw [r.1]; exact hl)], h⟩
    · rw [List.getElem?_eq_none (by rw [List.length_set]; omega)] at hj
      cases hj
  · rw [List.getElem?_set_ne q] at hj
    rw [List.getElem?_set_ne q]
    exact r.2 j e hj
/-- less is known -/
theorem EnvR.less {K : PySem.W.Frag} {H : Hp} {σ : L2.St} {ds ds' : DE} (r : EnvR K H σ ds) (hl : ds'.length = ds.length) (h : ∀ (i : Nat) (d : D), ds'[i]? = some (some d) → ds[i]? = some (some d)) : EnvR K H σ ds' :=
  ⟨r.1.trans hl.symm, fun i d q => r.2 i d (h i d q)⟩
def startD (N : List Str) (ds : List D) : DE := ds.map some ++ List.replicate (N.length - ds.length) none
theorem EnvR.init {K : PySem.W.Frag} {H : Hp} {N : List Str} {vs : List V} {ds : List D} (r : RepL K H vs ds) : EnvR K H (start N vs) (startD N ds) := by
  have hl := r.length
  refine ⟨by unfold L2.start startD; rw [List.length_append, List.length_append, List.length_map, List.length_map, List.length_replicate, List.length_replicate, hl], fun i d h => ?_⟩
  unfold startD at h
  by_cases hi : i < ds.length
  · rw [List.getElem?_append_left (by rw [List.length_map]; exact hi), List.getElem?_map] at h
    cases e : ds[i]? with
    | none =>
      rw [e] at h
      cases h
    | some a =>
      rw [e] at h
      have e1 := Option.some.inj (Option.some.inj h)
      subst e1
      obtain ⟨v, h1, h2⟩ := r.get e
      refine ⟨v, ?_, h2⟩
      unfold L2.start
      rw [List.getElem?_append_left (by rw [List.length_map, hl]; exact hi), List.getElem?_map, h1]
      rfl
  · rw [List.getElem?_append_right (by rw [List.length_map]; omega), List.getElem?_replicate] at h
    split at h <;> cases h
theorem EnvR.drop {K : PySem.W.Frag} {H : Hp} {σ : L2.St} {ds : DE} (r : EnvR K H σ ds) (i : Nat) : EnvR K H σ (ds.set i none) := by
  refine r.less (List.length_set ..) fun j d h => ?_
  by_cases q : i = j
  · subst q
    by_cases hl : i < ds.length
    · rw [List.getElem?_set_self hl] at h
      cases h
    · rw [List.getElem?_eq_none (by rw [List.length_set]; omega)] at h
      cases h
  · rw [List.getElem?_set_ne q] at h
    exact h
theorem EnvR.at {K : PySem.W.Frag} {H : Hp} {σ : L2.St} {ds : DE} (r : EnvR K H σ ds) {i : Nat} {v : V} (h : ds[i]? = some (some (.raw v))) : σ[i]? = some (some v) := by
  obtain ⟨u, h1, h2⟩ := r.2 i _ h
  cases h2
  exact h1
/-- what a slot's value is, told otherwise -/
theorem EnvR.tell {K : PySem.W.Frag} {H : Hp} {σ : L2.St} {ds : DE} (r : EnvR K H σ ds) {i : Nat} {v : V} {d : D} (h : σ[i]? = some (some v)) (hd : Rep K H v d) : EnvR K H σ (ds.set i (some d)) := by
  refine ⟨by rw [List.length_set]; exact r.1, fun j e hj => ?_⟩
  by_cases q : i = j
  · subst q
    by_cases hl : i < ds.length
    · rw [List.getElem?_set_self hl] at hj
      have e1 := Option.some.inj (Option.some.inj hj)
      subst e1
      exact ⟨v, h, hd⟩
    · rw [List.getElem?_eq_none (by rw [List.length_set]; omega)] at hj
      cases hj
  · rw [List.getElem?_set_ne q] at hj
    exact r.2 j e hj
def nolO : Option D → Bool
  | some d => nol d
  | none => true
theorem EnvR.updl {K : PySem.W.Frag} {H : Hp} {σ : L2.St} {ds : DE} {l : Addr} {xs ys : List V} (r : EnvR K H σ ds) (hl : H l = some (.lst xs)) (n : ds.all nolO = true) : EnvR K (upd H l (.lst ys)) σ ds :=
  ⟨r.1, fun i d h => by
    obtain ⟨v, h1, h2⟩ := r.2 i d h
    exact ⟨v, h1, h2.updl hl (List.all_eq_true.mp n _ (List.mem_of_getElem? h))⟩⟩
/-! ### what evaluates to what -/
def Eva (K : PySem.W.Frag) (te : TE) (ds : DE) (d : D) : Prop := ∀ σ H, EnvR K H σ ds → ∀ Q : VK, (∀ v H', Ex H H' → Rep K H' v d → Q v H') → te σ H Q
def EvT (K : PySem.W.Frag) (tt : TT) (ds : DE) (b : Bool) : Prop := ∀ σ H, EnvR K H σ ds → ∀ Q : Bool → Hp → Prop, (∀ H', Ex H H' → Q b H') → tt σ H Q
def EvA (K : PySem.W.Frag) (ta : TA) (ds : DE) (es : List D) : Prop := ∀ σ H, EnvR K H σ ds → ∀ Q : List V → Hp → Prop, (∀ vs H', Ex H H' → RepL K H' vs es → Q vs H') → ta σ H Q
def Op2 (K : PySem.W.Frag) (r : R2) (a b c : D) : Prop := ∀ H v w, Rep K H v a → Rep K H w b → ∀ Q : VK, (∀ z H', Ex H H' → Rep K H' z c → Q z H') → r v w H Q
def Op1 (K : PySem.W.Frag) (r : V → Hp → VK → Prop) (a c : D) : Prop := ∀ H v, Rep K H v a → ∀ Q : VK, (∀ z H', Ex H H' → Rep K H' z c → Q z H') → r v H Q
def OpC (K : PySem.W.Frag) (r : List V → Hp → VK → Prop) (as : List D) (c : D) : Prop := ∀ H vs, RepL K H vs as → ∀ Q : VK, (∀ z H', Ex H H' → Rep K H' z c → Q z H') → r vs H Q
section
variable {K : PySem.W.Frag} {ds : DE} {ta tb tc te : TE} {t u : TT} {a b c d : D} {r r' : R2}
theorem Eva.is {d' : D} (h : Eva K te ds d) (e : d = d') : Eva K te ds d' := e ▸ h
theorem EvT.is {x y : Bool} (h : EvT K t ds x) (e : x = y) : EvT K t ds y := e ▸ h
theorem ev_var {i : Nat} (h : ds[i]? = some (some d)) : Eva K (tVar i) ds d := fun σ H r Q q => by
  obtain ⟨v, h1, h2⟩ := r.2 i d h
  exact ⟨v, h1, q v H (Ex.refl H) h2⟩
theorem ev_int {i : Int} : Eva K (tC (.int i)) ds (.int i) := fun σ H _ Q q => q _ H (Ex.refl H) (.int i)
theorem ev_nat {n : Nat} : Eva K (tC (.int (n : Int))) ds (.int ((n : Nat) : Int)) := ev_int
theorem ev_bl {x : Bool} : Eva K (tC (.bl x)) ds (.bl x) := fun σ H _ Q q => q _ H (Ex.refl H) (.bl x)
theorem ev_str {x : Str} : Eva K (tC (.str x)) ds (.str x) := fun σ H _ Q q => q _ H (Ex.refl H) (.str x)
theorem ev_op (hr : Op2 K r a b c) (ha : Eva K ta ds a) (hb : Eva K tb ds b) : Eva K (tOp r ta tb) ds c := fun σ H e Q q =>
  ha σ H e _ fun v H1 e1 r1 => hb σ H1 (e.mono e1) _ fun w H2 e2 r2 => hr H2 v w (r1.mono e2) r2 Q fun z H3 e3 r3 => q z H3 ((e1.trans e2).trans e3) r3
theorem ev_un {r : V → Hp → VK → Prop} (hr : Op1 K r a c) (ha : Eva K ta ds a) : Eva K (tUn r ta) ds c := fun σ H e Q q =>
  ha σ H e _ fun v H1 e1 r1 => hr H1 v r1 Q fun z H3 e3 r3 => q z H3 (e1.trans e3) r3
theorem ea_nil : EvA K tNil ds [] := fun σ H e Q q => q [] H (Ex.refl H) .nil
theorem ea_cons {tr : TA} {es : List D} (ha : Eva K ta ds a) (hr : EvA K tr ds es) : EvA K (tCons ta tr) ds (a :: es) := fun σ H e Q q =>
  ha σ H e _ fun v H1 e1 r1 => hr σ H1 (e.mono e1) _ fun vs H2 e2 r2 => q _ H2 (e1.trans e2) (.cons (r1.mono e2) r2)
theorem ev_tup {t : TA} {es : List D} (h : EvA K t ds es) (hl : es.length ≤ 1000 := by exact Nat.le_of_ble_eq_true rfl) : Eva K (tTup t) ds (.tup es) := fun σ H e Q q =>
  h σ H e _ fun vs H1 e1 r1 => ⟨by rw [r1.length]; exact Nat.le_trans hl (by decide), fun p hp =>
    q _ _ (e1.trans (Ex.new hp)) (.tup (SqT.of upd_same) (r1.mono (Ex.new hp)))⟩
theorem ev_lst {t : TA} {es : List D} (h : EvA K t ds es) (hl : es.length ≤ 1000 := by exact Nat.le_of_ble_eq_true rfl) : Eva K (tLst t) ds (.lst es) := fun σ H e Q q =>
  h σ H e _ fun vs H1 e1 r1 => ⟨by rw [r1.length]; exact Nat.le_trans hl (by decide), fun p hp =>
    q _ _ (e1.trans (Ex.new hp)) (.lst (SqL.of upd_same) (r1.mono (Ex.new hp)))⟩
theorem ev_cb {r : List V → Hp → VK → Prop} {t : TA} {es : List D} (hr : OpC K r es c) (h : EvA K t ds es) : Eva K (tCB r t) ds c := fun σ H e Q q =>
  h σ H e _ fun vs H1 e1 r1 => hr H1 vs r1 Q fun z H2 e2 r2 => q z H2 (e1.trans e2) r2
/-- what a def does: of data to data -/
def spD (K : PySem.W.Frag) (g : List D → D → Prop) : Sp := fun vs H Q _ => ∃ ds d, RepL K H vs ds ∧ g ds d ∧ ∀ v H', Ex H H' → Rep K H' v d → Q v H'
theorem ev_call {g : List D → D → Prop} {t : TA} {es : List D} {E : XK} (hg : g es d) (h : EvA K t ds es) : Eva K (tCall (spD K g) [] E t) ds d := fun σ H e Q q =>
  h σ H e _ fun vs H1 e1 r1 => ⟨es, d, by rw [List.append_nil]; exact r1, hg, fun v H2 e2 r2 => q v H2 (e1.trans e2) r2⟩
theorem ev_if {x : Bool} (h : EvT K t ds x) (h1 : x = true → Eva K ta ds d) (h2 : x = false → Eva K tb ds d) : Eva K (tIf t ta tb) ds d := fun σ H e Q q =>
  h σ H e _ fun H1 e1 => by
    cases x with
    | true => exact h1 rfl σ H1 (e.mono e1) Q fun v H2 e2 r2 => q v H2 (e1.trans e2) r2
    | false => exact h2 rfl σ H1 (e.mono e1) Q fun v H2 e2 r2 => q v H2 (e1.trans e2) r2
theorem ev_andV {x y : Bool} (ha : Eva K ta ds (.bl x)) (hb : x = true → Eva K tb ds (.bl y)) : Eva K (tAndV ta tb) ds (.bl (x && y)) := fun σ H e Q q =>
  ha σ H e _ fun v H1 e1 r1 => by
    cases r1
    refine ⟨x, rfl, ?_⟩
    cases x with
    | true => exact hb rfl σ H1 (e.mono e1) Q fun v H2 e2 r2 => q v H2 (e1.trans e2) r2
    | false => exact q _ H1 e1 (.bl false)
theorem ev_orV {x y : Bool} (ha : Eva K ta ds (.bl x)) (hb : x = false → Eva K tb ds (.bl y)) : Eva K (tOrV ta tb) ds (.bl (x || y)) := fun σ H e Q q =>
  ha σ H e _ fun v H1 e1 r1 => by
    cases r1
    refine ⟨x, rfl, ?_⟩
    cases x with
    | false => exact hb rfl σ H1 (e.mono e1) Q fun v H2 e2 r2 => q v H2 (e1.trans e2) r2
    | true => exact q _ H1 e1 (.bl true)
theorem ev_notV {x : Bool} (ha : Eva K ta ds (.bl x)) : Eva K (tNotV ta) ds (.bl (!x)) := fun σ H e Q q =>
  ha σ H e _ fun v H1 e1 r1 => by
    cases r1
    exact ⟨x, rfl, q _ H1 e1 (.bl _)⟩
theorem ev_chain {x y : Bool} (ha : Eva K ta ds a) (hb : Eva K tb ds b) (hr : Op2 K r a b (.bl x)) (hc : x = true → Eva K tc ds c) (hr' : x = true → Op2 K r' b c (.bl y)) : Eva K (tChain r r' ta tb tc) ds (.bl (x && y)) := fun σ H e Q q =>
  ha σ H e _ fun v H1 e1 r1 => hb σ H1 (e.mono e1) _ fun w H2 e2 r2 => hr H2 v w (r1.mono e2) r2 _ fun z H3 e3 r3 => by
    cases r3
    refine ⟨x, rfl, ?_⟩
    have e123 := (e1.trans e2).trans e3
    cases x with
    | true =>
      exact hc rfl σ H3 (e.mono e123) _ fun z H4 e4 r4 => hr' rfl H4 w z ((r2.mono e3).mono e4) r4 Q fun z2 H5 e5 r5 => q z2 H5 ((e123.trans e4).trans e5) r5
    | false => exact q _ H3 e123 (.bl false)
theorem et_B {x : Bool} (h : Eva K te ds (.bl x)) : EvT K (tB te) ds x := fun σ H e Q q => h σ H e _ fun v H1 e1 r1 => by
  cases r1
  exact ⟨x, rfl, q H1 e1⟩
theorem et_test {x : Bool} (h : Eva K te ds (.bl x)) : EvT K (tTest te) ds x := fun σ H e Q q => h σ H e _ fun v H1 e1 r1 => by
  cases r1
  exact ⟨x, rfl, q H1 e1⟩
theorem et_and {x y : Bool} (h : EvT K t ds x) (h2 : x = true → EvT K u ds y) : EvT K (tAnd t u) ds (x && y) := fun σ H e Q q => h σ H e _ fun H1 e1 => by
  cases x with
  | true => exact h2 rfl σ H1 (e.mono e1) Q fun H2 e2 => q H2 (e1.trans e2)
  | false => exact q H1 e1
theorem et_or {x y : Bool} (h : EvT K t ds x) (h2 : x = false → EvT K u ds y) : EvT K (tOr t u) ds (x || y) := fun σ H e Q q => h σ H e _ fun H1 e1 => by
  cases x with
  | false => exact h2 rfl σ H1 (e.mono e1) Q fun H2 e2 => q H2 (e1.trans e2)
  | true => exact q H1 e1
theorem et_not {x : Bool} (h : EvT K t ds x) : EvT K (tNot t) ds (!x) := fun σ H e Q q => h σ H e _ fun H1 e1 => q H1 e1
theorem et_yes : EvT K tYes ds true := fun σ H e Q q => q H (Ex.refl H)
/-! ### operators -/
theorem o_I0 {g : Int → Int → Int} {i j : Int} : Op2 K (rI0 fun i j => .int (g i j)) (.int i) (.int j) (.int (g i j)) := fun H v w r1 r2 Q q => by
  cases r1
  cases r2
  exact ⟨i, j, rfl, rfl, q _ H (Ex.refl H) (.int _)⟩
theorem o_I {C : Int → Int → Prop} {g : Int → Int → Int} {i j : Int} (hc : C i j) : Op2 K (rI C fun i j => .int (g i j)) (.int i) (.int j) (.int (g i j)) := fun H v w r1 r2 Q q => by
  cases r1
  cases r2
  exact ⟨i, j, rfl, rfl, hc, q _ H (Ex.refl H) (.int _)⟩
theorem o_B0 {g : Int → Int → Bool} {i j : Int} : Op2 K (rI0 fun i j => .bl (g i j)) (.int i) (.int j) (.bl (g i j)) := fun H v w r1 r2 Q q => by
  cases r1
  cases r2
  exact ⟨i, j, rfl, rfl, q _ H (Ex.refl H) (.bl _)⟩
theorem o_add {i j : Int} : Op2 K (rI0 fun i j => .int (i + j)) (.int i) (.int j) (.int (i + j)) := o_I0 (g := fun i j => i + j)
theorem o_sub {i j : Int} : Op2 K (rI0 fun i j => .int (i - j)) (.int i) (.int j) (.int (i - j)) := o_I0 (g := fun i j => i - j)
theorem o_lt {i j : Int} : Op2 K (rI0 fun i j => .bl (decide (i < j))) (.int i) (.int j) (.bl (decide (i < j))) := o_B0 (g := fun i j => decide (i < j))
theorem o_le {i j : Int} : Op2 K (rI0 fun i j => .bl (decide (i ≤ j))) (.int i) (.int j) (.bl (decide (i ≤ j))) := o_B0 (g := fun i j => decide (i ≤ j))
theorem o_gt {i j : Int} : Op2 K (rI0 fun i j => .bl (decide (j < i))) (.int i) (.int j) (.bl (decide (j < i))) := o_B0 (g := fun i j => decide (j < i))
theorem o_ge {i j : Int} : Op2 K (rI0 fun i j => .bl (decide (j ≤ i))) (.int i) (.int j) (.bl (decide (j ≤ i))) := o_B0 (g := fun i j => decide (j ≤ i))
theorem o_eqI {i j : Int} : Op2 K rEq (.int i) (.int j) (.bl (decide (i = j))) := fun H v w r1 r2 Q q => by
  cases r1
  cases r2
  have e : decide (V.int i = V.int j) = decide (i = j) := by
    by_cases h : i = j
    · rw [h, decide_eq_true rfl, decide_eq_true rfl]
    · rw [decide_eq_false h, decide_eq_false fun z => h (V.int.inj z)]
  refine ⟨rfl, ?_⟩
  rw [e]
  exact q _ H (Ex.refl H) (.bl _)
theorem o_neI {i j : Int} : Op2 K rNe (.int i) (.int j) (.bl (!decide (i = j))) := fun H v w r1 r2 Q q => by
  cases r1
  cases r2
  have e : decide (V.int i = V.int j) = decide (i = j) := by
    by_cases h : i = j
    · rw [h, decide_eq_true rfl, decide_eq_true rfl]
    · rw [decide_eq_false h, decide_eq_false fun z => h (V.int.inj z)]
  refine ⟨rfl, ?_⟩
  rw [e]
  exact q _ H (Ex.refl H) (.bl _)
theorem o_eqS {i j : Str} : Op2 K rEq (.str i) (.str j) (.bl (decide (i = j))) := fun H v w r1 r2 Q q => by
  cases r1
  cases r2
  have e : decide (V.str i = V.str j) = decide (i = j) := by
    by_cases h : i = j
    · rw [h, decide_eq_true rfl, decide_eq_true rfl]
    · rw [decide_eq_false h, decide_eq_false fun z => h (V.str.inj z)]
  refine ⟨rfl, ?_⟩
  rw [e]
  exact q _ H (Ex.refl H) (.bl _)
theorem o_neS {i j : Str} : Op2 K rNe (.str i) (.str j) (.bl (!decide (i = j))) := fun H v w r1 r2 Q q => by
  cases r1
  cases r2
  have e : decide (V.str i = V.str j) = decide (i = j) := by
    by_cases h : i = j
    · rw [h, decide_eq_true rfl, decide_eq_true rfl]
    · rw [decide_eq_false h, decide_eq_false fun z => h (V.str.inj z)]
  refine ⟨rfl, ?_⟩
  rw [e]
  exact q _ H (Ex.refl H) (.bl _)
theorem o_ixT {xs : List D} {i : Int} (h : atI xs i = some d) : Op2 K (rIxT K) (.tup xs) (.int i) d := fun H v w r1 r2 Q q => by
  cases r2
  cases r1 with
  | tup hs r =>
    unfold atI at h
    rw [Option.bind_eq_some_iff] at h
    obtain ⟨j, h1, h2⟩ := h
    obtain ⟨v, h3, h4⟩ := r.get h2
    exact ⟨_, _, i, v, rfl, rfl, hs, by unfold atI; rw [r.length, h1]; exact h3, q v H (Ex.refl H) h4⟩
theorem o_ixL {xs : List D} {i : Int} (h : atI xs i = some d) : Op2 K (rIxL K) (.lst xs) (.int i) d := fun H v w r1 r2 Q q => by
  cases r2
  cases r1 with
  | lst hs r =>
    unfold atI at h
    rw [Option.bind_eq_some_iff] at h
    obtain ⟨j, h1, h2⟩ := h
    obtain ⟨v, h3, h4⟩ := r.get h2
    exact ⟨_, _, i, v, rfl, rfl, hs, by unfold atI; rw [r.length, h1]; exact h3, q v H (Ex.refl H) h4⟩
theorem u_neg {i : Int} : Op1 K (rU fun i => .int (-i)) (.int i) (.int (-i)) := fun H v r1 Q q => by
  cases r1
  exact ⟨i, rfl, q _ H (Ex.refl H) (.int _)⟩
/-! ### statements -/
structure PD where
  nx : DE → Prop
  rt : D → Prop
  bk : DE → Prop := fun _ => False
  ct : DE → Prop := fun _ => False
structure Meets (K : PySem.W.Frag) (H : Hp) (P : PD) (D : Ends) : Prop where
  nx : ∀ σ' H' ds', Ex H H' → EnvR K H' σ' ds' → P.nx ds' → D.nx σ' H'
  rt : ∀ v H' d, Ex H H' → Rep K H' v d → P.rt d → D.rt v H'
  bk : ∀ σ' H' ds', Ex H H' → EnvR K H' σ' ds' → P.bk ds' → D.bk σ' H'
  ct : ∀ σ' H' ds', Ex H H' → EnvR K H' σ' ds' → P.ct ds' → D.ct σ' H'
theorem Meets.mono {H H' : Hp} {P : PD} {Dn : Ends} (m : Meets K H P Dn) (e : Ex H H') : Meets K H' P Dn :=
  ⟨fun σ' H2 ds' e2 => m.nx σ' H2 ds' (e.trans e2), fun v H2 d e2 => m.rt v H2 d (e.trans e2), fun σ' H2 ds' e2 => m.bk σ' H2 ds' (e.trans e2), fun σ' H2 ds' e2 => m.ct σ' H2 ds' (e.trans e2)⟩
def Sx (K : PySem.W.Frag) (ts : TS) (ds : DE) (P : PD) : Prop := ∀ σ H (Dn : Ends), EnvR K H σ ds → Meets K H P Dn → ts Dn σ H
variable {P : PD} {ts tu tw : TS}
theorem s_seq (h : Sx K ts ds { P with nx := fun ds' => Sx K tu ds' P }) : Sx K (tSeq ts tu) ds P := fun σ H Dn e m =>
  h σ H { Dn with nx := tu Dn } e ⟨fun σ' H' ds' e1 r1 k => k σ' H' Dn r1 (m.mono e1), m.rt, m.bk, m.ct⟩
theorem s_next (h : P.nx ds) : Sx K tNext ds P := fun σ H Dn e m => m.nx σ H ds (Ex.refl H) e h
theorem s_asg {i : Nat} (h : Eva K te ds d) (k : P.nx (ds.set i (some d))) : Sx K (tAsg te (gName i)) ds P := fun σ H Dn e m =>
  h σ H e _ fun v H1 e1 r1 => m.nx _ H1 _ e1 ((e.mono e1).set i r1) k
theorem s_ret (h : Eva K te ds d) (k : P.rt d) : Sx K (tRet te) ds P := fun σ H Dn e m => h σ H e _ fun v H1 e1 r1 => m.rt v H1 d e1 r1 k
theorem s_drop (h : Eva K te ds d) (k : P.nx ds) : Sx K (tDrop te) ds P := fun σ H Dn e m => h σ H e _ fun v H1 e1 r1 => m.nx σ H1 ds e1 (e.mono e1) k
theorem s_ifb {x : Bool} (h : EvT K t ds x) (h1 : x = true → Sx K tu ds P) (h2 : x = false → Sx K tw ds P) : Sx K (tIfS t tu tw) ds P := fun σ H Dn e m =>
  h σ H e _ fun H1 e1 => by
    cases x with
    | true => exact h1 rfl σ H1 Dn (e.mono e1) (m.mono e1)
    | false => exact h2 rfl σ H1 Dn (e.mono e1) (m.mono e1)
theorem s_if {p : Prop} [Decidable p] (h : EvT K t ds (decide p)) (h1 : p → Sx K tu ds P) (h2 : ¬ p → Sx K tw ds P) : Sx K (tIfS t tu tw) ds P :=
  s_ifb h (fun q => h1 (of_decide_eq_true q)) fun q => h2 (of_decide_eq_false q)
theorem s_never (h : False) : Sx K tNever ds P := h.elim
theorem s_cont (h : P.ct ds) : Sx K tCont ds P := fun σ H Dn e m => m.ct σ H ds (Ex.refl H) e h
theorem q_asg {i : Nat} (h : Eva K te ds d) (k : Sx K tu (ds.set i (some d)) P) : Sx K (tSeq (tAsg te (gName i)) tu) ds P := s_seq (s_asg h k)
theorem q_drop (h : Eva K te ds d) (k : Sx K tu ds P) : Sx K (tSeq (tDrop te) tu) ds P := s_seq (s_drop h k)
/-- if p: .. (leaving); the rest -/
theorem q_when {tz : TS} {p : Prop} [Decidable p] (h : EvT K t ds (decide p)) (h1 : p → Sx K tu ds { P with nx := fun ds' => Sx K tz ds' P }) (h2 : ¬ p → Sx K tz ds P) : Sx K (tSeq (tIfS t tu tNext) tz) ds P :=
  s_seq (s_if h h1 fun q => s_next (h2 q))
theorem q_whenb {tz : TS} {x : Bool} (h : EvT K t ds x) (h1 : x = true → Sx K tu ds { P with nx := fun ds' => Sx K tz ds' P }) (h2 : x = false → Sx K tz ds P) : Sx K (tSeq (tIfS t tu tNext) tz) ds P :=
  s_seq (s_ifb h h1 fun q => s_next (h2 q))
/-- if t: x = e, told by the value that x has behind it -/
theorem q_ifset {tz : TS} {x : Bool} {i : Nat} (h : EvT K t ds x) (h1 : x = true → Eva K te ds d) (h2 : x = false → ds.set i (some d) = ds) (k : Sx K tz (ds.set i (some d)) P) : Sx K (tSeq (tIfS t (tAsg te (gName i)) tNext) tz) ds P :=
  s_seq (s_ifb h (fun q => s_asg (h1 q) k) fun q => s_next (by
    have e := h2 q
    show Sx K tz ds P
    rw [← e]
    exact k))
theorem s_weak {P' : PD} (h : Sx K ts ds P') (hn : ∀ x, P'.nx x → P.nx x) (hr : ∀ x, P'.rt x → P.rt x) (hb : ∀ x, P'.bk x → P.bk x) (hc : ∀ x, P'.ct x → P.ct x) : Sx K ts ds P := fun σ H Dn e m =>
  h σ H Dn e ⟨fun σ' H' ds' e1 r1 k => m.nx σ' H' ds' e1 r1 (hn _ k), fun v H' d e1 r1 k => m.rt v H' d e1 r1 (hr _ k), fun σ' H' ds' e1 r1 k => m.bk σ' H' ds' e1 r1 (hb _ k), fun σ' H' ds' e1 r1 k => m.ct σ' H' ds' e1 r1 (hc _ k)⟩
/-- an if whose ways come together again -/
theorem q_join {tz : TS} {x : Bool} (ds2 : DE) (h : EvT K t ds x) (h1 : x = true → Sx K tu ds { P with nx := fun ds' => ds' = ds2 }) (h2 : x = false → Sx K tw ds { P with nx := fun ds' => ds' = ds2 }) (k : Sx K tz ds2 P) : Sx K (tSeq (tIfS t tu tw) tz) ds P :=
  s_seq (s_ifb h (fun q => s_weak (h1 q) (fun y e => by rw [show y = ds2 from e]; exact k) (fun _ z => z) (fun _ z => z) fun _ z => z) fun q => s_weak (h2 q) (fun y e => by rw [show y = ds2 from e]; exact k) (fun _ z => z) (fun _ z => z) fun _ z => z)
theorem q_if {tz : TS} {p : Prop} [Decidable p] (h : EvT K t ds (decide p)) (h1 : p → Sx K tu ds { P with nx := fun ds' => Sx K tz ds' P }) (h2 : ¬ p → Sx K tw ds { P with nx := fun ds' => Sx K tz ds' P }) : Sx K (tSeq (tIfS t tu tw) tz) ds P :=
  s_seq (s_if h h1 h2)
/-- targets -/
def Tg (K : PySem.W.Frag) (g : TG) (d : D) (ds ds' : DE) : Prop := ∀ v σ H, Rep K H v d → EnvR K H σ ds → ∀ Q : L2.St → Hp → Prop, (∀ σ', EnvR K H σ' ds' → Q σ' H) → g v σ H Q
def Tgs (K : PySem.W.Frag) (g : TGs) (es : List D) (ds ds' : DE) : Prop := ∀ vs σ H, RepL K H vs es → EnvR K H σ ds → ∀ Q : L2.St → Hp → Prop, (∀ σ', EnvR K H σ' ds' → Q σ' H) → g vs σ H Q
theorem tg_name {i : Nat} : Tg K (gName i) d ds (ds.set i (some d)) := fun v σ H r e Q q => q _ (e.set i r)
theorem tgs_nil : Tgs K gNil [] ds ds := fun vs σ H r e Q q => by
  cases r
  exact ⟨rfl, q σ e⟩
theorem tgs_cons {g : TG} {gs : TGs} {es : List D} {ds' ds2 : DE} (h : Tg K g d ds ds') (hr : Tgs K gs es ds' ds2) : Tgs K (gCons g gs) (d :: es) ds ds2 := fun vs σ H r e Q q => by
  cases r with
  | cons r1 r2 => exact ⟨_, _, rfl, h _ σ H r1 e _ fun σ' e' => hr _ σ' H r2 e' Q q⟩
theorem tg_tup {gs : TGs} {es : List D} {ds' : DE} {n : Nat} (h : Tgs K gs es ds ds') (hn : es.length = n := by rfl) : Tg K (gTup K n gs) (.tup es) ds ds' := fun v σ H r e Q q => by
  cases r with
  | tup hs rl => exact ⟨_, _, rfl, hs, rl.length.trans hn, h _ σ H rl e Q q⟩
theorem s_asgT {g : TG} {ds' : DE} (h : Eva K te ds d) (hg : Tg K g d ds ds') (k : P.nx ds') : Sx K (tAsg te g) ds P := fun σ H Dn e m =>
  h σ H e _ fun v H1 e1 r1 => hg v σ H1 r1 (e.mono e1) _ fun σ' e' => m.nx σ' H1 ds' e1 e' k
theorem q_asgT {g : TG} {ds' : DE} (h : Eva K te ds d) (hg : Tg K g d ds ds') (k : Sx K tu ds' P) : Sx K (tSeq (tAsg te g) tu) ds P := s_seq (s_asgT h hg k)
/-- x op= e -/
theorem s_aug {i : Nat} {ti : TIp} {x : D} (hx : ds[i]? = some (some x)) (h : Eva K te ds d) (ho : Op2 K ti x d c) (k : P.nx (ds.set i (some c))) : Sx K (tAug i te ti) ds P := fun σ H Dn e m => by
  obtain ⟨v, h1, h2⟩ := e.2 i x hx
  exact ⟨v, h1, h σ H e _ fun w H1 e1 r1 => ho H1 v w (h2.mono e1) r1 _ fun z H2 e2 r2 => m.nx _ H2 _ (e1.trans e2) ((e.mono (e1.trans e2)).set i r2) k⟩
theorem o_ip {f : Int → Int → Int} {i j : Int} : Op2 K (ipI f) (.int i) (.int j) (.int (f i j)) := fun H v w r1 r2 Q q => by
  cases r1
  cases r2
  exact ⟨i, j, rfl, rfl, q _ H (Ex.refl H) (.int _)⟩
/-! ### loops -/
theorem s_for {tl : TE} {g : TG} {xs : List D} (h : Eva K tl ds (.lst xs)) (W : Nat → DE → Prop) (h0 : W 0 ds)
    (hs : ∀ i x ds', xs[i]? = some x → W i ds' → ∃ ds2, Tg K g x ds' ds2 ∧ Sx K tu ds2 { P with nx := W (i + 1), ct := W (i + 1), bk := P.nx }) (hd : ∀ ds', W xs.length ds' → P.nx ds') : Sx K (tFor (iList K tl) g tu) ds P := fun σ H Dn e m =>
  h σ H e _ fun v H1 e1 r1 => by
    cases r1 with
    | @lst p vs _ hq rl =>
      have hlen := rl.length
      refine ⟨p, rfl, ⟨vs, hq⟩, for_list (K := K) (a := p) (xs := vs) (fun i σ' H' => Ex H1 H' ∧ ∃ ds', EnvR K H' σ' ds' ∧ W i ds') ⟨Ex.refl _, ds, e.mono e1, h0⟩ (fun i σ' H' _ q => ex_l q.1 hq) (fun i x σ' H' hx q => ?_) fun σ' H' q => ?_⟩
      · obtain ⟨e2, ds', r2, w⟩ := q
        have hi : i < xs.length := by
          have := (List.getElem?_eq_some_iff.mp hx).1
          omega
        obtain ⟨v, h1, h2⟩ := rl.get (List.getElem?_eq_getElem hi)
        rw [hx] at h1
        have ev := Option.some.inj h1
        subst ev
        obtain ⟨ds2, h3, h4⟩ := hs i _ ds' (List.getElem?_eq_getElem hi) w
        refine h3 _ σ' H' (h2.mono e2) r2 _ fun σ2 r3 => ?_
        refine h4 σ2 H' _ r3 ⟨fun σ3 H3 ds3 e3 r4 w3 => ⟨e2.trans e3, ds3, r4, w3⟩, fun v H3 d e3 r4 q4 => m.rt v H3 d ((e1.trans e2).trans e3) r4 q4, fun σ3 H3 ds3 e3 r4 w3 => m.nx σ3 H3 ds3 ((e1.trans e2).trans e3) r4 w3, fun σ3 H3 ds3 e3 r4 w3 => ⟨e2.trans e3, ds3, r4, w3⟩⟩
      · obtain ⟨e2, ds', r2, w⟩ := q
        rw [hlen] at w
        exact m.nx σ' H' ds' (e1.trans e2) r2 (hd ds' w)
theorem s_while (W : Nat → DE → Prop) (n0 : Nat) (h0 : W n0 ds)
    (hs : ∀ n ds', W n ds' → ∃ x, EvT K t ds' x ∧ (x = true → Sx K tu ds' { P with nx := fun ds2 => ∃ n', n' < n ∧ W n' ds2, ct := fun ds2 => ∃ n', n' < n ∧ W n' ds2, bk := P.nx }) ∧ (x = false → P.nx ds')) : Sx K (tWhile t tu) ds P := fun σ H Dn e m => by
  refine ⟨fun n σ' H' => Ex H H' ∧ ∃ ds', EnvR K H' σ' ds' ∧ W n ds', ⟨n0, Ex.refl _, ds, e, h0⟩, ?_⟩
  rintro n σ' H' ⟨e1, ds', r1, w⟩
  obtain ⟨x, ht, hT, hF⟩ := hs n ds' w
  refine ht σ' H' r1 _ fun H2 e2 => ?_
  cases x with
  | false =>
    show Dn.nx σ' H2
    exact m.nx σ' H2 ds' (e1.trans e2) (r1.mono e2) (hF rfl)
  | true =>
    refine ⟨fun σ3 H3 => Ex H H3 ∧ ∃ ds3, EnvR K H3 σ3 ds3 ∧ ∃ n', n' < n ∧ W n' ds3, fun σ3 H3 q => ?_, ?_⟩
    · obtain ⟨e3, ds3, r3, n', hn, w3⟩ := q
      exact ⟨n', hn, e3, ds3, r3, w3⟩
    · exact hT rfl σ' H2 _ (r1.mono e2) ⟨fun σ3 H3 ds3 e3 r3 w3 => ⟨(e1.trans e2).trans e3, ds3, r3, w3⟩, fun v H3 d e3 r3 q => m.rt v H3 d ((e1.trans e2).trans e3) r3 q, fun σ3 H3 ds3 e3 r3 w3 => m.nx σ3 H3 ds3 ((e1.trans e2).trans e3) r3 w3, fun σ3 H3 ds3 e3 r3 w3 => ⟨(e1.trans e2).trans e3, ds3, r3, w3⟩⟩
/-! ### comprehensions whose items are scalars -/
def toV : D → V
  | .bl b => .bl b
  | .int i => .int i
  | .str x => .str x
  | _ => .non
theorem rep_sc {H : Hp} {v : V} {d : D} (h : isSc d = true) (r : Rep K H v d) : v = toV d := by
  cases r <;> first | rfl | cases h
theorem sc_rep {H : Hp} {d : D} (h : isSc d = true) : Rep K H (toV d) d := by
  cases d <;> first | exact .non | exact .bl _ | exact .int _ | exact .str _ | cases h
theorem sc_repL {H : Hp} : ∀ {es : List D}, (∀ d ∈ es, isSc d = true) → RepL K H (es.map toV) es
  | [], _ => .nil
  | d :: es, h => .cons (sc_rep (h d List.mem_cons_self)) (sc_repL fun x hx => h x (List.mem_cons_of_mem _ hx))
def pick (xs : List D) (p : D → Bool) (f : D → D) : List D := (xs.filter p).map f
theorem pick_snoc {xs : List D} {x : D} {p : D → Bool} {f : D → D} : pick (xs ++ [x]) p f = if p x = true then pick xs p f ++ [f x] else pick xs p f := by
  unfold pick
  rw [List.filter_append, List.map_append, List.filter_cons, List.filter_nil]
  split
  · rfl
  · exact List.append_nil _
theorem take_succ' {α : Type} {xs : List α} {i : Nat} {x : α} (h : xs[i]? = some x) : xs.take (i + 1) = xs.take i ++ [x] := by
  rw [List.take_add_one, h]
  rfl
/-- [elt for x in xs if ..] over a list that stands, its items scalars -/
theorem ev_lc {tl : TE} {j : Nat} {xs : List D} (p : D → Bool) (f : D → D) (h : Eva K tl ds (.lst xs)) (hz : xs.length ≤ 1000) (ht : ∀ x ∈ xs, EvT K t (ds.set j (some x)) (p x))
    (he : ∀ x ∈ xs, p x = true → Eva K te (ds.set j (some x)) (f x)) (hs : ∀ x ∈ xs, isSc (f x) = true) : Eva K (tLc (iList K tl) (gName j) t te [j]) ds (.lst (pick xs p f)) := fun σ H e Q q =>
  h σ H e _ fun v H1 e1 r1 => by
    cases r1 with
    | @lst a vs _ hq rl =>
      have hlen := rl.length
      have scal : ∀ i, ∀ d ∈ pick (xs.take i) p f, isSc d = true := fun i d hd => by
        obtain ⟨x, hx, ex⟩ := List.mem_map.mp hd
        rw [← ex]
        exact hs x (List.mem_of_mem_take (List.mem_filter.mp hx).1)
      have plen : ∀ i, (pick (xs.take i) p f).length ≤ 1000 := fun i => by
        unfold pick
        rw [List.length_map]
        have h1 := List.length_filter_le p (xs.take i)
        have h2 := List.length_take_le i xs
        have h3 : (xs.take i).length ≤ xs.length := by rw [List.length_take]; omega
        omega
      refine ⟨a, rfl, ⟨vs, hq⟩, fun Dl hD => lc_list (xs := vs) (fun i H' => Ex H1 H' ∧ H' Dl = some (.lst ((pick (xs.take i) p f).map toV))) ⟨Ex.new hD, ?_⟩ (fun i H' _ z => ex_l z.1 hq) (fun i x H' hx z => ?_) fun H' z => ?_⟩
      · rw [upd_same]
        rfl
      · obtain ⟨e2, hDl⟩ := z
        have hi : i < xs.length := by
          have := (List.getElem?_eq_some_iff.mp hx).1
          omega
        obtain ⟨v, h1, h2⟩ := rl.get (List.getElem?_eq_getElem hi)
        rw [hx] at h1
        have ev := Option.some.inj h1
        subst ev
        have hm : xs[i] ∈ xs := List.getElem_mem hi
        have tk := take_succ' (List.getElem?_eq_getElem hi)
        have ww : (wipe σ [j]).set j (some x) = σ.set j (some x) := by
          show (σ.set j none).set j (some x) = σ.set j (some x)
          rw [List.set_set]
        refine ⟨?_, ?_⟩
        · rw [ww]
          show (σ.set j (some x)).set j none = σ.set j none
          rw [List.set_set]
        · rw [ww]
          have r2 : EnvR K H' (σ.set j (some x)) (ds.set j (some xs[i])) := (e.mono (e1.trans e2)).set j (h2.mono e2)
          refine ht _ hm _ H' r2 _ fun H3 e3 => ?_
          rw [tk, pick_snoc]
          cases hp : p xs[i] with
          | true =>
            refine he _ hm hp _ H3 (r2.mono e3) _ fun y H4 e4 r4 => ⟨_, e4 _ _ (e3 _ _ hDl), ?_, Ex.mut ((e2.trans e3).trans e4) hD, ?_⟩
            · rw [List.length_map]
              exact Nat.lt_of_le_of_lt (plen i) (by decide)
            · rw [upd_same, if_pos rfl, List.map_append, rep_sc (hs _ hm) r4]
              rfl
          | false =>
            exact ⟨e2.trans e3, by rw [if_neg Bool.false_ne_true]; exact e3 _ _ hDl⟩
      · obtain ⟨e2, hDl⟩ := z
        rw [hlen, List.take_length] at hDl
        have sc2 := scal xs.length
        rw [List.take_length] at sc2
        exact q _ H' (e1.trans e2) (.lst (SqL.of hDl) (sc_repL sc2))
end
end RM
set_option Elab.async false
set_option linter.all false
set_option maxRecDepth 100000
set_option maxHeartbeats 2000000
/-! Rules that the layer lacks, and calls told of data. -/
namespace RM
open PySem PySem.Spec PyProof.Rows L2
open Evl (Ex Ex.refl Ex.trans Ex.new Ex.mut ex_l ex_t ex_rd fresh_back)
/-! ### a def that keeps its promise of data -/
abbrev FnP (K : PySem.W.Frag) (x qual : Str) (st : Stmt) (f : Addr) (fd : FuncData) : Prop := FunD K x qual (defArgs st) (defBody st) (defScope st) [] [] f fd
section
variable {P : Program} {w : World} {K : PySem.W.Frag} {mg : Str → Option Value} {base : Heap}
theorem fn_okD {x qual : Str} {st : Stmt} {f : Addr} {fd : FuncData} {N ps : List Str} {k : Nat} {g : List D → D → Prop} (F : FnP K x qual st f fd) (S : FnScope N ps (defScope st)) (hlen : ∀ ds d, g ds d → ds.length = ps.length)
    (hbody : ∀ (cdv : Value) (A : Around) (outer : List Env) (s : Shared) (H : Hp) (E : XK), Room k (A.deeper (envOfC qual (defScope st) s.heap.objs.size f cdv)) →
      ∃ t, PSs (cxOf CX0 P w K mg base N qual (defScope st) f cdv A outer s H E).nox (defBody st) t ∧ ∀ ds d, g ds d → Sx K t (startD N ds) { nx := fun _ => d = .non, rt := fun d' => d' = d }) : FnOk P w K mg base CX0 (k + 1) f fd ps (spD K g) := by
  refine F.ok (CX := CX0) S (fun vs H Q E h => ?_) (fun cdv A outer s H vs Q E hr h => ?_)
  · obtain ⟨ds, d, r, hg, _⟩ := h
    rw [r.length]
    exact hlen ds d hg
  · obtain ⟨t, h1, h2⟩ := hbody cdv A outer s H E hr
    obtain ⟨ds, d, r, hg, q⟩ := h
    refine ⟨t, h1.nox, h2 ds d hg _ H _ (EnvR.init r) ⟨fun σ' H' ds' e _ z => ?_, fun v H' d' e r' z => ?_, fun _ _ _ _ _ z => z.elim, fun _ _ _ _ _ z => z.elim⟩⟩
    · change d = .non at z
      subst z
      exact q _ _ e .non
    · change d' = d at z
      subst z
      exact q v H' e r'
end
/-- what a caller needs of a def of the module -/
structure Cal (P : Program) (w : World) (K : PySem.W.Frag) (mg : Str → Option Value) (base : Heap) (k : Nat) (x : Str) (sp : Sp) : Prop where
  ex : ∃ (f : Addr) (fd : FuncData) (ps : List Str), FnOk P w K mg base CX0 k f fd ps sp ∧ mg x = some (.ref f) ∧ PySem.W.keepIn K (.ref f) = true ∧ Binds K fd ps []
section
variable {X : Cx} {k j : Nat} {C : Addr} {x m : Str} {sp : Sp} {p pos apos : Pos} {e o : Expr} {es : List Expr} {ta : TE} {t : TA}
theorem pe_c (c : Cal X.prog X.w X.K X.mg X.base k x sp) (hr : Room j X.A) (hg : Gl X x) (ha : PA X (e :: es) t) (hk : k ≤ j := by decide)
    (hdb : (x == ("__debug__" : Str)) = false := by decide) (he : starEach (e :: es) X.env = (false, eval e X.env) :: starEach es X.env := by rfl) (hpl : (backTo pos (starEach es X.env)).any (·.1) = false := by rfl) :
    PE X (.Call (.Name x p) (e :: es) [] pos) (tCall sp [] E0 t) := by
  obtain ⟨f, fd, ps, F, hm, kp, b⟩ := c.ex
  exact pe_call F (hr.mono hk) hg hm kp b .nil pass0 ha hdb he hpl
/-! ### a method of one of several classes -/
structure MetD (P : Program) (w : World) (K : PySem.W.Frag) (mg : Str → Option Value) (base : Heap) (k : Nat) (C : Addr) (m : Str) (sp : Sp) : Prop where
  cl : Cls K C
  ex : ∃ (f : Addr) (fd : FuncData) (ps : List Str), Meth K C m f ∧ FnOk P w K mg base CX0 k f fd ps sp ∧ Binds K fd ps []
def tMethD {ι : Type} (cls : ι → Addr) (m : Str) (sp : ι → Sp) (ta : TE) (t : TA) : TE := fun σ H Q => ta σ H fun x H1 => ∃ a i dx fs, x = .ref a ∧ H1 a = some (.ins (cls i) dx fs) ∧ fs.lookup m = none ∧
  t σ H1 fun vs H2 => sp i (x :: vs) H2 Q E0
theorem pe_mD {ι : Type} {cls : ι → Addr} {sp : ι → Sp} {pl : Sem Bool} (c : ∀ i, MetD X.prog X.w X.K X.mg X.base k (cls i) m (sp i)) (hr : Room j X.A) (he : PE X o ta) (ha : PA X (e :: es) t) (hk : k ≤ j := by decide)
    (hst : starEach (e :: es) X.env = (false, eval e X.env) :: starEach es X.env := by rfl) (hpl : (backTo pos (starEach es X.env)).any (·.1) = false := by rfl)
    (ht : eval (.Call (.Attribute o m apos) (e :: es) [] pos) X.env = (do
      let ov ← eval o X.env
      standAt apos.atName
      let (f, first) ← holding [ov] (getMethod ov m pl)
      callWith pos f first (backTo pos (starEach (e :: es) X.env)) (backToKw pos (keywordEach [] X.env))) := by rfl) :
    PE X (.Call (.Attribute o m apos) (e :: es) [] pos) (tMethD cls m sp ta t) := by
  refine ⟨fun pins s σ H Q I h => ?_⟩
  refine PySem.W.methodCall_KW (pl := pl) (thn (he.run pins s σ H _ I h) fun u s1 ⟨x, H1, I1, rx, a, i, dx, fs, ex, ea, l, q⟩ => ?_) ht
  subst ex
  obtain rfl : u = Value.ref a := rx
  obtain ⟨cl, f, fd, ps, hm, F, hb⟩ := c i
  refine getmeth_ok I1 ea cl hm l ?_
  refine PySem.W.callWith_K (first := [.ref a]) (h₀ := X.base) I.ok.mod.kin hm.kp (thn (ha.run pos pins s1 σ H1 _ I1 q) fun us s2 ⟨vs, H2, I2, r, q2⟩ => ⟨I2.kIn, ?_⟩) hst hpl
  exact run_fn (ds := []) (dvs := []) (us := .ref a :: us) (vs := .ref a :: vs) F (hr.mono hk) hb .nil pass0 I2 (.cons rfl r) (by rw [List.append_nil]; exact q2)
theorem ev_mD {K : PySem.W.Frag} {ds : DE} {ι : Type} {cls : ι → Addr} {g : ι → List D → D → Prop} {fs : List (Str × V)} {as : List D} {d : D} (i : ι) (hl : fs.lookup m = none) (hg : g i (.ob (cls i) fs :: as) d) (h : Eva K ta ds (.ob (cls i) fs)) (ha : EvA K t ds as) : Eva K (tMethD cls m (fun i => spD K (g i)) ta t) ds d := fun σ H e Q q =>
  h σ H e _ fun v H1 e1 r1 => by
    cases r1 with
    | @ob p dx _ _ hp => exact ⟨p, i, dx, fs, rfl, hp, hl, ha σ H1 (e.mono e1) _ fun vs H2 e2 r2 => ⟨_, d, .cons (.ob (e2 _ _ hp)) r2, hg, fun v H3 e3 r3 => q v H3 ((e1.trans e2).trans e3) r3⟩⟩
/-! ### C() where there is no __init__ but object's -/
structure Mk0 (K : PySem.W.Frag) (C : Addr) : Prop where
  makes : PySem.W.makesIn K C = true
  init : PySem.W.findIn K (.ref C) "__init__" = some (some (.builtin "object.__init__"))
  kp : PySem.W.keepIn K (.ref C) = true
def tMake0 (C : Addr) : TE := fun _ H Q => ∀ x dx, H x = none → H dx = none → dx ≠ x → Q (.ref x) (upd (upd H dx (.own x)) x (.ins C dx []))
theorem run_make0 {pins : List (Addr × Obj)} {σ : L2.St} {H : Hp} {s : Shared} {Q : VK} (M : Mk0 X.K C) (I : Inv X pins σ H s)
    (h : ∀ x dx, H x = none → H dx = none → dx ≠ x → Q (.ref x) (upd (upd H dx (.own x)) x (.ins C dx []))) :
    wpAny (model X.prog X.w) X.A (call (.ref C) []) (EP X pins σ Q) X.xe s := by
  have hq := h (s.heap.objs.size + 1) s.heap.objs.size (I.hok.fresh (Nat.le_succ _)) (I.hok.fresh (Nat.le_refl _)) (Nat.ne_of_lt (Nat.lt_succ_self _))
  have I2 := Inv.made (C := C) I
  refine wpAny_call (make_map0 I.kIn M.makes M.init (fun self => PySem.W.Looks.of_pure (PySem.W.oi_bind self)) ?_)
  have Y := PySem.W.makes_of (M := model X.prog X.w) I.kIn M.makes
  have hx : ((s.heap.push PySem.W.emptyDict).push (PySem.W.instObj C s.heap.objs.size)).get? (s.heap.objs.size + 1) = some (PySem.W.instObj C s.heap.objs.size) := by
    have := Heap.get?_push_size (s.heap.push PySem.W.emptyDict) (o := PySem.W.instObj C s.heap.objs.size) rfl
    rwa [Heap.size_push] at this
  have t1 : PySem.W.Looks (model X.prog X.w) ((s.heap.push PySem.W.emptyDict).push (PySem.W.instObj C s.heap.objs.size)) (typeOf (.ref (s.heap.objs.size + 1))) (.ref C) := (PySem.W.Looks.ld hx).andThen .now
  have t2 : PySem.W.Looks (model X.prog X.w) ((s.heap.push PySem.W.emptyDict).push (PySem.W.instObj C s.heap.objs.size)) (isInstance (.ref (s.heap.objs.size + 1)) (.type "object")) true := t1.andThen (Y.top.keeps fun b o e => Heap.get?_push_of_some _ (Heap.get?_push_of_some _ e))
  refine codeAny_call_builtin PySem.W.oi_plain PySem.W.entry_oi (@PySem.W.check_slot (model X.prog X.w) _ _ _ "object.__init__" "object" "__init__" (.ref (s.heap.objs.size + 1)) [] [] _ PySem.W.oi_kind PySem.W.oi_split t2 (PySem.W.oi_args (.ref (s.heap.objs.size + 1))) ?_)
  rw [PySem.W.oi_run]
  exact wpAny_pure (And.intro rfl ⟨V.ref (s.heap.objs.size + 1), _, I2, rfl, hq⟩)
theorem pe_make00 (M : Mk0 X.K C) (hg : Gl X x) (hm : X.mg x = some (.ref C)) (hdb : (x == ("__debug__" : Str)) = false := by decide) : PE X (.Call (.Name x p) [] [] pos) (tMake0 C) := by
  refine ⟨fun pins s σ H Q I h => ?_⟩
  refine wpAny_Call_Name_kw (ld_glob I hg hm ?_ hdb)
  exact PySem.W.callWith_K0 I.kIn M.kp (run_make0 M I h)
theorem ev_make0 {K : PySem.W.Frag} {ds : DE} : Eva K (tMake0 C) ds (.ob C []) := fun σ H e Q q x dx hx hdx ne =>
  q _ _ ((Ex.new hdx).trans (Ex.new (by rw [upd_ne ne.symm]; exact hx))) (.ob upd_same)
end
/-- an __init__ that stores its one argument -/
def spOut (C : Addr) : Sp := fun vs H Q _ => ∃ (p dx : Addr) (s : Int), vs = [.ref p, .int s] ∧ H p = some (.ins C dx []) ∧ Q .non (upd H p (.ins C dx [("outward_sign", .int s)]))
theorem ev_make {K : PySem.W.Frag} {ds : DE} {C : Addr} {te : TE} {s : Int} (h : Eva K te ds (.int s)) : Eva K (tMake C (spOut C) [] E0 (tCons te tNil)) ds (.ob C [("outward_sign", .int s)]) := fun σ H e Q q =>
  h σ H e _ fun v H1 e1 r1 => by
    cases r1
    intro x dx hx hdx ne
    refine ⟨x, dx, s, rfl, upd_same, rfl, ?_⟩
    refine q _ _ (e1.trans fun a o ha => ?_) (.ob upd_same)
    have nx : a ≠ x := ne_of_none ha hx
    have nd : a ≠ dx := ne_of_none ha hdx
    rw [upd_ne nx, upd_ne nx, upd_ne nd]
    exact ha
/-! ### built-ins and operators -/
section
variable {X : Cx} {K : PySem.W.Frag}
/-- // where C divides by itself -/
theorem op_fdivP : OpR X (binaryOp .FloorDiv) (rI CDivP fun i j => .int (i / j)) := opI fun i j _ _ _ _ _ hc q => by
  have h1 : (0 : Int) < j := hc.1
  exact floordiv_int (by omega) (by rw [Int.fdiv_eq_ediv_of_nonneg i (by omega)]; exact q) (.inl hc.2)
/-- i ** 2 -/
def CPow2 (i j : Int) : Prop := j = 2 ∧ (Builtin.Int.intBits i : Int) * 2 ≤ 2 ^ 27
theorem op_pow2 : OpR X (binaryOp .Pow) (rI CPow2 fun i _ => .int (i * i)) := opI fun i j _ _ _ _ _ hc q => by
  obtain ⟨rfl, h⟩ := hc
  refine pow_int (by decide) h ?_
  have e : i ^ (2 : Int).toNat = i * i := by
    show i ^ 2 = i * i
    rw [Int.pow_succ, Int.pow_succ, Int.pow_zero, Int.one_mul]
  rw [e]
  exact q
/-- min(xs, default=d) of a list of ints that is not empty -/
def rMinD (K : PySem.W.Frag) : List V → Hp → VK → Prop := fun vs H Q => ∃ (a : Addr) (ns : List Int), vs = [V.ref a] ∧ SqL K H a (ns.map V.int) ∧ 0 < ns.length ∧ ∀ m, m ∈ ns → (∀ y, y ∈ ns → m ≤ y) → Q (.int m) H
end
end RM
set_option Elab.async false
set_option linter.all false
set_option maxRecDepth 100000
set_option maxHeartbeats 2000000
namespace RM
open PySem PySem.Spec PyProof.Rows L2
open Evl (Ex Ex.refl Ex.trans Ex.new Ex.mut ex_l ex_t ex_rd fresh_back)
/-! ### min(xs, default=d) -/
def rMinDf (K : PySem.W.Frag) : List V → List V → Hp → VK → Prop := fun vs zs H Q => ∃ (a : Addr) (n : Int) (ns : List Int) (d : V), vs = [V.ref a] ∧ zs = [d] ∧ SqL K H a ((n :: ns).map V.int) ∧ Q (.int (ns.foldl min n)) H
theorem dpAll_ints {K : PySem.W.Frag} {H : Hp} : ∀ ns : List Int, DpAll K H (ns.map V.int) (ns.map PyData.int)
  | [] => .nil
  | n :: ns => .cons (.int n) (dpAll_ints ns)
theorem alike_ints (ns : List Int) : PySem.W.AlikeAll (ns.map PyData.int) := by
  refine ⟨fun x hx y hy => ?_, fun x hx => ?_⟩
  · obtain ⟨i, _, rfl⟩ := List.mem_map.mp hx
    obtain ⟨j, _, rfl⟩ := List.mem_map.mp hy
    first | rfl | simp [alike] | simp [PySem.W.alike]
  · obtain ⟨i, _, rfl⟩ := List.mem_map.mp hx
    intro h
    cases h
theorem depth_ints : ∀ ns : List Int, PyData.depthAll (ns.map PyData.int) ≤ 1
  | [] => by first | decide | simp [PyData.depthAll]
  | n :: ns => by
    have h := depth_ints ns
    rw [List.map_cons]
    have e : PyData.depthAll (PyData.int n :: ns.map PyData.int) = max (PyData.depth (PyData.int n)) (PyData.depthAll (ns.map PyData.int)) := by first | rfl | simp [PyData.depthAll]
    have e2 : PyData.depth (PyData.int n) ≤ 1 := by first | exact Nat.le_refl _ | exact Nat.zero_le _ | simp [PyData.depth]
    rw [e]
    exact Nat.max_le.mpr ⟨e2, h⟩
theorem cr_minDf {X : Cx} (hc : X.calm = true) (hu : X.A.units + 64 < cLine) : CallRK X (.builtin "min") [Str.ofString "default"] (rMinDf X.K) := by
  intro pins s σ H vs zs us ws Q I r rz h
  obtain ⟨a, n, ns, d, rfl, rfl, hs, q⟩ := h
  obtain rfl := Vals.ref1 r
  obtain ⟨w1, rfl, e1⟩ := vals1 rz
  obtain ⟨its, rv, hl, _⟩ := I.list hs
  obtain ⟨as, hr⟩ := Dp.readsAll I ((n :: ns).map PyData.int) _ its (dpAll_ints _) rv
  refine PySem.W.min_list_default (I.ok.hd hc) hl.isList (by simpa using hr) (alike_ints (n :: ns)) (Nat.lt_of_le_of_lt (Nat.add_le_add_left (depth_ints (n :: ns)) _) (by omega)) (fun e => by simp at e) fun y ys i v h' tk bs e hv hrd hk => ?_
  rw [List.map_cons] at e
  injection e with e2 e3
  subst e2
  subst e3
  rw [PySem.W.minD_ints] at hrd
  cases hrd with
  | int => exact ⟨.int (ns.foldl min n), H, I.kept hk, ⟨_, rfl⟩, q⟩
section
variable {K : PySem.W.Frag} {ds : DE} {ta tb tc te : TE} {a b c d : D} {t tk : TA}
theorem ev_minDf {n : Int} {ns : List Int} (h : EvA K t ds [.lst ((n :: ns).map D.int)]) (h2 : EvA K tk ds [d]) : Eva K (tCKw (rMinDf K) t tk) ds (.int (ns.foldl min n)) := fun σ H e Q q =>
  h σ H e _ fun vs H1 e1 r1 => h2 σ H1 (e.mono e1) _ fun zs H2 e2 r2 => by
    cases r1 with
    | cons h3 h4 =>
      cases h4
      cases r2 with
      | cons h5 h6 =>
        cases h6
        cases h3 with
        | @lst p vs _ hq rl =>
          have e3 := rl.ints
          subst e3
          exact ⟨p, n, ns, _, rfl, rfl, ex_l e2 hq, q _ H2 (e1.trans e2) (.int _)⟩
/-! ### calls of built-ins -/
theorem c_max {i j : Int} : OpC K (fun xs H Q => ∃ i j, xs = [.int i, .int j] ∧ Q (.int (if j > i then j else i)) H) [.int i, .int j] (.int (maxI i j)) := fun H vs r Q q => by
  cases r with
  | cons h1 r =>
    cases r with
    | cons h2 r =>
      cases r
      cases h1
      cases h2
      exact ⟨i, j, rfl, q _ H (Ex.refl H) (.int _)⟩
def minI (i j : Int) : Int := if j < i then j else i
theorem c_min {i j : Int} : OpC K (fun xs H Q => ∃ i j, xs = [.int i, .int j] ∧ Q (.int (if j < i then j else i)) H) [.int i, .int j] (.int (minI i j)) := fun H vs r Q q => by
  cases r with
  | cons h1 r =>
    cases r with
    | cons h2 r =>
      cases r
      cases h1
      cases h2
      exact ⟨i, j, rfl, q _ H (Ex.refl H) (.int _)⟩
theorem c_abs {i : Int} : OpC K (fun xs H Q => ∃ i, xs = [.int i] ∧ Q (.int (if i < 0 then -i else i)) H) [.int i] (.int ((i.natAbs : Nat) : Int)) := fun H vs r Q q => by
  cases r with
  | cons h1 r =>
    cases r
    cases h1
    have e : (if i < 0 then -i else i) = ((i.natAbs : Nat) : Int) := by split <;> omega
    exact ⟨i, rfl, by rw [e]; exact q _ H (Ex.refl H) (.int _)⟩
def b2n (b : Bool) : Nat := if b then 1 else 0
theorem c_intb {x : Bool} : OpC K (fun xs H Q => (∃ i, xs = [.int i] ∧ Q (.int i) H) ∨ ∃ k, xs = [.bl k] ∧ Q (.int (if k then 1 else 0)) H) [.bl x] (.int ((b2n x : Nat) : Int)) := fun H vs r Q q => by
  cases r with
  | cons h1 r =>
    cases r
    cases h1
    refine .inr ⟨x, rfl, ?_⟩
    have e : (if x = true then (1 : Int) else 0) = ((b2n x : Nat) : Int) := by cases x <;> rfl
    rw [e]
    exact q _ H (Ex.refl H) (.int _)
theorem c_sum {ns : List Int} : OpC K (rSum K) [.lst (ns.map D.int)] (.int ns.sum) := fun H vs r Q q => by
  cases r with
  | cons h1 r =>
    cases r
    cases h1 with
    | @lst p vs _ hq rl =>
      have e3 := rl.ints
      subst e3
      exact ⟨p, ns, rfl, hq, q _ H (Ex.refl H) (.int _)⟩
theorem c_lenT {xs : List D} : OpC K (fun xs H Q => ∃ p ys, xs = [.ref p] ∧ (SqL K H p ys ∨ SqT K H p ys) ∧ Q (.int ys.length) H) [.tup xs] (.int ((xs.length : Nat) : Int)) := fun H vs r Q q => by
  cases r with
  | cons h1 r =>
    cases r
    cases h1 with
    | tup hq rl => exact ⟨_, _, rfl, .inr hq, by rw [rl.length]; exact q _ H (Ex.refl H) (.int _)⟩
theorem c_lenL {xs : List D} : OpC K (fun xs H Q => ∃ p ys, xs = [.ref p] ∧ (SqL K H p ys ∨ SqT K H p ys) ∧ Q (.int ys.length) H) [.lst xs] (.int ((xs.length : Nat) : Int)) := fun H vs r Q q => by
  cases r with
  | cons h1 r =>
    cases r
    cases h1 with
    | lst hq rl => exact ⟨_, _, rfl, .inl hq, by rw [rl.length]; exact q _ H (Ex.refl H) (.int _)⟩
theorem c_divmod {n m : Nat} (hc : CDivP (n : Int) (m : Int)) : OpC K (fun xs H Q => ∃ i j, xs = [.int i, .int j] ∧ CDivP i j ∧ ∀ p, H p = none → Q (.ref p) (upd H p (.tup [.int (i / j), .int (i % j)]))) [.int (n : Int), .int (m : Int)] (.tup [.int ((n / m : Nat) : Int), .int ((n % m : Nat) : Int)]) := fun H vs r Q q => by
  cases r with
  | cons h1 r =>
    cases r with
    | cons h2 r =>
      cases r
      cases h1
      cases h2
      refine ⟨n, m, rfl, hc, fun p hp => q _ _ (Ex.new hp) (.tup (SqT.of upd_same) (.cons ?_ (.cons ?_ .nil)))⟩
      · rw [Int.natCast_ediv]
        exact .int _
      · rw [Int.natCast_emod]
        exact .int _
theorem ev_ty {n : String} : Eva K (tC (.ty n)) ds (.ty n) := fun σ H _ Q q => q _ H (Ex.refl H) (.ty n)
theorem c_isi_int {T : String} {x : Bool} {i : Int} (h : kitB "int" T = some x) : OpC K (rIsi K) [.int i, .ty T] (.bl x) := fun H vs r Q q => by
  cases r with
  | cons h1 r =>
    cases r with
    | cons h2 r =>
      cases r
      cases h1
      cases h2
      exact ⟨_, _, _, _, x, rfl, .ty T, .base (.int i), kit_ty h, q _ H (Ex.refl H) (.bl _)⟩
theorem c_isi_tup {T : String} {x : Bool} {xs : List D} (h : kitB "tuple" T = some x) : OpC K (rIsi K) [.tup xs, .ty T] (.bl x) := fun H vs r Q q => by
  cases r with
  | cons h1 r =>
    cases r with
    | cons h2 r =>
      cases r
      cases h2
      cases h1 with
      | @tup p vs _ hq rl =>
        have fin := q _ H (Ex.refl H) (.bl x)
        rcases hq with (hq | ⟨o, hq⟩) | ⟨o, its, n, hk, hc, _⟩
        · exact ⟨_, _, _, _, x, rfl, .ty T, .base (.tup hq), kit_ty h, fin⟩
        · exact ⟨_, _, _, _, x, rfl, .ty T, .fTuple hq, kit_ty h, fin⟩
        · exact ⟨_, _, _, _, x, rfl, .ty T, .kTuple hk hc, kit_ty h, fin⟩
theorem ev_bits {to : TE} {n : Nat} (h : Eva K to ds (.int (n : Int))) : Eva K (tBits to) ds (.int ((blen n : Nat) : Int)) := fun σ H e Q q =>
  h σ H e _ fun v H1 e1 r1 => by
    cases r1
    refine ⟨_, rfl, ?_⟩
    have hb : Builtin.Int.intBits (n : Int) = blen n := by
      unfold Builtin.Int.intBits blen
      by_cases h0 : n = 0
      · subst h0
        rfl
      · rw [if_neg h0, if_neg (by simpa using (show (n : Int) ≠ 0 by omega)), Int.natAbs_natCast]
    rw [hb]
    exact q _ H1 e1 (.int _)
/-! ### in, == of lists of scalars -/
theorem inV_ints {i : Int} {ns : List Int} : inV (.int i) (ns.map V.int) = decide (i ∈ ns) := by
  unfold inV
  induction ns with
  | nil => rfl
  | cons n ns ih =>
    rw [List.map_cons, List.any_cons, ih]
    show ((n == i) || decide (i ∈ ns)) = decide (i ∈ n :: ns)
    by_cases h : n = i
    · subst h
      simp
    · have h2 : ¬ i = n := fun z => h z.symm
      simp [h, h2]
theorem inV_strs {i : Str} {ns : List Str} : inV (.str i) (ns.map V.str) = decide (i ∈ ns) := by
  unfold inV
  induction ns with
  | nil => rfl
  | cons n ns ih =>
    rw [List.map_cons, List.any_cons, ih]
    show ((n == i) || decide (i ∈ ns)) = decide (i ∈ n :: ns)
    by_cases h : n = i
    · subst h
      simp
    · have h2 : ¬ i = n := fun z => h z.symm
      simp [h, h2]
theorem flat_ints (ns : List Int) : (ns.map V.int).all flatV = true := by
  rw [List.all_map]
  exact List.all_eq_true.mpr fun _ _ => rfl
theorem flat_strs (ns : List Str) : (ns.map V.str).all flatV = true := by
  rw [List.all_map]
  exact List.all_eq_true.mpr fun _ _ => rfl
theorem o_inI {i : Int} {ns : List Int} : Op2 K (rIn K false) (.int i) (.lst (ns.map D.int)) (.bl (decide (i ∈ ns))) := fun H v w r1 r2 Q q => by
  cases r1
  cases r2 with
  | @lst p vs _ hq rl =>
    have e3 := rl.ints
    subst e3
    refine ⟨p, _, rfl, .inl hq, rfl, flat_ints ns, ?_⟩
    rw [if_neg Bool.false_ne_true, inV_ints]
    exact q _ H (Ex.refl H) (.bl _)
theorem o_niI {i : Int} {ns : List Int} : Op2 K (rIn K true) (.int i) (.lst (ns.map D.int)) (.bl (!decide (i ∈ ns))) := fun H v w r1 r2 Q q => by
  cases r1
  cases r2 with
  | @lst p vs _ hq rl =>
    have e3 := rl.ints
    subst e3
    refine ⟨p, _, rfl, .inl hq, rfl, flat_ints ns, ?_⟩
    rw [if_pos rfl, inV_ints]
    exact q _ H (Ex.refl H) (.bl _)
theorem o_inS {i : Str} {ns : List Str} : Op2 K (rIn K false) (.str i) (.lst (ns.map D.str)) (.bl (decide (i ∈ ns))) := fun H v w r1 r2 Q q => by
  cases r1
  cases r2 with
  | @lst p vs _ hq rl =>
    have e3 := rl.strs
    subst e3
    refine ⟨p, _, rfl, .inl hq, rfl, flat_strs ns, ?_⟩
    rw [if_neg Bool.false_ne_true, inV_strs]
    exact q _ H (Ex.refl H) (.bl _)
theorem dpAll_strs {H : Hp} : ∀ ns : List Str, DpAll K H (ns.map V.str) (ns.map PyData.str)
  | [] => .nil
  | n :: ns => .cons (.str n) (dpAll_strs ns)
theorem eqv_strs : ∀ xs ys : List Str, PyData.eqvAll (xs.map PyData.str) (ys.map PyData.str) = decide (xs = ys)
  | [], [] => by simp [PyData.eqvAll]
  | [], _ :: _ => by simp [PyData.eqvAll]
  | _ :: _, [] => by simp [PyData.eqvAll]
  | x :: xs, y :: ys => by
    have ih := eqv_strs xs ys
    rw [List.map_cons, List.map_cons, PyData.eqvAll, ih, PyData.eqv]
    by_cases h : x = y
    · subst h
      simp
    · simp [h]
theorem o_eqLS {xs ys : List Str} (h1 : SeqAt.shaped (.list (xs.map PyData.str)) = true) (h2 : SeqAt.shaped (.list (ys.map PyData.str)) = true) : Op2 K (rEqD K) (.lst (xs.map D.str)) (.lst (ys.map D.str)) (.bl (decide (xs = ys))) := fun H v w r1 r2 Q q => by
  cases r1 with
  | @lst p vs _ hq rl =>
    have e3 := rl.strs
    subst e3
    cases r2 with
    | @lst p2 vs2 _ hq2 rl2 =>
      have e4 := rl2.strs
      subst e4
      refine ⟨_, _, .lst hq (dpAll_strs xs), .lst hq2 (dpAll_strs ys), h1, h2, ?_⟩
      have e : PyData.eqv (.list (xs.map PyData.str)) (.list (ys.map PyData.str)) = decide (xs = ys) := by
        rw [PyData.eqv]
        exact eqv_strs xs ys
      rw [e]
      exact q _ H (Ex.refl H) (.bl _)
/-! ### operators on naturals -/
theorem on_add {n m : Nat} : Op2 K (rI0 fun i j => .int (i + j)) (.int (n : Int)) (.int (m : Int)) (.int ((n + m : Nat) : Int)) := by
  rw [Int.natCast_add]
  exact o_add
theorem on_sub {n m : Nat} (h : m ≤ n) : Op2 K (rI0 fun i j => .int (i - j)) (.int (n : Int)) (.int (m : Int)) (.int ((n - m : Nat) : Int)) := by
  rw [Int.natCast_sub h]
  exact o_sub
theorem on_mul {n m : Nat} (h : CMulX (n : Int) (m : Int)) : Op2 K (rI CMulX fun i j => .int (i * j)) (.int (n : Int)) (.int (m : Int)) (.int ((n * m : Nat) : Int)) := by
  rw [Int.natCast_mul]
  exact o_I (g := fun i j => i * j) h
theorem o_mul {i j : Int} (h : CMulX i j) : Op2 K (rI CMulX fun i j => .int (i * j)) (.int i) (.int j) (.int (i * j)) := o_I (g := fun i j => i * j) h
theorem on_shl {n m : Nat} (h : CShl (n : Int) (m : Int)) : Op2 K (rI CShl fun i j => .int (i * 2 ^ j.toNat)) (.int (n : Int)) (.int (m : Int)) (.int ((n * 2 ^ m : Nat) : Int)) := by
  have e : ((n * 2 ^ m : Nat) : Int) = (n : Int) * 2 ^ (m : Int).toNat := by rw [Int.natCast_mul, PySem.W.kbt_cast, Int.toNat_natCast]
  rw [e]
  exact o_I (g := fun i j => i * 2 ^ j.toNat) h
theorem on_one {m : Nat} (h : m ≤ 134217727) : Op2 K (rI CShl fun i j => .int (i * 2 ^ j.toNat)) (.int ((1 : Nat) : Int)) (.int (m : Int)) (.int ((2 ^ m : Nat) : Int)) := by
  have h2 := on_shl (K := K) (n := 1) (m := m) (shl_ok (n := 1) (by decide) (by omega))
  rw [Nat.one_mul] at h2
  exact h2
theorem on_shr {n m : Nat} : Op2 K (rI (fun _ j => 0 ≤ j) fun i j => .int (i / 2 ^ j.toNat)) (.int (n : Int)) (.int (m : Int)) (.int ((n / 2 ^ m : Nat) : Int)) := by
  have e : ((n / 2 ^ m : Nat) : Int) = (n : Int) / 2 ^ (m : Int).toNat := by rw [Int.natCast_ediv, PySem.W.kbt_cast, Int.toNat_natCast]
  rw [e]
  exact o_I (g := fun i j => i / 2 ^ j.toNat) (Int.natCast_nonneg m)
theorem on_div {n m : Nat} (h : CDivP (n : Int) (m : Int)) : Op2 K (rI CDivP fun i j => .int (i / j)) (.int (n : Int)) (.int (m : Int)) (.int ((n / m : Nat) : Int)) := by
  rw [Int.natCast_ediv]
  exact o_I (g := fun i j => i / j) h
theorem o_div {i j : Int} (h : CDivP i j) : Op2 K (rI CDivP fun i j => .int (i / j)) (.int i) (.int j) (.int (i / j)) := o_I (g := fun i j => i / j) h
theorem on_mod {n m : Nat} (h : 0 < m) : Op2 K (rI (fun _ j => 0 < j) fun i j => .int (i % j)) (.int (n : Int)) (.int (m : Int)) (.int ((n % m : Nat) : Int)) := by
  rw [Int.natCast_emod]
  exact o_I (g := fun i j => i % j) (by omega)
/-- of any int by a positive one -/
theorem o_mod {i : Int} {m : Nat} (h : 0 < m) : Op2 K (rI (fun _ j => 0 < j) fun i j => .int (i % j)) (.int i) (.int (m : Int)) (.int (((i % (m : Int)).toNat : Nat) : Int)) := by
  have e : (((i % (m : Int)).toNat : Nat) : Int) = i % (m : Int) := Int.toNat_of_nonneg (Int.emod_nonneg i (by omega))
  rw [e]
  exact o_I (g := fun i j => i % j) (by omega)
theorem on_or {n m : Nat} : Op2 K (rI0 fun i j => .int (Builtin.bitOr i j)) (.int (n : Int)) (.int (m : Int)) (.int ((n ||| m : Nat) : Int)) := by
  have e : ((n ||| m : Nat) : Int) = Builtin.bitOr (n : Int) (m : Int) := by rw [bitOr_nn (Int.natCast_nonneg _) (Int.natCast_nonneg _), Int.toNat_natCast, Int.toNat_natCast]
  rw [e]
  exact o_I0 (g := Builtin.bitOr)
theorem on_and {n m : Nat} : Op2 K (rI0 fun i j => .int (Builtin.bitAnd i j)) (.int (n : Int)) (.int (m : Int)) (.int ((n &&& m : Nat) : Int)) := by
  have e : ((n &&& m : Nat) : Int) = Builtin.bitAnd (n : Int) (m : Int) := by rw [bitAnd_pp (Int.natCast_nonneg _) (Int.natCast_nonneg _), Int.toNat_natCast, Int.toNat_natCast]
  rw [e]
  exact o_I0 (g := Builtin.bitAnd)
/-- a ^ b of naturals, by or and and -/
def xorN (n m : Nat) : Nat := (Builtin.bitXor (n : Int) (m : Int)).toNat
theorem on_xor {n m : Nat} : Op2 K (rI0 fun i j => .int (Builtin.bitXor i j)) (.int (n : Int)) (.int (m : Int)) (.int ((xorN n m : Nat) : Int)) := by
  have h : 0 ≤ Builtin.bitXor (n : Int) (m : Int) := by
    have e1 : Builtin.bitOr (n : Int) (m : Int) = ((n ||| m : Nat) : Int) := by rw [bitOr_nn (Int.natCast_nonneg _) (Int.natCast_nonneg _), Int.toNat_natCast, Int.toNat_natCast]
    have e2 : Builtin.bitAnd (n : Int) (m : Int) = ((n &&& m : Nat) : Int) := by rw [bitAnd_pp (Int.natCast_nonneg _) (Int.natCast_nonneg _), Int.toNat_natCast, Int.toNat_natCast]
    unfold Builtin.bitXor
    rw [e1, e2]
    have : n &&& m ≤ n ||| m := Nat.le_trans Nat.and_le_left Nat.left_le_or
    omega
  have e : ((xorN n m : Nat) : Int) = Builtin.bitXor (n : Int) (m : Int) := Int.toNat_of_nonneg h
  rw [e]
  exact o_I0 (g := Builtin.bitXor)
theorem on_lt {n m : Nat} : Op2 K (rI0 fun i j => .bl (decide (i < j))) (.int (n : Int)) (.int (m : Int)) (.bl (decide (n < m))) := by
  have e : decide (n < m) = decide ((n : Int) < (m : Int)) := decide_eq_decide.mpr (by omega)
  rw [e]
  exact o_lt
theorem on_le {n m : Nat} : Op2 K (rI0 fun i j => .bl (decide (i ≤ j))) (.int (n : Int)) (.int (m : Int)) (.bl (decide (n ≤ m))) := by
  have e : decide (n ≤ m) = decide ((n : Int) ≤ (m : Int)) := decide_eq_decide.mpr (by omega)
  rw [e]
  exact o_le
theorem on_gt {n m : Nat} : Op2 K (rI0 fun i j => .bl (decide (j < i))) (.int (n : Int)) (.int (m : Int)) (.bl (decide (m < n))) := by
  have e : decide (m < n) = decide ((m : Int) < (n : Int)) := decide_eq_decide.mpr (by omega)
  rw [e]
  exact o_gt
theorem on_ge {n m : Nat} : Op2 K (rI0 fun i j => .bl (decide (j ≤ i))) (.int (n : Int)) (.int (m : Int)) (.bl (decide (m ≤ n))) := by
  have e : decide (m ≤ n) = decide ((m : Int) ≤ (n : Int)) := decide_eq_decide.mpr (by omega)
  rw [e]
  exact o_ge
theorem on_eq {n m : Nat} : Op2 K rEq (.int (n : Int)) (.int (m : Int)) (.bl (decide (n = m))) := by
  have e : decide (n = m) = decide ((n : Int) = (m : Int)) := decide_eq_decide.mpr (by omega)
  rw [e]
  exact o_eqI
theorem on_ne {n m : Nat} : Op2 K rNe (.int (n : Int)) (.int (m : Int)) (.bl (decide (n ≠ m))) := by
  have e : decide (n ≠ m) = !decide ((n : Int) = (m : Int)) := by
    by_cases h : n = m
    · subst h
      simp
    · have h2 : ¬ (n : Int) = (m : Int) := by omega
      simp [h, h2]
  rw [e]
  exact o_neI
theorem on_ipadd {n m : Nat} : Op2 K (ipI fun i j => i + j) (.int (n : Int)) (.int (m : Int)) (.int ((n + m : Nat) : Int)) := by
  rw [Int.natCast_add]
  exact o_ip (f := fun i j => i + j)
theorem op_mod1 {X : Cx} : OpR X (binaryOp .Mod) (rI (fun _ j => 0 < j) fun i j => .int (i % j)) := op_mod
/-! ### fields -/
def ofV : V → D
  | .bl b => .bl b
  | .int i => .int i
  | .str x => .str x
  | _ => .non
theorem ev_fld {C : Addr} {fs : List (Str × V)} {f : Str} {i : Int} (cl : Cls K C) (na : NoAttr K C f) (hl : fs.lookup f = some (.int i)) (h : Eva K ta ds (.ob C fs)) : Eva K (tFld K ta f) ds (.int i) := fun σ H e Q q =>
  h σ H e _ fun v H1 e1 r1 => by
    cases r1 with
    | @ob p dx _ _ hp => exact ⟨p, C, dx, fs, _, rfl, hp, cl, na, hl, q _ H1 e1 (.int _)⟩
end
end RM
set_option Elab.async false
set_option linter.all false
set_option maxRecDepth 100000
set_option maxHeartbeats 2000000
/-! What each def of the program is worth, of data. -/
namespace RM
open PySem PySem.Spec PyProof.Rows L2
def topS (i : Nat) : Stmt := PySem.Challenge.pw_roundmill_k34_whole_deeds.main.body.getD i (.Pass ⟨0, 0, 0, 0⟩)
/-! ### bounds: numbers of at most so many bits -/
def BB : Nat := 1000000
def B1 : Nat := 400000
/-! ### sizes and bits -/
def sz (E F : Nat) : D := .tup [.int ((E : Nat) : Int), .int ((F : Nat) : Int)]
abbrev nD (n : Nat) : D := .int ((n : Nat) : Int)
def nan (E F : Nat) : Nat := last E F + 2 ^ (F - 1)
def bt (E F s c : Nat) : Nat := s * top E F + c
def kindS (E F c : Nat) : Str := if c / 2 ^ F = 2 ^ E - 1 then (if c % 2 ^ F = 0 then "endless" else "none") else if 0 < c / 2 ^ F then "plain" else if c % 2 ^ F = 0 then "nought" else "faint"
def mant (F c : Nat) : Nat := if c / 2 ^ F = 0 then c % 2 ^ F else 2 ^ F + c % 2 ^ F
def expo (F c : Nat) : Nat := c / 2 ^ F - 1
def pw (E F c : Nat) : Int := (expo F c : Int) - (st E F : Int)
def gSz (v : Nat → Nat → D) (ds : List D) (d : D) : Prop := ∃ E F, Sz E F ∧ ds = [sz E F] ∧ d = v E F
abbrev gWidth := gSz fun E F => nD (E + F + 1)
abbrev gBias := gSz fun E F => nD (hf E - 1)
abbrev gLow := gSz fun E F => .int (-(st E F : Int))
abbrev gSign := gSz fun E F => nD (top E F)
abbrev gEndless := gSz fun E F => nD (last E F)
abbrev gNan := gSz fun E F => nD (nan E F)
def gAsked (ds : List D) (d : D) : Prop := ∃ a b : Nat, 0 < b ∧ ds = [nD a, nD b] ∧ d = .non
def gScaled (ds : List D) (d : D) : Prop := ∃ (a b : Nat) (p : Int), a < 2 ^ BB ∧ b < 2 ^ BB ∧ -(BB : Int) ≤ p ∧ p ≤ BB ∧ ds = [nD a, nD b, .int p] ∧ d = .tup [nD (a * dn p), nD (b * up p)]
def gAhead (ds : List D) (d : D) : Prop := ∃ a b : Nat, a < 2 ^ BB ∧ b < 2 ^ BB ∧ ds = [nD a, nD b] ∧ d = .int (aheadI a b)
def gRest (ds : List D) (d : D) : Prop := ∃ l h : Nat, ds = [nD l, nD h] ∧ d = nD (restOf l h)
def cutD (m : Nat × Int × Nat) : D := .tup [nD m.1, .int m.2.1, nD m.2.2]
def gCut (ds : List D) (d : D) : Prop := ∃ E F a b : Nat, Sz E F ∧ 0 < b ∧ a < 2 ^ B1 ∧ b < 2 ^ B1 ∧ ds = [sz E F, nD a, nD b] ∧ d = cutD (cutM E F a b)
def gIsq (ds : List D) (d : D) : Prop := ∃ n : Nat, n < 2 ^ 1000 ∧ ds = [nD n] ∧ d = nD (isq n)
def gRoot (ds : List D) (d : D) : Prop := ∃ E F a b S : Nat, Sz E F ∧ 0 < b ∧ a * 2 ^ (2 * st E F) = S * b ∧ a < 2 ^ B1 ∧ b < 2 ^ B1 ∧ ds = [sz E F, nD a, nD b] ∧ d = cutD (rootM E F a b)
def gParted (ds : List D) (d : D) : Prop := ∃ E F s c : Nat, Sz E F ∧ s ≤ 1 ∧ c < top E F ∧ ds = [sz E F, nD (bt E F s c)] ∧ d = .tup [nD s, nD (c / 2 ^ F), nD (c % 2 ^ F)]
def gKind (ds : List D) (d : D) : Prop := ∃ E F s c : Nat, Sz E F ∧ s ≤ 1 ∧ c < top E F ∧ ds = [sz E F, nD (bt E F s c)] ∧ d = .str (kindS E F c)
def gWorth (ds : List D) (d : D) : Prop := ∃ E F s c : Nat, Sz E F ∧ s ≤ 1 ∧ c < last E F ∧ ds = [sz E F, nD (bt E F s c)] ∧ d = .tup [nD s, nD (mant F c), .int (pw E F c)]
def gFrac (ds : List D) (d : D) : Prop := ∃ E F s c : Nat, Sz E F ∧ s ≤ 1 ∧ c < last E F ∧ ds = [sz E F, nD (bt E F s c)] ∧ d = .tup [nD s, nD (mant F c * up (pw E F c)), nD (dn (pw E F c))]
def gNeg (ds : List D) (d : D) : Prop := ∃ E F s c : Nat, Sz E F ∧ s ≤ 1 ∧ c < top E F ∧ ds = [sz E F, nD (bt E F s c)] ∧ d = nD (bt E F (1 - s) c)
/-! ### ways -/
structure Cs where
  w : Addr
  n : Addr
  a : Addr
  o : Addr
def wn : W5 → Str
  | .even => "even"
  | .away => "away"
  | .nought => "nought"
  | .up => "up"
  | .down => "down"
def wayC (C : Cs) : W5 → Addr
  | .even => C.n
  | .away => C.a
  | .nought => C.w
  | .up => C.o
  | .down => C.o
def wayF : W5 → List (Str × V)
  | .up => [("outward_sign", .int 0)]
  | .down => [("outward_sign", .int 1)]
  | _ => []
def wayD (C : Cs) (wy : W5) : D := .ob (wayC C wy) (wayF wy)
def gWay (C : Cs) (ds : List D) (d : D) : Prop := ∃ wy, ds = [.str (wn wy)] ∧ d = wayD C wy
def gGrows (C : Cs) (wy : W5) (ds : List D) (d : D) : Prop := ∃ (s r : Nat) (odd : Bool), ds = [wayD C wy, nD s, .bl odd, nD r] ∧ d = .bl (grows wy s odd r)
def gBursts (C : Cs) (wy : W5) (ds : List D) (d : D) : Prop := ∃ (s : Nat), ds = [wayD C wy, nD s] ∧ d = .bl (bursts wy s)
def midw : W5 → Bool → Bool
  | .even, odd => odd
  | _, _ => true
def b2w (b : Bool) : W5 := if b then .away else .even
def u2w (b : Bool) : W5 := if b then .down else .up
def gMid (C : Cs) (wy : W5) (ds : List D) (d : D) : Prop := ∃ (odd : Bool), ds = [wayD C wy, .bl odd] ∧ d = .bl (midw wy odd)
/-! ### rounding -/
def setM (E F : Nat) (wy : W5) (s k w r : Nat) : Nat × Nat := settle E F wy s (k * 2 ^ F + w) r (decide (k * 2 ^ F + w < 2 ^ F))
def ansD (E F s : Nat) (a : Nat × Nat) : D := .tup [nD (bt E F s a.1), nD a.2]
def gSettled (ds : List D) (d : D) : Prop := ∃ (E F : Nat) (wy : W5) (s k w r : Nat), Sz E F ∧ s ≤ 1 ∧ r ≤ 3 ∧ k ≤ BB ∧ CutOk E F k w ∧ ds = [sz E F, .str (wn wy), nD s, nD w, .int ((k : Int) - (st E F : Int)), nD r] ∧ d = ansD E F s (setM E F wy s k w r)
def rnd (E F : Nat) (wy : W5) (s a b : Nat) : Nat × Nat := setM E F wy s ((cutM E F a b).2.1 + st E F).toNat (cutM E F a b).1 (cutM E F a b).2.2
def gRounded (ds : List D) (d : D) : Prop := ∃ (E F : Nat) (wy : W5) (s a b : Nat), Sz E F ∧ s ≤ 1 ∧ 0 < b ∧ a < 2 ^ B1 ∧ b < 2 ^ B1 ∧ ds = [sz E F, .str (wn wy), nD s, nD a, nD b] ∧ d = ansD E F s (rnd E F wy s a b)
/-! ### sums -/
structure Tm where
  sort : Nat
  s : Nat
  w : Nat
  p : Int
def sortS : Nat → Str
  | 0 => "finite"
  | 1 => "endless"
  | _ => "wrong"
def worD (t : Tm) : D := .tup [nD t.s, nD t.w, .int t.p]
def tmD (t : Tm) : D := .tup [.str (sortS t.sort), nD t.s, nD t.w, .int t.p]
/-- bounds of a term -/
structure TmOk (t : Tm) : Prop where
  s1 : t.s ≤ 1
  w : t.w < 2 ^ 1000
  lo : -100000 ≤ t.p
  hi : t.p ≤ 100000
def leastP : List Tm → Int
  | [] => 0
  | t :: ts => (ts.map (·.p)).foldl min t.p
def sgn (s : Nat) (x : Int) : Int := if s = 1 then -x else x
def totX (l : Int) (ts : List Tm) : Int := (ts.map fun t => sgn t.s ((t.w * 2 ^ (t.p - l).toNat : Nat) : Int)).sum
def gTotal (ds : List D) (d : D) : Prop := ∃ ts : List Tm, ts ≠ [] ∧ ts.length ≤ 10 ∧ (∀ t ∈ ts, TmOk t) ∧ ds = [.lst (ts.map worD)] ∧ d = .tup [nD (if totX (leastP ts) ts < 0 then 1 else 0), nD (totX (leastP ts) ts).natAbs, .int (leastP ts)]
def nsg (wy : W5) (ss : List Nat) : Nat := if 0 ∈ ss ∧ 1 ∈ ss then (if wy = .down then 1 else 0) else ss.headD 0
def gNsg (ds : List D) (d : D) : Prop := ∃ (wy : W5) (ss : List Nat), ss.length ≤ 10 ∧ ds = [.str (wn wy), .lst (ss.map fun (s : Nat) => nD s)] ∧ d = nD (nsg wy ss)
/-- bits and flags -/
def stot (E F : Nat) (wy : W5) (ts : List Tm) : Nat × Nat :=
  if totX (leastP ts) ts = 0 then (bt E F (nsg wy (ts.map (·.s))) 0, 0)
  else
    let s := if totX (leastP ts) ts < 0 then 1 else 0
    let a := rnd E F wy s ((totX (leastP ts) ts).natAbs * up (leastP ts)) (dn (leastP ts))
    (bt E F s a.1, a.2)
def prD (a : Nat × Nat) : D := .tup [nD a.1, nD a.2]
def gStot (ds : List D) (d : D) : Prop := ∃ (E F : Nat) (wy : W5) (ts : List Tm), Sz E F ∧ ts ≠ [] ∧ ts.length ≤ 10 ∧ (∀ t ∈ ts, TmOk t) ∧ ds = [sz E F, .str (wn wy), .lst (ts.map worD)] ∧ d = prD (stot E F wy ts)
/-! ### deeds -/
def btD (E F : Nat) (x : Nat × Nat) : D := nD (bt E F x.1 x.2)
def okB (E F : Nat) (x : Nat × Nat) : Prop := x.1 ≤ 1 ∧ x.2 < top E F
def gKinds (ds : List D) (d : D) : Prop := ∃ (E F : Nat) (wy : W5) (xs : List (Nat × Nat)), Sz E F ∧ xs.length ≤ 10 ∧ (∀ x ∈ xs, okB E F x) ∧ ds = [sz E F, .str (wn wy), .lst (xs.map (btD E F))] ∧ d = .lst (xs.map fun x => .str (kindS E F x.2))
abbrev gGone := gSz fun E F => prD (nan E F, 16)
def gEndw (ds : List D) (d : D) : Prop := ∃ E F s : Nat, Sz E F ∧ s ≤ 1 ∧ ds = [sz E F, nD s] ∧ d = nD (bt E F s (last E F))
def termM (E F : Nat) (x : Nat × Nat) : Tm := if x.2 = last E F then ⟨1, x.1, 0, 0⟩ else ⟨0, x.1, mant F x.2, pw E F x.2⟩
def gTerm (ds : List D) (d : D) : Prop := ∃ (E F : Nat) (x : Nat × Nat), Sz E F ∧ x.1 ≤ 1 ∧ x.2 ≤ last E F ∧ ds = [sz E F, btD E F x] ∧ d = tmD (termM E F x)
def xs1 (a b : Nat) : Nat := if a = b then 0 else 1
def prodM (E F : Nat) (x y : Nat × Nat) : Tm :=
  if x.2 ≠ last E F ∧ y.2 ≠ last E F then ⟨0, xs1 x.1 y.1, mant F x.2 * mant F y.2, pw E F x.2 + pw E F y.2⟩
  else if x.2 = 0 ∨ y.2 = 0 then ⟨2, 0, 0, 0⟩
  else ⟨1, xs1 x.1 y.1, 0, 0⟩
def gProd (ds : List D) (d : D) : Prop := ∃ (E F : Nat) (x y : Nat × Nat), Sz E F ∧ x.1 ≤ 1 ∧ x.2 ≤ last E F ∧ y.1 ≤ 1 ∧ y.2 ≤ last E F ∧ ds = [sz E F, btD E F x, btD E F y] ∧ d = tmD (prodM E F x y)
def sumT (E F : Nat) (wy : W5) (ts : List Tm) : Nat × Nat :=
  if ∃ t ∈ ts, t.sort = 2 then (nan E F, 16)
  else
    let ss := (ts.filter fun t => decide (t.sort = 1)).map (·.s)
    if 0 ∈ ss ∧ 1 ∈ ss then (nan E F, 16)
    else if ss ≠ [] then (bt E F (ss.headD 0) (last E F), 0)
    else stot E F wy (ts.filter fun t => decide (t.sort = 0))
def gSumT (ds : List D) (d : D) : Prop := ∃ (E F : Nat) (wy : W5) (ts : List Tm), Sz E F ∧ ts ≠ [] ∧ ts.length ≤ 10 ∧ (∀ t ∈ ts, TmOk t ∧ t.sort ≤ 2) ∧ ds = [sz E F, .str (wn wy), .lst (ts.map tmD)] ∧ d = prD (sumT E F wy ts)
def addM (E F : Nat) (wy : W5) (x y : Nat × Nat) : Nat × Nat := if last E F < x.2 ∨ last E F < y.2 then (nan E F, 0) else sumT E F wy [termM E F x, termM E F y]
def flip (x : Nat × Nat) : Nat × Nat := (1 - x.1, x.2)
def mulM (E F : Nat) (wy : W5) (x y : Nat × Nat) : Nat × Nat := if last E F < x.2 ∨ last E F < y.2 then (nan E F, 0) else sumT E F wy [prodM E F x y]
def fusM (E F : Nat) (wy : W5) (x y z : Nat × Nat) : Nat × Nat := if last E F < x.2 ∨ last E F < y.2 ∨ last E F < z.2 then (nan E F, 0) else sumT E F wy [prodM E F x y, termM E F z]
def divM (E F : Nat) (wy : W5) (x y : Nat × Nat) : Nat × Nat :=
  if last E F < x.2 ∨ last E F < y.2 then (nan E F, 0)
  else if (x.2 = last E F ∧ y.2 = last E F) ∨ (x.2 = 0 ∧ y.2 = 0) then (nan E F, 16)
  else if x.2 = last E F then (bt E F (xs1 x.1 y.1) (last E F), 0)
  else if y.2 = 0 then (bt E F (xs1 x.1 y.1) (last E F), 8)
  else if y.2 = last E F then (bt E F (xs1 x.1 y.1) 0, 0)
  else
    let a := rnd E F wy (xs1 x.1 y.1) (mant F x.2 * up (pw E F x.2) * dn (pw E F y.2)) (dn (pw E F x.2) * (mant F y.2 * up (pw E F y.2)))
    (bt E F (xs1 x.1 y.1) a.1, a.2)
def rooM (E F : Nat) (wy : W5) (x : Nat × Nat) : Nat × Nat :=
  if last E F < x.2 then (nan E F, 0)
  else if x.2 = 0 then (bt E F x.1 x.2, 0)
  else if x.1 = 1 then (nan E F, 16)
  else if x.2 = last E F then (bt E F x.1 x.2, 0)
  else
    let m := rootM E F (mant F x.2 * up (pw E F x.2)) (dn (pw E F x.2))
    setM E F wy 0 (m.2.1 + st E F).toNat m.1 m.2.2
def gDeed2 (m : Nat → Nat → W5 → Nat × Nat → Nat × Nat → Nat × Nat) (ds : List D) (d : D) : Prop := ∃ (E F : Nat) (wy : W5) (x y : Nat × Nat), Sz E F ∧ okB E F x ∧ okB E F y ∧ ds = [sz E F, .str (wn wy), btD E F x, btD E F y] ∧ d = prD (m E F wy x y)
abbrev gAdd := gDeed2 addM
abbrev gTake := gDeed2 fun E F wy x y => addM E F wy x (flip y)
abbrev gMul := gDeed2 mulM
abbrev gDiv := gDeed2 divM
def gFus (ds : List D) (d : D) : Prop := ∃ (E F : Nat) (wy : W5) (x y z : Nat × Nat), Sz E F ∧ okB E F x ∧ okB E F y ∧ okB E F z ∧ ds = [sz E F, .str (wn wy), btD E F x, btD E F y, btD E F z] ∧ d = prD (fusM E F wy x y z)
def gDeed1 (m : Nat → Nat → W5 → Nat × Nat → Nat × Nat) (ds : List D) (d : D) : Prop := ∃ (E F : Nat) (wy : W5) (x : Nat × Nat), Sz E F ∧ okB E F x ∧ ds = [sz E F, .str (wn wy), btD E F x] ∧ d = prD (m E F wy x)
abbrev gRoo := gDeed1 rooM
def wholeM (wy : W5) (s a b : Nat) : Nat :=
  if a % b = 0 then a / b
  else if grows wy s (decide (a / b % 2 = 1)) (if 2 * (a % b) < b then 1 else if b < 2 * (a % b) then 3 else 2) = true then a / b + 1 else a / b
def gWholeOf (ds : List D) (d : D) : Prop := ∃ (wy : W5) (s a b : Nat), s ≤ 1 ∧ 0 < b ∧ a < 2 ^ BB ∧ b < 2 ^ BB ∧ CDivP (a : Int) (b : Int) ∧ ds = [.str (wn wy), nD s, nD a, nD b] ∧ d = nD (wholeM wy s a b)
def whoM (E F : Nat) (wy : W5) (x : Nat × Nat) : Nat × Nat :=
  if last E F < x.2 then (nan E F, 0)
  else if x.2 = 0 ∨ x.2 = last E F then (bt E F x.1 x.2, 0)
  else
    let w := wholeM wy x.1 (mant F x.2 * up (pw E F x.2)) (dn (pw E F x.2))
    let a := rnd E F wy x.1 w 1
    (bt E F x.1 a.1, (a.2 &&& 4) ||| (if w * dn (pw E F x.2) = mant F x.2 * up (pw E F x.2) then 0 else 1))
abbrev gWho := gDeed1 whoM
end RM
set_option Elab.async false
set_option linter.all false
set_option maxRecDepth 100000
set_option maxHeartbeats 0
namespace RM
open PySem PySem.Spec PyProof.Rows L2
abbrev s_width : Stmt := topS 7
abbrev s_bias : Stmt := topS 8
abbrev s_low : Stmt := topS 9
abbrev s_sign_bit : Stmt := topS 10
abbrev s_endless : Stmt := topS 11
abbrev s_no_number : Stmt := topS 12
abbrev s_asked_fraction : Stmt := topS 14
abbrev s_ahead : Stmt := topS 15
abbrev s_scaled : Stmt := topS 16
abbrev s_rest_of : Stmt := topS 17
abbrev s_cut : Stmt := topS 18
abbrev s_whole_root : Stmt := topS 19
abbrev s_root_cut : Stmt := topS 20
abbrev s_parted : Stmt := topS 27
abbrev s_kind : Stmt := topS 28
abbrev s_worth : Stmt := topS 29
abbrev s_fraction : Stmt := topS 30
abbrev s_negated : Stmt := topS 31
abbrev s_Way_grows : Stmt := inClass (topS 33) 0
abbrev s_Way_bursts : Stmt := inClass (topS 33) 1
abbrev s_Nearest_grows : Stmt := inClass (topS 34) 0
abbrev s_Nearest_grows_midway : Stmt := inClass (topS 34) 1
abbrev s_Nearest_bursts : Stmt := inClass (topS 34) 2
abbrev s_NearestAway_grows_midway : Stmt := inClass (topS 35) 0
abbrev s_Outward_init : Stmt := inClass (topS 36) 0
abbrev s_Outward_grows : Stmt := inClass (topS 36) 1
abbrev s_Outward_bursts : Stmt := inClass (topS 36) 2
abbrev s_way_of : Stmt := topS 37
abbrev s_settled : Stmt := topS 39
abbrev s_rounded : Stmt := topS 40
abbrev s_total : Stmt := topS 42
abbrev s_nought_sign : Stmt := topS 43
abbrev s_settled_total : Stmt := topS 44
abbrev s_kinds_of : Stmt := topS 46
abbrev s_gone_wrong : Stmt := topS 47
abbrev s_endless_with : Stmt := topS 48
abbrev s_term_of : Stmt := topS 49
abbrev s_product_term : Stmt := topS 50
abbrev s_sum_of_terms : Stmt := topS 51
abbrev s_added : Stmt := topS 52
abbrev s_taken : Stmt := topS 53
abbrev s_multiplied : Stmt := topS 54
abbrev s_fused : Stmt := topS 55
abbrev s_divided : Stmt := topS 56
abbrev s_rooted : Stmt := topS 57
abbrev s_whole_of : Stmt := topS 59
abbrev s_wholed : Stmt := topS 60
abbrev s_l_cell_at : Stmt := topS 62
abbrev s_l_whole : Stmt := topS 63
abbrev s_l_size_by : Stmt := topS 64
abbrev s_l_way_by : Stmt := topS 65
abbrev s_l_mixed : Stmt := topS 66
abbrev s_l_bits_by : Stmt := topS 67
abbrev s_l_odd_by : Stmt := topS 68
abbrev s_l_mate_by : Stmt := topS 69
abbrev s_l_third_by : Stmt := topS 70
abbrev s_l_two : Stmt := topS 71
abbrev s_l_value : Stmt := topS 72
abbrev s_l_near : Stmt := topS 73
abbrev s_l_far : Stmt := topS 74
abbrev s_l_fair : Stmt := topS 75
abbrev s_l_is : Stmt := topS 76
abbrev s_l_root_fair : Stmt := topS 77
abbrev s_l_fair_whole : Stmt := topS 78
abbrev s_l_wholed_fair : Stmt := topS 79
abbrev s_l_term : Stmt := topS 80
abbrev s_l_product : Stmt := topS 81
abbrev s_l_sum_good : Stmt := topS 82
abbrev s_l_quotient_good : Stmt := topS 83
abbrev s_l_root_good : Stmt := topS 84
abbrev s_l_partner : Stmt := topS 85
abbrev s_l_deed : Stmt := topS 86
abbrev s_law : Stmt := topS 87
def dfn (x : Str) (st : Stmt) : He.DefD := ⟨(x, none), x, x, defArgs st, defBody st, defScope st, [], []⟩
def dmt (C m q : Str) (st : Stmt) : He.DefD := ⟨(C, some m), m, q, defArgs st, defBody st, defScope st, [], []⟩
def fnL0 : List He.DefD := [dfn "width" s_width,
  dfn "bias" s_bias,
  dfn "low" s_low,
  dfn "sign_bit" s_sign_bit,
  dfn "endless" s_endless,
  dfn "no_number" s_no_number,
  dfn "asked_fraction" s_asked_fraction,
  dfn "ahead" s_ahead,
  dfn "scaled" s_scaled,
  dfn "rest_of" s_rest_of,
  dfn "cut" s_cut,
  dfn "whole_root" s_whole_root,
  dfn "root_cut" s_root_cut,
  dfn "parted" s_parted,
  dfn "kind" s_kind,
  dfn "worth" s_worth,
  dfn "fraction" s_fraction,
  dfn "negated" s_negated,
  dmt "Way" "grows" "Way.grows" s_Way_grows,
  dmt "Way" "bursts" "Way.bursts" s_Way_bursts]
def fnL1 : List He.DefD := [dmt "Nearest" "grows" "Nearest.grows" s_Nearest_grows,
  dmt "Nearest" "grows_midway" "Nearest.grows_midway" s_Nearest_grows_midway,
  dmt "Nearest" "bursts" "Nearest.bursts" s_Nearest_bursts,
  dmt "NearestAway" "grows_midway" "NearestAway.grows_midway" s_NearestAway_grows_midway,
  dmt "Outward" "__init__" "Outward.__init__" s_Outward_init,
  dmt "Outward" "grows" "Outward.grows" s_Outward_grows,
  dmt "Outward" "bursts" "Outward.bursts" s_Outward_bursts,
  dfn "way_of" s_way_of,
  dfn "settled" s_settled,
  dfn "rounded" s_rounded,
  dfn "total" s_total,
  dfn "nought_sign" s_nought_sign,
  dfn "settled_total" s_settled_total,
  dfn "kinds_of" s_kinds_of,
  dfn "gone_wrong" s_gone_wrong,
  dfn "endless_with" s_endless_with,
  dfn "term_of" s_term_of,
  dfn "product_term" s_product_term,
  dfn "sum_of_terms" s_sum_of_terms,
  dfn "added" s_added]
def fnL2 : List He.DefD := [dfn "taken" s_taken,
  dfn "multiplied" s_multiplied,
  dfn "fused" s_fused,
  dfn "divided" s_divided,
  dfn "rooted" s_rooted,
  dfn "whole_of" s_whole_of,
  dfn "wholed" s_wholed,
  dfn "_law_cell_at" s_l_cell_at,
  dfn "_law_whole" s_l_whole,
  dfn "_law_size_by" s_l_size_by,
  dfn "_law_way_by" s_l_way_by,
  dfn "_law_mixed" s_l_mixed,
  dfn "_law_bits_by" s_l_bits_by,
  dfn "_law_odd_by" s_l_odd_by,
  dfn "_law_mate_by" s_l_mate_by,
  dfn "_law_third_by" s_l_third_by,
  dfn "_law_two" s_l_two,
  dfn "_law_value" s_l_value,
  dfn "_law_near" s_l_near,
  dfn "_law_far" s_l_far]
def fnL3 : List He.DefD := [dfn "_law_fair" s_l_fair,
  dfn "_law_is" s_l_is,
  dfn "_law_root_fair" s_l_root_fair,
  dfn "_law_fair_whole" s_l_fair_whole,
  dfn "_law_wholed_fair" s_l_wholed_fair,
  dfn "_law_term" s_l_term,
  dfn "_law_product" s_l_product,
  dfn "_law_sum_good" s_l_sum_good,
  dfn "_law_quotient_good" s_l_quotient_good,
  dfn "_law_root_good" s_l_root_good,
  dfn "_law_partner" s_l_partner,
  dfn "_law_deed" s_l_deed,
  dfn "law" s_law]
def fnL : List He.DefD := fnL0 ++ fnL1 ++ fnL2 ++ fnL3
def faL0 : List He.Fa := [.glo "width",
  .glo "bias",
  .glo "low",
  .glo "sign_bit",
  .glo "endless",
  .glo "no_number",
  .glo "asked_fraction",
  .glo "ahead",
  .glo "scaled",
  .glo "rest_of",
  .glo "cut",
  .glo "whole_root",
  .glo "root_cut",
  .glo "parted",
  .glo "kind",
  .glo "worth",
  .glo "fraction",
  .glo "negated",
  .glo "way_of",
  .glo "settled"]
def faL1 : List He.Fa := [.glo "rounded",
  .glo "total",
  .glo "nought_sign",
  .glo "settled_total",
  .glo "kinds_of",
  .glo "gone_wrong",
  .glo "endless_with",
  .glo "term_of",
  .glo "product_term",
  .glo "sum_of_terms",
  .glo "added",
  .glo "taken",
  .glo "multiplied",
  .glo "fused",
  .glo "divided",
  .glo "rooted",
  .glo "whole_of",
  .glo "wholed",
  .glo "_law_cell_at",
  .glo "_law_whole"]
def faL2 : List He.Fa := [.glo "_law_size_by",
  .glo "_law_way_by",
  .glo "_law_mixed",
  .glo "_law_bits_by",
  .glo "_law_odd_by",
  .glo "_law_mate_by",
  .glo "_law_third_by",
  .glo "_law_two",
  .glo "_law_value",
  .glo "_law_near",
  .glo "_law_far",
  .glo "_law_fair",
  .glo "_law_is",
  .glo "_law_root_fair",
  .glo "_law_fair_whole",
  .glo "_law_wholed_fair",
  .glo "_law_term",
  .glo "_law_product",
  .glo "_law_sum_good",
  .glo "_law_quotient_good"]
def faL3 : List He.Fa := [.glo "_law_root_good",
  .glo "_law_partner",
  .glo "_law_deed",
  .glo "law",
  .glo "Way",
  .cls "Way",
  .keep "Way",
  .glo "Nearest",
  .cls "Nearest",
  .keep "Nearest",
  .glo "NearestAway",
  .cls "NearestAway",
  .keep "NearestAway",
  .glo "Outward",
  .cls "Outward",
  .keep "Outward",
  .free "max",
  .free "min",
  .free "abs",
  .free "len"]
def faL4 : List He.Fa := [.free "divmod",
  .free "isinstance",
  .free "sum",
  .free "int",
  .free "bool",
  .free "tuple",
  .int "INEXACT" 1,
  .int "SMALL" 2,
  .int "GREAT" 4,
  .int "POLE" 8,
  .int "WRONG" 16,
  .meth "Way" "grows",
  .meth "Way" "bursts",
  .meth "Nearest" "grows",
  .meth "Nearest" "grows_midway",
  .meth "Nearest" "bursts",
  .meth "NearestAway" "grows",
  .meth "NearestAway" "grows_midway",
  .meth "NearestAway" "bursts",
  .meth "Outward" "grows"]
def faL5 : List He.Fa := [.meth "Outward" "bursts",
  .mkr "Outward",
  .noat "Outward" "outward_sign"]
def faL : List He.Fa := faL0 ++ faL1 ++ faL2 ++ faL3 ++ faL4 ++ faL5
def looseL0 : List Str := ["MillError",
  "NoBits",
  "NotFinite",
  "NoWay",
  "NoFraction",
  "width",
  "bias",
  "low",
  "sign_bit",
  "endless",
  "no_number",
  "asked_fraction",
  "ahead",
  "scaled",
  "rest_of",
  "cut",
  "whole_root",
  "root_cut",
  "INEXACT",
  "SMALL"]
def looseL1 : List Str := ["GREAT",
  "POLE",
  "WRONG",
  "parted",
  "kind",
  "worth",
  "fraction",
  "negated",
  "Way",
  "Nearest",
  "NearestAway",
  "Outward",
  "way_of",
  "settled",
  "rounded",
  "total",
  "nought_sign",
  "settled_total",
  "kinds_of",
  "gone_wrong"]
def looseL2 : List Str := ["endless_with",
  "term_of",
  "product_term",
  "sum_of_terms",
  "added",
  "taken",
  "multiplied",
  "fused",
  "divided",
  "rooted",
  "whole_of",
  "wholed",
  "_law_cell_at",
  "_law_whole",
  "_law_size_by",
  "_law_way_by",
  "_law_mixed",
  "_law_bits_by",
  "_law_odd_by",
  "_law_mate_by"]
def looseL3 : List Str := ["_law_third_by",
  "_law_two",
  "_law_value",
  "_law_near",
  "_law_far",
  "_law_fair",
  "_law_is",
  "_law_root_fair",
  "_law_fair_whole",
  "_law_wholed_fair",
  "_law_term",
  "_law_product",
  "_law_sum_good",
  "_law_quotient_good",
  "_law_root_good",
  "_law_partner",
  "_law_deed"]
def looseL : List Str := looseL0 ++ looseL1 ++ looseL2 ++ looseL3
/-! ### the facts that the layer's list lacks: a class made without an __init__ of its own; which method an heir finds -/
def ownB (K : PySem.W.Frag) : Bool := (["Way", "Nearest", "NearestAway"] : List Str).all (fun x => PySem.W.makesIn K (He.ga K x) && He.eqO (PySem.W.findIn K (.ref (He.ga K x)) "__init__") (some (some (.builtin "object.__init__")))) &&
  (decide (He.ma K (He.ga K "NearestAway") "grows" = He.ma K (He.ga K "Nearest") "grows") && decide (He.ma K (He.ga K "NearestAway") "bursts" = He.ma K (He.ga K "Nearest") "bursts"))
/-! addresses reached from the module's names, each once; a Nat's bits say which were seen -/
def seenB (seen a : Nat) : Bool := Nat.beq (Nat.land (Nat.shiftRight seen a) 1) 1
def newB : List Addr → Nat → List Addr × Nat
  | [], seen => ([], seen)
  | a :: r, seen => match seenB seen a with
    | true => newB r seen
    | false => match newB r (Nat.lor seen (Nat.shiftLeft 1 a)) with
      | (l, s) => (a :: l, s)
def outB (g : Addr → Option Obj) (a : Addr) : List Addr := match g a with
  | some o => He.refsD o
  | none => []
def growB (g : Addr → Option Obj) : Nat → List Addr → List Addr → Nat → List Addr
  | 0, acc, _, _ => acc
  | n + 1, acc, fr, seen => match newB (fr.flatMap (outB g)) seen with
    | (l, s) => growB g n (acc ++ l) l s
def asB (g : Addr → Option Obj) (n : Nat) : List Addr := growB g n [mainGlobals] [mainGlobals] (Nat.shiftLeft 1 mainGlobals)
abbrev AlM : Type := He.AlD × Bool
def obsM (K : PySem.W.Frag) : AlM := (He.obsD faL fnL K, ownB K)
def valM : AlM := (He.valD fnL, true)
def SaysM (K : PySem.W.Frag) : Prop := obsM K = valM
def obsMG (n : Nat) (g : Addr → Option Obj) : AlM := obsM (He.frG g (asB g n))
def hookM (n : Nat) : PySem.W.Hook where
  α := AlM
  obs := fun s => obsMG n s.heap.get?
  val := fun _ => valM
  says := fun _ h => ∃ K : PySem.W.Frag, K.In h ∧ SaysM K
  of := fun _ _ e => ⟨_, He.frG_in, e⟩
  keeps := fun _ _ _ ⟨K, hK, c⟩ k => ⟨K, PySem.W.Frag.In.keeps hK k, c⟩
theorem obsMG_eq {n : Nat} {g : Addr → Option Obj} {s : Shared} (h : ∀ a, g a = s.heap.get? a) : obsMG n g = (hookM n).obs s := by
  have e : g = s.heap.get? := funext h
  rw [e] <;> rfl
abbrev RowR : PySem.W.OpenRow := PySem.W.OpenLaw.row PySem.Challenge.rw_roundmill_k34_whole_deeds
def obM (s : PySem.W.SharedT) : AlM := obsMG 4 (HandSHeadRun.getT s)
theorem obM_eq (s : PySem.W.SharedT) : obM s = (hookM 4).obs s.abs := obsMG_eq (HandSHeadRun.getT_eq s)
theorem runM (w : World) : HandSHeadRun.RunEq RowR (PySem.W.view RowR.prog [87]) (hookM 4) obM 6000 looseL w := by
  intro os
  kernel_rfl
end RM
set_option Elab.async false
set_option linter.all false
set_option maxRecDepth 100000
set_option maxHeartbeats 2000000
namespace RM
open PySem PySem.Spec PyProof.Rows L2
theorem hf_eq {E F : Nat} (z : Sz E F) : 1 ≤ hf E := by have := hf2 z; omega
theorem E_le {E F : Nat} (z : Sz E F) : E ≤ 15 := z.e15
section
variable {P : Program} {w : World} {K : PySem.W.Frag} {mg : Str → Option Value} {base : Heap}
theorem sc_width : FnScope ["size"] ["size"] (defScope s_width) := ⟨rfl, rfl, rfl, by decide +kernel, rfl, by decide +kernel, by decide +kernel⟩
theorem ok_width {f : Addr} {fd : FuncData} (F : FnP K "width" "width" s_width f fd)  : FnOk P w K mg base CX0 1 f fd ["size"] (spD K gWidth) := by
  refine fn_okD F sc_width (fun ds d hg => ?_) fun cdv A outer s H E hr => ⟨_, (pss_one (ps_ret (pe_op op_add (pe_op op_add (pe_ix (r := rIxT K) ix_tup (pv 0) pe_int (fun _ _ => rfl)) (pe_ix (r := rIxT K) ix_tup (pv 0) pe_int (fun _ _ => rfl))) pe_int))), fun ds d hg => ?_⟩
  · obtain ⟨E, F, z, rfl, rfl⟩ := hg
    rfl
  obtain ⟨E, F, z, rfl, rfl⟩ := hg
  exact s_ret (ev_op on_add (ev_op on_add (ev_op (o_ixT rfl) (ev_var rfl) (ev_nat (n := 0))) (ev_op (o_ixT rfl) (ev_var rfl) (ev_nat (n := 1)))) (ev_nat (n := 1))) rfl
theorem sc_bias : FnScope ["size"] ["size"] (defScope s_bias) := ⟨rfl, rfl, rfl, by decide +kernel, rfl, by decide +kernel, by decide +kernel⟩
theorem ok_bias {f : Addr} {fd : FuncData} (F : FnP K "bias" "bias" s_bias f fd)  : FnOk P w K mg base CX0 1 f fd ["size"] (spD K gBias) := by
  refine fn_okD F sc_bias (fun ds d hg => ?_) fun cdv A outer s H E hr => ⟨_, (pss_one (ps_ret (pe_op op_sub (pe_op op_shlW pe_int (pe_op op_sub (pe_ix (r := rIxT K) ix_tup (pv 0) pe_int (fun _ _ => rfl)) pe_int)) pe_int))), fun ds d hg => ?_⟩
  · obtain ⟨E, F, z, rfl, rfl⟩ := hg
    rfl
  obtain ⟨E, F, z, rfl, rfl⟩ := hg
  exact s_ret (ev_op (on_sub (hf_eq z)) (ev_op (on_one (by have := z.e15; omega)) (ev_nat (n := 1)) (ev_op (on_sub (by have := z.e2; omega)) (ev_op (o_ixT rfl) (ev_var rfl) (ev_nat (n := 0))) (ev_nat (n := 1)))) (ev_nat (n := 1))) rfl
theorem sc_low : FnScope ["size"] ["size"] (defScope s_low) := ⟨rfl, rfl, rfl, by decide +kernel, rfl, by decide +kernel, by decide +kernel⟩
theorem ok_low {f : Addr} {fd : FuncData} (F : FnP K "low" "low" s_low f fd) (c_bias : Cal P w K mg base 1 "bias" (spD K gBias)) : FnOk P w K mg base CX0 2 f fd ["size"] (spD K gLow) := by
  refine fn_okD F sc_low (fun ds d hg => ?_) fun cdv A outer s H E hr => ⟨_, (pss_one (ps_ret (pe_op op_sub (pe_op op_sub pe_int (pe_c c_bias hr rfl (pa_cons (pv 0) pa_nil))) (pe_ix (r := rIxT K) ix_tup (pv 0) pe_int (fun _ _ => rfl))))), fun ds d hg => ?_⟩
  · obtain ⟨E, F, z, rfl, rfl⟩ := hg
    rfl
  obtain ⟨E, F, z, rfl, rfl⟩ := hg
  refine s_ret (ev_op o_sub (ev_op o_sub (ev_nat (n := 1)) (ev_call (d := nD (hf E - 1)) ⟨E, F, z, rfl, rfl⟩ (ea_cons (ev_var rfl) ea_nil))) (ev_op (o_ixT rfl) (ev_var rfl) (ev_nat (n := 1)))) ?_
  refine congrArg D.int ?_
  have := hf2 z
  unfold st
  omega
theorem sc_sign_bit : FnScope ["size"] ["size"] (defScope s_sign_bit) := ⟨rfl, rfl, rfl, by decide +kernel, rfl, by decide +kernel, by decide +kernel⟩
theorem ok_sign_bit {f : Addr} {fd : FuncData} (F : FnP K "sign_bit" "sign_bit" s_sign_bit f fd)  : FnOk P w K mg base CX0 1 f fd ["size"] (spD K gSign) := by
  refine fn_okD F sc_sign_bit (fun ds d hg => ?_) fun cdv A outer s H E hr => ⟨_, (pss_one (ps_ret (pe_op op_shlW pe_int (pe_op op_add (pe_ix (r := rIxT K) ix_tup (pv 0) pe_int (fun _ _ => rfl)) (pe_ix (r := rIxT K) ix_tup (pv 0) pe_int (fun _ _ => rfl)))))), fun ds d hg => ?_⟩
  · obtain ⟨E, F, z, rfl, rfl⟩ := hg
    rfl
  obtain ⟨E, F, z, rfl, rfl⟩ := hg
  exact s_ret (ev_op (on_one (by have := z.e15; have := z.f112; omega)) (ev_nat (n := 1)) (ev_op on_add (ev_op (o_ixT rfl) (ev_var rfl) (ev_nat (n := 0))) (ev_op (o_ixT rfl) (ev_var rfl) (ev_nat (n := 1))))) rfl
/-! ### bounds -/
theorem BB_v : BB = 1000000 := rfl
theorem B1_v : B1 = 400000 := rfl
theorem natAbs_lt {a n : Nat} (h : a < 2 ^ n) : ((a : Nat) : Int).natAbs < 2 ^ n := by rw [Int.natAbs_natCast]; exact h
theorem c_shl {a j n : Nat} (h : a < 2 ^ n) (hn : n + j ≤ 134217728) : CShl (a : Int) (j : Int) := shl_ok (natAbs_lt h) hn
theorem c_mul {a b n m : Nat} (ha : a < 2 ^ n) (hb : b < 2 ^ m) (h : n + m ≤ 134217728) : CMulX (a : Int) (b : Int) := mulx_ok (natAbs_lt ha) (natAbs_lt hb) h
theorem c_div {a b n : Nat} (hb : 0 < b) (ha : a < 2 ^ n) (hn : n ≤ 4000) : CDivP (a : Int) (b : Int) := by
  refine divp_ok (by omega) ?_
  have := PyProof.Rows.intBits_le (natAbs_lt ha)
  omega
theorem lt_up {a n m : Nat} (h : a < 2 ^ n) (hm : n ≤ m) : a < 2 ^ m := Nat.lt_of_lt_of_le h (Nat.pow_le_pow_right (by decide) hm)
theorem lt_mul {a b n m : Nat} (ha : a < 2 ^ n) (hb : b < 2 ^ m) : a * b < 2 ^ (n + m) := by
  rw [Nat.pow_add]
  exact Nat.mul_lt_mul'' ha hb
theorem pow_lt {n m : Nat} (h : n < m) : 2 ^ n < 2 ^ m := Nat.pow_lt_pow_right (by decide) h
theorem mulp_lt {a n k m : Nat} (h : a < 2 ^ n) (hm : n + k ≤ m) : a * 2 ^ k < 2 ^ m := by
  refine lt_up (n := n + k) ?_ hm
  rw [Nat.pow_add]
  exact Nat.mul_lt_mul_of_pos_right h (tp k)
theorem blen_le_of {a n : Nat} (h : a < 2 ^ n) : blen a ≤ n := by
  unfold blen
  split
  · omega
  · rename_i h0
    have := (Nat.log2_lt h0).mpr h
    omega
theorem hf_le {E F : Nat} (z : Sz E F) : hf E ≤ 16384 := by
  unfold hf
  have h := z.e15
  exact Nat.le_trans (Nat.pow_le_pow_right (by decide) (show E - 1 ≤ 14 by omega)) (by decide)
theorem st_le {E F : Nat} (z : Sz E F) : st E F ≤ 16494 := by
  have := hf_le z
  have := z.f112
  unfold st
  omega
theorem top_le {E F : Nat} (z : Sz E F) : top E F ≤ 2 ^ 127 := by
  unfold top
  have := z.e15
  have := z.f112
  exact Nat.pow_le_pow_right (by decide) (by omega)
theorem top_pos (E F : Nat) : 0 < top E F := tp _
theorem bt_lt {E F s c : Nat} (z : Sz E F) (hs : s ≤ 1) (hc : c < top E F) : bt E F s c < 2 ^ (E + F + 1) := by
  unfold bt
  have e : 2 ^ (E + F + 1) = top E F + top E F := by
    unfold top
    rw [Nat.pow_succ]
    omega
  rw [e]
  have h : s * top E F ≤ top E F := by
    have := Nat.mul_le_mul_right (top E F) hs
    omega
  omega
theorem bt_lt200 {E F s c : Nat} (z : Sz E F) (hs : s ≤ 1) (hc : c < top E F) : bt E F s c < 2 ^ 200 := lt_up (bt_lt z hs hc) (by have := z.e15; have := z.f112; omega)
theorem bt_div {E F s c : Nat} (hc : c < top E F) : bt E F s c / top E F = s := by
  unfold bt
  rw [Nat.add_comm, Nat.add_mul_div_right _ _ (top_pos E F), Nat.div_eq_of_lt hc, Nat.zero_add]
theorem bt_mod {E F s c : Nat} (hc : c < top E F) : bt E F s c % top E F = c := by
  unfold bt
  rw [Nat.add_comm, Nat.add_mul_mod_self_right, Nat.mod_eq_of_lt hc]
theorem c_lt128 {E F c : Nat} (z : Sz E F) (hc : c < top E F) : c < 2 ^ 127 := Nat.lt_of_lt_of_le hc (top_le z)
theorem last_lt {E F : Nat} (z : Sz E F) : last E F < top E F := by
  have := last_lt_top z
  have := tp F
  omega
theorem sc_endless : FnScope ["size"] ["size"] (defScope s_endless) := ⟨rfl, rfl, rfl, by decide +kernel, rfl, by decide +kernel, by decide +kernel⟩
theorem ok_endless {f : Addr} {fd : FuncData} (F : FnP K "endless" "endless" s_endless f fd)  : FnOk P w K mg base CX0 1 f fd ["size"] (spD K gEndless) := by
  refine fn_okD F sc_endless (fun ds d hg => ?_) fun cdv A outer s H E hr => ⟨_, (pss_one (ps_ret (pe_op op_shlW (pe_op op_sub (pe_op op_shlW pe_int (pe_ix (r := rIxT K) ix_tup (pv 0) pe_int (fun _ _ => rfl))) pe_int) (pe_ix (r := rIxT K) ix_tup (pv 0) pe_int (fun _ _ => rfl))))), fun ds d hg => ?_⟩
  · obtain ⟨E, F, z, rfl, rfl⟩ := hg
    rfl
  obtain ⟨E, F, z, rfl, rfl⟩ := hg
  exact s_ret (ev_op (on_shl (c_shl (n := 15) (by have := Nat.pow_le_pow_right (show 0 < 2 by decide) z.e15; have := tp E; omega) (by have := z.f112; omega))) (ev_op (on_sub (tp E)) (ev_op (on_one (by have := z.e15; omega)) (ev_nat (n := 1)) (ev_op (o_ixT rfl) (ev_var rfl) (ev_nat (n := 0)))) (ev_nat (n := 1))) (ev_op (o_ixT rfl) (ev_var rfl) (ev_nat (n := 1)))) rfl
theorem sc_no_number : FnScope ["size"] ["size"] (defScope s_no_number) := ⟨rfl, rfl, rfl, by decide +kernel, rfl, by decide +kernel, by decide +kernel⟩
theorem ok_no_number {f : Addr} {fd : FuncData} (F : FnP K "no_number" "no_number" s_no_number f fd) (c_endless : Cal P w K mg base 1 "endless" (spD K gEndless)) : FnOk P w K mg base CX0 2 f fd ["size"] (spD K gNan) := by
  refine fn_okD F sc_no_number (fun ds d hg => ?_) fun cdv A outer s H E hr => ⟨_, (pss_one (ps_ret (pe_op op_or (pe_c c_endless hr rfl (pa_cons (pv 0) pa_nil)) (pe_op op_shlW pe_int (pe_op op_sub (pe_ix (r := rIxT K) ix_tup (pv 0) pe_int (fun _ _ => rfl)) pe_int))))), fun ds d hg => ?_⟩
  · obtain ⟨E, F, z, rfl, rfl⟩ := hg
    rfl
  obtain ⟨E, F, z, rfl, rfl⟩ := hg
  refine s_ret (ev_op on_or (ev_call (d := nD (last E F)) ⟨E, F, z, rfl, rfl⟩ (ea_cons (ev_var rfl) ea_nil)) (ev_op (on_one (by have := z.f112; omega)) (ev_nat (n := 1)) (ev_op (on_sub z.f1) (ev_op (o_ixT rfl) (ev_var rfl) (ev_nat (n := 1))) (ev_nat (n := 1))))) ?_
  refine congrArg nD ?_
  unfold nan last
  have h : 2 ^ (F - 1) < 2 ^ F := pow_lt (by have := z.f1; omega)
  rw [Nat.mul_comm, ← Nat.two_pow_add_eq_or_of_lt h]
theorem sc_asked_fraction : FnScope ["top", "bottom"] ["top", "bottom"] (defScope s_asked_fraction) := ⟨rfl, rfl, rfl, by decide +kernel, rfl, by decide +kernel, by decide +kernel⟩
theorem ok_asked_fraction {f : Addr} {fd : FuncData} (F : FnP K "asked_fraction" "asked_fraction" s_asked_fraction f fd)  : FnOk P w K mg base CX0 1 f fd ["top", "bottom"] (spD K gAsked) := by
  refine fn_okD F sc_asked_fraction (fun ds d hg => ?_) fun cdv A outer s H E hr => ⟨_, (pss_one (ps_if (PW.pt (pw_or (pt_cmpR op_lt (pv 0) pe_int (nomark _)) (pw_or1 (pt_cmpR op_lt (pv 1) pe_int (nomark _))))) (pss_one ps_never) pss_nil)), fun ds d hg => ?_⟩
  · obtain ⟨a, b, hb, rfl, rfl⟩ := hg
    rfl
  obtain ⟨a, b, hb, rfl, rfl⟩ := hg
  refine s_ifb (et_or (et_test (ev_op on_lt (ev_var rfl) (ev_nat (n := 0)))) fun _ => (et_test (ev_op on_lt (ev_var rfl) (ev_nat (n := 1))))) (fun h => ?_) (fun h => s_next rfl)
  exact s_never (by simp at h; omega)
theorem sc_scaled : FnScope ["top", "bottom", "power"] ["top", "bottom", "power"] (defScope s_scaled) := ⟨rfl, rfl, rfl, by decide +kernel, rfl, by decide +kernel, by decide +kernel⟩
theorem ok_scaled {f : Addr} {fd : FuncData} (F : FnP K "scaled" "scaled" s_scaled f fd)  : FnOk P w K mg base CX0 1 f fd ["top", "bottom", "power"] (spD K gScaled) := by
  refine fn_okD F sc_scaled (fun ds d hg => ?_) fun cdv A outer s H E hr => ⟨_, (pss_cons (ps_if (pt_cmpR op_lt (pv 2) pe_int (nomark _)) (pss_one (ps_ret (pe_tup (pa_cons (pe_op op_shlW (pv 0) (pe_un un_neg (pv 2))) (pa_cons (pv 1) pa_nil))))) pss_nil)
    (pss_one (ps_ret (pe_tup (pa_cons (pv 0) (pa_cons (pe_op op_shlW (pv 1) (pv 2)) pa_nil)))))), fun ds d hg => ?_⟩
  · obtain ⟨a, b, p, ha, hb, p1, p2, rfl, rfl⟩ := hg
    rfl
  obtain ⟨a, b, p, ha, hb, p1, p2, rfl, rfl⟩ := hg
  have hBB := BB_v
  refine q_when (et_test (ev_op o_lt (ev_var rfl) (ev_int (i := 0)))) (fun h => ?_) (fun h => ?_)
  · refine s_ret (ev_tup (ea_cons (ev_op (on_shl (c_shl ha (by omega))) (ev_var rfl) (Eva.is (d' := nD (-p).toNat) (ev_un u_neg (ev_var rfl)) (congrArg D.int (by omega)))) (ea_cons (ev_var rfl) ea_nil))) ?_
    have e : up p = 1 := by unfold up; rw [show p.toNat = 0 by omega]
    rw [e, Nat.mul_one]
    rfl
  · refine s_ret (ev_tup (ea_cons (ev_var rfl) (ea_cons (ev_op (on_shl (c_shl hb (by omega))) (ev_var rfl) (Eva.is (d' := nD p.toNat) (ev_var rfl) (congrArg D.int (by omega)))) ea_nil))) ?_
    have e : dn p = 1 := by unfold dn; rw [show (-p).toNat = 0 by omega]
    rw [e, Nat.mul_one]
    rfl
theorem sc_ahead : FnScope ["top", "bottom", "power", "tall", "wide"] ["top", "bottom"] (defScope s_ahead) := ⟨rfl, rfl, rfl, by decide +kernel, rfl, by decide +kernel, by decide +kernel⟩
theorem ok_ahead {f : Addr} {fd : FuncData} (F : FnP K "ahead" "ahead" s_ahead f fd) (c_scaled : Cal P w K mg base 1 "scaled" (spD K gScaled)) : FnOk P w K mg base CX0 2 f fd ["top", "bottom"] (spD K gAhead) := by
  refine fn_okD F sc_ahead (fun ds d hg => ?_) fun cdv A outer s H E hr => ⟨_, (pss_cons (ps_set (i := 2) sc_ahead.nd rfl (Or.inl rfl) (pe_op op_sub (pe_bits (pv 0)) (pe_bits (pv 1))))
    (pss_cons (ps_asg (pe_c c_scaled hr rfl (pa_cons (pv 0) (pa_cons (pv 1) (pa_cons (pv 2) pa_nil)))) (pg_tup rfl (pgs_cons (pg_name (i := 3) sc_ahead.nd rfl (Or.inl rfl)) (pgs_cons (pg_name (i := 4) sc_ahead.nd rfl (Or.inl rfl)) pgs_nil))))
    (pss_cons (ps_if (pt_cmpR op_lt (pv 3) (pv 4) (nomark _)) (pss_one (ps_ret (pv 2))) pss_nil)
    (pss_one (ps_ret (pe_op op_add (pv 2) pe_int)))))), fun ds d hg => ?_⟩
  · obtain ⟨a, b, ha, hb, rfl, rfl⟩ := hg
    rfl
  obtain ⟨a, b, ha, hb, rfl, rfl⟩ := hg
  have hBB := BB_v
  have h1 := blen_le_of ha
  have h2 := blen_le_of hb
  refine q_asg (ev_op o_sub (ev_bits (ev_var rfl)) (ev_bits (ev_var rfl))) ?_
  refine q_asgT (ev_call (d := .tup [nD (a * dn ((blen a : Int) - blen b)), nD (b * up ((blen a : Int) - blen b))]) ⟨a, b, _, ha, hb, by omega, by omega, rfl, rfl⟩ (ea_cons (ev_var rfl) (ea_cons (ev_var rfl) (ea_cons (ev_var rfl) ea_nil)))) (tg_tup (tgs_cons tg_name (tgs_cons tg_name tgs_nil))) ?_
  refine q_when (et_test (ev_op on_lt (ev_var rfl) (ev_var rfl))) (fun h => ?_) (fun h => ?_)
  · exact s_ret (ev_var rfl) (congrArg D.int (by unfold aheadI; rw [if_pos h]))
  · exact s_ret (ev_op o_add (ev_var rfl) (ev_int (i := 1))) (congrArg D.int (by unfold aheadI; rw [if_neg h]))
theorem sc_rest_of : FnScope ["left", "half"] ["left", "half"] (defScope s_rest_of) := ⟨rfl, rfl, rfl, by decide +kernel, rfl, by decide +kernel, by decide +kernel⟩
theorem ok_rest_of {f : Addr} {fd : FuncData} (F : FnP K "rest_of" "rest_of" s_rest_of f fd)  : FnOk P w K mg base CX0 1 f fd ["left", "half"] (spD K gRest) := by
  refine fn_okD F sc_rest_of (fun ds d hg => ?_) fun cdv A outer s H E hr => ⟨_, (pss_cons (ps_if (pt_cmpR op_eq (pv 0) pe_int (nomark _)) (pss_one (ps_ret pe_int)) pss_nil)
    (pss_cons (ps_if (pt_cmpR op_lt (pv 0) (pv 1) (nomark _)) (pss_one (ps_ret pe_int)) pss_nil)
    (pss_cons (ps_if (pt_cmpR op_eq (pv 0) (pv 1) (nomark _)) (pss_one (ps_ret pe_int)) pss_nil)
    (pss_one (ps_ret pe_int))))), fun ds d hg => ?_⟩
  · obtain ⟨l, x, rfl, rfl⟩ := hg
    rfl
  obtain ⟨l, x, rfl, rfl⟩ := hg
  refine q_when (et_test (ev_op on_eq (ev_var rfl) (ev_nat (n := 0)))) (fun h => ?_) (fun h => ?_)
  · exact s_ret (ev_nat (n := 0)) (congrArg nD (by unfold restOf; rw [if_pos h]))
  refine q_when (et_test (ev_op on_lt (ev_var rfl) (ev_var rfl))) (fun h2 => ?_) (fun h2 => ?_)
  · exact s_ret (ev_nat (n := 1)) (congrArg nD (by unfold restOf; rw [if_neg h, if_pos h2]))
  refine q_when (et_test (ev_op on_eq (ev_var rfl) (ev_var rfl))) (fun h3 => ?_) (fun h3 => ?_)
  · exact s_ret (ev_nat (n := 2)) (congrArg nD (by unfold restOf; rw [if_neg h, if_neg h2, if_pos h3]))
  · exact s_ret (ev_nat (n := 3)) (congrArg nD (by unfold restOf; rw [if_neg h, if_neg h2, if_neg h3]))
theorem sc_parted : FnScope ["size", "bits", "sign", "code", "field", "figures"] ["size", "bits"] (defScope s_parted) := ⟨rfl, rfl, rfl, by decide +kernel, rfl, by decide +kernel, by decide +kernel⟩
theorem ok_parted {f : Addr} {fd : FuncData} (F : FnP K "parted" "parted" s_parted f fd) (c_width : Cal P w K mg base 1 "width" (spD K gWidth)) (c_sign_bit : Cal P w K mg base 1 "sign_bit" (spD K gSign)) (b_divmod : mg "divmod" = none) : FnOk P w K mg base CX0 2 f fd ["size", "bits"] (spD K gParted) := by
  refine fn_okD F sc_parted (fun ds d hg => ?_) fun cdv A outer s H E hr => ⟨_, (pss_cons (ps_if (PW.pt (pw_or (pt_cmpR op_lt (pv 1) pe_int (nomark _)) (pw_or1 (pt_cmpR op_ne (pe_op op_shr (pv 1) (pe_c c_width hr rfl (pa_cons (pv 0) pa_nil))) pe_int (nomark _))))) (pss_one ps_never) pss_nil)
    (pss_cons (ps_asg (pe_callB call_divmodW (by rfl) b_divmod (by decide +kernel) (pa_cons (pv 1) (pa_cons (pe_c c_sign_bit hr rfl (pa_cons (pv 0) pa_nil)) pa_nil))) (pg_tup rfl (pgs_cons (pg_name (i := 2) sc_parted.nd rfl (Or.inl rfl)) (pgs_cons (pg_name (i := 3) sc_parted.nd rfl (Or.inl rfl)) pgs_nil))))
    (pss_cons (ps_asg (pe_callB call_divmodW (by rfl) b_divmod (by decide +kernel) (pa_cons (pv 3) (pa_cons (pe_op op_shlW pe_int (pe_ix (r := rIxT K) ix_tup (pv 0) pe_int (fun _ _ => rfl))) pa_nil))) (pg_tup rfl (pgs_cons (pg_name (i := 4) sc_parted.nd rfl (Or.inl rfl)) (pgs_cons (pg_name (i := 5) sc_parted.nd rfl (Or.inl rfl)) pgs_nil))))
    (pss_one (ps_ret (pe_tup (pa_cons (pv 2) (pa_cons (pv 4) (pa_cons (pv 5) pa_nil))))))))), fun ds d hg => ?_⟩
  · obtain ⟨E, F, s, c, z, hs, hc, rfl, rfl⟩ := hg
    rfl
  obtain ⟨E, F, s, c, z, hs, hc, rfl, rfl⟩ := hg
  have hF := z.f112
  have hE := z.e15
  refine q_whenb (et_or (et_test (ev_op on_lt (ev_var rfl) (ev_nat (n := 0)))) fun _ => (et_test (ev_op on_ne (ev_op on_shr (ev_var rfl) (ev_call (d := nD (E + F + 1)) ⟨E, F, z, rfl, rfl⟩ (ea_cons (ev_var rfl) ea_nil))) (ev_nat (n := 0))))) (fun h => ?_) (fun h => ?_)
  · refine s_never ?_
    rw [Nat.div_eq_of_lt (bt_lt z hs hc)] at h
    simp at h
  refine q_asgT (Eva.is (d' := .tup [nD s, nD c]) (ev_cb (c_divmod (c_div (top_pos E F) (bt_lt200 z hs hc) (by decide))) (ea_cons (ev_var rfl) (ea_cons (ev_call (d := nD (top E F)) ⟨E, F, z, rfl, rfl⟩ (ea_cons (ev_var rfl) ea_nil)) ea_nil))) (by rw [bt_div hc, bt_mod hc])) (tg_tup (tgs_cons tg_name (tgs_cons tg_name tgs_nil))) ?_
  refine q_asgT (ev_cb (c_divmod (c_div (tp F) (c_lt128 z hc) (by decide))) (ea_cons (ev_var rfl) (ea_cons (ev_op (on_one (by omega)) (ev_nat (n := 1)) (ev_op (o_ixT rfl) (ev_var rfl) (ev_nat (n := 1)))) ea_nil))) (tg_tup (tgs_cons tg_name (tgs_cons tg_name tgs_nil))) ?_
  exact s_ret (ev_tup (ea_cons (ev_var rfl) (ea_cons (ev_var rfl) (ea_cons (ev_var rfl) ea_nil)))) rfl
theorem sc_kind : FnScope ["size", "bits", "sign", "field", "figures"] ["size", "bits"] (defScope s_kind) := ⟨rfl, rfl, rfl, by decide +kernel, rfl, by decide +kernel, by decide +kernel⟩
theorem ok_kind {f : Addr} {fd : FuncData} (F : FnP K "kind" "kind" s_kind f fd) (c_parted : Cal P w K mg base 2 "parted" (spD K gParted)) : FnOk P w K mg base CX0 3 f fd ["size", "bits"] (spD K gKind) := by
  refine fn_okD F sc_kind (fun ds d hg => ?_) fun cdv A outer s H E hr => ⟨_, (pss_cons (ps_asg (pe_c c_parted hr rfl (pa_cons (pv 0) (pa_cons (pv 1) pa_nil))) (pg_tup rfl (pgs_cons (pg_name (i := 2) sc_kind.nd rfl (Or.inl rfl)) (pgs_cons (pg_name (i := 3) sc_kind.nd rfl (Or.inl rfl)) (pgs_cons (pg_name (i := 4) sc_kind.nd rfl (Or.inl rfl)) pgs_nil)))))
    (pss_cons (ps_if (pt_cmpR op_eq (pv 3) (pe_op op_sub (pe_op op_shlW pe_int (pe_ix (r := rIxT K) ix_tup (pv 0) pe_int (fun _ _ => rfl))) pe_int) (nomark _)) (pss_one (ps_ret (pe_ifExp (pt_cmpR op_eq (pv 4) pe_int (nomark _)) pe_str pe_str))) pss_nil)
    (pss_cons (ps_if (pt_cmpR op_gt (pv 3) pe_int (nomark _)) (pss_one (ps_ret pe_str)) pss_nil)
    (pss_one (ps_ret (pe_ifExp (pt_cmpR op_eq (pv 4) pe_int (nomark _)) pe_str pe_str)))))), fun ds d hg => ?_⟩
  · obtain ⟨E, F, s, c, z, hs, hc, rfl, rfl⟩ := hg
    rfl
  obtain ⟨E, F, s, c, z, hs, hc, rfl, rfl⟩ := hg
  have hE := z.e15
  refine q_asgT (ev_call (d := .tup [nD s, nD (c / 2 ^ F), nD (c % 2 ^ F)]) ⟨E, F, s, c, z, hs, hc, rfl, rfl⟩ (ea_cons (ev_var rfl) (ea_cons (ev_var rfl) ea_nil))) (tg_tup (tgs_cons tg_name (tgs_cons tg_name (tgs_cons tg_name tgs_nil)))) ?_
  unfold kindS
  refine q_when (et_test (ev_op on_eq (ev_var rfl) (ev_op (on_sub (tp E)) (ev_op (on_one (by omega)) (ev_nat (n := 1)) (ev_op (o_ixT rfl) (ev_var rfl) (ev_nat (n := 0)))) (ev_nat (n := 1))))) (fun h => ?_) (fun h => ?_)
  · rw [if_pos h]
    exact s_ret (ev_if (et_test (ev_op on_eq (ev_var rfl) (ev_nat (n := 0)))) (fun q => ev_str.is (by rw [if_pos (of_decide_eq_true q)])) (fun q => ev_str.is (by rw [if_neg (of_decide_eq_false q)]))) rfl
  rw [if_neg h]
  refine q_when (et_test (ev_op on_gt (ev_var rfl) (ev_nat (n := 0)))) (fun h2 => ?_) (fun h2 => ?_)
  · rw [if_pos h2]
    exact s_ret ev_str rfl
  rw [if_neg h2]
  exact s_ret (ev_if (et_test (ev_op on_eq (ev_var rfl) (ev_nat (n := 0)))) (fun q => ev_str.is (by rw [if_pos (of_decide_eq_true q)])) (fun q => ev_str.is (by rw [if_neg (of_decide_eq_false q)]))) rfl
theorem field_lt {E F c : Nat} (h : c < last E F) : c / 2 ^ F < 2 ^ E - 1 := by
  unfold last at h
  exact (Nat.div_lt_iff_lt_mul (tp F)).mpr h
theorem or_top {F x : Nat} (h : x < 2 ^ F) : x ||| 2 ^ F = 2 ^ F + x := by
  have e := Nat.two_pow_add_eq_or_of_lt h 1
  rw [Nat.mul_one] at e
  rw [e, Nat.or_comm]
theorem sc_worth : FnScope ["size", "bits", "sign", "field", "figures"] ["size", "bits"] (defScope s_worth) := ⟨rfl, rfl, rfl, by decide +kernel, rfl, by decide +kernel, by decide +kernel⟩
theorem ok_worth {f : Addr} {fd : FuncData} (F : FnP K "worth" "worth" s_worth f fd) (c_parted : Cal P w K mg base 2 "parted" (spD K gParted)) (c_low : Cal P w K mg base 2 "low" (spD K gLow)) : FnOk P w K mg base CX0 3 f fd ["size", "bits"] (spD K gWorth) := by
  refine fn_okD F sc_worth (fun ds d hg => ?_) fun cdv A outer s H E hr => ⟨_, (pss_cons (ps_asg (pe_c c_parted hr rfl (pa_cons (pv 0) (pa_cons (pv 1) pa_nil))) (pg_tup rfl (pgs_cons (pg_name (i := 2) sc_worth.nd rfl (Or.inl rfl)) (pgs_cons (pg_name (i := 3) sc_worth.nd rfl (Or.inl rfl)) (pgs_cons (pg_name (i := 4) sc_worth.nd rfl (Or.inl rfl)) pgs_nil)))))
    (pss_cons (ps_if (pt_cmpR op_eq (pv 3) (pe_op op_sub (pe_op op_shlW pe_int (pe_ix (r := rIxT K) ix_tup (pv 0) pe_int (fun _ _ => rfl))) pe_int) (nomark _)) (pss_one ps_never) pss_nil)
    (pss_cons (ps_if (pt_cmpR op_eq (pv 3) pe_int (nomark _)) (pss_one (ps_ret (pe_tup (pa_cons (pv 2) (pa_cons (pv 4) (pa_cons (pe_c c_low hr rfl (pa_cons (pv 0) pa_nil)) pa_nil)))))) pss_nil)
    (pss_one (ps_ret (pe_tup (pa_cons (pv 2) (pa_cons (pe_op op_or (pv 4) (pe_op op_shlW pe_int (pe_ix (r := rIxT K) ix_tup (pv 0) pe_int (fun _ _ => rfl)))) (pa_cons (pe_op op_sub (pe_op op_add (pe_c c_low hr rfl (pa_cons (pv 0) pa_nil)) (pv 3)) pe_int) pa_nil))))))))), fun ds d hg => ?_⟩
  · obtain ⟨E, F, s, c, z, hs, hc, rfl, rfl⟩ := hg
    rfl
  obtain ⟨E, F, s, c, z, hs, hc, rfl, rfl⟩ := hg
  have hE := z.e15
  have hF := z.f112
  have hl := last_lt z
  have hfl := field_lt hc
  refine q_asgT (ev_call (d := .tup [nD s, nD (c / 2 ^ F), nD (c % 2 ^ F)]) ⟨E, F, s, c, z, hs, Nat.lt_trans hc hl, rfl, rfl⟩ (ea_cons (ev_var rfl) (ea_cons (ev_var rfl) ea_nil))) (tg_tup (tgs_cons tg_name (tgs_cons tg_name (tgs_cons tg_name tgs_nil)))) ?_
  refine q_when (et_test (ev_op on_eq (ev_var rfl) (ev_op (on_sub (tp E)) (ev_op (on_one (by omega)) (ev_nat (n := 1)) (ev_op (o_ixT rfl) (ev_var rfl) (ev_nat (n := 0)))) (ev_nat (n := 1))))) (fun h => s_never (by omega)) (fun h => ?_)
  unfold mant pw expo
  generalize hfd : c / 2 ^ F = fd at *
  refine q_when (et_test (ev_op on_eq (ev_var rfl) (ev_nat (n := 0)))) (fun h2 => ?_) (fun h2 => ?_)
  · refine s_ret (ev_tup (ea_cons (ev_var rfl) (ea_cons (ev_var rfl) (ea_cons (ev_call (d := .int (-(st E F : Int))) ⟨E, F, z, rfl, rfl⟩ (ea_cons (ev_var rfl) ea_nil)) ea_nil)))) ?_
    rw [if_pos h2, h2]
    refine congrArg (fun t => D.tup [nD s, nD (c % 2 ^ F), D.int t]) ?_
    omega
  · refine s_ret (ev_tup (ea_cons (ev_var rfl) (ea_cons (ev_op on_or (ev_var rfl) (ev_op (on_one (by omega)) (ev_nat (n := 1)) (ev_op (o_ixT rfl) (ev_var rfl) (ev_nat (n := 1))))) (ea_cons (ev_op o_sub (ev_op o_add (ev_call (d := .int (-(st E F : Int))) ⟨E, F, z, rfl, rfl⟩ (ea_cons (ev_var rfl) ea_nil)) (ev_var rfl)) (ev_int (i := 1))) ea_nil)))) ?_
    rw [if_neg h2, or_top (Nat.mod_lt _ (tp F))]
    refine congrArg (fun t => D.tup [nD s, nD (2 ^ F + c % 2 ^ F), D.int t]) ?_
    omega
theorem mant_lt {E F c : Nat} (z : Sz E F) : mant F c < 2 ^ (F + 1) := by
  have h := Nat.mod_lt c (tp F)
  have e : 2 ^ (F + 1) = 2 ^ F * 2 := Nat.pow_succ ..
  unfold mant
  split <;> omega
theorem expo_lt {E F c : Nat} (z : Sz E F) (hc : c < last E F) : expo F c ≤ 32768 := by
  have h := field_lt hc
  have h2 := Nat.pow_le_pow_right (show 0 < 2 by decide) z.e15
  unfold expo
  omega
theorem pw_bd {E F c : Nat} (z : Sz E F) (hc : c < last E F) : -16494 ≤ pw E F c ∧ pw E F c ≤ 32768 := by
  have h1 := expo_lt z hc
  have h2 := st_le z
  unfold pw
  omega
theorem mant_lt200 {E F c : Nat} (z : Sz E F) : mant F c < 2 ^ 200 := lt_up (mant_lt z) (by have := z.f112; omega)
theorem sc_fraction : FnScope ["size", "bits", "sign", "whole", "power"] ["size", "bits"] (defScope s_fraction) := ⟨rfl, rfl, rfl, by decide +kernel, rfl, by decide +kernel, by decide +kernel⟩
theorem ok_fraction {f : Addr} {fd : FuncData} (F : FnP K "fraction" "fraction" s_fraction f fd) (c_worth : Cal P w K mg base 3 "worth" (spD K gWorth)) : FnOk P w K mg base CX0 4 f fd ["size", "bits"] (spD K gFrac) := by
  refine fn_okD F sc_fraction (fun ds d hg => ?_) fun cdv A outer s H E hr => ⟨_, (pss_cons (ps_asg (pe_c c_worth hr rfl (pa_cons (pv 0) (pa_cons (pv 1) pa_nil))) (pg_tup rfl (pgs_cons (pg_name (i := 2) sc_fraction.nd rfl (Or.inl rfl)) (pgs_cons (pg_name (i := 3) sc_fraction.nd rfl (Or.inl rfl)) (pgs_cons (pg_name (i := 4) sc_fraction.nd rfl (Or.inl rfl)) pgs_nil)))))
    (pss_cons (ps_if (pt_cmpR op_lt (pv 4) pe_int (nomark _)) (pss_one (ps_ret (pe_tup (pa_cons (pv 2) (pa_cons (pv 3) (pa_cons (pe_op op_shlW pe_int (pe_un un_neg (pv 4))) pa_nil)))))) pss_nil)
    (pss_one (ps_ret (pe_tup (pa_cons (pv 2) (pa_cons (pe_op op_shlW (pv 3) (pv 4)) (pa_cons pe_int pa_nil)))))))), fun ds d hg => ?_⟩
  · obtain ⟨E, F, s, c, z, hs, hc, rfl, rfl⟩ := hg
    rfl
  obtain ⟨E, F, s, c, z, hs, hc, rfl, rfl⟩ := hg
  have hb := pw_bd z hc
  have hm := mant_lt200 (c := c) z
  refine q_asgT (ev_call (d := .tup [nD s, nD (mant F c), .int (pw E F c)]) ⟨E, F, s, c, z, hs, hc, rfl, rfl⟩ (ea_cons (ev_var rfl) (ea_cons (ev_var rfl) ea_nil))) (tg_tup (tgs_cons tg_name (tgs_cons tg_name (tgs_cons tg_name tgs_nil)))) ?_
  generalize pw E F c = p at *
  refine q_when (et_test (ev_op o_lt (ev_var rfl) (ev_int (i := 0)))) (fun h => ?_) (fun h => ?_)
  · refine s_ret (ev_tup (ea_cons (ev_var rfl) (ea_cons (ev_var rfl) (ea_cons (ev_op (on_one (by omega)) (ev_nat (n := 1)) (Eva.is (d' := nD (-p).toNat) (ev_un u_neg (ev_var rfl)) (congrArg D.int (by omega)))) ea_nil)))) ?_
    have e : up p = 1 := by unfold up; rw [show p.toNat = 0 by omega]
    rw [e, Nat.mul_one]
    rfl
  · refine s_ret (ev_tup (ea_cons (ev_var rfl) (ea_cons (ev_op (on_shl (c_shl hm (by omega))) (ev_var rfl) (Eva.is (d' := nD p.toNat) (ev_var rfl) (congrArg D.int (by omega)))) (ea_cons (ev_nat (n := 1)) ea_nil)))) ?_
    have e : dn p = 1 := by unfold dn; rw [show (-p).toNat = 0 by omega]
    rw [e]
    rfl
theorem and_top {n s c : Nat} (hs : s ≤ 1) (hc : c < 2 ^ n) : (s * 2 ^ n + c) &&& 2 ^ n = s * 2 ^ n := by
  have tb : Nat.testBit c n = false := Nat.testBit_lt_two_pow hc
  have h01 : s = 0 ∨ s = 1 := by omega
  apply Nat.eq_of_testBit_eq
  intro i
  rw [Nat.testBit_and, Nat.testBit_two_pow]
  by_cases hi : n = i
  · subst hi
    rcases h01 with rfl | rfl
    · simp [tb]
    · rw [Nat.one_mul, Nat.testBit_two_pow_add_eq, tb, Nat.testBit_two_pow]
      simp
  · rw [decide_eq_false hi, Bool.and_false]
    rcases h01 with rfl | rfl
    · simp
    · rw [Nat.one_mul, Nat.testBit_two_pow, decide_eq_false hi]
theorem xor_top {n s c : Nat} (hs : s ≤ 1) (hc : c < 2 ^ n) : xorN (s * 2 ^ n + c) (2 ^ n) = (1 - s) * 2 ^ n + c := by
  have ha : Builtin.bitAnd ((s * 2 ^ n + c : Nat) : Int) ((2 ^ n : Nat) : Int) = (((s * 2 ^ n + c) &&& 2 ^ n : Nat) : Int) := by
    rw [bitAnd_pp (Int.natCast_nonneg _) (Int.natCast_nonneg _), Int.toNat_natCast, Int.toNat_natCast]
  unfold xorN
  rw [bitXor_and, ha, and_top hs hc]
  have h01 : s = 0 ∨ s = 1 := by omega
  rcases h01 with rfl | rfl
  · rw [Nat.zero_mul, Nat.zero_add, Nat.sub_zero, Nat.one_mul]
    omega
  · rw [Nat.one_mul, Nat.sub_self, Nat.zero_mul]
    omega
theorem sc_negated : FnScope ["size", "bits"] ["size", "bits"] (defScope s_negated) := ⟨rfl, rfl, rfl, by decide +kernel, rfl, by decide +kernel, by decide +kernel⟩
theorem ok_negated {f : Addr} {fd : FuncData} (F : FnP K "negated" "negated" s_negated f fd) (c_parted : Cal P w K mg base 2 "parted" (spD K gParted)) (c_sign_bit : Cal P w K mg base 1 "sign_bit" (spD K gSign)) : FnOk P w K mg base CX0 3 f fd ["size", "bits"] (spD K gNeg) := by
  refine fn_okD F sc_negated (fun ds d hg => ?_) fun cdv A outer s H E hr => ⟨_, (pss_cons (ps_expr (pe_c c_parted hr rfl (pa_cons (pv 0) (pa_cons (pv 1) pa_nil))))
    (pss_one (ps_ret (pe_op op_xor (pv 1) (pe_c c_sign_bit hr rfl (pa_cons (pv 0) pa_nil)))))), fun ds d hg => ?_⟩
  · obtain ⟨E, F, s, c, z, hs, hc, rfl, rfl⟩ := hg
    rfl
  obtain ⟨E, F, s, c, z, hs, hc, rfl, rfl⟩ := hg
  refine q_drop (ev_call (d := .tup [nD s, nD (c / 2 ^ F), nD (c % 2 ^ F)]) ⟨E, F, s, c, z, hs, hc, rfl, rfl⟩ (ea_cons (ev_var rfl) (ea_cons (ev_var rfl) ea_nil))) ?_
  refine s_ret (ev_op on_xor (ev_var rfl) (ev_call (d := nD (top E F)) ⟨E, F, z, rfl, rfl⟩ (ea_cons (ev_var rfl) ea_nil))) ?_
  exact congrArg nD (xor_top hs hc)
end
end RM
set_option Elab.async false
set_option linter.all false
set_option maxRecDepth 100000
set_option maxHeartbeats 2000000
set_option exponentiation.threshold 300
namespace RM
open PySem PySem.Spec PyProof.Rows L2
open Evl (Ex Ex.refl Ex.trans Ex.new Ex.mut)
theorem intBits_nat (n : Nat) : Builtin.Int.intBits (n : Int) = blen n := by
  unfold Builtin.Int.intBits blen
  by_cases h0 : n = 0
  · subst h0
    rfl
  · rw [if_neg h0, if_neg (by simpa using (show (n : Int) ≠ 0 by omega)), Int.natAbs_natCast]
theorem c_divr {a b n : Nat} (hb : 0 < b) (h : a / b < 2 ^ n) (hn : n ≤ 3900) : CDivP (a : Int) (b : Int) := by
  refine divp_ok (by omega) ?_
  rw [intBits_nat, intBits_nat]
  have h1 : a < 2 ^ n * b := (Nat.div_lt_iff_lt_mul hb).mp h
  have h2 : a < 2 ^ (n + blen b) := by
    rw [Nat.pow_add]
    exact Nat.lt_of_lt_of_le h1 (Nat.mul_le_mul_left _ (Nat.le_of_lt (blen_lt b)))
  have := blen_le_of h2
  omega
theorem c_divI {i : Int} {m n : Nat} (hm : 0 < m) (h : i.natAbs < 2 ^ n) (hn : n ≤ 4000) : CDivP i (m : Int) := by
  refine divp_ok (by omega) ?_
  have := PyProof.Rows.intBits_le h
  omega
theorem up_lt {b : Nat} {p : Int} {n m : Nat} (h : b < 2 ^ n) (hp : p.toNat + n ≤ m) : b * up p < 2 ^ m := mulp_lt h (by omega)
theorem dn_lt {b : Nat} {p : Int} {n m : Nat} (h : b < 2 ^ n) (hp : (-p).toNat + n ≤ m) : b * dn p < 2 ^ m := mulp_lt h (by omega)
section
variable {P : Program} {w : World} {K : PySem.W.Frag} {mg : Str → Option Value} {base : Heap} {C : Cs} {b : Bool} {fO : Addr} {fdO : FuncData}
theorem sc_cut : FnScope ["size", "top", "bottom", "power", "tall", "wide", "whole", "left"] ["size", "top", "bottom"] (defScope s_cut) := ⟨rfl, rfl, rfl, by decide +kernel, rfl, by decide +kernel, by decide +kernel⟩
theorem ok_cut {f : Addr} {fd : FuncData} (F : FnP K "cut" "cut" s_cut f fd) (c_asked_fraction : Cal P w K mg base 1 "asked_fraction" (spD K gAsked)) (c_low : Cal P w K mg base 2 "low" (spD K gLow)) (c_ahead : Cal P w K mg base 2 "ahead" (spD K gAhead)) (c_scaled : Cal P w K mg base 1 "scaled" (spD K gScaled)) (c_rest_of : Cal P w K mg base 1 "rest_of" (spD K gRest)) (b_max : mg "max" = none) (b_divmod : mg "divmod" = none) : FnOk P w K mg base CX0 3 f fd ["size", "top", "bottom"] (spD K gCut) := by
  refine fn_okD F sc_cut (fun ds d hg => ?_) fun cdv A outer s H E hr => ⟨_, (pss_cons (ps_expr (pe_c c_asked_fraction hr rfl (pa_cons (pv 1) (pa_cons (pv 2) pa_nil))))
    (pss_cons (ps_if (pt_cmpR op_eq (pv 1) pe_int (nomark _)) (pss_one (ps_ret (pe_tup (pa_cons pe_int (pa_cons (pe_c c_low hr rfl (pa_cons (pv 0) pa_nil)) (pa_cons pe_int pa_nil)))))) pss_nil)
    (pss_cons (ps_set (i := 3) sc_cut.nd rfl (Or.inl rfl) (pe_callB (call_max2 rfl) (by rfl) b_max (by decide +kernel) (pa_cons (pe_c c_low hr rfl (pa_cons (pv 0) pa_nil)) (pa_cons (pe_op op_sub (pe_op op_sub (pe_c c_ahead hr rfl (pa_cons (pv 1) (pa_cons (pv 2) pa_nil))) (pe_ix (r := rIxT K) ix_tup (pv 0) pe_int (fun _ _ => rfl))) pe_int) pa_nil))))
    (pss_cons (ps_asg (pe_c c_scaled hr rfl (pa_cons (pv 1) (pa_cons (pv 2) (pa_cons (pv 3) pa_nil)))) (pg_tup rfl (pgs_cons (pg_name (i := 4) sc_cut.nd rfl (Or.inl rfl)) (pgs_cons (pg_name (i := 5) sc_cut.nd rfl (Or.inl rfl)) pgs_nil))))
    (pss_cons (ps_asg (pe_callB call_divmodW (by rfl) b_divmod (by decide +kernel) (pa_cons (pv 4) (pa_cons (pv 5) pa_nil))) (pg_tup rfl (pgs_cons (pg_name (i := 6) sc_cut.nd rfl (Or.inl rfl)) (pgs_cons (pg_name (i := 7) sc_cut.nd rfl (Or.inl rfl)) pgs_nil))))
    (pss_one (ps_ret (pe_tup (pa_cons (pv 6) (pa_cons (pv 3) (pa_cons (pe_c c_rest_of hr rfl (pa_cons (pe_op op_mulX pe_int (pv 7)) (pa_cons (pv 5) pa_nil))) pa_nil))))))))))), fun ds d hg => ?_⟩
  · obtain ⟨E, F, a, b, z, hb, ha, hbb, rfl, rfl⟩ := hg
    rfl
  obtain ⟨E, F, a, b, z, hb, ha, hbb, rfl, rfl⟩ := hg
  have h1 := BB_v
  have h2 := B1_v
  have hst := st_le z
  have hF := z.f112
  refine q_drop (ev_call (d := .non) ⟨a, b, hb, rfl, rfl⟩ (ea_cons (ev_var rfl) (ea_cons (ev_var rfl) ea_nil))) ?_
  refine q_when (et_test (ev_op on_eq (ev_var rfl) (ev_nat (n := 0)))) (fun h => ?_) (fun h => ?_)
  · refine s_ret (ev_tup (ea_cons (ev_nat (n := 0)) (ea_cons (ev_call (d := .int (-(st E F : Int))) ⟨E, F, z, rfl, rfl⟩ (ea_cons (ev_var rfl) ea_nil)) (ea_cons (ev_nat (n := 0)) ea_nil)))) ?_
    show _ = cutD (cutM E F a b)
    unfold cutM
    rw [if_pos h]
    rfl
  have ha0 : 0 < a := by omega
  obtain ⟨k, hk1, hk2, hco, hnear⟩ := cut_ok (E := E) (F := F) ha0 hb
  have e : cutD (cutM E F a b) = cutD (a * dn (cutP E F a b) / (b * up (cutP E F a b)), cutP E F a b, restOf (2 * (a * dn (cutP E F a b) % (b * up (cutP E F a b)))) (b * up (cutP E F a b))) := by
    unfold cutM
    rw [if_neg h]
  have hlt := hco.lt
  have hp : (cutM E F a b).2.1 = cutP E F a b := by unfold cutM; rw [if_neg h]
  have hw : (cutM E F a b).1 = a * dn (cutP E F a b) / (b * up (cutP E F a b)) := by unfold cutM; rw [if_neg h]
  rw [hp] at hk1
  rw [hw] at hlt
  have hbl := blen_le_of ha
  rw [e]
  refine q_asg (Eva.is (d' := .int (cutP E F a b)) (ev_cb c_max (ea_cons (ev_call (d := .int (-(st E F : Int))) ⟨E, F, z, rfl, rfl⟩ (ea_cons (ev_var rfl) ea_nil)) (ea_cons (ev_op o_sub (ev_op o_sub (ev_call (d := .int (aheadI a b)) ⟨a, b, lt_up ha (by omega), lt_up hbb (by omega), rfl, rfl⟩ (ea_cons (ev_var rfl) (ea_cons (ev_var rfl) ea_nil))) (ev_op (o_ixT rfl) (ev_var rfl) (ev_nat (n := 1)))) (ev_int (i := 1))) ea_nil))) rfl) ?_
  generalize cutP E F a b = p at *
  have hwide : 0 < b * up p := Nat.mul_pos hb (up_pos p)
  have hwb : b * up p < 2 ^ BB := up_lt hbb (by omega)
  refine q_asgT (ev_call (d := .tup [nD (a * dn p), nD (b * up p)]) ⟨a, b, p, lt_up ha (by omega), lt_up hbb (by omega), by omega, by omega, rfl, rfl⟩ (ea_cons (ev_var rfl) (ea_cons (ev_var rfl) (ea_cons (ev_var rfl) ea_nil)))) (tg_tup (tgs_cons tg_name (tgs_cons tg_name tgs_nil))) ?_
  refine q_asgT (ev_cb (c_divmod (c_divr hwide hlt (by omega))) (ea_cons (ev_var rfl) (ea_cons (ev_var rfl) ea_nil))) (tg_tup (tgs_cons tg_name (tgs_cons tg_name tgs_nil))) ?_
  have hm : a * dn p % (b * up p) < 2 ^ BB := Nat.lt_trans (Nat.mod_lt _ hwide) hwb
  exact s_ret (ev_tup (ea_cons (ev_var rfl) (ea_cons (ev_var rfl) (ea_cons (ev_call (d := nD (restOf (2 * (a * dn p % (b * up p))) (b * up p))) ⟨_, _, rfl, rfl⟩ (ea_cons (ev_op (on_mul (c_mul (n := 2) (by decide) hm (by omega))) (ev_nat (n := 2)) (ev_var rfl)) (ea_cons (ev_var rfl) ea_nil))) ea_nil)))) rfl
theorem sc_whole_root : FnScope ["number", "guess", "better"] ["number"] (defScope s_whole_root) := ⟨rfl, rfl, rfl, by decide +kernel, rfl, by decide +kernel, by decide +kernel⟩
theorem ok_whole_root {f : Addr} {fd : FuncData} (F : FnP K "whole_root" "whole_root" s_whole_root f fd)  : FnOk P w K mg base CX0 1 f fd ["number"] (spD K gIsq) := by
  refine fn_okD F sc_whole_root (fun ds d hg => ?_) fun cdv A outer s H E hr => ⟨_, (pss_cons (ps_if (pt_cmpR op_lt (pv 0) pe_int (nomark _)) (pss_one ps_never) pss_nil)
    (pss_cons (ps_if (pt_cmpR op_eq (pv 0) pe_int (nomark _)) (pss_one (ps_ret pe_int)) pss_nil)
    (pss_cons (ps_set (i := 1) sc_whole_root.nd rfl (Or.inl rfl) (pe_op op_shlW pe_int (pe_op op_fdivP (pe_op op_add (pe_bits (pv 0)) pe_int) pe_int)))
    (pss_one (ps_while PassesOwn.never (pt_val pe_bl) (pss_cons (ps_set (i := 2) sc_whole_root.nd rfl (Or.inl rfl) (pe_op op_fdivP (pe_op op_add (pv 1) (pe_op op_fdivP (pv 0) (pv 1))) pe_int))
    (pss_cons (ps_if (pt_cmpR op_ge (pv 2) (pv 1) (nomark _)) (pss_one (ps_ret (pv 1))) pss_nil)
    (pss_one (ps_set (i := 1) sc_whole_root.nd rfl (Or.inl rfl) (pv 2)))))))))), fun ds d hg => ?_⟩
  · obtain ⟨N, hN, rfl, rfl⟩ := hg
    rfl
  obtain ⟨N, hN, rfl, rfl⟩ := hg
  refine q_whenb (et_test (ev_op on_lt (ev_var rfl) (ev_nat (n := 0)))) (fun h => s_never (by simp at h)) (fun h => ?_)
  refine q_when (et_test (ev_op on_eq (ev_var rfl) (ev_nat (n := 0)))) (fun h => ?_) (fun h => ?_)
  · exact s_ret (ev_nat (n := 0)) (congrArg nD (by rw [h]; rfl))
  have hpos : 0 < N := by omega
  have hbl := blen_le_of hN
  refine q_asg (ev_op (on_one (m := (blen N + 1) / 2) (by omega)) (ev_nat (n := 1)) (ev_op (on_div (c_div (n := 11) (by decide) (Nat.lt_of_le_of_lt (show blen N + 1 ≤ 1001 by omega) (by decide)) (by decide))) (ev_op on_add (ev_bits (ev_var rfl)) (ev_nat (n := 1))) (ev_nat (n := 2)))) ?_
  have hst := newton_start hpos
  have hg0 : 2 ^ ((blen N + 1) / 2) < 2 ^ 600 := pow_lt (by omega)
  have hgp := tp ((blen N + 1) / 2)
  generalize 2 ^ ((blen N + 1) / 2) = g0 at *
  refine s_while (fun n ds' => ∃ (g : Nat) (x : Option D), 0 < g ∧ isq N ≤ g ∧ g < 2 ^ 600 ∧ n = g ∧ ds' = [some (nD N), some (nD g), x]) g0 ⟨g0, none, hgp, hst, hg0, rfl, rfl⟩ ?_
  rintro n ds' ⟨g, x, hg, hi, hgb, hn, rfl⟩
  refine ⟨true, et_B ev_bl, fun _ => ?_, fun h => by cases h⟩
  have hd : N / g < 2 ^ 1000 := Nat.lt_of_le_of_lt (Nat.div_le_self _ _) hN
  have hsum : g + N / g < 2 ^ 1001 := by
    have e : (2 : Nat) ^ 1001 = 2 ^ 1000 + 2 ^ 1000 := by rw [Nat.pow_succ]; omega
    have := lt_up hgb (show 600 ≤ 1000 by decide)
    omega
  refine q_asg (ev_op (on_div (c_div (n := 1001) (by decide) hsum (by decide))) (ev_op on_add (ev_var rfl) (ev_op (on_div (c_div hg hN (by decide))) (ev_var rfl) (ev_var rfl))) (ev_nat (n := 2))) ?_
  refine q_when (et_test (ev_op on_ge (ev_var rfl) (ev_var rfl))) (fun h2 => ?_) (fun h2 => ?_)
  · exact s_ret (ev_var rfl) (congrArg nD (newton_end hg hi h2))
  · have hge := newton_ge (n := N) hg
    refine s_asg (ev_var rfl) ⟨(g + N / g) / 2, by omega, (g + N / g) / 2, some (nD ((g + N / g) / 2)), ?_, hge, by omega, rfl, rfl⟩
    have h1 : 1 ≤ isq N := by
      obtain ⟨_, k2⟩ := isq_ok N
      apply Nat.pos_of_ne_zero
      intro q
      rw [q] at k2
      omega
    omega
theorem sc_root_cut : FnScope ["size", "top", "bottom", "power", "tall", "wide", "whole", "middle"] ["size", "top", "bottom"] (defScope s_root_cut) := ⟨rfl, rfl, rfl, by decide +kernel, rfl, by decide +kernel, by decide +kernel⟩
theorem ok_root_cut {f : Addr} {fd : FuncData} (F : FnP K "root_cut" "root_cut" s_root_cut f fd) (c_asked_fraction : Cal P w K mg base 1 "asked_fraction" (spD K gAsked)) (c_low : Cal P w K mg base 2 "low" (spD K gLow)) (c_ahead : Cal P w K mg base 2 "ahead" (spD K gAhead)) (c_scaled : Cal P w K mg base 1 "scaled" (spD K gScaled)) (c_whole_root : Cal P w K mg base 1 "whole_root" (spD K gIsq)) (c_rest_of : Cal P w K mg base 1 "rest_of" (spD K gRest)) (b_max : mg "max" = none) : FnOk P w K mg base CX0 3 f fd ["size", "top", "bottom"] (spD K gRoot) := by
  refine fn_okD F sc_root_cut (fun ds d hg => ?_) fun cdv A outer s H E hr => ⟨_, (pss_cons (ps_expr (pe_c c_asked_fraction hr rfl (pa_cons (pv 1) (pa_cons (pv 2) pa_nil))))
    (pss_cons (ps_if (pt_cmpR op_eq (pv 1) pe_int (nomark _)) (pss_one (ps_ret (pe_tup (pa_cons pe_int (pa_cons (pe_c c_low hr rfl (pa_cons (pv 0) pa_nil)) (pa_cons pe_int pa_nil)))))) pss_nil)
    (pss_cons (ps_set (i := 3) sc_root_cut.nd rfl (Or.inl rfl) (pe_callB (call_max2 rfl) (by rfl) b_max (by decide +kernel) (pa_cons (pe_c c_low hr rfl (pa_cons (pv 0) pa_nil)) (pa_cons (pe_op op_sub (pe_op op_sub (pe_op op_fdivP (pe_op op_add (pe_c c_ahead hr rfl (pa_cons (pv 1) (pa_cons (pv 2) pa_nil))) pe_int) pe_int) (pe_ix (r := rIxT K) ix_tup (pv 0) pe_int (fun _ _ => rfl))) pe_int) pa_nil))))
    (pss_cons (ps_asg (pe_c c_scaled hr rfl (pa_cons (pv 1) (pa_cons (pv 2) (pa_cons (pe_op op_mulX pe_int (pv 3)) pa_nil)))) (pg_tup rfl (pgs_cons (pg_name (i := 4) sc_root_cut.nd rfl (Or.inl rfl)) (pgs_cons (pg_name (i := 5) sc_root_cut.nd rfl (Or.inl rfl)) pgs_nil))))
    (pss_cons (ps_set (i := 6) sc_root_cut.nd rfl (Or.inl rfl) (pe_c c_whole_root hr rfl (pa_cons (pe_op op_fdivP (pv 4) (pv 5)) pa_nil)))
    (pss_cons (ps_if (pt_cmpR op_eq (pe_op op_mulX (pe_op op_mulX (pv 6) (pv 6)) (pv 5)) (pv 4) (nomark _)) (pss_one (ps_ret (pe_tup (pa_cons (pv 6) (pa_cons (pv 3) (pa_cons pe_int pa_nil)))))) pss_nil)
    (pss_cons (ps_set (i := 7) sc_root_cut.nd rfl (Or.inl rfl) (pe_op op_mulX (pe_op op_mulX (pe_op op_add (pe_op op_mulX pe_int (pv 6)) pe_int) (pe_op op_add (pe_op op_mulX pe_int (pv 6)) pe_int)) (pv 5)))
    (pss_one (ps_ret (pe_tup (pa_cons (pv 6) (pa_cons (pv 3) (pa_cons (pe_c c_rest_of hr rfl (pa_cons (pe_op op_mulX pe_int (pv 4)) (pa_cons (pv 7) pa_nil))) pa_nil))))))))))))), fun ds d hg => ?_⟩
  · obtain ⟨E, F, a, b, S, z, hb, hS, ha, hbb, rfl, rfl⟩ := hg
    rfl
  obtain ⟨E, F, a, b, S, z, hb, hS, ha, hbb, rfl, rfl⟩ := hg
  have h1 := BB_v
  have h2 := B1_v
  have hst := st_le z
  have hF := z.f112
  refine q_drop (ev_call (d := .non) ⟨a, b, hb, rfl, rfl⟩ (ea_cons (ev_var rfl) (ea_cons (ev_var rfl) ea_nil))) ?_
  refine q_when (et_test (ev_op on_eq (ev_var rfl) (ev_nat (n := 0)))) (fun h => ?_) (fun h => ?_)
  · refine s_ret (ev_tup (ea_cons (ev_nat (n := 0)) (ea_cons (ev_call (d := .int (-(st E F : Int))) ⟨E, F, z, rfl, rfl⟩ (ea_cons (ev_var rfl) ea_nil)) (ea_cons (ev_nat (n := 0)) ea_nil)))) ?_
    show _ = cutD (rootM E F a b)
    unfold rootM
    rw [if_pos h]
    rfl
  have ha0 : 0 < a := by omega
  obtain ⟨k, hk1, hk2, hco, hnear⟩ := root_ok (E := E) (F := F) ha0 hb hS
  have hlt := hco.lt
  have hp : (rootM E F a b).2.1 = rootP E F a b := by
    unfold rootM
    rw [if_neg h]
    simp only
    split <;> rfl
  have hw : (rootM E F a b).1 = isq (a * dn (2 * rootP E F a b) / (b * up (2 * rootP E F a b))) := by
    unfold rootM
    rw [if_neg h]
    simp only
    split <;> rfl
  rw [hp] at hk1
  rw [hw] at hlt
  have hbl := blen_le_of ha
  have hbl2 := blen_le_of hbb
  have ah1 := ahead_le a b
  have ah2 := ahead_ge a b
  have em : cutD (rootM E F a b) = cutD (if isq (a * dn (2 * rootP E F a b) / (b * up (2 * rootP E F a b))) * isq (a * dn (2 * rootP E F a b) / (b * up (2 * rootP E F a b))) * (b * up (2 * rootP E F a b)) = a * dn (2 * rootP E F a b) then (isq (a * dn (2 * rootP E F a b) / (b * up (2 * rootP E F a b))), rootP E F a b, 0) else (isq (a * dn (2 * rootP E F a b) / (b * up (2 * rootP E F a b))), rootP E F a b, restOf (4 * (a * dn (2 * rootP E F a b))) ((2 * isq (a * dn (2 * rootP E F a b) / (b * up (2 * rootP E F a b))) + 1) * (2 * isq (a * dn (2 * rootP E F a b) / (b * up (2 * rootP E F a b))) + 1) * (b * up (2 * rootP E F a b))))) := by
    unfold rootM
    rw [if_neg h]
  rw [em]
  refine q_asg (Eva.is (d' := .int (rootP E F a b)) (ev_cb c_max (ea_cons (ev_call (d := .int (-(st E F : Int))) ⟨E, F, z, rfl, rfl⟩ (ea_cons (ev_var rfl) ea_nil)) (ea_cons (ev_op o_sub (ev_op o_sub (ev_op (o_div (c_divI (m := 2) (n := 30) (by decide) (Nat.lt_of_le_of_lt (show (aheadI a b + 1).natAbs ≤ 1000000 by omega) (by decide)) (by decide))) (ev_op o_add (ev_call (d := .int (aheadI a b)) ⟨a, b, lt_up ha (by omega), lt_up hbb (by omega), rfl, rfl⟩ (ea_cons (ev_var rfl) (ea_cons (ev_var rfl) ea_nil))) (ev_int (i := 1))) (ev_nat (n := 2))) (ev_op (o_ixT rfl) (ev_var rfl) (ev_nat (n := 1)))) (ev_int (i := 1))) ea_nil))) rfl) ?_
  have hp2 : rootP E F a b ≤ 200001 := by
    obtain ⟨m1, m2, m3⟩ := maxI_ge (-(st E F : Int)) ((aheadI a b + 1) / 2 - F - 1)
    change rootP E F a b = _ ∨ rootP E F a b = _ at m3
    omega
  generalize rootP E F a b = p at *
  have hwide : 0 < b * up (2 * p) := Nat.mul_pos hb (up_pos _)
  have hwb : b * up (2 * p) < 2 ^ 800002 := up_lt hbb (by omega)
  have htb : a * dn (2 * p) < 2 ^ 800002 := dn_lt ha (by omega)
  refine q_asgT (ev_call (d := .tup [nD (a * dn (2 * p)), nD (b * up (2 * p))]) ⟨a, b, 2 * p, lt_up ha (by omega), lt_up hbb (by omega), by omega, by omega, rfl, rfl⟩ (ea_cons (ev_var rfl) (ea_cons (ev_var rfl) (ea_cons (ev_op (o_mul (mulx_ok (a := 2) (b := 30) (by decide) (Nat.lt_of_le_of_lt (show p.natAbs ≤ 1000000 by omega) (by decide)) (by decide))) (ev_int (i := 2)) (ev_var rfl)) ea_nil)))) (tg_tup (tgs_cons tg_name (tgs_cons tg_name tgs_nil))) ?_
  generalize a * dn (2 * p) = t at *
  generalize b * up (2 * p) = v at *
  have hq : t / v < 2 ^ 300 := by
    obtain ⟨_, k2⟩ := isq_ok (t / v)
    refine lt_up (n := (F + 1) + (F + 1)) ?_ (by omega)
    rw [Nat.pow_add]
    exact Nat.lt_of_lt_of_le k2 (Nat.mul_le_mul hlt hlt)
  refine q_asg (ev_call (d := nD (isq (t / v))) ⟨t / v, lt_up hq (by decide), rfl, rfl⟩ (ea_cons (ev_op (on_div (c_divr hwide hq (by decide))) (ev_var rfl) (ev_var rfl)) ea_nil)) ?_
  have hs : isq (t / v) < 2 ^ 200 := lt_up hlt (by omega)
  generalize isq (t / v) = s at *
  have hss : s * s < 2 ^ 400 := lt_mul hs hs
  have h2s : 2 * s + 1 < 2 ^ 202 := by
    have e : (2 : Nat) ^ 202 = 4 * 2 ^ 200 := by decide
    omega
  have h2ss : (2 * s + 1) * (2 * s + 1) < 2 ^ 404 := lt_mul h2s h2s
  refine q_when (et_test (ev_op on_eq (ev_op (on_mul (c_mul hss hwb (by decide))) (ev_op (on_mul (c_mul hs hs (by decide))) (ev_var rfl) (ev_var rfl)) (ev_var rfl)) (ev_var rfl))) (fun h => ?_) (fun h => ?_)
  · refine s_ret (ev_tup (ea_cons (ev_var rfl) (ea_cons (ev_var rfl) (ea_cons (ev_nat (n := 0)) ea_nil)))) ?_
    show _ = cutD (if _ then _ else _)
    rw [if_pos h]
    rfl
  refine q_asg (ev_op (on_mul (c_mul h2ss hwb (by decide))) (ev_op (on_mul (c_mul h2s h2s (by decide))) (ev_op on_add (ev_op (on_mul (c_mul (n := 2) (by decide) hs (by decide))) (ev_nat (n := 2)) (ev_var rfl)) (ev_nat (n := 1))) (ev_op on_add (ev_op (on_mul (c_mul (n := 2) (by decide) hs (by decide))) (ev_nat (n := 2)) (ev_var rfl)) (ev_nat (n := 1)))) (ev_var rfl)) ?_
  refine s_ret (ev_tup (ea_cons (ev_var rfl) (ea_cons (ev_var rfl) (ea_cons (ev_call (d := nD (restOf (4 * t) ((2 * s + 1) * (2 * s + 1) * v))) ⟨_, _, rfl, rfl⟩ (ea_cons (ev_op (on_mul (c_mul (n := 3) (by decide) htb (by decide))) (ev_nat (n := 4)) (ev_var rfl)) (ea_cons (ev_var rfl) ea_nil))) ea_nil)))) ?_
  show _ = cutD (if _ then _ else _)
  rw [if_neg h]
  rfl
end
end RM
set_option Elab.async false
set_option linter.all false
set_option maxRecDepth 100000
set_option maxHeartbeats 2000000
namespace RM
open PySem PySem.Spec PyProof.Rows L2
open Evl (Ex Ex.refl Ex.trans Ex.new Ex.mut)
section
variable {P : Program} {w : World} {K : PySem.W.Frag} {mg : Str → Option Value} {base : Heap} {C : Cs} {b : Bool} {fO : Addr} {fdO : FuncData}
theorem sc_Way_grows : FnScope ["self", "sign", "odd", "rest"] ["self", "sign", "odd", "rest"] (defScope s_Way_grows) := ⟨rfl, rfl, rfl, by decide +kernel, rfl, by decide +kernel, by decide +kernel⟩
theorem ok_Way_grows {f : Addr} {fd : FuncData} (F : FnP K "grows" "Way.grows" s_Way_grows f fd)  : FnOk P w K mg base CX0 1 f fd ["self", "sign", "odd", "rest"] (spD K (gGrows C .nought)) := by
  refine fn_okD F sc_Way_grows (fun ds d hg => ?_) fun cdv A outer s H E hr => ⟨_, (pss_one (ps_ret pe_bl)), fun ds d hg => ?_⟩
  · obtain ⟨s, r, odd, rfl, rfl⟩ := hg
    rfl
  obtain ⟨s, r, odd, rfl, rfl⟩ := hg
  exact s_ret ev_bl rfl
theorem sc_Way_bursts : FnScope ["self", "sign"] ["self", "sign"] (defScope s_Way_bursts) := ⟨rfl, rfl, rfl, by decide +kernel, rfl, by decide +kernel, by decide +kernel⟩
theorem ok_Way_bursts {f : Addr} {fd : FuncData} (F : FnP K "bursts" "Way.bursts" s_Way_bursts f fd)  : FnOk P w K mg base CX0 1 f fd ["self", "sign"] (spD K (gBursts C .nought)) := by
  refine fn_okD F sc_Way_bursts (fun ds d hg => ?_) fun cdv A outer s H E hr => ⟨_, (pss_one (ps_ret pe_bl)), fun ds d hg => ?_⟩
  · obtain ⟨s, rfl, rfl⟩ := hg
    rfl
  obtain ⟨s, rfl, rfl⟩ := hg
  exact s_ret ev_bl rfl
theorem sc_Nearest_grows : FnScope ["self", "sign", "odd", "rest"] ["self", "sign", "odd", "rest"] (defScope s_Nearest_grows) := ⟨rfl, rfl, rfl, by decide +kernel, rfl, by decide +kernel, by decide +kernel⟩
theorem ok_Nearest_grows {f : Addr} {fd : FuncData} (F : FnP K "grows" "Nearest.grows" s_Nearest_grows f fd) (c_grows_midway : ∀ b : Bool, MetD P w K mg base 1 (wayC C (b2w b)) "grows_midway" (spD K (gMid C (b2w b)))) : FnOk P w K mg base CX0 2 f fd ["self", "sign", "odd", "rest"] (spD K (gGrows C (b2w b))) := by
  refine fn_okD F sc_Nearest_grows (fun ds d hg => ?_) fun cdv A outer s H E hr => ⟨_, (pss_cons (ps_if (pt_cmpR op_eq (pv 3) pe_int (nomark _)) (pss_one (ps_ret (pe_mD c_grows_midway hr (pv 0) (pa_cons (pv 2) pa_nil)))) pss_nil)
    (pss_one (ps_ret (pe_cmpR op_eq (pv 3) pe_int (nomark _))))), fun ds d hg => ?_⟩
  · obtain ⟨s, r, odd, rfl, rfl⟩ := hg
    rfl
  obtain ⟨s, r, odd, rfl, rfl⟩ := hg
  refine q_when (et_test (ev_op on_eq (ev_var rfl) (ev_nat (n := 2)))) (fun h => ?_) (fun h => ?_)
  · refine s_ret (ev_mD (cls := fun b => wayC C (b2w b)) (g := fun b => gMid C (b2w b)) (fs := wayF (b2w b)) b (by cases b <;> rfl) ⟨odd, rfl, rfl⟩ (ev_var rfl) (ea_cons (ev_var rfl) ea_nil)) ?_
    refine congrArg D.bl ?_
    cases b <;> simp [b2w, midw, grows, h]
  · refine s_ret (ev_op on_eq (ev_var rfl) (ev_nat (n := 3))) ?_
    refine congrArg D.bl ?_
    cases b <;> simp [b2w, midw, grows, h]
theorem sc_Nearest_grows_midway : FnScope ["self", "odd"] ["self", "odd"] (defScope s_Nearest_grows_midway) := ⟨rfl, rfl, rfl, by decide +kernel, rfl, by decide +kernel, by decide +kernel⟩
theorem ok_Nearest_grows_midway {f : Addr} {fd : FuncData} (F : FnP K "grows_midway" "Nearest.grows_midway" s_Nearest_grows_midway f fd)  : FnOk P w K mg base CX0 1 f fd ["self", "odd"] (spD K (gMid C .even)) := by
  refine fn_okD F sc_Nearest_grows_midway (fun ds d hg => ?_) fun cdv A outer s H E hr => ⟨_, (pss_one (ps_ret (pv 1))), fun ds d hg => ?_⟩
  · obtain ⟨odd, rfl, rfl⟩ := hg
    rfl
  obtain ⟨odd, rfl, rfl⟩ := hg
  exact s_ret (ev_var rfl) rfl
theorem sc_Nearest_bursts : FnScope ["self", "sign"] ["self", "sign"] (defScope s_Nearest_bursts) := ⟨rfl, rfl, rfl, by decide +kernel, rfl, by decide +kernel, by decide +kernel⟩
theorem ok_Nearest_bursts {f : Addr} {fd : FuncData} (F : FnP K "bursts" "Nearest.bursts" s_Nearest_bursts f fd)  : FnOk P w K mg base CX0 1 f fd ["self", "sign"] (spD K (gBursts C (b2w b))) := by
  refine fn_okD F sc_Nearest_bursts (fun ds d hg => ?_) fun cdv A outer s H E hr => ⟨_, (pss_one (ps_ret pe_bl)), fun ds d hg => ?_⟩
  · obtain ⟨s, rfl, rfl⟩ := hg
    rfl
  obtain ⟨s, rfl, rfl⟩ := hg
  exact s_ret ev_bl (by cases b <;> rfl)
theorem sc_NearestAway_grows_midway : FnScope ["self", "odd"] ["self", "odd"] (defScope s_NearestAway_grows_midway) := ⟨rfl, rfl, rfl, by decide +kernel, rfl, by decide +kernel, by decide +kernel⟩
theorem ok_NearestAway_grows_midway {f : Addr} {fd : FuncData} (F : FnP K "grows_midway" "NearestAway.grows_midway" s_NearestAway_grows_midway f fd)  : FnOk P w K mg base CX0 1 f fd ["self", "odd"] (spD K (gMid C .away)) := by
  refine fn_okD F sc_NearestAway_grows_midway (fun ds d hg => ?_) fun cdv A outer s H E hr => ⟨_, (pss_one (ps_ret pe_bl)), fun ds d hg => ?_⟩
  · obtain ⟨odd, rfl, rfl⟩ := hg
    rfl
  obtain ⟨odd, rfl, rfl⟩ := hg
  exact s_ret ev_bl rfl
theorem sc_Outward_grows : FnScope ["self", "sign", "odd", "rest"] ["self", "sign", "odd", "rest"] (defScope s_Outward_grows) := ⟨rfl, rfl, rfl, by decide +kernel, rfl, by decide +kernel, by decide +kernel⟩
theorem ok_Outward_grows {f : Addr} {fd : FuncData} (F : FnP K "grows" "Outward.grows" s_Outward_grows f fd) (cl_O : Cls K C.o) (na_O : NoAttr K C.o "outward_sign") : FnOk P w K mg base CX0 1 f fd ["self", "sign", "odd", "rest"] (spD K (gGrows C (u2w b))) := by
  refine fn_okD F sc_Outward_grows (fun ds d hg => ?_) fun cdv A outer s H E hr => ⟨_, (pss_one (ps_ret (pe_and (pe_cmpR op_gt (pv 3) pe_int (nomark _)) (pe_one (pe_cmpR op_eq (pv 1) (pe_fld (pv 0) rfl) (nomark _)))))), fun ds d hg => ?_⟩
  · obtain ⟨s, r, odd, rfl, rfl⟩ := hg
    rfl
  obtain ⟨s, r, odd, rfl, rfl⟩ := hg
  cases b with
  | false =>
    refine s_ret (ev_andV (ev_op on_gt (ev_var rfl) (ev_nat (n := 0))) fun _ => (ev_op on_eq (ev_var rfl) (ev_fld (C := C.o) (fs := [("outward_sign", .int 0)]) (i := ((0 : Nat) : Int)) cl_O na_O rfl (ev_var rfl)))) rfl
  | true =>
    refine s_ret (ev_andV (ev_op on_gt (ev_var rfl) (ev_nat (n := 0))) fun _ => (ev_op on_eq (ev_var rfl) (ev_fld (C := C.o) (fs := [("outward_sign", .int 1)]) (i := ((1 : Nat) : Int)) cl_O na_O rfl (ev_var rfl)))) rfl
theorem sc_Outward_bursts : FnScope ["self", "sign"] ["self", "sign"] (defScope s_Outward_bursts) := ⟨rfl, rfl, rfl, by decide +kernel, rfl, by decide +kernel, by decide +kernel⟩
theorem ok_Outward_bursts {f : Addr} {fd : FuncData} (F : FnP K "bursts" "Outward.bursts" s_Outward_bursts f fd) (cl_O : Cls K C.o) (na_O : NoAttr K C.o "outward_sign") : FnOk P w K mg base CX0 1 f fd ["self", "sign"] (spD K (gBursts C (u2w b))) := by
  refine fn_okD F sc_Outward_bursts (fun ds d hg => ?_) fun cdv A outer s H E hr => ⟨_, (pss_one (ps_ret (pe_cmpR op_eq (pv 1) (pe_fld (pv 0) rfl) (nomark _)))), fun ds d hg => ?_⟩
  · obtain ⟨s, rfl, rfl⟩ := hg
    rfl
  obtain ⟨s, rfl, rfl⟩ := hg
  cases b with
  | false => exact s_ret (ev_op on_eq (ev_var rfl) (ev_fld (C := C.o) (fs := [("outward_sign", .int 0)]) (i := ((0 : Nat) : Int)) cl_O na_O rfl (ev_var rfl))) rfl
  | true => exact s_ret (ev_op on_eq (ev_var rfl) (ev_fld (C := C.o) (fs := [("outward_sign", .int 1)]) (i := ((1 : Nat) : Int)) cl_O na_O rfl (ev_var rfl))) rfl
theorem sc_Outward_init : FnScope ["self", "sign"] ["self", "sign"] (defScope s_Outward_init) := ⟨rfl, rfl, rfl, by decide +kernel, rfl, by decide +kernel, by decide +kernel⟩
theorem ok_Outward_init {f A : Addr} {fd : FuncData} (F : FnP K "__init__" "Outward.__init__" s_Outward_init f fd) (cl : Cls K A) (na : NoAttr K A "outward_sign") : FnOk P w K mg base CX0 1 f fd ["self", "sign"] (spOut A) := by
  refine F.ok (CX := CX0) sc_Outward_init (fun vs H Q E h => ?_) (fun cdv A outer s H vs Q E hr h => ⟨_, PSs.nox (pss_one (ps_fld (pv 0) (pv 1) rfl)), ?_⟩)
  · obtain ⟨p, dx, s, rfl, _⟩ := h
    rfl
  · obtain ⟨p, dx, s, rfl, hp, q⟩ := h
    exact ⟨_, rfl, _, rfl, p, _, dx, [], rfl, hp, cl, na, (by show 0 < 1000; decide), q⟩
theorem sc_way_of : FnScope ["name"] ["name"] (defScope s_way_of) := ⟨rfl, rfl, rfl, by decide +kernel, rfl, by decide +kernel, by decide +kernel⟩
theorem ok_way_of {f : Addr} {fd : FuncData} (F : FnP K "way_of" "way_of" s_way_of f fd) (k_Nearest : Mk0 K C.n) (m_Nearest : mg "Nearest" = some (.ref C.n)) (k_NearestAway : Mk0 K C.a) (m_NearestAway : mg "NearestAway" = some (.ref C.a)) (k_Way : Mk0 K C.w) (m_Way : mg "Way" = some (.ref C.w)) (k_Outward : Mk K C.o fO) (f_Outward_init : FnOk P w K mg base CX0 1 fO fdO ["self", "sign"] (spOut C.o)) (m_Outward : mg "Outward" = some (.ref C.o)) (bd_Outward : Binds K fdO ["self", "sign"] []) : FnOk P w K mg base CX0 3 f fd ["name"] (spD K (gWay C)) := by
  refine fn_okD F sc_way_of (fun ds d hg => ?_) fun cdv A outer s H E hr => ⟨_, (pss_cons (ps_if (pt_cmpR op_eq (pv 0) pe_str (nomark _)) (pss_one (ps_ret (pe_make00 k_Nearest rfl m_Nearest))) pss_nil)
    (pss_cons (ps_if (pt_cmpR op_eq (pv 0) pe_str (nomark _)) (pss_one (ps_ret (pe_make00 k_NearestAway rfl m_NearestAway))) pss_nil)
    (pss_cons (ps_if (pt_cmpR op_eq (pv 0) pe_str (nomark _)) (pss_one (ps_ret (pe_make00 k_Way rfl m_Way))) pss_nil)
    (pss_cons (ps_if (pt_cmpR op_eq (pv 0) pe_str (nomark _)) (pss_one (ps_ret (pe_make k_Outward (f_Outward_init) hr rfl m_Outward bd_Outward .nil pass0 (pa_cons pe_int pa_nil)))) pss_nil)
    (pss_cons (ps_if (pt_cmpR op_eq (pv 0) pe_str (nomark _)) (pss_one (ps_ret (pe_make k_Outward (f_Outward_init) hr rfl m_Outward bd_Outward .nil pass0 (pa_cons pe_int pa_nil)))) pss_nil)
    (pss_one ps_never)))))), fun ds d hg => ?_⟩
  · obtain ⟨wy, rfl, rfl⟩ := hg
    rfl
  obtain ⟨wy, rfl, rfl⟩ := hg
  have ne : ∀ x : W5, (wn wy = wn x) → wy = x := by
    intro x h
    revert h
    cases wy <;> cases x <;> first | (intro _; rfl) | (intro h; exact absurd h (by decide +kernel))
  refine q_when (et_test (ev_op o_eqS (ev_var rfl) ev_str)) (fun h => ?_) (fun h => ?_)
  · exact s_ret ev_make0 (by rw [ne .even h]; rfl)
  refine q_when (et_test (ev_op o_eqS (ev_var rfl) ev_str)) (fun h2 => ?_) (fun h2 => ?_)
  · exact s_ret ev_make0 (by rw [ne .away h2]; rfl)
  refine q_when (et_test (ev_op o_eqS (ev_var rfl) ev_str)) (fun h3 => ?_) (fun h3 => ?_)
  · exact s_ret ev_make0 (by rw [ne .nought h3]; rfl)
  refine q_when (et_test (ev_op o_eqS (ev_var rfl) ev_str)) (fun h4 => ?_) (fun h4 => ?_)
  · exact s_ret (ev_make (s := 0) ev_int) (by rw [ne .up h4]; rfl)
  refine q_when (et_test (ev_op o_eqS (ev_var rfl) ev_str)) (fun h5 => ?_) (fun h5 => ?_)
  · exact s_ret (ev_make (s := 1) ev_int) (by rw [ne .down h5]; rfl)
  refine s_never ?_
  cases wy
  · exact h rfl
  · exact h2 rfl
  · exact h3 rfl
  · exact h4 rfl
  · exact h5 rfl
theorem wayF_none (wy : W5) {m : Str} (h : (m == ("outward_sign" : Str)) = false) : (wayF wy).lookup m = none := by
  cases wy <;> simp [wayF, List.lookup, h]
theorem s_lt {s n : Nat} (h : s ≤ 1) (hn : 1 ≤ n) : s < 2 ^ n := Nat.lt_of_le_of_lt h (Nat.lt_of_lt_of_le (show 1 < 2 ^ 1 by decide) (Nat.pow_le_pow_right (by decide) hn))
theorem top_lt {E F : Nat} (z : Sz E F) : top E F < 2 ^ 128 := Nat.lt_of_le_of_lt (top_le z) (by decide)
theorem and1 (n : Nat) : n &&& 1 = n % 2 := Nat.and_one_is_mod n
theorem sc_settled : FnScope ["size", "way", "sign", "whole", "power", "rest", "rule", "first", "code", "flags"] ["size", "way", "sign", "whole", "power", "rest"] (defScope s_settled) := ⟨rfl, rfl, rfl, by decide +kernel, rfl, by decide +kernel, by decide +kernel⟩
theorem ok_settled {f : Addr} {fd : FuncData} (F : FnP K "settled" "settled" s_settled f fd) (c_way_of : Cal P w K mg base 3 "way_of" (spD K (gWay C))) (c_sign_bit : Cal P w K mg base 1 "sign_bit" (spD K gSign)) (c_low : Cal P w K mg base 2 "low" (spD K gLow)) (c_endless : Cal P w K mg base 1 "endless" (spD K gEndless)) (c_bursts : ∀ wy : W5, MetD P w K mg base 1 (wayC C wy) "bursts" (spD K (gBursts C wy))) (c_grows : ∀ wy : W5, MetD P w K mg base 2 (wayC C wy) "grows" (spD K (gGrows C wy))) (n_INEXACT : ∃ t, mg "INEXACT" = some (.int 1 t)) (n_GREAT : ∃ t, mg "GREAT" = some (.int 4 t)) (n_SMALL : ∃ t, mg "SMALL" = some (.int 2 t)) : FnOk P w K mg base CX0 4 f fd ["size", "way", "sign", "whole", "power", "rest"] (spD K gSettled) := by
  obtain ⟨_, m_INEXACT⟩ := n_INEXACT
  obtain ⟨_, m_GREAT⟩ := n_GREAT
  obtain ⟨_, m_SMALL⟩ := n_SMALL
  refine fn_okD F sc_settled (fun ds d hg => ?_) fun cdv A outer s H E hr => ⟨_, (pss_cons (ps_set (i := 6) sc_settled.nd rfl (Or.inl rfl) (pe_c c_way_of hr rfl (pa_cons (pv 1) pa_nil)))
    (pss_cons (ps_set (i := 7) sc_settled.nd rfl (Or.inl rfl) (pe_op op_mulX (pv 2) (pe_c c_sign_bit hr rfl (pa_cons (pv 0) pa_nil))))
    (pss_cons (ps_set (i := 8) sc_settled.nd rfl (Or.inl rfl) (pe_op op_add (pe_op op_shlW (pe_op op_sub (pv 4) (pe_c c_low hr rfl (pa_cons (pv 0) pa_nil))) (pe_ix (r := rIxT K) ix_tup (pv 0) pe_int (fun _ _ => rfl))) (pv 3)))
    (pss_cons (ps_if (pt_cmpR op_ge (pv 8) (pe_c c_endless hr rfl (pa_cons (pv 0) pa_nil)) (nomark _)) (pss_cons (ps_if (pt_val (pe_mD c_bursts hr (pv 6) (pa_cons (pv 2) pa_nil))) (pss_one (ps_ret (pe_tup (pa_cons (pe_op op_add (pv 7) (pe_c c_endless hr rfl (pa_cons (pv 0) pa_nil))) (pa_cons (pe_op op_or (pe_glob (v := .int 1) rfl m_INEXACT ⟨_, rfl⟩) (pe_glob (v := .int 4) rfl m_GREAT ⟨_, rfl⟩)) pa_nil))))) pss_nil)
    (pss_one (ps_ret (pe_tup (pa_cons (pe_op op_sub (pe_op op_add (pv 7) (pe_c c_endless hr rfl (pa_cons (pv 0) pa_nil))) pe_int) (pa_cons (pe_op op_or (pe_glob (v := .int 1) rfl m_INEXACT ⟨_, rfl⟩) (pe_glob (v := .int 4) rfl m_GREAT ⟨_, rfl⟩)) pa_nil)))))) pss_nil)
    (pss_cons (ps_if (pt_cmpR op_eq (pv 5) pe_int (nomark _)) (pss_one (ps_ret (pe_tup (pa_cons (pe_op op_add (pv 7) (pv 8)) (pa_cons pe_int pa_nil))))) pss_nil)
    (pss_cons (ps_set (i := 9) sc_settled.nd rfl (Or.inl rfl) (pe_glob (v := .int 1) rfl m_INEXACT ⟨_, rfl⟩))
    (pss_cons (ps_if (pt_cmpR op_lt (pv 3) (pe_op op_shlW pe_int (pe_ix (r := rIxT K) ix_tup (pv 0) pe_int (fun _ _ => rfl))) (nomark _)) (pss_one (ps_set (i := 9) sc_settled.nd rfl (Or.inl rfl) (pe_op op_or (pv 9) (pe_glob (v := .int 2) rfl m_SMALL ⟨_, rfl⟩)))) pss_nil)
    (pss_cons (ps_if (pt_val (pe_mD c_grows hr (pv 6) (pa_cons (pv 2) (pa_cons (pe_cmpR op_eq (pe_op op_and (pv 3) pe_int) pe_int (nomark _)) (pa_cons (pv 5) pa_nil))))) (pss_one (ps_aug (i := 8) sc_settled.nd rfl (.inl rfl) pe_int ip_add)) pss_nil)
    (pss_cons (ps_if (pt_cmpR op_eq (pv 8) (pe_c c_endless hr rfl (pa_cons (pv 0) pa_nil)) (nomark _)) (pss_one (ps_set (i := 9) sc_settled.nd rfl (Or.inl rfl) (pe_op op_or (pv 9) (pe_glob (v := .int 4) rfl m_GREAT ⟨_, rfl⟩)))) pss_nil)
    (pss_one (ps_ret (pe_tup (pa_cons (pe_op op_add (pv 7) (pv 8)) (pa_cons (pv 9) pa_nil)))))))))))))), fun ds d hg => ?_⟩
  · obtain ⟨E, F, wy, s, k, v, r, z, hs, hr3, hk, hco, rfl, rfl⟩ := hg
    rfl
  obtain ⟨E, F, wy, s, k, v, r, z, hs, hr3, hk, hco, rfl, rfl⟩ := hg
  have h1 := BB_v
  have hF := z.f112
  have hlg := last_ge z
  have hp := tp F
  refine q_asg (ev_call (d := wayD C wy) ⟨wy, rfl, rfl⟩ (ea_cons (ev_var rfl) ea_nil)) ?_
  refine q_asg (ev_op (on_mul (c_mul (s_lt hs (Nat.le_refl 1)) (top_lt z) (by decide))) (ev_var rfl) (ev_call (d := nD (top E F)) ⟨E, F, z, rfl, rfl⟩ (ea_cons (ev_var rfl) ea_nil))) ?_
  refine q_asg (ev_op on_add (ev_op (on_shl (c_shl (n := 20) (Nat.lt_of_le_of_lt hk (by decide)) (by omega))) (Eva.is (d' := nD k) (ev_op o_sub (ev_var rfl) (ev_call (d := .int (-(st E F : Int))) ⟨E, F, z, rfl, rfl⟩ (ea_cons (ev_var rfl) ea_nil))) (congrArg D.int (by omega))) (ev_op (o_ixT rfl) (ev_var rfl) (ev_nat (n := 1)))) (ev_var rfl)) ?_
  have small : decide (k * 2 ^ F + v < 2 ^ F) = decide (v < 2 ^ F) := by
    refine decide_eq_decide.mpr ⟨fun q => Nat.lt_of_le_of_lt (Nat.le_add_left _ _) q, fun q => ?_⟩
    have k0 : k = 0 := by have := hco.ge; omega
    rw [k0]
    omega
  have par : (k * 2 ^ F + v) % 2 = v % 2 := by
    have e : 2 ^ F = 2 * 2 ^ (F - 1) := by
      rw [← Nat.pow_succ']
      congr 1
      have := z.f1
      omega
    rw [e, Nat.mul_left_comm]
    omega
  unfold setM settle
  rw [small, par]
  generalize hc : k * 2 ^ F + v = c at *
  refine q_when (et_test (ev_op on_ge (ev_var rfl) (ev_call (d := nD (last E F)) ⟨E, F, z, rfl, rfl⟩ (ea_cons (ev_var rfl) ea_nil)))) (fun h => ?_) (fun h => ?_)
  · rw [if_pos h]
    refine q_whenb (et_B (ev_mD (cls := fun wy => wayC C wy) (g := fun wy => gBursts C wy) (fs := wayF wy) wy (wayF_none wy (by decide +kernel)) ⟨s, rfl, rfl⟩ (ev_var rfl) (ea_cons (ev_var rfl) ea_nil))) (fun h2 => ?_) (fun h2 => ?_)
    · rw [if_pos h2]
      exact s_ret (ev_tup (ea_cons (ev_op on_add (ev_var rfl) (ev_call (d := nD (last E F)) ⟨E, F, z, rfl, rfl⟩ (ea_cons (ev_var rfl) ea_nil))) (ea_cons (ev_op on_or (ev_nat (n := 1)) (ev_nat (n := 4))) ea_nil))) rfl
    · rw [if_neg (by rw [h2]; decide)]
      refine s_ret (ev_tup (ea_cons (ev_op (on_sub (by omega)) (ev_op on_add (ev_var rfl) (ev_call (d := nD (last E F)) ⟨E, F, z, rfl, rfl⟩ (ea_cons (ev_var rfl) ea_nil))) (ev_nat (n := 1))) (ea_cons (ev_op on_or (ev_nat (n := 1)) (ev_nat (n := 4))) ea_nil))) ?_
      unfold ansD bt
      refine congrArg (fun t => D.tup [nD t, nD 5]) ?_
      show s * top E F + last E F - 1 = s * top E F + (last E F - 1)
      omega
  rw [if_neg h]
  refine q_when (et_test (ev_op on_eq (ev_var rfl) (ev_nat (n := 0)))) (fun h2 => ?_) (fun h2 => ?_)
  · rw [if_pos h2]
    exact s_ret (ev_tup (ea_cons (ev_op on_add (ev_var rfl) (ev_var rfl)) (ea_cons (ev_nat (n := 0)) ea_nil))) rfl
  rw [if_neg h2]
  refine q_asg (ev_nat (n := 1)) ?_
  refine q_ifset (d := nD (1 ||| (if decide (v < 2 ^ F) = true then 2 else 0))) (et_test (ev_op on_lt (ev_var rfl) (ev_op (on_one (by omega)) (ev_nat (n := 1)) (ev_op (o_ixT rfl) (ev_var rfl) (ev_nat (n := 1)))))) (fun h3 => ?_) (fun h3 => ?_) ?_
  · rw [if_pos h3]
    exact ev_op on_or (ev_var rfl) (ev_nat (n := 2))
  · rw [if_neg (by rw [h3]; decide)]
    rfl
  generalize (1 ||| (if decide (v < 2 ^ F) = true then 2 else 0)) = fl
  refine q_join [some (sz E F), some (.str (wn wy)), some (nD s), some (nD v), some (.int ((k : Int) - (st E F : Int))), some (nD r), some (wayD C wy), some (nD (s * top E F)), some (nD (if grows wy s (decide (v % 2 = 1)) r = true then c + 1 else c)), some (nD fl)] (et_B (ev_mD (cls := fun wy => wayC C wy) (g := fun wy => gGrows C wy) (fs := wayF wy) wy (wayF_none wy (by decide +kernel)) ⟨s, r, decide (v % 2 = 1), rfl, rfl⟩ (ev_var rfl) (ea_cons (ev_var rfl) (ea_cons (Eva.is (ev_op on_eq (ev_op on_and (ev_var rfl) (ev_nat (n := 1))) (ev_nat (n := 1))) (by rw [and1])) (ea_cons (ev_var rfl) ea_nil))))) (fun h3 => ?_) (fun h3 => ?_) ?_
  · rw [if_pos h3]
    exact s_aug rfl (ev_nat (n := 1)) on_ipadd rfl
  · rw [if_neg (by rw [h3]; decide)]
    exact s_next rfl
  generalize (if grows wy s (decide (v % 2 = 1)) r = true then c + 1 else c) = c'
  refine q_ifset (d := nD (fl ||| (if c' = last E F then 4 else 0))) (et_test (ev_op on_eq (ev_var rfl) (ev_call (d := nD (last E F)) ⟨E, F, z, rfl, rfl⟩ (ea_cons (ev_var rfl) ea_nil)))) (fun h3 => ?_) (fun h3 => ?_) ?_
  · rw [if_pos (of_decide_eq_true h3)]
    exact ev_op on_or (ev_var rfl) (ev_nat (n := 4))
  · rw [if_neg (of_decide_eq_false h3)]
    rw [Nat.or_zero]
    rfl
  exact s_ret (ev_tup (ea_cons (ev_op on_add (ev_var rfl) (ev_var rfl)) (ea_cons (ev_var rfl) ea_nil))) rfl
end
end RM
set_option Elab.async false
set_option linter.all false
set_option maxRecDepth 100000
set_option maxHeartbeats 2000000
namespace RM
open PySem PySem.Spec PyProof.Rows L2
open Evl (Ex Ex.refl Ex.trans Ex.new Ex.mut ex_l ex_t)
/-! ### sums: plain -/
def fldD (i : Nat) : D → D
  | .tup ds => ds.getD i .non
  | _ => .non
theorem pick_all (xs : List D) (f : D → D) : pick xs (fun _ => true) f = xs.map f := by
  unfold pick
  rw [List.filter_eq_self.mpr fun _ _ => rfl]
theorem foldl_min_le : ∀ (ns : List Int) (n : Int), ns.foldl min n ≤ n ∧ ∀ m ∈ ns, ns.foldl min n ≤ m
  | [], n => ⟨Int.le_refl _, fun _ h => by cases h⟩
  | k :: ns, n => by
    obtain ⟨h1, h2⟩ := foldl_min_le ns (min n k)
    rw [List.foldl_cons]
    refine ⟨by omega, fun m hm => ?_⟩
    rcases List.mem_cons.mp hm with rfl | hm
    · omega
    · exact h2 m hm
theorem least_le {ts : List Tm} {t : Tm} (h : t ∈ ts) : leastP ts ≤ t.p := by
  cases ts with
  | nil => cases h
  | cons a r =>
    obtain ⟨h1, h2⟩ := foldl_min_le (r.map (·.p)) a.p
    rcases List.mem_cons.mp h with rfl | h
    · exact h1
    · exact h2 _ (List.mem_map.mpr ⟨t, h, rfl⟩)
theorem foldl_min_mem : ∀ (ns : List Int) (n : Int), ns.foldl min n = n ∨ ns.foldl min n ∈ ns
  | [], n => .inl rfl
  | k :: ns, n => by
    rw [List.foldl_cons]
    rcases foldl_min_mem ns (min n k) with h | h
    · rw [h]
      rcases Int.le_total n k with q | q
      · left; omega
      · right; rw [show min n k = k by omega]; exact List.mem_cons_self
    · exact .inr (List.mem_cons_of_mem _ h)
theorem least_mem {ts : List Tm} (h : ts ≠ []) : ∃ t ∈ ts, leastP ts = t.p := by
  cases ts with
  | nil => exact absurd rfl h
  | cons a r =>
    rcases foldl_min_mem (r.map (·.p)) a.p with h | h
    · exact ⟨a, List.mem_cons_self, h⟩
    · obtain ⟨t, ht, e⟩ := List.mem_map.mp h
      exact ⟨t, List.mem_cons_of_mem _ ht, e.symm⟩
theorem totX_snoc (l : Int) (ts : List Tm) (t : Tm) : totX l (ts ++ [t]) = totX l ts + sgn t.s ((t.w * 2 ^ (t.p - l).toNat : Nat) : Int) := by
  unfold totX
  rw [List.map_append, List.sum_append]
  simp
theorem sgn_abs (s : Nat) (x : Int) : (sgn s x).natAbs = x.natAbs := by
  unfold sgn
  split <;> omega
theorem totX_le {l : Int} {m : Nat} : ∀ ts : List Tm, (∀ t ∈ ts, t.w * 2 ^ (t.p - l).toNat ≤ m) → (totX l ts).natAbs ≤ ts.length * m
  | [], _ => by simp [totX]
  | t :: ts, h => by
    have ih := totX_le ts fun x hx => h x (List.mem_cons_of_mem _ hx)
    have h1 := h t List.mem_cons_self
    have e : totX l (t :: ts) = sgn t.s ((t.w * 2 ^ (t.p - l).toNat : Nat) : Int) + totX l ts := by
      unfold totX
      rw [List.map_cons, List.sum_cons]
    have h2 := sgn_abs t.s ((t.w * 2 ^ (t.p - l).toNat : Nat) : Int)
    rw [Int.natAbs_natCast] at h2
    have h3 := Int.natAbs_add_le (sgn t.s ((t.w * 2 ^ (t.p - l).toNat : Nat) : Int)) (totX l ts)
    rw [e, List.length_cons, Nat.succ_mul]
    omega
theorem totX_lt {ts : List Tm} (h0 : ts ≠ []) (hl : ts.length ≤ 10) (h : ∀ t ∈ ts, TmOk t) : (totX (leastP ts) ts).natAbs < 2 ^ 201010 := by
  obtain ⟨t0, ht0, e0⟩ := least_mem h0
  have hb := totX_le (l := leastP ts) (m := 2 ^ 201001) ts fun t ht => by
    have h1 := h t ht
    have h2 := h t0 ht0
    have h3 := h1.hi
    have h4 := h2.lo
    exact Nat.le_of_lt (mulp_lt h1.w (by omega))
  have h5 : ts.length * 2 ^ 201001 ≤ 2 ^ 4 * 2 ^ 201001 := Nat.mul_le_mul_right _ (by omega)
  rw [← Nat.pow_add] at h5
  exact Nat.lt_of_le_of_lt (Nat.le_trans hb h5) (pow_lt (by decide))
theorem take_snoc {α : Type} {xs : List α} {i : Nat} {x : α} (h : xs[i]? = some x) : xs.take (i + 1) = xs.take i ++ [x] := by
  rw [List.take_add_one, h]
  rfl
/-! ### kinds -/
theorem kind_split {E F c : Nat} (z : Sz E F) (hc : c < top E F) : (c / 2 ^ F = 2 ^ E - 1 ↔ last E F ≤ c) ∧ (last E F ≤ c → (c % 2 ^ F = 0 ↔ c = last E F)) ∧ (c / 2 ^ F = 0 ↔ c < 2 ^ F) := by
  have hp := tp F
  have hE := tp E
  have hl := last_lt_top z
  have hd := Nat.div_add_mod c (2 ^ F)
  have hm := Nat.mod_lt c hp
  have le : c / 2 ^ F < 2 ^ E := by
    refine (Nat.div_lt_iff_lt_mul hp).mpr ?_
    rw [← Nat.pow_add]
    exact hc
  have ge : 2 ^ E - 1 ≤ c / 2 ^ F ↔ last E F ≤ c := by
    unfold last
    exact Nat.le_div_iff_mul_le hp
  have e1 : c / 2 ^ F = 2 ^ E - 1 ↔ last E F ≤ c := by
    rw [← ge]
    omega
  refine ⟨e1, fun h => ?_, ?_⟩
  · have q := e1.mpr h
    have e2 : 2 ^ F * (c / 2 ^ F) = last E F := by
      rw [q, Nat.mul_comm]
      rfl
    omega
  · constructor
    · intro q
      rw [q, Nat.mul_zero] at hd
      omega
    · intro q
      exact Nat.div_eq_of_lt q
theorem k_ne1 : ¬ (("none" : Str) = "endless") := by decide +kernel
theorem k_ne2 : ¬ (("plain" : Str) = "endless") := by decide +kernel
theorem k_ne3 : ¬ (("nought" : Str) = "endless") := by decide +kernel
theorem k_ne4 : ¬ (("faint" : Str) = "endless") := by decide +kernel
theorem k_ne5 : ¬ (("endless" : Str) = "none") := by decide +kernel
theorem k_ne6 : ¬ (("plain" : Str) = "none") := by decide +kernel
theorem k_ne7 : ¬ (("nought" : Str) = "none") := by decide +kernel
theorem k_ne8 : ¬ (("faint" : Str) = "none") := by decide +kernel
theorem k_ne9 : ¬ (("endless" : Str) = "nought") := by decide +kernel
theorem k_ne10 : ¬ (("none" : Str) = "nought") := by decide +kernel
theorem k_ne11 : ¬ (("plain" : Str) = "nought") := by decide +kernel
theorem k_ne12 : ¬ (("faint" : Str) = "nought") := by decide +kernel
/-- the five kinds by the code alone -/
theorem kind_eq {E F c : Nat} (z : Sz E F) (hc : c < top E F) : kindS E F c = (if last E F < c then ("none" : Str) else if c = last E F then ("endless" : Str) else if 2 ^ F ≤ c then ("plain" : Str) else if c = 0 then ("nought" : Str) else ("faint" : Str)) := by
  obtain ⟨h1, h2, h3⟩ := kind_split z hc
  have hlg := last_ge z
  have hp := tp F
  unfold kindS
  by_cases a : last E F ≤ c
  · rw [if_pos (h1.mpr a)]
    by_cases b : c = last E F
    · have n2 : ¬ last E F < c := by omega
      rw [if_pos ((h2 a).mpr b), if_neg n2, if_pos b]
    · have n1 : ¬ c % 2 ^ F = 0 := fun q => b ((h2 a).mp q)
      have n2 : last E F < c := by omega
      rw [if_neg n1, if_pos n2]
  · have n1 : ¬ c / 2 ^ F = 2 ^ E - 1 := fun q => a (h1.mp q)
    have n2 : ¬ last E F < c := by omega
    have n3 : ¬ c = last E F := by omega
    rw [if_neg n1, if_neg n2, if_neg n3]
    by_cases b : c < 2 ^ F
    · have n4 : ¬ 0 < c / 2 ^ F := by rw [h3.mpr b]; omega
      have n5 : ¬ 2 ^ F ≤ c := by omega
      rw [if_neg n4, if_neg n5, Nat.mod_eq_of_lt b]
    · have n4 : 0 < c / 2 ^ F := Nat.pos_of_ne_zero fun q => b (h3.mp q)
      have n5 : 2 ^ F ≤ c := by omega
      rw [if_pos n4, if_pos n5]
theorem kind_end {E F c : Nat} (z : Sz E F) (hc : c < top E F) : kindS E F c = "endless" ↔ c = last E F := by
  rw [kind_eq z hc]
  have := last_ge z
  have := tp F
  constructor
  · intro h
    split at h
    · exact absurd h k_ne1
    · split at h
      · assumption
      · split at h
        · exact absurd h k_ne2
        · split at h
          · exact absurd h k_ne3
          · exact absurd h k_ne4
  · intro h
    rw [if_neg (by omega), if_pos h]
theorem kind_none {E F c : Nat} (z : Sz E F) (hc : c < top E F) : kindS E F c = "none" ↔ last E F < c := by
  rw [kind_eq z hc]
  have := last_ge z
  have := tp F
  constructor
  · intro h
    split at h
    · assumption
    · split at h
      · exact absurd h k_ne5
      · split at h
        · exact absurd h k_ne6
        · split at h
          · exact absurd h k_ne7
          · exact absurd h k_ne8
  · intro h
    rw [if_pos h]
theorem kind_nought {E F c : Nat} (z : Sz E F) (hc : c < top E F) : kindS E F c = "nought" ↔ c = 0 := by
  rw [kind_eq z hc]
  have := last_ge z
  have := tp F
  constructor
  · intro h
    split at h
    · exact absurd h k_ne10
    · split at h
      · exact absurd h k_ne9
      · split at h
        · exact absurd h k_ne11
        · split at h
          · assumption
          · exact absurd h k_ne12
  · intro h
    rw [if_neg (by omega), if_neg (by omega), if_neg (by omega), if_pos h]
theorem xorN01 {a b : Nat} (ha : a ≤ 1) (hb : b ≤ 1) : xorN a b = xs1 a b := by
  have h1 : a = 0 ∨ a = 1 := by omega
  have h2 : b = 0 ∨ b = 1 := by omega
  rcases h1 with rfl | rfl <;> rcases h2 with rfl | rfl <;> decide
theorem xs1_le (a b : Nat) : xs1 a b ≤ 1 := by
  unfold xs1
  split <;> omega
section
variable {P : Program} {w : World} {K : PySem.W.Frag} {mg : Str → Option Value} {base : Heap} {C : Cs} {b : Bool} {fO : Addr} {fdO : FuncData}
theorem sc_rounded : FnScope ["size", "way", "sign", "top", "bottom", "whole", "power", "rest"] ["size", "way", "sign", "top", "bottom"] (defScope s_rounded) := ⟨rfl, rfl, rfl, by decide +kernel, rfl, by decide +kernel, by decide +kernel⟩
theorem ok_rounded {f : Addr} {fd : FuncData} (F : FnP K "rounded" "rounded" s_rounded f fd) (c_way_of : Cal P w K mg base 3 "way_of" (spD K (gWay C))) (c_cut : Cal P w K mg base 3 "cut" (spD K gCut)) (c_settled : Cal P w K mg base 4 "settled" (spD K gSettled)) : FnOk P w K mg base CX0 5 f fd ["size", "way", "sign", "top", "bottom"] (spD K gRounded) := by
  refine fn_okD F sc_rounded (fun ds d hg => ?_) fun cdv A outer s H E hr => ⟨_, (pss_cons (ps_expr (pe_c c_way_of hr rfl (pa_cons (pv 1) pa_nil)))
    (pss_cons (ps_asg (pe_c c_cut hr rfl (pa_cons (pv 0) (pa_cons (pv 3) (pa_cons (pv 4) pa_nil)))) (pg_tup rfl (pgs_cons (pg_name (i := 5) sc_rounded.nd rfl (Or.inl rfl)) (pgs_cons (pg_name (i := 6) sc_rounded.nd rfl (Or.inl rfl)) (pgs_cons (pg_name (i := 7) sc_rounded.nd rfl (Or.inl rfl)) pgs_nil)))))
    (pss_one (ps_ret (pe_c c_settled hr rfl (pa_cons (pv 0) (pa_cons (pv 1) (pa_cons (pv 2) (pa_cons (pv 5) (pa_cons (pv 6) (pa_cons (pv 7) pa_nil))))))))))), fun ds d hg => ?_⟩
  · obtain ⟨E, F, wy, s, a, b, z, hs, hb, ha, hbb, rfl, rfl⟩ := hg
    rfl
  obtain ⟨E, F, wy, s, a, b, z, hs, hb, ha, hbb, rfl, rfl⟩ := hg
  have h1 := BB_v
  have h2 := B1_v
  have hst := st_le z
  refine q_drop (ev_call (d := wayD C wy) ⟨wy, rfl, rfl⟩ (ea_cons (ev_var rfl) ea_nil)) ?_
  refine q_asgT (ev_call (d := cutD (cutM E F a b)) ⟨E, F, a, b, z, hb, ha, hbb, rfl, rfl⟩ (ea_cons (ev_var rfl) (ea_cons (ev_var rfl) (ea_cons (ev_var rfl) ea_nil)))) (tg_tup (tgs_cons tg_name (tgs_cons tg_name (tgs_cons tg_name tgs_nil)))) ?_
  obtain ⟨k, e1, hk, hco, hr⟩ : ∃ k : Nat, (cutM E F a b).2.1 = (k : Int) - st E F ∧ k ≤ BB ∧ CutOk E F k (cutM E F a b).1 ∧ (cutM E F a b).2.2 ≤ 3 := by
    by_cases h : a = 0
    · refine ⟨0, ?_, by omega, ?_, ?_⟩
      · unfold cutM
        rw [if_pos h]
        show -(st E F : Int) = _
        omega
      · unfold cutM
        rw [if_pos h]
        exact ⟨tp _, .inl rfl⟩
      · unfold cutM
        rw [if_pos h]
        exact Nat.zero_le _
    · obtain ⟨k, q1, q2, q3, q4⟩ := cut_ok (E := E) (F := F) (show 0 < a by omega) hb
      have := blen_le_of ha
      exact ⟨k, q1, by omega, q3, q4.r4⟩
  have e2 : ((cutM E F a b).2.1 + st E F).toNat = k := by omega
  refine s_ret (ev_call (d := ansD E F s (setM E F wy s k (cutM E F a b).1 (cutM E F a b).2.2)) ⟨E, F, wy, s, k, (cutM E F a b).1, (cutM E F a b).2.2, z, hs, hr, hk, hco, by rw [e1], rfl⟩ (ea_cons (ev_var rfl) (ea_cons (ev_var rfl) (ea_cons (ev_var rfl) (ea_cons (ev_var rfl) (ea_cons (ev_var rfl) (ea_cons (ev_var rfl) ea_nil))))))) ?_
  show _ = ansD E F s (rnd E F wy s a b)
  unfold rnd
  rw [e2]
theorem sc_total : FnScope ["terms", "least", "term", "exact", "sign", "whole", "power", "part"] ["terms"] (defScope s_total) := ⟨rfl, rfl, rfl, by decide +kernel, rfl, by decide +kernel, by decide +kernel⟩
theorem ok_total {f : Addr} {fd : FuncData} (F : FnP K "total" "total" s_total f fd) (b_min : mg "min" = none) : FnOk P w K mg base CX0 1 f fd ["terms"] (spD K gTotal) := by
  refine fn_okD F sc_total (fun ds d hg => ?_) fun cdv A outer s H E hr => ⟨_, (pss_cons (ps_set (i := 1) sc_total.nd rfl (Or.inl rfl) (pe_callBK (cr_minDf rfl hr.units) (by rfl) b_min (by decide +kernel) (pa_cons (pe_lc (own := [("term", 2)]) (g := gName 2) (tt := tYes) rfl sc_total.nd (pi_list (pv 0)) (blkOk_by (own := [("term", 2)]) (N := ["terms", "least", "term", "exact", "sign", "whole", "power", "part"]) (sc := defScope s_total) (by decide +kernel)) (fun _ _ _ _ _ => pg_name (i := 2) sc_total.nd rfl (Or.inl rfl)) (fun _ _ _ _ _ => pts_nil) (fun _ _ _ _ _ => (pe_ix (r := rIxT K) ix_tup (pv 2) pe_int (fun _ _ => rfl)))) pa_nil) (pk_cons pe_int pk_nil)))
    (pss_cons (ps_set (i := 3) sc_total.nd rfl (Or.inl rfl) pe_int)
    (pss_cons (ps_for PassesOwn.never rfl (pi_list (pv 0)) (pg_tup rfl (pgs_cons (pg_name (i := 4) sc_total.nd rfl (Or.inl rfl)) (pgs_cons (pg_name (i := 5) sc_total.nd rfl (Or.inl rfl)) (pgs_cons (pg_name (i := 6) sc_total.nd rfl (Or.inl rfl)) pgs_nil)))) (pss_cons (ps_set (i := 7) sc_total.nd rfl (Or.inl rfl) (pe_op op_shlW (pv 5) (pe_op op_sub (pv 6) (pv 1))))
    (pss_one (ps_if (pt_cmpR op_eq (pv 4) pe_int (nomark _)) (pss_one (ps_aug (i := 3) sc_total.nd rfl (.inl rfl) (pv 7) ip_sub)) (pss_one (ps_aug (i := 3) sc_total.nd rfl (.inl rfl) (pv 7) ip_add))))))
    (pss_cons (ps_if (pt_cmpR op_lt (pv 3) pe_int (nomark _)) (pss_one (ps_ret (pe_tup (pa_cons pe_int (pa_cons (pe_un un_neg (pv 3)) (pa_cons (pv 1) pa_nil)))))) pss_nil)
    (pss_one (ps_ret (pe_tup (pa_cons pe_int (pa_cons (pv 3) (pa_cons (pv 1) pa_nil)))))))))), fun ds d hg => ?_⟩
  · obtain ⟨ts, h0, hl, hts, rfl, rfl⟩ := hg
    rfl
  obtain ⟨ts, h0, hl, hts, rfl, rfl⟩ := hg
  refine q_asg (d := .int (leastP ts)) ?_ ?_
  · cases ts with
    | nil => exact absurd rfl h0
    | cons t0 tr =>
      refine Eva.is (d := .int ((tr.map (·.p)).foldl min t0.p)) (ev_minDf ?_ (ea_cons (ev_nat (n := 0)) ea_nil)) rfl
      refine ea_cons ?_ ea_nil
      refine Eva.is (ev_lc (xs := (t0 :: tr).map worD) (fun _ => true) (fldD 2) (ev_var rfl) (by rw [List.length_map]; omega) (fun x hx => et_yes) (fun x hx _ => ?_) (fun x hx => ?_)) ?_
      · obtain ⟨t, _, rfl⟩ := List.mem_map.mp hx
        exact ev_op (o_ixT rfl) (ev_var rfl) (ev_nat (n := 2))
      · obtain ⟨t, _, rfl⟩ := List.mem_map.mp hx
        rfl
      · rw [pick_all, List.map_map]
        refine congrArg D.lst ?_
        rw [← List.map_cons (f := fun t : Tm => t.p), List.map_map]
        rfl
  refine q_asg (ev_int (i := 0)) ?_
  refine s_seq (s_for (xs := ts.map worD) (ev_var rfl) (fun i ds' => ∃ x2 x4 x5 x6 x7 : Option D, ds' = [some (.lst (ts.map worD)), some (.int (leastP ts)), x2, some (.int (totX (leastP ts) (ts.take i))), x4, x5, x6, x7]) ⟨_, _, _, _, _, rfl⟩ (fun i x ds' hx hw => ?_) fun ds' hw => ?_)
  · obtain ⟨x2, x4, x5, x6, x7, rfl⟩ := hw
    obtain ⟨t, ht, rfl⟩ : ∃ t, ts[i]? = some t ∧ x = worD t := by
      rw [List.getElem?_map] at hx
      cases e : ts[i]? with
      | none => rw [e] at hx; cases hx
      | some t => rw [e] at hx; exact ⟨t, rfl, (Option.some.inj hx).symm⟩
    have hm : t ∈ ts := List.mem_of_getElem? ht
    have hle := least_le hm
    have htk := hts t hm
    obtain ⟨t0, hm0, e0⟩ := least_mem h0
    have h0k := (hts t0 hm0).lo
    have hhi := htk.hi
    have hs1 := htk.s1
    refine ⟨_, tg_tup (tgs_cons tg_name (tgs_cons tg_name (tgs_cons tg_name tgs_nil))), ?_⟩
    refine q_asg (ev_op (on_shl (c_shl htk.w (show 1000 + (t.p - leastP ts).toNat ≤ _ by omega))) (ev_var rfl) (Eva.is (d' := nD (t.p - leastP ts).toNat) (ev_op o_sub (ev_var rfl) (ev_var rfl)) (congrArg D.int (by omega)))) ?_
    rw [take_snoc ht, totX_snoc]
    refine s_if (et_test (ev_op on_eq (ev_var rfl) (ev_nat (n := 1)))) (fun h => ?_) (fun h => ?_)
    · refine s_aug rfl (ev_var rfl) o_ip ⟨x2, some (nD t.s), some (nD t.w), some (.int t.p), some (nD (t.w * 2 ^ (t.p - leastP ts).toNat)), ?_⟩
      have e : sgn t.s ((t.w * 2 ^ (t.p - leastP ts).toNat : Nat) : Int) = -((t.w * 2 ^ (t.p - leastP ts).toNat : Nat) : Int) := by
        unfold sgn
        rw [if_pos h]
      rw [e, ← Int.sub_eq_add_neg]
      rfl
    · refine s_aug rfl (ev_var rfl) o_ip ⟨x2, some (nD t.s), some (nD t.w), some (.int t.p), some (nD (t.w * 2 ^ (t.p - leastP ts).toNat)), ?_⟩
      have e : sgn t.s ((t.w * 2 ^ (t.p - leastP ts).toNat : Nat) : Int) = ((t.w * 2 ^ (t.p - leastP ts).toNat : Nat) : Int) := by
        unfold sgn
        rw [if_neg h]
      rw [e]
      rfl
  · obtain ⟨x2, x4, x5, x6, x7, rfl⟩ := hw
    rw [List.length_map, List.take_length]
    generalize totX (leastP ts) ts = X
    refine q_when (et_test (ev_op o_lt (ev_var rfl) (ev_int (i := 0)))) (fun h => ?_) (fun h => ?_)
    · refine s_ret (ev_tup (ea_cons (ev_nat (n := 1)) (ea_cons (Eva.is (d' := nD X.natAbs) (ev_un u_neg (ev_var rfl)) (congrArg D.int (by omega))) (ea_cons (ev_var rfl) ea_nil)))) ?_
      rw [if_pos h]
    · refine s_ret (ev_tup (ea_cons (ev_nat (n := 0)) (ea_cons (Eva.is (d' := nD X.natAbs) (ev_var rfl) (congrArg D.int (by omega))) (ea_cons (ev_var rfl) ea_nil)))) ?_
      rw [if_neg h]
theorem atI0 {α : Type} {x : α} {xs : List α} : atI (x :: xs) ((0 : Nat) : Int) = some x := by
  unfold atI ixN
  simp
theorem map_nD (ss : List Nat) : (ss.map fun (s : Nat) => nD s) = (ss.map fun (s : Nat) => (s : Int)).map D.int := by
  rw [List.map_map]
  rfl
theorem mem_cast (n : Nat) (ss : List Nat) : ((n : Int) ∈ ss.map fun (s : Nat) => (s : Int)) ↔ n ∈ ss := by
  rw [List.mem_map]
  constructor
  · rintro ⟨m, h, e⟩
    have : m = n := by omega
    exact this ▸ h
  · intro h
    exact ⟨n, h, rfl⟩
theorem dec_cast (n : Nat) (ss : List Nat) : decide ((n : Int) ∈ ss.map fun (s : Nat) => (s : Int)) = decide (n ∈ ss) := decide_eq_decide.mpr (mem_cast n ss)
theorem sc_nought_sign : FnScope ["way", "signs"] ["way", "signs"] (defScope s_nought_sign) := ⟨rfl, rfl, rfl, by decide +kernel, rfl, by decide +kernel, by decide +kernel⟩
theorem ok_nought_sign {f : Addr} {fd : FuncData} (F : FnP K "nought_sign" "nought_sign" s_nought_sign f fd) (c_way_of : Cal P w K mg base 3 "way_of" (spD K (gWay C))) (b_len : mg "len" = none) : FnOk P w K mg base CX0 4 f fd ["way", "signs"] (spD K gNsg) := by
  refine fn_okD F sc_nought_sign (fun ds d hg => ?_) fun cdv A outer s H E hr => ⟨_, (pss_cons (ps_expr (pe_c c_way_of hr rfl (pa_cons (pv 0) pa_nil)))
    (pss_cons (ps_if (pt_cmpR op_eq (pe_callB call_len_seq (by rfl) b_len (by decide +kernel) (pa_cons (pv 1) pa_nil)) pe_int (nomark _)) (pss_one (ps_ret pe_int)) pss_nil)
    (pss_cons (ps_if (PW.pt (pw_and (pt_cmpR op_in_seq pe_int (pv 1) (by with_unfolding_all rfl)) (pw_and1 (pt_cmpR op_in_seq pe_int (pv 1) (by with_unfolding_all rfl))))) (pss_cons (ps_if (pt_cmpR op_eq (pv 0) pe_str (nomark _)) (pss_one (ps_ret pe_int)) pss_nil)
    (pss_one (ps_ret pe_int))) pss_nil)
    (pss_one (ps_ret (pe_ix (r := rIxL K) ix_list (pv 1) pe_int (fun _ _ => rfl))))))), fun ds d hg => ?_⟩
  · obtain ⟨wy, ss, hl, rfl, rfl⟩ := hg
    rfl
  obtain ⟨wy, ss, hl, rfl, rfl⟩ := hg
  refine q_drop (ev_call (d := wayD C wy) ⟨wy, rfl, rfl⟩ (ea_cons (ev_var rfl) ea_nil)) ?_
  rw [map_nD]
  refine q_when (et_test (ev_op on_eq (ev_cb c_lenL (ea_cons (ev_var rfl) ea_nil)) (ev_nat (n := 0)))) (fun h => ?_) (fun h => ?_)
  · refine s_ret (ev_nat (n := 0)) ?_
    rw [List.length_map, List.length_map] at h
    have e := List.eq_nil_of_length_eq_zero h
    subst e
    rfl
  have hb : (decide (0 ∈ ss) && decide (1 ∈ ss)) = decide (0 ∈ ss ∧ 1 ∈ ss) := by
    by_cases p : 0 ∈ ss <;> by_cases q : 1 ∈ ss <;> simp [p, q]
  unfold nsg
  refine q_when (EvT.is (et_and (EvT.is (et_test (ev_op o_inI (ev_nat (n := 0)) (ev_var rfl))) (dec_cast 0 ss)) fun _ => EvT.is (et_test (ev_op o_inI (ev_nat (n := 1)) (ev_var rfl))) (dec_cast 1 ss)) hb) (fun h2 => ?_) (fun h2 => ?_)
  · rw [if_pos h2]
    refine q_when (et_test (ev_op o_eqS (ev_var rfl) ev_str)) (fun h3 => ?_) (fun h3 => ?_)
    · refine s_ret (ev_nat (n := 1)) ?_
      have e : wy = .down := by
        revert h3
        cases wy <;> first | (intro _; rfl) | (intro h; exact absurd h (by decide +kernel))
      rw [if_pos e]
    · refine s_ret (ev_nat (n := 0)) ?_
      have e : ¬ wy = .down := by
        intro q
        subst q
        exact h3 rfl
      rw [if_neg e]
  · rw [if_neg h2]
    cases ss with
    | nil => exact absurd rfl h
    | cons s0 sr => exact s_ret (ev_op (o_ixL atI0) (ev_var rfl) (ev_nat (n := 0))) rfl
theorem tp' (n : Nat) (h : 0 < n) : 1 < 2 ^ n := Nat.one_lt_two_pow (by omega)
theorem TmOk.s01 {t : Tm} (h : TmOk t) : t.s = 0 ∨ t.s = 1 := by have := h.s1; omega
theorem nsg_le {wy : W5} {ss : List Nat} (h : ∀ s ∈ ss, s ≤ 1) : nsg wy ss ≤ 1 := by
  unfold nsg
  split
  · split <;> omega
  · cases ss with
    | nil => exact Nat.zero_le _
    | cons a r => exact h a List.mem_cons_self
theorem sc_settled_total : FnScope ["size", "way", "terms", "sign", "whole", "power", "term"] ["size", "way", "terms"] (defScope s_settled_total) := ⟨rfl, rfl, rfl, by decide +kernel, rfl, by decide +kernel, by decide +kernel⟩
theorem ok_settled_total {f : Addr} {fd : FuncData} (F : FnP K "settled_total" "settled_total" s_settled_total f fd) (c_way_of : Cal P w K mg base 3 "way_of" (spD K (gWay C))) (c_total : Cal P w K mg base 1 "total" (spD K gTotal)) (c_nought_sign : Cal P w K mg base 4 "nought_sign" (spD K gNsg)) (c_sign_bit : Cal P w K mg base 1 "sign_bit" (spD K gSign)) (c_rounded : Cal P w K mg base 5 "rounded" (spD K gRounded)) : FnOk P w K mg base CX0 6 f fd ["size", "way", "terms"] (spD K gStot) := by
  refine fn_okD F sc_settled_total (fun ds d hg => ?_) fun cdv A outer s H E hr => ⟨_, (pss_cons (ps_expr (pe_c c_way_of hr rfl (pa_cons (pv 1) pa_nil)))
    (pss_cons (ps_asg (pe_c c_total hr rfl (pa_cons (pv 2) pa_nil)) (pg_tup rfl (pgs_cons (pg_name (i := 3) sc_settled_total.nd rfl (Or.inl rfl)) (pgs_cons (pg_name (i := 4) sc_settled_total.nd rfl (Or.inl rfl)) (pgs_cons (pg_name (i := 5) sc_settled_total.nd rfl (Or.inl rfl)) pgs_nil)))))
    (pss_cons (ps_if (pt_cmpR op_eq (pv 4) pe_int (nomark _)) (pss_one (ps_ret (pe_tup (pa_cons (pe_op op_mulX (pe_c c_nought_sign hr rfl (pa_cons (pv 1) (pa_cons (pe_lc (own := [("term", 6)]) (g := gName 6) (tt := tYes) rfl sc_settled_total.nd (pi_list (pv 2)) (blkOk_by (own := [("term", 6)]) (N := ["size", "way", "terms", "sign", "whole", "power", "term"]) (sc := defScope s_settled_total) (by decide +kernel)) (fun _ _ _ _ _ => pg_name (i := 6) sc_settled_total.nd rfl (Or.inl rfl)) (fun _ _ _ _ _ => pts_nil) (fun _ _ _ _ _ => (pe_ix (r := rIxT K) ix_tup (pv 6) pe_int (fun _ _ => rfl)))) pa_nil))) (pe_c c_sign_bit hr rfl (pa_cons (pv 0) pa_nil))) (pa_cons pe_int pa_nil))))) pss_nil)
    (pss_cons (ps_if (pt_cmpR op_ge (pv 5) pe_int (nomark _)) (pss_one (ps_ret (pe_c c_rounded hr rfl (pa_cons (pv 0) (pa_cons (pv 1) (pa_cons (pv 3) (pa_cons (pe_op op_shlW (pv 4) (pv 5)) (pa_cons pe_int pa_nil)))))))) pss_nil)
    (pss_one (ps_ret (pe_c c_rounded hr rfl (pa_cons (pv 0) (pa_cons (pv 1) (pa_cons (pv 3) (pa_cons (pv 4) (pa_cons (pe_op op_shlW pe_int (pe_un un_neg (pv 5))) pa_nil)))))))))))), fun ds d hg => ?_⟩
  · obtain ⟨E, F, wy, ts, z, h0, hl, hts, rfl, rfl⟩ := hg
    rfl
  obtain ⟨E, F, wy, ts, z, h0, hl, hts, rfl, rfl⟩ := hg
  have h2 := B1_v
  refine q_drop (ev_call (d := wayD C wy) ⟨wy, rfl, rfl⟩ (ea_cons (ev_var rfl) ea_nil)) ?_
  refine q_asgT (ev_call (d := .tup [nD (if totX (leastP ts) ts < 0 then 1 else 0), nD (totX (leastP ts) ts).natAbs, .int (leastP ts)]) ⟨ts, h0, hl, hts, rfl, rfl⟩ (ea_cons (ev_var rfl) ea_nil)) (tg_tup (tgs_cons tg_name (tgs_cons tg_name (tgs_cons tg_name tgs_nil)))) ?_
  have hX := totX_lt h0 hl hts
  obtain ⟨t0, hm0, e0⟩ := least_mem h0
  have hlo := (hts t0 hm0).lo
  have hhi := (hts t0 hm0).hi
  rw [← e0] at hlo hhi
  show Sx K _ _ { nx := _, rt := fun d' => d' = prD (stot E F wy ts) }
  unfold stot
  generalize totX (leastP ts) ts = X at *
  generalize leastP ts = l at *
  refine q_when (et_test (ev_op on_eq (ev_var rfl) (ev_nat (n := 0)))) (fun h => ?_) (fun h => ?_)
  · have hx0 : X = 0 := by omega
    rw [if_pos hx0]
    have hn : nsg wy (ts.map (·.s)) ≤ 1 := nsg_le fun s hs => by
      obtain ⟨t, ht, rfl⟩ := List.mem_map.mp hs
      exact (hts t ht).s1
    refine s_ret (ev_tup (ea_cons (ev_op (on_mul (c_mul (s_lt hn (Nat.le_refl 1)) (top_lt z) (by decide))) (ev_call (d := nD (nsg wy (ts.map (·.s)))) ⟨wy, ts.map (·.s), by rw [List.length_map]; exact hl, rfl, rfl⟩ (ea_cons (ev_var rfl) (ea_cons (Eva.is (ev_lc (xs := ts.map worD) (fun _ => true) (fldD 0) (ev_var rfl) (by rw [List.length_map]; omega) (fun x hx => et_yes) (fun x hx _ => ?_) (fun x hx => ?_)) ?_) ea_nil))) (ev_call (d := nD (top E F)) ⟨E, F, z, rfl, rfl⟩ (ea_cons (ev_var rfl) ea_nil))) (ea_cons (ev_nat (n := 0)) ea_nil))) ?_
    · obtain ⟨t, _, rfl⟩ := List.mem_map.mp hx
      exact ev_op (o_ixT rfl) (ev_var rfl) (ev_nat (n := 0))
    · obtain ⟨t, _, rfl⟩ := List.mem_map.mp hx
      rfl
    · rw [pick_all, List.map_map, List.map_map]
      rfl
    · rfl
  have hx0 : ¬ X = 0 := by omega
  rw [if_neg hx0]
  have hsg : (if X < 0 then 1 else 0) ≤ 1 := by split <;> omega
  refine q_when (et_test (ev_op o_ge (ev_var rfl) (ev_int (i := 0)))) (fun h => ?_) (fun h => ?_)
  · refine s_ret (ev_call (d := ansD E F (if X < 0 then 1 else 0) (rnd E F wy (if X < 0 then 1 else 0) (X.natAbs * 2 ^ l.toNat) 1)) ⟨E, F, wy, _, X.natAbs * 2 ^ l.toNat, 1, z, hsg, by decide, mulp_lt hX (by omega), by unfold B1; exact tp' _ (by decide), rfl, rfl⟩ (ea_cons (ev_var rfl) (ea_cons (ev_var rfl) (ea_cons (ev_var rfl) (ea_cons (ev_op (on_shl (c_shl hX (by omega))) (ev_var rfl) (Eva.is (d' := nD l.toNat) (ev_var rfl) (congrArg D.int (by omega)))) (ea_cons (ev_nat (n := 1)) ea_nil)))))) ?_
    have e : dn l = 1 := by unfold dn; rw [show (-l).toNat = 0 by omega]
    rw [e]
    rfl
  · refine s_ret (ev_call (d := ansD E F (if X < 0 then 1 else 0) (rnd E F wy (if X < 0 then 1 else 0) X.natAbs (2 ^ (-l).toNat))) ⟨E, F, wy, _, X.natAbs, 2 ^ (-l).toNat, z, hsg, tp _, lt_up hX (by omega), pow_lt (by omega), rfl, rfl⟩ (ea_cons (ev_var rfl) (ea_cons (ev_var rfl) (ea_cons (ev_var rfl) (ea_cons (ev_var rfl) (ea_cons (ev_op (on_one (by omega)) (ev_nat (n := 1)) (Eva.is (d' := nD (-l).toNat) (ev_un u_neg (ev_var rfl)) (congrArg D.int (by omega)))) ea_nil)))))) ?_
    have e : up l = 1 := by unfold up; rw [show l.toNat = 0 by omega]
    rw [e, Nat.mul_one]
    rfl
end
end RM
set_option Elab.async false
set_option linter.all false
set_option maxRecDepth 100000
set_option maxHeartbeats 2000000
namespace RM
open PySem PySem.Spec PyProof.Rows L2
open Evl (Ex Ex.refl Ex.trans Ex.new Ex.mut ex_l ex_t)
/-! ### steps at a heap, where a list grows -/
section
variable {K : PySem.W.Frag} {σ : L2.St} {H H0 : Hp} {ds : DE} {d : D} {te : TE} {t : TT} {tu tw tz : TS} {Dn : Ends}
theorem h_asg {i : Nat} (r : EnvR K H σ ds) (h : Eva K te ds d) (k : ∀ v H', Ex H H' → Rep K H' v d → tz Dn (σ.set i (some v)) H') : tSeq (tAsg te (gName i)) tz Dn σ H :=
  h σ H r _ fun v H' e rv => k v H' e rv
theorem h_when {x : Bool} (r : EnvR K H σ ds) (h : EvT K t ds x) (h1 : x = true → ∀ H', Ex H H' → tu { Dn with nx := tz Dn } σ H') (h2 : x = false → ∀ H', Ex H H' → tz Dn σ H') : tSeq (tIfS t tu tNext) tz Dn σ H :=
  h σ H r _ fun H' e => by
    cases x with
    | true => exact h1 rfl H' e
    | false => exact h2 rfl H' e
theorem h_app {i : Nat} {l : Addr} {vs : List V} (r : EnvR K H σ ds) (hi : σ[i]? = some (some (.ref l))) (hl : H l = some (.lst vs)) (hn : vs.length ≤ 1000) (h : Eva K te ds d) (k : ∀ v H', Ex H H' → Rep K H' v d → Dn.nx σ (upd H' l (.lst (vs ++ [v])))) :
    tDrop (tBM K "list" rAppend (tVar i) (tCons te tNil)) Dn σ H :=
  ⟨_, hi, .inl ⟨rfl, vs, SqL.of hl⟩, h σ H r _ fun v H' e rv => ⟨l, vs, v, rfl, rfl, e _ _ hl, Nat.lt_of_le_of_lt hn (by decide), k v H' e rv⟩⟩
theorem h_sx {P : PD} (r : EnvR K H σ ds) (h : Sx K tz ds P) (m : Meets K H P Dn) : tz Dn σ H := h σ H Dn r m
end
/-! ### terms: plain -/
theorem mant_small {F c : Nat} (h : c < 2 ^ F) : mant F c = c := by
  unfold mant
  rw [if_pos (Nat.div_eq_of_lt h), Nat.mod_eq_of_lt h]
theorem val_mant (F c : Nat) : val F c = mant F c * 2 ^ expo F c := by
  unfold val mant expo
  by_cases h : c / 2 ^ F = 0
  · rw [if_pos h, if_pos h, h]
    have hd := Nat.div_add_mod c (2 ^ F)
    rw [h, Nat.mul_zero, Nat.zero_add] at hd
    rw [hd]
    simp
  · rw [if_neg h, if_neg h]
theorem mant_zero {F c : Nat} : mant F c = 0 ↔ c = 0 := by
  have hp := tp F
  have hd := Nat.div_add_mod c (2 ^ F)
  unfold mant
  constructor
  · intro h
    split at h
    · rename_i q
      rw [q, Nat.mul_zero] at hd
      omega
    · omega
  · intro h
    subst h
    simp
theorem termM_ok {E F : Nat} (z : Sz E F) {x : Nat × Nat} (h1 : x.1 ≤ 1) (h2 : x.2 ≤ last E F) : TmOk (termM E F x) := by
  unfold termM
  split
  · exact ⟨h1, tp _, by show (-100000 : Int) ≤ 0; decide, by show (0 : Int) ≤ 100000; decide⟩
  · have hb := pw_bd z (show x.2 < last E F by omega)
    exact ⟨h1, lt_up (mant_lt200 z) (by decide), by show -100000 ≤ pw E F x.2; omega, by show pw E F x.2 ≤ 100000; omega⟩
theorem termM_sort (E F : Nat) (x : Nat × Nat) : (termM E F x).sort ≤ 1 := by
  unfold termM
  split
  · exact Nat.le_refl 1
  · exact Nat.zero_le _
theorem prodM_ok {E F : Nat} (z : Sz E F) {x y : Nat × Nat} (h2 : x.2 ≤ last E F) (h4 : y.2 ≤ last E F) : TmOk (prodM E F x y) ∧ (prodM E F x y).sort ≤ 2 := by
  unfold prodM
  split
  · rename_i q
    have hb := pw_bd z (show x.2 < last E F by omega)
    have hc := pw_bd z (show y.2 < last E F by omega)
    exact ⟨⟨xs1_le _ _, lt_up (lt_mul (mant_lt200 z) (mant_lt200 z)) (by decide), by show -100000 ≤ pw E F x.2 + pw E F y.2; omega, by show pw E F x.2 + pw E F y.2 ≤ 100000; omega⟩, Nat.zero_le _⟩
  · split
    · exact ⟨⟨Nat.zero_le _, tp _, by show (-100000 : Int) ≤ 0; decide, by show (0 : Int) ≤ 100000; decide⟩, Nat.le_refl 2⟩
    · exact ⟨⟨xs1_le _ _, tp _, by show (-100000 : Int) ≤ 0; decide, by show (0 : Int) ≤ 100000; decide⟩, by show 1 ≤ 2; decide⟩
theorem so_fin (n : Nat) : sortS n = "finite" ↔ n = 0 := by
  unfold sortS
  split
  · simp
  · constructor
    · intro h; exact absurd h (by decide +kernel)
    · intro h; cases h
  · rename_i a b
    constructor
    · intro h; exact absurd h (by decide +kernel)
    · intro h; exact absurd h a
theorem so_end (n : Nat) : sortS n = "endless" ↔ n = 1 := by
  unfold sortS
  split
  · constructor
    · intro h; exact absurd h (by decide +kernel)
    · intro h; cases h
  · simp
  · rename_i a b
    constructor
    · intro h; exact absurd h (by decide +kernel)
    · intro h; exact absurd h b
theorem so_wrong {n : Nat} (hn : n ≤ 2) : sortS n = "wrong" ↔ n = 2 := by
  unfold sortS
  split
  · constructor
    · intro h; exact absurd h (by decide +kernel)
    · intro h; cases h
  · constructor
    · intro h; exact absurd h (by decide +kernel)
    · intro h; cases h
  · rename_i a b
    constructor
    · intro _; have a2 : ¬ n = 0 := a; have b2 : ¬ n = 1 := b; omega
    · intro _; rfl
def endsOf (ts : List Tm) : List Nat := (ts.filter fun t => decide (t.sort = 1)).map (·.s)
def finsOf (ts : List Tm) : List Tm := ts.filter fun t => decide (t.sort = 0)
theorem endsOf_snoc (ts : List Tm) (t : Tm) : endsOf (ts ++ [t]) = if t.sort = 1 then endsOf ts ++ [t.s] else endsOf ts := by
  unfold endsOf
  rw [List.filter_append, List.map_append, List.filter_cons, List.filter_nil]
  by_cases h : t.sort = 1
  · simp [h]
  · simp [h]
theorem finsOf_snoc (ts : List Tm) (t : Tm) : finsOf (ts ++ [t]) = if t.sort = 0 then finsOf ts ++ [t] else finsOf ts := by
  unfold finsOf
  rw [List.filter_append, List.filter_cons, List.filter_nil]
  by_cases h : t.sort = 0
  · simp [h]
  · simp [h]
section
variable {P : Program} {w : World} {K : PySem.W.Frag} {mg : Str → Option Value} {base : Heap} {C : Cs} {b : Bool} {fO : Addr} {fdO : FuncData}
theorem sc_kinds_of : FnScope ["size", "way", "numbers", "bits"] ["size", "way", "numbers"] (defScope s_kinds_of) := ⟨rfl, rfl, rfl, by decide +kernel, rfl, by decide +kernel, by decide +kernel⟩
theorem ok_kinds_of {f : Addr} {fd : FuncData} (F : FnP K "kinds_of" "kinds_of" s_kinds_of f fd) (c_way_of : Cal P w K mg base 3 "way_of" (spD K (gWay C))) (c_kind : Cal P w K mg base 3 "kind" (spD K gKind)) : FnOk P w K mg base CX0 4 f fd ["size", "way", "numbers"] (spD K gKinds) := by
  refine fn_okD F sc_kinds_of (fun ds d hg => ?_) fun cdv A outer s H E hr => ⟨_, (pss_cons (ps_expr (pe_c c_way_of hr rfl (pa_cons (pv 1) pa_nil)))
    (pss_one (ps_ret (pe_lc (own := [("bits", 3)]) (g := gName 3) (tt := tYes) rfl sc_kinds_of.nd (pi_list (pv 2)) (blkOk_by (own := [("bits", 3)]) (N := ["size", "way", "numbers", "bits"]) (sc := defScope s_kinds_of) (by decide +kernel)) (fun _ _ _ _ _ => pg_name (i := 3) sc_kinds_of.nd rfl (Or.inl rfl)) (fun _ _ _ _ _ => pts_nil) (fun _ _ _ _ _ => (pe_c c_kind hr rfl (pa_cons (pv 0) (pa_cons (pv 3) pa_nil)))))))), fun ds d hg => ?_⟩
  · obtain ⟨E, F, wy, xs, z, hl, hxs, rfl, rfl⟩ := hg
    rfl
  obtain ⟨E, F, wy, xs, z, hl, hxs, rfl, rfl⟩ := hg
  refine q_drop (ev_call (d := wayD C wy) ⟨wy, rfl, rfl⟩ (ea_cons (ev_var rfl) ea_nil)) ?_
  refine s_ret (Eva.is (ev_lc (xs := xs.map (btD E F)) (fun _ => true) (fun d => match d with | .int i => .str (kindS E F (i.toNat % top E F)) | _ => .non) (ev_var rfl) (by rw [List.length_map]; omega) (fun x hx => et_yes) (fun x hx _ => ?_) (fun x hx => ?_)) ?_) rfl
  · obtain ⟨y, hy, rfl⟩ := List.mem_map.mp hx
    have ho := hxs y hy
    show Eva K _ _ (.str (kindS E F (((bt E F y.1 y.2 : Nat) : Int).toNat % top E F)))
    rw [Int.toNat_natCast, bt_mod ho.2]
    exact ev_call ⟨E, F, y.1, y.2, z, ho.1, ho.2, rfl, rfl⟩ (ea_cons (ev_var rfl) (ea_cons (ev_var rfl) ea_nil))
  · obtain ⟨y, hy, rfl⟩ := List.mem_map.mp hx
    rfl
  · rw [pick_all, List.map_map]
    refine congrArg D.lst (List.map_congr_left fun y hy => ?_)
    show D.str (kindS E F (((bt E F y.1 y.2 : Nat) : Int).toNat % top E F)) = _
    rw [Int.toNat_natCast, bt_mod (hxs y hy).2]
theorem sc_gone_wrong : FnScope ["size"] ["size"] (defScope s_gone_wrong) := ⟨rfl, rfl, rfl, by decide +kernel, rfl, by decide +kernel, by decide +kernel⟩
theorem ok_gone_wrong {f : Addr} {fd : FuncData} (F : FnP K "gone_wrong" "gone_wrong" s_gone_wrong f fd) (c_no_number : Cal P w K mg base 2 "no_number" (spD K gNan)) (n_WRONG : ∃ t, mg "WRONG" = some (.int 16 t)) : FnOk P w K mg base CX0 3 f fd ["size"] (spD K gGone) := by
  obtain ⟨_, m_WRONG⟩ := n_WRONG
  refine fn_okD F sc_gone_wrong (fun ds d hg => ?_) fun cdv A outer s H E hr => ⟨_, (pss_one (ps_ret (pe_tup (pa_cons (pe_c c_no_number hr rfl (pa_cons (pv 0) pa_nil)) (pa_cons (pe_glob (v := .int 16) rfl m_WRONG ⟨_, rfl⟩) pa_nil))))), fun ds d hg => ?_⟩
  · obtain ⟨E, F, z, rfl, rfl⟩ := hg
    rfl
  obtain ⟨E, F, z, rfl, rfl⟩ := hg
  exact s_ret (ev_tup (ea_cons (ev_call (d := nD (nan E F)) ⟨E, F, z, rfl, rfl⟩ (ea_cons (ev_var rfl) ea_nil)) (ea_cons (ev_nat (n := 16)) ea_nil))) rfl
theorem sc_endless_with : FnScope ["size", "sign"] ["size", "sign"] (defScope s_endless_with) := ⟨rfl, rfl, rfl, by decide +kernel, rfl, by decide +kernel, by decide +kernel⟩
theorem ok_endless_with {f : Addr} {fd : FuncData} (F : FnP K "endless_with" "endless_with" s_endless_with f fd) (c_sign_bit : Cal P w K mg base 1 "sign_bit" (spD K gSign)) (c_endless : Cal P w K mg base 1 "endless" (spD K gEndless)) : FnOk P w K mg base CX0 2 f fd ["size", "sign"] (spD K gEndw) := by
  refine fn_okD F sc_endless_with (fun ds d hg => ?_) fun cdv A outer s H E hr => ⟨_, (pss_one (ps_ret (pe_op op_add (pe_op op_mulX (pv 1) (pe_c c_sign_bit hr rfl (pa_cons (pv 0) pa_nil))) (pe_c c_endless hr rfl (pa_cons (pv 0) pa_nil))))), fun ds d hg => ?_⟩
  · obtain ⟨E, F, s, z, hs, rfl, rfl⟩ := hg
    rfl
  obtain ⟨E, F, s, z, hs, rfl, rfl⟩ := hg
  exact s_ret (ev_op on_add (ev_op (on_mul (c_mul (s_lt hs (Nat.le_refl 1)) (top_lt z) (by decide))) (ev_var rfl) (ev_call (d := nD (top E F)) ⟨E, F, z, rfl, rfl⟩ (ea_cons (ev_var rfl) ea_nil))) (ev_call (d := nD (last E F)) ⟨E, F, z, rfl, rfl⟩ (ea_cons (ev_var rfl) ea_nil))) rfl
theorem sc_term_of : FnScope ["size", "bits", "sign", "whole", "power"] ["size", "bits"] (defScope s_term_of) := ⟨rfl, rfl, rfl, by decide +kernel, rfl, by decide +kernel, by decide +kernel⟩
theorem ok_term_of {f : Addr} {fd : FuncData} (F : FnP K "term_of" "term_of" s_term_of f fd) (c_kind : Cal P w K mg base 3 "kind" (spD K gKind)) (c_parted : Cal P w K mg base 2 "parted" (spD K gParted)) (c_worth : Cal P w K mg base 3 "worth" (spD K gWorth)) : FnOk P w K mg base CX0 4 f fd ["size", "bits"] (spD K gTerm) := by
  refine fn_okD F sc_term_of (fun ds d hg => ?_) fun cdv A outer s H E hr => ⟨_, (pss_cons (ps_if (pt_cmpR op_eq (pe_c c_kind hr rfl (pa_cons (pv 0) (pa_cons (pv 1) pa_nil))) pe_str (nomark _)) (pss_one (ps_ret (pe_tup (pa_cons pe_str (pa_cons (pe_ix (r := rIxT K) ix_tup (pe_c c_parted hr rfl (pa_cons (pv 0) (pa_cons (pv 1) pa_nil))) pe_int (fun _ _ => rfl)) (pa_cons pe_int (pa_cons pe_int pa_nil))))))) pss_nil)
    (pss_cons (ps_asg (pe_c c_worth hr rfl (pa_cons (pv 0) (pa_cons (pv 1) pa_nil))) (pg_tup rfl (pgs_cons (pg_name (i := 2) sc_term_of.nd rfl (Or.inl rfl)) (pgs_cons (pg_name (i := 3) sc_term_of.nd rfl (Or.inl rfl)) (pgs_cons (pg_name (i := 4) sc_term_of.nd rfl (Or.inl rfl)) pgs_nil)))))
    (pss_one (ps_ret (pe_tup (pa_cons pe_str (pa_cons (pv 2) (pa_cons (pv 3) (pa_cons (pv 4) pa_nil))))))))), fun ds d hg => ?_⟩
  · obtain ⟨E, F, x, z, h1, h2, rfl, rfl⟩ := hg
    rfl
  obtain ⟨E, F, x, z, h1, h2, rfl, rfl⟩ := hg
  have hl := last_lt z
  refine q_when (et_test (ev_op o_eqS (ev_call (d := .str (kindS E F x.2)) ⟨E, F, x.1, x.2, z, h1, by omega, rfl, rfl⟩ (ea_cons (ev_var rfl) (ea_cons (ev_var rfl) ea_nil))) ev_str)) (fun h => ?_) (fun h => ?_)
  · have e := (kind_end z (show x.2 < top E F by omega)).mp h
    refine s_ret (ev_tup (ea_cons ev_str (ea_cons (ev_op (o_ixT rfl) (ev_call (d := .tup [nD x.1, nD (x.2 / 2 ^ F), nD (x.2 % 2 ^ F)]) ⟨E, F, x.1, x.2, z, h1, by omega, rfl, rfl⟩ (ea_cons (ev_var rfl) (ea_cons (ev_var rfl) ea_nil))) (ev_nat (n := 0))) (ea_cons (ev_nat (n := 0)) (ea_cons (ev_nat (n := 0)) ea_nil))))) ?_
    show _ = tmD (termM E F x)
    unfold termM
    rw [if_pos e]
    rfl
  · have e : ¬ x.2 = last E F := fun q => h ((kind_end z (show x.2 < top E F by omega)).mpr q)
    refine q_asgT (ev_call (d := .tup [nD x.1, nD (mant F x.2), .int (pw E F x.2)]) ⟨E, F, x.1, x.2, z, h1, by omega, rfl, rfl⟩ (ea_cons (ev_var rfl) (ea_cons (ev_var rfl) ea_nil))) (tg_tup (tgs_cons tg_name (tgs_cons tg_name (tgs_cons tg_name tgs_nil)))) ?_
    refine s_ret (ev_tup (ea_cons ev_str (ea_cons (ev_var rfl) (ea_cons (ev_var rfl) (ea_cons (ev_var rfl) ea_nil))))) ?_
    show _ = tmD (termM E F x)
    unfold termM
    rw [if_neg e]
    rfl
theorem sc_product_term : FnScope ["size", "a", "b", "one", "two", "sign", "term"] ["size", "a", "b"] (defScope s_product_term) := ⟨rfl, rfl, rfl, by decide +kernel, rfl, by decide +kernel, by decide +kernel⟩
theorem ok_product_term {f : Addr} {fd : FuncData} (F : FnP K "product_term" "product_term" s_product_term f fd) (c_term_of : Cal P w K mg base 4 "term_of" (spD K gTerm)) : FnOk P w K mg base CX0 5 f fd ["size", "a", "b"] (spD K gProd) := by
  refine fn_okD F sc_product_term (fun ds d hg => ?_) fun cdv A outer s H E hr => ⟨_, (pss_cons (ps_set (i := 3) sc_product_term.nd rfl (Or.inl rfl) (pe_c c_term_of hr rfl (pa_cons (pv 0) (pa_cons (pv 1) pa_nil))))
    (pss_cons (ps_set (i := 4) sc_product_term.nd rfl (Or.inl rfl) (pe_c c_term_of hr rfl (pa_cons (pv 0) (pa_cons (pv 2) pa_nil))))
    (pss_cons (ps_set (i := 5) sc_product_term.nd rfl (Or.inl rfl) (pe_op op_xor (pe_ix (r := rIxT K) ix_tup (pv 3) pe_int (fun _ _ => rfl)) (pe_ix (r := rIxT K) ix_tup (pv 4) pe_int (fun _ _ => rfl))))
    (pss_cons (ps_if (PW.pt (pw_and (pt_cmpR op_eq (pe_ix (r := rIxT K) ix_tup (pv 3) pe_int (fun _ _ => rfl)) pe_str (nomark _)) (pw_and1 (pt_cmpR op_eq (pe_ix (r := rIxT K) ix_tup (pv 4) pe_int (fun _ _ => rfl)) pe_str (nomark _))))) (pss_one (ps_ret (pe_tup (pa_cons pe_str (pa_cons (pv 5) (pa_cons (pe_op op_mulX (pe_ix (r := rIxT K) ix_tup (pv 3) pe_int (fun _ _ => rfl)) (pe_ix (r := rIxT K) ix_tup (pv 4) pe_int (fun _ _ => rfl))) (pa_cons (pe_op op_add (pe_ix (r := rIxT K) ix_tup (pv 3) pe_int (fun _ _ => rfl)) (pe_ix (r := rIxT K) ix_tup (pv 4) pe_int (fun _ _ => rfl))) pa_nil))))))) pss_nil)
    (pss_cons (ps_for PassesOwn.never rfl (pi_list (pe_lst (pa_cons (pv 3) (pa_cons (pv 4) pa_nil)))) (pg_name (i := 6) sc_product_term.nd rfl (Or.inl rfl)) (pss_one (ps_if (PW.pt (pw_and (pt_cmpR op_eq (pe_ix (r := rIxT K) ix_tup (pv 6) pe_int (fun _ _ => rfl)) pe_str (nomark _)) (pw_and1 (pt_cmpR op_eq (pe_ix (r := rIxT K) ix_tup (pv 6) pe_int (fun _ _ => rfl)) pe_int (nomark _))))) (pss_one (ps_ret (pe_tup (pa_cons pe_str (pa_cons pe_int (pa_cons pe_int (pa_cons pe_int pa_nil))))))) pss_nil)))
    (pss_one (ps_ret (pe_tup (pa_cons pe_str (pa_cons (pv 5) (pa_cons pe_int (pa_cons pe_int pa_nil)))))))))))), fun ds d hg => ?_⟩
  · obtain ⟨E, F, x, y, z, h1, h2, h3, h4, rfl, rfl⟩ := hg
    rfl
  obtain ⟨E, F, x, y, z, h1, h2, h3, h4, rfl, rfl⟩ := hg
  have hl := last_lt z
  have so1 : (termM E F x).sort = 0 ↔ x.2 ≠ last E F := by
    unfold termM
    split <;> rename_i q
    · simp [q]
    · simp [q]
  have so2 : (termM E F y).sort = 0 ↔ y.2 ≠ last E F := by
    unfold termM
    split <;> rename_i q
    · simp [q]
    · simp [q]
  have sg1 : (termM E F x).s = x.1 := by unfold termM; split <;> rfl
  have sg2 : (termM E F y).s = y.1 := by unfold termM; split <;> rfl
  have ok1 := termM_ok z h1 h2
  have ok2 := termM_ok z h3 h4
  have w1 : (termM E F x).sort = 0 → (termM E F x).w = mant F x.2 ∧ (termM E F x).p = pw E F x.2 := fun q => by
    have q2 := so1.mp q
    unfold termM
    rw [if_neg q2]
    exact ⟨rfl, rfl⟩
  have w2 : (termM E F y).sort = 0 → (termM E F y).w = mant F y.2 ∧ (termM E F y).p = pw E F y.2 := fun q => by
    have q2 := so2.mp q
    unfold termM
    rw [if_neg q2]
    exact ⟨rfl, rfl⟩
  refine q_asg (ev_call (d := tmD (termM E F x)) ⟨E, F, x, z, h1, h2, rfl, rfl⟩ (ea_cons (ev_var rfl) (ea_cons (ev_var rfl) ea_nil))) ?_
  refine q_asg (ev_call (d := tmD (termM E F y)) ⟨E, F, y, z, h3, h4, rfl, rfl⟩ (ea_cons (ev_var rfl) (ea_cons (ev_var rfl) ea_nil))) ?_
  generalize termM E F x = t1 at *
  generalize termM E F y = t2 at *
  refine q_asg (Eva.is (d' := nD (xs1 x.1 y.1)) (ev_op on_xor (ev_op (o_ixT rfl) (ev_var rfl) (ev_nat (n := 1))) (ev_op (o_ixT rfl) (ev_var rfl) (ev_nat (n := 1)))) (congrArg nD (by rw [sg1, sg2, xorN01 h1 h3]))) ?_
  have hb : (decide (sortS t1.sort = "finite") && decide (sortS t2.sort = "finite")) = decide (x.2 ≠ last E F ∧ y.2 ≠ last E F) := by
    rw [← Bool.decide_and]
    exact decide_eq_decide.mpr (by rw [so_fin, so_fin, so1, so2])
  show Sx K _ _ { nx := _, rt := fun d' => d' = tmD (prodM E F x y) }
  unfold prodM
  refine q_when (EvT.is (et_and (et_test (ev_op o_eqS (ev_op (o_ixT rfl) (ev_var rfl) (ev_nat (n := 0))) ev_str)) fun _ => (et_test (ev_op o_eqS (ev_op (o_ixT rfl) (ev_var rfl) (ev_nat (n := 0))) ev_str))) hb) (fun h => ?_) (fun h => ?_)
  · rw [if_pos h]
    obtain ⟨a1, a2⟩ := w1 (so1.mpr h.1)
    obtain ⟨b1, b2⟩ := w2 (so2.mpr h.2)
    refine s_ret (ev_tup (ea_cons ev_str (ea_cons (ev_var rfl) (ea_cons (ev_op (on_mul (c_mul ok1.w ok2.w (by decide))) (ev_op (o_ixT rfl) (ev_var rfl) (ev_nat (n := 2))) (ev_op (o_ixT rfl) (ev_var rfl) (ev_nat (n := 2)))) (ea_cons (ev_op o_add (ev_op (o_ixT rfl) (ev_var rfl) (ev_nat (n := 3))) (ev_op (o_ixT rfl) (ev_var rfl) (ev_nat (n := 3)))) ea_nil))))) ?_
    rw [a1, a2, b1, b2]
    rfl
  rw [if_neg h]
  have nz1 : (t1.sort = 0 ∧ t1.w = 0) ↔ (x.2 ≠ last E F ∧ x.2 = 0) := by
    constructor
    · rintro ⟨q1, q2⟩
      rw [(w1 q1).1] at q2
      exact ⟨so1.mp q1, mant_zero.mp q2⟩
    · rintro ⟨q1, q2⟩
      have q3 := so1.mpr q1
      exact ⟨q3, by rw [(w1 q3).1]; exact mant_zero.mpr q2⟩
  have nz2 : (t2.sort = 0 ∧ t2.w = 0) ↔ (y.2 ≠ last E F ∧ y.2 = 0) := by
    constructor
    · rintro ⟨q1, q2⟩
      rw [(w2 q1).1] at q2
      exact ⟨so2.mp q1, mant_zero.mp q2⟩
    · rintro ⟨q1, q2⟩
      have q3 := so2.mpr q1
      exact ⟨q3, by rw [(w2 q3).1]; exact mant_zero.mpr q2⟩
  have hlg := last_ge z
  have hp := tp F
  refine s_seq (s_for (xs := [tmD t1, tmD t2]) (ev_lst (ea_cons (ev_var rfl) (ea_cons (ev_var rfl) ea_nil))) (fun i ds' => ∃ x6 : Option D, ds' = [some (sz E F), some (btD E F x), some (btD E F y), some (tmD t1), some (tmD t2), some (nD (xs1 x.1 y.1)), x6] ∧ (1 ≤ i → ¬ x.2 = 0) ∧ (2 ≤ i → ¬ y.2 = 0)) ⟨none, rfl, fun q => by omega, fun q => by omega⟩ (fun i d ds' hi hw => ?_) fun ds' hw => ?_)
  · obtain ⟨x6, rfl, k1, k2⟩ := hw
    have h01 : (i = 0 ∧ d = tmD t1) ∨ (i = 1 ∧ d = tmD t2) := by
      match i, hi with
      | 0, hi => exact .inl ⟨rfl, (Option.some.inj hi).symm⟩
      | 1, hi => exact .inr ⟨rfl, (Option.some.inj hi).symm⟩
    obtain ⟨t, ht, hd⟩ : ∃ t : Tm, d = tmD t ∧ ((i = 0 ∧ t = t1) ∨ (i = 1 ∧ t = t2)) := by
      rcases h01 with ⟨a, c⟩ | ⟨a, c⟩
      · exact ⟨t1, c, .inl ⟨a, rfl⟩⟩
      · exact ⟨t2, c, .inr ⟨a, rfl⟩⟩
    subst ht
    refine ⟨_, tg_name, ?_⟩
    have hb2 : (decide (sortS t.sort = "finite") && decide (t.w = 0)) = decide (t.sort = 0 ∧ t.w = 0) := by
      rw [← Bool.decide_and]
      exact decide_eq_decide.mpr (by rw [so_fin])
    refine s_if (EvT.is (et_and (et_test (ev_op o_eqS (ev_op (o_ixT rfl) (ev_var rfl) (ev_nat (n := 0))) ev_str)) fun _ => (et_test (ev_op on_eq (ev_op (o_ixT rfl) (ev_var rfl) (ev_nat (n := 2))) (ev_nat (n := 0))))) hb2) (fun h5 => ?_) (fun h5 => ?_)
    · have hz : x.2 = 0 ∨ y.2 = 0 := by
        rcases hd with ⟨_, rfl⟩ | ⟨_, rfl⟩
        · exact .inl (nz1.mp h5).2
        · exact .inr (nz2.mp h5).2
      refine s_ret (ev_tup (ea_cons ev_str (ea_cons (ev_nat (n := 0)) (ea_cons (ev_nat (n := 0)) (ea_cons (ev_nat (n := 0)) ea_nil))))) ?_
      show _ = tmD (if _ then _ else _)
      rw [if_pos hz]
      rfl
    · refine s_next ⟨_, rfl, fun q => ?_, fun q => ?_⟩
      · rcases hd with ⟨_, rfl⟩ | ⟨hi1, _⟩
        · intro q2
          exact h5 (nz1.mpr ⟨by omega, q2⟩)
        · exact k1 (by omega)
      · rcases hd with ⟨hi0, _⟩ | ⟨_, rfl⟩
        · omega
        · intro q2
          exact h5 (nz2.mpr ⟨by omega, q2⟩)
  · obtain ⟨x6, rfl, k1, k2⟩ := hw
    have n1 := k1 (Nat.le_of_ble_eq_true rfl)
    have n2 := k2 (Nat.le_of_ble_eq_true rfl)
    rw [if_neg (by omega)]
    exact s_ret (ev_tup (ea_cons ev_str (ea_cons (ev_var rfl) (ea_cons (ev_nat (n := 0)) (ea_cons (ev_nat (n := 0)) ea_nil))))) rfl
theorem sc_sum_of_terms : FnScope ["size", "way", "terms", "signs", "worths", "sort", "sign", "whole", "power"] ["size", "way", "terms"] (defScope s_sum_of_terms) := ⟨rfl, rfl, rfl, by decide +kernel, rfl, by decide +kernel, by decide +kernel⟩
theorem ok_sum_of_terms {f : Addr} {fd : FuncData} (F : FnP K "sum_of_terms" "sum_of_terms" s_sum_of_terms f fd) (c_gone_wrong : Cal P w K mg base 3 "gone_wrong" (spD K gGone)) (c_endless_with : Cal P w K mg base 2 "endless_with" (spD K gEndw)) (c_settled_total : Cal P w K mg base 6 "settled_total" (spD K gStot)) (b_len : mg "len" = none) : FnOk P w K mg base CX0 7 f fd ["size", "way", "terms"] (spD K gSumT) := by
  refine fn_okD F sc_sum_of_terms (fun ds d hg => ?_) fun cdv A outer s H E hr => ⟨_, (pss_cons (ps_set (i := 3) sc_sum_of_terms.nd rfl (Or.inl rfl) (pe_lst pa_nil))
    (pss_cons (ps_set (i := 4) sc_sum_of_terms.nd rfl (Or.inl rfl) (pe_lst pa_nil))
    (pss_cons (ps_for PassesOwn.never rfl (pi_list (pv 2)) (pg_tup rfl (pgs_cons (pg_name (i := 5) sc_sum_of_terms.nd rfl (Or.inl rfl)) (pgs_cons (pg_name (i := 6) sc_sum_of_terms.nd rfl (Or.inl rfl)) (pgs_cons (pg_name (i := 7) sc_sum_of_terms.nd rfl (Or.inl rfl)) (pgs_cons (pg_name (i := 8) sc_sum_of_terms.nd rfl (Or.inl rfl)) pgs_nil))))) (pss_cons (ps_if (pt_cmpR op_eq (pv 5) pe_str (nomark _)) (pss_one (ps_ret (pe_c c_gone_wrong hr rfl (pa_cons (pv 0) pa_nil)))) pss_nil)
    (pss_cons (ps_if (pt_cmpR op_eq (pv 5) pe_str (nomark _)) (pss_cons (ps_expr (pe_bm PySem.F.plainAttrs_list PySem.F.slot_list_append PySem.F.type_list_append mt_append (pv 3) (pa_cons (pv 6) pa_nil)))
    (pss_one ps_continue)) pss_nil)
    (pss_one (ps_expr (pe_bm PySem.F.plainAttrs_list PySem.F.slot_list_append PySem.F.type_list_append mt_append (pv 4) (pa_cons (pe_tup (pa_cons (pv 6) (pa_cons (pv 7) (pa_cons (pv 8) pa_nil)))) pa_nil)))))))
    (pss_cons (ps_if (PW.pt (pw_and (pt_cmpR op_in_seq pe_int (pv 3) (by with_unfolding_all rfl)) (pw_and1 (pt_cmpR op_in_seq pe_int (pv 3) (by with_unfolding_all rfl))))) (pss_one (ps_ret (pe_c c_gone_wrong hr rfl (pa_cons (pv 0) pa_nil)))) pss_nil)
    (pss_cons (ps_if (pt_cmpR op_gt (pe_callB call_len_seq (by rfl) b_len (by decide +kernel) (pa_cons (pv 3) pa_nil)) pe_int (nomark _)) (pss_one (ps_ret (pe_tup (pa_cons (pe_c c_endless_with hr rfl (pa_cons (pv 0) (pa_cons (pe_ix (r := rIxL K) ix_list (pv 3) pe_int (fun _ _ => rfl)) pa_nil))) (pa_cons pe_int pa_nil))))) pss_nil)
    (pss_one (ps_ret (pe_c c_settled_total hr rfl (pa_cons (pv 0) (pa_cons (pv 1) (pa_cons (pv 4) pa_nil))))))))))), fun ds d hg => ?_⟩
  · obtain ⟨E, F, wy, ts, z, h0, hl, hts, rfl, rfl⟩ := hg
    rfl
  obtain ⟨E, F, wy, ts, z, h0, hl, hts, rfl, rfl⟩ := hg
  intro σ H Dn e m
  obtain ⟨v2, hv2, rv2⟩ := e.2 2 _ rfl
  cases rv2 with
  | @lst p tv _ hq rl =>
  have hlen := rl.length
  rw [List.length_map] at hlen
  refine ⟨Nat.zero_le _, fun l3 h3 => ?_⟩
  have e1 : Ex H (upd H l3 (.lst [])) := Ex.new h3
  refine ⟨Nat.zero_le _, fun l4 h4 => ?_⟩
  have n34 : l4 ≠ l3 := fun q => by rw [q, upd_same] at h4; cases h4
  have h4' : H l4 = none := by rw [upd_ne n34] at h4; exact h4
  have e2 : Ex H (upd (upd H l3 (.lst [])) l4 (.lst [])) := e1.trans (Ex.new h4)
  have env0 : EnvR K (upd (upd H l3 (.lst [])) l4 (.lst [])) ((σ.set 3 (some (.ref l3))).set 4 (some (.ref l4))) [some (sz E F), some (.str (wn wy)), some (.raw (.ref p)), some (.raw (.ref l3)), some (.raw (.ref l4)), none, none, none, none] :=
    ((((e.tell (d := .raw (.ref p)) hv2 (.raw _)).mono e2).set 3 (.raw (.ref l3))).set 4 (.raw (.ref l4)))
  refine ⟨_, (show ((σ.set 3 (some (V.ref l3))).set 4 (some (V.ref l4)))[2]? = some (some (V.ref p)) from env0.at rfl), p, rfl, ⟨tv, ex_l e2 hq⟩, for_list (K := K) (a := p) (xs := tv) (fun i σ' H' => ∃ vs4, Ex H H' ∧ EnvR K H' σ' [some (sz E F), some (.str (wn wy)), some (.raw (.ref p)), some (.raw (.ref l3)), some (.raw (.ref l4)), none, none, none, none] ∧
    H' l3 = some (.lst ((endsOf (ts.take i)).map fun s => V.int ((s : Nat) : Int))) ∧ H' l4 = some (.lst vs4) ∧ RepL K H' vs4 ((finsOf (ts.take i)).map worD) ∧ ∀ t ∈ ts.take i, t.sort ≠ 2) ⟨[], e2, env0, ?_, upd_same, .nil, fun t h => by simp at h⟩ (fun i σ' H' _ q => by obtain ⟨_, e3, _⟩ := q; exact ex_l e3 hq) (fun i x σ' H' hx q => ?_) fun σ' H' q => ?_⟩
  · rw [upd_ne n34.symm, upd_same]
    rfl
  · obtain ⟨vs4, e3, r3, a3, a4, a5, a6⟩ := q
    have hi : i < ts.length := by
      have := (List.getElem?_eq_some_iff.mp hx).1
      omega
    have hti : ts[i]? = some ts[i] := List.getElem?_eq_getElem hi
    have htm : (ts.map tmD)[i]? = some (tmD ts[i]) := by rw [List.getElem?_map, hti]; rfl
    obtain ⟨v, g1, g2⟩ := rl.get htm
    rw [hx] at g1
    have ev := Option.some.inj g1
    subst ev
    have tk := take_snoc hti
    have hok := hts ts[i] (List.getElem_mem hi)
    have len3 : (endsOf (ts.take i)).length ≤ 10 := by
      unfold endsOf
      rw [List.length_map]
      have q1 := List.length_filter_le (fun t : Tm => decide (t.sort = 1)) (ts.take i)
      have q2 : (ts.take i).length ≤ ts.length := by rw [List.length_take]; omega
      omega
    have len4 : vs4.length ≤ 10 := by
      rw [a5.length, List.length_map]
      unfold finsOf
      have q1 := List.length_filter_le (fun t : Tm => decide (t.sort = 0)) (ts.take i)
      have q2 : (ts.take i).length ≤ ts.length := by rw [List.length_take]; omega
      omega
    rw [tk, endsOf_snoc, finsOf_snoc]
    generalize ts[i] = t at *
    refine (tg_tup (tgs_cons tg_name (tgs_cons tg_name (tgs_cons tg_name (tgs_cons tg_name tgs_nil))))) _ σ' H' (g2.mono e3) r3 _ fun σ2 r4 => ?_
    refine h_when (x := decide (t.sort = 2)) r4 (EvT.is (et_test (ev_op o_eqS (ev_var rfl) ev_str)) (decide_eq_decide.mpr (so_wrong hok.2))) (fun hb H4 e4 => ?_) (fun hb H4 e4 => ?_)
    · refine (ev_call (g := gGone) (d := prD (nan E F, 16)) ⟨E, F, z, rfl, rfl⟩ (ea_cons (ev_var rfl) ea_nil)) σ2 H4 (r4.mono e4) _ fun v H5 e5 r5 => m.rt v H5 _ ((e3.trans e4).trans e5) r5 ?_
      show _ = prD (sumT E F wy ts)
      unfold sumT
      rw [if_pos ⟨t, List.mem_of_getElem? hti, of_decide_eq_true hb⟩]
    have nw : ∀ u ∈ ts.take i ++ [t], u.sort ≠ 2 := fun u hu => by
      rcases List.mem_append.mp hu with hu | hu
      · exact a6 u hu
      · rw [List.mem_singleton.mp hu]
        exact of_decide_eq_false hb
    refine h_when (x := decide (t.sort = 1)) (r4.mono e4) (EvT.is (et_test (ev_op o_eqS (ev_var rfl) ev_str)) (decide_eq_decide.mpr (so_end t.sort))) (fun hc H5 e5 => ?_) (fun hc H5 e5 => ?_)
    · have e45 := e4.trans e5
      have hs1 : t.sort = 1 := of_decide_eq_true hc
      refine h_app (d := nD t.s) (r4.mono e45) (r4.at rfl) (e45 _ _ a3) (by rw [List.length_map]; omega) (ev_var rfl) fun v H6 e6 r6 => ?_
      have e456 := e45.trans e6
      cases r6
      refine ⟨vs4, Ex.mut (e3.trans e456) h3, ?_, ?_, ?_, ?_, nw⟩
      · exact ((((r4.mono e456).updl (e456 _ _ a3) rfl).drop 5).drop 6 |>.drop 7).drop 8
      · rw [upd_same, if_pos hs1, List.map_append]
        rfl
      · rw [upd_ne n34]
        exact e456 _ _ a4
      · rw [if_neg (by omega)]
        refine RepL.updl (e456 _ _ a3) ?_ (a5.mono e456)
        rw [List.all_map]
        exact List.all_eq_true.mpr fun _ _ => rfl
    · have e45 := e4.trans e5
      have hs1 : ¬ t.sort = 1 := of_decide_eq_false hc
      have hs2 : ¬ t.sort = 2 := of_decide_eq_false hb
      have hs0 : t.sort = 0 := by have := hok.2; omega
      refine h_app (d := worD t) (r4.mono e45) (r4.at rfl) (e45 _ _ a4) (by omega) (ev_tup (ea_cons (ev_var rfl) (ea_cons (ev_var rfl) (ea_cons (ev_var rfl) ea_nil)))) fun v H6 e6 r6 => ?_
      have e456 := e45.trans e6
      refine ⟨vs4 ++ [v], Ex.mut (e3.trans e456) h4', ?_, ?_, upd_same, ?_, nw⟩
      · exact ((((r4.mono e456).updl (e456 _ _ a4) rfl).drop 5).drop 6 |>.drop 7).drop 8
      · rw [upd_ne n34.symm, if_neg hs1]
        exact e456 _ _ a3
      · rw [if_pos hs0, List.map_append]
        refine RepL.updl (e456 _ _ a4) ?_ (RepL.app r6 (a5.mono e456))
        rw [List.all_append, List.all_map, Bool.and_eq_true]
        exact ⟨List.all_eq_true.mpr fun _ _ => rfl, rfl⟩
  · obtain ⟨vs4, e3, r3, a3, a4, a5, a6⟩ := q
    rw [hlen, List.take_length] at a3 a5 a6
    have rep3 : Rep K H' (.ref l3) (.lst ((endsOf ts).map fun (s : Nat) => nD s)) := by
      refine .lst (SqL.of a3) ?_
      generalize endsOf ts = ns
      induction ns with
      | nil => exact .nil
      | cons n ns ih => exact .cons (.int _) ih
    have r5 := (r3.tell (r3.at (i := 3) rfl) rep3).tell (r3.at (i := 4) rfl) (.lst (SqL.of a4) a5)
    show (tSeq _ _ : TS) Dn σ' H'
    refine h_sx r5 ?_ (m.mono e3)
    have nw : ¬ ∃ t ∈ ts, t.sort = 2 := fun ⟨t, q1, q2⟩ => a6 t q1 q2
    have es : sumT E F wy ts = (if 0 ∈ endsOf ts ∧ 1 ∈ endsOf ts then (nan E F, 16) else if endsOf ts ≠ [] then (bt E F ((endsOf ts).headD 0) (last E F), 0) else stot E F wy (finsOf ts)) := by
      unfold sumT
      rw [if_neg nw]
      rfl
    rw [es]
    clear es
    have es1 : ∀ s ∈ endsOf ts, s ≤ 1 := fun s hs => by
      obtain ⟨t, ht, rfl⟩ := List.mem_map.mp hs
      exact (hts t (List.mem_filter.mp ht).1).1.s1
    have fall : endsOf ts = [] → finsOf ts ≠ [] := fun q q2 => by
      cases ts with
      | nil => exact h0 rfl
      | cons t tr =>
        have h1 := hts t List.mem_cons_self
        have h2 := a6 t List.mem_cons_self
        have h3 : t.sort ≠ 1 := fun q3 => by
          have : t.s ∈ endsOf (t :: tr) := List.mem_map.mpr ⟨t, List.mem_filter.mpr ⟨List.mem_cons_self, decide_eq_true q3⟩, rfl⟩
          rw [q] at this
          cases this
        have h4 : t ∈ finsOf (t :: tr) := List.mem_filter.mpr ⟨List.mem_cons_self, decide_eq_true (by have := h1.2; omega)⟩
        rw [q2] at h4
        cases h4
    have fok : ∀ t ∈ finsOf ts, TmOk t := fun t ht => (hts t (List.mem_filter.mp ht).1).1
    have flen : (finsOf ts).length ≤ 10 := Nat.le_trans (List.length_filter_le _ _) hl
    generalize finsOf ts = fs at *
    generalize endsOf ts = ss at *
    have hb : (decide (0 ∈ ss) && decide (1 ∈ ss)) = decide (0 ∈ ss ∧ 1 ∈ ss) := by
      by_cases p : 0 ∈ ss <;> by_cases q : 1 ∈ ss <;> simp [p, q]
    rw [map_nD]
    refine q_when (EvT.is (et_and (EvT.is (et_test (ev_op o_inI (ev_nat (n := 0)) (ev_var rfl))) (dec_cast 0 ss)) fun _ => EvT.is (et_test (ev_op o_inI (ev_nat (n := 1)) (ev_var rfl))) (dec_cast 1 ss)) hb) (fun h => ?_) (fun h => ?_)
    · rw [if_pos h]
      exact s_ret (ev_call (d := prD (nan E F, 16)) ⟨E, F, z, rfl, rfl⟩ (ea_cons (ev_var rfl) ea_nil)) rfl
    rw [if_neg h]
    refine q_when (et_test (ev_op on_gt (ev_cb c_lenL (ea_cons (ev_var rfl) ea_nil)) (ev_nat (n := 0)))) (fun h => ?_) (fun h => ?_)
    · rw [List.length_map, List.length_map] at h
      cases ss with
      | nil => exact absurd h (by decide)
      | cons s0 sr =>
        rw [if_pos (List.cons_ne_nil _ _)]
        exact s_ret (ev_tup (ea_cons (ev_call (d := nD (bt E F s0 (last E F))) ⟨E, F, s0, z, es1 s0 List.mem_cons_self, rfl, rfl⟩ (ea_cons (ev_var rfl) (ea_cons (ev_op (o_ixL atI0) (ev_var rfl) (ev_nat (n := 0))) ea_nil))) (ea_cons (ev_nat (n := 0)) ea_nil))) rfl
    · rw [List.length_map, List.length_map] at h
      have q := List.eq_nil_of_length_eq_zero (Nat.eq_zero_of_not_pos h)
      rw [if_neg (show ¬ ss ≠ [] from fun k => k q)]
      exact s_ret (ev_call (d := prD (stot E F wy fs)) ⟨E, F, wy, fs, z, fall q, flen, fok, rfl, rfl⟩ (ea_cons (ev_var rfl) (ea_cons (ev_var rfl) (ea_cons (ev_var rfl) ea_nil)))) rfl
end
end RM
set_option Elab.async false
set_option linter.all false
set_option maxRecDepth 100000
set_option maxHeartbeats 2000000
namespace RM
open PySem PySem.Spec PyProof.Rows L2
theorem kind_cases (E F c : Nat) : kindS E F c = "endless" ∨ kindS E F c = "none" ∨ kindS E F c = "plain" ∨ kindS E F c = "nought" ∨ kindS E F c = "faint" := by
  unfold kindS
  split
  · split
    · exact .inl rfl
    · exact .inr (.inl rfl)
  · split
    · exact .inr (.inr (.inl rfl))
    · split
      · exact .inr (.inr (.inr (.inl rfl)))
      · exact .inr (.inr (.inr (.inr rfl)))
theorem shaped2 (E F c c' : Nat) : SeqAt.shaped (.list ([kindS E F c, kindS E F c'].map PyData.str)) = true := by
  rcases kind_cases E F c with h | h | h | h | h <;> rcases kind_cases E F c' with h2 | h2 | h2 | h2 | h2 <;> rw [h, h2] <;> decide +kernel
theorem none2 {E F : Nat} (z : Sz E F) {x y : Nat × Nat} (hx : okB E F x) (hy : okB E F y) : decide (("none" : Str) ∈ [kindS E F x.2, kindS E F y.2]) = decide (last E F < x.2 ∨ last E F < y.2) := by
  refine decide_eq_decide.mpr ?_
  rw [← kind_none z hx.2, ← kind_none z hy.2]
  simp [eq_comm]
theorem none3 {E F : Nat} (z : Sz E F) {x y v : Nat × Nat} (hx : okB E F x) (hy : okB E F y) (hv : okB E F v) : decide (("none" : Str) ∈ [kindS E F x.2, kindS E F y.2, kindS E F v.2]) = decide (last E F < x.2 ∨ last E F < y.2 ∨ last E F < v.2) := by
  refine decide_eq_decide.mpr ?_
  rw [← kind_none z hx.2, ← kind_none z hy.2, ← kind_none z hv.2]
  simp [eq_comm]
theorem atI1 {α : Type} {x y : α} {xs : List α} : atI (x :: y :: xs) ((1 : Nat) : Int) = some y := by
  have h := atI_nat (xs := x :: y :: xs) (j := 1) (v := y) rfl
  exact h
theorem frac_val {E F c : Nat} : mant F c * up (pw E F c) * 2 ^ st E F = val F c * dn (pw E F c) := by
  have h := updn (p := pw E F c) (n := st E F) (m := expo F c) (by unfold pw; omega)
  rw [val_mant, Nat.mul_assoc, Nat.mul_comm (up _), ← h, Nat.mul_assoc, Nat.mul_comm (2 ^ expo F c)]
def KU : Nat := 33000
def KD : Nat := 16500
theorem KU_v : KU = 33000 := rfl
theorem KD_v : KD = 16500 := rfl
theorem fr_up {E F c : Nat} (z : Sz E F) (hc : c < last E F) : mant F c * up (pw E F c) < 2 ^ KU := by
  have h := pw_bd z hc
  exact up_lt (mant_lt200 z) (by rw [KU_v]; omega)
theorem fr_dn {E F c : Nat} (z : Sz E F) (hc : c < last E F) : dn (pw E F c) < 2 ^ KD := by
  have h := pw_bd z hc
  exact pow_lt (by rw [KD_v]; omega)
theorem wholeM_le (wy : W5) (s a b : Nat) : wholeM wy s a b ≤ a / b + 1 := by
  unfold wholeM
  by_cases h : a % b = 0
  · rw [if_pos h]
    exact Nat.le_succ _
  · rw [if_neg h]
    by_cases h2 : grows wy s (decide (a / b % 2 = 1)) (if 2 * (a % b) < b then 1 else if b < 2 * (a % b) then 3 else 2) = true
    · rw [if_pos h2]
      exact Nat.le_refl _
    · rw [if_neg h2]
      exact Nat.le_succ _
section
variable {P : Program} {w : World} {K : PySem.W.Frag} {mg : Str → Option Value} {base : Heap} {C : Cs} {b : Bool} {fO : Addr} {fdO : FuncData}
theorem sc_added : FnScope ["size", "way", "a", "b"] ["size", "way", "a", "b"] (defScope s_added) := ⟨rfl, rfl, rfl, by decide +kernel, rfl, by decide +kernel, by decide +kernel⟩
theorem ok_added {f : Addr} {fd : FuncData} (F : FnP K "added" "added" s_added f fd) (c_kinds_of : Cal P w K mg base 4 "kinds_of" (spD K gKinds)) (c_no_number : Cal P w K mg base 2 "no_number" (spD K gNan)) (c_sum_of_terms : Cal P w K mg base 7 "sum_of_terms" (spD K gSumT)) (c_term_of : Cal P w K mg base 4 "term_of" (spD K gTerm)) : FnOk P w K mg base CX0 8 f fd ["size", "way", "a", "b"] (spD K gAdd) := by
  refine fn_okD F sc_added (fun ds d hg => ?_) fun cdv A outer s H E hr => ⟨_, (pss_cons (ps_if (pt_cmpR op_in_seq pe_str (pe_c c_kinds_of hr rfl (pa_cons (pv 0) (pa_cons (pv 1) (pa_cons (pe_lst (pa_cons (pv 2) (pa_cons (pv 3) pa_nil))) pa_nil)))) (by with_unfolding_all rfl)) (pss_one (ps_ret (pe_tup (pa_cons (pe_c c_no_number hr rfl (pa_cons (pv 0) pa_nil)) (pa_cons pe_int pa_nil))))) pss_nil)
    (pss_one (ps_ret (pe_c c_sum_of_terms hr rfl (pa_cons (pv 0) (pa_cons (pv 1) (pa_cons (pe_lst (pa_cons (pe_c c_term_of hr rfl (pa_cons (pv 0) (pa_cons (pv 2) pa_nil))) (pa_cons (pe_c c_term_of hr rfl (pa_cons (pv 0) (pa_cons (pv 3) pa_nil))) pa_nil))) pa_nil))))))), fun ds d hg => ?_⟩
  · obtain ⟨E, F, wy, x, y, z, hx, hy, rfl, rfl⟩ := hg
    rfl
  obtain ⟨E, F, wy, x, y, z, hx, hy, rfl, rfl⟩ := hg
  show Sx K _ _ { nx := fun _ => prD (addM E F wy x y) = .non, rt := fun d' => d' = prD (addM E F wy x y) }
  unfold addM
  refine q_when (p := last E F < x.2 ∨ last E F < y.2) (EvT.is (et_test (ev_op (o_inS (ns := [kindS E F x.2, kindS E F y.2])) ev_str (ev_call ⟨E, F, wy, [x, y], z, Nat.le_of_ble_eq_true rfl, by intro v hv; simp at hv; rcases hv with rfl | rfl <;> assumption, rfl, rfl⟩ (ea_cons (ev_var rfl) (ea_cons (ev_var rfl) (ea_cons (ev_lst (ea_cons (ev_var rfl) (ea_cons (ev_var rfl) ea_nil))) ea_nil)))))) (none2 z hx hy)) (fun h => ?_) (fun h => ?_)
  · rw [if_pos h]
    exact s_ret (ev_tup (ea_cons (ev_call (d := nD (nan E F)) ⟨E, F, z, rfl, rfl⟩ (ea_cons (ev_var rfl) ea_nil)) (ea_cons (ev_nat (n := 0)) ea_nil))) rfl
  · rw [if_neg h]
    have h1 : x.2 ≤ last E F := by omega
    have h2 : y.2 ≤ last E F := by omega
    refine s_ret (ev_call (d := prD (sumT E F wy [termM E F x, termM E F y])) ⟨E, F, wy, [termM E F x, termM E F y], z, List.cons_ne_nil _ _, (by show 2 ≤ 10; decide), fun t ht => ?_, rfl, rfl⟩ (ea_cons (ev_var rfl) (ea_cons (ev_var rfl) (ea_cons (ev_lst (ea_cons (ev_call (d := tmD (termM E F x)) ⟨E, F, x, z, hx.1, h1, rfl, rfl⟩ (ea_cons (ev_var rfl) (ea_cons (ev_var rfl) ea_nil))) (ea_cons (ev_call (d := tmD (termM E F y)) ⟨E, F, y, z, hy.1, h2, rfl, rfl⟩ (ea_cons (ev_var rfl) (ea_cons (ev_var rfl) ea_nil))) ea_nil))) ea_nil)))) rfl
    have s1 := termM_sort E F x
    have s2 := termM_sort E F y
    simp at ht
    rcases ht with rfl | rfl
    · exact ⟨termM_ok z hx.1 h1, by omega⟩
    · exact ⟨termM_ok z hy.1 h2, by omega⟩
theorem sc_taken : FnScope ["size", "way", "a", "b"] ["size", "way", "a", "b"] (defScope s_taken) := ⟨rfl, rfl, rfl, by decide +kernel, rfl, by decide +kernel, by decide +kernel⟩
theorem ok_taken {f : Addr} {fd : FuncData} (F : FnP K "taken" "taken" s_taken f fd) (c_kinds_of : Cal P w K mg base 4 "kinds_of" (spD K gKinds)) (c_added : Cal P w K mg base 8 "added" (spD K gAdd)) (c_negated : Cal P w K mg base 3 "negated" (spD K gNeg)) : FnOk P w K mg base CX0 9 f fd ["size", "way", "a", "b"] (spD K gTake) := by
  refine fn_okD F sc_taken (fun ds d hg => ?_) fun cdv A outer s H E hr => ⟨_, (pss_cons (ps_expr (pe_c c_kinds_of hr rfl (pa_cons (pv 0) (pa_cons (pv 1) (pa_cons (pe_lst (pa_cons (pv 2) (pa_cons (pv 3) pa_nil))) pa_nil)))))
    (pss_one (ps_ret (pe_c c_added hr rfl (pa_cons (pv 0) (pa_cons (pv 1) (pa_cons (pv 2) (pa_cons (pe_c c_negated hr rfl (pa_cons (pv 0) (pa_cons (pv 3) pa_nil))) pa_nil)))))))), fun ds d hg => ?_⟩
  · obtain ⟨E, F, wy, x, y, z, hx, hy, rfl, rfl⟩ := hg
    rfl
  obtain ⟨E, F, wy, x, y, z, hx, hy, rfl, rfl⟩ := hg
  refine q_drop (ev_call (g := gKinds) (d := .lst ([x, y].map fun v => .str (kindS E F v.2))) ⟨E, F, wy, [x, y], z, Nat.le_of_ble_eq_true rfl, by intro v hv; simp at hv; rcases hv with rfl | rfl <;> assumption, rfl, rfl⟩ (ea_cons (ev_var rfl) (ea_cons (ev_var rfl) (ea_cons (ev_lst (ea_cons (ev_var rfl) (ea_cons (ev_var rfl) ea_nil))) ea_nil)))) ?_
  have hf : okB E F (flip y) := ⟨Nat.sub_le _ _, hy.2⟩
  exact s_ret (ev_call (d := prD (addM E F wy x (flip y))) ⟨E, F, wy, x, flip y, z, hx, hf, rfl, rfl⟩ (ea_cons (ev_var rfl) (ea_cons (ev_var rfl) (ea_cons (ev_var rfl) (ea_cons (ev_call (d := btD E F (flip y)) ⟨E, F, y.1, y.2, z, hy.1, hy.2, rfl, rfl⟩ (ea_cons (ev_var rfl) (ea_cons (ev_var rfl) ea_nil))) ea_nil))))) rfl
theorem sc_multiplied : FnScope ["size", "way", "a", "b"] ["size", "way", "a", "b"] (defScope s_multiplied) := ⟨rfl, rfl, rfl, by decide +kernel, rfl, by decide +kernel, by decide +kernel⟩
theorem ok_multiplied {f : Addr} {fd : FuncData} (F : FnP K "multiplied" "multiplied" s_multiplied f fd) (c_kinds_of : Cal P w K mg base 4 "kinds_of" (spD K gKinds)) (c_no_number : Cal P w K mg base 2 "no_number" (spD K gNan)) (c_sum_of_terms : Cal P w K mg base 7 "sum_of_terms" (spD K gSumT)) (c_product_term : Cal P w K mg base 5 "product_term" (spD K gProd)) : FnOk P w K mg base CX0 8 f fd ["size", "way", "a", "b"] (spD K gMul) := by
  refine fn_okD F sc_multiplied (fun ds d hg => ?_) fun cdv A outer s H E hr => ⟨_, (pss_cons (ps_if (pt_cmpR op_in_seq pe_str (pe_c c_kinds_of hr rfl (pa_cons (pv 0) (pa_cons (pv 1) (pa_cons (pe_lst (pa_cons (pv 2) (pa_cons (pv 3) pa_nil))) pa_nil)))) (by with_unfolding_all rfl)) (pss_one (ps_ret (pe_tup (pa_cons (pe_c c_no_number hr rfl (pa_cons (pv 0) pa_nil)) (pa_cons pe_int pa_nil))))) pss_nil)
    (pss_one (ps_ret (pe_c c_sum_of_terms hr rfl (pa_cons (pv 0) (pa_cons (pv 1) (pa_cons (pe_lst (pa_cons (pe_c c_product_term hr rfl (pa_cons (pv 0) (pa_cons (pv 2) (pa_cons (pv 3) pa_nil)))) pa_nil)) pa_nil))))))), fun ds d hg => ?_⟩
  · obtain ⟨E, F, wy, x, y, z, hx, hy, rfl, rfl⟩ := hg
    rfl
  obtain ⟨E, F, wy, x, y, z, hx, hy, rfl, rfl⟩ := hg
  show Sx K _ _ { nx := fun _ => prD (mulM E F wy x y) = .non, rt := fun d' => d' = prD (mulM E F wy x y) }
  unfold mulM
  refine q_when (p := last E F < x.2 ∨ last E F < y.2) (EvT.is (et_test (ev_op (o_inS (ns := [kindS E F x.2, kindS E F y.2])) ev_str (ev_call ⟨E, F, wy, [x, y], z, Nat.le_of_ble_eq_true rfl, by intro v hv; simp at hv; rcases hv with rfl | rfl <;> assumption, rfl, rfl⟩ (ea_cons (ev_var rfl) (ea_cons (ev_var rfl) (ea_cons (ev_lst (ea_cons (ev_var rfl) (ea_cons (ev_var rfl) ea_nil))) ea_nil)))))) (none2 z hx hy)) (fun h => ?_) (fun h => ?_)
  · rw [if_pos h]
    exact s_ret (ev_tup (ea_cons (ev_call (d := nD (nan E F)) ⟨E, F, z, rfl, rfl⟩ (ea_cons (ev_var rfl) ea_nil)) (ea_cons (ev_nat (n := 0)) ea_nil))) rfl
  · rw [if_neg h]
    have h1 : x.2 ≤ last E F := by omega
    have h2 : y.2 ≤ last E F := by omega
    refine s_ret (ev_call (d := prD (sumT E F wy [prodM E F x y])) ⟨E, F, wy, [prodM E F x y], z, List.cons_ne_nil _ _, (by show 1 ≤ 10; decide), fun t ht => ?_, rfl, rfl⟩ (ea_cons (ev_var rfl) (ea_cons (ev_var rfl) (ea_cons (ev_lst (ea_cons (ev_call (d := tmD (prodM E F x y)) ⟨E, F, x, y, z, hx.1, h1, hy.1, h2, rfl, rfl⟩ (ea_cons (ev_var rfl) (ea_cons (ev_var rfl) (ea_cons (ev_var rfl) ea_nil)))) ea_nil)) ea_nil)))) rfl
    rw [List.mem_singleton.mp ht]
    exact prodM_ok z h1 h2
theorem sc_fused : FnScope ["size", "way", "a", "b", "c"] ["size", "way", "a", "b", "c"] (defScope s_fused) := ⟨rfl, rfl, rfl, by decide +kernel, rfl, by decide +kernel, by decide +kernel⟩
theorem ok_fused {f : Addr} {fd : FuncData} (F : FnP K "fused" "fused" s_fused f fd) (c_kinds_of : Cal P w K mg base 4 "kinds_of" (spD K gKinds)) (c_no_number : Cal P w K mg base 2 "no_number" (spD K gNan)) (c_sum_of_terms : Cal P w K mg base 7 "sum_of_terms" (spD K gSumT)) (c_term_of : Cal P w K mg base 4 "term_of" (spD K gTerm)) (c_product_term : Cal P w K mg base 5 "product_term" (spD K gProd)) : FnOk P w K mg base CX0 8 f fd ["size", "way", "a", "b", "c"] (spD K gFus) := by
  refine fn_okD F sc_fused (fun ds d hg => ?_) fun cdv A outer s H E hr => ⟨_, (pss_cons (ps_if (pt_cmpR op_in_seq pe_str (pe_c c_kinds_of hr rfl (pa_cons (pv 0) (pa_cons (pv 1) (pa_cons (pe_lst (pa_cons (pv 2) (pa_cons (pv 3) (pa_cons (pv 4) pa_nil)))) pa_nil)))) (by with_unfolding_all rfl)) (pss_one (ps_ret (pe_tup (pa_cons (pe_c c_no_number hr rfl (pa_cons (pv 0) pa_nil)) (pa_cons pe_int pa_nil))))) pss_nil)
    (pss_one (ps_ret (pe_c c_sum_of_terms hr rfl (pa_cons (pv 0) (pa_cons (pv 1) (pa_cons (pe_lst (pa_cons (pe_c c_product_term hr rfl (pa_cons (pv 0) (pa_cons (pv 2) (pa_cons (pv 3) pa_nil)))) (pa_cons (pe_c c_term_of hr rfl (pa_cons (pv 0) (pa_cons (pv 4) pa_nil))) pa_nil))) pa_nil))))))), fun ds d hg => ?_⟩
  · obtain ⟨E, F, wy, x, y, v, z, hx, hy, hv, rfl, rfl⟩ := hg
    rfl
  obtain ⟨E, F, wy, x, y, v, z, hx, hy, hv, rfl, rfl⟩ := hg
  show Sx K _ _ { nx := fun _ => prD (fusM E F wy x y v) = .non, rt := fun d' => d' = prD (fusM E F wy x y v) }
  unfold fusM
  refine q_when (p := last E F < x.2 ∨ last E F < y.2 ∨ last E F < v.2) (EvT.is (et_test (ev_op (o_inS (ns := [kindS E F x.2, kindS E F y.2, kindS E F v.2])) ev_str (ev_call ⟨E, F, wy, [x, y, v], z, Nat.le_of_ble_eq_true rfl, by intro u hu; simp at hu; rcases hu with rfl | rfl | rfl <;> assumption, rfl, rfl⟩ (ea_cons (ev_var rfl) (ea_cons (ev_var rfl) (ea_cons (ev_lst (ea_cons (ev_var rfl) (ea_cons (ev_var rfl) (ea_cons (ev_var rfl) ea_nil)))) ea_nil)))))) (none3 z hx hy hv)) (fun h => ?_) (fun h => ?_)
  · rw [if_pos h]
    exact s_ret (ev_tup (ea_cons (ev_call (d := nD (nan E F)) ⟨E, F, z, rfl, rfl⟩ (ea_cons (ev_var rfl) ea_nil)) (ea_cons (ev_nat (n := 0)) ea_nil))) rfl
  · rw [if_neg h]
    have h1 : x.2 ≤ last E F := by omega
    have h2 : y.2 ≤ last E F := by omega
    have h3 : v.2 ≤ last E F := by omega
    refine s_ret (ev_call (d := prD (sumT E F wy [prodM E F x y, termM E F v])) ⟨E, F, wy, [prodM E F x y, termM E F v], z, List.cons_ne_nil _ _, (by show 2 ≤ 10; decide), fun t ht => ?_, rfl, rfl⟩ (ea_cons (ev_var rfl) (ea_cons (ev_var rfl) (ea_cons (ev_lst (ea_cons (ev_call (d := tmD (prodM E F x y)) ⟨E, F, x, y, z, hx.1, h1, hy.1, h2, rfl, rfl⟩ (ea_cons (ev_var rfl) (ea_cons (ev_var rfl) (ea_cons (ev_var rfl) ea_nil)))) (ea_cons (ev_call (d := tmD (termM E F v)) ⟨E, F, v, z, hv.1, h3, rfl, rfl⟩ (ea_cons (ev_var rfl) (ea_cons (ev_var rfl) ea_nil))) ea_nil))) ea_nil)))) rfl
    have s2 := termM_sort E F v
    simp at ht
    rcases ht with rfl | rfl
    · exact prodM_ok z h1 h2
    · exact ⟨termM_ok z hv.1 h3, by omega⟩
theorem sc_divided : FnScope ["size", "way", "a", "b", "kinds", "sign", "one", "two"] ["size", "way", "a", "b"] (defScope s_divided) := ⟨rfl, rfl, rfl, by decide +kernel, rfl, by decide +kernel, by decide +kernel⟩
theorem ok_divided {f : Addr} {fd : FuncData} (F : FnP K "divided" "divided" s_divided f fd) (c_kinds_of : Cal P w K mg base 4 "kinds_of" (spD K gKinds)) (c_no_number : Cal P w K mg base 2 "no_number" (spD K gNan)) (c_gone_wrong : Cal P w K mg base 3 "gone_wrong" (spD K gGone)) (c_parted : Cal P w K mg base 2 "parted" (spD K gParted)) (c_endless_with : Cal P w K mg base 2 "endless_with" (spD K gEndw)) (c_sign_bit : Cal P w K mg base 1 "sign_bit" (spD K gSign)) (c_fraction : Cal P w K mg base 4 "fraction" (spD K gFrac)) (c_rounded : Cal P w K mg base 5 "rounded" (spD K gRounded)) (n_POLE : ∃ t, mg "POLE" = some (.int 8 t)) : FnOk P w K mg base CX0 6 f fd ["size", "way", "a", "b"] (spD K gDiv) := by
  obtain ⟨_, m_POLE⟩ := n_POLE
  refine fn_okD F sc_divided (fun ds d hg => ?_) fun cdv A outer s H E hr => ⟨_, (pss_cons (ps_set (i := 4) sc_divided.nd rfl (Or.inl rfl) (pe_c c_kinds_of hr rfl (pa_cons (pv 0) (pa_cons (pv 1) (pa_cons (pe_lst (pa_cons (pv 2) (pa_cons (pv 3) pa_nil))) pa_nil)))))
    (pss_cons (ps_if (pt_cmpR op_in_seq pe_str (pv 4) (by with_unfolding_all rfl)) (pss_one (ps_ret (pe_tup (pa_cons (pe_c c_no_number hr rfl (pa_cons (pv 0) pa_nil)) (pa_cons pe_int pa_nil))))) pss_nil)
    (pss_cons (ps_if (PW.pt (pw_or (pt_cmpR (op_eqD hr.units) (pv 4) (pe_lst (pa_cons pe_str (pa_cons pe_str pa_nil))) (nomark _)) (pw_or1 (pt_cmpR (op_eqD hr.units) (pv 4) (pe_lst (pa_cons pe_str (pa_cons pe_str pa_nil))) (nomark _))))) (pss_one (ps_ret (pe_c c_gone_wrong hr rfl (pa_cons (pv 0) pa_nil)))) pss_nil)
    (pss_cons (ps_set (i := 5) sc_divided.nd rfl (Or.inl rfl) (pe_op op_xor (pe_ix (r := rIxT K) ix_tup (pe_c c_parted hr rfl (pa_cons (pv 0) (pa_cons (pv 2) pa_nil))) pe_int (fun _ _ => rfl)) (pe_ix (r := rIxT K) ix_tup (pe_c c_parted hr rfl (pa_cons (pv 0) (pa_cons (pv 3) pa_nil))) pe_int (fun _ _ => rfl))))
    (pss_cons (ps_if (pt_cmpR op_eq (pe_ix (r := rIxL K) ix_list (pv 4) pe_int (fun _ _ => rfl)) pe_str (nomark _)) (pss_one (ps_ret (pe_tup (pa_cons (pe_c c_endless_with hr rfl (pa_cons (pv 0) (pa_cons (pv 5) pa_nil))) (pa_cons pe_int pa_nil))))) pss_nil)
    (pss_cons (ps_if (pt_cmpR op_eq (pe_ix (r := rIxL K) ix_list (pv 4) pe_int (fun _ _ => rfl)) pe_str (nomark _)) (pss_one (ps_ret (pe_tup (pa_cons (pe_c c_endless_with hr rfl (pa_cons (pv 0) (pa_cons (pv 5) pa_nil))) (pa_cons (pe_glob (v := .int 8) rfl m_POLE ⟨_, rfl⟩) pa_nil))))) pss_nil)
    (pss_cons (ps_if (pt_cmpR op_eq (pe_ix (r := rIxL K) ix_list (pv 4) pe_int (fun _ _ => rfl)) pe_str (nomark _)) (pss_one (ps_ret (pe_tup (pa_cons (pe_op op_mulX (pv 5) (pe_c c_sign_bit hr rfl (pa_cons (pv 0) pa_nil))) (pa_cons pe_int pa_nil))))) pss_nil)
    (pss_cons (ps_set (i := 6) sc_divided.nd rfl (Or.inl rfl) (pe_c c_fraction hr rfl (pa_cons (pv 0) (pa_cons (pv 2) pa_nil))))
    (pss_cons (ps_set (i := 7) sc_divided.nd rfl (Or.inl rfl) (pe_c c_fraction hr rfl (pa_cons (pv 0) (pa_cons (pv 3) pa_nil))))
    (pss_one (ps_ret (pe_c c_rounded hr rfl (pa_cons (pv 0) (pa_cons (pv 1) (pa_cons (pv 5) (pa_cons (pe_op op_mulX (pe_ix (r := rIxT K) ix_tup (pv 6) pe_int (fun _ _ => rfl)) (pe_ix (r := rIxT K) ix_tup (pv 7) pe_int (fun _ _ => rfl))) (pa_cons (pe_op op_mulX (pe_ix (r := rIxT K) ix_tup (pv 6) pe_int (fun _ _ => rfl)) (pe_ix (r := rIxT K) ix_tup (pv 7) pe_int (fun _ _ => rfl))) pa_nil))))))))))))))))), fun ds d hg => ?_⟩
  · obtain ⟨E, F, wy, x, y, z, hx, hy, rfl, rfl⟩ := hg
    rfl
  obtain ⟨E, F, wy, x, y, z, hx, hy, rfl, rfl⟩ := hg
  have hB1 := B1_v
  have hKU := KU_v
  have hKD := KD_v
  show Sx K _ _ { nx := fun _ => prD (divM E F wy x y) = .non, rt := fun d' => d' = prD (divM E F wy x y) }
  unfold divM
  refine q_asg (ev_call (g := gKinds) (d := .lst ([kindS E F x.2, kindS E F y.2].map D.str)) ⟨E, F, wy, [x, y], z, Nat.le_of_ble_eq_true rfl, by intro v hv; simp at hv; rcases hv with rfl | rfl <;> assumption, rfl, rfl⟩ (ea_cons (ev_var rfl) (ea_cons (ev_var rfl) (ea_cons (ev_lst (ea_cons (ev_var rfl) (ea_cons (ev_var rfl) ea_nil))) ea_nil)))) ?_
  refine q_when (p := last E F < x.2 ∨ last E F < y.2) (EvT.is (et_test (ev_op (o_inS (ns := [kindS E F x.2, kindS E F y.2])) ev_str (ev_var rfl))) (none2 z hx hy)) (fun h => ?_) (fun h => ?_)
  · rw [if_pos h]
    exact s_ret (ev_tup (ea_cons (ev_call (d := nD (nan E F)) ⟨E, F, z, rfl, rfl⟩ (ea_cons (ev_var rfl) ea_nil)) (ea_cons (ev_nat (n := 0)) ea_nil))) rfl
  rw [if_neg h]
  have h1 : x.2 ≤ last E F := by omega
  have h2 : y.2 ≤ last E F := by omega
  have hb : (decide ([kindS E F x.2, kindS E F y.2] = [("endless" : Str), "endless"]) || decide ([kindS E F x.2, kindS E F y.2] = [("nought" : Str), "nought"])) = decide ((x.2 = last E F ∧ y.2 = last E F) ∨ (x.2 = 0 ∧ y.2 = 0)) := by
    rw [← Bool.decide_or]
    refine decide_eq_decide.mpr ?_
    rw [← kind_end z hx.2, ← kind_end z hy.2, ← kind_nought z hx.2, ← kind_nought z hy.2]
    simp
  refine q_when (p := (x.2 = last E F ∧ y.2 = last E F) ∨ (x.2 = 0 ∧ y.2 = 0)) (EvT.is (et_or (et_test (ev_op (o_eqLS (xs := [kindS E F x.2, kindS E F y.2]) (ys := ["endless", "endless"]) (shaped2 E F x.2 y.2) (by decide +kernel)) (ev_var rfl) (ev_lst (ea_cons ev_str (ea_cons ev_str ea_nil))))) fun _ => (et_test (ev_op (o_eqLS (xs := [kindS E F x.2, kindS E F y.2]) (ys := ["nought", "nought"]) (shaped2 E F x.2 y.2) (by decide +kernel)) (ev_var rfl) (ev_lst (ea_cons ev_str (ea_cons ev_str ea_nil)))))) hb) (fun h3 => ?_) (fun h3 => ?_)
  · rw [if_pos h3]
    exact s_ret (ev_call (d := prD (nan E F, 16)) ⟨E, F, z, rfl, rfl⟩ (ea_cons (ev_var rfl) ea_nil)) rfl
  rw [if_neg h3]
  refine q_asg (Eva.is (d' := nD (xs1 x.1 y.1)) (ev_op on_xor (ev_op (o_ixT rfl) (ev_call (d := .tup [nD x.1, nD (x.2 / 2 ^ F), nD (x.2 % 2 ^ F)]) ⟨E, F, x.1, x.2, z, hx.1, hx.2, rfl, rfl⟩ (ea_cons (ev_var rfl) (ea_cons (ev_var rfl) ea_nil))) (ev_nat (n := 0))) (ev_op (o_ixT rfl) (ev_call (d := .tup [nD y.1, nD (y.2 / 2 ^ F), nD (y.2 % 2 ^ F)]) ⟨E, F, y.1, y.2, z, hy.1, hy.2, rfl, rfl⟩ (ea_cons (ev_var rfl) (ea_cons (ev_var rfl) ea_nil))) (ev_nat (n := 0)))) (congrArg nD (xorN01 hx.1 hy.1))) ?_
  have hs := xs1_le x.1 y.1
  generalize xs1 x.1 y.1 = s at *
  refine q_when (p := x.2 = last E F) (EvT.is (et_test (ev_op o_eqS (ev_op (o_ixL (xs := [kindS E F x.2, kindS E F y.2].map D.str) atI0) (ev_var rfl) (ev_nat (n := 0))) ev_str)) (decide_eq_decide.mpr (kind_end z hx.2))) (fun h4 => ?_) (fun h4 => ?_)
  · rw [if_pos h4]
    exact s_ret (ev_tup (ea_cons (ev_call (d := nD (bt E F s (last E F))) ⟨E, F, s, z, hs, rfl, rfl⟩ (ea_cons (ev_var rfl) (ea_cons (ev_var rfl) ea_nil))) (ea_cons (ev_nat (n := 0)) ea_nil))) rfl
  rw [if_neg h4]
  refine q_when (p := y.2 = 0) (EvT.is (et_test (ev_op o_eqS (ev_op (o_ixL (xs := [kindS E F x.2, kindS E F y.2].map D.str) atI1) (ev_var rfl) (ev_nat (n := 1))) ev_str)) (decide_eq_decide.mpr (kind_nought z hy.2))) (fun h5 => ?_) (fun h5 => ?_)
  · rw [if_pos h5]
    exact s_ret (ev_tup (ea_cons (ev_call (d := nD (bt E F s (last E F))) ⟨E, F, s, z, hs, rfl, rfl⟩ (ea_cons (ev_var rfl) (ea_cons (ev_var rfl) ea_nil))) (ea_cons (ev_nat (n := 8)) ea_nil))) rfl
  rw [if_neg h5]
  refine q_when (p := y.2 = last E F) (EvT.is (et_test (ev_op o_eqS (ev_op (o_ixL (xs := [kindS E F x.2, kindS E F y.2].map D.str) atI1) (ev_var rfl) (ev_nat (n := 1))) ev_str)) (decide_eq_decide.mpr (kind_end z hy.2))) (fun h6 => ?_) (fun h6 => ?_)
  · rw [if_pos h6]
    exact s_ret (ev_tup (ea_cons (ev_op (on_mul (c_mul (s_lt hs (Nat.le_refl 1)) (top_lt z) (by decide))) (ev_var rfl) (ev_call (d := nD (top E F)) ⟨E, F, z, rfl, rfl⟩ (ea_cons (ev_var rfl) ea_nil))) (ea_cons (ev_nat (n := 0)) ea_nil))) rfl
  rw [if_neg h6]
  have lx : x.2 < last E F := by omega
  have ly : y.2 < last E F := by omega
  have u1 := fr_up z lx
  have u2 := fr_up z ly
  have d1 := fr_dn z lx
  have d2 := fr_dn z ly
  have m2 : 0 < mant F y.2 := Nat.pos_of_ne_zero fun q => h5 (mant_zero.mp q)
  refine q_asg (ev_call (d := .tup [nD x.1, nD (mant F x.2 * up (pw E F x.2)), nD (dn (pw E F x.2))]) ⟨E, F, x.1, x.2, z, hx.1, lx, rfl, rfl⟩ (ea_cons (ev_var rfl) (ea_cons (ev_var rfl) ea_nil))) ?_
  refine q_asg (ev_call (d := .tup [nD y.1, nD (mant F y.2 * up (pw E F y.2)), nD (dn (pw E F y.2))]) ⟨E, F, y.1, y.2, z, hy.1, ly, rfl, rfl⟩ (ea_cons (ev_var rfl) (ea_cons (ev_var rfl) ea_nil))) ?_
  have p2 : 0 < dn (pw E F x.2) * (mant F y.2 * up (pw E F y.2)) := Nat.mul_pos (dn_pos _) (Nat.mul_pos m2 (up_pos _))
  exact s_ret (ev_call (d := ansD E F s (rnd E F wy s (mant F x.2 * up (pw E F x.2) * dn (pw E F y.2)) (dn (pw E F x.2) * (mant F y.2 * up (pw E F y.2))))) ⟨E, F, wy, s, _, _, z, hs, p2, lt_up (lt_mul u1 d2) (by omega), lt_up (lt_mul d1 u2) (by omega), rfl, rfl⟩ (ea_cons (ev_var rfl) (ea_cons (ev_var rfl) (ea_cons (ev_var rfl) (ea_cons (ev_op (on_mul (c_mul u1 d2 (by decide))) (ev_op (o_ixT rfl) (ev_var rfl) (ev_nat (n := 1))) (ev_op (o_ixT rfl) (ev_var rfl) (ev_nat (n := 2)))) (ea_cons (ev_op (on_mul (c_mul d1 u2 (by decide))) (ev_op (o_ixT rfl) (ev_var rfl) (ev_nat (n := 2))) (ev_op (o_ixT rfl) (ev_var rfl) (ev_nat (n := 1)))) ea_nil)))))) rfl
theorem sc_rooted : FnScope ["size", "way", "a", "sort", "part", "whole", "power", "rest"] ["size", "way", "a"] (defScope s_rooted) := ⟨rfl, rfl, rfl, by decide +kernel, rfl, by decide +kernel, by decide +kernel⟩
theorem ok_rooted {f : Addr} {fd : FuncData} (F : FnP K "rooted" "rooted" s_rooted f fd) (c_kinds_of : Cal P w K mg base 4 "kinds_of" (spD K gKinds)) (c_no_number : Cal P w K mg base 2 "no_number" (spD K gNan)) (c_parted : Cal P w K mg base 2 "parted" (spD K gParted)) (c_gone_wrong : Cal P w K mg base 3 "gone_wrong" (spD K gGone)) (c_fraction : Cal P w K mg base 4 "fraction" (spD K gFrac)) (c_root_cut : Cal P w K mg base 3 "root_cut" (spD K gRoot)) (c_settled : Cal P w K mg base 4 "settled" (spD K gSettled)) : FnOk P w K mg base CX0 5 f fd ["size", "way", "a"] (spD K gRoo) := by
  refine fn_okD F sc_rooted (fun ds d hg => ?_) fun cdv A outer s H E hr => ⟨_, (pss_cons (ps_set (i := 3) sc_rooted.nd rfl (Or.inl rfl) (pe_ix (r := rIxL K) ix_list (pe_c c_kinds_of hr rfl (pa_cons (pv 0) (pa_cons (pv 1) (pa_cons (pe_lst (pa_cons (pv 2) pa_nil)) pa_nil)))) pe_int (fun _ _ => rfl)))
    (pss_cons (ps_if (pt_cmpR op_eq (pv 3) pe_str (nomark _)) (pss_one (ps_ret (pe_tup (pa_cons (pe_c c_no_number hr rfl (pa_cons (pv 0) pa_nil)) (pa_cons pe_int pa_nil))))) pss_nil)
    (pss_cons (ps_if (pt_cmpR op_eq (pv 3) pe_str (nomark _)) (pss_one (ps_ret (pe_tup (pa_cons (pv 2) (pa_cons pe_int pa_nil))))) pss_nil)
    (pss_cons (ps_if (pt_cmpR op_eq (pe_ix (r := rIxT K) ix_tup (pe_c c_parted hr rfl (pa_cons (pv 0) (pa_cons (pv 2) pa_nil))) pe_int (fun _ _ => rfl)) pe_int (nomark _)) (pss_one (ps_ret (pe_c c_gone_wrong hr rfl (pa_cons (pv 0) pa_nil)))) pss_nil)
    (pss_cons (ps_if (pt_cmpR op_eq (pv 3) pe_str (nomark _)) (pss_one (ps_ret (pe_tup (pa_cons (pv 2) (pa_cons pe_int pa_nil))))) pss_nil)
    (pss_cons (ps_set (i := 4) sc_rooted.nd rfl (Or.inl rfl) (pe_c c_fraction hr rfl (pa_cons (pv 0) (pa_cons (pv 2) pa_nil))))
    (pss_cons (ps_asg (pe_c c_root_cut hr rfl (pa_cons (pv 0) (pa_cons (pe_ix (r := rIxT K) ix_tup (pv 4) pe_int (fun _ _ => rfl)) (pa_cons (pe_ix (r := rIxT K) ix_tup (pv 4) pe_int (fun _ _ => rfl)) pa_nil)))) (pg_tup rfl (pgs_cons (pg_name (i := 5) sc_rooted.nd rfl (Or.inl rfl)) (pgs_cons (pg_name (i := 6) sc_rooted.nd rfl (Or.inl rfl)) (pgs_cons (pg_name (i := 7) sc_rooted.nd rfl (Or.inl rfl)) pgs_nil)))))
    (pss_one (ps_ret (pe_c c_settled hr rfl (pa_cons (pv 0) (pa_cons (pv 1) (pa_cons pe_int (pa_cons (pv 5) (pa_cons (pv 6) (pa_cons (pv 7) pa_nil)))))))))))))))), fun ds d hg => ?_⟩
  · obtain ⟨E, F, wy, x, z, hx, rfl, rfl⟩ := hg
    rfl
  obtain ⟨E, F, wy, x, z, hx, rfl, rfl⟩ := hg
  have hBB := BB_v
  have hB1 := B1_v
  have hKU := KU_v
  have hKD := KD_v
  have hst := st_le z
  show Sx K _ _ { nx := fun _ => prD (rooM E F wy x) = .non, rt := fun d' => d' = prD (rooM E F wy x) }
  unfold rooM
  refine q_asg (d := .str (kindS E F x.2)) (ev_op (o_ixL (xs := [kindS E F x.2].map D.str) atI0) (ev_call ⟨E, F, wy, [x], z, Nat.le_of_ble_eq_true rfl, by intro v hv; rw [List.mem_singleton.mp hv]; exact hx, rfl, rfl⟩ (ea_cons (ev_var rfl) (ea_cons (ev_var rfl) (ea_cons (ev_lst (ea_cons (ev_var rfl) ea_nil)) ea_nil)))) (ev_nat (n := 0))) ?_
  refine q_when (p := last E F < x.2) (EvT.is (et_test (ev_op o_eqS (ev_var rfl) ev_str)) (decide_eq_decide.mpr (kind_none z hx.2))) (fun h => ?_) (fun h => ?_)
  · rw [if_pos h]
    exact s_ret (ev_tup (ea_cons (ev_call (d := nD (nan E F)) ⟨E, F, z, rfl, rfl⟩ (ea_cons (ev_var rfl) ea_nil)) (ea_cons (ev_nat (n := 0)) ea_nil))) rfl
  rw [if_neg h]
  refine q_when (p := x.2 = 0) (EvT.is (et_test (ev_op o_eqS (ev_var rfl) ev_str)) (decide_eq_decide.mpr (kind_nought z hx.2))) (fun h2 => ?_) (fun h2 => ?_)
  · rw [if_pos h2]
    exact s_ret (ev_tup (ea_cons (ev_var rfl) (ea_cons (ev_nat (n := 0)) ea_nil))) rfl
  rw [if_neg h2]
  refine q_when (et_test (ev_op on_eq (ev_op (o_ixT rfl) (ev_call (d := .tup [nD x.1, nD (x.2 / 2 ^ F), nD (x.2 % 2 ^ F)]) ⟨E, F, x.1, x.2, z, hx.1, hx.2, rfl, rfl⟩ (ea_cons (ev_var rfl) (ea_cons (ev_var rfl) ea_nil))) (ev_nat (n := 0))) (ev_nat (n := 1)))) (fun h3 => ?_) (fun h3 => ?_)
  · rw [if_pos h3]
    exact s_ret (ev_call (d := prD (nan E F, 16)) ⟨E, F, z, rfl, rfl⟩ (ea_cons (ev_var rfl) ea_nil)) rfl
  rw [if_neg h3]
  refine q_when (p := x.2 = last E F) (EvT.is (et_test (ev_op o_eqS (ev_var rfl) ev_str)) (decide_eq_decide.mpr (kind_end z hx.2))) (fun h4 => ?_) (fun h4 => ?_)
  · rw [if_pos h4]
    exact s_ret (ev_tup (ea_cons (ev_var rfl) (ea_cons (ev_nat (n := 0)) ea_nil))) rfl
  rw [if_neg h4]
  have lx : x.2 < last E F := by omega
  have u1 := fr_up z lx
  have d1 := fr_dn z lx
  have m1 : 0 < mant F x.2 := Nat.pos_of_ne_zero fun q => h2 (mant_zero.mp q)
  have hS : mant F x.2 * up (pw E F x.2) * 2 ^ (2 * st E F) = val F x.2 * 2 ^ st E F * dn (pw E F x.2) := by
    have e : 2 ^ (2 * st E F) = 2 ^ st E F * 2 ^ st E F := by rw [← Nat.pow_add]; congr 1; omega
    rw [e, ← Nat.mul_assoc, frac_val, Nat.mul_assoc, Nat.mul_comm (dn _), ← Nat.mul_assoc]
  have p1 : 0 < mant F x.2 * up (pw E F x.2) := Nat.mul_pos m1 (up_pos _)
  refine q_asg (ev_call (d := .tup [nD x.1, nD (mant F x.2 * up (pw E F x.2)), nD (dn (pw E F x.2))]) ⟨E, F, x.1, x.2, z, hx.1, lx, rfl, rfl⟩ (ea_cons (ev_var rfl) (ea_cons (ev_var rfl) ea_nil))) ?_
  have hdp := dn_pos (pw E F x.2)
  generalize mant F x.2 * up (pw E F x.2) = a at *
  generalize dn (pw E F x.2) = b at *
  obtain ⟨k, hk1, hk2, hco, hnear⟩ := root_ok (E := E) (F := F) p1 hdp hS
  have hbl := blen_le_of u1
  have e2 : ((rootM E F a b).2.1 + st E F).toNat = k := by omega
  dsimp only
  rw [e2]
  refine q_asgT (ev_call (d := cutD (rootM E F a b)) ⟨E, F, a, b, _, z, hdp, hS, lt_up u1 (by omega), lt_up d1 (by omega), rfl, rfl⟩ (ea_cons (ev_var rfl) (ea_cons (ev_op (o_ixT rfl) (ev_var rfl) (ev_nat (n := 1))) (ea_cons (ev_op (o_ixT rfl) (ev_var rfl) (ev_nat (n := 2))) ea_nil)))) (tg_tup (tgs_cons tg_name (tgs_cons tg_name (tgs_cons tg_name tgs_nil)))) ?_
  refine s_ret (ev_call (d := ansD E F 0 (setM E F wy 0 k (rootM E F a b).1 (rootM E F a b).2.2)) ⟨E, F, wy, 0, k, (rootM E F a b).1, (rootM E F a b).2.2, z, Nat.zero_le _, hnear.r4, by omega, hco, by rw [hk1], rfl⟩ (ea_cons (ev_var rfl) (ea_cons (ev_var rfl) (ea_cons (ev_nat (n := 0)) (ea_cons (ev_var rfl) (ea_cons (ev_var rfl) (ea_cons (ev_var rfl) ea_nil))))))) ?_
  unfold ansD bt prD
  rw [Nat.zero_mul, Nat.zero_add]
theorem sc_whole_of : FnScope ["way", "sign", "top", "bottom", "chosen", "whole", "over", "rest"] ["way", "sign", "top", "bottom"] (defScope s_whole_of) := ⟨rfl, rfl, rfl, by decide +kernel, rfl, by decide +kernel, by decide +kernel⟩
theorem ok_whole_of {f : Addr} {fd : FuncData} (F : FnP K "whole_of" "whole_of" s_whole_of f fd) (c_way_of : Cal P w K mg base 3 "way_of" (spD K (gWay C))) (c_grows : ∀ wy : W5, MetD P w K mg base 2 (wayC C wy) "grows" (spD K (gGrows C wy))) (b_divmod : mg "divmod" = none) : FnOk P w K mg base CX0 4 f fd ["way", "sign", "top", "bottom"] (spD K gWholeOf) := by
  refine fn_okD F sc_whole_of (fun ds d hg => ?_) fun cdv A outer s H E hr => ⟨_, (pss_cons (ps_set (i := 4) sc_whole_of.nd rfl (Or.inl rfl) (pe_c c_way_of hr rfl (pa_cons (pv 0) pa_nil)))
    (pss_cons (ps_if (PW.pt (pw_or (pt_cmpR op_lt (pv 2) pe_int (nomark _)) (pw_or1 (pt_cmpR op_lt (pv 3) pe_int (nomark _))))) (pss_one ps_never) pss_nil)
    (pss_cons (ps_asg (pe_callB call_divmodW (by rfl) b_divmod (by decide +kernel) (pa_cons (pv 2) (pa_cons (pv 3) pa_nil))) (pg_tup rfl (pgs_cons (pg_name (i := 5) sc_whole_of.nd rfl (Or.inl rfl)) (pgs_cons (pg_name (i := 6) sc_whole_of.nd rfl (Or.inl rfl)) pgs_nil))))
    (pss_cons (ps_if (pt_cmpR op_eq (pv 6) pe_int (nomark _)) (pss_one (ps_ret (pv 5))) pss_nil)
    (pss_cons (ps_set (i := 7) sc_whole_of.nd rfl (Or.inl rfl) pe_int)
    (pss_cons (ps_if (pt_cmpR op_lt (pe_op op_mulX pe_int (pv 6)) (pv 3) (nomark _)) (pss_one (ps_set (i := 7) sc_whole_of.nd rfl (Or.inl rfl) pe_int)) (pss_one (ps_if (pt_cmpR op_gt (pe_op op_mulX pe_int (pv 6)) (pv 3) (nomark _)) (pss_one (ps_set (i := 7) sc_whole_of.nd rfl (Or.inl rfl) pe_int)) pss_nil)))
    (pss_cons (ps_if (pt_val (pe_mD c_grows hr (pv 4) (pa_cons (pv 1) (pa_cons (pe_cmpR op_eq (pe_op op_and (pv 5) pe_int) pe_int (nomark _)) (pa_cons (pv 7) pa_nil))))) (pss_one (ps_aug (i := 5) sc_whole_of.nd rfl (.inl rfl) pe_int ip_add)) pss_nil)
    (pss_one (ps_ret (pv 5)))))))))), fun ds d hg => ?_⟩
  · obtain ⟨wy, s, a, b, hs, hb, ha, hbb, hc, rfl, rfl⟩ := hg
    rfl
  obtain ⟨wy, s, a, b, hs, hb, ha, hbb, hc, rfl, rfl⟩ := hg
  have hBB := BB_v
  show Sx K _ _ { nx := fun _ => nD (wholeM wy s a b) = .non, rt := fun d' => d' = nD (wholeM wy s a b) }
  unfold wholeM
  refine q_asg (ev_call (d := wayD C wy) ⟨wy, rfl, rfl⟩ (ea_cons (ev_var rfl) ea_nil)) ?_
  refine q_whenb (et_or (et_test (ev_op on_lt (ev_var rfl) (ev_nat (n := 0)))) fun _ => (et_test (ev_op on_lt (ev_var rfl) (ev_nat (n := 1))))) (fun h => s_never (by simp at h; omega)) (fun h => ?_)
  refine q_asgT (ev_cb (c_divmod hc) (ea_cons (ev_var rfl) (ea_cons (ev_var rfl) ea_nil))) (tg_tup (tgs_cons tg_name (tgs_cons tg_name tgs_nil))) ?_
  have hm : a % b < 2 ^ BB := Nat.lt_trans (Nat.mod_lt _ hb) hbb
  generalize a / b = q at *
  generalize a % b = r at *
  refine q_when (et_test (ev_op on_eq (ev_var rfl) (ev_nat (n := 0)))) (fun h2 => ?_) (fun h2 => ?_)
  · rw [if_pos h2]
    exact s_ret (ev_var rfl) rfl
  rw [if_neg h2]
  refine q_asg (ev_nat (n := 2)) ?_
  refine q_join [some (.str (wn wy)), some (nD s), some (nD a), some (nD b), some (wayD C wy), some (nD q), some (nD r), some (nD (if 2 * r < b then 1 else if b < 2 * r then 3 else 2))] (et_test (ev_op on_lt (ev_op (on_mul (c_mul (n := 2) (by decide) hm (by omega))) (ev_nat (n := 2)) (ev_var rfl)) (ev_var rfl))) (fun h3 => ?_) (fun h3 => ?_) ?_
  · rw [if_pos (of_decide_eq_true h3)]
    exact s_asg (ev_nat (n := 1)) rfl
  · rw [if_neg (of_decide_eq_false h3)]
    refine s_if (et_test (ev_op on_gt (ev_op (on_mul (c_mul (n := 2) (by decide) hm (by omega))) (ev_nat (n := 2)) (ev_var rfl)) (ev_var rfl))) (fun h4 => ?_) (fun h4 => ?_)
    · rw [if_pos h4]
      exact s_asg (ev_nat (n := 3)) rfl
    · rw [if_neg h4]
      exact s_next rfl
  generalize (if 2 * r < b then 1 else if b < 2 * r then 3 else 2) = t
  refine q_whenb (et_B (ev_mD (cls := fun wy => wayC C wy) (g := fun wy => gGrows C wy) (fs := wayF wy) wy (wayF_none wy (by decide +kernel)) ⟨s, t, decide (q % 2 = 1), rfl, rfl⟩ (ev_var rfl) (ea_cons (ev_var rfl) (ea_cons (Eva.is (ev_op on_eq (ev_op on_and (ev_var rfl) (ev_nat (n := 1))) (ev_nat (n := 1))) (by rw [and1])) (ea_cons (ev_var rfl) ea_nil))))) (fun h3 => ?_) (fun h3 => ?_)
  · rw [if_pos h3]
    exact s_aug rfl (ev_nat (n := 1)) on_ipadd (s_ret (ev_var rfl) rfl)
  · rw [if_neg (by rw [h3]; decide)]
    exact s_ret (ev_var rfl) rfl
theorem sc_wholed : FnScope ["size", "way", "bits", "sort", "sign", "top", "bottom", "whole", "told", "flags"] ["size", "way", "bits"] (defScope s_wholed) := ⟨rfl, rfl, rfl, by decide +kernel, rfl, by decide +kernel, by decide +kernel⟩
theorem ok_wholed {f : Addr} {fd : FuncData} (F : FnP K "wholed" "wholed" s_wholed f fd) (c_way_of : Cal P w K mg base 3 "way_of" (spD K (gWay C))) (c_kind : Cal P w K mg base 3 "kind" (spD K gKind)) (c_no_number : Cal P w K mg base 2 "no_number" (spD K gNan)) (c_fraction : Cal P w K mg base 4 "fraction" (spD K gFrac)) (c_whole_of : Cal P w K mg base 4 "whole_of" (spD K gWholeOf)) (c_rounded : Cal P w K mg base 5 "rounded" (spD K gRounded)) (n_GREAT : ∃ t, mg "GREAT" = some (.int 4 t)) (n_INEXACT : ∃ t, mg "INEXACT" = some (.int 1 t)) : FnOk P w K mg base CX0 6 f fd ["size", "way", "bits"] (spD K gWho) := by
  obtain ⟨_, m_GREAT⟩ := n_GREAT
  obtain ⟨_, m_INEXACT⟩ := n_INEXACT
  refine fn_okD F sc_wholed (fun ds d hg => ?_) fun cdv A outer s H E hr => ⟨_, (pss_cons (ps_expr (pe_c c_way_of hr rfl (pa_cons (pv 1) pa_nil)))
    (pss_cons (ps_set (i := 3) sc_wholed.nd rfl (Or.inl rfl) (pe_c c_kind hr rfl (pa_cons (pv 0) (pa_cons (pv 2) pa_nil))))
    (pss_cons (ps_if (pt_cmpR op_eq (pv 3) pe_str (nomark _)) (pss_one (ps_ret (pe_tup (pa_cons (pe_c c_no_number hr rfl (pa_cons (pv 0) pa_nil)) (pa_cons pe_int pa_nil))))) pss_nil)
    (pss_cons (ps_if (PW.pt (pw_or (pt_cmpR op_eq (pv 3) pe_str (nomark _)) (pw_or1 (pt_cmpR op_eq (pv 3) pe_str (nomark _))))) (pss_one (ps_ret (pe_tup (pa_cons (pv 2) (pa_cons pe_int pa_nil))))) pss_nil)
    (pss_cons (ps_asg (pe_c c_fraction hr rfl (pa_cons (pv 0) (pa_cons (pv 2) pa_nil))) (pg_tup rfl (pgs_cons (pg_name (i := 4) sc_wholed.nd rfl (Or.inl rfl)) (pgs_cons (pg_name (i := 5) sc_wholed.nd rfl (Or.inl rfl)) (pgs_cons (pg_name (i := 6) sc_wholed.nd rfl (Or.inl rfl)) pgs_nil)))))
    (pss_cons (ps_set (i := 7) sc_wholed.nd rfl (Or.inl rfl) (pe_c c_whole_of hr rfl (pa_cons (pv 1) (pa_cons (pv 4) (pa_cons (pv 5) (pa_cons (pv 6) pa_nil))))))
    (pss_cons (ps_asg (pe_c c_rounded hr rfl (pa_cons (pv 0) (pa_cons (pv 1) (pa_cons (pv 4) (pa_cons (pv 7) (pa_cons pe_int pa_nil)))))) (pg_tup rfl (pgs_cons (pg_name (i := 8) sc_wholed.nd rfl (Or.inl rfl)) (pgs_cons (pg_name (i := 9) sc_wholed.nd rfl (Or.inl rfl)) pgs_nil))))
    (pss_cons (ps_set (i := 9) sc_wholed.nd rfl (Or.inl rfl) (pe_op op_and (pv 9) (pe_glob (v := .int 4) rfl m_GREAT ⟨_, rfl⟩)))
    (pss_cons (ps_if (pt_cmpR op_ne (pe_op op_mulX (pv 7) (pv 6)) (pv 5) (nomark _)) (pss_one (ps_set (i := 9) sc_wholed.nd rfl (Or.inl rfl) (pe_op op_or (pv 9) (pe_glob (v := .int 1) rfl m_INEXACT ⟨_, rfl⟩)))) pss_nil)
    (pss_one (ps_ret (pe_tup (pa_cons (pv 8) (pa_cons (pv 9) pa_nil)))))))))))))), fun ds d hg => ?_⟩
  · obtain ⟨E, F, wy, x, z, hx, rfl, rfl⟩ := hg
    rfl
  obtain ⟨E, F, wy, x, z, hx, rfl, rfl⟩ := hg
  have hBB := BB_v
  have hB1 := B1_v
  have hKU := KU_v
  have hKD := KD_v
  show Sx K _ _ { nx := fun _ => prD (whoM E F wy x) = .non, rt := fun d' => d' = prD (whoM E F wy x) }
  unfold whoM
  refine q_drop (ev_call (d := wayD C wy) ⟨wy, rfl, rfl⟩ (ea_cons (ev_var rfl) ea_nil)) ?_
  refine q_asg (ev_call (d := .str (kindS E F x.2)) ⟨E, F, x.1, x.2, z, hx.1, hx.2, rfl, rfl⟩ (ea_cons (ev_var rfl) (ea_cons (ev_var rfl) ea_nil))) ?_
  refine q_when (p := last E F < x.2) (EvT.is (et_test (ev_op o_eqS (ev_var rfl) ev_str)) (decide_eq_decide.mpr (kind_none z hx.2))) (fun h => ?_) (fun h => ?_)
  · rw [if_pos h]
    exact s_ret (ev_tup (ea_cons (ev_call (d := nD (nan E F)) ⟨E, F, z, rfl, rfl⟩ (ea_cons (ev_var rfl) ea_nil)) (ea_cons (ev_nat (n := 0)) ea_nil))) rfl
  rw [if_neg h]
  have hb : (decide (kindS E F x.2 = "nought") || decide (kindS E F x.2 = "endless")) = decide (x.2 = 0 ∨ x.2 = last E F) := by
    rw [← Bool.decide_or]
    exact decide_eq_decide.mpr (by rw [kind_nought z hx.2, kind_end z hx.2])
  refine q_when (p := x.2 = 0 ∨ x.2 = last E F) (EvT.is (et_or (et_test (ev_op o_eqS (ev_var rfl) ev_str)) fun _ => (et_test (ev_op o_eqS (ev_var rfl) ev_str))) hb) (fun h2 => ?_) (fun h2 => ?_)
  · rw [if_pos h2]
    exact s_ret (ev_tup (ea_cons (ev_var rfl) (ea_cons (ev_nat (n := 0)) ea_nil))) rfl
  rw [if_neg h2]
  have lx : x.2 < last E F := by omega
  have u1 := fr_up z lx
  have d1 := fr_dn z lx
  have hdp := dn_pos (pw E F x.2)
  have pwb := pw_bd z lx
  have hcd : CDivP ((mant F x.2 * up (pw E F x.2) : Nat) : Int) ((dn (pw E F x.2) : Nat) : Int) := by
    by_cases q : pw E F x.2 < 0
    · have e : up (pw E F x.2) = 1 := by unfold up; rw [show (pw E F x.2).toNat = 0 by omega]
      rw [e, Nat.mul_one]
      exact c_div hdp (mant_lt200 z) (by decide)
    · have e : dn (pw E F x.2) = 1 := by unfold dn; rw [show (-(pw E F x.2)).toNat = 0 by omega]
      rw [e]
      refine ⟨by decide, PyProof.noPylong_small (by decide)⟩
  have wb : wholeM wy x.1 (mant F x.2 * up (pw E F x.2)) (dn (pw E F x.2)) < 2 ^ (KU + 1) := by
    have q1 := Nat.div_le_self (mant F x.2 * up (pw E F x.2)) (dn (pw E F x.2))
    have q2 := wholeM_le wy x.1 (mant F x.2 * up (pw E F x.2)) (dn (pw E F x.2))
    rw [Nat.pow_succ]
    omega
  refine q_asgT (ev_call (d := .tup [nD x.1, nD (mant F x.2 * up (pw E F x.2)), nD (dn (pw E F x.2))]) ⟨E, F, x.1, x.2, z, hx.1, lx, rfl, rfl⟩ (ea_cons (ev_var rfl) (ea_cons (ev_var rfl) ea_nil))) (tg_tup (tgs_cons tg_name (tgs_cons tg_name (tgs_cons tg_name tgs_nil)))) ?_
  generalize mant F x.2 * up (pw E F x.2) = a at *
  generalize dn (pw E F x.2) = b at *
  refine q_asg (ev_call (d := nD (wholeM wy x.1 a b)) ⟨wy, x.1, a, b, hx.1, hdp, lt_up u1 (by omega), lt_up d1 (by omega), hcd, rfl, rfl⟩ (ea_cons (ev_var rfl) (ea_cons (ev_var rfl) (ea_cons (ev_var rfl) (ea_cons (ev_var rfl) ea_nil))))) ?_
  generalize wholeM wy x.1 a b = v at *
  show Sx K _ [some (sz E F), some (.str (wn wy)), some (btD E F x), some (.str (kindS E F x.2)), some (nD x.1), some (nD a), some (nD b), some (nD v), none, none] _
  refine q_asgT (ev_call (d := ansD E F x.1 (rnd E F wy x.1 v 1)) ⟨E, F, wy, x.1, v, 1, z, hx.1, by decide, lt_up wb (by omega), tp' _ (by rw [hB1]; decide), rfl, rfl⟩ (ea_cons (ev_var rfl) (ea_cons (ev_var rfl) (ea_cons (ev_var rfl) (ea_cons (ev_var rfl) (ea_cons (ev_nat (n := 1)) ea_nil)))))) (tg_tup (tgs_cons tg_name (tgs_cons tg_name tgs_nil))) ?_
  refine q_asg (ev_op on_and (ev_var rfl) (ev_nat (n := 4))) ?_
  show Sx K _ [some (sz E F), some (.str (wn wy)), some (btD E F x), some (.str (kindS E F x.2)), some (nD x.1), some (nD a), some (nD b), some (nD v), some (nD (bt E F x.1 (rnd E F wy x.1 v 1).1)), some (nD ((rnd E F wy x.1 v 1).2 &&& 4))] _
  refine q_ifset (d := nD (((rnd E F wy x.1 v 1).2 &&& 4) ||| (if v * b = a then 0 else 1))) (et_test (ev_op on_ne (ev_op (on_mul (c_mul wb d1 (by decide))) (ev_var rfl) (ev_var rfl)) (ev_var rfl))) (fun h3 => ?_) (fun h3 => ?_) ?_
  · rw [if_neg (of_decide_eq_true h3)]
    exact ev_op on_or (ev_var rfl) (ev_nat (n := 1))
  · have h4 := of_decide_eq_false h3
    rw [if_pos (Decidable.not_not.mp h4), Nat.or_zero]
    rfl
  exact s_ret (ev_tup (ea_cons (ev_var rfl) (ea_cons (ev_var rfl) ea_nil))) rfl
end
end RM
set_option Elab.async false
set_option linter.all false
set_option maxRecDepth 100000
set_option maxHeartbeats 2000000
namespace RM
open PySem PySem.Spec PyProof.Rows L2
open Evl (Ex Ex.refl Ex.trans Ex.new Ex.mut ex_l ex_t ex_rd fresh_back)
/-! ### calls of whose answer only a law is told -/
def EvaE (K : PySem.W.Frag) (te : TE) (ds : DE) (p : D → Prop) : Prop := ∀ σ H, EnvR K H σ ds → ∀ Q : VK, (∀ d v H', p d → Ex H H' → Rep K H' v d → Q v H') → te σ H Q
def spX (K : PySem.W.Frag) (g : List D → (D → Prop) → Prop) : Sp := fun vs H Q _ => ∃ ds p, RepL K H vs ds ∧ g ds p ∧ ∀ d v H', p d → Ex H H' → Rep K H' v d → Q v H'
section
variable {K : PySem.W.Frag} {ds : DE} {te : TE} {p : D → Prop} {S : PD} {tu : TS}
theorem ev_callE {g : List D → (D → Prop) → Prop} {t : TA} {es : List D} {E : XK} (hg : g es p) (h : EvA K t ds es) : EvaE K (tCall (spX K g) [] E t) ds p := fun σ H e Q q =>
  h σ H e _ fun vs H1 e1 r1 => ⟨es, p, by rw [List.append_nil]; exact r1, hg, fun d v H2 hd e2 r2 => q d v H2 hd (e1.trans e2) r2⟩
theorem s_retE (h : EvaE K te ds p) (k : ∀ d, p d → S.rt d) : Sx K (tRet te) ds S := fun σ H Dn e m => h σ H e _ fun d v H1 hd e1 r1 => m.rt v H1 d e1 r1 (k d hd)
theorem q_asgE {i : Nat} (h : EvaE K te ds p) (k : ∀ d, p d → Sx K tu (ds.set i (some d)) S) : Sx K (tSeq (tAsg te (gName i)) tu) ds S := fun σ H Dn e m =>
  h σ H e _ fun d v H1 hd e1 r1 => k d hd _ H1 Dn ((e.mono e1).set i r1) (m.mono e1)
/-- an if whose ways come together by a law -/
theorem q_ifJ {t : TT} {tw tz : TS} {x : Prop} [Decidable x] (J : DE → Prop) (h : EvT K t ds (decide x)) (h1 : x → Sx K tu ds { S with nx := J }) (h2 : ¬ x → Sx K tw ds { S with nx := J }) (k : ∀ ds', J ds' → Sx K tz ds' S) : Sx K (tSeq (tIfS t tu tw) tz) ds S :=
  s_seq (s_if h (fun q => s_weak (h1 q) (fun y e => k y e) (fun _ z => z) (fun _ z => z) fun _ z => z) fun q => s_weak (h2 q) (fun y e => k y e) (fun _ z => z) (fun _ z => z) fun _ z => z)
theorem q_ifJb {t : TT} {tw tz : TS} {x : Bool} (J : DE → Prop) (h : EvT K t ds x) (h1 : x = true → Sx K tu ds { S with nx := J }) (h2 : x = false → Sx K tw ds { S with nx := J }) (k : ∀ ds', J ds' → Sx K tz ds' S) : Sx K (tSeq (tIfS t tu tw) tz) ds S :=
  s_seq (s_ifb h (fun q => s_weak (h1 q) (fun y e => k y e) (fun _ z => z) (fun _ z => z) fun _ z => z) fun q => s_weak (h2 q) (fun y e => k y e) (fun _ z => z) (fun _ z => z) fun _ z => z)
end
section
variable {P : Program} {w : World} {K : PySem.W.Frag} {mg : Str → Option Value} {base : Heap}
theorem fn_okX {x qual : Str} {st : Stmt} {f : Addr} {fd : FuncData} {N ps : List Str} {k : Nat} {g : List D → (D → Prop) → Prop} (F : FnP K x qual st f fd) (S : FnScope N ps (defScope st)) (hlen : ∀ ds p, g ds p → ds.length = ps.length)
    (hbody : ∀ (cdv : Value) (A : Around) (outer : List Env) (s : Shared) (H : Hp) (E : XK), Room k (A.deeper (envOfC qual (defScope st) s.heap.objs.size f cdv)) →
      ∃ t, PSs (cxOf CX0 P w K mg base N qual (defScope st) f cdv A outer s H E).nox (defBody st) t ∧ ∀ ds p, g ds p → Sx K t (startD N ds) { nx := fun _ => p .non, rt := p }) : FnOk P w K mg base CX0 (k + 1) f fd ps (spX K g) := by
  refine F.ok (CX := CX0) S (fun vs H Q E h => ?_) (fun cdv A outer s H vs Q E hr h => ?_)
  · obtain ⟨ds, d, r, hg, _⟩ := h
    rw [r.length]
    exact hlen ds d hg
  · obtain ⟨t, h1, h2⟩ := hbody cdv A outer s H E hr
    obtain ⟨ds, p, r, hg, q⟩ := h
    exact ⟨t, h1.nox, h2 ds p hg _ H _ (EnvR.init r) ⟨fun σ' H' ds' e _ z => q _ _ _ z e .non, fun v H' d' e r' z => q d' v H' z e r', fun _ _ _ _ _ z => z.elim, fun _ _ _ _ _ z => z.elim⟩⟩
end
/-! ### cells -/
def CB : Nat := 1100000
theorem CB_v : CB = 1100000 := rfl
def Ce (c : Int) : Prop := c.natAbs < 2 ^ CB
abbrev md (c : Int) (m : Nat) : Nat := (c % (m : Int)).toNat
theorem md_lt (c : Int) {m : Nat} (h : 0 < m) : md c m < m := by
  have h1 := Int.emod_nonneg c (show (m : Int) ≠ 0 by omega)
  have h2 := Int.emod_lt_of_pos c (show (0 : Int) < (m : Int) by omega)
  show (c % (m : Int)).toNat < m
  omega
theorem Ce.div {c : Int} (h : Ce c) (m : Nat) : Ce (c / (m : Int)) := Nat.lt_of_le_of_lt (Int.natAbs_ediv_le_natAbs c m) h
theorem Ce.nat {n k : Nat} (h : n < 2 ^ k) (hk : k ≤ CB) : Ce (n : Int) := by
  unfold Ce
  rw [Int.natAbs_natCast]
  exact lt_up h hk
theorem c_dv {c : Int} {m : Nat} (h0 : 0 < m) (h : m < 1073741824) : CDivP c (m : Int) := ⟨by omega, PyProof.noPylong_small (by rw [Int.natAbs_natCast]; exact h)⟩
theorem c_mulc {c : Int} {m n : Nat} (hc : Ce c) (h : m < 2 ^ n) (hn : n ≤ 1000) : CMulX c (m : Int) := mulx_ok (a := CB) hc (natAbs_lt h) (by have := CB_v; omega)
section
variable {K : PySem.W.Frag} {ds : DE} {E F : Nat} {t0 t1 : TE} {i : Nat}
theorem e0 (h : ds[i]? = some (some (sz E F))) : Eva K (tOp (rIxT K) (tVar i) (tC (.int 0))) ds (nD E) := ev_op (o_ixT rfl) (ev_var h) (ev_nat (n := 0))
theorem e1 (h : ds[i]? = some (some (sz E F))) : Eva K (tOp (rIxT K) (tVar i) (tC (.int 1))) ds (nD F) := ev_op (o_ixT rfl) (ev_var h) (ev_nat (n := 1))
theorem eTop (z : Sz E F) (h0 : Eva K t0 ds (nD E)) (h1 : Eva K t1 ds (nD F)) : Eva K (tOp (rI CShl fun i j => .int (i * 2 ^ j.toNat)) (tC (.int 1)) (tOp (rI0 fun i j => .int (i + j)) t0 t1)) ds (nD (top E F)) :=
  ev_op (on_one (by have := z.e15; have := z.f112; omega)) (ev_nat (n := 1)) (ev_op on_add h0 h1)
theorem eLast (z : Sz E F) (h0 : Eva K t0 ds (nD E)) (h1 : Eva K t1 ds (nD F)) : Eva K (tOp (rI CShl fun i j => .int (i * 2 ^ j.toNat)) (tOp (rI0 fun i j => .int (i - j)) (tOp (rI CShl fun i j => .int (i * 2 ^ j.toNat)) (tC (.int 1)) t0) (tC (.int 1))) t1) ds (nD (last E F)) :=
  ev_op (on_shl (c_shl (n := 16) (by have := pow_lt (n := E) (m := 16) (by have := z.e15; omega); omega) (by have := z.f112; omega))) (ev_op (on_sub (tp E)) (ev_op (on_one (by have := z.e15; omega)) (ev_nat (n := 1)) h0) (ev_nat (n := 1))) h1
theorem eFig (z : Sz E F) (h1 : Eva K t1 ds (nD F)) : Eva K (tOp (rI CShl fun i j => .int (i * 2 ^ j.toNat)) (tC (.int 1)) t1) ds (nD (2 ^ F)) :=
  ev_op (on_one (by have := z.f112; omega)) (ev_nat (n := 1)) h1
theorem eTall (z : Sz E F) (h0 : Eva K t0 ds (nD E)) : Eva K (tOp (rI CShl fun i j => .int (i * 2 ^ j.toNat)) (tC (.int 1)) t0) ds (nD (2 ^ E)) :=
  ev_op (on_one (by have := z.e15; omega)) (ev_nat (n := 1)) h0
theorem eHalf (z : Sz E F) (h0 : Eva K t0 ds (nD E)) : Eva K (tOp (rI CShl fun i j => .int (i * 2 ^ j.toNat)) (tC (.int 1)) (tOp (rI0 fun i j => .int (i - j)) t0 (tC (.int 1)))) ds (nD (hf E)) :=
  ev_op (on_one (by have := z.e15; omega)) (ev_nat (n := 1)) (ev_op (on_sub (by have := z.e2; omega)) h0 (ev_nat (n := 1)))
theorem eStep (z : Sz E F) (h0 : Eva K t0 ds (nD E)) (h1 : Eva K t1 ds (nD F)) : Eva K (tOp (rI0 fun i j => .int (i + j)) (tOp (rI0 fun i j => .int (i - j)) (tOp (rI CShl fun i j => .int (i * 2 ^ j.toNat)) (tC (.int 1)) (tOp (rI0 fun i j => .int (i - j)) t0 (tC (.int 1)))) (tC (.int 2))) t1) ds (nD (st E F)) :=
  ev_op on_add (ev_op (on_sub (hf2 z)) (eHalf z h0) (ev_nat (n := 2))) h1
theorem eHalfF (z : Sz E F) (h1 : Eva K t1 ds (nD F)) : Eva K (tOp (rI CShl fun i j => .int (i * 2 ^ j.toNat)) (tC (.int 1)) (tOp (rI0 fun i j => .int (i - j)) t1 (tC (.int 1)))) ds (nD (2 ^ (F - 1))) :=
  ev_op (on_one (by have := z.f112; omega)) (ev_nat (n := 1)) (ev_op (on_sub (by have := z.f1; omega)) h1 (ev_nat (n := 1)))
theorem eNan (z : Sz E F) (hl : Eva K t0 ds (nD (last E F))) (h1 : Eva K t1 ds (nD F)) : Eva K (tOp (rI0 fun i j => .int (i + j)) t0 (tOp (rI CShl fun i j => .int (i * 2 ^ j.toNat)) (tC (.int 1)) (tOp (rI0 fun i j => .int (i - j)) t1 (tC (.int 1))))) ds (nD (nan E F)) :=
  ev_op on_add hl (eHalfF z h1)
theorem e_md {c : Int} {m : Nat} (h : 0 < m) (h0 : Eva K t0 ds (.int c)) (h1 : Eva K t1 ds (nD m)) : Eva K (tOp (rI (fun _ j => 0 < j) fun i j => .int (i % j)) t0 t1) ds (nD (md c m)) := ev_op (o_mod h) h0 h1
theorem e_dv {c : Int} (m : Nat) (h : 0 < m) (h2 : m < 1073741824) (h0 : Eva K t0 ds (.int c)) : Eva K (tOp (rI CDivP fun i j => .int (i / j)) t0 (tC (.int (m : Int)))) ds (.int (c / (m : Int))) := ev_op (o_div (c_dv h h2)) h0 (ev_nat (n := m))
end
theorem at_nats {vs : List Nat} {n : Nat} (h : n < vs.length) : ∃ v ∈ vs, atI (vs.map fun (x : Nat) => nD x) (n : Int) = some (nD v) :=
  ⟨vs[n], List.getElem_mem h, atI_nat (by rw [List.getElem?_map, List.getElem?_eq_getElem h]; rfl)⟩
theorem at_map {α : Type} {f : α → D} {vs : List α} {n : Nat} (h : n < vs.length) : ∃ v ∈ vs, atI (vs.map f) (n : Int) = some (f v) :=
  ⟨vs[n], List.getElem_mem h, atI_nat (by rw [List.getElem?_map, List.getElem?_eq_getElem h]; rfl)⟩
theorem clip (i : Int) (m : Nat) : ∃ n : Nat, n ≤ m ∧ maxI ((0 : Nat) : Int) (minI i (m : Int)) = (n : Int) := by
  refine ⟨(maxI ((0 : Nat) : Int) (minI i (m : Int))).toNat, ?_, ?_⟩
  · unfold maxI minI
    split <;> split <;> omega
  · unfold maxI minI
    split <;> split <;> omega
def isB (E F : Nat) (d : D) : Prop := ∃ x : Nat × Nat, okB E F x ∧ d = btD E F x
theorem is_b {E F n : Nat} (h : n < 2 * top E F) : isB E F (nD n) := by
  have hp := top_pos E F
  refine ⟨(n / top E F, n % top E F), ⟨?_, Nat.mod_lt _ hp⟩, congrArg nD ?_⟩
  · have := Nat.div_lt_of_lt_mul (show n < top E F * 2 by omega)
    show n / top E F ≤ 1
    omega
  · show n = n / top E F * top E F + n % top E F
    rw [Nat.mul_comm, Nat.div_add_mod]
theorem s_top {E F s c : Nat} (hs : s ≤ 1) (hc : c < top E F) : s * top E F + c < 2 * top E F := by
  have := Nat.mul_le_mul_right (top E F) hs
  omega
theorem f_top {E F f g : Nat} (hf : f ≤ 2 ^ E - 1) (hg : g < 2 ^ F) : f * 2 ^ F + g < top E F := by
  have h1 : (f + 1) * 2 ^ F ≤ 2 ^ E * 2 ^ F := Nat.mul_le_mul_right _ (by have := tp E; omega)
  rw [Nat.succ_mul] at h1
  unfold top
  rw [Nat.pow_add]
  omega
theorem xor_eq (n m : Nat) : xorN n m = n ^^^ m := by
  unfold xorN
  rw [Bits.bitXor_pp (Int.natCast_nonneg _) (Int.natCast_nonneg _)]
  rfl
theorem top2 (E F : Nat) : 2 * top E F = 2 ^ (E + F + 1) := by
  unfold top
  rw [Nat.pow_succ]
  omega
theorem xor_top2 {E F n m : Nat} (hn : n < 2 * top E F) (hm : m < 2 * top E F) : xorN n m < 2 * top E F := by
  rw [xor_eq]
  rw [top2] at *
  exact Nat.xor_lt_two_pow hn hm
theorem top_ge8 {E F : Nat} (z : Sz E F) : 8 ≤ top E F := by
  unfold top
  exact Nat.le_trans (show 8 ≤ 2 ^ 3 by decide) (Nat.pow_le_pow_right (by decide) (by have := z.e2; have := z.f1; omega))
theorem bt_top2 {E F : Nat} {x : Nat × Nat} (h : okB E F x) : bt E F x.1 x.2 < 2 * top E F := s_top h.1 h.2
/-! ### what the law's own defs do -/
def gCell (ds : List D) (d : D) : Prop := ∃ (ns : List Int) (k : Nat), ds = [.lst (ns.map D.int), nD k] ∧ d = .int (ns.getD k 0)
def gWhole (ds : List D) (d : D) : Prop := ∃ i : Int, ds = [.int i] ∧ d = .bl true
def gTwo (ds : List D) (d : D) : Prop := ∃ i j : Int, ds = [.tup [.int i, .int j]] ∧ d = .bl true
def xSize (ds : List D) (p : D → Prop) : Prop := ∃ c : Int, ds = [.int c] ∧ p = fun d => ∃ E F, Sz E F ∧ d = sz E F
def xWay (ds : List D) (p : D → Prop) : Prop := ∃ c : Int, ds = [.int c] ∧ p = fun d => ∃ wy, d = .str (wn wy)
def mixC : Nat := 73846150927364518273645509182736455091827
def mixN (c : Int) (m : Nat) : Nat := md (c * (mixC : Nat)) m
def gMix (ds : List D) (d : D) : Prop := ∃ (c : Int) (m : Nat), Ce c ∧ 0 < m ∧ ds = [.int c, nD m] ∧ d = nD (mixN c m)
def xBits (ds : List D) (p : D → Prop) : Prop := ∃ (E F : Nat) (c : Int), Sz E F ∧ Ce c ∧ ds = [sz E F, .int c] ∧ p = isB E F
def gVal (ds : List D) (d : D) : Prop := ∃ (E F c : Nat), Sz E F ∧ c < top E F ∧ ds = [sz E F, nD c] ∧ d = nD (val F c)
def xMate (ds : List D) (p : D → Prop) : Prop := ∃ (E F : Nat) (x : Nat × Nat) (c : Int) (t : Bool), Sz E F ∧ okB E F x ∧ Ce c ∧ ds = [sz E F, btD E F x, .int c, .bl t] ∧ p = isB E F
def xThird (ds : List D) (p : D → Prop) : Prop := ∃ (E F : Nat) (x y : Nat × Nat) (c : Int), Sz E F ∧ okB E F x ∧ okB E F y ∧ Ce c ∧ ds = [sz E F, btD E F x, btD E F y, .int c] ∧ p = isB E F
def xPart (ds : List D) (p : D → Prop) : Prop := ∃ (E F : Nat) (xs : List (Nat × Nat)) (x : Nat × Nat) (n : Nat) (c : Int), Sz E F ∧ xs ≠ [] ∧ (∀ x ∈ xs, okB E F x) ∧ okB E F x ∧ Ce c ∧ ds = [sz E F, .lst (xs.map (btD E F)), btD E F x, nD n, .int c] ∧ p = isB E F
def gIs (ds : List D) (d : D) : Prop := ∃ (a b c e : Nat), ds = [prD (a, b), nD c, nD e] ∧ d = .bl (decide (a = c) && decide (b = e))
theorem mix_lt (c : Int) {m : Nat} (h : 0 < m) : mixN c m < m := md_lt _ h
theorem val_KU {E F c : Nat} (z : Sz E F) (h : c < top E F) : val F c < 2 ^ KU := by
  have h1 := val_lt (F := F) h
  have e : top E F = ((2 ^ E - 1) + 1) * 2 ^ F := by
    unfold top
    rw [Nat.sub_add_cancel (tp E), Nat.pow_add]
  rw [e, val_pow] at h1
  refine lt_up h1 ?_
  have := z.f112
  have h2 : 2 ^ E ≤ 2 ^ 15 := Nat.pow_le_pow_right (by decide) z.e15
  have := KU_v
  omega
section
variable {P : Program} {w : World} {K : PySem.W.Frag} {mg : Str → Option Value} {base : Heap}
theorem sc_l_cell_at : FnScope ["_law_script", "_law_k"] ["_law_script", "_law_k"] (defScope s_l_cell_at) := ⟨rfl, rfl, rfl, by decide +kernel, rfl, by decide +kernel, by decide +kernel⟩
theorem ok_l_cell_at {f : Addr} {fd : FuncData} (F : FnP K "_law_cell_at" "_law_cell_at" s_l_cell_at f fd) (b_len : mg "len" = none) : FnOk P w K mg base CX0 1 f fd ["_law_script", "_law_k"] (spD K gCell) := by
  refine fn_okD F sc_l_cell_at (fun ds d hg => ?_) fun cdv A outer s H E hr => ⟨_, (pss_cons (ps_if (pt_cmpR op_lt (pv 1) (pe_callB call_len_seq (by rfl) b_len (by decide +kernel) (pa_cons (pv 0) pa_nil)) (nomark _)) (pss_one (ps_ret (pe_ix (r := rIxL K) ix_list (pv 0) (pv 1) (fun _ _ => rfl)))) pss_nil)
    (pss_one (ps_ret pe_int))), fun ds d hg => ?_⟩
  · obtain ⟨ns, k, rfl, rfl⟩ := hg
    rfl
  obtain ⟨ns, k, rfl, rfl⟩ := hg
  refine q_when (et_test (ev_op on_lt (ev_var rfl) (ev_cb c_lenL (ea_cons (ev_var rfl) ea_nil)))) (fun h => ?_) (fun h => ?_)
  · rw [List.length_map] at h
    refine s_ret (ev_op (o_ixL (d := .int ns[k]) (atI_nat (by rw [List.getElem?_map, List.getElem?_eq_getElem h]; rfl))) (ev_var rfl) (ev_var rfl)) ?_
    rw [List.getD_eq_getElem?_getD, List.getElem?_eq_getElem h]
    rfl
  · rw [List.length_map] at h
    refine s_ret (ev_nat (n := 0)) ?_
    rw [List.getD_eq_getElem?_getD, List.getElem?_eq_none (by omega)]
    rfl
theorem sc_l_whole : FnScope ["_law_found"] ["_law_found"] (defScope s_l_whole) := ⟨rfl, rfl, rfl, by decide +kernel, rfl, by decide +kernel, by decide +kernel⟩
theorem ok_l_whole {f : Addr} {fd : FuncData} (F : FnP K "_law_whole" "_law_whole" s_l_whole f fd) (b_isinstance : mg "isinstance" = none) (b_bool : mg "bool" = none) (b_int : mg "int" = none) : FnOk P w K mg base CX0 1 f fd ["_law_found"] (spD K gWhole) := by
  refine fn_okD F sc_l_whole (fun ds d hg => ?_) fun cdv A outer s H E hr => ⟨_, (pss_one (ps_ret (pe_and (pe_callB call_isi (by rfl) b_isinstance (by decide +kernel) (pa_cons (pv 0) (pa_cons (pe_bltn (v := .ty "int") (by rfl) b_int (by decide +kernel) rfl) pa_nil))) (pe_one (pe_not (pe_callB call_isi (by rfl) b_isinstance (by decide +kernel) (pa_cons (pv 0) (pa_cons (pe_bltn (v := .ty "bool") (by rfl) b_bool (by decide +kernel) rfl) pa_nil)))))))), fun ds d hg => ?_⟩
  · obtain ⟨i, rfl, rfl⟩ := hg
    rfl
  obtain ⟨i, rfl, rfl⟩ := hg
  exact s_ret (ev_andV (ev_cb (c_isi_int (x := true) rfl) (ea_cons (ev_var rfl) (ea_cons ev_ty ea_nil))) fun _ => (ev_notV (ev_cb (c_isi_int (x := false) rfl) (ea_cons (ev_var rfl) (ea_cons ev_ty ea_nil))))) rfl
theorem sc_l_two : FnScope ["_law_found"] ["_law_found"] (defScope s_l_two) := ⟨rfl, rfl, rfl, by decide +kernel, rfl, by decide +kernel, by decide +kernel⟩
theorem ok_l_two {f : Addr} {fd : FuncData} (F : FnP K "_law_two" "_law_two" s_l_two f fd) (c_l_whole : Cal P w K mg base 1 "_law_whole" (spD K gWhole)) (b_len : mg "len" = none) (b_isinstance : mg "isinstance" = none) (b_tuple : mg "tuple" = none) : FnOk P w K mg base CX0 2 f fd ["_law_found"] (spD K gTwo) := by
  refine fn_okD F sc_l_two (fun ds d hg => ?_) fun cdv A outer s H E hr => ⟨_, (pss_cons (ps_if (PW.pt (pw_or (pt_not (pt_val (pe_callB call_isi (by rfl) b_isinstance (by decide +kernel) (pa_cons (pv 0) (pa_cons (pe_bltn (v := .ty "tuple") (by rfl) b_tuple (by decide +kernel) rfl) pa_nil))))) (pw_or1 (pt_cmpR op_ne (pe_callB call_len_seq (by rfl) b_len (by decide +kernel) (pa_cons (pv 0) pa_nil)) pe_int (nomark _))))) (pss_one (ps_ret pe_bl)) pss_nil)
    (pss_one (ps_ret (pe_and (pe_c c_l_whole hr rfl (pa_cons (pe_ix (r := rIxT K) ix_tup (pv 0) pe_int (fun _ _ => rfl)) pa_nil)) (pe_one (pe_c c_l_whole hr rfl (pa_cons (pe_ix (r := rIxT K) ix_tup (pv 0) pe_int (fun _ _ => rfl)) pa_nil))))))), fun ds d hg => ?_⟩
  · obtain ⟨i, j, rfl, rfl⟩ := hg
    rfl
  obtain ⟨i, j, rfl, rfl⟩ := hg
  refine q_whenb (x := false) (et_or (et_not (et_B (ev_cb (c_isi_tup (x := true) rfl) (ea_cons (ev_var rfl) (ea_cons ev_ty ea_nil))))) fun _ => (et_test (ev_op on_ne (ev_cb c_lenT (ea_cons (ev_var rfl) ea_nil)) (ev_nat (n := 2))))) (fun h => by cases h) (fun h => ?_)
  exact s_ret (ev_andV (ev_call (d := .bl true) ⟨i, rfl, rfl⟩ (ea_cons (ev_op (o_ixT rfl) (ev_var rfl) (ev_nat (n := 0))) ea_nil)) fun _ => (ev_call (d := .bl true) ⟨j, rfl, rfl⟩ (ea_cons (ev_op (o_ixT rfl) (ev_var rfl) (ev_nat (n := 1))) ea_nil))) rfl
theorem sc_l_size_by : FnScope ["_law_cell", "_law_way", "_law_rest"] ["_law_cell"] (defScope s_l_size_by) := ⟨rfl, rfl, rfl, by decide +kernel, rfl, by decide +kernel, by decide +kernel⟩
theorem ok_l_size_by {f : Addr} {fd : FuncData} (F : FnP K "_law_size_by" "_law_size_by" s_l_size_by f fd)  : FnOk P w K mg base CX0 1 f fd ["_law_cell"] (spX K xSize) := by
  refine fn_okX F sc_l_size_by (fun ds d hg => ?_) fun cdv A outer s H E hr => ⟨_, (pss_cons (ps_set (i := 1) sc_l_size_by.nd rfl (Or.inl rfl) (pe_op op_mod (pv 0) pe_int))
    (pss_cons (ps_set (i := 2) sc_l_size_by.nd rfl (Or.inl rfl) (pe_op op_fdivP (pv 0) pe_int))
    (pss_cons (ps_if (pt_cmpR op_eq (pv 1) pe_int (nomark _)) (pss_one (ps_ret (pe_tup (pa_cons pe_int (pa_cons pe_int pa_nil))))) pss_nil)
    (pss_cons (ps_if (pt_cmpR op_eq (pv 1) pe_int (nomark _)) (pss_one (ps_ret (pe_tup (pa_cons pe_int (pa_cons pe_int pa_nil))))) pss_nil)
    (pss_cons (ps_if (pt_cmpR op_eq (pv 1) pe_int (nomark _)) (pss_one (ps_ret (pe_tup (pa_cons pe_int (pa_cons pe_int pa_nil))))) pss_nil)
    (pss_cons (ps_if (pt_cmpR op_eq (pv 1) pe_int (nomark _)) (pss_one (ps_ret (pe_tup (pa_cons pe_int (pa_cons pe_int pa_nil))))) pss_nil)
    (pss_cons (ps_if (pt_cmpR op_lt (pv 1) pe_int (nomark _)) (pss_one (ps_ret (pe_tup (pa_cons (pe_op op_add pe_int (pe_op op_mod (pv 2) pe_int)) (pa_cons (pe_op op_add pe_int (pe_op op_mod (pe_op op_fdivP (pv 2) pe_int) pe_int)) pa_nil))))) pss_nil)
    (pss_one (ps_ret (pe_tup (pa_cons (pe_op op_add pe_int (pe_op op_mod (pv 2) pe_int)) (pa_cons (pe_op op_add pe_int (pe_op op_mod (pe_op op_fdivP (pv 2) pe_int) pe_int)) pa_nil)))))))))))), fun ds d hg => ?_⟩
  · obtain ⟨c, rfl, rfl⟩ := hg
    rfl
  obtain ⟨c, rfl, rfl⟩ := hg
  refine q_asg (e_md (by decide) (ev_var rfl) (ev_nat (n := 8))) ?_
  refine q_asg (e_dv 8 (by decide) (by decide) (ev_var rfl)) ?_
  refine q_when (et_test (ev_op on_eq (ev_var rfl) (ev_nat (n := 0)))) (fun h => ?_) (fun h => ?_)
  · exact s_ret (ev_tup (ea_cons (ev_nat (n := 5)) (ea_cons (ev_nat (n := 10)) ea_nil))) ⟨5, 10, ⟨by decide, by decide, by decide, by decide⟩, rfl⟩
  refine q_when (et_test (ev_op on_eq (ev_var rfl) (ev_nat (n := 1)))) (fun h => ?_) (fun h => ?_)
  · exact s_ret (ev_tup (ea_cons (ev_nat (n := 8)) (ea_cons (ev_nat (n := 23)) ea_nil))) ⟨8, 23, ⟨by decide, by decide, by decide, by decide⟩, rfl⟩
  refine q_when (et_test (ev_op on_eq (ev_var rfl) (ev_nat (n := 2)))) (fun h => ?_) (fun h => ?_)
  · exact s_ret (ev_tup (ea_cons (ev_nat (n := 11)) (ea_cons (ev_nat (n := 52)) ea_nil))) ⟨11, 52, ⟨by decide, by decide, by decide, by decide⟩, rfl⟩
  refine q_when (et_test (ev_op on_eq (ev_var rfl) (ev_nat (n := 3)))) (fun h => ?_) (fun h => ?_)
  · exact s_ret (ev_tup (ea_cons (ev_nat (n := 15)) (ea_cons (ev_nat (n := 112)) ea_nil))) ⟨15, 112, ⟨by decide, by decide, by decide, by decide⟩, rfl⟩
  refine q_when (et_test (ev_op on_lt (ev_var rfl) (ev_nat (n := 6)))) (fun h => ?_) (fun h => ?_)
  · refine s_ret (ev_tup (ea_cons (ev_op on_add (ev_nat (n := 2)) (e_md (m := 14) (by decide) (ev_var rfl) (ev_nat (n := 14)))) (ea_cons (ev_op on_add (ev_nat (n := 1)) (e_md (m := 112) (by decide) (e_dv 14 (by decide) (by decide) (ev_var rfl)) (ev_nat (n := 112)))) ea_nil))) ⟨_, _, ⟨?_, ?_, ?_, ?_⟩, rfl⟩
    · exact Nat.le_add_right _ _
    · have := md_lt (c / ((8 : Nat) : Int)) (m := 14) (by decide)
      omega
    · exact Nat.le_add_right _ _
    · have := md_lt (c / ((8 : Nat) : Int) / ((14 : Nat) : Int)) (m := 112) (by decide)
      omega
  · refine s_ret (ev_tup (ea_cons (ev_op on_add (ev_nat (n := 2)) (e_md (m := 4) (by decide) (ev_var rfl) (ev_nat (n := 4)))) (ea_cons (ev_op on_add (ev_nat (n := 1)) (e_md (m := 5) (by decide) (e_dv 4 (by decide) (by decide) (ev_var rfl)) (ev_nat (n := 5)))) ea_nil))) ⟨_, _, ⟨?_, ?_, ?_, ?_⟩, rfl⟩
    · exact Nat.le_add_right _ _
    · have := md_lt (c / ((8 : Nat) : Int)) (m := 4) (by decide)
      omega
    · exact Nat.le_add_right _ _
    · have := md_lt (c / ((8 : Nat) : Int) / ((4 : Nat) : Int)) (m := 5) (by decide)
      omega
theorem sc_l_way_by : FnScope ["_law_cell"] ["_law_cell"] (defScope s_l_way_by) := ⟨rfl, rfl, rfl, by decide +kernel, rfl, by decide +kernel, by decide +kernel⟩
theorem ok_l_way_by {f : Addr} {fd : FuncData} (F : FnP K "_law_way_by" "_law_way_by" s_l_way_by f fd)  : FnOk P w K mg base CX0 1 f fd ["_law_cell"] (spX K xWay) := by
  refine fn_okX F sc_l_way_by (fun ds d hg => ?_) fun cdv A outer s H E hr => ⟨_, (pss_one (ps_ret (pe_ix (r := rIxL K) ix_list (pe_lst (pa_cons pe_str (pa_cons pe_str (pa_cons pe_str (pa_cons pe_str (pa_cons pe_str pa_nil)))))) (pe_op op_mod (pv 0) pe_int) (fun _ _ => rfl)))), fun ds d hg => ?_⟩
  · obtain ⟨c, rfl, rfl⟩ := hg
    rfl
  obtain ⟨c, rfl, rfl⟩ := hg
  obtain ⟨wy, _, hw⟩ := at_map (f := fun wy => D.str (wn wy)) (vs := [.even, .away, .nought, .up, .down]) (md_lt c (m := 5) (by decide))
  exact s_ret (ev_op (o_ixL (xs := [.str "even", .str "away", .str "nought", .str "up", .str "down"]) hw) (ev_lst (ea_cons ev_str (ea_cons ev_str (ea_cons ev_str (ea_cons ev_str (ea_cons ev_str ea_nil)))))) (e_md (by decide) (ev_var rfl) (ev_nat (n := 5)))) ⟨wy, rfl⟩
theorem sc_l_mixed : FnScope ["_law_cell", "_law_many"] ["_law_cell", "_law_many"] (defScope s_l_mixed) := ⟨rfl, rfl, rfl, by decide +kernel, rfl, by decide +kernel, by decide +kernel⟩
theorem ok_l_mixed {f : Addr} {fd : FuncData} (F : FnP K "_law_mixed" "_law_mixed" s_l_mixed f fd)  : FnOk P w K mg base CX0 1 f fd ["_law_cell", "_law_many"] (spD K gMix) := by
  refine fn_okD F sc_l_mixed (fun ds d hg => ?_) fun cdv A outer s H E hr => ⟨_, (pss_one (ps_ret (pe_op op_mod (pe_op op_mulX (pv 0) pe_int) (pv 1)))), fun ds d hg => ?_⟩
  · obtain ⟨c, m, hc, hm, rfl, rfl⟩ := hg
    rfl
  obtain ⟨c, m, hc, hm, rfl, rfl⟩ := hg
  exact s_ret (e_md hm (ev_op (o_mul (c_mulc (m := 73846150927364518273645509182736455091827) (n := 200) hc (by decide) (by decide))) (ev_var rfl) (ev_nat (n := 73846150927364518273645509182736455091827))) (ev_var rfl)) rfl
theorem sc_l_value : FnScope ["_law_size", "_law_code", "_law_field"] ["_law_size", "_law_code"] (defScope s_l_value) := ⟨rfl, rfl, rfl, by decide +kernel, rfl, by decide +kernel, by decide +kernel⟩
theorem ok_l_value {f : Addr} {fd : FuncData} (F : FnP K "_law_value" "_law_value" s_l_value f fd)  : FnOk P w K mg base CX0 1 f fd ["_law_size", "_law_code"] (spD K gVal) := by
  refine fn_okD F sc_l_value (fun ds d hg => ?_) fun cdv A outer s H E hr => ⟨_, (pss_cons (ps_set (i := 2) sc_l_value.nd rfl (Or.inl rfl) (pe_op op_shr (pv 1) (pe_ix (r := rIxT K) ix_tup (pv 0) pe_int (fun _ _ => rfl))))
    (pss_cons (ps_if (pt_cmpR op_eq (pv 2) pe_int (nomark _)) (pss_one (ps_ret (pv 1))) pss_nil)
    (pss_one (ps_ret (pe_op op_shlW (pe_op op_add (pe_op op_shlW pe_int (pe_ix (r := rIxT K) ix_tup (pv 0) pe_int (fun _ _ => rfl))) (pe_op op_mod (pv 1) (pe_op op_shlW pe_int (pe_ix (r := rIxT K) ix_tup (pv 0) pe_int (fun _ _ => rfl))))) (pe_op op_sub (pv 2) pe_int)))))), fun ds d hg => ?_⟩
  · obtain ⟨E, F, c, z, hc, rfl, rfl⟩ := hg
    rfl
  obtain ⟨E, F, c, z, hc, rfl, rfl⟩ := hg
  show Sx K _ _ { nx := fun _ => nD (val F c) = .non, rt := fun d' => d' = nD (val F c) }
  unfold val
  have h15 := z.e15
  have hf1 := z.f112
  refine q_asg (ev_op on_shr (ev_var rfl) (e1 rfl)) ?_
  refine q_when (et_test (ev_op on_eq (ev_var rfl) (ev_nat (n := 0)))) (fun h => ?_) (fun h => ?_)
  · rw [if_pos h]
    exact s_ret (ev_var rfl) rfl
  · rw [if_neg h]
    have h2 : 2 ^ F + c % 2 ^ F < 2 ^ 200 := by
      have := Nat.mod_lt c (tp F)
      refine lt_up (n := F + 1) ?_ (by omega)
      rw [Nat.pow_succ]
      omega
    have h3 : c / 2 ^ F < 2 ^ 16 := by
      have h4 := c_lt128 z hc
      have h5 : c / 2 ^ F < 2 ^ E := by
        refine Nat.div_lt_of_lt_mul ?_
        rw [← Nat.pow_add, Nat.add_comm F E]
        exact hc
      exact lt_up h5 (by omega)
    exact s_ret (ev_op (on_shl (c_shl h2 (by omega))) (ev_op on_add (eFig z (e1 rfl)) (ev_op (on_mod (tp F)) (ev_var rfl) (eFig z (e1 rfl)))) (ev_op (on_sub (Nat.pos_of_ne_zero h)) (ev_var rfl) (ev_nat (n := 1)))) rfl
theorem sc_l_is : FnScope ["_law_found", "_law_bits", "_law_flags"] ["_law_found", "_law_bits", "_law_flags"] (defScope s_l_is) := ⟨rfl, rfl, rfl, by decide +kernel, rfl, by decide +kernel, by decide +kernel⟩
theorem ok_l_is {f : Addr} {fd : FuncData} (F : FnP K "_law_is" "_law_is" s_l_is f fd) (c_l_two : Cal P w K mg base 2 "_law_two" (spD K gTwo)) : FnOk P w K mg base CX0 3 f fd ["_law_found", "_law_bits", "_law_flags"] (spD K gIs) := by
  refine fn_okD F sc_l_is (fun ds d hg => ?_) fun cdv A outer s H E hr => ⟨_, (pss_one (ps_ret (pe_and (pe_c c_l_two hr rfl (pa_cons (pv 0) pa_nil)) (pe_and (pe_cmpR op_eq (pe_ix (r := rIxT K) ix_tup (pv 0) pe_int (fun _ _ => rfl)) (pv 1) (nomark _)) (pe_one (pe_cmpR op_eq (pe_ix (r := rIxT K) ix_tup (pv 0) pe_int (fun _ _ => rfl)) (pv 2) (nomark _))))))), fun ds d hg => ?_⟩
  · obtain ⟨a, b, c, e, rfl, rfl⟩ := hg
    rfl
  obtain ⟨a, b, c, e, rfl, rfl⟩ := hg
  exact s_ret (ev_andV (ev_call (d := .bl true) ⟨_, _, rfl, rfl⟩ (ea_cons (ev_var rfl) ea_nil)) fun _ => (ev_andV (ev_op on_eq (ev_op (o_ixT rfl) (ev_var rfl) (ev_nat (n := 0))) (ev_var rfl)) fun _ => (ev_op on_eq (ev_op (o_ixT rfl) (ev_var rfl) (ev_nat (n := 1))) (ev_var rfl)))) rfl
theorem sc_l_bits_by : FnScope ["_law_size", "_law_cell", "_law_top", "_law_last", "_law_way", "_law_rest", "_law_sign", "_law_code", "_law_field"] ["_law_size", "_law_cell"] (defScope s_l_bits_by) := ⟨rfl, rfl, rfl, by decide +kernel, rfl, by decide +kernel, by decide +kernel⟩
theorem ok_l_bits_by {f : Addr} {fd : FuncData} (F : FnP K "_law_bits_by" "_law_bits_by" s_l_bits_by f fd) (c_l_mixed : Cal P w K mg base 1 "_law_mixed" (spD K gMix)) (b_max : mg "max" = none) (b_min : mg "min" = none) : FnOk P w K mg base CX0 2 f fd ["_law_size", "_law_cell"] (spX K xBits) := by
  refine fn_okX F sc_l_bits_by (fun ds d hg => ?_) fun cdv A outer s H E hr => ⟨_, (pss_cons (ps_set (i := 2) sc_l_bits_by.nd rfl (Or.inl rfl) (pe_op op_shlW pe_int (pe_op op_add (pe_ix (r := rIxT K) ix_tup (pv 0) pe_int (fun _ _ => rfl)) (pe_ix (r := rIxT K) ix_tup (pv 0) pe_int (fun _ _ => rfl)))))
    (pss_cons (ps_set (i := 3) sc_l_bits_by.nd rfl (Or.inl rfl) (pe_op op_shlW (pe_op op_sub (pe_op op_shlW pe_int (pe_ix (r := rIxT K) ix_tup (pv 0) pe_int (fun _ _ => rfl))) pe_int) (pe_ix (r := rIxT K) ix_tup (pv 0) pe_int (fun _ _ => rfl))))
    (pss_cons (ps_set (i := 4) sc_l_bits_by.nd rfl (Or.inl rfl) (pe_op op_mod (pv 1) pe_int))
    (pss_cons (ps_set (i := 5) sc_l_bits_by.nd rfl (Or.inl rfl) (pe_op op_fdivP (pv 1) pe_int))
    (pss_cons (ps_if (pt_cmpR op_lt (pv 4) pe_int (nomark _)) (pss_one (ps_ret (pe_c c_l_mixed hr rfl (pa_cons (pv 5) (pa_cons (pe_op op_mulX pe_int (pv 2)) pa_nil))))) pss_nil)
    (pss_cons (ps_set (i := 6) sc_l_bits_by.nd rfl (Or.inl rfl) (pe_op op_mod (pv 5) pe_int))
    (pss_cons (ps_set (i := 5) sc_l_bits_by.nd rfl (Or.inl rfl) (pe_op op_fdivP (pv 5) pe_int))
    (pss_cons (ps_if (pt_cmpR op_eq (pv 4) pe_int (nomark _)) (pss_one (ps_set (i := 7) sc_l_bits_by.nd rfl (Or.inl rfl) (pe_op op_mod (pv 5) (pe_op op_shlW pe_int (pe_ix (r := rIxT K) ix_tup (pv 0) pe_int (fun _ _ => rfl)))))) (pss_one (ps_if (pt_cmpR op_eq (pv 4) pe_int (nomark _)) (pss_one (ps_set (i := 7) sc_l_bits_by.nd rfl (Or.inl rfl) (pe_op op_sub (pe_op op_add (pv 3) pe_int) (pe_op op_mod (pv 5) pe_int)))) (pss_one (ps_if (pt_cmpR op_eq (pv 4) pe_int (nomark _)) (pss_one (ps_set (i := 7) sc_l_bits_by.nd rfl (Or.inl rfl) (pe_ix (r := rIxL K) ix_list (pe_lst (pa_cons pe_int (pa_cons pe_int (pa_cons (pe_op op_sub (pe_op op_shlW pe_int (pe_ix (r := rIxT K) ix_tup (pv 0) pe_int (fun _ _ => rfl))) pe_int) (pa_cons (pe_op op_shlW pe_int (pe_ix (r := rIxT K) ix_tup (pv 0) pe_int (fun _ _ => rfl))) (pa_cons (pe_op op_sub (pv 3) pe_int) (pa_cons (pv 3) pa_nil))))))) (pe_op op_mod (pv 5) pe_int) (fun _ _ => rfl)))) (pss_cons (ps_set (i := 8) sc_l_bits_by.nd rfl (Or.inl rfl) (pe_op op_add (pe_op op_sub (pe_op op_shlW pe_int (pe_op op_sub (pe_ix (r := rIxT K) ix_tup (pv 0) pe_int (fun _ _ => rfl)) pe_int)) pe_int) (pe_op op_mod (pv 5) pe_int)))
    (pss_cons (ps_set (i := 8) sc_l_bits_by.nd rfl (Or.inl rfl) (pe_callB (call_max2 rfl) (by rfl) b_max (by decide +kernel) (pa_cons pe_int (pa_cons (pe_callB (call_min2 rfl) (by rfl) b_min (by decide +kernel) (pa_cons (pv 8) (pa_cons (pe_op op_sub (pe_op op_shlW pe_int (pe_ix (r := rIxT K) ix_tup (pv 0) pe_int (fun _ _ => rfl))) pe_int) pa_nil))) pa_nil))))
    (pss_one (ps_set (i := 7) sc_l_bits_by.nd rfl (Or.inl rfl) (pe_op op_add (pe_op op_shlW (pv 8) (pe_ix (r := rIxT K) ix_tup (pv 0) pe_int (fun _ _ => rfl))) (pe_c c_l_mixed hr rfl (pa_cons (pe_op op_fdivP (pv 5) pe_int) (pa_cons (pe_op op_shlW pe_int (pe_ix (r := rIxT K) ix_tup (pv 0) pe_int (fun _ _ => rfl))) pa_nil)))))))))))))
    (pss_one (ps_ret (pe_op op_add (pe_op op_mulX (pv 6) (pv 2)) (pv 7)))))))))))), fun ds d hg => ?_⟩
  · obtain ⟨E, F, c, z, hc, rfl, rfl⟩ := hg
    rfl
  obtain ⟨E, F, c, z, hc, rfl, rfl⟩ := hg
  have hp := tp F
  have hp2 : 2 ≤ 2 ^ F := Nat.le_trans (show 2 ≤ 2 ^ 1 by decide) (Nat.pow_le_pow_right (by decide) z.f1)
  have hlt := last_lt_top z
  have hlg := last_ge z
  have ht := top_pos E F
  refine q_asg (d := nD (top E F)) (eTop z (e0 rfl) (e1 rfl)) ?_
  refine q_asg (d := nD (last E F)) (eLast z (e0 rfl) (e1 rfl)) ?_
  refine q_asg (e_md (by decide) (ev_var rfl) (ev_nat (n := 10))) ?_
  refine q_asg (e_dv 10 (by decide) (by decide) (ev_var rfl)) ?_
  have hr := hc.div 10
  generalize c / ((10 : Nat) : Int) = r at *
  refine q_when (et_test (ev_op on_lt (ev_var rfl) (ev_nat (n := 3)))) (fun h => ?_) (fun h => ?_)
  · exact s_ret (ev_call (d := nD (mixN r (2 * top E F))) ⟨r, 2 * top E F, hr, by omega, rfl, rfl⟩ (ea_cons (ev_var rfl) (ea_cons (ev_op (on_mul (c_mul (n := 2) (by decide) (top_lt z) (by decide))) (ev_nat (n := 2)) (ev_var rfl)) ea_nil))) (is_b (mix_lt _ (by omega)))
  refine q_asg (e_md (by decide) (ev_var rfl) (ev_nat (n := 2))) ?_
  refine q_asg (e_dv 2 (by decide) (by decide) (ev_var rfl)) ?_
  have hs : md r 2 ≤ 1 := Nat.le_of_lt_succ (md_lt r (by decide))
  have hr2 := hr.div 2
  generalize md r 2 = s at *
  generalize r / ((2 : Nat) : Int) = q at *
  generalize md c 10 = wd at *
  show Sx K _ [some (sz E F), some (.int c), some (nD (top E F)), some (nD (last E F)), some (nD wd), some (.int q), some (nD s), none, none] _
  refine q_ifJ (fun ds' => ∃ (k : Nat) (f : Option D), k < top E F ∧ ds' = [some (sz E F), some (.int c), some (nD (top E F)), some (nD (last E F)), some (nD wd), some (.int q), some (nD s), some (nD k), f]) (et_test (ev_op on_eq (ev_var rfl) (ev_nat (n := 3)))) (fun h => ?_) (fun h => ?_) ?_
  · refine s_asg (e_md (by omega) (ev_var rfl) (ev_op (on_shl (c_shl (a := 2) (n := 2) (by decide) (by have := z.f112; omega))) (ev_nat (n := 2)) (e1 rfl))) ⟨_, _, Nat.lt_of_lt_of_le (md_lt _ (by omega)) ?_, rfl⟩
    omega
  · refine s_if (et_test (ev_op on_eq (ev_var rfl) (ev_nat (n := 4)))) (fun h => ?_) (fun h => ?_)
    · have h5 := md_lt q (m := 5) (by decide)
      exact s_asg (ev_op (on_sub (by omega)) (ev_op on_add (ev_var rfl) (ev_nat (n := 1))) (e_md (by decide) (ev_var rfl) (ev_nat (n := 5)))) ⟨_, _, (by omega), rfl⟩
    · refine s_if (et_test (ev_op on_eq (ev_var rfl) (ev_nat (n := 5)))) (fun h => ?_) (fun h => ?_)
      · obtain ⟨v, hv, ha⟩ := at_nats (vs := [0, 1, 2 ^ F - 1, 2 ^ F, last E F - 1, last E F]) (md_lt q (m := 6) (by decide))
        refine s_asg (ev_op (o_ixL (xs := [nD 0, nD 1, nD (2 ^ F - 1), nD (2 ^ F), nD (last E F - 1), nD (last E F)]) ha) (ev_lst (ea_cons (ev_nat (n := 0)) (ea_cons (ev_nat (n := 1)) (ea_cons (ev_op (on_sub (tp F)) (eFig z (e1 rfl)) (ev_nat (n := 1))) (ea_cons (eFig z (e1 rfl)) (ea_cons (ev_op (on_sub (by omega)) (ev_var rfl) (ev_nat (n := 1))) (ea_cons (ev_var rfl) ea_nil))))))) (e_md (by decide) (ev_var rfl) (ev_nat (n := 6)))) ⟨v, _, ?_, rfl⟩
        simp at hv
        rcases hv with rfl | rfl | rfl | rfl | rfl | rfl <;> omega
      · refine q_asg (ev_op o_add (ev_op o_sub (eHalf z (e0 rfl)) (ev_nat (n := 5))) (e_md (by decide) (ev_var rfl) (ev_nat (n := 9)))) ?_
        obtain ⟨n, hn, en⟩ := clip ((hf E : Int) - (5 : Nat) + (md q 9 : Nat)) (2 ^ E - 1)
        refine q_asg (Eva.is (d' := nD n) (ev_cb c_max (ea_cons (ev_nat (n := 0)) (ea_cons (ev_cb c_min (ea_cons (ev_var rfl) (ea_cons (ev_op (on_sub (tp E)) (eTall z (e0 rfl)) (ev_nat (n := 1))) ea_nil))) ea_nil))) (congrArg D.int en)) ?_
        have hn2 : n < 2 ^ 16 := Nat.lt_of_le_of_lt hn (by have := pow_lt (n := E) (m := 16) (by have := z.e15; omega); omega)
        exact s_asg (ev_op on_add (ev_op (on_shl (c_shl hn2 (by have := z.f112; omega))) (ev_var rfl) (e1 rfl)) (ev_call (d := nD (mixN (q / ((9 : Nat) : Int)) (2 ^ F))) ⟨_, 2 ^ F, hr2.div 9, tp F, rfl, rfl⟩ (ea_cons (e_dv 9 (by decide) (by decide) (ev_var rfl)) (ea_cons (eFig z (e1 rfl)) ea_nil)))) ⟨_, _, f_top hn (mix_lt _ (tp F)), rfl⟩
  · rintro _ ⟨k, f, hk, rfl⟩
    exact s_ret (ev_op on_add (ev_op (on_mul (c_mul (s_lt hs (Nat.le_refl 1)) (top_lt z) (by decide))) (ev_var rfl) (ev_var rfl)) (ev_var rfl)) (is_b (s_top hs hk))
theorem sc_l_odd_by : FnScope ["_law_size", "_law_cell", "_law_top", "_law_last", "_law_way", "_law_rest", "_law_first"] ["_law_size", "_law_cell"] (defScope s_l_odd_by) := ⟨rfl, rfl, rfl, by decide +kernel, rfl, by decide +kernel, by decide +kernel⟩
theorem ok_l_odd_by {f : Addr} {fd : FuncData} (F : FnP K "_law_odd_by" "_law_odd_by" s_l_odd_by f fd) (c_l_bits_by : Cal P w K mg base 2 "_law_bits_by" (spX K xBits)) : FnOk P w K mg base CX0 3 f fd ["_law_size", "_law_cell"] (spX K xBits) := by
  refine fn_okX F sc_l_odd_by (fun ds d hg => ?_) fun cdv A outer s H E hr => ⟨_, (pss_cons (ps_set (i := 2) sc_l_odd_by.nd rfl (Or.inl rfl) (pe_op op_shlW pe_int (pe_op op_add (pe_ix (r := rIxT K) ix_tup (pv 0) pe_int (fun _ _ => rfl)) (pe_ix (r := rIxT K) ix_tup (pv 0) pe_int (fun _ _ => rfl)))))
    (pss_cons (ps_set (i := 3) sc_l_odd_by.nd rfl (Or.inl rfl) (pe_op op_shlW (pe_op op_sub (pe_op op_shlW pe_int (pe_ix (r := rIxT K) ix_tup (pv 0) pe_int (fun _ _ => rfl))) pe_int) (pe_ix (r := rIxT K) ix_tup (pv 0) pe_int (fun _ _ => rfl))))
    (pss_cons (ps_set (i := 4) sc_l_odd_by.nd rfl (Or.inl rfl) (pe_op op_mod (pv 1) pe_int))
    (pss_cons (ps_set (i := 5) sc_l_odd_by.nd rfl (Or.inl rfl) (pe_op op_fdivP (pv 1) pe_int))
    (pss_cons (ps_set (i := 6) sc_l_odd_by.nd rfl (Or.inl rfl) (pe_op op_mulX (pe_op op_mod (pv 5) pe_int) (pv 2)))
    (pss_cons (ps_if (pt_cmpR op_eq (pv 4) pe_int (nomark _)) (pss_one (ps_ret (pe_op op_add (pe_op op_add (pe_op op_add (pv 6) (pv 3)) pe_int) (pe_op op_mod (pe_op op_fdivP (pv 5) pe_int) (pe_op op_sub (pe_op op_shlW pe_int (pe_ix (r := rIxT K) ix_tup (pv 0) pe_int (fun _ _ => rfl))) pe_int))))) pss_nil)
    (pss_cons (ps_if (pt_cmpR op_eq (pv 4) pe_int (nomark _)) (pss_one (ps_ret (pe_op op_add (pv 6) (pv 3)))) pss_nil)
    (pss_cons (ps_if (pt_cmpR op_eq (pv 4) pe_int (nomark _)) (pss_one (ps_ret (pv 6))) pss_nil)
    (pss_one (ps_ret (pe_c c_l_bits_by hr rfl (pa_cons (pv 0) (pa_cons (pv 5) pa_nil))))))))))))), fun ds d hg => ?_⟩
  · obtain ⟨E, F, c, z, hc, rfl, rfl⟩ := hg
    rfl
  obtain ⟨E, F, c, z, hc, rfl, rfl⟩ := hg
  have hp := tp F
  have hp2 : 2 ≤ 2 ^ F := Nat.le_trans (show 2 ≤ 2 ^ 1 by decide) (Nat.pow_le_pow_right (by decide) z.f1)
  have hlt := last_lt_top z
  have hlg := last_ge z
  have ht := top_pos E F
  refine q_asg (d := nD (top E F)) (eTop z (e0 rfl) (e1 rfl)) ?_
  refine q_asg (d := nD (last E F)) (eLast z (e0 rfl) (e1 rfl)) ?_
  refine q_asg (e_md (by decide) (ev_var rfl) (ev_nat (n := 5))) ?_
  refine q_asg (e_dv 5 (by decide) (by decide) (ev_var rfl)) ?_
  have hr := hc.div 5
  generalize c / ((5 : Nat) : Int) = r at *
  have hs : md r 2 ≤ 1 := Nat.le_of_lt_succ (md_lt r (by decide))
  refine q_asg (ev_op (on_mul (c_mul (s_lt hs (Nat.le_refl 1)) (top_lt z) (by decide))) (e_md (by decide) (ev_var rfl) (ev_nat (n := 2))) (ev_var rfl)) ?_
  generalize md r 2 = s at *
  refine q_when (et_test (ev_op on_eq (ev_var rfl) (ev_nat (n := 0)))) (fun h => ?_) (fun h => ?_)
  · have hm := md_lt (r / ((2 : Nat) : Int)) (m := 2 ^ F - 1) (by omega)
    refine s_ret (ev_op on_add (ev_op on_add (ev_op on_add (ev_var rfl) (ev_var rfl)) (ev_nat (n := 1))) (e_md (m := 2 ^ F - 1) (by omega) (e_dv 2 (by decide) (by decide) (ev_var rfl)) (ev_op (on_sub (tp F)) (eFig z (e1 rfl)) (ev_nat (n := 1))))) (is_b ?_)
    have := s_top (E := E) (F := F) (s := s) (c := last E F + 1 + md (r / ((2 : Nat) : Int)) (2 ^ F - 1)) hs (by omega)
    omega
  refine q_when (et_test (ev_op on_eq (ev_var rfl) (ev_nat (n := 1)))) (fun h => ?_) (fun h => ?_)
  · exact s_ret (ev_op on_add (ev_var rfl) (ev_var rfl)) (is_b (s_top hs (by omega)))
  refine q_when (et_test (ev_op on_eq (ev_var rfl) (ev_nat (n := 2)))) (fun h => ?_) (fun h => ?_)
  · exact s_ret (ev_var rfl) (is_b (s_top (c := 0) hs ht))
  exact s_retE (ev_callE ⟨E, F, r, z, hr, rfl, rfl⟩ (ea_cons (ev_var rfl) (ea_cons (ev_var rfl) ea_nil))) fun d hd => hd
theorem sc_l_mate_by : FnScope ["_law_size", "_law_bits", "_law_cell", "_law_turned", "_law_top", "_law_middle", "_law_way", "_law_rest", "_law_goal", "_law_field", "_law_figures"] ["_law_size", "_law_bits", "_law_cell", "_law_turned"] (defScope s_l_mate_by) := ⟨rfl, rfl, rfl, by decide +kernel, rfl, by decide +kernel, by decide +kernel⟩
theorem ok_l_mate_by {f : Addr} {fd : FuncData} (F : FnP K "_law_mate_by" "_law_mate_by" s_l_mate_by f fd) (c_l_mixed : Cal P w K mg base 1 "_law_mixed" (spD K gMix)) (c_l_odd_by : Cal P w K mg base 3 "_law_odd_by" (spX K xBits)) (c_l_bits_by : Cal P w K mg base 2 "_law_bits_by" (spX K xBits)) (b_max : mg "max" = none) (b_min : mg "min" = none) : FnOk P w K mg base CX0 4 f fd ["_law_size", "_law_bits", "_law_cell", "_law_turned"] (spX K xMate) := by
  refine fn_okX F sc_l_mate_by (fun ds d hg => ?_) fun cdv A outer s H E hr => ⟨_, (pss_cons (ps_set (i := 4) sc_l_mate_by.nd rfl (Or.inl rfl) (pe_op op_shlW pe_int (pe_op op_add (pe_ix (r := rIxT K) ix_tup (pv 0) pe_int (fun _ _ => rfl)) (pe_ix (r := rIxT K) ix_tup (pv 0) pe_int (fun _ _ => rfl)))))
    (pss_cons (ps_set (i := 5) sc_l_mate_by.nd rfl (Or.inl rfl) (pe_op op_sub (pe_op op_shlW pe_int (pe_op op_sub (pe_ix (r := rIxT K) ix_tup (pv 0) pe_int (fun _ _ => rfl)) pe_int)) pe_int))
    (pss_cons (ps_set (i := 6) sc_l_mate_by.nd rfl (Or.inl rfl) (pe_op op_mod (pv 2) pe_int))
    (pss_cons (ps_set (i := 7) sc_l_mate_by.nd rfl (Or.inl rfl) (pe_op op_fdivP (pv 2) pe_int))
    (pss_cons (ps_if (pt_cmpR op_lt (pv 6) pe_int (nomark _)) (pss_cons (ps_set (i := 8) sc_l_mate_by.nd rfl (Or.inl rfl) (pe_op op_sub (pe_op op_sub (pe_op op_mod (pv 7) (pe_op op_add (pe_ix (r := rIxT K) ix_tup (pv 0) pe_int (fun _ _ => rfl)) pe_int)) (pe_ix (r := rIxT K) ix_tup (pv 0) pe_int (fun _ _ => rfl))) pe_int))
    (pss_cons (ps_if (pt_cmpR op_lt (pv 6) pe_int (nomark _)) (pss_one (ps_set (i := 8) sc_l_mate_by.nd rfl (Or.inl rfl) (pe_op op_add (pe_op op_sub (pe_op op_shlW pe_int (pe_ix (r := rIxT K) ix_tup (pv 0) pe_int (fun _ _ => rfl))) pe_int) (pe_op op_mod (pv 7) pe_int)))) pss_nil)
    (pss_cons (ps_set (i := 9) sc_l_mate_by.nd rfl (Or.inl rfl) (pe_op op_shr (pe_op op_mod (pv 1) (pv 4)) (pe_ix (r := rIxT K) ix_tup (pv 0) pe_int (fun _ _ => rfl))))
    (pss_cons (ps_if (pt_val (pv 3)) (pss_one (ps_set (i := 8) sc_l_mate_by.nd rfl (Or.inl rfl) (pe_op op_sub (pv 9) (pv 8)))) (pss_one (ps_set (i := 8) sc_l_mate_by.nd rfl (Or.inl rfl) (pe_op op_sub (pv 8) (pv 9)))))
    (pss_cons (ps_set (i := 9) sc_l_mate_by.nd rfl (Or.inl rfl) (pe_callB (call_max2 rfl) (by rfl) b_max (by decide +kernel) (pa_cons pe_int (pa_cons (pe_callB (call_min2 rfl) (by rfl) b_min (by decide +kernel) (pa_cons (pe_op op_add (pv 5) (pv 8)) (pa_cons (pe_op op_mulX pe_int (pv 5)) pa_nil))) pa_nil))))
    (pss_cons (ps_set (i := 10) sc_l_mate_by.nd rfl (Or.inl rfl) (pe_ix (r := rIxL K) ix_list (pe_lst (pa_cons pe_int (pa_cons (pe_op op_shlW pe_int (pe_op op_sub (pe_ix (r := rIxT K) ix_tup (pv 0) pe_int (fun _ _ => rfl)) pe_int)) (pa_cons (pe_op op_sub (pe_op op_shlW pe_int (pe_ix (r := rIxT K) ix_tup (pv 0) pe_int (fun _ _ => rfl))) pe_int) (pa_cons (pe_c c_l_mixed hr rfl (pa_cons (pv 7) (pa_cons (pe_op op_shlW pe_int (pe_ix (r := rIxT K) ix_tup (pv 0) pe_int (fun _ _ => rfl))) pa_nil))) pa_nil))))) (pe_op op_mod (pe_op op_fdivP (pv 7) pe_int) pe_int) (fun _ _ => rfl)))
    (pss_one (ps_ret (pe_op op_add (pe_op op_add (pe_op op_mulX (pe_op op_mod (pe_op op_fdivP (pv 7) pe_int) pe_int) (pv 4)) (pe_op op_shlW (pv 9) (pe_ix (r := rIxT K) ix_tup (pv 0) pe_int (fun _ _ => rfl)))) (pv 10)))))))))) pss_nil)
    (pss_cons (ps_if (pt_cmpR op_eq (pv 6) pe_int (nomark _)) (pss_one (ps_ret (pe_op op_xor (pv 1) (pe_op op_mulX (pe_op op_mod (pv 7) pe_int) (pv 4))))) pss_nil)
    (pss_cons (ps_if (pt_cmpR op_eq (pv 6) pe_int (nomark _)) (pss_one (ps_ret (pe_c c_l_odd_by hr rfl (pa_cons (pv 0) (pa_cons (pv 7) pa_nil))))) pss_nil)
    (pss_one (ps_ret (pe_c c_l_bits_by hr rfl (pa_cons (pv 0) (pa_cons (pv 7) pa_nil)))))))))))), fun ds d hg => ?_⟩
  · obtain ⟨E, F, x, c, t, z, hx, hc, rfl, rfl⟩ := hg
    rfl
  obtain ⟨E, F, x, c, t, z, hx, hc, rfl, rfl⟩ := hg
  have hp := tp F
  have ht := top_pos E F
  have hh := hf2 z
  have hd := hf_dbl z
  have hhl := hf_le z
  refine q_asg (d := nD (top E F)) (eTop z (e0 rfl) (e1 rfl)) ?_
  refine q_asg (d := nD (hf E - 1)) (ev_op (on_sub (by omega)) (eHalf z (e0 rfl)) (ev_nat (n := 1))) ?_
  refine q_asg (e_md (by decide) (ev_var rfl) (ev_nat (n := 9))) ?_
  refine q_asg (e_dv 9 (by decide) (by decide) (ev_var rfl)) ?_
  have hr := hc.div 9
  generalize c / ((9 : Nat) : Int) = r at *
  generalize md c 9 = wd at *
  refine q_when (et_test (ev_op on_lt (ev_var rfl) (ev_nat (n := 5)))) (fun h => ?_) (fun h => ?_)
  · refine q_asg (ev_op o_sub (ev_op o_sub (e_md (m := F + 8) (by omega) (ev_var rfl) (ev_op on_add (e1 rfl) (ev_nat (n := 8)))) (e1 rfl)) (ev_nat (n := 4))) ?_
    refine q_ifJ (fun ds' => ∃ (g : Int), ds' = [some (sz E F), some (btD E F x), some (.int c), some (.bl t), some (nD (top E F)), some (nD (hf E - 1)), some (nD wd), some (.int r), some (.int g), none, none]) (et_test (ev_op on_lt (ev_var rfl) (ev_nat (n := 2)))) (fun h => ?_) (fun h => ?_) ?_
    · exact s_asg (ev_op o_add (ev_op o_sub (eTall z (e0 rfl)) (ev_nat (n := 5))) (e_md (by decide) (ev_var rfl) (ev_nat (n := 7)))) ⟨_, rfl⟩
    · exact s_next ⟨_, rfl⟩
    rintro _ ⟨g, rfl⟩
    refine q_asg (ev_op on_shr (ev_op (on_mod ht) (ev_var rfl) (ev_var rfl)) (e1 rfl)) ?_
    generalize hf0 : bt E F x.1 x.2 % top E F / 2 ^ F = f0
    refine q_ifJb (fun ds' => ∃ (g : Int), ds' = [some (sz E F), some (btD E F x), some (.int c), some (.bl t), some (nD (top E F)), some (nD (hf E - 1)), some (nD wd), some (.int r), some (.int g), some (nD f0), none]) (et_B (ev_var rfl)) (fun h => ?_) (fun h => ?_) ?_
    · exact s_asg (ev_op o_sub (ev_var rfl) (ev_var rfl)) ⟨_, rfl⟩
    · exact s_asg (ev_op o_sub (ev_var rfl) (ev_var rfl)) ⟨_, rfl⟩
    rintro _ ⟨g2, rfl⟩
    obtain ⟨n, hn, en⟩ := clip (((hf E - 1 : Nat) : Int) + g2) (2 * (hf E - 1))
    have hn2 : n < 2 ^ 16 := by omega
    refine q_asg (Eva.is (d' := nD n) (ev_cb c_max (ea_cons (ev_nat (n := 0)) (ea_cons (ev_cb c_min (ea_cons (ev_op o_add (ev_var rfl) (ev_var rfl)) (ea_cons (ev_op (on_mul (c_mul (n := 2) (m := 16) (by decide) (by omega) (by decide))) (ev_nat (n := 2)) (ev_var rfl)) ea_nil))) ea_nil))) (congrArg D.int en)) ?_
    obtain ⟨v, hv, ha⟩ := at_nats (vs := [0, 2 ^ (F - 1), 2 ^ F - 1, mixN r (2 ^ F)]) (md_lt (r / ((3 : Nat) : Int)) (m := 4) (by decide))
    have hv2 : v < 2 ^ F := by
      have h1 := pow_lt (n := F - 1) (m := F) (by have := z.f1; omega)
      have h2 := mix_lt r (tp F)
      simp at hv
      rcases hv with rfl | rfl | rfl | rfl <;> omega
    refine q_asg (ev_op (o_ixL (xs := [nD 0, nD (2 ^ (F - 1)), nD (2 ^ F - 1), nD (mixN r (2 ^ F))]) ha) (ev_lst (ea_cons (ev_nat (n := 0)) (ea_cons (eHalfF z (e1 rfl)) (ea_cons (ev_op (on_sub (tp F)) (eFig z (e1 rfl)) (ev_nat (n := 1))) (ea_cons (ev_call (d := nD (mixN r (2 ^ F))) ⟨r, 2 ^ F, hr, tp F, rfl, rfl⟩ (ea_cons (ev_var rfl) (ea_cons (eFig z (e1 rfl)) ea_nil))) ea_nil))))) (e_md (by decide) (e_dv 3 (by decide) (by decide) (ev_var rfl)) (ev_nat (n := 4)))) ?_
    have hs : md (r / ((5 : Nat) : Int)) 2 ≤ 1 := Nat.le_of_lt_succ (md_lt _ (by decide))
    refine s_ret (ev_op on_add (ev_op on_add (ev_op (on_mul (c_mul (s_lt hs (Nat.le_refl 1)) (top_lt z) (by decide))) (e_md (by decide) (e_dv 5 (by decide) (by decide) (ev_var rfl)) (ev_nat (n := 2))) (ev_var rfl)) (ev_op (on_shl (c_shl hn2 (by have := z.f112; omega))) (ev_var rfl) (e1 rfl))) (ev_var rfl)) (is_b ?_)
    rw [Nat.add_assoc]
    exact s_top hs (f_top (by omega) hv2)
  refine q_when (et_test (ev_op on_eq (ev_var rfl) (ev_nat (n := 5)))) (fun h => ?_) (fun h => ?_)
  · have hs : md r 2 ≤ 1 := Nat.le_of_lt_succ (md_lt _ (by decide))
    exact s_ret (ev_op on_xor (ev_var rfl) (ev_op (on_mul (c_mul (s_lt hs (Nat.le_refl 1)) (top_lt z) (by decide))) (e_md (by decide) (ev_var rfl) (ev_nat (n := 2))) (ev_var rfl))) (is_b (xor_top2 (bt_top2 hx) (s_top (c := 0) hs ht)))
  refine q_when (et_test (ev_op on_eq (ev_var rfl) (ev_nat (n := 6)))) (fun h => ?_) (fun h => ?_)
  · exact s_retE (ev_callE ⟨E, F, r, z, hr, rfl, rfl⟩ (ea_cons (ev_var rfl) (ea_cons (ev_var rfl) ea_nil))) fun d hd => hd
  exact s_retE (ev_callE ⟨E, F, r, z, hr, rfl, rfl⟩ (ea_cons (ev_var rfl) (ea_cons (ev_var rfl) ea_nil))) fun d hd => hd
theorem sc_l_third_by : FnScope ["_law_size", "_law_a", "_law_b", "_law_cell", "_law_top", "_law_last", "_law_steps", "_law_way", "_law_rest", "_law_tall", "_law_code", "_law_more", "_law_sign"] ["_law_size", "_law_a", "_law_b", "_law_cell"] (defScope s_l_third_by) := ⟨rfl, rfl, rfl, by decide +kernel, rfl, by decide +kernel, by decide +kernel⟩
theorem ok_l_third_by {f : Addr} {fd : FuncData} (F : FnP K "_law_third_by" "_law_third_by" s_l_third_by f fd) (c_l_bits_by : Cal P w K mg base 2 "_law_bits_by" (spX K xBits)) (c_l_odd_by : Cal P w K mg base 3 "_law_odd_by" (spX K xBits)) (c_l_value : Cal P w K mg base 1 "_law_value" (spD K gVal)) (b_max : mg "max" = none) (b_min : mg "min" = none) : FnOk P w K mg base CX0 4 f fd ["_law_size", "_law_a", "_law_b", "_law_cell"] (spX K xThird) := by
  refine fn_okX F sc_l_third_by (fun ds d hg => ?_) fun cdv A outer s H E hr => ⟨_, (pss_cons (ps_set (i := 4) sc_l_third_by.nd rfl (Or.inl rfl) (pe_op op_shlW pe_int (pe_op op_add (pe_ix (r := rIxT K) ix_tup (pv 0) pe_int (fun _ _ => rfl)) (pe_ix (r := rIxT K) ix_tup (pv 0) pe_int (fun _ _ => rfl)))))
    (pss_cons (ps_set (i := 5) sc_l_third_by.nd rfl (Or.inl rfl) (pe_op op_shlW (pe_op op_sub (pe_op op_shlW pe_int (pe_ix (r := rIxT K) ix_tup (pv 0) pe_int (fun _ _ => rfl))) pe_int) (pe_ix (r := rIxT K) ix_tup (pv 0) pe_int (fun _ _ => rfl))))
    (pss_cons (ps_set (i := 6) sc_l_third_by.nd rfl (Or.inl rfl) (pe_op op_add (pe_op op_sub (pe_op op_shlW pe_int (pe_op op_sub (pe_ix (r := rIxT K) ix_tup (pv 0) pe_int (fun _ _ => rfl)) pe_int)) pe_int) (pe_ix (r := rIxT K) ix_tup (pv 0) pe_int (fun _ _ => rfl))))
    (pss_cons (ps_set (i := 7) sc_l_third_by.nd rfl (Or.inl rfl) (pe_op op_mod (pv 3) pe_int))
    (pss_cons (ps_set (i := 8) sc_l_third_by.nd rfl (Or.inl rfl) (pe_op op_fdivP (pv 3) pe_int))
    (pss_cons (ps_if (pt_cmpR op_gt (pv 7) pe_int (nomark _)) (pss_one (ps_ret (pe_c c_l_bits_by hr rfl (pa_cons (pv 0) (pa_cons (pv 8) pa_nil))))) pss_nil)
    (pss_cons (ps_if (pt_cmpR op_eq (pv 7) pe_int (nomark _)) (pss_one (ps_ret (pe_c c_l_odd_by hr rfl (pa_cons (pv 0) (pa_cons (pv 8) pa_nil))))) pss_nil)
    (pss_cons (ps_set (i := 9) sc_l_third_by.nd rfl (Or.inl rfl) (pe_op op_shr (pe_op op_mulX (pe_c c_l_value hr rfl (pa_cons (pv 0) (pa_cons (pe_op op_mod (pv 1) (pv 4)) pa_nil))) (pe_c c_l_value hr rfl (pa_cons (pv 0) (pa_cons (pe_op op_mod (pv 2) (pv 4)) pa_nil)))) (pv 6)))
    (pss_cons (ps_set (i := 10) sc_l_third_by.nd rfl (Or.inl rfl) (pv 9))
    (pss_cons (ps_if (pt_cmpR op_gt (pe_op op_shr (pv 9) (pe_ix (r := rIxT K) ix_tup (pv 0) pe_int (fun _ _ => rfl))) pe_int (nomark _)) (pss_cons (ps_set (i := 11) sc_l_third_by.nd rfl (Or.inl rfl) (pe_op op_sub (pe_op op_sub (pe_bits (pv 9)) (pe_ix (r := rIxT K) ix_tup (pv 0) pe_int (fun _ _ => rfl))) pe_int))
    (pss_one (ps_set (i := 10) sc_l_third_by.nd rfl (Or.inl rfl) (pe_op op_add (pe_op op_shlW (pv 11) (pe_ix (r := rIxT K) ix_tup (pv 0) pe_int (fun _ _ => rfl))) (pe_op op_shr (pv 9) (pv 11)))))) pss_nil)
    (pss_cons (ps_set (i := 12) sc_l_third_by.nd rfl (Or.inl rfl) (pe_op op_mod (pe_op op_add (pe_op op_fdivP (pe_op op_xor (pv 1) (pv 2)) (pv 4)) pe_int) pe_int))
    (pss_cons (ps_if (pt_cmpR op_eq (pv 7) pe_int (nomark _)) (pss_cons (ps_set (i := 12) sc_l_third_by.nd rfl (Or.inl rfl) (pe_op op_mod (pe_op op_fdivP (pv 8) pe_int) pe_int))
    (pss_one (ps_set (i := 10) sc_l_third_by.nd rfl (Or.inl rfl) (pe_op op_sub (pv 10) (pe_op op_shlW (pe_op op_add (pe_ix (r := rIxT K) ix_tup (pv 0) pe_int (fun _ _ => rfl)) (pe_op op_mod (pe_op op_fdivP (pv 8) pe_int) pe_int)) (pe_ix (r := rIxT K) ix_tup (pv 0) pe_int (fun _ _ => rfl))))))) pss_nil)
    (pss_cons (ps_set (i := 10) sc_l_third_by.nd rfl (Or.inl rfl) (pe_callB (call_max2 rfl) (by rfl) b_max (by decide +kernel) (pa_cons pe_int (pa_cons (pe_callB (call_min2 rfl) (by rfl) b_min (by decide +kernel) (pa_cons (pe_op op_sub (pe_op op_add (pv 10) (pe_op op_mod (pv 8) pe_int)) pe_int) (pa_cons (pe_op op_sub (pv 5) pe_int) pa_nil))) pa_nil))))
    (pss_one (ps_ret (pe_op op_add (pe_op op_mulX (pv 12) (pv 4)) (pv 10))))))))))))))))), fun ds d hg => ?_⟩
  · obtain ⟨E, F, x, y, c, z, hx, hy, hc, rfl, rfl⟩ := hg
    rfl
  obtain ⟨E, F, x, y, c, z, hx, hy, hc, rfl, rfl⟩ := hg
  have hp := tp F
  have ht := top_pos E F
  have hlt := last_lt_top z
  have hlg := last_ge z
  have hKU := KU_v
  have hst := st_le z
  have hf1 := z.f112
  refine q_asg (d := nD (top E F)) (eTop z (e0 rfl) (e1 rfl)) ?_
  refine q_asg (d := nD (last E F)) (eLast z (e0 rfl) (e1 rfl)) ?_
  refine q_asg (d := nD (st E F)) (eStep z (e0 rfl) (e1 rfl)) ?_
  refine q_asg (e_md (by decide) (ev_var rfl) (ev_nat (n := 6))) ?_
  refine q_asg (e_dv 6 (by decide) (by decide) (ev_var rfl)) ?_
  have hr := hc.div 6
  generalize c / ((6 : Nat) : Int) = r at *
  generalize md c 6 = wd at *
  refine q_when (et_test (ev_op on_gt (ev_var rfl) (ev_nat (n := 3)))) (fun h => ?_) (fun h => ?_)
  · exact s_retE (ev_callE ⟨E, F, r, z, hr, rfl, rfl⟩ (ea_cons (ev_var rfl) (ea_cons (ev_var rfl) ea_nil))) fun d hd => hd
  refine q_when (et_test (ev_op on_eq (ev_var rfl) (ev_nat (n := 3)))) (fun h => ?_) (fun h => ?_)
  · exact s_retE (ev_callE ⟨E, F, r, z, hr, rfl, rfl⟩ (ea_cons (ev_var rfl) (ea_cons (ev_var rfl) ea_nil))) fun d hd => hd
  have v1 := val_KU z hx.2
  have v2 := val_KU z hy.2
  refine q_asg (ev_op on_shr (ev_op (on_mul (c_mul v1 v2 (by decide))) (ev_call (d := nD (val F x.2)) ⟨E, F, x.2, z, hx.2, rfl, rfl⟩ (ea_cons (ev_var rfl) (ea_cons (Eva.is (ev_op (on_mod ht) (ev_var rfl) (ev_var rfl)) (congrArg nD (bt_mod hx.2))) ea_nil))) (ev_call (d := nD (val F y.2)) ⟨E, F, y.2, z, hy.2, rfl, rfl⟩ (ea_cons (ev_var rfl) (ea_cons (Eva.is (ev_op (on_mod ht) (ev_var rfl) (ev_var rfl)) (congrArg nD (bt_mod hy.2))) ea_nil)))) (ev_var rfl)) ?_
  have htl : val F x.2 * val F y.2 / 2 ^ st E F < 2 ^ (KU + KU) := Nat.lt_of_le_of_lt (Nat.div_le_self _ _) (lt_mul v1 v2)
  generalize val F x.2 * val F y.2 / 2 ^ st E F = tl at *
  refine q_asg (ev_var rfl) ?_
  show Sx K _ [some (sz E F), some (btD E F x), some (btD E F y), some (.int c), some (nD (top E F)), some (nD (last E F)), some (nD (st E F)), some (nD wd), some (.int r), some (nD tl), some (nD tl), none, none] _
  refine q_ifJ (fun ds' => ∃ (k : Nat) (f : Option D), ds' = [some (sz E F), some (btD E F x), some (btD E F y), some (.int c), some (nD (top E F)), some (nD (last E F)), some (nD (st E F)), some (nD wd), some (.int r), some (nD tl), some (nD k), f, none]) (et_test (ev_op on_gt (ev_op on_shr (ev_var rfl) (e1 rfl)) (ev_nat (n := 0)))) (fun h => ?_) (fun h => ?_) ?_
  · have hb := blen_le_of htl
    have hb2 : F + 1 ≤ blen tl := by
      have h1 : 2 ^ F ≤ tl := by
        refine Nat.le_of_not_lt fun q => ?_
        rw [Nat.div_eq_of_lt q] at h
        omega
      have h2 := blen_lt tl
      refine Nat.le_of_not_lt fun q => ?_
      have h3 : 2 ^ blen tl ≤ 2 ^ F := Nat.pow_le_pow_right (by decide) (by omega)
      omega
    refine q_asg (ev_op (on_sub (by omega)) (ev_op (on_sub (by omega)) (ev_bits (ev_var rfl)) (e1 rfl)) (ev_nat (n := 1))) ?_
    exact s_asg (ev_op on_add (ev_op (on_shl (c_shl (n := 20) (by omega) (by omega))) (ev_var rfl) (e1 rfl)) (ev_op on_shr (ev_var rfl) (ev_var rfl))) ⟨_, _, rfl⟩
  · exact s_next ⟨_, _, rfl⟩
  rintro _ ⟨k, f, rfl⟩
  have hxo : xorN (bt E F x.1 x.2) (bt E F y.1 y.2) < 2 ^ 200 := by
    have h1 := xor_top2 (bt_top2 hx) (bt_top2 hy)
    rw [top2] at h1
    exact lt_up h1 (by have := z.e15; omega)
  refine q_asg (ev_op (on_mod (m := 2) (by decide)) (ev_op on_add (ev_op (on_div (c_div ht hxo (by decide))) (ev_op on_xor (ev_var rfl) (ev_var rfl)) (ev_var rfl)) (ev_nat (n := 1))) (ev_nat (n := 2))) ?_
  have hs0 : (xorN (bt E F x.1 x.2) (bt E F y.1 y.2) / top E F + 1) % 2 ≤ 1 := by omega
  generalize (xorN (bt E F x.1 x.2) (bt E F y.1 y.2) / top E F + 1) % 2 = s0 at *
  refine q_ifJ (fun ds' => ∃ (i : Int) (s : Nat), s ≤ 1 ∧ ds' = [some (sz E F), some (btD E F x), some (btD E F y), some (.int c), some (nD (top E F)), some (nD (last E F)), some (nD (st E F)), some (nD wd), some (.int r), some (nD tl), some (.int i), f, some (nD s)]) (et_test (ev_op on_eq (ev_var rfl) (ev_nat (n := 2)))) (fun h => ?_) (fun h => ?_) ?_
  · refine q_asg (e_md (m := 2) (by decide) (e_dv 3 (by decide) (by decide) (ev_var rfl)) (ev_nat (n := 2))) ?_
    have hm := md_lt (r / ((6 : Nat) : Int)) (m := 3) (by decide)
    exact s_asg (ev_op o_sub (ev_var rfl) (ev_op (on_shl (c_shl (n := 16) (by omega) (by omega))) (ev_op on_add (e1 rfl) (e_md (by decide) (e_dv 6 (by decide) (by decide) (ev_var rfl)) (ev_nat (n := 3)))) (e1 rfl))) ⟨_, _, Nat.le_of_lt_succ (md_lt _ (by decide)), rfl⟩
  · exact s_next ⟨_, _, hs0, rfl⟩
  rintro _ ⟨i, s, hs, rfl⟩
  obtain ⟨n, hn, en⟩ := clip (i + ((md r 3 : Nat) : Int) - ((1 : Nat) : Int)) (last E F - 1)
  refine q_asg (Eva.is (d' := nD n) (ev_cb c_max (ea_cons (ev_nat (n := 0)) (ea_cons (ev_cb c_min (ea_cons (ev_op o_sub (ev_op o_add (ev_var rfl) (e_md (by decide) (ev_var rfl) (ev_nat (n := 3)))) (ev_nat (n := 1))) (ea_cons (ev_op (on_sub (by omega)) (ev_var rfl) (ev_nat (n := 1))) ea_nil))) ea_nil))) (congrArg D.int en)) ?_
  exact s_ret (ev_op on_add (ev_op (on_mul (c_mul (s_lt hs (Nat.le_refl 1)) (top_lt z) (by decide))) (ev_var rfl) (ev_var rfl)) (ev_var rfl)) (is_b (s_top hs (by omega)))
theorem sc_l_partner : FnScope ["_law_size", "_law_row", "_law_a", "_law_which", "_law_cell", "_law_rest"] ["_law_size", "_law_row", "_law_a", "_law_which", "_law_cell"] (defScope s_l_partner) := ⟨rfl, rfl, rfl, by decide +kernel, rfl, by decide +kernel, by decide +kernel⟩
theorem ok_l_partner {f : Addr} {fd : FuncData} (F : FnP K "_law_partner" "_law_partner" s_l_partner f fd) (c_l_mate_by : Cal P w K mg base 4 "_law_mate_by" (spX K xMate)) (b_len : mg "len" = none) : FnOk P w K mg base CX0 5 f fd ["_law_size", "_law_row", "_law_a", "_law_which", "_law_cell"] (spX K xPart) := by
  refine fn_okX F sc_l_partner (fun ds d hg => ?_) fun cdv A outer s H E hr => ⟨_, (pss_cons (ps_set (i := 5) sc_l_partner.nd rfl (Or.inl rfl) (pe_op op_fdivP (pv 4) pe_int))
    (pss_cons (ps_if (pt_cmpR op_eq (pe_op op_mod (pv 4) pe_int) pe_int (nomark _)) (pss_one (ps_ret (pe_ix (r := rIxL K) ix_list (pv 1) (pe_op op_mod (pv 5) (pe_callB call_len_seq (by rfl) b_len (by decide +kernel) (pa_cons (pv 1) pa_nil))) (fun _ _ => rfl)))) pss_nil)
    (pss_cons (ps_if (pt_cmpR op_lt (pv 3) pe_int (nomark _)) (pss_one (ps_ret (pe_op op_xor (pe_op op_xor (pv 2) (pe_op op_shlW (pe_op op_mod (pv 5) pe_int) (pe_op op_add (pe_ix (r := rIxT K) ix_tup (pv 0) pe_int (fun _ _ => rfl)) (pe_ix (r := rIxT K) ix_tup (pv 0) pe_int (fun _ _ => rfl))))) (pe_op op_mod (pe_op op_fdivP (pv 5) pe_int) pe_int)))) pss_nil)
    (pss_one (ps_ret (pe_c c_l_mate_by hr rfl (pa_cons (pv 0) (pa_cons (pv 2) (pa_cons (pv 5) (pa_cons (pe_cmpR op_eq (pv 3) pe_int (nomark _)) pa_nil)))))))))), fun ds d hg => ?_⟩
  · obtain ⟨E, F, xs, x, n, c, z, hne, hxs, hx, hc, rfl, rfl⟩ := hg
    rfl
  obtain ⟨E, F, xs, x, n, c, z, hne, hxs, hx, hc, rfl, rfl⟩ := hg
  refine q_asg (e_dv 3 (by decide) (by decide) (ev_var rfl)) ?_
  have hr := hc.div 3
  generalize c / ((3 : Nat) : Int) = r at *
  have hl : 0 < (xs.map (btD E F)).length := by
    rw [List.length_map]
    exact List.length_pos_iff.mpr hne
  refine q_when (et_test (ev_op on_eq (e_md (by decide) (ev_var rfl) (ev_nat (n := 3))) (ev_nat (n := 0)))) (fun h => ?_) (fun h => ?_)
  · obtain ⟨v, hv, ha⟩ := at_map (f := btD E F) (vs := xs) (n := md r (xs.map (btD E F)).length) (by rw [← List.length_map (btD E F)]; exact md_lt _ hl)
    exact s_ret (ev_op (o_ixL ha) (ev_var rfl) (e_md hl (ev_var rfl) (ev_cb c_lenL (ea_cons (ev_var rfl) ea_nil)))) ⟨v, hxs v hv, rfl⟩
  refine q_when (et_test (ev_op on_lt (ev_var rfl) (ev_nat (n := 2)))) (fun h => ?_) (fun h => ?_)
  · have hs : md r 2 ≤ 1 := Nat.le_of_lt_succ (md_lt _ (by decide))
    have h8 := md_lt (r / ((2 : Nat) : Int)) (m := 8) (by decide)
    have ht := top_ge8 z
    exact s_ret (ev_op on_xor (ev_op on_xor (ev_var rfl) (ev_op (on_shl (c_shl (s_lt hs (Nat.le_refl 1)) (by have := z.e15; have := z.f112; omega))) (e_md (by decide) (ev_var rfl) (ev_nat (n := 2))) (ev_op on_add (e0 rfl) (e1 rfl)))) (e_md (by decide) (e_dv 2 (by decide) (by decide) (ev_var rfl)) (ev_nat (n := 8)))) (is_b (xor_top2 (xor_top2 (bt_top2 hx) (s_top (c := 0) hs (top_pos E F))) (by omega)))
  exact s_retE (ev_callE ⟨E, F, x, r, decide (n = 3), z, hx, hr, rfl, rfl⟩ (ea_cons (ev_var rfl) (ea_cons (ev_var rfl) (ea_cons (ev_var rfl) (ea_cons (ev_op on_eq (ev_var rfl) (ev_nat (n := 3))) ea_nil))))) fun d hd => hd
end
end RM
set_option Elab.async false
set_option linter.all false
set_option maxRecDepth 100000
set_option maxHeartbeats 2000000
namespace RM
open PySem PySem.Spec PyProof.Rows L2
theorem wn_is (wy v : W5) : decide (wn wy = wn v) = decide (wy = v) := by
  cases wy <;> cases v <;> decide +kernel
def gNear (ds : List D) (d : D) : Prop := ∃ (wy : W5) (out : Bool) (lean : Int) (ev : Bool), ds = [.str (wn wy), .bl out, .int lean, .bl ev] ∧ d = .bl (nearB wy out lean ev)
def gFar (ds : List D) (d : D) : Prop := ∃ (wy : W5) (out : Bool) (lean : Int) (ev : Bool), ds = [.str (wn wy), .bl out, .int lean, .bl ev] ∧ d = .bl (farB wy out lean ev)
def gFair (ds : List D) (d : D) : Prop := ∃ (E F : Nat) (wy : W5) (s tall bottom c fl : Nat), Sz E F ∧ s ≤ 1 ∧ c ≤ last E F ∧ tall < 2 ^ B1 ∧ bottom < 2 ^ B1 ∧ ds = [sz E F, .str (wn wy), nD s, nD tall, nD bottom, prD (bt E F s c, fl)] ∧ d = .bl (fairB E F wy s tall bottom c fl)
def rootB (F : Nat) (wy : W5) (S c fl : Nat) : Bool :=
  if val F c * val F c = S then decide (fl = 0)
  else if val F c * val F c < S then decide (fl = if S < 2 ^ (2 * F) then 3 else 1) && (decide (S < val F (c + 1) * val F (c + 1)) && nearB wy (decide (wy = .up)) (4 * (S : Int) - ((val F c + val F (c + 1) : Nat) : Int) * ((val F c + val F (c + 1) : Nat) : Int)) (decide (c % 2 = 0)))
  else decide (fl = if S < 2 ^ (2 * F) then 3 else 1) && (decide (val F (c - 1) * val F (c - 1) < S) && farB wy (decide (wy = .up)) (4 * (S : Int) - ((val F c + val F (c - 1) : Nat) : Int) * ((val F c + val F (c - 1) : Nat) : Int)) (decide (c % 2 = 0)))
def gRFair (ds : List D) (d : D) : Prop := ∃ (E F : Nat) (wy : W5) (S c fl : Nat), Sz E F ∧ 0 < c ∧ c < last E F ∧ S < 2 ^ B1 ∧ ds = [sz E F, .str (wn wy), nD S, prD (c, fl)] ∧ d = .bl (rootB F wy S c fl)
def fwB (wy : W5) (s w T b : Nat) : Bool :=
  if (T : Int) - (w * b : Nat) = 0 then true
  else if 0 < (T : Int) - (w * b : Nat) then decide ((T : Int) - (w * b : Nat) < b) && nearB wy (outw wy s) (2 * ((T : Int) - (w * b : Nat)) - b) (decide (w % 2 = 0))
  else decide (-(b : Int) < (T : Int) - (w * b : Nat)) && farB wy (outw wy s) (2 * ((T : Int) - (w * b : Nat)) + b) (decide (w % 2 = 0))
def gFW (ds : List D) (d : D) : Prop := ∃ (wy : W5) (s w T b : Nat), w < 2 ^ B1 ∧ T < 2 ^ B1 ∧ b < 2 ^ B1 ∧ ds = [.str (wn wy), nD s, nD w, nD T, nD b] ∧ d = .bl (fwB wy s w T b)
theorem mul2_lt {n : Nat} (h : n < 2 ^ B1) : ∃ m, m ≤ 1000000 ∧ n < 2 ^ m := ⟨B1, by rw [B1_v]; decide, h⟩
theorem c_mulI {i j : Int} {n m : Nat} (ha : i.natAbs < 2 ^ n) (hb : j.natAbs < 2 ^ m) (h : n + m ≤ 134217728) : CMulX i j := mulx_ok ha hb h
theorem sub_abs {a b n : Nat} (ha : a < 2 ^ n) (hb : b < 2 ^ n) : ((a : Int) - (b : Int)).natAbs < 2 ^ n := by omega
section
variable {P : Program} {w : World} {K : PySem.W.Frag} {mg : Str → Option Value} {base : Heap}
theorem sc_l_near : FnScope ["_law_way", "_law_outward", "_law_lean", "_law_even"] ["_law_way", "_law_outward", "_law_lean", "_law_even"] (defScope s_l_near) := ⟨rfl, rfl, rfl, by decide +kernel, rfl, by decide +kernel, by decide +kernel⟩
theorem ok_l_near {f : Addr} {fd : FuncData} (F : FnP K "_law_near" "_law_near" s_l_near f fd)  : FnOk P w K mg base CX0 1 f fd ["_law_way", "_law_outward", "_law_lean", "_law_even"] (spD K gNear) := by
  refine fn_okD F sc_l_near (fun ds d hg => ?_) fun cdv A outer s H E hr => ⟨_, (pss_cons (ps_if (pt_cmpR op_eq (pv 0) pe_str (nomark _)) (pss_one (ps_ret (pe_or (pe_cmpR op_lt (pv 2) pe_int (nomark _)) (pe_one (pe_and (pe_cmpR op_eq (pv 2) pe_int (nomark _)) (pe_one (pv 3))))))) pss_nil)
    (pss_cons (ps_if (pt_cmpR op_eq (pv 0) pe_str (nomark _)) (pss_one (ps_ret (pe_cmpR op_lt (pv 2) pe_int (nomark _)))) pss_nil)
    (pss_one (ps_ret (pe_not (pv 1)))))), fun ds d hg => ?_⟩
  · obtain ⟨wy, out, lean, ev, rfl, rfl⟩ := hg
    rfl
  obtain ⟨wy, out, lean, ev, rfl, rfl⟩ := hg
  show Sx K _ _ { nx := fun _ => D.bl (nearB wy out lean ev) = .non, rt := fun d' => d' = D.bl (nearB wy out lean ev) }
  unfold nearB
  refine q_when (p := wy = .even) (EvT.is (et_test (ev_op o_eqS (ev_var rfl) ev_str)) (wn_is wy .even)) (fun h => ?_) (fun h => ?_)
  · rw [if_pos h]
    exact s_ret (ev_orV (ev_op o_lt (ev_var rfl) (ev_int (i := 0))) fun _ => (ev_andV (ev_op o_eqI (ev_var rfl) (ev_int (i := 0))) fun _ => (ev_var rfl))) rfl
  rw [if_neg h]
  refine q_when (p := wy = .away) (EvT.is (et_test (ev_op o_eqS (ev_var rfl) ev_str)) (wn_is wy .away)) (fun h => ?_) (fun h => ?_)
  · rw [if_pos h]
    exact s_ret (ev_op o_lt (ev_var rfl) (ev_int (i := 0))) rfl
  rw [if_neg h]
  exact s_ret (ev_notV (ev_var rfl)) rfl
theorem sc_l_far : FnScope ["_law_way", "_law_outward", "_law_lean", "_law_even"] ["_law_way", "_law_outward", "_law_lean", "_law_even"] (defScope s_l_far) := ⟨rfl, rfl, rfl, by decide +kernel, rfl, by decide +kernel, by decide +kernel⟩
theorem ok_l_far {f : Addr} {fd : FuncData} (F : FnP K "_law_far" "_law_far" s_l_far f fd)  : FnOk P w K mg base CX0 1 f fd ["_law_way", "_law_outward", "_law_lean", "_law_even"] (spD K gFar) := by
  refine fn_okD F sc_l_far (fun ds d hg => ?_) fun cdv A outer s H E hr => ⟨_, (pss_cons (ps_if (pt_cmpR op_eq (pv 0) pe_str (nomark _)) (pss_one (ps_ret (pe_or (pe_cmpR op_gt (pv 2) pe_int (nomark _)) (pe_one (pe_and (pe_cmpR op_eq (pv 2) pe_int (nomark _)) (pe_one (pv 3))))))) pss_nil)
    (pss_cons (ps_if (pt_cmpR op_eq (pv 0) pe_str (nomark _)) (pss_one (ps_ret (pe_cmpR op_ge (pv 2) pe_int (nomark _)))) pss_nil)
    (pss_one (ps_ret (pv 1))))), fun ds d hg => ?_⟩
  · obtain ⟨wy, out, lean, ev, rfl, rfl⟩ := hg
    rfl
  obtain ⟨wy, out, lean, ev, rfl, rfl⟩ := hg
  show Sx K _ _ { nx := fun _ => D.bl (farB wy out lean ev) = .non, rt := fun d' => d' = D.bl (farB wy out lean ev) }
  unfold farB
  refine q_when (p := wy = .even) (EvT.is (et_test (ev_op o_eqS (ev_var rfl) ev_str)) (wn_is wy .even)) (fun h => ?_) (fun h => ?_)
  · rw [if_pos h]
    exact s_ret (ev_orV (ev_op o_gt (ev_var rfl) (ev_int (i := 0))) fun _ => (ev_andV (ev_op o_eqI (ev_var rfl) (ev_int (i := 0))) fun _ => (ev_var rfl))) rfl
  rw [if_neg h]
  refine q_when (p := wy = .away) (EvT.is (et_test (ev_op o_eqS (ev_var rfl) ev_str)) (wn_is wy .away)) (fun h => ?_) (fun h => ?_)
  · rw [if_pos h]
    exact s_ret (ev_op o_ge (ev_var rfl) (ev_int (i := 0))) rfl
  rw [if_neg h]
  exact s_ret (ev_var rfl) rfl
theorem sc_l_fair : FnScope ["_law_size", "_law_way", "_law_sign", "_law_tall", "_law_bottom", "_law_found", "_law_code", "_law_last", "_law_here", "_law_outward", "_law_due", "_law_beyond", "_law_before"] ["_law_size", "_law_way", "_law_sign", "_law_tall", "_law_bottom", "_law_found"] (defScope s_l_fair) := ⟨rfl, rfl, rfl, by decide +kernel, rfl, by decide +kernel, by decide +kernel⟩
theorem ok_l_fair {f : Addr} {fd : FuncData} (F : FnP K "_law_fair" "_law_fair" s_l_fair f fd) (c_l_two : Cal P w K mg base 2 "_law_two" (spD K gTwo)) (c_l_value : Cal P w K mg base 1 "_law_value" (spD K gVal)) (c_l_near : Cal P w K mg base 1 "_law_near" (spD K gNear)) (c_l_far : Cal P w K mg base 1 "_law_far" (spD K gFar)) : FnOk P w K mg base CX0 3 f fd ["_law_size", "_law_way", "_law_sign", "_law_tall", "_law_bottom", "_law_found"] (spD K gFair) := by
  refine fn_okD F sc_l_fair (fun ds d hg => ?_) fun cdv A outer s H E hr => ⟨_, (pss_cons (ps_if (pt_not (pt_val (pe_c c_l_two hr rfl (pa_cons (pv 5) pa_nil)))) (pss_one (ps_ret pe_bl)) pss_nil)
    (pss_cons (ps_set (i := 6) sc_l_fair.nd rfl (Or.inl rfl) (pe_op op_sub (pe_ix (r := rIxT K) ix_tup (pv 5) pe_int (fun _ _ => rfl)) (pe_op op_shlW (pv 2) (pe_op op_add (pe_ix (r := rIxT K) ix_tup (pv 0) pe_int (fun _ _ => rfl)) (pe_ix (r := rIxT K) ix_tup (pv 0) pe_int (fun _ _ => rfl))))))
    (pss_cons (ps_set (i := 7) sc_l_fair.nd rfl (Or.inl rfl) (pe_op op_shlW (pe_op op_sub (pe_op op_shlW pe_int (pe_ix (r := rIxT K) ix_tup (pv 0) pe_int (fun _ _ => rfl))) pe_int) (pe_ix (r := rIxT K) ix_tup (pv 0) pe_int (fun _ _ => rfl))))
    (pss_cons (ps_if (pt_not (pt_chain op_le op_le pe_int (pv 6) (pv 7))) (pss_one (ps_ret pe_bl)) pss_nil)
    (pss_cons (ps_set (i := 8) sc_l_fair.nd rfl (Or.inl rfl) (pe_op op_mulX (pe_c c_l_value hr rfl (pa_cons (pv 0) (pa_cons (pv 6) pa_nil))) (pv 4)))
    (pss_cons (ps_set (i := 9) sc_l_fair.nd rfl (Or.inl rfl) (pe_or (pe_and (pe_cmpR op_eq (pv 1) pe_str (nomark _)) (pe_one (pe_cmpR op_eq (pv 2) pe_int (nomark _)))) (pe_one (pe_and (pe_cmpR op_eq (pv 1) pe_str (nomark _)) (pe_one (pe_cmpR op_eq (pv 2) pe_int (nomark _)))))))
    (pss_cons (ps_if (PW.pt (pw_and (pt_cmpR op_eq (pv 6) (pv 7) (nomark _)) (pw_and1 (pt_cmpR op_ge (pv 3) (pv 8) (nomark _))))) (pss_one (ps_ret (pe_and (pe_cmpR op_eq (pe_ix (r := rIxT K) ix_tup (pv 5) pe_int (fun _ _ => rfl)) pe_int (nomark _)) (pe_one (pe_or (pe_cmpR op_eq (pv 1) pe_str (nomark _)) (pe_or (pe_cmpR op_eq (pv 1) pe_str (nomark _)) (pe_one (pv 9)))))))) pss_nil)
    (pss_cons (ps_if (pt_cmpR op_eq (pv 3) (pv 8) (nomark _)) (pss_one (ps_ret (pe_cmpR op_eq (pe_ix (r := rIxT K) ix_tup (pv 5) pe_int (fun _ _ => rfl)) pe_int (nomark _)))) pss_nil)
    (pss_cons (ps_set (i := 10) sc_l_fair.nd rfl (Or.inl rfl) pe_int)
    (pss_cons (ps_if (pt_cmpR op_lt (pv 3) (pe_op op_shlW (pv 4) (pe_ix (r := rIxT K) ix_tup (pv 0) pe_int (fun _ _ => rfl))) (nomark _)) (pss_one (ps_set (i := 10) sc_l_fair.nd rfl (Or.inl rfl) pe_int)) pss_nil)
    (pss_cons (ps_if (pt_cmpR op_gt (pv 3) (pv 8) (nomark _)) (pss_cons (ps_set (i := 11) sc_l_fair.nd rfl (Or.inl rfl) (pe_op op_mulX (pe_c c_l_value hr rfl (pa_cons (pv 0) (pa_cons (pe_op op_add (pv 6) pe_int) pa_nil))) (pv 4)))
    (pss_cons (ps_if (pt_cmpR op_ge (pv 3) (pv 11) (nomark _)) (pss_one (ps_ret (pe_and (pe_cmpR op_eq (pe_ix (r := rIxT K) ix_tup (pv 5) pe_int (fun _ _ => rfl)) pe_int (nomark _)) (pe_and (pe_cmpR op_eq (pv 6) (pe_op op_sub (pv 7) pe_int) (nomark _)) (pe_and (pe_cmpR op_ne (pv 1) pe_str (nomark _)) (pe_and (pe_cmpR op_ne (pv 1) pe_str (nomark _)) (pe_one (pe_not (pv 9))))))))) pss_nil)
    (pss_one (ps_ret (pe_and (pe_cmpR op_eq (pe_ix (r := rIxT K) ix_tup (pv 5) pe_int (fun _ _ => rfl)) (pv 10) (nomark _)) (pe_one (pe_c c_l_near hr rfl (pa_cons (pv 1) (pa_cons (pv 9) (pa_cons (pe_op op_sub (pe_op op_sub (pe_op op_mulX pe_int (pv 3)) (pv 8)) (pv 11)) (pa_cons (pe_cmpR op_eq (pe_op op_mod (pv 6) pe_int) pe_int (nomark _)) pa_nil))))))))))) pss_nil)
    (pss_cons (ps_if (pt_cmpR op_eq (pv 6) (pv 7) (nomark _)) (pss_one (ps_set (i := 10) sc_l_fair.nd rfl (Or.inl rfl) pe_int)) pss_nil)
    (pss_cons (ps_set (i := 12) sc_l_fair.nd rfl (Or.inl rfl) (pe_op op_mulX (pe_c c_l_value hr rfl (pa_cons (pv 0) (pa_cons (pe_op op_sub (pv 6) pe_int) pa_nil))) (pv 4)))
    (pss_cons (ps_if (pt_cmpR op_le (pv 3) (pv 12) (nomark _)) (pss_one (ps_ret pe_bl)) pss_nil)
    (pss_one (ps_ret (pe_and (pe_cmpR op_eq (pe_ix (r := rIxT K) ix_tup (pv 5) pe_int (fun _ _ => rfl)) (pv 10) (nomark _)) (pe_one (pe_c c_l_far hr rfl (pa_cons (pv 1) (pa_cons (pv 9) (pa_cons (pe_op op_sub (pe_op op_sub (pe_op op_mulX pe_int (pv 3)) (pv 8)) (pv 12)) (pa_cons (pe_cmpR op_eq (pe_op op_mod (pv 6) pe_int) pe_int (nomark _)) pa_nil))))))))))))))))))))))), fun ds d hg => ?_⟩
  · obtain ⟨E, F, wy, s, tall, bottom, c, fl, z, hs, hc, htl, hbo, rfl, rfl⟩ := hg
    rfl
  obtain ⟨E, F, wy, s, tall, bottom, c, fl, z, hs, hc, htl, hbo, rfl, rfl⟩ := hg
  have hp := tp F
  have hp2 : 2 ≤ 2 ^ F := Nat.le_trans (show 2 ≤ 2 ^ 1 by decide) (Nat.pow_le_pow_right (by decide) z.f1)
  have hlt := last_lt_top z
  have hf1 := z.f112
  have h15 := z.e15
  have hKU := KU_v
  have hB1 := B1_v
  show Sx K _ _ { nx := fun _ => D.bl (fairB E F wy s tall bottom c fl) = .non, rt := fun d' => d' = D.bl (fairB E F wy s tall bottom c fl) }
  unfold fairB
  refine q_whenb (x := false) (et_not (et_B (ev_call (d := .bl true) ⟨_, _, rfl, rfl⟩ (ea_cons (ev_var rfl) ea_nil)))) (fun h => by cases h) (fun _ => ?_)
  refine q_asg (Eva.is (d' := nD c) (ev_op (on_sub (Nat.le_add_right _ _)) (ev_op (o_ixT rfl) (ev_var rfl) (ev_nat (n := 0))) (ev_op (on_shl (c_shl (s_lt hs (Nat.le_refl 1)) (by omega))) (ev_var rfl) (ev_op on_add (e0 rfl) (e1 rfl)))) (congrArg nD (Nat.add_sub_cancel_left ..))) ?_
  refine q_asg (d := nD (last E F)) (eLast z (e0 rfl) (e1 rfl)) ?_
  refine q_whenb (x := false) (EvT.is (et_not (et_test (ev_chain (ev_nat (n := 0)) (ev_var rfl) on_le (fun _ => (ev_var rfl)) (fun _ => on_le)))) (by rw [decide_eq_true (Nat.zero_le c), decide_eq_true hc]; rfl)) (fun h => by cases h) (fun _ => ?_)
  have v1 := val_KU z (c := c) (by omega)
  have v2 := val_KU z (c := c + 1) (by omega)
  have v3 := val_KU z (c := c - 1) (by omega)
  refine q_asg (ev_op (on_mul (c_mul v1 hbo (by decide))) (ev_call (d := nD (val F c)) ⟨E, F, c, z, by omega, rfl, rfl⟩ (ea_cons (ev_var rfl) (ea_cons (ev_var rfl) ea_nil))) (ev_var rfl)) ?_
  refine q_asg (Eva.is (d' := .bl (outw wy s)) (ev_orV (ev_andV (ev_op o_eqS (ev_var rfl) ev_str) fun _ => (ev_op on_eq (ev_var rfl) (ev_nat (n := 0)))) fun _ => (ev_andV (ev_op o_eqS (ev_var rfl) ev_str) fun _ => (ev_op on_eq (ev_var rfl) (ev_nat (n := 1))))) (congrArg D.bl (by rw [show ("up" : Str) = wn .up from rfl, show ("down" : Str) = wn .down from rfl, wn_is, wn_is]; rfl))) ?_
  show Sx K _ [some (sz E F), some (.str (wn wy)), some (nD s), some (nD tall), some (nD bottom), some (prD (bt E F s c, fl)), some (nD c), some (nD (last E F)), some (nD (val F c * bottom)), some (.bl (outw wy s)), none, none, none] _
  refine q_when (p := c = last E F ∧ val F c * bottom ≤ tall) (EvT.is (et_and (et_test (ev_op on_eq (ev_var rfl) (ev_var rfl))) fun _ => (et_test (ev_op on_ge (ev_var rfl) (ev_var rfl)))) (Bool.decide_and _ _).symm) (fun h => ?_) (fun h => ?_)
  · rw [if_pos h]
    refine s_ret (ev_andV (ev_op on_eq (ev_op (o_ixT rfl) (ev_var rfl) (ev_nat (n := 1))) (ev_nat (n := 5))) fun _ => (ev_orV (ev_op o_eqS (ev_var rfl) ev_str) fun _ => (ev_orV (ev_op o_eqS (ev_var rfl) ev_str) fun _ => (ev_var rfl)))) (congrArg D.bl ?_)
    rw [show ("even" : Str) = wn .even from rfl, show ("away" : Str) = wn .away from rfl, wn_is, wn_is, Bool.or_assoc]
  rw [if_neg h]
  refine q_when (et_test (ev_op on_eq (ev_var rfl) (ev_var rfl))) (fun h2 => ?_) (fun h2 => ?_)
  · rw [if_pos h2]
    exact s_ret (ev_op on_eq (ev_op (o_ixT rfl) (ev_var rfl) (ev_nat (n := 1))) (ev_nat (n := 0))) rfl
  rw [if_neg h2]
  refine q_asg (ev_nat (n := 1)) ?_
  refine q_ifset (d := nD (if tall < bottom * 2 ^ F then 3 else 1)) (et_test (ev_op on_lt (ev_var rfl) (ev_op (on_shl (c_shl hbo (by omega))) (ev_var rfl) (e1 rfl)))) (fun h3 => ?_) (fun h3 => ?_) ?_
  · rw [if_pos (of_decide_eq_true h3)]
    exact ev_nat (n := 3)
  · rw [if_neg (of_decide_eq_false h3)]
    rfl
  generalize hdue : (if tall < bottom * 2 ^ F then 3 else 1) = due
  show Sx K _ [some (sz E F), some (.str (wn wy)), some (nD s), some (nD tall), some (nD bottom), some (prD (bt E F s c, fl)), some (nD c), some (nD (last E F)), some (nD (val F c * bottom)), some (.bl (outw wy s)), some (nD due), none, none] _
  refine q_when (et_test (ev_op on_gt (ev_var rfl) (ev_var rfl))) (fun h4 => ?_) (fun h4 => ?_)
  · rw [if_pos h4]
    refine q_asg (ev_op (on_mul (c_mul v2 hbo (by decide))) (ev_call (d := nD (val F (c + 1))) ⟨E, F, c + 1, z, by omega, rfl, rfl⟩ (ea_cons (ev_var rfl) (ea_cons (ev_op on_add (ev_var rfl) (ev_nat (n := 1))) ea_nil))) (ev_var rfl)) ?_
    refine q_when (et_test (ev_op on_ge (ev_var rfl) (ev_var rfl))) (fun h5 => ?_) (fun h5 => ?_)
    · rw [if_pos h5]
      refine s_ret (ev_andV (ev_op on_eq (ev_op (o_ixT rfl) (ev_var rfl) (ev_nat (n := 1))) (ev_nat (n := 5))) fun _ => (ev_andV (ev_op on_eq (ev_var rfl) (ev_op (on_sub (by omega)) (ev_var rfl) (ev_nat (n := 1)))) fun _ => (ev_andV (ev_op o_neS (ev_var rfl) ev_str) fun _ => (ev_andV (ev_op o_neS (ev_var rfl) ev_str) fun _ => (ev_notV (ev_var rfl)))))) (congrArg D.bl ?_)
      rw [show ("even" : Str) = wn .even from rfl, show ("away" : Str) = wn .away from rfl, wn_is, wn_is, show decide (c = last E F - 1) = decide (c + 1 = last E F) from decide_eq_decide.mpr (by omega)]
    · rw [if_neg h5]
      exact s_ret (ev_andV (ev_op on_eq (ev_op (o_ixT rfl) (ev_var rfl) (ev_nat (n := 1))) (ev_var rfl)) fun _ => (ev_call (d := .bl (nearB wy (outw wy s) (2 * (tall : Int) - (val F c * bottom : Nat) - (val F (c + 1) * bottom : Nat)) (decide (c % 2 = 0)))) ⟨wy, outw wy s, _, _, rfl, rfl⟩ (ea_cons (ev_var rfl) (ea_cons (ev_var rfl) (ea_cons (ev_op o_sub (ev_op o_sub (ev_op (o_mul (c_mul (a := 2) (n := 2) (by decide) htl (by decide))) (ev_nat (n := 2)) (ev_var rfl)) (ev_var rfl)) (ev_var rfl)) (ea_cons (ev_op on_eq (ev_op (on_mod (by decide)) (ev_var rfl) (ev_nat (n := 2))) (ev_nat (n := 0))) ea_nil)))))) rfl
  rw [if_neg h4]
  have hcp : 0 < c := by
    refine Nat.pos_of_ne_zero fun q => ?_
    rw [q, val_zero, Nat.zero_mul] at h4 h2
    omega
  refine q_ifset (d := nD (if c = last E F then 5 else due)) (et_test (ev_op on_eq (ev_var rfl) (ev_var rfl))) (fun h5 => ?_) (fun h5 => ?_) ?_
  · rw [if_pos (of_decide_eq_true h5)]
    exact ev_nat (n := 5)
  · rw [if_neg (of_decide_eq_false h5)]
    rfl
  show Sx K _ [some (sz E F), some (.str (wn wy)), some (nD s), some (nD tall), some (nD bottom), some (prD (bt E F s c, fl)), some (nD c), some (nD (last E F)), some (nD (val F c * bottom)), some (.bl (outw wy s)), some (nD (if c = last E F then 5 else due)), none, none] _
  refine q_asg (ev_op (on_mul (c_mul v3 hbo (by decide))) (ev_call (d := nD (val F (c - 1))) ⟨E, F, c - 1, z, by omega, rfl, rfl⟩ (ea_cons (ev_var rfl) (ea_cons (ev_op (on_sub hcp) (ev_var rfl) (ev_nat (n := 1))) ea_nil))) (ev_var rfl)) ?_
  refine q_when (et_test (ev_op on_le (ev_var rfl) (ev_var rfl))) (fun h6 => ?_) (fun h6 => ?_)
  · rw [if_pos h6]
    exact s_ret ev_bl rfl
  rw [if_neg h6]
  exact s_ret (ev_andV (ev_op on_eq (ev_op (o_ixT rfl) (ev_var rfl) (ev_nat (n := 1))) (ev_var rfl)) fun _ => (ev_call (d := .bl (farB wy (outw wy s) (2 * (tall : Int) - (val F c * bottom : Nat) - (val F (c - 1) * bottom : Nat)) (decide (c % 2 = 0)))) ⟨wy, outw wy s, _, _, rfl, rfl⟩ (ea_cons (ev_var rfl) (ea_cons (ev_var rfl) (ea_cons (ev_op o_sub (ev_op o_sub (ev_op (o_mul (c_mul (a := 2) (n := 2) (by decide) htl (by decide))) (ev_nat (n := 2)) (ev_var rfl)) (ev_var rfl)) (ev_var rfl)) (ea_cons (ev_op on_eq (ev_op (on_mod (by decide)) (ev_var rfl) (ev_nat (n := 2))) (ev_nat (n := 0))) ea_nil)))))) rfl
end
end RM
set_option Elab.async false
set_option linter.all false
set_option maxRecDepth 100000
set_option maxHeartbeats 2000000
/-! The plain law: roots and wholes. -/
namespace RM
open PySem PySem.Spec PyProof.Rows L2
theorem NearR.small {F S c r : Nat} (h : NearR F S c r) : S < 2 ^ (2 * F) ↔ c < 2 ^ F := by
  have e : 2 ^ (2 * F) = 2 ^ F * 2 ^ F := by rw [← Nat.pow_add]; congr 1; omega
  rw [e]
  constructor
  · intro q
    refine Nat.lt_of_not_le fun k => ?_
    have h1 := val_ge_pow k
    have h2 := Nat.mul_le_mul h1 h1
    have h3 := h.lo
    omega
  · intro q
    have h1 : val F (c + 1) ≤ 2 ^ F := by
      have e : val F (2 ^ F) = 2 ^ F := by have := val_pow (F := F) (j := 0); simpa using this
      rw [← e]
      exact val_le q
    have h2 := Nat.mul_le_mul h1 h1
    have h3 := h.hi
    omega
theorem rootfair_ok {E F S c r : Nat} (z : Sz E F) (wy : W5) (hS : 1 ≤ S) (hc : c + 1 < last E F) (h : NearR F S c r) :
    0 < (settle E F wy 0 c r (decide (c < 2 ^ F))).1 ∧ (settle E F wy 0 c r (decide (c < 2 ^ F))).1 < last E F ∧ rootB F wy S (settle E F wy 0 c r (decide (c < 2 ^ F))).1 (settle E F wy 0 c r (decide (c < 2 ^ F))).2 = true := by
  have hsm := h.small
  have hc0 : 0 < c := by
    refine Nat.pos_of_ne_zero fun q => ?_
    have h1 := h.hi
    rw [q, Nat.zero_add, val_small (F := F) (c := 1) (Nat.lt_of_lt_of_le (by decide) (Nat.pow_le_pow_right (show 0 < 2 by decide) z.f1))] at h1
    omega
  unfold settle
  rw [if_neg (by omega)]
  by_cases hr : r = 0
  · rw [if_pos hr]
    refine ⟨hc0, by show c < _; omega, ?_⟩
    unfold rootB
    rw [if_pos (h.r0 hr).symm]
    rfl
  rw [if_neg hr]
  have hlo : val F c * val F c < S := by
    have h4 := h.r4
    have h1 := h.r1
    have h2 := h.r2
    have h3 := h.r3
    omega
  have hhi := h.hi
  have hcast : ∀ n : Nat, ((n : Nat) : Int) * ((n : Nat) : Int) = ((n * n : Nat) : Int) := fun n => (Int.natCast_mul n n).symm
  have hdue : ((1 ||| (if decide (c < 2 ^ F) = true then 2 else 0)) ||| 0) = if S < 2 ^ (2 * F) then 3 else 1 := by
    by_cases q : c < 2 ^ F
    · rw [if_pos (decide_eq_true q), if_pos (hsm.mpr q)]
      decide
    · rw [if_neg (by rw [decide_eq_false q]; decide), if_neg fun k => q (hsm.mp k)]
      decide
  by_cases hg : grows wy 0 (decide (c % 2 = 1)) r = true
  · simp only [if_pos hg]
    rw [if_neg (show ¬ c + 1 = last E F by omega)]
    refine ⟨Nat.succ_pos _, hc, ?_⟩
    unfold rootB
    have l2 : c + 1 - 1 = c := Nat.add_sub_cancel ..
    rw [if_neg (show ¬ val F (c + 1) * val F (c + 1) = S by omega), if_neg (show ¬ val F (c + 1) * val F (c + 1) < S by omega), l2, decide_eq_true hdue, Bool.true_and, decide_eq_true hlo, Bool.true_and, hcast, Nat.add_comm (val F (c + 1))]
    revert hg
    have h2 := h.r2
    have h3 := h.r3
    have h4 := h.r4
    generalize (val F c + val F (c + 1)) * (val F c + val F (c + 1)) = M at *
    cases wy with
    | even =>
      intro hg
      simp only [grows] at hg
      simp only [farB, if_true]
      by_cases q : r = 2
      · rw [if_pos q] at hg
        have q2 := (h2 q).2
        have q3 : c % 2 = 1 := by simpa using hg
        have e0 : 4 * (S : Int) - (M : Nat) = 0 := by omega
        have q4 : (c + 1) % 2 = 0 := by omega
        rw [e0, decide_eq_true q4]
        rfl
      · rw [if_neg q] at hg
        have q2 := (h3 (by simpa using hg)).2
        have e0 : 0 < 4 * (S : Int) - (M : Nat) := by omega
        rw [decide_eq_true e0]
        rfl
    | away =>
      intro hg
      simp only [grows] at hg
      unfold farB
      have e0 : 0 ≤ 4 * (S : Int) - (M : Nat) := by
        by_cases q : r = 2
        · have q2 := (h2 q).2
          omega
        · rw [if_neg q] at hg
          have q2 := (h3 (by simpa using hg)).2
          omega
      rw [if_neg (by decide), if_pos rfl, decide_eq_true e0]
    | nought => intro hg; simp [grows] at hg
    | up => intro hg; simp [farB]
    | down => intro hg; simp [grows] at hg
  · simp only [if_neg hg]
    rw [if_neg (show ¬ c = last E F by omega)]
    refine ⟨hc0, (by show c < _; omega), ?_⟩
    unfold rootB
    rw [if_neg (show ¬ val F c * val F c = S by omega), if_pos hlo, decide_eq_true hdue, Bool.true_and, decide_eq_true hhi, Bool.true_and, hcast]
    revert hg
    have h1 := h.r1
    have h2 := h.r2
    have h4 := h.r4
    generalize (val F c + val F (c + 1)) * (val F c + val F (c + 1)) = M at *
    cases wy with
    | even =>
      intro hg
      simp only [grows] at hg
      simp only [nearB, if_true]
      by_cases q : r = 2
      · rw [if_pos q] at hg
        have q2 := (h2 q).2
        have q3 : ¬ c % 2 = 1 := by simpa using hg
        have e0 : 4 * (S : Int) - (M : Nat) = 0 := by omega
        have q4 : c % 2 = 0 := by omega
        rw [e0, decide_eq_true q4]
        rfl
      · rw [if_neg q] at hg
        have q3 : r ≠ 3 := by simpa using hg
        have q2 := (h1 (by omega)).2
        have e0 : 4 * (S : Int) - (M : Nat) < 0 := by omega
        rw [decide_eq_true e0]
        rfl
    | away =>
      intro hg
      simp only [grows] at hg
      have e0 : 4 * (S : Int) - (M : Nat) < 0 := by
        by_cases q : r = 2
        · rw [if_pos q] at hg
          exact absurd rfl hg
        · rw [if_neg q] at hg
          have q3 : r ≠ 3 := by simpa using hg
          have q2 := (h1 (by omega)).2
          omega
      unfold nearB
      rw [if_neg (by decide), if_pos rfl, decide_eq_true e0]
    | nought => intro _; simp [nearB]
    | up =>
      intro hg
      exfalso
      apply hg
      simp [grows]
      omega
    | down => intro _; simp [nearB]
/-- a root's square is far below the end -/
theorem root_low {E F c S k r : Nat} (z : Sz E F) (hc : c < last E F) (hS : S = val F c * 2 ^ st E F) (h : NearR F S k r) : k + 1 < last E F := by
  refine Nat.lt_of_not_le fun q => ?_
  have hp := tp F
  have hlg := last_ge z
  have hh := hf2 z
  have hp2 : 2 ≤ 2 ^ F := Nat.le_trans (show 2 ≤ 2 ^ 1 by decide) (Nat.pow_le_pow_right (by decide) z.f1)
  have h1 : val F (last E F - 2 ^ F) ≤ val F k := val_le (by omega)
  rw [val_last2 z] at h1
  have h2 := Nat.mul_le_mul h1 h1
  have h3 := h.lo
  have h4 := val_lt (F := F) hc
  rw [val_last z] at h4
  have h5 : S < 2 ^ (F + (2 * hf E - 2)) * 2 ^ st E F := by
    rw [hS]
    exact Nat.mul_lt_mul_of_pos_right h4 (tp _)
  rw [← Nat.pow_add] at h5 h2
  have h6 : 2 ^ (F + (2 * hf E - 2) + st E F) ≤ 2 ^ (F + (2 * hf E - 3) + (F + (2 * hf E - 3))) := Nat.pow_le_pow_right (by decide) (by unfold st; omega)
  omega
/-! ### wholes -/
theorem rep_ex (F : Nat) : ∀ j w, w < 2 ^ (F + 1) → ∃ c, val F c = w * 2 ^ j
  | 0, w, h => ⟨0 * 2 ^ F + w, val_kw h (.inl rfl)⟩
  | j + 1, w, h => by
    by_cases q : 2 ^ F ≤ w
    · exact ⟨(j + 1) * 2 ^ F + w, val_kw h (.inr q)⟩
    · obtain ⟨c, hc⟩ := rep_ex F j (2 * w) (by rw [Nat.pow_succ]; omega)
      exact ⟨c, by rw [hc, Nat.pow_succ, Nat.mul_comm 2 w, Nat.mul_assoc, Nat.mul_comm 2]⟩
/-- the parts of a / b against T / S -/
theorem parts {a b T S : Nat} (hb : 0 < b) (hS : 0 < S) (e : a * S = T * b) : ∃ o, T = a / b * S + o ∧ o < S ∧ (o = 0 ↔ a % b = 0) ∧ (2 * (a % b) < b ↔ 2 * o < S) ∧ (b < 2 * (a % b) ↔ S < 2 * o) := by
  have h1 := Nat.div_add_mod a b
  have h2 := Nat.mod_lt a hb
  generalize a / b = q at *
  generalize a % b = r at *
  have h3 : q * S ≤ T := by
    refine Nat.le_of_mul_le_mul_right ?_ hb
    rw [← e, ← h1, Nat.mul_right_comm, Nat.mul_comm q b]
    exact Nat.mul_le_mul_right _ (Nat.le_add_right _ _)
  obtain ⟨o, ho⟩ : ∃ o, T = q * S + o := ⟨T - q * S, by omega⟩
  have h4 : r * S = o * b := by
    have : (b * q + r) * S = (q * S + o) * b := by rw [h1, ← ho]; exact e
    rw [Nat.add_mul, Nat.add_mul, Nat.mul_right_comm q S b, Nat.mul_comm q b] at this
    omega
  have v2 : 2 * r * S = 2 * o * b := by rw [Nat.mul_assoc, h4, Nat.mul_assoc]
  have vb : b * S = S * b := Nat.mul_comm ..
  refine ⟨o, ho, ?_, ?_, scale_lt hS v2 vb hb, scale_lt hS vb v2 hb⟩
  · exact (scale_lt hS h4 vb hb).mp h2
  · constructor
    · intro q0
      rw [q0, Nat.zero_mul] at h4
      rcases Nat.mul_eq_zero.mp h4 with q | q
      · exact q
      · omega
    · intro q0
      rw [q0, Nat.zero_mul] at h4
      rcases Nat.mul_eq_zero.mp h4.symm with q | q
      · exact q
      · omega
theorem fw_ok {a b T S s : Nat} (wy : W5) (hb : 0 < b) (hS : 0 < S) (e : a * S = T * b) : fwB wy s (wholeM wy s a b) T S = true := by
  obtain ⟨o, ho, hoS, h0, hlt, hgt⟩ := parts hb hS e
  unfold wholeM
  by_cases hz : a % b = 0
  · rw [if_pos hz]
    unfold fwB
    have := h0.mpr hz
    rw [if_pos (by omega)]
  rw [if_neg hz]
  have o0 : 0 < o := Nat.pos_of_ne_zero fun q => hz (h0.mp q)
  obtain ⟨t, ht, t1, t2, t3⟩ : ∃ t, (if 2 * (a % b) < b then 1 else if b < 2 * (a % b) then 3 else 2) = t ∧ (t = 1 ∨ t = 2 ∨ t = 3) ∧ (t = 1 → 2 * o < S) ∧ ((t = 2 → 2 * o = S) ∧ (t = 3 → S < 2 * o)) := by
    by_cases q1 : 2 * (a % b) < b
    · exact ⟨1, if_pos q1, .inl rfl, fun _ => hlt.mp q1, fun k => absurd k (by decide), fun k => absurd k (by decide)⟩
    · rw [if_neg q1]
      by_cases q2 : b < 2 * (a % b)
      · exact ⟨3, if_pos q2, .inr (.inr rfl), fun k => absurd k (by decide), fun k => absurd k (by decide), fun _ => hgt.mp q2⟩
      · refine ⟨2, if_neg q2, .inr (.inl rfl), fun k => absurd k (by decide), fun _ => ?_, fun k => absurd k (by decide)⟩
        have := mt hlt.mpr q1
        have := mt hgt.mpr q2
        omega
  rw [ht]
  obtain ⟨t3, t4⟩ := t3
  generalize a / b = q at *
  by_cases hg : grows wy s (decide (q % 2 = 1)) t = true
  · rw [if_pos hg]
    unfold fwB
    have eo : (T : Int) - ((q + 1) * S : Nat) = (o : Int) - S := by
      rw [Nat.succ_mul]
      omega
    rw [eo, if_neg (by omega), if_neg (by omega), decide_eq_true (show -(S : Int) < (o : Int) - S by omega), Bool.true_and]
    revert hg
    cases wy with
    | even =>
      intro hg
      simp only [grows] at hg
      simp only [farB, if_true]
      by_cases k : t = 2
      · rw [if_pos k] at hg
        have q2 := t3 k
        have q3 : q % 2 = 1 := by simpa using hg
        have e0 : 2 * ((o : Int) - S) + S = 0 := by omega
        have q4 : (q + 1) % 2 = 0 := by omega
        rw [e0, decide_eq_true q4]
        rfl
      · rw [if_neg k] at hg
        have q2 := t4 (by simpa using hg)
        have e0 : 0 < 2 * ((o : Int) - S) + S := by omega
        rw [decide_eq_true e0]
        rfl
    | away =>
      intro hg
      simp only [grows] at hg
      unfold farB
      have e0 : 0 ≤ 2 * ((o : Int) - S) + S := by
        by_cases k : t = 2
        · have q2 := t3 k
          omega
        · rw [if_neg k] at hg
          have q2 := t4 (by simpa using hg)
          omega
      rw [if_neg (by decide), if_pos rfl, decide_eq_true e0]
    | nought => intro hg; simp [grows] at hg
    | up => intro hg; simp [grows] at hg; simp [farB, outw, hg.2]
    | down => intro hg; simp [grows] at hg; simp [farB, outw, hg.2]
  · rw [if_neg hg]
    unfold fwB
    have eo : (T : Int) - (q * S : Nat) = (o : Int) := by omega
    rw [eo, if_neg (by omega), if_pos (by omega), decide_eq_true (show (o : Int) < S by omega), Bool.true_and]
    revert hg
    cases wy with
    | even =>
      intro hg
      simp only [grows] at hg
      simp only [nearB, if_true]
      by_cases k : t = 2
      · rw [if_pos k] at hg
        have q2 := t3 k
        have q3 : ¬ q % 2 = 1 := by simpa using hg
        have e0 : 2 * (o : Int) - S = 0 := by omega
        have q4 : q % 2 = 0 := by omega
        rw [e0, decide_eq_true q4]
        rfl
      · rw [if_neg k] at hg
        have q3 : t ≠ 3 := by simpa using hg
        have q2 := t2 (by omega)
        have e0 : 2 * (o : Int) - S < 0 := by omega
        rw [decide_eq_true e0]
        rfl
    | away =>
      intro hg
      simp only [grows] at hg
      have e0 : 2 * (o : Int) - S < 0 := by
        by_cases k : t = 2
        · rw [if_pos k] at hg
          exact absurd rfl hg
        · rw [if_neg k] at hg
          have q3 : t ≠ 3 := by simpa using hg
          have q2 := t2 (by omega)
          omega
      unfold nearB
      rw [if_neg (by decide), if_pos rfl, decide_eq_true e0]
    | nought => intro _; simp [nearB, outw]
    | up =>
      intro hg
      have : s ≠ 0 := by
        intro k
        apply hg
        simp [grows, k]
        omega
      simp [nearB, outw, this]
    | down =>
      intro hg
      have : s ≠ 1 := by
        intro k
        apply hg
        simp [grows, k]
        omega
      simp [nearB, outw, this]
theorem grows_bursts {wy : W5} {s r : Nat} {odd : Bool} (h : grows wy s odd r = true) : bursts wy s = true := by
  cases wy <;> simp [grows, bursts] at * <;> omega
/-- the whole near a number is a number again -/
theorem whole_rep {E F c s : Nat} (z : Sz E F) (wy : W5) (hc : c < last E F) : ∃ k, val F k = wholeM wy s (mant F c * up (pw E F c)) (dn (pw E F c)) * 2 ^ st E F ∧ k ≤ last E F ∧ (k = last E F → bursts wy s = true) := by
  have e := frac_val (E := E) (F := F) (c := c)
  have hb := dn_pos (pw E F c)
  generalize mant F c * up (pw E F c) = a at *
  generalize dn (pw E F c) = b at *
  have hS := tp (st E F)
  obtain ⟨o, ho, hoS, h0, _, _⟩ := parts hb hS e
  have hV : val F (last E F) = 2 ^ hf E * 2 ^ st E F := by
    rw [val_last z, ← Nat.pow_add]
    congr 1
    have := hf2 z
    unfold st
    omega
  have hq : a / b < 2 ^ hf E := by
    have h1 := val_lt (F := F) hc
    rw [hV] at h1
    refine Nat.lt_of_mul_lt_mul_right (a := 2 ^ st E F) ?_
    omega
  have hw := wholeM_le wy s a b
  have hcase : wholeM wy s a b = a / b ∨ (wholeM wy s a b = a / b + 1 ∧ bursts wy s = true ∧ a % b ≠ 0) := by
    unfold wholeM
    by_cases q : a % b = 0
    · exact .inl (if_pos q)
    · rw [if_neg q]
      by_cases q2 : grows wy s (decide (a / b % 2 = 1)) (if 2 * (a % b) < b then 1 else if b < 2 * (a % b) then 3 else 2) = true
      · exact .inr ⟨if_pos q2, grows_bursts q2, q⟩
      · exact .inl (if_neg q2)
  generalize wholeM wy s a b = w at *
  have hrep : ∃ k, val F k = w * 2 ^ st E F := by
    by_cases hx : st E F ≤ expo F c
    · have hT : val F c = mant F c * 2 ^ (expo F c - st E F) * 2 ^ st E F := by
        rw [val_mant, Nat.mul_assoc, ← Nat.pow_add, Nat.sub_add_cancel hx]
      have ho0 : o = 0 := by
        have h5 : val F c % 2 ^ st E F = o := by
          rw [ho, Nat.mul_comm, Nat.mul_add_mod, Nat.mod_eq_of_lt hoS]
        rw [hT, Nat.mul_mod_left] at h5
        exact h5.symm
      have hwq : w = a / b := by
        rcases hcase with q | ⟨_, _, q⟩
        · exact q
        · exact absurd (h0.mp ho0) q
      refine ⟨c, ?_⟩
      rw [hwq]
      omega
    · refine rep_ex F _ w ?_
      have h1 : val F c < 2 ^ (F + 1) * 2 ^ expo F c := by
        rw [val_mant]
        exact Nat.mul_lt_mul_of_pos_right (mant_lt z) (tp _)
      rw [← Nat.pow_add] at h1
      have h2 : 2 ^ (F + 1 + expo F c) ≤ 2 ^ F * 2 ^ st E F := by
        rw [← Nat.pow_add]
        exact Nat.pow_le_pow_right (by decide) (by omega)
      have h3 : a / b < 2 ^ F := by
        refine Nat.lt_of_mul_lt_mul_right (a := 2 ^ st E F) ?_
        omega
      have h4 := tp F
      rw [Nat.pow_succ]
      omega
  obtain ⟨k, hk⟩ := hrep
  refine ⟨k, hk, ?_, fun q => ?_⟩
  · refine Nat.le_of_not_lt fun q => ?_
    have h1 := val_lt (F := F) q
    rw [hV, hk] at h1
    have h2 := Nat.lt_of_mul_lt_mul_right h1
    omega
  · rw [q, hV] at hk
    have h2 := Nat.eq_of_mul_eq_mul_right hS hk
    rcases hcase with k1 | ⟨_, k1, _⟩
    · omega
    · exact k1
theorem rnd_whole {E F w k : Nat} (wy : W5) (s : Nat) (hk : val F k = w * 2 ^ st E F) (hl : k ≤ last E F) (hb : k = last E F → bursts wy s = true) :
    rnd E F wy s w 1 = (k, if k = last E F then 5 else 0) := by
  by_cases h0 : w = 0
  · have hk0 : k = 0 := by
      rw [h0, Nat.zero_mul, ← val_zero F] at hk
      exact val_inj hk
    subst h0
    subst hk0
    have e : cutM E F 0 1 = (0, -(st E F : Int), 0) := rfl
    unfold rnd setM
    rw [e]
    have e2 : (-(st E F : Int) + (st E F : Int)).toNat = 0 := by omega
    dsimp only
    rw [e2, Nat.zero_mul, Nat.zero_add]
    unfold settle
    by_cases q : last E F ≤ 0
    · rw [if_pos q, if_pos (hb (by omega)), if_pos (by omega), show last E F = 0 by omega]
    · rw [if_neg q, if_pos rfl, if_neg (by omega)]
  · obtain ⟨j, hj, _, _, hn⟩ := cut_ok (E := E) (F := F) (a := w) (b := 1) (by omega) (by decide)
    unfold rnd setM
    have e2 : ((cutM E F w 1).2.1 + (st E F : Int)).toNat = j := by omega
    rw [e2]
    generalize j * 2 ^ F + (cutM E F w 1).1 = cc at *
    generalize (cutM E F w 1).2.2 = r at *
    have lo := hn.lo
    have hi := hn.hi
    rw [Nat.mul_one, ← hk] at lo hi
    have hcc : cc = k := by
      have a1 : ¬ k < cc := fun q => by have := val_lt (F := F) q; omega
      have a2 : ¬ cc < k := fun q => by have := val_le (F := F) (show cc + 1 ≤ k from q); omega
      omega
    subst hcc
    have hr : r = 0 := by
      have r1 := hn.r1
      have r2 := hn.r2
      have r3 := hn.r3
      have r4 := hn.r4
      rw [Nat.mul_one, ← hk] at r1 r2 r3
      omega
    subst hr
    unfold settle
    by_cases q : last E F ≤ cc
    · have q2 : cc = last E F := by omega
      rw [if_pos q, if_pos (hb q2), if_pos q2, q2]
    · rw [if_neg q, if_pos rfl, if_neg (by omega)]
theorem who_ok {E F : Nat} (z : Sz E F) (wy : W5) {x : Nat × Nat} (h0 : x.2 ≠ 0) (h : x.2 < last E F) : ∃ k fl, whoM E F wy x = (bt E F x.1 k, fl) ∧ k ≤ last E F ∧ val F k % 2 ^ st E F = 0 ∧
    fl = (if val F k = val F x.2 then 0 else 1) + 4 * (if k = last E F then 1 else 0) ∧ fwB wy x.1 (val F k / 2 ^ st E F) (val F x.2) (2 ^ st E F) = true := by
  obtain ⟨k, hk, hl, hb⟩ := whole_rep z (s := x.1) wy h
  have hS := tp (st E F)
  have e := frac_val (E := E) (F := F) (c := x.2)
  have hdp := dn_pos (pw E F x.2)
  have hfw := fw_ok (s := x.1) wy hdp hS e
  unfold whoM
  rw [if_neg (by omega), if_neg (by omega)]
  generalize mant F x.2 * up (pw E F x.2) = a at *
  generalize dn (pw E F x.2) = b at *
  generalize wholeM wy x.1 a b = w at *
  dsimp only
  rw [rnd_whole wy x.1 hk hl hb]
  refine ⟨k, _, rfl, hl, ?_, ?_, ?_⟩
  · rw [hk, Nat.mul_mod_left]
  · have hiff : w * b = a ↔ val F k = val F x.2 := by
      rw [hk]
      exact scale_eq hS (by rw [Nat.mul_right_comm]) e hdp
    by_cases q : w * b = a
    · rw [if_pos q, if_pos (hiff.mp q)]
      by_cases q2 : k = last E F
      · rw [if_pos q2, if_pos q2]
        show (5 &&& 4) ||| 0 = 0 + 4 * 1
        decide
      · rw [if_neg q2, if_neg q2]
        show (0 &&& 4) ||| 0 = 0 + 4 * 0
        decide
    · rw [if_neg q, if_neg fun k => q (hiff.mpr k)]
      by_cases q2 : k = last E F
      · rw [if_pos q2, if_pos q2]
        show (5 &&& 4) ||| 1 = 1 + 4 * 1
        decide
      · rw [if_neg q2, if_neg q2]
        show (0 &&& 4) ||| 1 = 1 + 4 * 0
        decide
  · rw [hk, Nat.mul_div_cancel _ hS]
    exact hfw
end RM
set_option Elab.async false
set_option linter.all false
set_option maxRecDepth 100000
set_option maxHeartbeats 2000000
namespace RM
open PySem PySem.Spec PyProof.Rows L2
def gWF (ds : List D) (d : D) : Prop := ∃ (E F : Nat) (wy : W5) (x : Nat × Nat), Sz E F ∧ okB E F x ∧ ds = [sz E F, .str (wn wy), btD E F x, prD (whoM E F wy x)] ∧ d = .bl true
theorem o_pow2 {K : PySem.W.Frag} {n k : Nat} (h : n < 2 ^ k) (hk : k ≤ 1000000) : Op2 K (rI CPow2 fun i _ => .int (i * i)) (.int (n : Int)) (.int 2) (.int ((n : Int) * (n : Int))) := by
  refine o_I (g := fun i _ => i * i) ⟨rfl, ?_⟩
  have := PyProof.Rows.intBits_le (natAbs_lt h)
  omega
theorem st_B1 {E F : Nat} (z : Sz E F) : 2 ^ st E F < 2 ^ B1 := pow_lt (by have := st_le z; have := B1_v; omega)
section
variable {P : Program} {w : World} {K : PySem.W.Frag} {mg : Str → Option Value} {base : Heap}
theorem sc_l_root_fair : FnScope ["_law_size", "_law_way", "_law_square", "_law_found", "_law_code", "_law_here", "_law_due", "_law_beyond", "_law_lean", "_law_near_here", "_law_before", "_law_far_here"] ["_law_size", "_law_way", "_law_square", "_law_found"] (defScope s_l_root_fair) := ⟨rfl, rfl, rfl, by decide +kernel, rfl, by decide +kernel, by decide +kernel⟩
theorem ok_l_root_fair {f : Addr} {fd : FuncData} (F : FnP K "_law_root_fair" "_law_root_fair" s_l_root_fair f fd) (c_l_two : Cal P w K mg base 2 "_law_two" (spD K gTwo)) (c_l_value : Cal P w K mg base 1 "_law_value" (spD K gVal)) (c_l_near : Cal P w K mg base 1 "_law_near" (spD K gNear)) (c_l_far : Cal P w K mg base 1 "_law_far" (spD K gFar)) : FnOk P w K mg base CX0 3 f fd ["_law_size", "_law_way", "_law_square", "_law_found"] (spD K gRFair) := by
  refine fn_okD F sc_l_root_fair (fun ds d hg => ?_) fun cdv A outer s H E hr => ⟨_, (pss_cons (ps_if (pt_not (pt_val (pe_c c_l_two hr rfl (pa_cons (pv 3) pa_nil)))) (pss_one (ps_ret pe_bl)) pss_nil)
    (pss_cons (ps_set (i := 4) sc_l_root_fair.nd rfl (Or.inl rfl) (pe_ix (r := rIxT K) ix_tup (pv 3) pe_int (fun _ _ => rfl)))
    (pss_cons (ps_if (pt_not (pt_chain op_lt op_lt pe_int (pv 4) (pe_op op_shlW (pe_op op_sub (pe_op op_shlW pe_int (pe_ix (r := rIxT K) ix_tup (pv 0) pe_int (fun _ _ => rfl))) pe_int) (pe_ix (r := rIxT K) ix_tup (pv 0) pe_int (fun _ _ => rfl))))) (pss_one (ps_ret pe_bl)) pss_nil)
    (pss_cons (ps_set (i := 5) sc_l_root_fair.nd rfl (Or.inl rfl) (pe_c c_l_value hr rfl (pa_cons (pv 0) (pa_cons (pv 4) pa_nil))))
    (pss_cons (ps_if (pt_cmpR op_eq (pe_op op_mulX (pv 5) (pv 5)) (pv 2) (nomark _)) (pss_one (ps_ret (pe_cmpR op_eq (pe_ix (r := rIxT K) ix_tup (pv 3) pe_int (fun _ _ => rfl)) pe_int (nomark _)))) pss_nil)
    (pss_cons (ps_set (i := 6) sc_l_root_fair.nd rfl (Or.inl rfl) pe_int)
    (pss_cons (ps_if (pt_cmpR op_lt (pv 2) (pe_op op_shlW pe_int (pe_op op_mulX pe_int (pe_ix (r := rIxT K) ix_tup (pv 0) pe_int (fun _ _ => rfl)))) (nomark _)) (pss_one (ps_set (i := 6) sc_l_root_fair.nd rfl (Or.inl rfl) pe_int)) pss_nil)
    (pss_cons (ps_if (pt_cmpR op_lt (pe_op op_mulX (pv 5) (pv 5)) (pv 2) (nomark _)) (pss_cons (ps_set (i := 7) sc_l_root_fair.nd rfl (Or.inl rfl) (pe_c c_l_value hr rfl (pa_cons (pv 0) (pa_cons (pe_op op_add (pv 4) pe_int) pa_nil))))
    (pss_cons (ps_set (i := 8) sc_l_root_fair.nd rfl (Or.inl rfl) (pe_op op_sub (pe_op op_mulX pe_int (pv 2)) (pe_op op_pow2 (pe_op op_add (pv 5) (pv 7)) pe_int)))
    (pss_cons (ps_set (i := 9) sc_l_root_fair.nd rfl (Or.inl rfl) (pe_c c_l_near hr rfl (pa_cons (pv 1) (pa_cons (pe_cmpR op_eq (pv 1) pe_str (nomark _)) (pa_cons (pv 8) (pa_cons (pe_cmpR op_eq (pe_op op_mod (pv 4) pe_int) pe_int (nomark _)) pa_nil))))))
    (pss_one (ps_ret (pe_and (pe_cmpR op_eq (pe_ix (r := rIxT K) ix_tup (pv 3) pe_int (fun _ _ => rfl)) (pv 6) (nomark _)) (pe_and (pe_cmpR op_lt (pv 2) (pe_op op_mulX (pv 7) (pv 7)) (nomark _)) (pe_one (pv 9))))))))) pss_nil)
    (pss_cons (ps_set (i := 10) sc_l_root_fair.nd rfl (Or.inl rfl) (pe_c c_l_value hr rfl (pa_cons (pv 0) (pa_cons (pe_op op_sub (pv 4) pe_int) pa_nil))))
    (pss_cons (ps_set (i := 8) sc_l_root_fair.nd rfl (Or.inl rfl) (pe_op op_sub (pe_op op_mulX pe_int (pv 2)) (pe_op op_pow2 (pe_op op_add (pv 5) (pv 10)) pe_int)))
    (pss_cons (ps_set (i := 11) sc_l_root_fair.nd rfl (Or.inl rfl) (pe_c c_l_far hr rfl (pa_cons (pv 1) (pa_cons (pe_cmpR op_eq (pv 1) pe_str (nomark _)) (pa_cons (pv 8) (pa_cons (pe_cmpR op_eq (pe_op op_mod (pv 4) pe_int) pe_int (nomark _)) pa_nil))))))
    (pss_one (ps_ret (pe_and (pe_cmpR op_eq (pe_ix (r := rIxT K) ix_tup (pv 3) pe_int (fun _ _ => rfl)) (pv 6) (nomark _)) (pe_and (pe_cmpR op_lt (pe_op op_mulX (pv 10) (pv 10)) (pv 2) (nomark _)) (pe_one (pv 11))))))))))))))))), fun ds d hg => ?_⟩
  · obtain ⟨E, F, wy, S, c, fl, z, hc0, hcl, hS, rfl, rfl⟩ := hg
    rfl
  obtain ⟨E, F, wy, S, c, fl, z, hc0, hcl, hS, rfl, rfl⟩ := hg
  have hp := tp F
  have hlt := last_lt_top z
  have hf1 := z.f112
  have hKU := KU_v
  have hB1 := B1_v
  show Sx K _ _ { nx := fun _ => D.bl (rootB F wy S c fl) = .non, rt := fun d' => d' = D.bl (rootB F wy S c fl) }
  unfold rootB
  refine q_whenb (x := false) (et_not (et_B (ev_call (d := .bl true) ⟨_, _, rfl, rfl⟩ (ea_cons (ev_var rfl) ea_nil)))) (fun h => by cases h) (fun _ => ?_)
  refine q_asg (ev_op (o_ixT rfl) (ev_var rfl) (ev_nat (n := 0))) ?_
  refine q_whenb (x := false) (EvT.is (et_not (et_test (ev_chain (ev_nat (n := 0)) (ev_var rfl) on_lt (fun _ => eLast z (e0 rfl) (e1 rfl)) (fun _ => on_lt)))) (by rw [decide_eq_true hc0, decide_eq_true hcl]; rfl)) (fun h => by cases h) (fun _ => ?_)
  have v1 := val_KU z (c := c) (by omega)
  have v2 := val_KU z (c := c + 1) (by omega)
  have v3 := val_KU z (c := c - 1) (by omega)
  refine q_asg (ev_call (d := nD (val F c)) ⟨E, F, c, z, by omega, rfl, rfl⟩ (ea_cons (ev_var rfl) (ea_cons (ev_var rfl) ea_nil))) ?_
  refine q_when (et_test (ev_op on_eq (ev_op (on_mul (c_mul v1 v1 (by decide))) (ev_var rfl) (ev_var rfl)) (ev_var rfl))) (fun h => ?_) (fun h => ?_)
  · rw [if_pos h]
    exact s_ret (ev_op on_eq (ev_op (o_ixT rfl) (ev_var rfl) (ev_nat (n := 1))) (ev_nat (n := 0))) rfl
  rw [if_neg h]
  refine q_asg (ev_nat (n := 1)) ?_
  refine q_ifset (d := nD (if S < 2 ^ (2 * F) then 3 else 1)) (et_test (ev_op on_lt (ev_var rfl) (ev_op (on_one (by omega)) (ev_nat (n := 1)) (ev_op (on_mul (c_mul (a := 2) (n := 2) (m := 7) (by decide) (by omega) (by decide))) (ev_nat (n := 2)) (e1 rfl))))) (fun h3 => ?_) (fun h3 => ?_) ?_
  · rw [if_pos (of_decide_eq_true h3)]
    exact ev_nat (n := 3)
  · rw [if_neg (of_decide_eq_false h3)]
    rfl
  generalize (if S < 2 ^ (2 * F) then 3 else 1) = due
  show Sx K _ [some (sz E F), some (.str (wn wy)), some (nD S), some (prD (c, fl)), some (nD c), some (nD (val F c)), some (nD due), none, none, none, none, none] _
  have up1 : decide (wn wy = "up") = decide (wy = .up) := wn_is wy .up
  have s1 : val F c + val F (c + 1) < 2 ^ (KU + 1) := by
    rw [Nat.pow_succ]
    omega
  have s2 : val F c + val F (c - 1) < 2 ^ (KU + 1) := by
    rw [Nat.pow_succ]
    omega
  refine q_when (et_test (ev_op on_lt (ev_op (on_mul (c_mul v1 v1 (by decide))) (ev_var rfl) (ev_var rfl)) (ev_var rfl))) (fun h4 => ?_) (fun h4 => ?_)
  · rw [if_pos h4]
    refine q_asg (ev_call (d := nD (val F (c + 1))) ⟨E, F, c + 1, z, by omega, rfl, rfl⟩ (ea_cons (ev_var rfl) (ea_cons (ev_op on_add (ev_var rfl) (ev_nat (n := 1))) ea_nil))) ?_
    refine q_asg (ev_op o_sub (ev_op (o_mul (c_mul (a := 4) (n := 3) (by decide) hS (by decide))) (ev_nat (n := 4)) (ev_var rfl)) (ev_op (o_pow2 s1 (by decide)) (ev_op on_add (ev_var rfl) (ev_var rfl)) (ev_int (i := 2)))) ?_
    refine q_asg (ev_call (d := .bl (nearB wy (decide (wy = .up)) (4 * (S : Int) - ((val F c + val F (c + 1) : Nat) : Int) * ((val F c + val F (c + 1) : Nat) : Int)) (decide (c % 2 = 0)))) ⟨wy, _, _, _, rfl, rfl⟩ (ea_cons (ev_var rfl) (ea_cons (Eva.is (ev_op o_eqS (ev_var rfl) ev_str) (congrArg D.bl up1)) (ea_cons (ev_var rfl) (ea_cons (ev_op on_eq (ev_op (on_mod (by decide)) (ev_var rfl) (ev_nat (n := 2))) (ev_nat (n := 0))) ea_nil))))) ?_
    exact s_ret (ev_andV (ev_op on_eq (ev_op (o_ixT rfl) (ev_var rfl) (ev_nat (n := 1))) (ev_var rfl)) fun _ => (ev_andV (ev_op on_lt (ev_var rfl) (ev_op (on_mul (c_mul v2 v2 (by decide))) (ev_var rfl) (ev_var rfl))) fun _ => (ev_var rfl))) rfl
  rw [if_neg h4]
  refine q_asg (ev_call (d := nD (val F (c - 1))) ⟨E, F, c - 1, z, by omega, rfl, rfl⟩ (ea_cons (ev_var rfl) (ea_cons (ev_op (on_sub hc0) (ev_var rfl) (ev_nat (n := 1))) ea_nil))) ?_
  refine q_asg (ev_op o_sub (ev_op (o_mul (c_mul (a := 4) (n := 3) (by decide) hS (by decide))) (ev_nat (n := 4)) (ev_var rfl)) (ev_op (o_pow2 s2 (by decide)) (ev_op on_add (ev_var rfl) (ev_var rfl)) (ev_int (i := 2)))) ?_
  refine q_asg (ev_call (d := .bl (farB wy (decide (wy = .up)) (4 * (S : Int) - ((val F c + val F (c - 1) : Nat) : Int) * ((val F c + val F (c - 1) : Nat) : Int)) (decide (c % 2 = 0)))) ⟨wy, _, _, _, rfl, rfl⟩ (ea_cons (ev_var rfl) (ea_cons (Eva.is (ev_op o_eqS (ev_var rfl) ev_str) (congrArg D.bl up1)) (ea_cons (ev_var rfl) (ea_cons (ev_op on_eq (ev_op (on_mod (by decide)) (ev_var rfl) (ev_nat (n := 2))) (ev_nat (n := 0))) ea_nil))))) ?_
  exact s_ret (ev_andV (ev_op on_eq (ev_op (o_ixT rfl) (ev_var rfl) (ev_nat (n := 1))) (ev_var rfl)) fun _ => (ev_andV (ev_op on_lt (ev_op (on_mul (c_mul v3 v3 (by decide))) (ev_var rfl) (ev_var rfl)) (ev_var rfl)) fun _ => (ev_var rfl))) rfl
theorem sc_l_fair_whole : FnScope ["_law_way", "_law_sign", "_law_whole_here", "_law_top", "_law_bottom", "_law_outward", "_law_over"] ["_law_way", "_law_sign", "_law_whole_here", "_law_top", "_law_bottom"] (defScope s_l_fair_whole) := ⟨rfl, rfl, rfl, by decide +kernel, rfl, by decide +kernel, by decide +kernel⟩
theorem ok_l_fair_whole {f : Addr} {fd : FuncData} (F : FnP K "_law_fair_whole" "_law_fair_whole" s_l_fair_whole f fd) (c_l_whole : Cal P w K mg base 1 "_law_whole" (spD K gWhole)) (c_l_near : Cal P w K mg base 1 "_law_near" (spD K gNear)) (c_l_far : Cal P w K mg base 1 "_law_far" (spD K gFar)) : FnOk P w K mg base CX0 2 f fd ["_law_way", "_law_sign", "_law_whole_here", "_law_top", "_law_bottom"] (spD K gFW) := by
  refine fn_okD F sc_l_fair_whole (fun ds d hg => ?_) fun cdv A outer s H E hr => ⟨_, (pss_cons (ps_if (PW.pt (pw_or (pt_not (pt_val (pe_c c_l_whole hr rfl (pa_cons (pv 2) pa_nil)))) (pw_or1 (pt_cmpR op_lt (pv 2) pe_int (nomark _))))) (pss_one (ps_ret pe_bl)) pss_nil)
    (pss_cons (ps_set (i := 5) sc_l_fair_whole.nd rfl (Or.inl rfl) (pe_or (pe_and (pe_cmpR op_eq (pv 0) pe_str (nomark _)) (pe_one (pe_cmpR op_eq (pv 1) pe_int (nomark _)))) (pe_one (pe_and (pe_cmpR op_eq (pv 0) pe_str (nomark _)) (pe_one (pe_cmpR op_eq (pv 1) pe_int (nomark _)))))))
    (pss_cons (ps_set (i := 6) sc_l_fair_whole.nd rfl (Or.inl rfl) (pe_op op_sub (pv 3) (pe_op op_mulX (pv 2) (pv 4))))
    (pss_cons (ps_if (pt_cmpR op_eq (pv 6) pe_int (nomark _)) (pss_one (ps_ret pe_bl)) pss_nil)
    (pss_cons (ps_if (pt_cmpR op_gt (pv 6) pe_int (nomark _)) (pss_one (ps_ret (pe_and (pe_cmpR op_lt (pv 6) (pv 4) (nomark _)) (pe_one (pe_c c_l_near hr rfl (pa_cons (pv 0) (pa_cons (pv 5) (pa_cons (pe_op op_sub (pe_op op_mulX pe_int (pv 6)) (pv 4)) (pa_cons (pe_cmpR op_eq (pe_op op_mod (pv 2) pe_int) pe_int (nomark _)) pa_nil))))))))) pss_nil)
    (pss_one (ps_ret (pe_and (pe_cmpR op_gt (pv 6) (pe_un un_neg (pv 4)) (nomark _)) (pe_one (pe_c c_l_far hr rfl (pa_cons (pv 0) (pa_cons (pv 5) (pa_cons (pe_op op_add (pe_op op_mulX pe_int (pv 6)) (pv 4)) (pa_cons (pe_cmpR op_eq (pe_op op_mod (pv 2) pe_int) pe_int (nomark _)) pa_nil)))))))))))))), fun ds d hg => ?_⟩
  · obtain ⟨wy, s, v, T, b, hv, hT, hb, rfl, rfl⟩ := hg
    rfl
  obtain ⟨wy, s, v, T, b, hv, hT, hb, rfl, rfl⟩ := hg
  have hB1 := B1_v
  show Sx K _ _ { nx := fun _ => D.bl (fwB wy s v T b) = .non, rt := fun d' => d' = D.bl (fwB wy s v T b) }
  unfold fwB
  refine q_whenb (x := false) (EvT.is (et_or (et_not (et_B (ev_call (d := .bl true) ⟨_, rfl, rfl⟩ (ea_cons (ev_var rfl) ea_nil)))) fun _ => (et_test (ev_op on_lt (ev_var rfl) (ev_nat (n := 0))))) (by rw [decide_eq_false (Nat.not_lt_zero v)]; rfl)) (fun h => by cases h) (fun _ => ?_)
  refine q_asg (Eva.is (d' := .bl (outw wy s)) (ev_orV (ev_andV (ev_op o_eqS (ev_var rfl) ev_str) fun _ => (ev_op on_eq (ev_var rfl) (ev_nat (n := 0)))) fun _ => (ev_andV (ev_op o_eqS (ev_var rfl) ev_str) fun _ => (ev_op on_eq (ev_var rfl) (ev_nat (n := 1))))) (congrArg D.bl (by rw [show ("up" : Str) = wn .up from rfl, show ("down" : Str) = wn .down from rfl, wn_is, wn_is]; rfl))) ?_
  refine q_asg (ev_op o_sub (ev_var rfl) (ev_op (on_mul (c_mul hv hb (by decide))) (ev_var rfl) (ev_var rfl))) ?_
  have ho : ((T : Int) - ((v * b : Nat) : Int)).natAbs < 2 ^ (B1 + B1) := sub_abs (lt_up hT (by omega)) (lt_mul hv hb)
  have hm : CMulX ((2 : Nat) : Int) ((T : Int) - ((v * b : Nat) : Int)) := c_mulI (n := 2) (by decide) ho (by omega)
  generalize (T : Int) - ((v * b : Nat) : Int) = o at *
  show Sx K _ [some (.str (wn wy)), some (nD s), some (nD v), some (nD T), some (nD b), some (.bl (outw wy s)), some (.int o)] _
  refine q_when (et_test (ev_op o_eqI (ev_var rfl) (ev_int (i := 0)))) (fun h => ?_) (fun h => ?_)
  · rw [if_pos h]
    exact s_ret ev_bl rfl
  rw [if_neg h]
  refine q_when (et_test (ev_op o_gt (ev_var rfl) (ev_int (i := 0)))) (fun h2 => ?_) (fun h2 => ?_)
  · rw [if_pos h2]
    exact s_ret (ev_andV (ev_op o_lt (ev_var rfl) (ev_var rfl)) fun _ => (ev_call (d := .bl (nearB wy (outw wy s) (2 * o - b) (decide (v % 2 = 0)))) ⟨wy, _, _, _, rfl, rfl⟩ (ea_cons (ev_var rfl) (ea_cons (ev_var rfl) (ea_cons (ev_op o_sub (ev_op (o_mul hm) (ev_nat (n := 2)) (ev_var rfl)) (ev_var rfl)) (ea_cons (ev_op on_eq (ev_op (on_mod (by decide)) (ev_var rfl) (ev_nat (n := 2))) (ev_nat (n := 0))) ea_nil)))))) rfl
  rw [if_neg h2]
  exact s_ret (ev_andV (ev_op o_gt (ev_var rfl) (ev_un u_neg (ev_var rfl))) fun _ => (ev_call (d := .bl (farB wy (outw wy s) (2 * o + b) (decide (v % 2 = 0)))) ⟨wy, _, _, _, rfl, rfl⟩ (ea_cons (ev_var rfl) (ea_cons (ev_var rfl) (ea_cons (ev_op o_add (ev_op (o_mul hm) (ev_nat (n := 2)) (ev_var rfl)) (ev_var rfl)) (ea_cons (ev_op on_eq (ev_op (on_mod (by decide)) (ev_var rfl) (ev_nat (n := 2))) (ev_nat (n := 0))) ea_nil)))))) rfl
theorem sc_l_wholed_fair : FnScope ["_law_size", "_law_way", "_law_a", "_law_found", "_law_top", "_law_last", "_law_code", "_law_told", "_law_steps", "_law_here", "_law_tall"] ["_law_size", "_law_way", "_law_a", "_law_found"] (defScope s_l_wholed_fair) := ⟨rfl, rfl, rfl, by decide +kernel, rfl, by decide +kernel, by decide +kernel⟩
theorem ok_l_wholed_fair {f : Addr} {fd : FuncData} (F : FnP K "_law_wholed_fair" "_law_wholed_fair" s_l_wholed_fair f fd) (c_l_is : Cal P w K mg base 3 "_law_is" (spD K gIs)) (c_l_two : Cal P w K mg base 2 "_law_two" (spD K gTwo)) (c_l_value : Cal P w K mg base 1 "_law_value" (spD K gVal)) (c_l_fair_whole : Cal P w K mg base 2 "_law_fair_whole" (spD K gFW)) (b_int : mg "int" = none) : FnOk P w K mg base CX0 4 f fd ["_law_size", "_law_way", "_law_a", "_law_found"] (spD K gWF) := by
  refine fn_okD F sc_l_wholed_fair (fun ds d hg => ?_) fun cdv A outer s H E hr => ⟨_, (pss_cons (ps_set (i := 4) sc_l_wholed_fair.nd rfl (Or.inl rfl) (pe_op op_shlW pe_int (pe_op op_add (pe_ix (r := rIxT K) ix_tup (pv 0) pe_int (fun _ _ => rfl)) (pe_ix (r := rIxT K) ix_tup (pv 0) pe_int (fun _ _ => rfl)))))
    (pss_cons (ps_set (i := 5) sc_l_wholed_fair.nd rfl (Or.inl rfl) (pe_op op_shlW (pe_op op_sub (pe_op op_shlW pe_int (pe_ix (r := rIxT K) ix_tup (pv 0) pe_int (fun _ _ => rfl))) pe_int) (pe_ix (r := rIxT K) ix_tup (pv 0) pe_int (fun _ _ => rfl))))
    (pss_cons (ps_set (i := 6) sc_l_wholed_fair.nd rfl (Or.inl rfl) (pe_op op_mod (pv 2) (pv 4)))
    (pss_cons (ps_if (pt_cmpR op_gt (pv 6) (pv 5) (nomark _)) (pss_one (ps_ret (pe_c c_l_is hr rfl (pa_cons (pv 3) (pa_cons (pe_op op_add (pv 5) (pe_op op_shlW pe_int (pe_op op_sub (pe_ix (r := rIxT K) ix_tup (pv 0) pe_int (fun _ _ => rfl)) pe_int))) (pa_cons pe_int pa_nil)))))) pss_nil)
    (pss_cons (ps_if (PW.pt (pw_or (pt_cmpR op_eq (pv 6) (pv 5) (nomark _)) (pw_or1 (pt_cmpR op_eq (pv 6) pe_int (nomark _))))) (pss_one (ps_ret (pe_c c_l_is hr rfl (pa_cons (pv 3) (pa_cons (pv 2) (pa_cons pe_int pa_nil)))))) pss_nil)
    (pss_cons (ps_if (pt_not (pt_val (pe_c c_l_two hr rfl (pa_cons (pv 3) pa_nil)))) (pss_one (ps_ret pe_bl)) pss_nil)
    (pss_cons (ps_set (i := 7) sc_l_wholed_fair.nd rfl (Or.inl rfl) (pe_op op_sub (pe_ix (r := rIxT K) ix_tup (pv 3) pe_int (fun _ _ => rfl)) (pe_op op_mulX (pe_op op_fdivP (pv 2) (pv 4)) (pv 4))))
    (pss_cons (ps_if (pt_not (pt_chain op_le op_le pe_int (pv 7) (pv 5))) (pss_one (ps_ret pe_bl)) pss_nil)
    (pss_cons (ps_set (i := 8) sc_l_wholed_fair.nd rfl (Or.inl rfl) (pe_op op_add (pe_op op_sub (pe_op op_shlW pe_int (pe_op op_sub (pe_ix (r := rIxT K) ix_tup (pv 0) pe_int (fun _ _ => rfl)) pe_int)) pe_int) (pe_ix (r := rIxT K) ix_tup (pv 0) pe_int (fun _ _ => rfl))))
    (pss_cons (ps_set (i := 9) sc_l_wholed_fair.nd rfl (Or.inl rfl) (pe_c c_l_value hr rfl (pa_cons (pv 0) (pa_cons (pv 7) pa_nil))))
    (pss_cons (ps_set (i := 10) sc_l_wholed_fair.nd rfl (Or.inl rfl) (pe_c c_l_value hr rfl (pa_cons (pv 0) (pa_cons (pv 6) pa_nil))))
    (pss_cons (ps_if (PW.pt (pw_or (pt_cmpR op_ne (pe_op op_mod (pv 9) (pe_op op_shlW pe_int (pv 8))) pe_int (nomark _)) (pw_or1 (pt_not (pt_val (pe_c c_l_fair_whole hr rfl (pa_cons (pv 1) (pa_cons (pe_op op_fdivP (pv 2) (pv 4)) (pa_cons (pe_op op_shr (pv 9) (pv 8)) (pa_cons (pv 10) (pa_cons (pe_op op_shlW pe_int (pv 8)) pa_nil))))))))))) (pss_one (ps_ret pe_bl)) pss_nil)
    (pss_one (ps_ret (pe_cmpR op_eq (pe_ix (r := rIxT K) ix_tup (pv 3) pe_int (fun _ _ => rfl)) (pe_op op_add (pe_callTy call_int1 (by rfl) b_int (by decide +kernel) (pa_cons (pe_cmpR op_ne (pv 9) (pv 10) (nomark _)) pa_nil)) (pe_op op_mulX pe_int (pe_callTy call_int1 (by rfl) b_int (by decide +kernel) (pa_cons (pe_cmpR op_eq (pv 7) (pv 5) (nomark _)) pa_nil)))) (nomark _)))))))))))))))), fun ds d hg => ?_⟩
  · obtain ⟨E, F, wy, x, z, hx, rfl, rfl⟩ := hg
    rfl
  obtain ⟨E, F, wy, x, z, hx, rfl, rfl⟩ := hg
  have ht := top_pos E F
  have hlt := last_lt_top z
  have hp := tp F
  have hKU := KU_v
  have hB1 := B1_v
  have hst := st_le z
  refine q_asg (d := nD (top E F)) (eTop z (e0 rfl) (e1 rfl)) ?_
  refine q_asg (d := nD (last E F)) (eLast z (e0 rfl) (e1 rfl)) ?_
  refine q_asg (Eva.is (d' := nD x.2) (ev_op (on_mod ht) (ev_var rfl) (ev_var rfl)) (congrArg nD (bt_mod hx.2))) ?_
  show Sx K _ [some (sz E F), some (.str (wn wy)), some (btD E F x), some (prD (whoM E F wy x)), some (nD (top E F)), some (nD (last E F)), some (nD x.2), none, none, none, none] _
  refine q_when (et_test (ev_op on_gt (ev_var rfl) (ev_var rfl))) (fun h => ?_) (fun h => ?_)
  · have hw : whoM E F wy x = (nan E F, 0) := by
      unfold whoM
      rw [if_pos h]
    rw [hw]
    refine s_ret (ev_call (d := .bl (decide (nan E F = nan E F) && decide (0 = 0))) ⟨nan E F, 0, nan E F, 0, rfl, rfl⟩ (ea_cons (ev_var rfl) (ea_cons (eNan z (ev_var rfl) (e1 rfl)) (ea_cons (ev_nat (n := 0)) ea_nil)))) ?_
    exact congrArg D.bl (by simp)
  refine q_when (p := x.2 = last E F ∨ x.2 = 0) (EvT.is (et_or (et_test (ev_op on_eq (ev_var rfl) (ev_var rfl))) fun _ => (et_test (ev_op on_eq (ev_var rfl) (ev_nat (n := 0))))) (Bool.decide_or _ _).symm) (fun h2 => ?_) (fun h2 => ?_)
  · have hw : whoM E F wy x = (bt E F x.1 x.2, 0) := by
      unfold whoM
      rw [if_neg h, if_pos h2.symm]
    rw [hw]
    refine s_ret (ev_call (d := .bl (decide (bt E F x.1 x.2 = bt E F x.1 x.2) && decide (0 = 0))) ⟨_, 0, _, 0, rfl, rfl⟩ (ea_cons (ev_var rfl) (ea_cons (ev_var rfl) (ea_cons (ev_nat (n := 0)) ea_nil)))) ?_
    exact congrArg D.bl (by simp)
  obtain ⟨k, fl, hw, hk, hmod, hfl, hfw⟩ := who_ok z wy (x := x) (by omega) (by omega)
  rw [hw]
  refine q_whenb (x := false) (et_not (et_B (ev_call (d := .bl true) ⟨_, _, rfl, rfl⟩ (ea_cons (ev_var rfl) ea_nil)))) (fun h => by cases h) (fun _ => ?_)
  have hx2 : bt E F x.1 x.2 < 2 ^ 200 := bt_lt200 z hx.1 hx.2
  refine q_asg (Eva.is (d' := nD k) (ev_op (on_sub (n := bt E F x.1 k) (m := bt E F x.1 x.2 / top E F * top E F) (by rw [bt_div hx.2]; exact Nat.le_add_right _ _)) (ev_op (o_ixT rfl) (ev_var rfl) (ev_nat (n := 0))) (ev_op (on_mul (by rw [bt_div hx.2]; exact c_mul (s_lt hx.1 (Nat.le_refl 1)) (top_lt z) (by decide))) (ev_op (on_div (c_div ht hx2 (by decide))) (ev_var rfl) (ev_var rfl)) (ev_var rfl))) (by rw [bt_div hx.2]; exact congrArg nD (Nat.add_sub_cancel_left ..))) ?_
  refine q_whenb (x := false) (EvT.is (et_not (et_test (ev_chain (ev_nat (n := 0)) (ev_var rfl) on_le (fun _ => (ev_var rfl)) (fun _ => on_le)))) (by rw [decide_eq_true (Nat.zero_le k), decide_eq_true hk]; rfl)) (fun h => by cases h) (fun _ => ?_)
  refine q_asg (d := nD (st E F)) (eStep z (e0 rfl) (e1 rfl)) ?_
  refine q_asg (ev_call (d := nD (val F k)) ⟨E, F, k, z, by omega, rfl, rfl⟩ (ea_cons (ev_var rfl) (ea_cons (ev_var rfl) ea_nil))) ?_
  refine q_asg (ev_call (d := nD (val F x.2)) ⟨E, F, x.2, z, hx.2, rfl, rfl⟩ (ea_cons (ev_var rfl) (ea_cons (ev_var rfl) ea_nil))) ?_
  show Sx K _ [some (sz E F), some (.str (wn wy)), some (btD E F x), some (prD (bt E F x.1 k, fl)), some (nD (top E F)), some (nD (last E F)), some (nD x.2), some (nD k), some (nD (st E F)), some (nD (val F k)), some (nD (val F x.2))] _
  have v1 := val_KU z (c := k) (by omega)
  have v2 := val_KU z (c := x.2) hx.2
  refine q_whenb (x := false) (EvT.is (et_or (et_test (ev_op on_ne (ev_op (on_mod (tp _)) (ev_var rfl) (ev_op (on_one (by omega)) (ev_nat (n := 1)) (ev_var rfl))) (ev_nat (n := 0)))) fun _ => (et_not (et_B (ev_call (d := .bl (fwB wy x.1 (val F k / 2 ^ st E F) (val F x.2) (2 ^ st E F))) ⟨wy, x.1, _, _, _, Nat.lt_of_le_of_lt (Nat.div_le_self _ _) (lt_up v1 (by omega)), lt_up v2 (by omega), st_B1 z, rfl, rfl⟩ (ea_cons (ev_var rfl) (ea_cons (Eva.is (ev_op (on_div (c_div ht hx2 (by decide))) (ev_var rfl) (ev_var rfl)) (congrArg nD (bt_div hx.2))) (ea_cons (ev_op on_shr (ev_var rfl) (ev_var rfl)) (ea_cons (ev_var rfl) (ea_cons (ev_op (on_one (by omega)) (ev_nat (n := 1)) (ev_var rfl)) ea_nil))))))))) (by rw [hmod, hfw]; rfl)) (fun h => by cases h) (fun _ => ?_)
  refine s_ret (ev_op on_eq (ev_op (o_ixT rfl) (ev_var rfl) (ev_nat (n := 1))) (ev_op on_add (ev_cb c_intb (ea_cons (ev_op on_ne (ev_var rfl) (ev_var rfl)) ea_nil)) (ev_op (on_mul (by unfold b2n; split <;> exact c_mul (a := 4) (n := 3) (m := 1) (by decide) (by decide) (by decide))) (ev_nat (n := 4)) (ev_cb c_intb (ea_cons (ev_op on_eq (ev_var rfl) (ev_var rfl)) ea_nil))))) (congrArg D.bl ?_)
  refine decide_eq_true ?_
  rw [hfl]
  unfold b2n
  by_cases q1 : val F k = val F x.2
  · by_cases q2 : k = last E F <;> simp [q1, q2]
  · by_cases q2 : k = last E F <;> simp [q1, q2]
end
end RM
set_option Elab.async false
set_option linter.all false
set_option maxRecDepth 100000
set_option maxHeartbeats 2000000
/-! The plain law: sums, quotients. -/
namespace RM
open PySem PySem.Spec PyProof.Rows L2
structure LT where
  k : Str
  s : Nat
  v : Nat
def ltD (t : LT) : D := .tup [.str t.k, nD t.s, nD t.v]
def ltU : D → LT
  | .tup [.str k, .int s, .int v] => ⟨k, s.toNat, v.toNat⟩
  | _ => ⟨"none", 0, 0⟩
theorem ltUD (t : LT) : ltU (ltD t) = t := rfl
def lterm (E F : Nat) (x : Nat × Nat) : LT := if last E F < x.2 then ⟨"none", 0, 0⟩ else if x.2 = last E F then ⟨"endless", x.1, 0⟩ else ⟨"finite", x.1, val F x.2 * 2 ^ st E F⟩
def lprod (E F : Nat) (x y : Nat × Nat) : LT :=
  if last E F < x.2 ∨ last E F < y.2 then ⟨"none", 0, 0⟩
  else if x.2 < last E F ∧ y.2 < last E F then ⟨"finite", xs1 x.1 y.1, val F x.2 * val F y.2⟩
  else if x.2 = 0 ∨ y.2 = 0 then ⟨"wrong", 0, 0⟩
  else ⟨"endless", xs1 x.1 y.1, 0⟩
def lends (ts : List LT) : List Nat := (ts.filter fun t => decide (t.k = ("endless" : Str))).map (·.s)
def lX (ts : List LT) : Int := (ts.map fun t => (((1 : Nat) : Int) - ((2 * t.s : Nat) : Int)) * (t.v : Int)).sum
def ldue (wy : W5) (ss : List Nat) : Nat := b2n (decide (1 ∈ ss) && (decide (wy = .down) || !decide (0 ∈ ss)))
structure LGood (E F : Nat) (wy : W5) (ts : List LT) (found : Nat × Nat) : Prop where
  n : ("none" : Str) ∈ ts.map (·.k) → found = (nan E F, 0)
  w : ¬ ("none" : Str) ∈ ts.map (·.k) → (("wrong" : Str) ∈ ts.map (·.k) ∨ (0 ∈ lends ts ∧ 1 ∈ lends ts)) → found = (nan E F, 16)
  e : ¬ ("none" : Str) ∈ ts.map (·.k) → ¬ (("wrong" : Str) ∈ ts.map (·.k) ∨ (0 ∈ lends ts ∧ 1 ∈ lends ts)) → lends ts ≠ [] → found = (bt E F ((lends ts).headD 0) (last E F), 0)
  z : ¬ ("none" : Str) ∈ ts.map (·.k) → ¬ (("wrong" : Str) ∈ ts.map (·.k) ∨ (0 ∈ lends ts ∧ 1 ∈ lends ts)) → lends ts = [] → lX ts = 0 → found = (bt E F (ldue wy (ts.map (·.s))) 0, 0)
  f : ¬ ("none" : Str) ∈ ts.map (·.k) → ¬ (("wrong" : Str) ∈ ts.map (·.k) ∨ (0 ∈ lends ts ∧ 1 ∈ lends ts)) → lends ts = [] → lX ts ≠ 0 → ∃ c fl, c ≤ last E F ∧ found = (bt E F (b2n (decide (lX ts < 0))) c, fl) ∧ fairB E F wy (b2n (decide (lX ts < 0))) (lX ts).natAbs (2 ^ st E F) c fl = true
/-- a number rounded is fairly rounded -/
theorem rnd_fair {E F a b N D' s : Nat} (z : Sz E F) (wy : W5) (hs : s ≤ 1) (ha : 0 < a) (hb : 0 < b) (hD : 0 < D') (e : a * 2 ^ st E F * D' = N * b) :
    (rnd E F wy s a b).1 ≤ last E F ∧ fairB E F wy s N D' (rnd E F wy s a b).1 (rnd E F wy s a b).2 = true := by
  obtain ⟨j, hj, _, _, hn⟩ := cut_ok (E := E) (F := F) ha hb
  unfold rnd setM
  have e2 : ((cutM E F a b).2.1 + (st E F : Int)).toNat = j := by omega
  rw [e2]
  exact ⟨settle_le z _ _ _ _ _, fair_ok z hs hD (hn.scale hb hD e)⟩
theorem rnd_zero {E F b s : Nat} (z : Sz E F) (wy : W5) : rnd E F wy s 0 b = (0, 0) := by
  have e : cutM E F 0 b = (0, -(st E F : Int), 0) := by
    unfold cutM
    rw [if_pos rfl]
  unfold rnd setM
  rw [e]
  have e2 : (-(st E F : Int) + (st E F : Int)).toNat = 0 := by omega
  dsimp only
  rw [e2, Nat.zero_mul, Nat.zero_add]
  unfold settle
  have := last_ge z
  have := tp F
  rw [if_neg (by omega), if_pos rfl]
def tr (E F : Nat) (t : Tm) : LT := if t.sort = 0 then ⟨"finite", t.s, t.w * 2 ^ (t.p + 2 * (st E F : Int)).toNat⟩ else if t.sort = 1 then ⟨"endless", t.s, 0⟩ else ⟨"wrong", 0, 0⟩
theorem tr_term {E F : Nat} {x : Nat × Nat} (h : x.2 ≤ last E F) : lterm E F x = tr E F (termM E F x) := by
  unfold lterm termM tr
  rw [if_neg (by omega)]
  by_cases q : x.2 = last E F
  · rw [if_pos q, if_pos q]
    rfl
  · rw [if_neg q, if_neg q, if_pos rfl]
    have e : (pw E F x.2 + 2 * (st E F : Int)).toNat = expo F x.2 + st E F := by
      unfold pw
      omega
    show LT.mk _ _ _ = LT.mk "finite" x.1 (mant F x.2 * 2 ^ (pw E F x.2 + 2 * (st E F : Int)).toNat)
    rw [e, val_mant, Nat.mul_assoc, ← Nat.pow_add]
theorem tr_prod {E F : Nat} {x y : Nat × Nat} (h : x.2 ≤ last E F) (h2 : y.2 ≤ last E F) : lprod E F x y = tr E F (prodM E F x y) := by
  unfold lprod prodM tr
  rw [if_neg (by omega)]
  by_cases q : x.2 < last E F ∧ y.2 < last E F
  · rw [if_pos q, if_pos (show x.2 ≠ last E F ∧ y.2 ≠ last E F by omega), if_pos rfl]
    have e : (pw E F x.2 + pw E F y.2 + 2 * (st E F : Int)).toNat = expo F x.2 + expo F y.2 := by
      unfold pw
      omega
    show LT.mk _ _ _ = LT.mk "finite" _ (mant F x.2 * mant F y.2 * 2 ^ (pw E F x.2 + pw E F y.2 + 2 * (st E F : Int)).toNat)
    rw [e, val_mant, val_mant, Nat.pow_add, Nat.mul_mul_mul_comm]
  · rw [if_neg q, if_neg (show ¬ (x.2 ≠ last E F ∧ y.2 ≠ last E F) by omega)]
    by_cases q2 : x.2 = 0 ∨ y.2 = 0
    · rw [if_pos q2, if_pos q2]
      rfl
    · rw [if_neg q2, if_neg q2]
      rfl
theorem tr_kind (E F : Nat) {t : Tm} (h : t.sort ≤ 2) : ((tr E F t).k = "wrong" ↔ t.sort = 2) ∧ ((tr E F t).k = "endless" ↔ t.sort = 1) ∧ (tr E F t).k ≠ "none" := by
  unfold tr
  have n1 : ¬ (("finite" : Str) = "wrong") := by decide +kernel
  have n2 : ¬ (("finite" : Str) = "endless") := by decide +kernel
  have n3 : ¬ (("finite" : Str) = "none") := by decide +kernel
  have n4 : ¬ (("endless" : Str) = "wrong") := by decide +kernel
  have n5 : ¬ (("endless" : Str) = "none") := by decide +kernel
  have n6 : ¬ (("wrong" : Str) = "endless") := by decide +kernel
  have n7 : ¬ (("wrong" : Str) = "none") := by decide +kernel
  by_cases h0 : t.sort = 0
  · rw [if_pos h0]
    exact ⟨⟨fun q => absurd q n1, fun q => by omega⟩, ⟨fun q => absurd q n2, fun q => by omega⟩, n3⟩
  · rw [if_neg h0]
    by_cases h1 : t.sort = 1
    · rw [if_pos h1]
      exact ⟨⟨fun q => absurd q n4, fun q => by omega⟩, ⟨fun _ => h1, fun _ => rfl⟩, n5⟩
    · rw [if_neg h1]
      exact ⟨⟨fun _ => by omega, fun _ => rfl⟩, ⟨fun q => absurd q n6, fun q => absurd q h1⟩, n7⟩
theorem no_none (E F : Nat) {ts : List Tm} (h : ∀ t ∈ ts, t.sort ≤ 2) : ¬ ("none" : Str) ∈ (ts.map (tr E F)).map (·.k) := by
  rw [List.map_map]
  intro q
  obtain ⟨t, ht, e⟩ := List.mem_map.mp q
  exact (tr_kind E F (h t ht)).2.2 e
theorem wrong_iff (E F : Nat) {ts : List Tm} (h : ∀ t ∈ ts, t.sort ≤ 2) : ("wrong" : Str) ∈ (ts.map (tr E F)).map (·.k) ↔ ∃ t ∈ ts, t.sort = 2 := by
  rw [List.map_map]
  constructor
  · intro q
    obtain ⟨t, ht, e⟩ := List.mem_map.mp q
    exact ⟨t, ht, (tr_kind E F (h t ht)).1.mp e⟩
  · rintro ⟨t, ht, e⟩
    exact List.mem_map.mpr ⟨t, ht, (tr_kind E F (h t ht)).1.mpr e⟩
theorem lends_tr (E F : Nat) : ∀ {ts : List Tm}, (∀ t ∈ ts, t.sort ≤ 2) → lends (ts.map (tr E F)) = (ts.filter fun t => decide (t.sort = 1)).map (·.s)
  | [], _ => rfl
  | t :: ts, h => by
    have ih := lends_tr E F (ts := ts) fun u hu => h u (List.mem_cons_of_mem _ hu)
    have hk := (tr_kind E F (h t List.mem_cons_self)).2.1
    unfold lends at *
    rw [List.map_cons, List.filter_cons, List.filter_cons]
    by_cases q : t.sort = 1
    · rw [if_pos (decide_eq_true (hk.mpr q)), if_pos (decide_eq_true q), List.map_cons, List.map_cons, ih]
      congr 1
      unfold tr
      rw [if_neg (by omega), if_pos q]
    · rw [if_neg (by rw [decide_eq_false fun k => q (hk.mp k)]; decide), if_neg (by rw [decide_eq_false q]; decide), ih]
theorem sgn_mul {s : Nat} (hs : s ≤ 1) (x m : Int) : sgn s x * m = (((1 : Nat) : Int) - ((2 * s : Nat) : Int)) * (x * m) := by
  unfold sgn
  have : s = 0 ∨ s = 1 := by omega
  rcases this with rfl | rfl
  · rw [if_neg (by decide)]
    show x * m = (1 - 0) * (x * m)
    rw [Int.sub_zero, Int.one_mul]
  · rw [if_pos rfl]
    show -x * m = (1 - 2) * (x * m)
    rw [show ((1 : Int) - 2) = -1 by decide, Int.neg_mul, Int.neg_mul, Int.one_mul]
theorem lX_tr {E F : Nat} {l : Int} (hl : -(2 * (st E F : Int)) ≤ l) : ∀ {ts : List Tm}, (∀ t ∈ ts, t.sort = 0 ∧ t.s ≤ 1 ∧ l ≤ t.p) → lX (ts.map (tr E F)) = totX l ts * ((2 ^ (l + 2 * (st E F : Int)).toNat : Nat) : Int)
  | [], _ => by
    show (0 : Int) = 0 * _
    rw [Int.zero_mul]
  | t :: ts, h => by
    have ih := lX_tr (ts := ts) hl fun u hu => h u (List.mem_cons_of_mem _ hu)
    obtain ⟨h0, h1, h2⟩ := h t List.mem_cons_self
    unfold lX totX at *
    rw [List.map_cons, List.map_cons, List.map_cons, List.sum_cons, List.sum_cons, ih, Int.add_mul, sgn_mul h1, ← Int.natCast_mul, Nat.mul_assoc, ← Nat.pow_add]
    congr 1
    have e : (t.p - l).toNat + (l + 2 * (st E F : Int)).toNat = (t.p + 2 * (st E F : Int)).toNat := by omega
    rw [e]
    unfold tr
    rw [if_pos h0]
theorem due_nsg {wy : W5} {ss : List Nat} (h0 : ss ≠ []) (h : ∀ s ∈ ss, s ≤ 1) : ldue wy ss = nsg wy ss := by
  cases ss with
  | nil => exact absurd rfl h0
  | cons a ss =>
    have ha := h a List.mem_cons_self
    unfold ldue nsg
    by_cases p0 : 0 ∈ a :: ss
    · by_cases p1 : 1 ∈ a :: ss
      · rw [decide_eq_true p0, decide_eq_true p1, if_pos (show 0 ∈ a :: ss ∧ 1 ∈ a :: ss from ⟨p0, p1⟩)]
        by_cases q : wy = .down
        · rw [if_pos q, decide_eq_true q]
          rfl
        · rw [if_neg q, decide_eq_false q]
          rfl
      · rw [decide_eq_false p1, if_neg (show ¬ (0 ∈ a :: ss ∧ 1 ∈ a :: ss) from fun q => p1 q.2)]
        have : a ≠ 1 := fun q => p1 (q ▸ List.mem_cons_self)
        show (0 : Nat) = a
        omega
    · rw [decide_eq_false p0, if_neg (show ¬ (0 ∈ a :: ss ∧ 1 ∈ a :: ss) from fun q => p0 q.1)]
      have a1 : a = 1 := by
        have : a ≠ 0 := fun q => p0 (q ▸ List.mem_cons_self)
        omega
      have p1 : 1 ∈ a :: ss := a1 ▸ List.mem_cons_self
      rw [decide_eq_true p1]
      cases decide (wy = .down) <;> exact a1.symm
theorem pow_lo {E F : Nat} {x : Nat × Nat} : -(2 * (st E F : Int)) ≤ pw E F x.2 := by
  unfold pw
  omega
/-- the sum's law -/
theorem sum_good {E F : Nat} (z : Sz E F) (wy : W5) {ts : List Tm} (h0 : ts ≠ []) (h : ∀ t ∈ ts, t.s ≤ 1 ∧ t.sort ≤ 2 ∧ -(2 * (st E F : Int)) ≤ t.p) : LGood E F wy (ts.map (tr E F)) (sumT E F wy ts) := by
  have hk : ∀ t ∈ ts, t.sort ≤ 2 := fun t ht => (h t ht).2.1
  have hn := no_none E F hk
  have hw := wrong_iff E F hk
  have he := lends_tr E F hk
  unfold sumT
  refine ⟨fun q => absurd q hn, fun _ q => ?_, fun _ q q2 => ?_, fun _ q q2 q3 => ?_, fun _ q q2 q3 => ?_⟩
  · rw [he] at q
    by_cases k : ∃ t ∈ ts, t.sort = 2
    · rw [if_pos k]
    · rw [if_neg k]
      rcases q with q | q
      · exact absurd (hw.mp q) k
      · show (if 0 ∈ (ts.filter fun t => decide (t.sort = 1)).map (·.s) ∧ 1 ∈ (ts.filter fun t => decide (t.sort = 1)).map (·.s) then _ else _) = _
        rw [if_pos q]
  · rw [he] at q q2 ⊢
    rw [if_neg fun k => q (.inl (hw.mpr k))]
    show (if 0 ∈ (ts.filter fun t => decide (t.sort = 1)).map (·.s) ∧ 1 ∈ (ts.filter fun t => decide (t.sort = 1)).map (·.s) then _ else if (ts.filter fun t => decide (t.sort = 1)).map (·.s) ≠ [] then _ else _) = _
    rw [if_neg fun k => q (.inr k), if_pos q2]
  all_goals
    rw [he] at q q2
    have hall : ∀ t ∈ ts, t.sort = 0 := fun t ht => by
      have a1 := hk t ht
      have a2 : t.sort ≠ 2 := fun k => q (.inl (hw.mpr ⟨t, ht, k⟩))
      have a3 : t.sort ≠ 1 := fun k => by
        have : t.s ∈ (ts.filter fun t => decide (t.sort = 1)).map (·.s) := List.mem_map.mpr ⟨t, List.mem_filter.mpr ⟨ht, decide_eq_true k⟩, rfl⟩
        rw [q2] at this
        cases this
      omega
    have hfs : (ts.filter fun t => decide (t.sort = 0)) = ts := List.filter_eq_self.mpr fun t ht => decide_eq_true (hall t ht)
    rw [if_neg fun k => q (.inl (hw.mpr k))]
    have hl2 : ∀ t ∈ ts, leastP ts ≤ t.p := fun t ht => least_le ht
    have hl3 : -(2 * (st E F : Int)) ≤ leastP ts := by
      obtain ⟨t, ht, e⟩ := least_mem h0
      rw [e]
      exact (h t ht).2.2
    have hX := lX_tr hl3 (ts := ts) fun t ht => ⟨hall t ht, (h t ht).1, hl2 t ht⟩
    have hM := tp (leastP ts + 2 * (st E F : Int)).toNat
  · show (if 0 ∈ (ts.filter fun t => decide (t.sort = 1)).map (·.s) ∧ 1 ∈ (ts.filter fun t => decide (t.sort = 1)).map (·.s) then _ else if (ts.filter fun t => decide (t.sort = 1)).map (·.s) ≠ [] then _ else stot E F wy (ts.filter fun t => decide (t.sort = 0))) = _
    rw [if_neg fun k => q (.inr k), if_neg (fun k => k q2), hfs]
    have hx0 : totX (leastP ts) ts = 0 := by
      rw [hX] at q3
      rcases Int.mul_eq_zero.mp q3 with k | k
      · exact k
      · omega
    unfold stot
    rw [if_pos hx0]
    have es : (ts.map (tr E F)).map (·.s) = ts.map (·.s) := by
      rw [List.map_map]
      refine List.map_congr_left fun t ht => ?_
      show (tr E F t).s = t.s
      unfold tr
      rw [if_pos (hall t ht)]
    rw [es, due_nsg (by simpa using h0) (fun s hs => by
      obtain ⟨t, ht, e⟩ := List.mem_map.mp hs
      rw [← e]
      exact (h t ht).1)]
  · have hgo : (let ss := (ts.filter fun t => decide (t.sort = 1)).map (·.s); if 0 ∈ ss ∧ 1 ∈ ss then (nan E F, 16) else if ss ≠ [] then (bt E F (ss.headD 0) (last E F), 0) else stot E F wy (ts.filter fun t => decide (t.sort = 0))) = stot E F wy ts := by
      show (if 0 ∈ (ts.filter fun t => decide (t.sort = 1)).map (·.s) ∧ 1 ∈ (ts.filter fun t => decide (t.sort = 1)).map (·.s) then _ else if (ts.filter fun t => decide (t.sort = 1)).map (·.s) ≠ [] then _ else stot E F wy (ts.filter fun t => decide (t.sort = 0))) = _
      rw [if_neg fun k => q (.inr k), if_neg (fun k => k q2), hfs]
    rw [hgo]
    have hx0 : totX (leastP ts) ts ≠ 0 := fun k => q3 (by rw [hX, k, Int.zero_mul])
    unfold stot
    rw [if_neg hx0]
    have hs : b2n (decide (lX (ts.map (tr E F)) < 0)) = if totX (leastP ts) ts < 0 then 1 else 0 := by
      have : lX (ts.map (tr E F)) < 0 ↔ totX (leastP ts) ts < 0 := by
        rw [hX]
        have hM' : (0 : Int) < ((2 ^ (leastP ts + 2 * (st E F : Int)).toNat : Nat) : Int) := by omega
        constructor
        · intro k
          refine Int.lt_of_not_ge fun k2 => ?_
          have := Int.mul_nonneg k2 (Int.le_of_lt hM')
          omega
        · intro k
          exact Int.mul_neg_of_neg_of_pos k hM'
      unfold b2n
      by_cases k : totX (leastP ts) ts < 0
      · rw [if_pos k, decide_eq_true (this.mpr k), if_pos rfl]
      · rw [if_neg k, decide_eq_false (mt this.mp k), if_neg (by decide)]
    have hs1 : (if totX (leastP ts) ts < 0 then 1 else 0) ≤ 1 := by split <;> omega
    rw [hs]
    generalize (if totX (leastP ts) ts < 0 then 1 else 0) = s at *
    have hN : (lX (ts.map (tr E F))).natAbs = (totX (leastP ts) ts).natAbs * 2 ^ (leastP ts + 2 * (st E F : Int)).toNat := by
      rw [hX, Int.natAbs_mul, Int.natAbs_natCast]
    have hpos : 0 < (totX (leastP ts) ts).natAbs := by omega
    rw [hN]
    have hud := updn (p := leastP ts) (n := 2 * st E F) (m := (leastP ts + 2 * (st E F : Int)).toNat) (by omega)
    generalize (totX (leastP ts) ts).natAbs = X at *
    have e : X * up (leastP ts) * 2 ^ st E F * 2 ^ st E F = X * 2 ^ (leastP ts + 2 * (st E F : Int)).toNat * dn (leastP ts) := by
      have e2 : 2 ^ (2 * st E F) = 2 ^ st E F * 2 ^ st E F := by rw [← Nat.pow_add]; congr 1; omega
      rw [Nat.mul_assoc (X * up _), ← e2, Nat.mul_assoc, Nat.mul_comm (up _), ← hud, Nat.mul_comm (dn _), ← Nat.mul_assoc]
    obtain ⟨r1, r2⟩ := rnd_fair z wy hs1 (Nat.mul_pos hpos (up_pos _)) (dn_pos (leastP ts)) (tp (st E F)) e
    exact ⟨_, _, r1, rfl, r2⟩
end RM
set_option Elab.async false
set_option linter.all false
set_option maxRecDepth 100000
set_option maxHeartbeats 2000000
namespace RM
open PySem PySem.Spec PyProof.Rows L2
theorem ev_lcL {K : PySem.W.Frag} {ds : DE} {tl te : TE} {tt : TT} {j : Nat} {ts : List LT} (p : LT → Bool) (f : LT → D) (h : Eva K tl ds (.lst (ts.map ltD))) (hz : ts.length ≤ 1000) (ht : ∀ t ∈ ts, EvT K tt (ds.set j (some (ltD t))) (p t))
    (he : ∀ t ∈ ts, p t = true → Eva K te (ds.set j (some (ltD t))) (f t)) (hs : ∀ t ∈ ts, isSc (f t) = true) : Eva K (tLc (iList K tl) (gName j) tt te [j]) ds (.lst ((ts.filter p).map f)) := by
  have h1 := ev_lc (xs := ts.map ltD) (t := tt) (te := te) (j := j) (fun d => p (ltU d)) (fun d => f (ltU d)) h (by rw [List.length_map]; exact hz)
    (fun x hx => by obtain ⟨t, ht2, rfl⟩ := List.mem_map.mp hx; exact ht t ht2)
    (fun x hx hp => by obtain ⟨t, ht2, rfl⟩ := List.mem_map.mp hx; exact he t ht2 hp)
    (fun x hx => by obtain ⟨t, ht2, rfl⟩ := List.mem_map.mp hx; exact hs t ht2)
  refine Eva.is h1 (congrArg D.lst ?_)
  unfold pick
  rw [List.filter_map, List.map_map]
  rfl
theorem lX_le {m : Nat} : ∀ ts : List LT, (∀ t ∈ ts, t.s ≤ 1 ∧ t.v ≤ m) → (lX ts).natAbs ≤ ts.length * m
  | [], _ => by simp [lX]
  | t :: ts, h => by
    have ih := lX_le ts fun x hx => h x (List.mem_cons_of_mem _ hx)
    obtain ⟨h1, h2⟩ := h t List.mem_cons_self
    have e : lX (t :: ts) = (((1 : Nat) : Int) - ((2 * t.s : Nat) : Int)) * (t.v : Int) + lX ts := by
      unfold lX
      rw [List.map_cons, List.sum_cons]
    have h4 : ((((1 : Nat) : Int) - ((2 * t.s : Nat) : Int)) * (t.v : Int)).natAbs = t.v := by
      rw [Int.natAbs_mul, Int.natAbs_natCast]
      have : t.s = 0 ∨ t.s = 1 := by omega
      rcases this with q | q <;> rw [q]
      · exact Nat.one_mul _
      · exact Nat.one_mul _
    have h3 := Int.natAbs_add_le ((((1 : Nat) : Int) - ((2 * t.s : Nat) : Int)) * (t.v : Int)) (lX ts)
    rw [e, List.length_cons, Nat.succ_mul ts.length]
    omega
def gLTerm (ds : List D) (d : D) : Prop := ∃ (E F : Nat) (x : Nat × Nat), Sz E F ∧ okB E F x ∧ ds = [sz E F, btD E F x] ∧ d = ltD (lterm E F x)
def gLProd (ds : List D) (d : D) : Prop := ∃ (E F : Nat) (x y : Nat × Nat), Sz E F ∧ okB E F x ∧ okB E F y ∧ ds = [sz E F, btD E F x, btD E F y] ∧ d = ltD (lprod E F x y)
def gSumGood (ds : List D) (d : D) : Prop := ∃ (E F : Nat) (wy : W5) (ts : List LT) (found : Nat × Nat), Sz E F ∧ ts.length ≤ 10 ∧ (∀ t ∈ ts, t.s ≤ 1 ∧ t.v < 2 ^ (KU + KU)) ∧ LGood E F wy ts found ∧ ds = [sz E F, .str (wn wy), .lst (ts.map ltD), prD found] ∧ d = .bl true
theorem lterm_facts {E F : Nat} {x : Nat × Nat} : ((lterm E F x).k = "none" ↔ last E F < x.2) ∧ ((lterm E F x).k = "finite" ↔ x.2 < last E F) ∧ (x.2 ≤ last E F → (lterm E F x).s = x.1) ∧ (x.2 < last E F → (lterm E F x).v = val F x.2 * 2 ^ st E F) := by
  have n1 : ¬ (("none" : Str) = "finite") := by decide +kernel
  have n2 : ¬ (("endless" : Str) = "finite") := by decide +kernel
  have n3 : ¬ (("endless" : Str) = "none") := by decide +kernel
  have n4 : ¬ (("finite" : Str) = "none") := by decide +kernel
  unfold lterm
  by_cases h : last E F < x.2
  · rw [if_pos h]
    exact ⟨⟨fun _ => h, fun _ => rfl⟩, ⟨fun q => absurd q n1, fun q => by omega⟩, fun q => by omega, fun q => by omega⟩
  · rw [if_neg h]
    by_cases h2 : x.2 = last E F
    · rw [if_pos h2]
      exact ⟨⟨fun q => absurd q n3, fun q => by omega⟩, ⟨fun q => absurd q n2, fun q => by omega⟩, fun _ => rfl, fun q => by omega⟩
    · rw [if_neg h2]
      exact ⟨⟨fun q => absurd q n4, fun q => by omega⟩, ⟨fun _ => by omega, fun _ => rfl⟩, fun _ => rfl, fun _ => rfl⟩
theorem val_pos {F c : Nat} (h : 0 < c) : 0 < val F c := by
  have := val_lt (F := F) h
  rw [val_zero] at this
  exact this
theorem xor_div {E F : Nat} {x y : Nat × Nat} (hx : okB E F x) (hy : okB E F y) : xorN (bt E F x.1 x.2) (bt E F y.1 y.2) / top E F = xs1 x.1 y.1 := by
  rw [← xorN01 hx.1 hy.1, xor_eq, xor_eq]
  unfold top
  rw [Nat.xor_div_two_pow]
  have h1 := bt_div (E := E) (F := F) (s := x.1) hx.2
  have h2 := bt_div (E := E) (F := F) (s := y.1) hy.2
  unfold top at h1 h2
  rw [h1, h2]
def gQuot (ds : List D) (d : D) : Prop := ∃ (E F : Nat) (wy : W5) (x y : Nat × Nat), Sz E F ∧ okB E F x ∧ okB E F y ∧ ds = [sz E F, .str (wn wy), btD E F x, btD E F y, prD (divM E F wy x y)] ∧ d = .bl true
def gRootG (ds : List D) (d : D) : Prop := ∃ (E F : Nat) (wy : W5) (x : Nat × Nat), Sz E F ∧ okB E F x ∧ ds = [sz E F, .str (wn wy), btD E F x, prD (rooM E F wy x)] ∧ d = .bl true
theorem is_true {a b : Nat} : (decide (a = a) && decide (b = b)) = true := by simp
theorem div_fair {E F : Nat} (z : Sz E F) (wy : W5) {x y : Nat × Nat} (hx : 0 < x.2) (hx2 : x.2 < last E F) (hy : 0 < y.2) (hy2 : y.2 < last E F) : ∃ c fl, divM E F wy x y = (bt E F (xs1 x.1 y.1) c, fl) ∧ c ≤ last E F ∧ fairB E F wy (xs1 x.1 y.1) (val F x.2 * 2 ^ st E F) (val F y.2) c fl = true := by
  have m1 : 0 < mant F x.2 := Nat.pos_of_ne_zero fun q => by have := mant_zero.mp q; omega
  have m2 : 0 < mant F y.2 := Nat.pos_of_ne_zero fun q => by have := mant_zero.mp q; omega
  have e1 := frac_val (E := E) (F := F) (c := x.2)
  have e2 := frac_val (E := E) (F := F) (c := y.2)
  have u1 : 0 < mant F x.2 * up (pw E F x.2) := Nat.mul_pos m1 (up_pos _)
  have u2 : 0 < mant F y.2 * up (pw E F y.2) := Nat.mul_pos m2 (up_pos _)
  have d1 := dn_pos (pw E F x.2)
  have d2 := dn_pos (pw E F y.2)
  unfold divM
  rw [if_neg (by omega), if_neg (by omega), if_neg (by omega), if_neg (by omega), if_neg (by omega)]
  generalize mant F x.2 * up (pw E F x.2) = a1 at *
  generalize mant F y.2 * up (pw E F y.2) = a2 at *
  generalize dn (pw E F x.2) = b1 at *
  generalize dn (pw E F y.2) = b2 at *
  have e : a1 * b2 * 2 ^ st E F * val F y.2 = val F x.2 * 2 ^ st E F * (b1 * a2) := by
    have l : a1 * b2 * 2 ^ st E F * val F y.2 = (a1 * 2 ^ st E F) * (val F y.2 * b2) := by
      rw [Nat.mul_right_comm a1, Nat.mul_assoc, Nat.mul_comm b2]
    rw [l, e1, ← e2, Nat.mul_comm a2, Nat.mul_mul_mul_comm]
  obtain ⟨r1, r2⟩ := rnd_fair (s := xs1 x.1 y.1) z wy (xs1_le _ _) (Nat.mul_pos u1 d2) (Nat.mul_pos d1 u2) (val_pos hy) e
  exact ⟨_, _, rfl, r1, r2⟩
theorem roo_fair {E F : Nat} (z : Sz E F) (wy : W5) {x : Nat × Nat} (h0 : 0 < x.2) (h1 : x.2 < last E F) (hs : x.1 = 0) : ∃ c fl, rooM E F wy x = (c, fl) ∧ 0 < c ∧ c < last E F ∧ rootB F wy (val F x.2 * 2 ^ st E F) c fl = true := by
  have m1 : 0 < mant F x.2 := Nat.pos_of_ne_zero fun q => by have := mant_zero.mp q; omega
  have hS : mant F x.2 * up (pw E F x.2) * 2 ^ (2 * st E F) = val F x.2 * 2 ^ st E F * dn (pw E F x.2) := by
    have e : 2 ^ (2 * st E F) = 2 ^ st E F * 2 ^ st E F := by rw [← Nat.pow_add]; congr 1; omega
    rw [e, ← Nat.mul_assoc, frac_val, Nat.mul_assoc, Nat.mul_comm (dn _), ← Nat.mul_assoc]
  obtain ⟨k, hk1, hk2, hco, hnear⟩ := root_ok (E := E) (F := F) (Nat.mul_pos m1 (up_pos _)) (dn_pos _) hS
  have e2 : ((rootM E F (mant F x.2 * up (pw E F x.2)) (dn (pw E F x.2))).2.1 + st E F).toNat = k := by omega
  have hpos : 1 ≤ val F x.2 * 2 ^ st E F := Nat.mul_pos (val_pos h0) (tp _)
  unfold rooM
  rw [if_neg (by omega), if_neg (by omega), if_neg (by omega), if_neg (by omega)]
  dsimp only
  rw [e2]
  obtain ⟨r1, r2, r3⟩ := rootfair_ok z wy hpos (root_low z h1 rfl hnear) hnear
  exact ⟨_, _, rfl, r1, r2, r3⟩
section
variable {P : Program} {w : World} {K : PySem.W.Frag} {mg : Str → Option Value} {base : Heap}
theorem sc_l_term : FnScope ["_law_size", "_law_bits", "_law_top", "_law_last", "_law_steps"] ["_law_size", "_law_bits"] (defScope s_l_term) := ⟨rfl, rfl, rfl, by decide +kernel, rfl, by decide +kernel, by decide +kernel⟩
theorem ok_l_term {f : Addr} {fd : FuncData} (F : FnP K "_law_term" "_law_term" s_l_term f fd) (c_l_value : Cal P w K mg base 1 "_law_value" (spD K gVal)) : FnOk P w K mg base CX0 2 f fd ["_law_size", "_law_bits"] (spD K gLTerm) := by
  refine fn_okD F sc_l_term (fun ds d hg => ?_) fun cdv A outer s H E hr => ⟨_, (pss_cons (ps_set (i := 2) sc_l_term.nd rfl (Or.inl rfl) (pe_op op_shlW pe_int (pe_op op_add (pe_ix (r := rIxT K) ix_tup (pv 0) pe_int (fun _ _ => rfl)) (pe_ix (r := rIxT K) ix_tup (pv 0) pe_int (fun _ _ => rfl)))))
    (pss_cons (ps_set (i := 3) sc_l_term.nd rfl (Or.inl rfl) (pe_op op_shlW (pe_op op_sub (pe_op op_shlW pe_int (pe_ix (r := rIxT K) ix_tup (pv 0) pe_int (fun _ _ => rfl))) pe_int) (pe_ix (r := rIxT K) ix_tup (pv 0) pe_int (fun _ _ => rfl))))
    (pss_cons (ps_set (i := 4) sc_l_term.nd rfl (Or.inl rfl) (pe_op op_add (pe_op op_sub (pe_op op_shlW pe_int (pe_op op_sub (pe_ix (r := rIxT K) ix_tup (pv 0) pe_int (fun _ _ => rfl)) pe_int)) pe_int) (pe_ix (r := rIxT K) ix_tup (pv 0) pe_int (fun _ _ => rfl))))
    (pss_cons (ps_if (pt_cmpR op_gt (pe_op op_mod (pv 1) (pv 2)) (pv 3) (nomark _)) (pss_one (ps_ret (pe_tup (pa_cons pe_str (pa_cons pe_int (pa_cons pe_int pa_nil)))))) pss_nil)
    (pss_cons (ps_if (pt_cmpR op_eq (pe_op op_mod (pv 1) (pv 2)) (pv 3) (nomark _)) (pss_one (ps_ret (pe_tup (pa_cons pe_str (pa_cons (pe_op op_fdivP (pv 1) (pv 2)) (pa_cons pe_int pa_nil)))))) pss_nil)
    (pss_one (ps_ret (pe_tup (pa_cons pe_str (pa_cons (pe_op op_fdivP (pv 1) (pv 2)) (pa_cons (pe_op op_shlW (pe_c c_l_value hr rfl (pa_cons (pv 0) (pa_cons (pe_op op_mod (pv 1) (pv 2)) pa_nil))) (pv 4)) pa_nil))))))))))), fun ds d hg => ?_⟩
  · obtain ⟨E, F, x, z, hx, rfl, rfl⟩ := hg
    rfl
  obtain ⟨E, F, x, z, hx, rfl, rfl⟩ := hg
  have ht := top_pos E F
  have hlt := last_lt_top z
  have hst := st_le z
  have hKU := KU_v
  show Sx K _ _ { nx := fun _ => ltD (lterm E F x) = .non, rt := fun d' => d' = ltD (lterm E F x) }
  unfold lterm
  refine q_asg (d := nD (top E F)) (eTop z (e0 rfl) (e1 rfl)) ?_
  refine q_asg (d := nD (last E F)) (eLast z (e0 rfl) (e1 rfl)) ?_
  refine q_asg (d := nD (st E F)) (eStep z (e0 rfl) (e1 rfl)) ?_
  have hx2 : bt E F x.1 x.2 < 2 ^ 200 := bt_lt200 z hx.1 hx.2
  have hm := bt_mod (s := x.1) hx.2
  refine q_when (p := last E F < x.2) (EvT.is (et_test (ev_op on_gt (ev_op (on_mod ht) (ev_var rfl) (ev_var rfl)) (ev_var rfl))) (by rw [hm])) (fun h => ?_) (fun h => ?_)
  · rw [if_pos h]
    exact s_ret (ev_tup (ea_cons ev_str (ea_cons (ev_nat (n := 0)) (ea_cons (ev_nat (n := 0)) ea_nil)))) rfl
  rw [if_neg h]
  refine q_when (p := x.2 = last E F) (EvT.is (et_test (ev_op on_eq (ev_op (on_mod ht) (ev_var rfl) (ev_var rfl)) (ev_var rfl))) (by rw [hm])) (fun h2 => ?_) (fun h2 => ?_)
  · rw [if_pos h2]
    exact s_ret (ev_tup (ea_cons ev_str (ea_cons (Eva.is (d' := nD x.1) (ev_op (on_div (c_div ht hx2 (by decide))) (ev_var rfl) (ev_var rfl)) (congrArg nD (bt_div hx.2))) (ea_cons (ev_nat (n := 0)) ea_nil)))) rfl
  rw [if_neg h2]
  exact s_ret (ev_tup (ea_cons ev_str (ea_cons (Eva.is (d' := nD x.1) (ev_op (on_div (c_div ht hx2 (by decide))) (ev_var rfl) (ev_var rfl)) (congrArg nD (bt_div hx.2))) (ea_cons (ev_op (on_shl (c_shl (val_KU z hx.2) (by omega))) (ev_call (d := nD (val F x.2)) ⟨E, F, x.2, z, hx.2, rfl, rfl⟩ (ea_cons (ev_var rfl) (ea_cons (Eva.is (ev_op (on_mod ht) (ev_var rfl) (ev_var rfl)) (congrArg nD hm)) ea_nil))) (ev_var rfl)) ea_nil)))) rfl
theorem sc_l_product : FnScope ["_law_size", "_law_a", "_law_b", "_law_steps", "_law_one", "_law_other", "_law_sign"] ["_law_size", "_law_a", "_law_b"] (defScope s_l_product) := ⟨rfl, rfl, rfl, by decide +kernel, rfl, by decide +kernel, by decide +kernel⟩
theorem ok_l_product {f : Addr} {fd : FuncData} (F : FnP K "_law_product" "_law_product" s_l_product f fd) (c_l_term : Cal P w K mg base 2 "_law_term" (spD K gLTerm)) : FnOk P w K mg base CX0 3 f fd ["_law_size", "_law_a", "_law_b"] (spD K gLProd) := by
  refine fn_okD F sc_l_product (fun ds d hg => ?_) fun cdv A outer s H E hr => ⟨_, (pss_cons (ps_set (i := 3) sc_l_product.nd rfl (Or.inl rfl) (pe_op op_add (pe_op op_sub (pe_op op_shlW pe_int (pe_op op_sub (pe_ix (r := rIxT K) ix_tup (pv 0) pe_int (fun _ _ => rfl)) pe_int)) pe_int) (pe_ix (r := rIxT K) ix_tup (pv 0) pe_int (fun _ _ => rfl))))
    (pss_cons (ps_set (i := 4) sc_l_product.nd rfl (Or.inl rfl) (pe_c c_l_term hr rfl (pa_cons (pv 0) (pa_cons (pv 1) pa_nil))))
    (pss_cons (ps_set (i := 5) sc_l_product.nd rfl (Or.inl rfl) (pe_c c_l_term hr rfl (pa_cons (pv 0) (pa_cons (pv 2) pa_nil))))
    (pss_cons (ps_set (i := 6) sc_l_product.nd rfl (Or.inl rfl) (pe_op op_xor (pe_ix (r := rIxT K) ix_tup (pv 4) pe_int (fun _ _ => rfl)) (pe_ix (r := rIxT K) ix_tup (pv 5) pe_int (fun _ _ => rfl))))
    (pss_cons (ps_if (PW.pt (pw_or (pt_cmpR op_eq (pe_ix (r := rIxT K) ix_tup (pv 4) pe_int (fun _ _ => rfl)) pe_str (nomark _)) (pw_or1 (pt_cmpR op_eq (pe_ix (r := rIxT K) ix_tup (pv 5) pe_int (fun _ _ => rfl)) pe_str (nomark _))))) (pss_one (ps_ret (pe_tup (pa_cons pe_str (pa_cons pe_int (pa_cons pe_int pa_nil)))))) pss_nil)
    (pss_cons (ps_if (PW.pt (pw_and (pt_cmpR op_eq (pe_ix (r := rIxT K) ix_tup (pv 4) pe_int (fun _ _ => rfl)) pe_str (nomark _)) (pw_and1 (pt_cmpR op_eq (pe_ix (r := rIxT K) ix_tup (pv 5) pe_int (fun _ _ => rfl)) pe_str (nomark _))))) (pss_one (ps_ret (pe_tup (pa_cons pe_str (pa_cons (pv 6) (pa_cons (pe_op op_mulX (pe_op op_shr (pe_ix (r := rIxT K) ix_tup (pv 4) pe_int (fun _ _ => rfl)) (pv 3)) (pe_op op_shr (pe_ix (r := rIxT K) ix_tup (pv 5) pe_int (fun _ _ => rfl)) (pv 3))) pa_nil)))))) pss_nil)
    (pss_cons (ps_if (PW.pt (pw_or (PW.pt (pw_and (pt_cmpR op_eq (pe_ix (r := rIxT K) ix_tup (pv 4) pe_int (fun _ _ => rfl)) pe_str (nomark _)) (pw_and1 (pt_cmpR op_eq (pe_ix (r := rIxT K) ix_tup (pv 4) pe_int (fun _ _ => rfl)) pe_int (nomark _))))) (pw_or1 (PW.pt (pw_and (pt_cmpR op_eq (pe_ix (r := rIxT K) ix_tup (pv 5) pe_int (fun _ _ => rfl)) pe_str (nomark _)) (pw_and1 (pt_cmpR op_eq (pe_ix (r := rIxT K) ix_tup (pv 5) pe_int (fun _ _ => rfl)) pe_int (nomark _)))))))) (pss_one (ps_ret (pe_tup (pa_cons pe_str (pa_cons pe_int (pa_cons pe_int pa_nil)))))) pss_nil)
    (pss_one (ps_ret (pe_tup (pa_cons pe_str (pa_cons (pv 6) (pa_cons pe_int pa_nil))))))))))))), fun ds d hg => ?_⟩
  · obtain ⟨E, F, x, y, z, hx, hy, rfl, rfl⟩ := hg
    rfl
  obtain ⟨E, F, x, y, z, hx, hy, rfl, rfl⟩ := hg
  have hS := tp (st E F)
  obtain ⟨a1, a2, a3, a4⟩ := lterm_facts (E := E) (F := F) (x := x)
  obtain ⟨b1, b2, b3, b4⟩ := lterm_facts (E := E) (F := F) (x := y)
  have v1 := val_KU z hx.2
  have v2 := val_KU z hy.2
  have hlg := last_ge z
  have hp := tp F
  refine q_asg (d := nD (st E F)) (eStep z (e0 rfl) (e1 rfl)) ?_
  refine q_asg (ev_call (d := ltD (lterm E F x)) ⟨E, F, x, z, hx, rfl, rfl⟩ (ea_cons (ev_var rfl) (ea_cons (ev_var rfl) ea_nil))) ?_
  refine q_asg (ev_call (d := ltD (lterm E F y)) ⟨E, F, y, z, hy, rfl, rfl⟩ (ea_cons (ev_var rfl) (ea_cons (ev_var rfl) ea_nil))) ?_
  generalize lterm E F x = a at *
  generalize lterm E F y = b at *
  refine q_asg (ev_op on_xor (ev_op (o_ixT rfl) (ev_var rfl) (ev_nat (n := 1))) (ev_op (o_ixT rfl) (ev_var rfl) (ev_nat (n := 1)))) ?_
  show Sx K _ [some (sz E F), some (btD E F x), some (btD E F y), some (nD (st E F)), some (ltD a), some (ltD b), some (nD (xorN a.s b.s))] { nx := fun _ => ltD (lprod E F x y) = .non, rt := fun d' => d' = ltD (lprod E F x y) }
  unfold lprod
  refine q_when (p := last E F < x.2 ∨ last E F < y.2) (EvT.is (et_or (et_test (ev_op o_eqS (ev_op (o_ixT rfl) (ev_var rfl) (ev_nat (n := 0))) ev_str)) fun _ => (et_test (ev_op o_eqS (ev_op (o_ixT rfl) (ev_var rfl) (ev_nat (n := 0))) ev_str))) (by rw [← Bool.decide_or]; exact decide_eq_decide.mpr (by rw [a1, b1]))) (fun h => ?_) (fun h => ?_)
  · rw [if_pos h]
    exact s_ret (ev_tup (ea_cons ev_str (ea_cons (ev_nat (n := 0)) (ea_cons (ev_nat (n := 0)) ea_nil)))) rfl
  rw [if_neg h]
  have hxo : xorN a.s b.s = xs1 x.1 y.1 := by rw [a3 (by omega), b3 (by omega), xorN01 hx.1 hy.1]
  rw [hxo]
  refine q_when (p := x.2 < last E F ∧ y.2 < last E F) (EvT.is (et_and (et_test (ev_op o_eqS (ev_op (o_ixT rfl) (ev_var rfl) (ev_nat (n := 0))) ev_str)) fun _ => (et_test (ev_op o_eqS (ev_op (o_ixT rfl) (ev_var rfl) (ev_nat (n := 0))) ev_str))) (by rw [← Bool.decide_and]; exact decide_eq_decide.mpr (by rw [a2, b2]))) (fun h2 => ?_) (fun h2 => ?_)
  · rw [if_pos h2]
    have av : a.v / 2 ^ st E F = val F x.2 := by rw [a4 h2.1, Nat.mul_div_cancel _ hS]
    have bv : b.v / 2 ^ st E F = val F y.2 := by rw [b4 h2.2, Nat.mul_div_cancel _ hS]
    exact s_ret (ev_tup (ea_cons ev_str (ea_cons (ev_var rfl) (ea_cons (ev_op (on_mul (c_mul v1 v2 (by decide))) (Eva.is (d' := nD (val F x.2)) (ev_op on_shr (ev_op (o_ixT rfl) (ev_var rfl) (ev_nat (n := 2))) (ev_var rfl)) (congrArg nD av)) (Eva.is (d' := nD (val F y.2)) (ev_op on_shr (ev_op (o_ixT rfl) (ev_var rfl) (ev_nat (n := 2))) (ev_var rfl)) (congrArg nD bv))) ea_nil)))) rfl
  rw [if_neg h2]
  have hz : ∀ {u : LT} {p : Nat × Nat}, (u.k = "finite" ↔ p.2 < last E F) → (p.2 < last E F → u.v = val F p.2 * 2 ^ st E F) → ((u.k = "finite" ∧ u.v = 0) ↔ p.2 = 0) := by
    intro u p k1 k2
    constructor
    · rintro ⟨q1, q2⟩
      rw [k2 (k1.mp q1)] at q2
      refine Decidable.byContradiction fun q3 => ?_
      have := Nat.mul_pos (val_pos (F := F) (Nat.pos_of_ne_zero q3)) hS
      omega
    · intro q
      have q1 : p.2 < last E F := by omega
      exact ⟨k1.mpr q1, by rw [k2 q1, q, val_zero, Nat.zero_mul]⟩
  refine q_when (p := x.2 = 0 ∨ y.2 = 0) (EvT.is (et_or (et_and (et_test (ev_op o_eqS (ev_op (o_ixT rfl) (ev_var rfl) (ev_nat (n := 0))) ev_str)) fun _ => (et_test (ev_op on_eq (ev_op (o_ixT rfl) (ev_var rfl) (ev_nat (n := 2))) (ev_nat (n := 0))))) fun _ => (et_and (et_test (ev_op o_eqS (ev_op (o_ixT rfl) (ev_var rfl) (ev_nat (n := 0))) ev_str)) fun _ => (et_test (ev_op on_eq (ev_op (o_ixT rfl) (ev_var rfl) (ev_nat (n := 2))) (ev_nat (n := 0)))))) (by rw [← Bool.decide_and, ← Bool.decide_and, ← Bool.decide_or]; exact decide_eq_decide.mpr (by rw [hz a2 a4, hz b2 b4]))) (fun h3 => ?_) (fun h3 => ?_)
  · rw [if_pos h3]
    exact s_ret (ev_tup (ea_cons ev_str (ea_cons (ev_nat (n := 0)) (ea_cons (ev_nat (n := 0)) ea_nil)))) rfl
  rw [if_neg h3]
  exact s_ret (ev_tup (ea_cons ev_str (ea_cons (ev_var rfl) (ea_cons (ev_nat (n := 0)) ea_nil)))) rfl
theorem sc_l_sum_good : FnScope ["_law_size", "_law_way", "_law_terms", "_law_found", "_law_first", "_law_last", "_law_sorts", "_law_term_here", "_law_ends", "_law_exact", "_law_signs", "_law_due", "_law_steps"] ["_law_size", "_law_way", "_law_terms", "_law_found"] (defScope s_l_sum_good) := ⟨rfl, rfl, rfl, by decide +kernel, rfl, by decide +kernel, by decide +kernel⟩
theorem ok_l_sum_good {f : Addr} {fd : FuncData} (F : FnP K "_law_sum_good" "_law_sum_good" s_l_sum_good f fd) (c_l_is : Cal P w K mg base 3 "_law_is" (spD K gIs)) (c_l_fair : Cal P w K mg base 3 "_law_fair" (spD K gFair)) (b_len : mg "len" = none) (b_sum : mg "sum" = none) (b_int : mg "int" = none) (b_abs : mg "abs" = none) : FnOk P w K mg base CX0 4 f fd ["_law_size", "_law_way", "_law_terms", "_law_found"] (spD K gSumGood) := by
  refine fn_okD F sc_l_sum_good (fun ds d hg => ?_) fun cdv A outer s H E hr => ⟨_, (pss_cons (ps_set (i := 4) sc_l_sum_good.nd rfl (Or.inl rfl) (pe_op op_add (pe_ix (r := rIxT K) ix_tup (pv 0) pe_int (fun _ _ => rfl)) (pe_ix (r := rIxT K) ix_tup (pv 0) pe_int (fun _ _ => rfl))))
    (pss_cons (ps_set (i := 5) sc_l_sum_good.nd rfl (Or.inl rfl) (pe_op op_shlW (pe_op op_sub (pe_op op_shlW pe_int (pe_ix (r := rIxT K) ix_tup (pv 0) pe_int (fun _ _ => rfl))) pe_int) (pe_ix (r := rIxT K) ix_tup (pv 0) pe_int (fun _ _ => rfl))))
    (pss_cons (ps_setLc (i := 6) (own := [("_law_term_here", 7)]) (g := gName 7) (tt := tYes) rfl sc_l_sum_good.nd rfl rfl (sw_true rfl rfl rfl (by decide +kernel)) (pi_list (pv 2)) (blkOk_by (own := [("_law_term_here", 7)]) (N := ["_law_size", "_law_way", "_law_terms", "_law_found", "_law_first", "_law_last", "_law_sorts", "_law_term_here", "_law_ends", "_law_exact", "_law_signs", "_law_due", "_law_steps"]) (sc := defScope s_l_sum_good) (by decide +kernel)) (fun _ _ _ _ _ => pg_name (i := 7) sc_l_sum_good.nd rfl (Or.inl rfl)) (fun _ _ _ _ _ => pts_nil) (fun _ _ _ _ _ => (pe_ix (r := rIxT K) ix_tup (pv 7) pe_int (fun _ _ => rfl))))
    (pss_cons (ps_setLc (i := 8) (own := [("_law_term_here", 7)]) (g := gName 7) rfl sc_l_sum_good.nd rfl rfl (sw_true rfl rfl rfl (by decide +kernel)) (pi_list (pv 2)) (blkOk_by (own := [("_law_term_here", 7)]) (N := ["_law_size", "_law_way", "_law_terms", "_law_found", "_law_first", "_law_last", "_law_sorts", "_law_term_here", "_law_ends", "_law_exact", "_law_signs", "_law_due", "_law_steps"]) (sc := defScope s_l_sum_good) (by decide +kernel)) (fun _ _ _ _ _ => pg_name (i := 7) sc_l_sum_good.nd rfl (Or.inl rfl)) (fun _ _ _ _ _ => pts_one (pt_cmpR op_eq (pe_ix (r := rIxT K) ix_tup (pv 7) pe_int (fun _ _ => rfl)) pe_str (nomark _))) (fun _ _ _ _ _ => (pe_ix (r := rIxT K) ix_tup (pv 7) pe_int (fun _ _ => rfl))))
    (pss_cons (ps_if (pt_cmpR op_in_seq pe_str (pv 6) (by with_unfolding_all rfl)) (pss_one (ps_ret (pe_c c_l_is hr rfl (pa_cons (pv 3) (pa_cons (pe_op op_add (pv 5) (pe_op op_shlW pe_int (pe_op op_sub (pe_ix (r := rIxT K) ix_tup (pv 0) pe_int (fun _ _ => rfl)) pe_int))) (pa_cons pe_int pa_nil)))))) pss_nil)
    (pss_cons (ps_if (PW.pt (pw_or (pt_cmpR op_in_seq pe_str (pv 6) (by with_unfolding_all rfl)) (pw_or1 (PW.pt (pw_and (pt_cmpR op_in_seq pe_int (pv 8) (by with_unfolding_all rfl)) (pw_and1 (pt_cmpR op_in_seq pe_int (pv 8) (by with_unfolding_all rfl)))))))) (pss_one (ps_ret (pe_c c_l_is hr rfl (pa_cons (pv 3) (pa_cons (pe_op op_add (pv 5) (pe_op op_shlW pe_int (pe_op op_sub (pe_ix (r := rIxT K) ix_tup (pv 0) pe_int (fun _ _ => rfl)) pe_int))) (pa_cons pe_int pa_nil)))))) pss_nil)
    (pss_cons (ps_if (pt_cmpR op_gt (pe_callB call_len_seq (by rfl) b_len (by decide +kernel) (pa_cons (pv 8) pa_nil)) pe_int (nomark _)) (pss_one (ps_ret (pe_c c_l_is hr rfl (pa_cons (pv 3) (pa_cons (pe_op op_add (pe_op op_shlW (pe_ix (r := rIxL K) ix_list (pv 8) pe_int (fun _ _ => rfl)) (pv 4)) (pv 5)) (pa_cons pe_int pa_nil)))))) pss_nil)
    (pss_cons (ps_set (i := 9) sc_l_sum_good.nd rfl (Or.inl rfl) (pe_callB (cr_sum rfl) (by rfl) b_sum (by decide +kernel) (pa_cons (pe_lc (own := [("_law_term_here", 7)]) (g := gName 7) (tt := tYes) rfl sc_l_sum_good.nd (pi_list (pv 2)) (blkOk_by (own := [("_law_term_here", 7)]) (N := ["_law_size", "_law_way", "_law_terms", "_law_found", "_law_first", "_law_last", "_law_sorts", "_law_term_here", "_law_ends", "_law_exact", "_law_signs", "_law_due", "_law_steps"]) (sc := defScope s_l_sum_good) (by decide +kernel)) (fun _ _ _ _ _ => pg_name (i := 7) sc_l_sum_good.nd rfl (Or.inl rfl)) (fun _ _ _ _ _ => pts_nil) (fun _ _ _ _ _ => (pe_op op_mulX (pe_op op_sub pe_int (pe_op op_mulX pe_int (pe_ix (r := rIxT K) ix_tup (pv 7) pe_int (fun _ _ => rfl)))) (pe_ix (r := rIxT K) ix_tup (pv 7) pe_int (fun _ _ => rfl))))) pa_nil)))
    (pss_cons (ps_setLc (i := 10) (own := [("_law_term_here", 7)]) (g := gName 7) (tt := tYes) rfl sc_l_sum_good.nd rfl rfl (sw_true rfl rfl rfl (by decide +kernel)) (pi_list (pv 2)) (blkOk_by (own := [("_law_term_here", 7)]) (N := ["_law_size", "_law_way", "_law_terms", "_law_found", "_law_first", "_law_last", "_law_sorts", "_law_term_here", "_law_ends", "_law_exact", "_law_signs", "_law_due", "_law_steps"]) (sc := defScope s_l_sum_good) (by decide +kernel)) (fun _ _ _ _ _ => pg_name (i := 7) sc_l_sum_good.nd rfl (Or.inl rfl)) (fun _ _ _ _ _ => pts_nil) (fun _ _ _ _ _ => (pe_ix (r := rIxT K) ix_tup (pv 7) pe_int (fun _ _ => rfl))))
    (pss_cons (ps_if (pt_cmpR op_eq (pv 9) pe_int (nomark _)) (pss_cons (ps_set (i := 11) sc_l_sum_good.nd rfl (Or.inl rfl) (pe_callTy call_int1 (by rfl) b_int (by decide +kernel) (pa_cons (pe_and (pe_cmpR op_in_seq pe_int (pv 10) (by with_unfolding_all rfl)) (pe_one (pe_or (pe_cmpR op_eq (pv 1) pe_str (nomark _)) (pe_one (pe_cmpR op_notIn_seq pe_int (pv 10) (by with_unfolding_all rfl)))))) pa_nil)))
    (pss_one (ps_ret (pe_c c_l_is hr rfl (pa_cons (pv 3) (pa_cons (pe_op op_shlW (pv 11) (pv 4)) (pa_cons pe_int pa_nil))))))) pss_nil)
    (pss_cons (ps_set (i := 12) sc_l_sum_good.nd rfl (Or.inl rfl) (pe_op op_add (pe_op op_sub (pe_op op_shlW pe_int (pe_op op_sub (pe_ix (r := rIxT K) ix_tup (pv 0) pe_int (fun _ _ => rfl)) pe_int)) pe_int) (pe_ix (r := rIxT K) ix_tup (pv 0) pe_int (fun _ _ => rfl))))
    (pss_one (ps_ret (pe_c c_l_fair hr rfl (pa_cons (pv 0) (pa_cons (pv 1) (pa_cons (pe_callTy call_int1 (by rfl) b_int (by decide +kernel) (pa_cons (pe_cmpR op_lt (pv 9) pe_int (nomark _)) pa_nil)) (pa_cons (pe_callB call_abs (by rfl) b_abs (by decide +kernel) (pa_cons (pv 9) pa_nil)) (pa_cons (pe_op op_shlW pe_int (pv 12)) (pa_cons (pv 3) pa_nil)))))))))))))))))))), fun ds d hg => ?_⟩
  · obtain ⟨E, F, wy, ts, found, z, hl, hts, hg, rfl, rfl⟩ := hg
    rfl
  obtain ⟨E, F, wy, ts, found, z, hl, hts, hg, rfl, rfl⟩ := hg
  have hKU := KU_v
  have hB1 := B1_v
  have hst := st_le z
  have hE := z.e15
  have hF := z.f112
  have hX : (lX ts).natAbs < 2 ^ B1 := by
    have h1 := lX_le (m := 2 ^ (KU + KU)) ts fun t ht => ⟨(hts t ht).1, Nat.le_of_lt (hts t ht).2⟩
    have h2 : ts.length * 2 ^ (KU + KU) ≤ 2 ^ 4 * 2 ^ (KU + KU) := Nat.mul_le_mul_right _ (by omega)
    rw [← Nat.pow_add] at h2
    exact Nat.lt_of_le_of_lt (Nat.le_trans h1 h2) (pow_lt (by omega))
  refine q_asg (ev_op on_add (e0 rfl) (e1 rfl)) ?_
  refine q_asg (d := nD (last E F)) (eLast z (e0 rfl) (e1 rfl)) ?_
  refine q_asg (Eva.is (d' := .lst ((ts.map (·.k)).map D.str)) (ev_lcL (fun _ => true) (fun t => .str t.k) (ev_var rfl) (by omega) (fun t ht => et_yes) (fun t ht _ => (ev_op (o_ixT rfl) (ev_var rfl) (ev_nat (n := 0)))) (fun t ht => rfl)) (congrArg D.lst (by rw [List.filter_eq_self.mpr fun _ _ => rfl, List.map_map]; rfl))) ?_
  refine q_asg (Eva.is (d' := .lst (((lends ts).map fun (s : Nat) => (s : Int)).map D.int)) (ev_lcL (fun t => decide (t.k = ("endless" : Str))) (fun t => nD t.s) (ev_var rfl) (by omega) (fun t ht => (et_test (ev_op o_eqS (ev_op (o_ixT rfl) (ev_var rfl) (ev_nat (n := 0))) ev_str))) (fun t ht _ => (ev_op (o_ixT rfl) (ev_var rfl) (ev_nat (n := 1)))) (fun t ht => rfl)) (congrArg D.lst (by unfold lends; rw [List.map_map, List.map_map]; rfl))) ?_
  show Sx K _ [some (sz E F), some (.str (wn wy)), some (.lst (ts.map ltD)), some (prD found), some (nD (E + F)), some (nD (last E F)), some (.lst ((ts.map (·.k)).map D.str)), none, some (.lst (((lends ts).map fun (s : Nat) => (s : Int)).map D.int)), none, none, none, none] _
  refine q_when (et_test (ev_op o_inS ev_str (ev_var rfl))) (fun h => ?_) (fun h => ?_)
  · rw [hg.n h]
    exact s_ret (ev_call (d := .bl true) ⟨nan E F, 0, nan E F, 0, rfl, congrArg D.bl is_true.symm⟩ (ea_cons (ev_var rfl) (ea_cons (eNan z (ev_var rfl) (e1 rfl)) (ea_cons (ev_nat (n := 0)) ea_nil)))) rfl
  refine q_when (p := ("wrong" : Str) ∈ ts.map (·.k) ∨ (0 ∈ lends ts ∧ 1 ∈ lends ts)) (EvT.is (et_or (et_test (ev_op o_inS ev_str (ev_var rfl))) fun _ => (et_and (EvT.is (et_test (ev_op o_inI (ev_nat (n := 0)) (ev_var rfl))) (dec_cast 0 (lends ts))) fun _ => (EvT.is (et_test (ev_op o_inI (ev_nat (n := 1)) (ev_var rfl))) (dec_cast 1 (lends ts))))) (by rw [Bool.decide_or, Bool.decide_and])) (fun h2 => ?_) (fun h2 => ?_)
  · rw [hg.w h h2]
    exact s_ret (ev_call (d := .bl true) ⟨nan E F, 16, nan E F, 16, rfl, congrArg D.bl is_true.symm⟩ (ea_cons (ev_var rfl) (ea_cons (eNan z (ev_var rfl) (e1 rfl)) (ea_cons (ev_nat (n := 16)) ea_nil)))) rfl
  refine q_when (p := lends ts ≠ []) (EvT.is (et_test (ev_op on_gt (ev_cb c_lenL (ea_cons (ev_var rfl) ea_nil)) (ev_nat (n := 0)))) (decide_eq_decide.mpr (by rw [List.length_map, List.length_map]; exact List.length_pos_iff))) (fun h3 => ?_) (fun h3 => ?_)
  · have he := hg.e h h2 h3
    have hle : ∀ s ∈ lends ts, s ≤ 1 := fun s hs => by
      unfold lends at hs
      obtain ⟨t, ht, e⟩ := List.mem_map.mp hs
      rw [← e]
      exact (hts t (List.mem_filter.mp ht).1).1
    generalize lends ts = es at *
    cases es with
    | nil => exact absurd rfl h3
    | cons e r =>
      rw [he]
      have he1 := hle e List.mem_cons_self
      exact s_ret (ev_call (d := .bl true) ⟨bt E F e (last E F), 0, bt E F e (last E F), 0, rfl, congrArg D.bl is_true.symm⟩ (ea_cons (ev_var rfl) (ea_cons (ev_op on_add (ev_op (on_shl (c_shl (s_lt he1 (Nat.le_refl 1)) (by omega))) (ev_op (o_ixL (d := nD e) atI0) (ev_var rfl) (ev_nat (n := 0))) (ev_var rfl)) (ev_var rfl)) (ea_cons (ev_nat (n := 0)) ea_nil)))) rfl
  have h4 : lends ts = [] := Decidable.not_not.mp h3
  refine q_asg (d := .int (lX ts)) (Eva.is (ev_cb (c_sum (ns := ts.map fun t => (((1 : Nat) : Int) - ((2 * t.s : Nat) : Int)) * (t.v : Int))) (ea_cons (Eva.is (ev_lcL (fun _ => true) (fun t => .int ((((1 : Nat) : Int) - ((2 * t.s : Nat) : Int)) * (t.v : Int))) (ev_var rfl) (by omega) (fun t ht => et_yes) (fun t ht _ => ?_) (fun t ht => rfl)) (congrArg D.lst (by rw [List.filter_eq_self.mpr fun _ _ => rfl, List.map_map]; rfl))) ea_nil)) rfl) ?_
  · obtain ⟨q1, q2⟩ := hts t ht
    have q3 : (((1 : Nat) : Int) - ((2 * t.s : Nat) : Int)).natAbs < 2 ^ 2 := by omega
    exact ev_op (o_mul (c_mulI q3 (natAbs_lt q2) (by omega))) (ev_op o_sub (ev_nat (n := 1)) (ev_op (on_mul (c_mul (a := 2) (n := 2) (m := 1) (by decide) (by omega) (by decide))) (ev_nat (n := 2)) (ev_op (o_ixT rfl) (ev_var rfl) (ev_nat (n := 1))))) (ev_op (o_ixT rfl) (ev_var rfl) (ev_nat (n := 2)))
  refine q_asg (Eva.is (d' := .lst (((ts.map (·.s)).map fun (s : Nat) => (s : Int)).map D.int)) (ev_lcL (fun _ => true) (fun t => nD t.s) (ev_var rfl) (by omega) (fun t ht => et_yes) (fun t ht _ => (ev_op (o_ixT rfl) (ev_var rfl) (ev_nat (n := 1)))) (fun t ht => rfl)) (congrArg D.lst (by rw [List.filter_eq_self.mpr fun _ _ => rfl, List.map_map, List.map_map]; rfl))) ?_
  show Sx K _ [some (sz E F), some (.str (wn wy)), some (.lst (ts.map ltD)), some (prD found), some (nD (E + F)), some (nD (last E F)), some (.lst ((ts.map (·.k)).map D.str)), none, some (.lst (((lends ts).map fun (s : Nat) => (s : Int)).map D.int)), some (.int (lX ts)), some (.lst (((ts.map (·.s)).map fun (s : Nat) => (s : Int)).map D.int)), none, none] _
  refine q_when (et_test (ev_op o_eqI (ev_var rfl) (ev_int (i := 0)))) (fun h5 => ?_) (fun h5 => ?_)
  · rw [hg.z h h2 h4 h5]
    refine q_asg (d := nD (ldue wy (ts.map (·.s)))) (ev_cb c_intb (ea_cons (Eva.is (ev_andV (Eva.is (ev_op o_inI (ev_nat (n := 1)) (ev_var rfl)) (congrArg D.bl (dec_cast 1 (ts.map (·.s))))) fun _ => (ev_orV (Eva.is (ev_op o_eqS (ev_var rfl) ev_str) (congrArg D.bl (wn_is wy .down))) fun _ => (Eva.is (ev_op o_niI (ev_nat (n := 0)) (ev_var rfl)) (congrArg (fun x => D.bl (!x)) (dec_cast 0 (ts.map (·.s))))))) rfl) ea_nil)) ?_
    have hd1 : ldue wy (ts.map (·.s)) ≤ 1 := by
      unfold ldue b2n
      split <;> decide
    exact s_ret (ev_call (d := .bl true) ⟨bt E F (ldue wy (ts.map (·.s))) 0, 0, bt E F (ldue wy (ts.map (·.s))) 0, 0, rfl, congrArg D.bl is_true.symm⟩ (ea_cons (ev_var rfl) (ea_cons (ev_op (on_shl (c_shl (s_lt hd1 (Nat.le_refl 1)) (by omega))) (ev_var rfl) (ev_var rfl)) (ea_cons (ev_nat (n := 0)) ea_nil)))) rfl
  obtain ⟨c, fl, hc, hf, hfair⟩ := hg.f h h2 h4 h5
  rw [hf]
  refine q_asg (d := nD (st E F)) (eStep z (e0 rfl) (e1 rfl)) ?_
  have hs1 : b2n (decide (lX ts < 0)) ≤ 1 := by
    unfold b2n
    split <;> decide
  exact s_ret (ev_call (d := .bl true) ⟨E, F, wy, b2n (decide (lX ts < 0)), (lX ts).natAbs, 2 ^ st E F, c, fl, z, hs1, hc, hX, st_B1 z, rfl, congrArg D.bl hfair.symm⟩ (ea_cons (ev_var rfl) (ea_cons (ev_var rfl) (ea_cons (ev_cb c_intb (ea_cons (ev_op o_lt (ev_var rfl) (ev_int (i := 0))) ea_nil)) (ea_cons (ev_cb c_abs (ea_cons (ev_var rfl) ea_nil)) (ea_cons (ev_op (on_one (by omega)) (ev_nat (n := 1)) (ev_var rfl)) (ea_cons (ev_var rfl) ea_nil))))))) rfl
end
end RM
set_option Elab.async false
set_option linter.all false
set_option maxRecDepth 100000
set_option maxHeartbeats 2000000
namespace RM
open PySem PySem.Spec PyProof.Rows L2
def deedM (E F : Nat) (wy : W5) (n : Nat) (x y v : Nat × Nat) : Nat × Nat :=
  if n = 0 then addM E F wy x y else if n = 1 then addM E F wy x (flip y) else if n = 2 then mulM E F wy x y else if n = 3 then divM E F wy x y
  else if n = 4 then fusM E F wy x y v else if n = 5 then rooM E F wy x else whoM E F wy x
def gDeed (ds : List D) (d : D) : Prop := ∃ (E F : Nat) (wy : W5) (n : Nat) (x y v : Nat × Nat), Sz E F ∧ okB E F x ∧ okB E F y ∧ okB E F v ∧ ds = [sz E F, .str (wn wy), nD n, btD E F x, btD E F y, btD E F v] ∧ d = .tup [.bl true, prD (deedM E F wy n x y v)]
theorem LGood.none {E F : Nat} {wy : W5} {ts : List LT} {found : Nat × Nat} (h : ("none" : Str) ∈ ts.map (·.k)) (e : found = (nan E F, 0)) : LGood E F wy ts found :=
  ⟨fun _ => e, fun k => absurd h k, fun k => absurd h k, fun k => absurd h k, fun k => absurd h k⟩
theorem term_h {E F : Nat} (z : Sz E F) {x : Nat × Nat} (h1 : x.1 ≤ 1) (h : x.2 ≤ last E F) : (termM E F x).s ≤ 1 ∧ (termM E F x).sort ≤ 2 ∧ -(2 * (st E F : Int)) ≤ (termM E F x).p := by
  refine ⟨(termM_ok z h1 h).s1, by have := termM_sort E F x; omega, ?_⟩
  unfold termM
  split
  · show _ ≤ (0 : Int)
    omega
  · exact pow_lo
theorem prod_h {E F : Nat} (z : Sz E F) {x y : Nat × Nat} (h : x.2 ≤ last E F) (h2 : y.2 ≤ last E F) : (prodM E F x y).s ≤ 1 ∧ (prodM E F x y).sort ≤ 2 ∧ -(2 * (st E F : Int)) ≤ (prodM E F x y).p := by
  have h3 := prodM_ok z h h2
  refine ⟨h3.1.s1, h3.2, ?_⟩
  unfold prodM
  split
  · show _ ≤ pw E F x.2 + pw E F y.2
    unfold pw
    omega
  · split
    · show _ ≤ (0 : Int)
      omega
    · show _ ≤ (0 : Int)
      omega
theorem lterm_none {E F : Nat} {x : Nat × Nat} (h : last E F < x.2) : (lterm E F x).k = "none" := lterm_facts.1.mpr h
theorem lprod_none {E F : Nat} {x y : Nat × Nat} (h : last E F < x.2 ∨ last E F < y.2) : (lprod E F x y).k = "none" := by
  unfold lprod
  rw [if_pos h]
theorem add_good {E F : Nat} (z : Sz E F) (wy : W5) {x y : Nat × Nat} (hx : okB E F x) (hy : okB E F y) : LGood E F wy [lterm E F x, lterm E F y] (addM E F wy x y) := by
  unfold addM
  by_cases h : last E F < x.2 ∨ last E F < y.2
  · rw [if_pos h]
    refine LGood.none ?_ rfl
    rcases h with h | h
    · exact (lterm_none h) ▸ List.mem_cons_self
    · exact (lterm_none h) ▸ List.mem_cons_of_mem _ List.mem_cons_self
  · rw [if_neg h, tr_term (by omega), tr_term (by omega)]
    refine sum_good (ts := [termM E F x, termM E F y]) z wy (List.cons_ne_nil _ _) fun t ht => ?_
    simp at ht
    rcases ht with rfl | rfl
    · exact term_h z hx.1 (by omega)
    · exact term_h z hy.1 (by omega)
theorem mul_good {E F : Nat} (z : Sz E F) (wy : W5) {x y : Nat × Nat} (hx : okB E F x) (hy : okB E F y) : LGood E F wy [lprod E F x y] (mulM E F wy x y) := by
  unfold mulM
  by_cases h : last E F < x.2 ∨ last E F < y.2
  · rw [if_pos h]
    exact LGood.none ((lprod_none h) ▸ List.mem_cons_self) rfl
  · rw [if_neg h, tr_prod (by omega) (by omega)]
    refine sum_good (ts := [prodM E F x y]) z wy (List.cons_ne_nil _ _) fun t ht => ?_
    rw [List.mem_singleton.mp ht]
    exact prod_h z (by omega) (by omega)
theorem fus_good {E F : Nat} (z : Sz E F) (wy : W5) {x y v : Nat × Nat} (hx : okB E F x) (hy : okB E F y) (hv : okB E F v) : LGood E F wy [lprod E F x y, lterm E F v] (fusM E F wy x y v) := by
  unfold fusM
  by_cases h : last E F < x.2 ∨ last E F < y.2 ∨ last E F < v.2
  · rw [if_pos h]
    refine LGood.none ?_ rfl
    by_cases h2 : last E F < x.2 ∨ last E F < y.2
    · exact (lprod_none h2) ▸ List.mem_cons_self
    · exact (lterm_none (E := E) (F := F) (x := v) (by omega)) ▸ List.mem_cons_of_mem _ List.mem_cons_self
  · rw [if_neg h, tr_prod (by omega) (by omega), tr_term (E := E) (F := F) (x := v) (by omega)]
    refine sum_good (ts := [prodM E F x y, termM E F v]) z wy (List.cons_ne_nil _ _) fun t ht => ?_
    simp at ht
    rcases ht with rfl | rfl
    · exact prod_h z (by omega) (by omega)
    · exact term_h z hv.1 (by omega)
theorem lterm_bd {E F : Nat} (z : Sz E F) {x : Nat × Nat} (h : okB E F x) : (lterm E F x).s ≤ 1 ∧ (lterm E F x).v < 2 ^ (KU + KU) := by
  unfold lterm
  split
  · exact ⟨Nat.zero_le _, tp _⟩
  · split
    · exact ⟨h.1, tp _⟩
    · have := st_le z
      have := KU_v
      exact ⟨h.1, mulp_lt (val_KU z h.2) (by omega)⟩
theorem lprod_bd {E F : Nat} (z : Sz E F) {x y : Nat × Nat} (h : okB E F x) (h2 : okB E F y) : (lprod E F x y).s ≤ 1 ∧ (lprod E F x y).v < 2 ^ (KU + KU) := by
  unfold lprod
  split
  · exact ⟨Nat.zero_le _, tp _⟩
  · split
    · exact ⟨xs1_le _ _, lt_mul (val_KU z h.2) (val_KU z h2.2)⟩
    · split
      · exact ⟨Nat.zero_le _, tp _⟩
      · exact ⟨xs1_le _ _, tp _⟩
theorem flip_ok {E F : Nat} {x : Nat × Nat} (h : okB E F x) : okB E F (flip x) := ⟨Nat.sub_le _ _, h.2⟩
/-! ### answers are bits -/
theorem nan_lt {E F : Nat} (z : Sz E F) : nan E F < 2 * top E F := by
  have h1 := last_lt_top z
  have h2 := pow_lt (n := F - 1) (m := F) (by have := z.f1; omega)
  unfold nan
  omega
theorem stot_lt {E F : Nat} (z : Sz E F) (wy : W5) {ts : List Tm} (h : ∀ t ∈ ts, t.s ≤ 1) : (stot E F wy ts).1 < 2 * top E F := by
  have hl := last_lt z
  unfold stot
  split
  · refine s_top (nsg_le fun s hs => ?_) (top_pos E F)
    obtain ⟨t, ht, e⟩ := List.mem_map.mp hs
    rw [← e]
    exact h t ht
  · refine s_top (by split <;> omega) (Nat.lt_of_le_of_lt (settle_le z _ _ _ _ _) hl)
theorem sumT_lt {E F : Nat} (z : Sz E F) (wy : W5) {ts : List Tm} (h : ∀ t ∈ ts, t.s ≤ 1) : (sumT E F wy ts).1 < 2 * top E F := by
  have hl := last_lt z
  have hs : ∀ s ∈ (ts.filter fun t => decide (t.sort = 1)).map (·.s), s ≤ 1 := fun s hs => by
    obtain ⟨t, ht, e⟩ := List.mem_map.mp hs
    rw [← e]
    exact h t (List.mem_filter.mp ht).1
  unfold sumT
  split
  · exact nan_lt z
  · dsimp only
    generalize (ts.filter fun t => decide (t.sort = 1)).map (·.s) = ss at *
    split
    · exact nan_lt z
    · split
      · cases ss with
        | nil => exact s_top (Nat.zero_le _) hl
        | cons a r => exact s_top (hs a List.mem_cons_self) hl
      · exact stot_lt z wy fun t ht => h t (List.mem_filter.mp ht).1
theorem add_lt {E F : Nat} (z : Sz E F) (wy : W5) {x y : Nat × Nat} (hx : okB E F x) (hy : okB E F y) : (addM E F wy x y).1 < 2 * top E F := by
  unfold addM
  split
  · exact nan_lt z
  · refine sumT_lt z wy fun t ht => ?_
    simp at ht
    rcases ht with rfl | rfl
    · exact (term_h z hx.1 (by omega)).1
    · exact (term_h z hy.1 (by omega)).1
theorem deed_lt {E F : Nat} (z : Sz E F) (wy : W5) (n : Nat) {x y v : Nat × Nat} (hx : okB E F x) (hy : okB E F y) (hv : okB E F v) : (deedM E F wy n x y v).1 < 2 * top E F := by
  have hl := last_lt z
  unfold deedM
  split
  · exact add_lt z wy hx hy
  split
  · exact add_lt z wy hx (flip_ok hy)
  split
  · unfold mulM
    split
    · exact nan_lt z
    · refine sumT_lt z wy fun t ht => ?_
      rw [List.mem_singleton.mp ht]
      exact (prod_h z (by omega) (by omega)).1
  split
  · unfold divM
    split
    · exact nan_lt z
    split
    · exact nan_lt z
    split
    · exact s_top (xs1_le _ _) hl
    split
    · exact s_top (xs1_le _ _) hl
    split
    · exact s_top (xs1_le _ _) (top_pos E F)
    · exact s_top (xs1_le _ _) (Nat.lt_of_le_of_lt (settle_le z _ _ _ _ _) hl)
  split
  · unfold fusM
    split
    · exact nan_lt z
    · refine sumT_lt z wy fun t ht => ?_
      simp at ht
      rcases ht with rfl | rfl
      · exact (prod_h z (by omega) (by omega)).1
      · exact (term_h z hv.1 (by omega)).1
  split
  · unfold rooM
    split
    · exact nan_lt z
    split
    · exact bt_top2 hx
    split
    · exact nan_lt z
    split
    · exact bt_top2 hx
    · have := settle_le z wy 0 (((rootM E F (mant F x.2 * up (pw E F x.2)) (dn (pw E F x.2))).2.1 + st E F).toNat * 2 ^ F + (rootM E F (mant F x.2 * up (pw E F x.2)) (dn (pw E F x.2))).1) (rootM E F (mant F x.2 * up (pw E F x.2)) (dn (pw E F x.2))).2.2 (decide (((rootM E F (mant F x.2 * up (pw E F x.2)) (dn (pw E F x.2))).2.1 + st E F).toNat * 2 ^ F + (rootM E F (mant F x.2 * up (pw E F x.2)) (dn (pw E F x.2))).1 < 2 ^ F))
      show (settle E F wy 0 _ _ _).1 < _
      omega
  · unfold whoM
    split
    · exact nan_lt z
    split
    · exact bt_top2 hx
    · exact s_top hx.1 (Nat.lt_of_le_of_lt (settle_le z _ _ _ _ _) hl)
section
variable {P : Program} {w : World} {K : PySem.W.Frag} {mg : Str → Option Value} {base : Heap}
theorem sc_l_quotient_good : FnScope ["_law_size", "_law_way", "_law_a", "_law_b", "_law_found", "_law_top", "_law_last", "_law_one", "_law_other", "_law_first", "_law_steps", "_law_tall"] ["_law_size", "_law_way", "_law_a", "_law_b", "_law_found"] (defScope s_l_quotient_good) := ⟨rfl, rfl, rfl, by decide +kernel, rfl, by decide +kernel, by decide +kernel⟩
theorem ok_l_quotient_good {f : Addr} {fd : FuncData} (F : FnP K "_law_quotient_good" "_law_quotient_good" s_l_quotient_good f fd) (c_l_is : Cal P w K mg base 3 "_law_is" (spD K gIs)) (c_l_value : Cal P w K mg base 1 "_law_value" (spD K gVal)) (c_l_fair : Cal P w K mg base 3 "_law_fair" (spD K gFair)) : FnOk P w K mg base CX0 4 f fd ["_law_size", "_law_way", "_law_a", "_law_b", "_law_found"] (spD K gQuot) := by
  refine fn_okD F sc_l_quotient_good (fun ds d hg => ?_) fun cdv A outer s H E hr => ⟨_, (pss_cons (ps_set (i := 5) sc_l_quotient_good.nd rfl (Or.inl rfl) (pe_op op_shlW pe_int (pe_op op_add (pe_ix (r := rIxT K) ix_tup (pv 0) pe_int (fun _ _ => rfl)) (pe_ix (r := rIxT K) ix_tup (pv 0) pe_int (fun _ _ => rfl)))))
    (pss_cons (ps_set (i := 6) sc_l_quotient_good.nd rfl (Or.inl rfl) (pe_op op_shlW (pe_op op_sub (pe_op op_shlW pe_int (pe_ix (r := rIxT K) ix_tup (pv 0) pe_int (fun _ _ => rfl))) pe_int) (pe_ix (r := rIxT K) ix_tup (pv 0) pe_int (fun _ _ => rfl))))
    (pss_cons (ps_set (i := 7) sc_l_quotient_good.nd rfl (Or.inl rfl) (pe_op op_mod (pv 2) (pv 5)))
    (pss_cons (ps_set (i := 8) sc_l_quotient_good.nd rfl (Or.inl rfl) (pe_op op_mod (pv 3) (pv 5)))
    (pss_cons (ps_set (i := 9) sc_l_quotient_good.nd rfl (Or.inl rfl) (pe_op op_mulX (pe_op op_fdivP (pe_op op_xor (pv 2) (pv 3)) (pv 5)) (pv 5)))
    (pss_cons (ps_if (PW.pt (pw_or (pt_cmpR op_gt (pv 7) (pv 6) (nomark _)) (pw_or1 (pt_cmpR op_gt (pv 8) (pv 6) (nomark _))))) (pss_one (ps_ret (pe_c c_l_is hr rfl (pa_cons (pv 4) (pa_cons (pe_op op_add (pv 6) (pe_op op_shlW pe_int (pe_op op_sub (pe_ix (r := rIxT K) ix_tup (pv 0) pe_int (fun _ _ => rfl)) pe_int))) (pa_cons pe_int pa_nil)))))) pss_nil)
    (pss_cons (ps_if (PW.pt (pw_and (pt_cmpR op_eq (pv 7) (pv 8) (nomark _)) (pw_and1 (PW.pt (pw_or (pt_cmpR op_eq (pv 7) pe_int (nomark _)) (pw_or1 (pt_cmpR op_eq (pv 7) (pv 6) (nomark _)))))))) (pss_one (ps_ret (pe_c c_l_is hr rfl (pa_cons (pv 4) (pa_cons (pe_op op_add (pv 6) (pe_op op_shlW pe_int (pe_op op_sub (pe_ix (r := rIxT K) ix_tup (pv 0) pe_int (fun _ _ => rfl)) pe_int))) (pa_cons pe_int pa_nil)))))) pss_nil)
    (pss_cons (ps_if (pt_cmpR op_eq (pv 7) (pv 6) (nomark _)) (pss_one (ps_ret (pe_c c_l_is hr rfl (pa_cons (pv 4) (pa_cons (pe_op op_add (pv 9) (pv 6)) (pa_cons pe_int pa_nil)))))) pss_nil)
    (pss_cons (ps_if (pt_cmpR op_eq (pv 8) pe_int (nomark _)) (pss_one (ps_ret (pe_c c_l_is hr rfl (pa_cons (pv 4) (pa_cons (pe_op op_add (pv 9) (pv 6)) (pa_cons pe_int pa_nil)))))) pss_nil)
    (pss_cons (ps_if (PW.pt (pw_or (pt_cmpR op_eq (pv 7) pe_int (nomark _)) (pw_or1 (pt_cmpR op_eq (pv 8) (pv 6) (nomark _))))) (pss_one (ps_ret (pe_c c_l_is hr rfl (pa_cons (pv 4) (pa_cons (pv 9) (pa_cons pe_int pa_nil)))))) pss_nil)
    (pss_cons (ps_set (i := 10) sc_l_quotient_good.nd rfl (Or.inl rfl) (pe_op op_add (pe_op op_sub (pe_op op_shlW pe_int (pe_op op_sub (pe_ix (r := rIxT K) ix_tup (pv 0) pe_int (fun _ _ => rfl)) pe_int)) pe_int) (pe_ix (r := rIxT K) ix_tup (pv 0) pe_int (fun _ _ => rfl))))
    (pss_cons (ps_set (i := 11) sc_l_quotient_good.nd rfl (Or.inl rfl) (pe_op op_shlW (pe_c c_l_value hr rfl (pa_cons (pv 0) (pa_cons (pv 7) pa_nil))) (pv 10)))
    (pss_one (ps_ret (pe_c c_l_fair hr rfl (pa_cons (pv 0) (pa_cons (pv 1) (pa_cons (pe_op op_fdivP (pv 9) (pv 5)) (pa_cons (pv 11) (pa_cons (pe_c c_l_value hr rfl (pa_cons (pv 0) (pa_cons (pv 8) pa_nil))) (pa_cons (pv 4) pa_nil))))))))))))))))))))), fun ds d hg => ?_⟩
  · obtain ⟨E, F, wy, x, y, z, hx, hy, rfl, rfl⟩ := hg
    rfl
  obtain ⟨E, F, wy, x, y, z, hx, hy, rfl, rfl⟩ := hg
  have ht := top_pos E F
  have hlt := last_lt_top z
  have hlg := last_ge z
  have hp := tp F
  have hKU := KU_v
  have hB1 := B1_v
  have hst := st_le z
  have hxd := xor_div hx hy
  have hxo : xorN (bt E F x.1 x.2) (bt E F y.1 y.2) < 2 ^ 200 := by
    have h1 := xor_top2 (bt_top2 hx) (bt_top2 hy)
    rw [top2] at h1
    exact lt_up h1 (by have := z.e15; have := z.f112; omega)
  have hs := xs1_le x.1 y.1
  refine q_asg (d := nD (top E F)) (eTop z (e0 rfl) (e1 rfl)) ?_
  refine q_asg (d := nD (last E F)) (eLast z (e0 rfl) (e1 rfl)) ?_
  refine q_asg (Eva.is (d' := nD x.2) (ev_op (on_mod ht) (ev_var rfl) (ev_var rfl)) (congrArg nD (bt_mod hx.2))) ?_
  refine q_asg (Eva.is (d' := nD y.2) (ev_op (on_mod ht) (ev_var rfl) (ev_var rfl)) (congrArg nD (bt_mod hy.2))) ?_
  refine q_asg (Eva.is (d' := nD (xs1 x.1 y.1 * top E F)) (ev_op (on_mul (by rw [hxd]; exact c_mul (s_lt hs (Nat.le_refl 1)) (top_lt z) (by decide))) (ev_op (on_div (c_div ht hxo (by decide))) (ev_op on_xor (ev_var rfl) (ev_var rfl)) (ev_var rfl)) (ev_var rfl)) (by rw [hxd])) ?_
  show Sx K _ [some (sz E F), some (.str (wn wy)), some (btD E F x), some (btD E F y), some (prD (divM E F wy x y)), some (nD (top E F)), some (nD (last E F)), some (nD x.2), some (nD y.2), some (nD (xs1 x.1 y.1 * top E F)), none, none] _
  refine q_when (p := last E F < x.2 ∨ last E F < y.2) (EvT.is (et_or (et_test (ev_op on_gt (ev_var rfl) (ev_var rfl))) fun _ => (et_test (ev_op on_gt (ev_var rfl) (ev_var rfl)))) (Bool.decide_or _ _).symm) (fun h => ?_) (fun h => ?_)
  · have hw : divM E F wy x y = (nan E F, 0) := by
      unfold divM
      rw [if_pos h]
    rw [hw]
    exact s_ret (ev_call (d := .bl true) ⟨nan E F, 0, nan E F, 0, rfl, congrArg D.bl is_true.symm⟩ (ea_cons (ev_var rfl) (ea_cons (eNan z (ev_var rfl) (e1 rfl)) (ea_cons (ev_nat (n := 0)) ea_nil)))) rfl
  refine q_when (p := x.2 = y.2 ∧ (x.2 = 0 ∨ x.2 = last E F)) (EvT.is (et_and (et_test (ev_op on_eq (ev_var rfl) (ev_var rfl))) fun _ => (et_or (et_test (ev_op on_eq (ev_var rfl) (ev_nat (n := 0)))) fun _ => (et_test (ev_op on_eq (ev_var rfl) (ev_var rfl))))) (by rw [Bool.decide_and, Bool.decide_or])) (fun h2 => ?_) (fun h2 => ?_)
  · have hw : divM E F wy x y = (nan E F, 16) := by
      unfold divM
      rw [if_neg h, if_pos (by omega)]
    rw [hw]
    exact s_ret (ev_call (d := .bl true) ⟨nan E F, 16, nan E F, 16, rfl, congrArg D.bl is_true.symm⟩ (ea_cons (ev_var rfl) (ea_cons (eNan z (ev_var rfl) (e1 rfl)) (ea_cons (ev_nat (n := 16)) ea_nil)))) rfl
  have h2' : ¬ ((x.2 = last E F ∧ y.2 = last E F) ∨ (x.2 = 0 ∧ y.2 = 0)) := by omega
  refine q_when (et_test (ev_op on_eq (ev_var rfl) (ev_var rfl))) (fun h3 => ?_) (fun h3 => ?_)
  · have hw : divM E F wy x y = (bt E F (xs1 x.1 y.1) (last E F), 0) := by
      unfold divM
      rw [if_neg h, if_neg h2', if_pos h3]
    rw [hw]
    exact s_ret (ev_call (d := .bl true) ⟨bt E F (xs1 x.1 y.1) (last E F), 0, bt E F (xs1 x.1 y.1) (last E F), 0, rfl, congrArg D.bl is_true.symm⟩ (ea_cons (ev_var rfl) (ea_cons (ev_op on_add (ev_var rfl) (ev_var rfl)) (ea_cons (ev_nat (n := 0)) ea_nil)))) rfl
  refine q_when (et_test (ev_op on_eq (ev_var rfl) (ev_nat (n := 0)))) (fun h4 => ?_) (fun h4 => ?_)
  · have hw : divM E F wy x y = (bt E F (xs1 x.1 y.1) (last E F), 8) := by
      unfold divM
      rw [if_neg h, if_neg h2', if_neg h3, if_pos h4]
    rw [hw]
    exact s_ret (ev_call (d := .bl true) ⟨bt E F (xs1 x.1 y.1) (last E F), 8, bt E F (xs1 x.1 y.1) (last E F), 8, rfl, congrArg D.bl is_true.symm⟩ (ea_cons (ev_var rfl) (ea_cons (ev_op on_add (ev_var rfl) (ev_var rfl)) (ea_cons (ev_nat (n := 8)) ea_nil)))) rfl
  refine q_when (p := x.2 = 0 ∨ y.2 = last E F) (EvT.is (et_or (et_test (ev_op on_eq (ev_var rfl) (ev_nat (n := 0)))) fun _ => (et_test (ev_op on_eq (ev_var rfl) (ev_var rfl)))) (Bool.decide_or _ _).symm) (fun h5 => ?_) (fun h5 => ?_)
  · have hw : divM E F wy x y = (bt E F (xs1 x.1 y.1) 0, 0) := by
      unfold divM
      rw [if_neg h, if_neg h2', if_neg h3, if_neg h4]
      by_cases h6 : y.2 = last E F
      · rw [if_pos h6]
      · rw [if_neg h6]
        have h7 : x.2 = 0 := by omega
        dsimp only
        rw [h7, mant_zero.mpr rfl, Nat.zero_mul, Nat.zero_mul, rnd_zero z]
    rw [hw]
    exact s_ret (ev_call (d := .bl true) ⟨bt E F (xs1 x.1 y.1) 0, 0, bt E F (xs1 x.1 y.1) 0, 0, rfl, congrArg D.bl is_true.symm⟩ (ea_cons (ev_var rfl) (ea_cons (ev_var rfl) (ea_cons (ev_nat (n := 0)) ea_nil)))) rfl
  obtain ⟨c, fl, hw, hc, hfair⟩ := div_fair z wy (x := x) (y := y) (by omega) (by omega) (by omega) (by omega)
  rw [hw]
  have v1 := val_KU z hx.2
  have v2 := val_KU z hy.2
  refine q_asg (d := nD (st E F)) (eStep z (e0 rfl) (e1 rfl)) ?_
  refine q_asg (ev_op (on_shl (c_shl v1 (by omega))) (ev_call (d := nD (val F x.2)) ⟨E, F, x.2, z, hx.2, rfl, rfl⟩ (ea_cons (ev_var rfl) (ea_cons (ev_var rfl) ea_nil))) (ev_var rfl)) ?_
  have hsd : xs1 x.1 y.1 * top E F / top E F = xs1 x.1 y.1 := Nat.mul_div_cancel _ ht
  exact s_ret (ev_call (d := .bl true) ⟨E, F, wy, xs1 x.1 y.1, val F x.2 * 2 ^ st E F, val F y.2, c, fl, z, hs, hc, mulp_lt v1 (by omega), lt_up v2 (by omega), rfl, congrArg D.bl hfair.symm⟩ (ea_cons (ev_var rfl) (ea_cons (ev_var rfl) (ea_cons (Eva.is (d' := nD (xs1 x.1 y.1)) (ev_op (on_div (c_div ht (lt_mul (s_lt hs (Nat.le_refl 1)) (top_lt z)) (by decide))) (ev_var rfl) (ev_var rfl)) (congrArg nD hsd)) (ea_cons (ev_var rfl) (ea_cons (ev_call (d := nD (val F y.2)) ⟨E, F, y.2, z, hy.2, rfl, rfl⟩ (ea_cons (ev_var rfl) (ea_cons (ev_var rfl) ea_nil))) (ea_cons (ev_var rfl) ea_nil))))))) rfl
theorem sc_l_root_good : FnScope ["_law_size", "_law_way", "_law_a", "_law_found", "_law_top", "_law_last", "_law_steps"] ["_law_size", "_law_way", "_law_a", "_law_found"] (defScope s_l_root_good) := ⟨rfl, rfl, rfl, by decide +kernel, rfl, by decide +kernel, by decide +kernel⟩
theorem ok_l_root_good {f : Addr} {fd : FuncData} (F : FnP K "_law_root_good" "_law_root_good" s_l_root_good f fd) (c_l_is : Cal P w K mg base 3 "_law_is" (spD K gIs)) (c_l_root_fair : Cal P w K mg base 3 "_law_root_fair" (spD K gRFair)) (c_l_value : Cal P w K mg base 1 "_law_value" (spD K gVal)) : FnOk P w K mg base CX0 4 f fd ["_law_size", "_law_way", "_law_a", "_law_found"] (spD K gRootG) := by
  refine fn_okD F sc_l_root_good (fun ds d hg => ?_) fun cdv A outer s H E hr => ⟨_, (pss_cons (ps_set (i := 4) sc_l_root_good.nd rfl (Or.inl rfl) (pe_op op_shlW pe_int (pe_op op_add (pe_ix (r := rIxT K) ix_tup (pv 0) pe_int (fun _ _ => rfl)) (pe_ix (r := rIxT K) ix_tup (pv 0) pe_int (fun _ _ => rfl)))))
    (pss_cons (ps_set (i := 5) sc_l_root_good.nd rfl (Or.inl rfl) (pe_op op_shlW (pe_op op_sub (pe_op op_shlW pe_int (pe_ix (r := rIxT K) ix_tup (pv 0) pe_int (fun _ _ => rfl))) pe_int) (pe_ix (r := rIxT K) ix_tup (pv 0) pe_int (fun _ _ => rfl))))
    (pss_cons (ps_if (pt_cmpR op_gt (pe_op op_mod (pv 2) (pv 4)) (pv 5) (nomark _)) (pss_one (ps_ret (pe_c c_l_is hr rfl (pa_cons (pv 3) (pa_cons (pe_op op_add (pv 5) (pe_op op_shlW pe_int (pe_op op_sub (pe_ix (r := rIxT K) ix_tup (pv 0) pe_int (fun _ _ => rfl)) pe_int))) (pa_cons pe_int pa_nil)))))) pss_nil)
    (pss_cons (ps_if (PW.pt (pw_or (pt_cmpR op_eq (pe_op op_mod (pv 2) (pv 4)) pe_int (nomark _)) (pw_or1 (pt_cmpR op_eq (pv 2) (pv 5) (nomark _))))) (pss_one (ps_ret (pe_c c_l_is hr rfl (pa_cons (pv 3) (pa_cons (pv 2) (pa_cons pe_int pa_nil)))))) pss_nil)
    (pss_cons (ps_if (pt_cmpR op_ge (pv 2) (pv 4) (nomark _)) (pss_one (ps_ret (pe_c c_l_is hr rfl (pa_cons (pv 3) (pa_cons (pe_op op_add (pv 5) (pe_op op_shlW pe_int (pe_op op_sub (pe_ix (r := rIxT K) ix_tup (pv 0) pe_int (fun _ _ => rfl)) pe_int))) (pa_cons pe_int pa_nil)))))) pss_nil)
    (pss_cons (ps_set (i := 6) sc_l_root_good.nd rfl (Or.inl rfl) (pe_op op_add (pe_op op_sub (pe_op op_shlW pe_int (pe_op op_sub (pe_ix (r := rIxT K) ix_tup (pv 0) pe_int (fun _ _ => rfl)) pe_int)) pe_int) (pe_ix (r := rIxT K) ix_tup (pv 0) pe_int (fun _ _ => rfl))))
    (pss_one (ps_ret (pe_c c_l_root_fair hr rfl (pa_cons (pv 0) (pa_cons (pv 1) (pa_cons (pe_op op_shlW (pe_c c_l_value hr rfl (pa_cons (pv 0) (pa_cons (pv 2) pa_nil))) (pv 6)) (pa_cons (pv 3) pa_nil))))))))))))), fun ds d hg => ?_⟩
  · obtain ⟨E, F, wy, x, z, hx, rfl, rfl⟩ := hg
    rfl
  obtain ⟨E, F, wy, x, z, hx, rfl, rfl⟩ := hg
  have ht := top_pos E F
  have hlt := last_lt_top z
  have hlg := last_ge z
  have hp := tp F
  have hKU := KU_v
  have hB1 := B1_v
  have hst := st_le z
  have hm := bt_mod (s := x.1) hx.2
  refine q_asg (d := nD (top E F)) (eTop z (e0 rfl) (e1 rfl)) ?_
  refine q_asg (d := nD (last E F)) (eLast z (e0 rfl) (e1 rfl)) ?_
  show Sx K _ [some (sz E F), some (.str (wn wy)), some (btD E F x), some (prD (rooM E F wy x)), some (nD (top E F)), some (nD (last E F)), none] _
  refine q_when (p := last E F < x.2) (EvT.is (et_test (ev_op on_gt (ev_op (on_mod ht) (ev_var rfl) (ev_var rfl)) (ev_var rfl))) (by rw [hm])) (fun h => ?_) (fun h => ?_)
  · have hw : rooM E F wy x = (nan E F, 0) := by
      unfold rooM
      rw [if_pos h]
    rw [hw]
    exact s_ret (ev_call (d := .bl true) ⟨nan E F, 0, nan E F, 0, rfl, congrArg D.bl is_true.symm⟩ (ea_cons (ev_var rfl) (ea_cons (eNan z (ev_var rfl) (e1 rfl)) (ea_cons (ev_nat (n := 0)) ea_nil)))) rfl
  have hbl : bt E F x.1 x.2 = last E F ↔ x.1 = 0 ∧ x.2 = last E F := by
    have h1 : x.1 = 0 ∨ x.1 = 1 := by have := hx.1; omega
    unfold bt
    rcases h1 with q | q
    · rw [q, Nat.zero_mul, Nat.zero_add]
      exact ⟨fun k => ⟨rfl, k⟩, fun k => k.2⟩
    · rw [q, Nat.one_mul]
      exact ⟨fun k => by omega, fun k => by omega⟩
  have hbt : top E F ≤ bt E F x.1 x.2 ↔ x.1 = 1 := by
    have h1 : x.1 = 0 ∨ x.1 = 1 := by have := hx.1; omega
    have h2 := hx.2
    unfold bt
    rcases h1 with q | q
    · rw [q, Nat.zero_mul, Nat.zero_add]
      exact ⟨fun k => by omega, fun k => by omega⟩
    · rw [q, Nat.one_mul]
      exact ⟨fun _ => rfl, fun _ => Nat.le_add_right _ _⟩
  refine q_when (p := x.2 = 0 ∨ (x.1 = 0 ∧ x.2 = last E F)) (EvT.is (et_or (EvT.is (et_test (ev_op on_eq (ev_op (on_mod ht) (ev_var rfl) (ev_var rfl)) (ev_nat (n := 0)))) (congrArg (fun n => decide (n = 0)) hm)) fun _ => (EvT.is (et_test (ev_op on_eq (ev_var rfl) (ev_var rfl))) (decide_eq_decide.mpr hbl))) (by rw [← Bool.decide_or])) (fun h2 => ?_) (fun h2 => ?_)
  · have hw : rooM E F wy x = (bt E F x.1 x.2, 0) := by
      unfold rooM
      rw [if_neg h]
      by_cases h3 : x.2 = 0
      · rw [if_pos h3]
      · rw [if_neg h3, if_neg (by omega), if_pos (by omega)]
    rw [hw]
    exact s_ret (ev_call (d := .bl true) ⟨bt E F x.1 x.2, 0, bt E F x.1 x.2, 0, rfl, congrArg D.bl is_true.symm⟩ (ea_cons (ev_var rfl) (ea_cons (ev_var rfl) (ea_cons (ev_nat (n := 0)) ea_nil)))) rfl
  refine q_when (p := x.1 = 1) (EvT.is (et_test (ev_op on_ge (ev_var rfl) (ev_var rfl))) (decide_eq_decide.mpr hbt)) (fun h3 => ?_) (fun h3 => ?_)
  · have hw : rooM E F wy x = (nan E F, 16) := by
      unfold rooM
      rw [if_neg h, if_neg (by omega), if_pos h3]
    rw [hw]
    exact s_ret (ev_call (d := .bl true) ⟨nan E F, 16, nan E F, 16, rfl, congrArg D.bl is_true.symm⟩ (ea_cons (ev_var rfl) (ea_cons (eNan z (ev_var rfl) (e1 rfl)) (ea_cons (ev_nat (n := 16)) ea_nil)))) rfl
  have hx1 : x.1 = 0 := by have := hx.1; omega
  obtain ⟨c, fl, hw, hc0, hcl, hfair⟩ := roo_fair z wy (x := x) (by omega) (by omega) hx1
  rw [hw]
  have v1 := val_KU z hx.2
  refine q_asg (d := nD (st E F)) (eStep z (e0 rfl) (e1 rfl)) ?_
  have hb0 : bt E F x.1 x.2 = x.2 := by
    unfold bt
    rw [hx1, Nat.zero_mul, Nat.zero_add]
  exact s_ret (ev_call (d := .bl true) ⟨E, F, wy, val F x.2 * 2 ^ st E F, c, fl, z, hc0, hcl, mulp_lt v1 (by omega), rfl, congrArg D.bl hfair.symm⟩ (ea_cons (ev_var rfl) (ea_cons (ev_var rfl) (ea_cons (ev_op (on_shl (c_shl v1 (by omega))) (ev_call (d := nD (val F x.2)) ⟨E, F, x.2, z, hx.2, rfl, rfl⟩ (ea_cons (ev_var rfl) (ea_cons (Eva.is (d' := nD x.2) (ev_var rfl) (congrArg nD hb0)) ea_nil))) (ev_var rfl)) (ea_cons (ev_var rfl) ea_nil))))) rfl
theorem sc_l_deed : FnScope ["_law_size", "_law_way", "_law_which", "_law_a", "_law_b", "_law_c", "_law_found", "_law_turned"] ["_law_size", "_law_way", "_law_which", "_law_a", "_law_b", "_law_c"] (defScope s_l_deed) := ⟨rfl, rfl, rfl, by decide +kernel, rfl, by decide +kernel, by decide +kernel⟩
theorem ok_l_deed {f : Addr} {fd : FuncData} (F : FnP K "_law_deed" "_law_deed" s_l_deed f fd) (c_added : Cal P w K mg base 8 "added" (spD K gAdd)) (c_l_sum_good : Cal P w K mg base 4 "_law_sum_good" (spD K gSumGood)) (c_l_term : Cal P w K mg base 2 "_law_term" (spD K gLTerm)) (c_taken : Cal P w K mg base 9 "taken" (spD K gTake)) (c_multiplied : Cal P w K mg base 8 "multiplied" (spD K gMul)) (c_l_product : Cal P w K mg base 3 "_law_product" (spD K gLProd)) (c_divided : Cal P w K mg base 6 "divided" (spD K gDiv)) (c_l_quotient_good : Cal P w K mg base 4 "_law_quotient_good" (spD K gQuot)) (c_fused : Cal P w K mg base 8 "fused" (spD K gFus)) (c_rooted : Cal P w K mg base 5 "rooted" (spD K gRoo)) (c_l_root_good : Cal P w K mg base 4 "_law_root_good" (spD K gRootG)) (c_wholed : Cal P w K mg base 6 "wholed" (spD K gWho)) (c_l_wholed_fair : Cal P w K mg base 4 "_law_wholed_fair" (spD K gWF)) : FnOk P w K mg base CX0 10 f fd ["_law_size", "_law_way", "_law_which", "_law_a", "_law_b", "_law_c"] (spD K gDeed) := by
  refine fn_okD F sc_l_deed (fun ds d hg => ?_) fun cdv A outer s H E hr => ⟨_, (pss_cons (ps_if (pt_cmpR op_eq (pv 2) pe_int (nomark _)) (pss_cons (ps_set (i := 6) sc_l_deed.nd rfl (Or.inl rfl) (pe_c c_added hr rfl (pa_cons (pv 0) (pa_cons (pv 1) (pa_cons (pv 3) (pa_cons (pv 4) pa_nil))))))
    (pss_one (ps_ret (pe_tup (pa_cons (pe_c c_l_sum_good hr rfl (pa_cons (pv 0) (pa_cons (pv 1) (pa_cons (pe_lst (pa_cons (pe_c c_l_term hr rfl (pa_cons (pv 0) (pa_cons (pv 3) pa_nil))) (pa_cons (pe_c c_l_term hr rfl (pa_cons (pv 0) (pa_cons (pv 4) pa_nil))) pa_nil))) (pa_cons (pv 6) pa_nil))))) (pa_cons (pv 6) pa_nil)))))) pss_nil)
    (pss_cons (ps_if (pt_cmpR op_eq (pv 2) pe_int (nomark _)) (pss_cons (ps_set (i := 6) sc_l_deed.nd rfl (Or.inl rfl) (pe_c c_taken hr rfl (pa_cons (pv 0) (pa_cons (pv 1) (pa_cons (pv 3) (pa_cons (pv 4) pa_nil))))))
    (pss_cons (ps_set (i := 7) sc_l_deed.nd rfl (Or.inl rfl) (pe_op op_xor (pv 4) (pe_op op_shlW pe_int (pe_op op_add (pe_ix (r := rIxT K) ix_tup (pv 0) pe_int (fun _ _ => rfl)) (pe_ix (r := rIxT K) ix_tup (pv 0) pe_int (fun _ _ => rfl))))))
    (pss_one (ps_ret (pe_tup (pa_cons (pe_c c_l_sum_good hr rfl (pa_cons (pv 0) (pa_cons (pv 1) (pa_cons (pe_lst (pa_cons (pe_c c_l_term hr rfl (pa_cons (pv 0) (pa_cons (pv 3) pa_nil))) (pa_cons (pe_c c_l_term hr rfl (pa_cons (pv 0) (pa_cons (pv 7) pa_nil))) pa_nil))) (pa_cons (pv 6) pa_nil))))) (pa_cons (pv 6) pa_nil))))))) pss_nil)
    (pss_cons (ps_if (pt_cmpR op_eq (pv 2) pe_int (nomark _)) (pss_cons (ps_set (i := 6) sc_l_deed.nd rfl (Or.inl rfl) (pe_c c_multiplied hr rfl (pa_cons (pv 0) (pa_cons (pv 1) (pa_cons (pv 3) (pa_cons (pv 4) pa_nil))))))
    (pss_one (ps_ret (pe_tup (pa_cons (pe_c c_l_sum_good hr rfl (pa_cons (pv 0) (pa_cons (pv 1) (pa_cons (pe_lst (pa_cons (pe_c c_l_product hr rfl (pa_cons (pv 0) (pa_cons (pv 3) (pa_cons (pv 4) pa_nil)))) pa_nil)) (pa_cons (pv 6) pa_nil))))) (pa_cons (pv 6) pa_nil)))))) pss_nil)
    (pss_cons (ps_if (pt_cmpR op_eq (pv 2) pe_int (nomark _)) (pss_cons (ps_set (i := 6) sc_l_deed.nd rfl (Or.inl rfl) (pe_c c_divided hr rfl (pa_cons (pv 0) (pa_cons (pv 1) (pa_cons (pv 3) (pa_cons (pv 4) pa_nil))))))
    (pss_one (ps_ret (pe_tup (pa_cons (pe_c c_l_quotient_good hr rfl (pa_cons (pv 0) (pa_cons (pv 1) (pa_cons (pv 3) (pa_cons (pv 4) (pa_cons (pv 6) pa_nil)))))) (pa_cons (pv 6) pa_nil)))))) pss_nil)
    (pss_cons (ps_if (pt_cmpR op_eq (pv 2) pe_int (nomark _)) (pss_cons (ps_set (i := 6) sc_l_deed.nd rfl (Or.inl rfl) (pe_c c_fused hr rfl (pa_cons (pv 0) (pa_cons (pv 1) (pa_cons (pv 3) (pa_cons (pv 4) (pa_cons (pv 5) pa_nil)))))))
    (pss_one (ps_ret (pe_tup (pa_cons (pe_c c_l_sum_good hr rfl (pa_cons (pv 0) (pa_cons (pv 1) (pa_cons (pe_lst (pa_cons (pe_c c_l_product hr rfl (pa_cons (pv 0) (pa_cons (pv 3) (pa_cons (pv 4) pa_nil)))) (pa_cons (pe_c c_l_term hr rfl (pa_cons (pv 0) (pa_cons (pv 5) pa_nil))) pa_nil))) (pa_cons (pv 6) pa_nil))))) (pa_cons (pv 6) pa_nil)))))) pss_nil)
    (pss_cons (ps_if (pt_cmpR op_eq (pv 2) pe_int (nomark _)) (pss_cons (ps_set (i := 6) sc_l_deed.nd rfl (Or.inl rfl) (pe_c c_rooted hr rfl (pa_cons (pv 0) (pa_cons (pv 1) (pa_cons (pv 3) pa_nil)))))
    (pss_one (ps_ret (pe_tup (pa_cons (pe_c c_l_root_good hr rfl (pa_cons (pv 0) (pa_cons (pv 1) (pa_cons (pv 3) (pa_cons (pv 6) pa_nil))))) (pa_cons (pv 6) pa_nil)))))) pss_nil)
    (pss_cons (ps_set (i := 6) sc_l_deed.nd rfl (Or.inl rfl) (pe_c c_wholed hr rfl (pa_cons (pv 0) (pa_cons (pv 1) (pa_cons (pv 3) pa_nil)))))
    (pss_one (ps_ret (pe_tup (pa_cons (pe_c c_l_wholed_fair hr rfl (pa_cons (pv 0) (pa_cons (pv 1) (pa_cons (pv 3) (pa_cons (pv 6) pa_nil))))) (pa_cons (pv 6) pa_nil)))))))))))), fun ds d hg => ?_⟩
  · obtain ⟨E, F, wy, n, x, y, v, z, hx, hy, hv, rfl, rfl⟩ := hg
    rfl
  obtain ⟨E, F, wy, n, x, y, v, z, hx, hy, hv, rfl, rfl⟩ := hg
  show Sx K _ _ { nx := fun _ => D.tup [.bl true, prD (deedM E F wy n x y v)] = .non, rt := fun d' => d' = D.tup [.bl true, prD (deedM E F wy n x y v)] }
  unfold deedM
  have hxy : ∀ t ∈ [lterm E F x, lterm E F y], t.s ≤ 1 ∧ t.v < 2 ^ (KU + KU) := fun t ht => by
    simp at ht
    rcases ht with rfl | rfl
    · exact lterm_bd z hx
    · exact lterm_bd z hy
  refine q_when (et_test (ev_op on_eq (ev_var rfl) (ev_nat (n := 0)))) (fun h => ?_) (fun h => ?_)
  · rw [if_pos h]
    refine q_asg (ev_call (d := prD (addM E F wy x y)) ⟨E, F, wy, x, y, z, hx, hy, rfl, rfl⟩ (ea_cons (ev_var rfl) (ea_cons (ev_var rfl) (ea_cons (ev_var rfl) (ea_cons (ev_var rfl) ea_nil))))) ?_
    exact s_ret (ev_tup (ea_cons (ev_call (d := .bl true) ⟨E, F, wy, [lterm E F x, lterm E F y], addM E F wy x y, z, Nat.le_of_ble_eq_true rfl, hxy, add_good z wy hx hy, rfl, rfl⟩ (ea_cons (ev_var rfl) (ea_cons (ev_var rfl) (ea_cons (ev_lst (ea_cons (ev_call (d := ltD (lterm E F x)) ⟨E, F, x, z, hx, rfl, rfl⟩ (ea_cons (ev_var rfl) (ea_cons (ev_var rfl) ea_nil))) (ea_cons (ev_call (d := ltD (lterm E F y)) ⟨E, F, y, z, hy, rfl, rfl⟩ (ea_cons (ev_var rfl) (ea_cons (ev_var rfl) ea_nil))) ea_nil))) (ea_cons (ev_var rfl) ea_nil))))) (ea_cons (ev_var rfl) ea_nil))) rfl
  rw [if_neg h]
  refine q_when (et_test (ev_op on_eq (ev_var rfl) (ev_nat (n := 1)))) (fun h => ?_) (fun h => ?_)
  · rw [if_pos h]
    have hfy := flip_ok hy
    have hxy2 : ∀ t ∈ [lterm E F x, lterm E F (flip y)], t.s ≤ 1 ∧ t.v < 2 ^ (KU + KU) := fun t ht => by
      simp at ht
      rcases ht with rfl | rfl
      · exact lterm_bd z hx
      · exact lterm_bd z hfy
    refine q_asg (ev_call (d := prD (addM E F wy x (flip y))) ⟨E, F, wy, x, y, z, hx, hy, rfl, rfl⟩ (ea_cons (ev_var rfl) (ea_cons (ev_var rfl) (ea_cons (ev_var rfl) (ea_cons (ev_var rfl) ea_nil))))) ?_
    refine q_asg (Eva.is (d' := btD E F (flip y)) (ev_op on_xor (ev_var rfl) (eTop z (e0 rfl) (e1 rfl))) (congrArg nD (xor_top (n := E + F) hy.1 hy.2))) ?_
    exact s_ret (ev_tup (ea_cons (ev_call (d := .bl true) ⟨E, F, wy, [lterm E F x, lterm E F (flip y)], addM E F wy x (flip y), z, Nat.le_of_ble_eq_true rfl, hxy2, add_good z wy hx hfy, rfl, rfl⟩ (ea_cons (ev_var rfl) (ea_cons (ev_var rfl) (ea_cons (ev_lst (ea_cons (ev_call (d := ltD (lterm E F x)) ⟨E, F, x, z, hx, rfl, rfl⟩ (ea_cons (ev_var rfl) (ea_cons (ev_var rfl) ea_nil))) (ea_cons (ev_call (d := ltD (lterm E F (flip y))) ⟨E, F, flip y, z, hfy, rfl, rfl⟩ (ea_cons (ev_var rfl) (ea_cons (ev_var rfl) ea_nil))) ea_nil))) (ea_cons (ev_var rfl) ea_nil))))) (ea_cons (ev_var rfl) ea_nil))) rfl
  rw [if_neg h]
  refine q_when (et_test (ev_op on_eq (ev_var rfl) (ev_nat (n := 2)))) (fun h => ?_) (fun h => ?_)
  · rw [if_pos h]
    refine q_asg (ev_call (d := prD (mulM E F wy x y)) ⟨E, F, wy, x, y, z, hx, hy, rfl, rfl⟩ (ea_cons (ev_var rfl) (ea_cons (ev_var rfl) (ea_cons (ev_var rfl) (ea_cons (ev_var rfl) ea_nil))))) ?_
    exact s_ret (ev_tup (ea_cons (ev_call (d := .bl true) ⟨E, F, wy, [lprod E F x y], mulM E F wy x y, z, Nat.le_of_ble_eq_true rfl, (fun t ht => by rw [List.mem_singleton.mp ht]; exact lprod_bd z hx hy), mul_good z wy hx hy, rfl, rfl⟩ (ea_cons (ev_var rfl) (ea_cons (ev_var rfl) (ea_cons (ev_lst (ea_cons (ev_call (d := ltD (lprod E F x y)) ⟨E, F, x, y, z, hx, hy, rfl, rfl⟩ (ea_cons (ev_var rfl) (ea_cons (ev_var rfl) (ea_cons (ev_var rfl) ea_nil)))) ea_nil)) (ea_cons (ev_var rfl) ea_nil))))) (ea_cons (ev_var rfl) ea_nil))) rfl
  rw [if_neg h]
  refine q_when (et_test (ev_op on_eq (ev_var rfl) (ev_nat (n := 3)))) (fun h => ?_) (fun h => ?_)
  · rw [if_pos h]
    refine q_asg (ev_call (d := prD (divM E F wy x y)) ⟨E, F, wy, x, y, z, hx, hy, rfl, rfl⟩ (ea_cons (ev_var rfl) (ea_cons (ev_var rfl) (ea_cons (ev_var rfl) (ea_cons (ev_var rfl) ea_nil))))) ?_
    exact s_ret (ev_tup (ea_cons (ev_call (d := .bl true) ⟨E, F, wy, x, y, z, hx, hy, rfl, rfl⟩ (ea_cons (ev_var rfl) (ea_cons (ev_var rfl) (ea_cons (ev_var rfl) (ea_cons (ev_var rfl) (ea_cons (ev_var rfl) ea_nil)))))) (ea_cons (ev_var rfl) ea_nil))) rfl
  rw [if_neg h]
  refine q_when (et_test (ev_op on_eq (ev_var rfl) (ev_nat (n := 4)))) (fun h => ?_) (fun h => ?_)
  · rw [if_pos h]
    have hxy3 : ∀ t ∈ [lprod E F x y, lterm E F v], t.s ≤ 1 ∧ t.v < 2 ^ (KU + KU) := fun t ht => by
      simp at ht
      rcases ht with rfl | rfl
      · exact lprod_bd z hx hy
      · exact lterm_bd z hv
    refine q_asg (ev_call (d := prD (fusM E F wy x y v)) ⟨E, F, wy, x, y, v, z, hx, hy, hv, rfl, rfl⟩ (ea_cons (ev_var rfl) (ea_cons (ev_var rfl) (ea_cons (ev_var rfl) (ea_cons (ev_var rfl) (ea_cons (ev_var rfl) ea_nil)))))) ?_
    exact s_ret (ev_tup (ea_cons (ev_call (d := .bl true) ⟨E, F, wy, [lprod E F x y, lterm E F v], fusM E F wy x y v, z, Nat.le_of_ble_eq_true rfl, hxy3, fus_good z wy hx hy hv, rfl, rfl⟩ (ea_cons (ev_var rfl) (ea_cons (ev_var rfl) (ea_cons (ev_lst (ea_cons (ev_call (d := ltD (lprod E F x y)) ⟨E, F, x, y, z, hx, hy, rfl, rfl⟩ (ea_cons (ev_var rfl) (ea_cons (ev_var rfl) (ea_cons (ev_var rfl) ea_nil)))) (ea_cons (ev_call (d := ltD (lterm E F v)) ⟨E, F, v, z, hv, rfl, rfl⟩ (ea_cons (ev_var rfl) (ea_cons (ev_var rfl) ea_nil))) ea_nil))) (ea_cons (ev_var rfl) ea_nil))))) (ea_cons (ev_var rfl) ea_nil))) rfl
  rw [if_neg h]
  refine q_when (et_test (ev_op on_eq (ev_var rfl) (ev_nat (n := 5)))) (fun h => ?_) (fun h => ?_)
  · rw [if_pos h]
    refine q_asg (ev_call (d := prD (rooM E F wy x)) ⟨E, F, wy, x, z, hx, rfl, rfl⟩ (ea_cons (ev_var rfl) (ea_cons (ev_var rfl) (ea_cons (ev_var rfl) ea_nil)))) ?_
    exact s_ret (ev_tup (ea_cons (ev_call (d := .bl true) ⟨E, F, wy, x, z, hx, rfl, rfl⟩ (ea_cons (ev_var rfl) (ea_cons (ev_var rfl) (ea_cons (ev_var rfl) (ea_cons (ev_var rfl) ea_nil))))) (ea_cons (ev_var rfl) ea_nil))) rfl
  rw [if_neg h]
  refine q_asg (ev_call (d := prD (whoM E F wy x)) ⟨E, F, wy, x, z, hx, rfl, rfl⟩ (ea_cons (ev_var rfl) (ea_cons (ev_var rfl) (ea_cons (ev_var rfl) ea_nil)))) ?_
  exact s_ret (ev_tup (ea_cons (ev_call (d := .bl true) ⟨E, F, wy, x, z, hx, rfl, rfl⟩ (ea_cons (ev_var rfl) (ea_cons (ev_var rfl) (ea_cons (ev_var rfl) (ea_cons (ev_var rfl) ea_nil))))) (ea_cons (ev_var rfl) ea_nil))) rfl
end
end RM
set_option Elab.async false
set_option linter.all false
set_option maxRecDepth 100000
set_option maxHeartbeats 2000000
namespace RM
open PySem PySem.Spec PyProof.Rows L2
open Evl (Ex Ex.refl Ex.trans Ex.new Ex.mut ex_l ex_t)
def gLaw (ds : List D) (d : D) : Prop := ∃ ns : List Int, ns.length ≤ 63 ∧ (∀ n ∈ ns, Ce n) ∧ ds = [.lst (ns.map D.int)] ∧ d = .bl true
section
variable {K : PySem.W.Frag} {σ : L2.St} {H : Hp} {ds : DE} {te : TE} {tz : TS} {Dn : Ends} {p : D → Prop}
theorem h_asgE {i : Nat} (r : EnvR K H σ ds) (h : EvaE K te ds p) (k : ∀ d v H', p d → Ex H H' → Rep K H' v d → tz Dn (σ.set i (some v)) H') : tSeq (tAsg te (gName i)) tz Dn σ H :=
  h σ H r _ fun d v H' hd e rv => k d v H' hd e rv
end
section
variable {K : PySem.W.Frag} {σ : L2.St} {H : Hp} {ds : DE} {te : TE} {tz tu : TS} {t : TT} {Dn : Ends} {p : D → Prop} {d d0 : D}
theorem EvaE.of (h : Eva K te ds d) (hp : p d) : EvaE K te ds p := fun σ H r Q q => h σ H r Q fun v H' e rv => q d v H' hp e rv
theorem h_appE {i : Nat} {l : Addr} {vs : List V} (r : EnvR K H σ ds) (hi : σ[i]? = some (some (.ref l))) (hl : H l = some (.lst vs)) (hn : vs.length ≤ 1000) (h : EvaE K te ds p) (k : ∀ d v H', p d → Ex H H' → Rep K H' v d → Dn.nx σ (upd H' l (.lst (vs ++ [v])))) :
    tDrop (tBM K "list" rAppend (tVar i) (tCons te tNil)) Dn σ H :=
  ⟨_, hi, .inl ⟨rfl, vs, SqL.of hl⟩, h σ H r _ fun d v H' hd e rv => ⟨l, vs, v, rfl, rfl, e _ _ hl, Nat.lt_of_le_of_lt hn (by decide), k d v H' hd e rv⟩⟩
theorem h_ifE {i : Nat} {x : Bool} (r : EnvR K H σ ds) (hd : ds[i]? = some (some d0)) (h0 : p d0) (h : EvT K t ds x) (h1 : x = true → EvaE K te ds p)
    (k : ∀ σ' H' d, Ex H H' → p d → (∀ j, j ≠ i → σ'[j]? = σ[j]?) → EnvR K H' σ' (ds.set i (some d)) → tz Dn σ' H') : tSeq (tIfS t (tAsg te (gName i)) tNext) tz Dn σ H :=
  h_when r h (fun hx H' e => h1 hx σ H' (r.mono e) _ fun d v H2 hd2 e2 rv => k _ H2 d (e.trans e2) hd2 (fun j hj => List.getElem?_set_ne hj.symm) ((r.mono (e.trans e2)).set i rv))
    fun hx H' e => by
      obtain ⟨v, g1, g2⟩ := r.2 i d0 hd
      exact k σ H' d0 e h0 (fun _ _ => rfl) ((r.mono e).tell g1 (g2.mono e))
theorem h_asgT {g : TG} {ds' : DE} (r : EnvR K H σ ds) (h : Eva K te ds d) (hg : Tg K g d ds ds') (k : ∀ σ' H', Ex H H' → EnvR K H' σ' ds' → tz Dn σ' H') : tSeq (tAsg te g) tz Dn σ H :=
  h σ H r _ fun v H1 e1 r1 => hg v σ H1 r1 (r.mono e1) _ fun σ' e' => k σ' H1 e1 e'
end
theorem cut_from2 (xs : List V) : cutV xs (some 2) none = xs.drop 2 := by
  unfold cutV
  have e : HT.sIx xs.length 0 (some ((2 : Nat) : Int)) = min 2 xs.length := HT.sIx_nat ..
  rw [show (some (2 : Int)) = some ((2 : Nat) : Int) from rfl, e, HT.sIx_none]
  have h : (xs.drop (min 2 xs.length)).length = xs.length - min 2 xs.length := List.length_drop ..
  rw [← h, List.take_length]
  by_cases q : 2 ≤ xs.length
  · rw [Nat.min_eq_left q]
  · rw [Nat.min_eq_right (by omega), List.drop_of_length_le (Nat.le_refl _), List.drop_of_length_le (by omega)]
theorem EnvR.keep3 {K : PySem.W.Frag} {H : Hp} {σ : L2.St} {a b x3 x4 x5 x6 x7 x8 x9 x10 x11 : Option D} (r : EnvR K H σ [none, a, b, x3, x4, x5, x6, x7, x8, x9, x10, x11]) : EnvR K H σ [none, a, b, none, none, none, none, none, none, none, none, none] := by
  refine r.less rfl fun i d h => ?_
  match i, h with
  | 1, h => exact h
  | 2, h => exact h
  | n + 3, h =>
    have h2 : (List.replicate 9 (none : Option D))[n]? = some (some d) := h
    exact absurd (List.eq_of_mem_replicate (List.mem_of_getElem? h2)) (by intro q; cases q)
theorem rep_row {K : PySem.W.Frag} {H : Hp} {E F : Nat} {l : Addr} {xs : List (Nat × Nat)} (h : H l = some (.lst (xs.map fun x => V.int ((bt E F x.1 x.2 : Nat) : Int)))) : Rep K H (.ref l) (.lst (xs.map (btD E F))) := by
  refine .lst (SqL.of h) ?_
  clear h
  induction xs with
  | nil => exact .nil
  | cons x xs ih => exact .cons (.int _) ih
section
variable {P : Program} {w : World} {K : PySem.W.Frag} {mg : Str → Option Value} {base : Heap}
theorem sc_law : FnScope ["_law_script", "_law_size", "_law_row", "_law_cell", "_law_which", "_law_rest", "_law_way", "_law_a", "_law_b", "_law_c", "_law_good", "_law_found"] ["_law_script"] (defScope s_law) := ⟨rfl, rfl, rfl, by decide +kernel, rfl, by decide +kernel, by decide +kernel⟩
theorem ok_law {f : Addr} {fd : FuncData} (F : FnP K "law" "law" s_law f fd) (c_l_size_by : Cal P w K mg base 1 "_law_size_by" (spX K xSize)) (c_l_cell_at : Cal P w K mg base 1 "_law_cell_at" (spD K gCell)) (c_l_bits_by : Cal P w K mg base 2 "_law_bits_by" (spX K xBits)) (c_l_way_by : Cal P w K mg base 1 "_law_way_by" (spX K xWay)) (c_l_partner : Cal P w K mg base 5 "_law_partner" (spX K xPart)) (c_l_third_by : Cal P w K mg base 4 "_law_third_by" (spX K xThird)) (c_l_deed : Cal P w K mg base 10 "_law_deed" (spD K gDeed)) (b_len : mg "len" = none) : FnOk P w K mg base CX0 11 f fd ["_law_script"] (spD K gLaw) := by
  refine fn_okD F sc_law (fun ds d hg => ?_) fun cdv A outer s H E hr => ⟨_, (pss_cons (ps_set (i := 1) sc_law.nd rfl (Or.inl rfl) (pe_c c_l_size_by hr rfl (pa_cons (pe_c c_l_cell_at hr rfl (pa_cons (pv 0) (pa_cons pe_int pa_nil))) pa_nil)))
    (pss_cons (ps_set (i := 2) sc_law.nd rfl (Or.inl rfl) (pe_lst (pa_cons (pe_c c_l_bits_by hr rfl (pa_cons (pv 1) (pa_cons (pe_c c_l_cell_at hr rfl (pa_cons (pv 0) (pa_cons pe_int pa_nil))) pa_nil))) pa_nil)))
    (pss_cons (ps_for PassesOwn.never rfl (pi_list (pe_slice sl_list (pv 0) (po_some pe_int) po_none)) (pg_name (i := 3) sc_law.nd rfl (Or.inl rfl)) (pss_cons (ps_set (i := 4) sc_law.nd rfl (Or.inl rfl) (pe_op op_mod (pv 3) pe_int))
    (pss_cons (ps_set (i := 5) sc_law.nd rfl (Or.inl rfl) (pe_op op_fdivP (pv 3) pe_int))
    (pss_cons (ps_if (pt_cmpR op_eq (pv 4) pe_int (nomark _)) (pss_cons (ps_expr (pe_bm PySem.F.plainAttrs_list PySem.F.slot_list_append PySem.F.type_list_append mt_append (pv 2) (pa_cons (pe_c c_l_bits_by hr rfl (pa_cons (pv 1) (pa_cons (pv 5) pa_nil))) pa_nil)))
    (pss_one ps_continue)) pss_nil)
    (pss_cons (ps_set (i := 6) sc_law.nd rfl (Or.inl rfl) (pe_c c_l_way_by hr rfl (pa_cons (pe_op op_add (pv 5) (pe_callB call_len_seq (by rfl) b_len (by decide +kernel) (pa_cons (pv 2) pa_nil))) pa_nil)))
    (pss_cons (ps_set (i := 7) sc_law.nd rfl (Or.inl rfl) (pe_ix (r := rIxL K) ix_list (pv 2) (pe_un un_neg pe_int) (fun _ _ => rfl)))
    (pss_cons (ps_if (pt_cmpR op_eq (pe_op op_mod (pe_op op_fdivP (pv 5) pe_int) pe_int) pe_int (nomark _)) (pss_one (ps_set (i := 7) sc_law.nd rfl (Or.inl rfl) (pe_ix (r := rIxL K) ix_list (pv 2) (pe_op op_mod (pe_op op_fdivP (pv 5) pe_int) (pe_callB call_len_seq (by rfl) b_len (by decide +kernel) (pa_cons (pv 2) pa_nil))) (fun _ _ => rfl)))) pss_nil)
    (pss_cons (ps_set (i := 8) sc_law.nd rfl (Or.inl rfl) (pe_c c_l_partner hr rfl (pa_cons (pv 1) (pa_cons (pv 2) (pa_cons (pv 7) (pa_cons (pv 4) (pa_cons (pe_op op_mod (pe_op op_mulX (pv 5) pe_int) pe_int) pa_nil)))))))
    (pss_cons (ps_set (i := 9) sc_law.nd rfl (Or.inl rfl) (pe_c c_l_third_by hr rfl (pa_cons (pv 1) (pa_cons (pv 7) (pa_cons (pv 8) (pa_cons (pe_op op_mod (pe_op op_mulX (pv 5) pe_int) pe_int) pa_nil))))))
    (pss_cons (ps_asg (pe_c c_l_deed hr rfl (pa_cons (pv 1) (pa_cons (pv 6) (pa_cons (pv 4) (pa_cons (pv 7) (pa_cons (pv 8) (pa_cons (pv 9) pa_nil))))))) (pg_tup rfl (pgs_cons (pg_name (i := 10) sc_law.nd rfl (Or.inl rfl)) (pgs_cons (pg_name (i := 11) sc_law.nd rfl (Or.inl rfl)) pgs_nil))))
    (pss_cons (ps_if (pt_not (pt_val (pv 10))) (pss_one (ps_ret pe_bl)) pss_nil)
    (pss_one (ps_expr (pe_bm PySem.F.plainAttrs_list PySem.F.slot_list_append PySem.F.type_list_append mt_append (pv 2) (pa_cons (pe_ix (r := rIxT K) ix_tup (pv 11) pe_int (fun _ _ => rfl)) pa_nil)))))))))))))))
    (pss_one (ps_ret pe_bl))))), fun ds d hg => ?_⟩
  · obtain ⟨ns, hlen, hns, rfl, rfl⟩ := hg
    rfl
  obtain ⟨ns, hlen, hns, rfl, rfl⟩ := hg
  intro σ H Dn r m
  have hce : ∀ k, Ce (ns.getD k 0) := fun k => by
    rw [List.getD_eq_getElem?_getD]
    cases hk : ns[k]? with
    | none => exact Ce.nat (n := 0) (k := 0) (by decide) (Nat.zero_le _)
    | some n => exact hns n (List.mem_of_getElem? hk)
  refine h_asgE r (ev_callE ⟨_, rfl, rfl⟩ (ea_cons (ev_call (d := .int (ns.getD 0 0)) ⟨ns, 0, rfl, rfl⟩ (ea_cons (ev_var rfl) (ea_cons (ev_nat (n := 0)) ea_nil))) ea_nil)) fun d v H1 hd e1 rv => ?_
  obtain ⟨E, F, z, rfl⟩ := hd
  have r1 := (r.mono e1).set 1 rv
  refine (ev_callE (p := isB E F) ⟨E, F, ns.getD 1 0, z, hce 1, rfl, rfl⟩ (ea_cons (ev_var rfl) (ea_cons (ev_call (d := .int (ns.getD 1 0)) ⟨ns, 1, rfl, rfl⟩ (ea_cons (ev_var rfl) (ea_cons (ev_nat (n := 1)) ea_nil))) ea_nil))) _ H1 r1 _ fun d u H2 hd e2 ru => ?_
  obtain ⟨x0, hx0, rfl⟩ := hd
  cases ru
  refine ⟨Nat.le_of_ble_eq_true rfl, fun l hl => ?_⟩
  have e12 := e1.trans e2
  have hlH : H l = none := by
    cases hq : H l with
    | none => rfl
    | some o =>
      rw [e12 _ _ hq] at hl
      cases hl
  have e3 := e12.trans (Ex.new (o := .lst [V.int ((bt E F x0.1 x0.2 : Nat) : Int)]) hl)
  have r3 := ((r1.mono e2).mono (Ex.new (o := .lst [V.int ((bt E F x0.1 x0.2 : Nat) : Int)]) hl)).set 2 (.raw (K := K) (.ref l))
  obtain ⟨v0, hv0, rv0⟩ := r3.2 0 _ rfl
  cases rv0 with
  | @lst p0 vs0 _ hq0 rl0 =>
  have hvs := rl0.ints
  subst hvs
  refine ⟨_, hv0, 2, rfl, p0, _, rfl, hq0, fun p hp => ?_⟩
  rw [cut_from2]
  have hpl : p ≠ l := fun q => by
    rw [q, upd_same] at hp
    cases hp
  refine ⟨p, rfl, ⟨_, SqL.of upd_same⟩, for_list (K := K) (a := p) (xs := (ns.map V.int).drop 2) (fun i σ' H' => ∃ xs : List (Nat × Nat), xs ≠ [] ∧ xs.length = i + 1 ∧ (∀ x ∈ xs, okB E F x) ∧ Ex H H' ∧ H' l = some (.lst (xs.map fun x => V.int ((bt E F x.1 x.2 : Nat) : Int))) ∧ H' p = some (.lst ((ns.map V.int).drop 2)) ∧
    EnvR K H' σ' [none, some (sz E F), some (.raw (.ref l)), none, none, none, none, none, none, none, none, none]) ⟨[x0], List.cons_ne_nil _ _, rfl, (fun x hx => by rw [List.mem_singleton.mp hx]; exact hx0), e3.trans (Ex.new hp), (by rw [upd_ne hpl.symm, upd_same]; rfl), upd_same, (r3.mono (Ex.new hp)).drop 0⟩ (fun i σ' H' _ q => by obtain ⟨_, _, _, _, _, _, q2, _⟩ := q; exact SqL.of q2) (fun i x σ' H' hx q => ?_) fun σ' H' q => ?_⟩
  · obtain ⟨xs, hne, hxl, hxs, e4, hrow, hscr, r4⟩ := q
    have hmem : x ∈ (ns.map V.int).drop 2 := List.mem_of_getElem? hx
    have hi : i < ((ns.map V.int).drop 2).length := (List.getElem?_eq_some_iff.mp hx).1
    rw [List.length_drop, List.length_map] at hi
    have hxlen : xs.length ≤ 63 := by omega
    obtain ⟨c, hc, rfl⟩ := List.mem_map.mp (List.mem_of_mem_drop hmem)
    have hcc := hns c hc
    have r5 : EnvR K H' (σ'.set 3 (some (V.int c))) [none, some (sz E F), some (.raw (.ref l)), some (.int c), none, none, none, none, none, none, none, none] := r4.set 3 (.int (K := K) (H := H') c)
    have stay : ∀ {H6 : Hp} {w : Nat × Nat} {σ6 : L2.St}, Ex H' H6 → okB E F w → EnvR K H6 σ6 [none, some (sz E F), some (.raw (.ref l)), none, none, none, none, none, none, none, none, none] →
        ∃ ys : List (Nat × Nat), ys ≠ [] ∧ ys.length = i + 1 + 1 ∧ (∀ x ∈ ys, okB E F x) ∧ Ex H (upd H6 l (.lst ((xs.map fun x => V.int ((bt E F x.1 x.2 : Nat) : Int)) ++ [V.int ((bt E F w.1 w.2 : Nat) : Int)]))) ∧
          (upd H6 l (.lst ((xs.map fun x => V.int ((bt E F x.1 x.2 : Nat) : Int)) ++ [V.int ((bt E F w.1 w.2 : Nat) : Int)]))) l = some (.lst (ys.map fun x => V.int ((bt E F x.1 x.2 : Nat) : Int))) ∧
          (upd H6 l (.lst ((xs.map fun x => V.int ((bt E F x.1 x.2 : Nat) : Int)) ++ [V.int ((bt E F w.1 w.2 : Nat) : Int)]))) p = some (.lst ((ns.map V.int).drop 2)) ∧
          EnvR K (upd H6 l (.lst ((xs.map fun x => V.int ((bt E F x.1 x.2 : Nat) : Int)) ++ [V.int ((bt E F w.1 w.2 : Nat) : Int)]))) σ6 [none, some (sz E F), some (.raw (.ref l)), none, none, none, none, none, none, none, none, none] := by
      intro H6 w σ6 e6 hw r6
      refine ⟨xs ++ [w], by simp, by simp; omega, fun x hx => ?_, Ex.mut (e4.trans e6) hlH, ?_, ?_, r6.updl (e6 _ _ hrow) rfl⟩
      · rcases List.mem_append.mp hx with q | q
        · exact hxs x q
        · rw [List.mem_singleton.mp q]
          exact hw
      · rw [upd_same, List.map_append]
        rfl
      · rw [upd_ne hpl]
        exact e6 _ _ hscr
    have vlen : (xs.map fun x => V.int ((bt E F x.1 x.2 : Nat) : Int)).length ≤ 1000 := by
      rw [List.length_map]
      omega
    have hrr := hcc.div 8
    show (tSeq _ _ : TS) _ (σ'.set 3 (some (V.int c))) H'
    refine h_asg r5 (e_md (m := 8) (by decide) (ev_var rfl) (ev_nat (n := 8))) fun v H6 e6 rv => ?_
    have r6 := (r5.mono e6).set 4 rv
    refine h_asg r6 (e_dv 8 (by decide) (by decide) (ev_var rfl)) fun v H7 e7 rv => ?_
    have r7 := (r6.mono e7).set 5 rv
    have f7 := e6.trans e7
    generalize c / ((8 : Nat) : Int) = rr at *
    generalize md c 8 = n at *
    replace r7 : EnvR K H7 _ [none, some (sz E F), some (.raw (.ref l)), some (.int c), some (nD n), some (.int rr), none, none, none, none, none, none] := r7
    refine h_when r7 (et_test (ev_op on_eq (ev_var rfl) (ev_nat (n := 7)))) (fun _ H8 e8 => ?_) (fun _ H8 e8 => ?_)
    · have f8 := f7.trans e8
      refine h_appE (r7.mono e8) (r7.at rfl) (f8 _ _ hrow) vlen (ev_callE (p := isB E F) ⟨E, F, rr, z, hrr, rfl, rfl⟩ (ea_cons (ev_var rfl) (ea_cons (ev_var rfl) ea_nil))) fun d v H9 hd e9 rv => ?_
      obtain ⟨w, hw, rfl⟩ := hd
      cases rv
      exact stay (f8.trans e9) hw (EnvR.keep3 (r7.mono (e8.trans e9)))
    have f8 := f7.trans e8
    have r8 : EnvR K H8 _ [none, some (sz E F), some (.raw (.ref l)), some (.int c), some (nD n), some (.int rr), none, none, none, none, none, none] := r7.mono e8
    have t8 : EnvR K H8 _ [none, some (sz E F), some (.lst (xs.map (btD E F))), some (.int c), some (nD n), some (.int rr), none, none, none, none, none, none] := r8.tell (r8.at (i := 2) rfl) (rep_row (f8 _ _ hrow))
    refine h_asgE t8 (ev_callE ⟨_, rfl, rfl⟩ (ea_cons (ev_op o_add (ev_var rfl) (ev_cb c_lenL (ea_cons (ev_var rfl) ea_nil))) ea_nil)) fun d v H9 hd e9 rv => ?_
    obtain ⟨wy, rfl⟩ := hd
    have f9 := f8.trans e9
    have r9 : EnvR K H9 _ [none, some (sz E F), some (.raw (.ref l)), some (.int c), some (nD n), some (.int rr), some (.str (wn wy)), none, none, none, none, none] := (r8.mono e9).set 6 rv
    have t9 : EnvR K H9 _ [none, some (sz E F), some (.lst (xs.map (btD E F))), some (.int c), some (nD n), some (.int rr), some (.str (wn wy)), none, none, none, none, none] := r9.tell (r9.at (i := 2) rfl) (rep_row (f9 _ _ hrow))
    have hlast : atI (xs.map (btD E F)) (-((1 : Nat) : Int)) = some (btD E F (xs.getLast hne)) := by
      have h1 := List.dropLast_concat_getLast hne
      have h2 : xs.map (btD E F) = xs.dropLast.map (btD E F) ++ [btD E F (xs.getLast hne)] := by
        rw [← List.map_singleton, ← List.map_append, h1]
      rw [h2]
      exact atI_last _ _
    refine h_asg t9 (ev_op (o_ixL hlast) (ev_var rfl) (ev_un u_neg (ev_nat (n := 1)))) fun v H10 e10 rv => ?_
    have f10 := f9.trans e10
    have r10 : EnvR K H10 _ [none, some (sz E F), some (.raw (.ref l)), some (.int c), some (nD n), some (.int rr), some (.str (wn wy)), some (btD E F (xs.getLast hne)), none, none, none, none] := (r9.mono e10).set 7 rv
    have t10 : EnvR K H10 _ [none, some (sz E F), some (.lst (xs.map (btD E F))), some (.int c), some (nD n), some (.int rr), some (.str (wn wy)), some (btD E F (xs.getLast hne)), none, none, none, none] := r10.tell (r10.at (i := 2) rfl) (rep_row (f10 _ _ hrow))
    have hl0 : 0 < (xs.map (btD E F)).length := by
      rw [List.length_map]
      omega
    refine h_ifE (i := 7) (p := isB E F) (d0 := btD E F (xs.getLast hne)) t10 rfl ⟨_, hxs _ (List.getLast_mem hne), rfl⟩ (et_test (ev_op on_eq (e_md (m := 3) (by decide) (e_dv 5 (by decide) (by decide) (ev_var rfl)) (ev_nat (n := 3))) (ev_nat (n := 0)))) (fun _ => ?_) fun σ11 H11 d e11 hd hst r11' => ?_
    · obtain ⟨w, hw, ha⟩ := at_map (f := btD E F) (vs := xs) (n := md (rr / ((15 : Nat) : Int)) (xs.map (btD E F)).length) (by rw [← List.length_map (btD E F)]; exact md_lt _ hl0)
      exact EvaE.of (ev_op (o_ixL ha) (ev_var rfl) (e_md hl0 (e_dv 15 (by decide) (by decide) (ev_var rfl)) (ev_cb c_lenL (ea_cons (ev_var rfl) ea_nil)))) ⟨w, hxs w hw, rfl⟩
    obtain ⟨xa, hxa, rfl⟩ := hd
    have f11 := f10.trans e11
    have r11 : EnvR K H11 _ [none, some (sz E F), some (.raw (.ref l)), some (.int c), some (nD n), some (.int rr), some (.str (wn wy)), some (btD E F xa), none, none, none, none] := r11'.tell (i := 2) ((hst 2 (by decide)).trans (r10.at rfl)) (.raw (V.ref l))
    have t11 : EnvR K H11 _ [none, some (sz E F), some (.lst (xs.map (btD E F))), some (.int c), some (nD n), some (.int rr), some (.str (wn wy)), some (btD E F xa), none, none, none, none] := r11.tell (r11.at (i := 2) rfl) (rep_row (f11 _ _ hrow))
    have hm1 := md_lt (rr * ((48271 : Nat) : Int)) (m := 2147483647) (by decide)
    have hm2 := md_lt (rr * ((69621 : Nat) : Int)) (m := 2147483629) (by decide)
    refine h_asgE t11 (ev_callE (p := isB E F) ⟨E, F, xs, xa, n, ((md (rr * ((48271 : Nat) : Int)) 2147483647 : Nat) : Int), z, hne, hxs, hxa, Ce.nat (k := 31) (Nat.lt_trans hm1 (by decide)) (by rw [CB_v]; decide), rfl, rfl⟩ (ea_cons (ev_var rfl) (ea_cons (ev_var rfl) (ea_cons (ev_var rfl) (ea_cons (ev_var rfl) (ea_cons (e_md (by decide) (ev_op (o_mul (c_mulc (m := 48271) (n := 16) hrr (by decide) (by decide))) (ev_var rfl) (ev_nat (n := 48271))) (ev_nat (n := 2147483647))) ea_nil)))))) fun d v H12 hd e12 rv => ?_
    obtain ⟨xb, hxb, rfl⟩ := hd
    have f12 := f11.trans e12
    have r12 : EnvR K H12 _ [none, some (sz E F), some (.raw (.ref l)), some (.int c), some (nD n), some (.int rr), some (.str (wn wy)), some (btD E F xa), some (btD E F xb), none, none, none] := (r11.mono e12).set 8 rv
    refine h_asgE r12 (ev_callE (p := isB E F) ⟨E, F, xa, xb, ((md (rr * ((69621 : Nat) : Int)) 2147483629 : Nat) : Int), z, hxa, hxb, Ce.nat (k := 31) (Nat.lt_trans hm2 (by decide)) (by rw [CB_v]; decide), rfl, rfl⟩ (ea_cons (ev_var rfl) (ea_cons (ev_var rfl) (ea_cons (ev_var rfl) (ea_cons (e_md (by decide) (ev_op (o_mul (c_mulc (m := 69621) (n := 17) hrr (by decide) (by decide))) (ev_var rfl) (ev_nat (n := 69621))) (ev_nat (n := 2147483629))) ea_nil))))) fun d v H13 hd e13 rv => ?_
    obtain ⟨xc, hxc, rfl⟩ := hd
    have f13 := f12.trans e13
    have r13 : EnvR K H13 _ [none, some (sz E F), some (.raw (.ref l)), some (.int c), some (nD n), some (.int rr), some (.str (wn wy)), some (btD E F xa), some (btD E F xb), some (btD E F xc), none, none] := (r12.mono e13).set 9 rv
    refine h_asgT r13 (ev_call (d := .tup [.bl true, prD (deedM E F wy n xa xb xc)]) ⟨E, F, wy, n, xa, xb, xc, z, hxa, hxb, hxc, rfl, rfl⟩ (ea_cons (ev_var rfl) (ea_cons (ev_var rfl) (ea_cons (ev_var rfl) (ea_cons (ev_var rfl) (ea_cons (ev_var rfl) (ea_cons (ev_var rfl) ea_nil))))))) (tg_tup (tgs_cons tg_name (tgs_cons tg_name tgs_nil))) fun σ14 H14 e14 r14 => ?_
    have f14 := f13.trans e14
    replace r14 : EnvR K H14 _ [none, some (sz E F), some (.raw (.ref l)), some (.int c), some (nD n), some (.int rr), some (.str (wn wy)), some (btD E F xa), some (btD E F xb), some (btD E F xc), some (.bl true), some (prD (deedM E F wy n xa xb xc))] := r14
    refine h_when (x := false) r14 (EvT.is (et_not (et_B (ev_var (d := .bl true) rfl))) rfl) (fun hb => by cases hb) (fun _ H15 e15 => ?_)
    have f15 := f14.trans e15
    obtain ⟨w, hw, ew⟩ := is_b (deed_lt z wy n hxa hxb hxc)
    refine h_app (r14.mono e15) (r14.at rfl) (f15 _ _ hrow) vlen (Eva.is (d' := btD E F w) (ev_op (o_ixT rfl) (ev_var rfl) (ev_nat (n := 0))) ew) fun v H16 e16 rv => ?_
    cases rv
    exact stay (f15.trans e16) hw (EnvR.keep3 (r14.mono (e15.trans e16)))
  · obtain ⟨xs, hne, hxl, hxs, e4, hrow, hscr, r4⟩ := q
    exact h_sx (tz := tRet (tC (.bl true))) (P := { nx := fun _ => D.bl true = .non, rt := fun d' => d' = .bl true }) r4 (s_ret ev_bl rfl) (m.mono e4)
end
end RM
set_option Elab.async false
set_option linter.all false
set_option maxRecDepth 100000
set_option maxHeartbeats 0
namespace RM
open PySem PySem.Spec PyProof.Rows L2
theorem mk_cal {P : Program} {w : World} {K : PySem.W.Frag} {mg : Str → Option Value} {base : Heap} {x qual : Str} {st : Stmt} {ps : List Str} {k : Nat} {sp : Sp} {f : Addr} {fd : FuncData} (F : FnP K x qual st f fd) (ok : FnOk P w K mg base CX0 k f fd ps sp) (hm : mg x = some (.ref f)) (b : Binds K fd ps []) : Cal P w K mg base k x sp := ⟨⟨f, fd, ps, ok, hm, F.kp, b⟩⟩
theorem facts {P : Program} {w : World} {K : PySem.W.Frag} {h : Heap} {mg : Str → Option Value} {f : Addr} (X : K.In h) (G : h.Ns mainGlobals mg) (hfa : mg ("law" : Str) = some (.ref f)) (c : SaysM K) :
    ∃ fd : FuncData, (∀ (s : Shared) (v : Value), BindsTo s fd ⟨[v], []⟩ [("_law_script", v)]) ∧ ∀ base : Heap, K.In base → base.Ns mainGlobals mg → FnOk P w K mg base CX0 11 f fd ["_law_script"] (spD K gLaw) := by
  have cD : He.SaysD faL fnL K := congrArg Prod.fst c
  have cO : ownB K = true := congrArg Prod.snd c
  unfold ownB at cO
  rw [Bool.and_eq_true, Bool.and_eq_true, List.all_eq_true] at cO
  obtain ⟨cM, cG, cB⟩ := cO
  have eG := of_decide_eq_true cG
  have eB := of_decide_eq_true cB
  obtain ⟨fd_width, F_width⟩ := cD.def_ 0 (d := dfn "width" s_width) rfl
  replace F_width : FnP K "width" "width" s_width (He.ga K "width") fd_width := F_width
  have g_width : mg "width" = some (.ref (He.ga K "width")) := He.glo_ok X G (cD.fact 0 (f := .glo "width") rfl)
  obtain ⟨fd_bias, F_bias⟩ := cD.def_ 1 (d := dfn "bias" s_bias) rfl
  replace F_bias : FnP K "bias" "bias" s_bias (He.ga K "bias") fd_bias := F_bias
  have g_bias : mg "bias" = some (.ref (He.ga K "bias")) := He.glo_ok X G (cD.fact 1 (f := .glo "bias") rfl)
  obtain ⟨fd_low, F_low⟩ := cD.def_ 2 (d := dfn "low" s_low) rfl
  replace F_low : FnP K "low" "low" s_low (He.ga K "low") fd_low := F_low
  have g_low : mg "low" = some (.ref (He.ga K "low")) := He.glo_ok X G (cD.fact 2 (f := .glo "low") rfl)
  obtain ⟨fd_sign_bit, F_sign_bit⟩ := cD.def_ 3 (d := dfn "sign_bit" s_sign_bit) rfl
  replace F_sign_bit : FnP K "sign_bit" "sign_bit" s_sign_bit (He.ga K "sign_bit") fd_sign_bit := F_sign_bit
  have g_sign_bit : mg "sign_bit" = some (.ref (He.ga K "sign_bit")) := He.glo_ok X G (cD.fact 3 (f := .glo "sign_bit") rfl)
  obtain ⟨fd_endless, F_endless⟩ := cD.def_ 4 (d := dfn "endless" s_endless) rfl
  replace F_endless : FnP K "endless" "endless" s_endless (He.ga K "endless") fd_endless := F_endless
  have g_endless : mg "endless" = some (.ref (He.ga K "endless")) := He.glo_ok X G (cD.fact 4 (f := .glo "endless") rfl)
  obtain ⟨fd_no_number, F_no_number⟩ := cD.def_ 5 (d := dfn "no_number" s_no_number) rfl
  replace F_no_number : FnP K "no_number" "no_number" s_no_number (He.ga K "no_number") fd_no_number := F_no_number
  have g_no_number : mg "no_number" = some (.ref (He.ga K "no_number")) := He.glo_ok X G (cD.fact 5 (f := .glo "no_number") rfl)
  obtain ⟨fd_asked_fraction, F_asked_fraction⟩ := cD.def_ 6 (d := dfn "asked_fraction" s_asked_fraction) rfl
  replace F_asked_fraction : FnP K "asked_fraction" "asked_fraction" s_asked_fraction (He.ga K "asked_fraction") fd_asked_fraction := F_asked_fraction
  have g_asked_fraction : mg "asked_fraction" = some (.ref (He.ga K "asked_fraction")) := He.glo_ok X G (cD.fact 6 (f := .glo "asked_fraction") rfl)
  obtain ⟨fd_ahead, F_ahead⟩ := cD.def_ 7 (d := dfn "ahead" s_ahead) rfl
  replace F_ahead : FnP K "ahead" "ahead" s_ahead (He.ga K "ahead") fd_ahead := F_ahead
  have g_ahead : mg "ahead" = some (.ref (He.ga K "ahead")) := He.glo_ok X G (cD.fact 7 (f := .glo "ahead") rfl)
  obtain ⟨fd_scaled, F_scaled⟩ := cD.def_ 8 (d := dfn "scaled" s_scaled) rfl
  replace F_scaled : FnP K "scaled" "scaled" s_scaled (He.ga K "scaled") fd_scaled := F_scaled
  have g_scaled : mg "scaled" = some (.ref (He.ga K "scaled")) := He.glo_ok X G (cD.fact 8 (f := .glo "scaled") rfl)
  obtain ⟨fd_rest_of, F_rest_of⟩ := cD.def_ 9 (d := dfn "rest_of" s_rest_of) rfl
  replace F_rest_of : FnP K "rest_of" "rest_of" s_rest_of (He.ga K "rest_of") fd_rest_of := F_rest_of
  have g_rest_of : mg "rest_of" = some (.ref (He.ga K "rest_of")) := He.glo_ok X G (cD.fact 9 (f := .glo "rest_of") rfl)
  obtain ⟨fd_cut, F_cut⟩ := cD.def_ 10 (d := dfn "cut" s_cut) rfl
  replace F_cut : FnP K "cut" "cut" s_cut (He.ga K "cut") fd_cut := F_cut
  have g_cut : mg "cut" = some (.ref (He.ga K "cut")) := He.glo_ok X G (cD.fact 10 (f := .glo "cut") rfl)
  obtain ⟨fd_whole_root, F_whole_root⟩ := cD.def_ 11 (d := dfn "whole_root" s_whole_root) rfl
  replace F_whole_root : FnP K "whole_root" "whole_root" s_whole_root (He.ga K "whole_root") fd_whole_root := F_whole_root
  have g_whole_root : mg "whole_root" = some (.ref (He.ga K "whole_root")) := He.glo_ok X G (cD.fact 11 (f := .glo "whole_root") rfl)
  obtain ⟨fd_root_cut, F_root_cut⟩ := cD.def_ 12 (d := dfn "root_cut" s_root_cut) rfl
  replace F_root_cut : FnP K "root_cut" "root_cut" s_root_cut (He.ga K "root_cut") fd_root_cut := F_root_cut
  have g_root_cut : mg "root_cut" = some (.ref (He.ga K "root_cut")) := He.glo_ok X G (cD.fact 12 (f := .glo "root_cut") rfl)
  obtain ⟨fd_parted, F_parted⟩ := cD.def_ 13 (d := dfn "parted" s_parted) rfl
  replace F_parted : FnP K "parted" "parted" s_parted (He.ga K "parted") fd_parted := F_parted
  have g_parted : mg "parted" = some (.ref (He.ga K "parted")) := He.glo_ok X G (cD.fact 13 (f := .glo "parted") rfl)
  obtain ⟨fd_kind, F_kind⟩ := cD.def_ 14 (d := dfn "kind" s_kind) rfl
  replace F_kind : FnP K "kind" "kind" s_kind (He.ga K "kind") fd_kind := F_kind
  have g_kind : mg "kind" = some (.ref (He.ga K "kind")) := He.glo_ok X G (cD.fact 14 (f := .glo "kind") rfl)
  obtain ⟨fd_worth, F_worth⟩ := cD.def_ 15 (d := dfn "worth" s_worth) rfl
  replace F_worth : FnP K "worth" "worth" s_worth (He.ga K "worth") fd_worth := F_worth
  have g_worth : mg "worth" = some (.ref (He.ga K "worth")) := He.glo_ok X G (cD.fact 15 (f := .glo "worth") rfl)
  obtain ⟨fd_fraction, F_fraction⟩ := cD.def_ 16 (d := dfn "fraction" s_fraction) rfl
  replace F_fraction : FnP K "fraction" "fraction" s_fraction (He.ga K "fraction") fd_fraction := F_fraction
  have g_fraction : mg "fraction" = some (.ref (He.ga K "fraction")) := He.glo_ok X G (cD.fact 16 (f := .glo "fraction") rfl)
  obtain ⟨fd_negated, F_negated⟩ := cD.def_ 17 (d := dfn "negated" s_negated) rfl
  replace F_negated : FnP K "negated" "negated" s_negated (He.ga K "negated") fd_negated := F_negated
  have g_negated : mg "negated" = some (.ref (He.ga K "negated")) := He.glo_ok X G (cD.fact 17 (f := .glo "negated") rfl)
  obtain ⟨fd_Way_grows, F_Way_grows⟩ := cD.def_ 18 (d := dmt "Way" "grows" "Way.grows" s_Way_grows) rfl
  replace F_Way_grows : FnP K "grows" "Way.grows" s_Way_grows (He.ma K (He.ga K "Way") "grows") fd_Way_grows := F_Way_grows
  obtain ⟨fd_Way_bursts, F_Way_bursts⟩ := cD.def_ 19 (d := dmt "Way" "bursts" "Way.bursts" s_Way_bursts) rfl
  replace F_Way_bursts : FnP K "bursts" "Way.bursts" s_Way_bursts (He.ma K (He.ga K "Way") "bursts") fd_Way_bursts := F_Way_bursts
  obtain ⟨fd_Nearest_grows, F_Nearest_grows⟩ := cD.def_ 20 (d := dmt "Nearest" "grows" "Nearest.grows" s_Nearest_grows) rfl
  replace F_Nearest_grows : FnP K "grows" "Nearest.grows" s_Nearest_grows (He.ma K (He.ga K "Nearest") "grows") fd_Nearest_grows := F_Nearest_grows
  obtain ⟨fd_Nearest_grows_midway, F_Nearest_grows_midway⟩ := cD.def_ 21 (d := dmt "Nearest" "grows_midway" "Nearest.grows_midway" s_Nearest_grows_midway) rfl
  replace F_Nearest_grows_midway : FnP K "grows_midway" "Nearest.grows_midway" s_Nearest_grows_midway (He.ma K (He.ga K "Nearest") "grows_midway") fd_Nearest_grows_midway := F_Nearest_grows_midway
  obtain ⟨fd_Nearest_bursts, F_Nearest_bursts⟩ := cD.def_ 22 (d := dmt "Nearest" "bursts" "Nearest.bursts" s_Nearest_bursts) rfl
  replace F_Nearest_bursts : FnP K "bursts" "Nearest.bursts" s_Nearest_bursts (He.ma K (He.ga K "Nearest") "bursts") fd_Nearest_bursts := F_Nearest_bursts
  obtain ⟨fd_NearestAway_grows_midway, F_NearestAway_grows_midway⟩ := cD.def_ 23 (d := dmt "NearestAway" "grows_midway" "NearestAway.grows_midway" s_NearestAway_grows_midway) rfl
  replace F_NearestAway_grows_midway : FnP K "grows_midway" "NearestAway.grows_midway" s_NearestAway_grows_midway (He.ma K (He.ga K "NearestAway") "grows_midway") fd_NearestAway_grows_midway := F_NearestAway_grows_midway
  obtain ⟨fd_Outward_init, F_Outward_init⟩ := cD.def_ 24 (d := dmt "Outward" "__init__" "Outward.__init__" s_Outward_init) rfl
  replace F_Outward_init : FnP K "__init__" "Outward.__init__" s_Outward_init (He.ma K (He.ga K "Outward") "__init__") fd_Outward_init := F_Outward_init
  obtain ⟨fd_Outward_grows, F_Outward_grows⟩ := cD.def_ 25 (d := dmt "Outward" "grows" "Outward.grows" s_Outward_grows) rfl
  replace F_Outward_grows : FnP K "grows" "Outward.grows" s_Outward_grows (He.ma K (He.ga K "Outward") "grows") fd_Outward_grows := F_Outward_grows
  obtain ⟨fd_Outward_bursts, F_Outward_bursts⟩ := cD.def_ 26 (d := dmt "Outward" "bursts" "Outward.bursts" s_Outward_bursts) rfl
  replace F_Outward_bursts : FnP K "bursts" "Outward.bursts" s_Outward_bursts (He.ma K (He.ga K "Outward") "bursts") fd_Outward_bursts := F_Outward_bursts
  obtain ⟨fd_way_of, F_way_of⟩ := cD.def_ 27 (d := dfn "way_of" s_way_of) rfl
  replace F_way_of : FnP K "way_of" "way_of" s_way_of (He.ga K "way_of") fd_way_of := F_way_of
  have g_way_of : mg "way_of" = some (.ref (He.ga K "way_of")) := He.glo_ok X G (cD.fact 18 (f := .glo "way_of") rfl)
  obtain ⟨fd_settled, F_settled⟩ := cD.def_ 28 (d := dfn "settled" s_settled) rfl
  replace F_settled : FnP K "settled" "settled" s_settled (He.ga K "settled") fd_settled := F_settled
  have g_settled : mg "settled" = some (.ref (He.ga K "settled")) := He.glo_ok X G (cD.fact 19 (f := .glo "settled") rfl)
  obtain ⟨fd_rounded, F_rounded⟩ := cD.def_ 29 (d := dfn "rounded" s_rounded) rfl
  replace F_rounded : FnP K "rounded" "rounded" s_rounded (He.ga K "rounded") fd_rounded := F_rounded
  have g_rounded : mg "rounded" = some (.ref (He.ga K "rounded")) := He.glo_ok X G (cD.fact 20 (f := .glo "rounded") rfl)
  obtain ⟨fd_total, F_total⟩ := cD.def_ 30 (d := dfn "total" s_total) rfl
  replace F_total : FnP K "total" "total" s_total (He.ga K "total") fd_total := F_total
  have g_total : mg "total" = some (.ref (He.ga K "total")) := He.glo_ok X G (cD.fact 21 (f := .glo "total") rfl)
  obtain ⟨fd_nought_sign, F_nought_sign⟩ := cD.def_ 31 (d := dfn "nought_sign" s_nought_sign) rfl
  replace F_nought_sign : FnP K "nought_sign" "nought_sign" s_nought_sign (He.ga K "nought_sign") fd_nought_sign := F_nought_sign
  have g_nought_sign : mg "nought_sign" = some (.ref (He.ga K "nought_sign")) := He.glo_ok X G (cD.fact 22 (f := .glo "nought_sign") rfl)
  obtain ⟨fd_settled_total, F_settled_total⟩ := cD.def_ 32 (d := dfn "settled_total" s_settled_total) rfl
  replace F_settled_total : FnP K "settled_total" "settled_total" s_settled_total (He.ga K "settled_total") fd_settled_total := F_settled_total
  have g_settled_total : mg "settled_total" = some (.ref (He.ga K "settled_total")) := He.glo_ok X G (cD.fact 23 (f := .glo "settled_total") rfl)
  obtain ⟨fd_kinds_of, F_kinds_of⟩ := cD.def_ 33 (d := dfn "kinds_of" s_kinds_of) rfl
  replace F_kinds_of : FnP K "kinds_of" "kinds_of" s_kinds_of (He.ga K "kinds_of") fd_kinds_of := F_kinds_of
  have g_kinds_of : mg "kinds_of" = some (.ref (He.ga K "kinds_of")) := He.glo_ok X G (cD.fact 24 (f := .glo "kinds_of") rfl)
  obtain ⟨fd_gone_wrong, F_gone_wrong⟩ := cD.def_ 34 (d := dfn "gone_wrong" s_gone_wrong) rfl
  replace F_gone_wrong : FnP K "gone_wrong" "gone_wrong" s_gone_wrong (He.ga K "gone_wrong") fd_gone_wrong := F_gone_wrong
  have g_gone_wrong : mg "gone_wrong" = some (.ref (He.ga K "gone_wrong")) := He.glo_ok X G (cD.fact 25 (f := .glo "gone_wrong") rfl)
  obtain ⟨fd_endless_with, F_endless_with⟩ := cD.def_ 35 (d := dfn "endless_with" s_endless_with) rfl
  replace F_endless_with : FnP K "endless_with" "endless_with" s_endless_with (He.ga K "endless_with") fd_endless_with := F_endless_with
  have g_endless_with : mg "endless_with" = some (.ref (He.ga K "endless_with")) := He.glo_ok X G (cD.fact 26 (f := .glo "endless_with") rfl)
  obtain ⟨fd_term_of, F_term_of⟩ := cD.def_ 36 (d := dfn "term_of" s_term_of) rfl
  replace F_term_of : FnP K "term_of" "term_of" s_term_of (He.ga K "term_of") fd_term_of := F_term_of
  have g_term_of : mg "term_of" = some (.ref (He.ga K "term_of")) := He.glo_ok X G (cD.fact 27 (f := .glo "term_of") rfl)
  obtain ⟨fd_product_term, F_product_term⟩ := cD.def_ 37 (d := dfn "product_term" s_product_term) rfl
  replace F_product_term : FnP K "product_term" "product_term" s_product_term (He.ga K "product_term") fd_product_term := F_product_term
  have g_product_term : mg "product_term" = some (.ref (He.ga K "product_term")) := He.glo_ok X G (cD.fact 28 (f := .glo "product_term") rfl)
  obtain ⟨fd_sum_of_terms, F_sum_of_terms⟩ := cD.def_ 38 (d := dfn "sum_of_terms" s_sum_of_terms) rfl
  replace F_sum_of_terms : FnP K "sum_of_terms" "sum_of_terms" s_sum_of_terms (He.ga K "sum_of_terms") fd_sum_of_terms := F_sum_of_terms
  have g_sum_of_terms : mg "sum_of_terms" = some (.ref (He.ga K "sum_of_terms")) := He.glo_ok X G (cD.fact 29 (f := .glo "sum_of_terms") rfl)
  obtain ⟨fd_added, F_added⟩ := cD.def_ 39 (d := dfn "added" s_added) rfl
  replace F_added : FnP K "added" "added" s_added (He.ga K "added") fd_added := F_added
  have g_added : mg "added" = some (.ref (He.ga K "added")) := He.glo_ok X G (cD.fact 30 (f := .glo "added") rfl)
  obtain ⟨fd_taken, F_taken⟩ := cD.def_ 40 (d := dfn "taken" s_taken) rfl
  replace F_taken : FnP K "taken" "taken" s_taken (He.ga K "taken") fd_taken := F_taken
  have g_taken : mg "taken" = some (.ref (He.ga K "taken")) := He.glo_ok X G (cD.fact 31 (f := .glo "taken") rfl)
  obtain ⟨fd_multiplied, F_multiplied⟩ := cD.def_ 41 (d := dfn "multiplied" s_multiplied) rfl
  replace F_multiplied : FnP K "multiplied" "multiplied" s_multiplied (He.ga K "multiplied") fd_multiplied := F_multiplied
  have g_multiplied : mg "multiplied" = some (.ref (He.ga K "multiplied")) := He.glo_ok X G (cD.fact 32 (f := .glo "multiplied") rfl)
  obtain ⟨fd_fused, F_fused⟩ := cD.def_ 42 (d := dfn "fused" s_fused) rfl
  replace F_fused : FnP K "fused" "fused" s_fused (He.ga K "fused") fd_fused := F_fused
  have g_fused : mg "fused" = some (.ref (He.ga K "fused")) := He.glo_ok X G (cD.fact 33 (f := .glo "fused") rfl)
  obtain ⟨fd_divided, F_divided⟩ := cD.def_ 43 (d := dfn "divided" s_divided) rfl
  replace F_divided : FnP K "divided" "divided" s_divided (He.ga K "divided") fd_divided := F_divided
  have g_divided : mg "divided" = some (.ref (He.ga K "divided")) := He.glo_ok X G (cD.fact 34 (f := .glo "divided") rfl)
  obtain ⟨fd_rooted, F_rooted⟩ := cD.def_ 44 (d := dfn "rooted" s_rooted) rfl
  replace F_rooted : FnP K "rooted" "rooted" s_rooted (He.ga K "rooted") fd_rooted := F_rooted
  have g_rooted : mg "rooted" = some (.ref (He.ga K "rooted")) := He.glo_ok X G (cD.fact 35 (f := .glo "rooted") rfl)
  obtain ⟨fd_whole_of, F_whole_of⟩ := cD.def_ 45 (d := dfn "whole_of" s_whole_of) rfl
  replace F_whole_of : FnP K "whole_of" "whole_of" s_whole_of (He.ga K "whole_of") fd_whole_of := F_whole_of
  have g_whole_of : mg "whole_of" = some (.ref (He.ga K "whole_of")) := He.glo_ok X G (cD.fact 36 (f := .glo "whole_of") rfl)
  obtain ⟨fd_wholed, F_wholed⟩ := cD.def_ 46 (d := dfn "wholed" s_wholed) rfl
  replace F_wholed : FnP K "wholed" "wholed" s_wholed (He.ga K "wholed") fd_wholed := F_wholed
  have g_wholed : mg "wholed" = some (.ref (He.ga K "wholed")) := He.glo_ok X G (cD.fact 37 (f := .glo "wholed") rfl)
  obtain ⟨fd_l_cell_at, F_l_cell_at⟩ := cD.def_ 47 (d := dfn "_law_cell_at" s_l_cell_at) rfl
  replace F_l_cell_at : FnP K "_law_cell_at" "_law_cell_at" s_l_cell_at (He.ga K "_law_cell_at") fd_l_cell_at := F_l_cell_at
  have g_l_cell_at : mg "_law_cell_at" = some (.ref (He.ga K "_law_cell_at")) := He.glo_ok X G (cD.fact 38 (f := .glo "_law_cell_at") rfl)
  obtain ⟨fd_l_whole, F_l_whole⟩ := cD.def_ 48 (d := dfn "_law_whole" s_l_whole) rfl
  replace F_l_whole : FnP K "_law_whole" "_law_whole" s_l_whole (He.ga K "_law_whole") fd_l_whole := F_l_whole
  have g_l_whole : mg "_law_whole" = some (.ref (He.ga K "_law_whole")) := He.glo_ok X G (cD.fact 39 (f := .glo "_law_whole") rfl)
  obtain ⟨fd_l_size_by, F_l_size_by⟩ := cD.def_ 49 (d := dfn "_law_size_by" s_l_size_by) rfl
  replace F_l_size_by : FnP K "_law_size_by" "_law_size_by" s_l_size_by (He.ga K "_law_size_by") fd_l_size_by := F_l_size_by
  have g_l_size_by : mg "_law_size_by" = some (.ref (He.ga K "_law_size_by")) := He.glo_ok X G (cD.fact 40 (f := .glo "_law_size_by") rfl)
  obtain ⟨fd_l_way_by, F_l_way_by⟩ := cD.def_ 50 (d := dfn "_law_way_by" s_l_way_by) rfl
  replace F_l_way_by : FnP K "_law_way_by" "_law_way_by" s_l_way_by (He.ga K "_law_way_by") fd_l_way_by := F_l_way_by
  have g_l_way_by : mg "_law_way_by" = some (.ref (He.ga K "_law_way_by")) := He.glo_ok X G (cD.fact 41 (f := .glo "_law_way_by") rfl)
  obtain ⟨fd_l_mixed, F_l_mixed⟩ := cD.def_ 51 (d := dfn "_law_mixed" s_l_mixed) rfl
  replace F_l_mixed : FnP K "_law_mixed" "_law_mixed" s_l_mixed (He.ga K "_law_mixed") fd_l_mixed := F_l_mixed
  have g_l_mixed : mg "_law_mixed" = some (.ref (He.ga K "_law_mixed")) := He.glo_ok X G (cD.fact 42 (f := .glo "_law_mixed") rfl)
  obtain ⟨fd_l_bits_by, F_l_bits_by⟩ := cD.def_ 52 (d := dfn "_law_bits_by" s_l_bits_by) rfl
  replace F_l_bits_by : FnP K "_law_bits_by" "_law_bits_by" s_l_bits_by (He.ga K "_law_bits_by") fd_l_bits_by := F_l_bits_by
  have g_l_bits_by : mg "_law_bits_by" = some (.ref (He.ga K "_law_bits_by")) := He.glo_ok X G (cD.fact 43 (f := .glo "_law_bits_by") rfl)
  obtain ⟨fd_l_odd_by, F_l_odd_by⟩ := cD.def_ 53 (d := dfn "_law_odd_by" s_l_odd_by) rfl
  replace F_l_odd_by : FnP K "_law_odd_by" "_law_odd_by" s_l_odd_by (He.ga K "_law_odd_by") fd_l_odd_by := F_l_odd_by
  have g_l_odd_by : mg "_law_odd_by" = some (.ref (He.ga K "_law_odd_by")) := He.glo_ok X G (cD.fact 44 (f := .glo "_law_odd_by") rfl)
  obtain ⟨fd_l_mate_by, F_l_mate_by⟩ := cD.def_ 54 (d := dfn "_law_mate_by" s_l_mate_by) rfl
  replace F_l_mate_by : FnP K "_law_mate_by" "_law_mate_by" s_l_mate_by (He.ga K "_law_mate_by") fd_l_mate_by := F_l_mate_by
  have g_l_mate_by : mg "_law_mate_by" = some (.ref (He.ga K "_law_mate_by")) := He.glo_ok X G (cD.fact 45 (f := .glo "_law_mate_by") rfl)
  obtain ⟨fd_l_third_by, F_l_third_by⟩ := cD.def_ 55 (d := dfn "_law_third_by" s_l_third_by) rfl
  replace F_l_third_by : FnP K "_law_third_by" "_law_third_by" s_l_third_by (He.ga K "_law_third_by") fd_l_third_by := F_l_third_by
  have g_l_third_by : mg "_law_third_by" = some (.ref (He.ga K "_law_third_by")) := He.glo_ok X G (cD.fact 46 (f := .glo "_law_third_by") rfl)
  obtain ⟨fd_l_two, F_l_two⟩ := cD.def_ 56 (d := dfn "_law_two" s_l_two) rfl
  replace F_l_two : FnP K "_law_two" "_law_two" s_l_two (He.ga K "_law_two") fd_l_two := F_l_two
  have g_l_two : mg "_law_two" = some (.ref (He.ga K "_law_two")) := He.glo_ok X G (cD.fact 47 (f := .glo "_law_two") rfl)
  obtain ⟨fd_l_value, F_l_value⟩ := cD.def_ 57 (d := dfn "_law_value" s_l_value) rfl
  replace F_l_value : FnP K "_law_value" "_law_value" s_l_value (He.ga K "_law_value") fd_l_value := F_l_value
  have g_l_value : mg "_law_value" = some (.ref (He.ga K "_law_value")) := He.glo_ok X G (cD.fact 48 (f := .glo "_law_value") rfl)
  obtain ⟨fd_l_near, F_l_near⟩ := cD.def_ 58 (d := dfn "_law_near" s_l_near) rfl
  replace F_l_near : FnP K "_law_near" "_law_near" s_l_near (He.ga K "_law_near") fd_l_near := F_l_near
  have g_l_near : mg "_law_near" = some (.ref (He.ga K "_law_near")) := He.glo_ok X G (cD.fact 49 (f := .glo "_law_near") rfl)
  obtain ⟨fd_l_far, F_l_far⟩ := cD.def_ 59 (d := dfn "_law_far" s_l_far) rfl
  replace F_l_far : FnP K "_law_far" "_law_far" s_l_far (He.ga K "_law_far") fd_l_far := F_l_far
  have g_l_far : mg "_law_far" = some (.ref (He.ga K "_law_far")) := He.glo_ok X G (cD.fact 50 (f := .glo "_law_far") rfl)
  obtain ⟨fd_l_fair, F_l_fair⟩ := cD.def_ 60 (d := dfn "_law_fair" s_l_fair) rfl
  replace F_l_fair : FnP K "_law_fair" "_law_fair" s_l_fair (He.ga K "_law_fair") fd_l_fair := F_l_fair
  have g_l_fair : mg "_law_fair" = some (.ref (He.ga K "_law_fair")) := He.glo_ok X G (cD.fact 51 (f := .glo "_law_fair") rfl)
  obtain ⟨fd_l_is, F_l_is⟩ := cD.def_ 61 (d := dfn "_law_is" s_l_is) rfl
  replace F_l_is : FnP K "_law_is" "_law_is" s_l_is (He.ga K "_law_is") fd_l_is := F_l_is
  have g_l_is : mg "_law_is" = some (.ref (He.ga K "_law_is")) := He.glo_ok X G (cD.fact 52 (f := .glo "_law_is") rfl)
  obtain ⟨fd_l_root_fair, F_l_root_fair⟩ := cD.def_ 62 (d := dfn "_law_root_fair" s_l_root_fair) rfl
  replace F_l_root_fair : FnP K "_law_root_fair" "_law_root_fair" s_l_root_fair (He.ga K "_law_root_fair") fd_l_root_fair := F_l_root_fair
  have g_l_root_fair : mg "_law_root_fair" = some (.ref (He.ga K "_law_root_fair")) := He.glo_ok X G (cD.fact 53 (f := .glo "_law_root_fair") rfl)
  obtain ⟨fd_l_fair_whole, F_l_fair_whole⟩ := cD.def_ 63 (d := dfn "_law_fair_whole" s_l_fair_whole) rfl
  replace F_l_fair_whole : FnP K "_law_fair_whole" "_law_fair_whole" s_l_fair_whole (He.ga K "_law_fair_whole") fd_l_fair_whole := F_l_fair_whole
  have g_l_fair_whole : mg "_law_fair_whole" = some (.ref (He.ga K "_law_fair_whole")) := He.glo_ok X G (cD.fact 54 (f := .glo "_law_fair_whole") rfl)
  obtain ⟨fd_l_wholed_fair, F_l_wholed_fair⟩ := cD.def_ 64 (d := dfn "_law_wholed_fair" s_l_wholed_fair) rfl
  replace F_l_wholed_fair : FnP K "_law_wholed_fair" "_law_wholed_fair" s_l_wholed_fair (He.ga K "_law_wholed_fair") fd_l_wholed_fair := F_l_wholed_fair
  have g_l_wholed_fair : mg "_law_wholed_fair" = some (.ref (He.ga K "_law_wholed_fair")) := He.glo_ok X G (cD.fact 55 (f := .glo "_law_wholed_fair") rfl)
  obtain ⟨fd_l_term, F_l_term⟩ := cD.def_ 65 (d := dfn "_law_term" s_l_term) rfl
  replace F_l_term : FnP K "_law_term" "_law_term" s_l_term (He.ga K "_law_term") fd_l_term := F_l_term
  have g_l_term : mg "_law_term" = some (.ref (He.ga K "_law_term")) := He.glo_ok X G (cD.fact 56 (f := .glo "_law_term") rfl)
  obtain ⟨fd_l_product, F_l_product⟩ := cD.def_ 66 (d := dfn "_law_product" s_l_product) rfl
  replace F_l_product : FnP K "_law_product" "_law_product" s_l_product (He.ga K "_law_product") fd_l_product := F_l_product
  have g_l_product : mg "_law_product" = some (.ref (He.ga K "_law_product")) := He.glo_ok X G (cD.fact 57 (f := .glo "_law_product") rfl)
  obtain ⟨fd_l_sum_good, F_l_sum_good⟩ := cD.def_ 67 (d := dfn "_law_sum_good" s_l_sum_good) rfl
  replace F_l_sum_good : FnP K "_law_sum_good" "_law_sum_good" s_l_sum_good (He.ga K "_law_sum_good") fd_l_sum_good := F_l_sum_good
  have g_l_sum_good : mg "_law_sum_good" = some (.ref (He.ga K "_law_sum_good")) := He.glo_ok X G (cD.fact 58 (f := .glo "_law_sum_good") rfl)
  obtain ⟨fd_l_quotient_good, F_l_quotient_good⟩ := cD.def_ 68 (d := dfn "_law_quotient_good" s_l_quotient_good) rfl
  replace F_l_quotient_good : FnP K "_law_quotient_good" "_law_quotient_good" s_l_quotient_good (He.ga K "_law_quotient_good") fd_l_quotient_good := F_l_quotient_good
  have g_l_quotient_good : mg "_law_quotient_good" = some (.ref (He.ga K "_law_quotient_good")) := He.glo_ok X G (cD.fact 59 (f := .glo "_law_quotient_good") rfl)
  obtain ⟨fd_l_root_good, F_l_root_good⟩ := cD.def_ 69 (d := dfn "_law_root_good" s_l_root_good) rfl
  replace F_l_root_good : FnP K "_law_root_good" "_law_root_good" s_l_root_good (He.ga K "_law_root_good") fd_l_root_good := F_l_root_good
  have g_l_root_good : mg "_law_root_good" = some (.ref (He.ga K "_law_root_good")) := He.glo_ok X G (cD.fact 60 (f := .glo "_law_root_good") rfl)
  obtain ⟨fd_l_partner, F_l_partner⟩ := cD.def_ 70 (d := dfn "_law_partner" s_l_partner) rfl
  replace F_l_partner : FnP K "_law_partner" "_law_partner" s_l_partner (He.ga K "_law_partner") fd_l_partner := F_l_partner
  have g_l_partner : mg "_law_partner" = some (.ref (He.ga K "_law_partner")) := He.glo_ok X G (cD.fact 61 (f := .glo "_law_partner") rfl)
  obtain ⟨fd_l_deed, F_l_deed⟩ := cD.def_ 71 (d := dfn "_law_deed" s_l_deed) rfl
  replace F_l_deed : FnP K "_law_deed" "_law_deed" s_l_deed (He.ga K "_law_deed") fd_l_deed := F_l_deed
  have g_l_deed : mg "_law_deed" = some (.ref (He.ga K "_law_deed")) := He.glo_ok X G (cD.fact 62 (f := .glo "_law_deed") rfl)
  obtain ⟨fd_law, F_law⟩ := cD.def_ 72 (d := dfn "law" s_law) rfl
  replace F_law : FnP K "law" "law" s_law (He.ga K "law") fd_law := F_law
  have g_law : mg "law" = some (.ref (He.ga K "law")) := He.glo_ok X G (cD.fact 63 (f := .glo "law") rfl)
  have b_max : mg "max" = none := He.free_ok X G (cD.fact 76 (f := .free "max") rfl)
  have b_min : mg "min" = none := He.free_ok X G (cD.fact 77 (f := .free "min") rfl)
  have b_abs : mg "abs" = none := He.free_ok X G (cD.fact 78 (f := .free "abs") rfl)
  have b_len : mg "len" = none := He.free_ok X G (cD.fact 79 (f := .free "len") rfl)
  have b_divmod : mg "divmod" = none := He.free_ok X G (cD.fact 80 (f := .free "divmod") rfl)
  have b_isinstance : mg "isinstance" = none := He.free_ok X G (cD.fact 81 (f := .free "isinstance") rfl)
  have b_sum : mg "sum" = none := He.free_ok X G (cD.fact 82 (f := .free "sum") rfl)
  have b_int : mg "int" = none := He.free_ok X G (cD.fact 83 (f := .free "int") rfl)
  have b_bool : mg "bool" = none := He.free_ok X G (cD.fact 84 (f := .free "bool") rfl)
  have b_tuple : mg "tuple" = none := He.free_ok X G (cD.fact 85 (f := .free "tuple") rfl)
  have n_INEXACT : ∃ t, mg "INEXACT" = some (.int 1 t) := He.int_ok X G (cD.fact 86 (f := .int "INEXACT" 1) rfl)
  have n_SMALL : ∃ t, mg "SMALL" = some (.int 2 t) := He.int_ok X G (cD.fact 87 (f := .int "SMALL" 2) rfl)
  have n_GREAT : ∃ t, mg "GREAT" = some (.int 4 t) := He.int_ok X G (cD.fact 88 (f := .int "GREAT" 4) rfl)
  have n_POLE : ∃ t, mg "POLE" = some (.int 8 t) := He.int_ok X G (cD.fact 89 (f := .int "POLE" 8) rfl)
  have n_WRONG : ∃ t, mg "WRONG" = some (.int 16 t) := He.int_ok X G (cD.fact 90 (f := .int "WRONG" 16) rfl)
  have m_Way : mg "Way" = some (.ref (He.ga K "Way")) := He.glo_ok X G (cD.fact 64 (f := .glo "Way") rfl)
  have cl_Way : Cls K (He.ga K "Way") := He.cls_ok (cD.fact 65 (f := .cls "Way") rfl)
  have kp_Way : PySem.W.keepIn K (.ref (He.ga K "Way")) = true := He.keep_ok (cD.fact 66 (f := .keep "Way") rfl)
  have m_Nearest : mg "Nearest" = some (.ref (He.ga K "Nearest")) := He.glo_ok X G (cD.fact 67 (f := .glo "Nearest") rfl)
  have cl_Nearest : Cls K (He.ga K "Nearest") := He.cls_ok (cD.fact 68 (f := .cls "Nearest") rfl)
  have kp_Nearest : PySem.W.keepIn K (.ref (He.ga K "Nearest")) = true := He.keep_ok (cD.fact 69 (f := .keep "Nearest") rfl)
  have m_NearestAway : mg "NearestAway" = some (.ref (He.ga K "NearestAway")) := He.glo_ok X G (cD.fact 70 (f := .glo "NearestAway") rfl)
  have cl_NearestAway : Cls K (He.ga K "NearestAway") := He.cls_ok (cD.fact 71 (f := .cls "NearestAway") rfl)
  have kp_NearestAway : PySem.W.keepIn K (.ref (He.ga K "NearestAway")) = true := He.keep_ok (cD.fact 72 (f := .keep "NearestAway") rfl)
  have m_Outward : mg "Outward" = some (.ref (He.ga K "Outward")) := He.glo_ok X G (cD.fact 73 (f := .glo "Outward") rfl)
  have cl_Outward : Cls K (He.ga K "Outward") := He.cls_ok (cD.fact 74 (f := .cls "Outward") rfl)
  have kp_Outward : PySem.W.keepIn K (.ref (He.ga K "Outward")) = true := He.keep_ok (cD.fact 75 (f := .keep "Outward") rfl)
  have k_Way : Mk0 K (He.ga K "Way") := by
    have q := cM "Way" (by decide +kernel)
    rw [Bool.and_eq_true] at q
    exact ⟨q.1, He.eqO_ok q.2, kp_Way⟩
  have k_Nearest : Mk0 K (He.ga K "Nearest") := by
    have q := cM "Nearest" (by decide +kernel)
    rw [Bool.and_eq_true] at q
    exact ⟨q.1, He.eqO_ok q.2, kp_Nearest⟩
  have k_NearestAway : Mk0 K (He.ga K "NearestAway") := by
    have q := cM "NearestAway" (by decide +kernel)
    rw [Bool.and_eq_true] at q
    exact ⟨q.1, He.eqO_ok q.2, kp_NearestAway⟩
  have k_Outward : Mk K (He.ga K "Outward") (He.ma K (He.ga K "Outward") "__init__") := He.mkr_ok (cD.fact 101 (f := .mkr "Outward") rfl)
  have na_O : NoAttr K (He.ga K "Outward") "outward_sign" := He.noat_ok (cD.fact 102 (f := .noat "Outward" "outward_sign") rfl)
  have mt_Way_grows : Meth K (He.ga K "Way") "grows" (He.ma K (He.ga K "Way") "grows") := He.meth_ok (cD.fact 91 (f := .meth "Way" "grows") rfl)
  have mt_Way_bursts : Meth K (He.ga K "Way") "bursts" (He.ma K (He.ga K "Way") "bursts") := He.meth_ok (cD.fact 92 (f := .meth "Way" "bursts") rfl)
  have mt_Nearest_grows : Meth K (He.ga K "Nearest") "grows" (He.ma K (He.ga K "Nearest") "grows") := He.meth_ok (cD.fact 93 (f := .meth "Nearest" "grows") rfl)
  have mt_Nearest_grows_midway : Meth K (He.ga K "Nearest") "grows_midway" (He.ma K (He.ga K "Nearest") "grows_midway") := He.meth_ok (cD.fact 94 (f := .meth "Nearest" "grows_midway") rfl)
  have mt_Nearest_bursts : Meth K (He.ga K "Nearest") "bursts" (He.ma K (He.ga K "Nearest") "bursts") := He.meth_ok (cD.fact 95 (f := .meth "Nearest" "bursts") rfl)
  have mt_NearestAway_grows : Meth K (He.ga K "NearestAway") "grows" (He.ma K (He.ga K "NearestAway") "grows") := He.meth_ok (cD.fact 96 (f := .meth "NearestAway" "grows") rfl)
  have mt_NearestAway_grows_midway : Meth K (He.ga K "NearestAway") "grows_midway" (He.ma K (He.ga K "NearestAway") "grows_midway") := He.meth_ok (cD.fact 97 (f := .meth "NearestAway" "grows_midway") rfl)
  have mt_NearestAway_bursts : Meth K (He.ga K "NearestAway") "bursts" (He.ma K (He.ga K "NearestAway") "bursts") := He.meth_ok (cD.fact 98 (f := .meth "NearestAway" "bursts") rfl)
  have mt_Outward_grows : Meth K (He.ga K "Outward") "grows" (He.ma K (He.ga K "Outward") "grows") := He.meth_ok (cD.fact 99 (f := .meth "Outward" "grows") rfl)
  have mt_Outward_bursts : Meth K (He.ga K "Outward") "bursts" (He.ma K (He.ga K "Outward") "bursts") := He.meth_ok (cD.fact 100 (f := .meth "Outward" "bursts") rfl)
  rw [eG] at mt_NearestAway_grows
  rw [eB] at mt_NearestAway_bursts
  have e := hfa.symm.trans g_law
  cases e
  have bd_width : Binds K fd_width ["size"] [] := F_width.bindsN fun _ _ _ _ _ _ us hl => match us, hl with | [_], _ => rfl
  have bd_bias : Binds K fd_bias ["size"] [] := F_bias.bindsN fun _ _ _ _ _ _ us hl => match us, hl with | [_], _ => rfl
  have bd_low : Binds K fd_low ["size"] [] := F_low.bindsN fun _ _ _ _ _ _ us hl => match us, hl with | [_], _ => rfl
  have bd_sign_bit : Binds K fd_sign_bit ["size"] [] := F_sign_bit.bindsN fun _ _ _ _ _ _ us hl => match us, hl with | [_], _ => rfl
  have bd_endless : Binds K fd_endless ["size"] [] := F_endless.bindsN fun _ _ _ _ _ _ us hl => match us, hl with | [_], _ => rfl
  have bd_no_number : Binds K fd_no_number ["size"] [] := F_no_number.bindsN fun _ _ _ _ _ _ us hl => match us, hl with | [_], _ => rfl
  have bd_asked_fraction : Binds K fd_asked_fraction ["top", "bottom"] [] := F_asked_fraction.bindsN fun _ _ _ _ _ _ us hl => match us, hl with | [_, _], _ => rfl
  have bd_ahead : Binds K fd_ahead ["top", "bottom"] [] := F_ahead.bindsN fun _ _ _ _ _ _ us hl => match us, hl with | [_, _], _ => rfl
  have bd_scaled : Binds K fd_scaled ["top", "bottom", "power"] [] := F_scaled.bindsN fun _ _ _ _ _ _ us hl => match us, hl with | [_, _, _], _ => rfl
  have bd_rest_of : Binds K fd_rest_of ["left", "half"] [] := F_rest_of.bindsN fun _ _ _ _ _ _ us hl => match us, hl with | [_, _], _ => rfl
  have bd_cut : Binds K fd_cut ["size", "top", "bottom"] [] := F_cut.bindsN fun _ _ _ _ _ _ us hl => match us, hl with | [_, _, _], _ => rfl
  have bd_whole_root : Binds K fd_whole_root ["number"] [] := F_whole_root.bindsN fun _ _ _ _ _ _ us hl => match us, hl with | [_], _ => rfl
  have bd_root_cut : Binds K fd_root_cut ["size", "top", "bottom"] [] := F_root_cut.bindsN fun _ _ _ _ _ _ us hl => match us, hl with | [_, _, _], _ => rfl
  have bd_parted : Binds K fd_parted ["size", "bits"] [] := F_parted.bindsN fun _ _ _ _ _ _ us hl => match us, hl with | [_, _], _ => rfl
  have bd_kind : Binds K fd_kind ["size", "bits"] [] := F_kind.bindsN fun _ _ _ _ _ _ us hl => match us, hl with | [_, _], _ => rfl
  have bd_worth : Binds K fd_worth ["size", "bits"] [] := F_worth.bindsN fun _ _ _ _ _ _ us hl => match us, hl with | [_, _], _ => rfl
  have bd_fraction : Binds K fd_fraction ["size", "bits"] [] := F_fraction.bindsN fun _ _ _ _ _ _ us hl => match us, hl with | [_, _], _ => rfl
  have bd_negated : Binds K fd_negated ["size", "bits"] [] := F_negated.bindsN fun _ _ _ _ _ _ us hl => match us, hl with | [_, _], _ => rfl
  have bd_Way_grows : Binds K fd_Way_grows ["self", "sign", "odd", "rest"] [] := F_Way_grows.bindsN fun _ _ _ _ _ _ us hl => match us, hl with | [_, _, _, _], _ => rfl
  have bd_Way_bursts : Binds K fd_Way_bursts ["self", "sign"] [] := F_Way_bursts.bindsN fun _ _ _ _ _ _ us hl => match us, hl with | [_, _], _ => rfl
  have bd_Nearest_grows : Binds K fd_Nearest_grows ["self", "sign", "odd", "rest"] [] := F_Nearest_grows.bindsN fun _ _ _ _ _ _ us hl => match us, hl with | [_, _, _, _], _ => rfl
  have bd_Nearest_grows_midway : Binds K fd_Nearest_grows_midway ["self", "odd"] [] := F_Nearest_grows_midway.bindsN fun _ _ _ _ _ _ us hl => match us, hl with | [_, _], _ => rfl
  have bd_Nearest_bursts : Binds K fd_Nearest_bursts ["self", "sign"] [] := F_Nearest_bursts.bindsN fun _ _ _ _ _ _ us hl => match us, hl with | [_, _], _ => rfl
  have bd_NearestAway_grows_midway : Binds K fd_NearestAway_grows_midway ["self", "odd"] [] := F_NearestAway_grows_midway.bindsN fun _ _ _ _ _ _ us hl => match us, hl with | [_, _], _ => rfl
  have bd_Outward_init : Binds K fd_Outward_init ["self", "sign"] [] := F_Outward_init.bindsN fun _ _ _ _ _ _ us hl => match us, hl with | [_, _], _ => rfl
  have bd_Outward_grows : Binds K fd_Outward_grows ["self", "sign", "odd", "rest"] [] := F_Outward_grows.bindsN fun _ _ _ _ _ _ us hl => match us, hl with | [_, _, _, _], _ => rfl
  have bd_Outward_bursts : Binds K fd_Outward_bursts ["self", "sign"] [] := F_Outward_bursts.bindsN fun _ _ _ _ _ _ us hl => match us, hl with | [_, _], _ => rfl
  have bd_way_of : Binds K fd_way_of ["name"] [] := F_way_of.bindsN fun _ _ _ _ _ _ us hl => match us, hl with | [_], _ => rfl
  have bd_settled : Binds K fd_settled ["size", "way", "sign", "whole", "power", "rest"] [] := F_settled.bindsN fun _ _ _ _ _ _ us hl => match us, hl with | [_, _, _, _, _, _], _ => rfl
  have bd_rounded : Binds K fd_rounded ["size", "way", "sign", "top", "bottom"] [] := F_rounded.bindsN fun _ _ _ _ _ _ us hl => match us, hl with | [_, _, _, _, _], _ => rfl
  have bd_total : Binds K fd_total ["terms"] [] := F_total.bindsN fun _ _ _ _ _ _ us hl => match us, hl with | [_], _ => rfl
  have bd_nought_sign : Binds K fd_nought_sign ["way", "signs"] [] := F_nought_sign.bindsN fun _ _ _ _ _ _ us hl => match us, hl with | [_, _], _ => rfl
  have bd_settled_total : Binds K fd_settled_total ["size", "way", "terms"] [] := F_settled_total.bindsN fun _ _ _ _ _ _ us hl => match us, hl with | [_, _, _], _ => rfl
  have bd_kinds_of : Binds K fd_kinds_of ["size", "way", "numbers"] [] := F_kinds_of.bindsN fun _ _ _ _ _ _ us hl => match us, hl with | [_, _, _], _ => rfl
  have bd_gone_wrong : Binds K fd_gone_wrong ["size"] [] := F_gone_wrong.bindsN fun _ _ _ _ _ _ us hl => match us, hl with | [_], _ => rfl
  have bd_endless_with : Binds K fd_endless_with ["size", "sign"] [] := F_endless_with.bindsN fun _ _ _ _ _ _ us hl => match us, hl with | [_, _], _ => rfl
  have bd_term_of : Binds K fd_term_of ["size", "bits"] [] := F_term_of.bindsN fun _ _ _ _ _ _ us hl => match us, hl with | [_, _], _ => rfl
  have bd_product_term : Binds K fd_product_term ["size", "a", "b"] [] := F_product_term.bindsN fun _ _ _ _ _ _ us hl => match us, hl with | [_, _, _], _ => rfl
  have bd_sum_of_terms : Binds K fd_sum_of_terms ["size", "way", "terms"] [] := F_sum_of_terms.bindsN fun _ _ _ _ _ _ us hl => match us, hl with | [_, _, _], _ => rfl
  have bd_added : Binds K fd_added ["size", "way", "a", "b"] [] := F_added.bindsN fun _ _ _ _ _ _ us hl => match us, hl with | [_, _, _, _], _ => rfl
  have bd_taken : Binds K fd_taken ["size", "way", "a", "b"] [] := F_taken.bindsN fun _ _ _ _ _ _ us hl => match us, hl with | [_, _, _, _], _ => rfl
  have bd_multiplied : Binds K fd_multiplied ["size", "way", "a", "b"] [] := F_multiplied.bindsN fun _ _ _ _ _ _ us hl => match us, hl with | [_, _, _, _], _ => rfl
  have bd_fused : Binds K fd_fused ["size", "way", "a", "b", "c"] [] := F_fused.bindsN fun _ _ _ _ _ _ us hl => match us, hl with | [_, _, _, _, _], _ => rfl
  have bd_divided : Binds K fd_divided ["size", "way", "a", "b"] [] := F_divided.bindsN fun _ _ _ _ _ _ us hl => match us, hl with | [_, _, _, _], _ => rfl
  have bd_rooted : Binds K fd_rooted ["size", "way", "a"] [] := F_rooted.bindsN fun _ _ _ _ _ _ us hl => match us, hl with | [_, _, _], _ => rfl
  have bd_whole_of : Binds K fd_whole_of ["way", "sign", "top", "bottom"] [] := F_whole_of.bindsN fun _ _ _ _ _ _ us hl => match us, hl with | [_, _, _, _], _ => rfl
  have bd_wholed : Binds K fd_wholed ["size", "way", "bits"] [] := F_wholed.bindsN fun _ _ _ _ _ _ us hl => match us, hl with | [_, _, _], _ => rfl
  have bd_l_cell_at : Binds K fd_l_cell_at ["_law_script", "_law_k"] [] := F_l_cell_at.bindsN fun _ _ _ _ _ _ us hl => match us, hl with | [_, _], _ => rfl
  have bd_l_whole : Binds K fd_l_whole ["_law_found"] [] := F_l_whole.bindsN fun _ _ _ _ _ _ us hl => match us, hl with | [_], _ => rfl
  have bd_l_size_by : Binds K fd_l_size_by ["_law_cell"] [] := F_l_size_by.bindsN fun _ _ _ _ _ _ us hl => match us, hl with | [_], _ => rfl
  have bd_l_way_by : Binds K fd_l_way_by ["_law_cell"] [] := F_l_way_by.bindsN fun _ _ _ _ _ _ us hl => match us, hl with | [_], _ => rfl
  have bd_l_mixed : Binds K fd_l_mixed ["_law_cell", "_law_many"] [] := F_l_mixed.bindsN fun _ _ _ _ _ _ us hl => match us, hl with | [_, _], _ => rfl
  have bd_l_bits_by : Binds K fd_l_bits_by ["_law_size", "_law_cell"] [] := F_l_bits_by.bindsN fun _ _ _ _ _ _ us hl => match us, hl with | [_, _], _ => rfl
  have bd_l_odd_by : Binds K fd_l_odd_by ["_law_size", "_law_cell"] [] := F_l_odd_by.bindsN fun _ _ _ _ _ _ us hl => match us, hl with | [_, _], _ => rfl
  have bd_l_mate_by : Binds K fd_l_mate_by ["_law_size", "_law_bits", "_law_cell", "_law_turned"] [] := F_l_mate_by.bindsN fun _ _ _ _ _ _ us hl => match us, hl with | [_, _, _, _], _ => rfl
  have bd_l_third_by : Binds K fd_l_third_by ["_law_size", "_law_a", "_law_b", "_law_cell"] [] := F_l_third_by.bindsN fun _ _ _ _ _ _ us hl => match us, hl with | [_, _, _, _], _ => rfl
  have bd_l_two : Binds K fd_l_two ["_law_found"] [] := F_l_two.bindsN fun _ _ _ _ _ _ us hl => match us, hl with | [_], _ => rfl
  have bd_l_value : Binds K fd_l_value ["_law_size", "_law_code"] [] := F_l_value.bindsN fun _ _ _ _ _ _ us hl => match us, hl with | [_, _], _ => rfl
  have bd_l_near : Binds K fd_l_near ["_law_way", "_law_outward", "_law_lean", "_law_even"] [] := F_l_near.bindsN fun _ _ _ _ _ _ us hl => match us, hl with | [_, _, _, _], _ => rfl
  have bd_l_far : Binds K fd_l_far ["_law_way", "_law_outward", "_law_lean", "_law_even"] [] := F_l_far.bindsN fun _ _ _ _ _ _ us hl => match us, hl with | [_, _, _, _], _ => rfl
  have bd_l_fair : Binds K fd_l_fair ["_law_size", "_law_way", "_law_sign", "_law_tall", "_law_bottom", "_law_found"] [] := F_l_fair.bindsN fun _ _ _ _ _ _ us hl => match us, hl with | [_, _, _, _, _, _], _ => rfl
  have bd_l_is : Binds K fd_l_is ["_law_found", "_law_bits", "_law_flags"] [] := F_l_is.bindsN fun _ _ _ _ _ _ us hl => match us, hl with | [_, _, _], _ => rfl
  have bd_l_root_fair : Binds K fd_l_root_fair ["_law_size", "_law_way", "_law_square", "_law_found"] [] := F_l_root_fair.bindsN fun _ _ _ _ _ _ us hl => match us, hl with | [_, _, _, _], _ => rfl
  have bd_l_fair_whole : Binds K fd_l_fair_whole ["_law_way", "_law_sign", "_law_whole_here", "_law_top", "_law_bottom"] [] := F_l_fair_whole.bindsN fun _ _ _ _ _ _ us hl => match us, hl with | [_, _, _, _, _], _ => rfl
  have bd_l_wholed_fair : Binds K fd_l_wholed_fair ["_law_size", "_law_way", "_law_a", "_law_found"] [] := F_l_wholed_fair.bindsN fun _ _ _ _ _ _ us hl => match us, hl with | [_, _, _, _], _ => rfl
  have bd_l_term : Binds K fd_l_term ["_law_size", "_law_bits"] [] := F_l_term.bindsN fun _ _ _ _ _ _ us hl => match us, hl with | [_, _], _ => rfl
  have bd_l_product : Binds K fd_l_product ["_law_size", "_law_a", "_law_b"] [] := F_l_product.bindsN fun _ _ _ _ _ _ us hl => match us, hl with | [_, _, _], _ => rfl
  have bd_l_sum_good : Binds K fd_l_sum_good ["_law_size", "_law_way", "_law_terms", "_law_found"] [] := F_l_sum_good.bindsN fun _ _ _ _ _ _ us hl => match us, hl with | [_, _, _, _], _ => rfl
  have bd_l_quotient_good : Binds K fd_l_quotient_good ["_law_size", "_law_way", "_law_a", "_law_b", "_law_found"] [] := F_l_quotient_good.bindsN fun _ _ _ _ _ _ us hl => match us, hl with | [_, _, _, _, _], _ => rfl
  have bd_l_root_good : Binds K fd_l_root_good ["_law_size", "_law_way", "_law_a", "_law_found"] [] := F_l_root_good.bindsN fun _ _ _ _ _ _ us hl => match us, hl with | [_, _, _, _], _ => rfl
  have bd_l_partner : Binds K fd_l_partner ["_law_size", "_law_row", "_law_a", "_law_which", "_law_cell"] [] := F_l_partner.bindsN fun _ _ _ _ _ _ us hl => match us, hl with | [_, _, _, _, _], _ => rfl
  have bd_l_deed : Binds K fd_l_deed ["_law_size", "_law_way", "_law_which", "_law_a", "_law_b", "_law_c"] [] := F_l_deed.bindsN fun _ _ _ _ _ _ us hl => match us, hl with | [_, _, _, _, _, _], _ => rfl
  have bd_law : Binds K fd_law ["_law_script"] [] := F_law.bindsN fun _ _ _ _ _ _ us hl => match us, hl with | [_], _ => rfl
  have bA := FunD.bindsA (ps := ["_law_script"]) F_law fun _ _ _ _ _ _ us hl => match us, hl with | [_], _ => rfl
  refine ⟨fd_law, fun s v => bA s [v] rfl, fun base _ _ => ?_⟩
  obtain ⟨C, hC⟩ : ∃ C : Cs, C = ⟨He.ga K "Way", He.ga K "Nearest", He.ga K "NearestAway", He.ga K "Outward"⟩ := ⟨_, rfl⟩
  have hw : He.ga K "Way" = C.w := by rw [hC]
  have hn : He.ga K "Nearest" = C.n := by rw [hC]
  have ha : He.ga K "NearestAway" = C.a := by rw [hC]
  have ho : He.ga K "Outward" = C.o := by rw [hC]
  clear hC
  rw [hw] at k_Way m_Way cl_Way
  rw [hn] at k_Nearest m_Nearest cl_Nearest
  rw [ha] at k_NearestAway m_NearestAway cl_NearestAway
  rw [ho] at k_Outward m_Outward cl_Outward na_O F_Outward_init F_Outward_grows F_Outward_bursts mt_Outward_grows mt_Outward_bursts
  rw [hw] at F_Way_grows F_Way_bursts mt_Way_grows mt_Way_bursts
  rw [hn] at F_Nearest_grows F_Nearest_grows_midway F_Nearest_bursts mt_Nearest_grows mt_Nearest_grows_midway mt_Nearest_bursts mt_NearestAway_grows mt_NearestAway_bursts
  rw [ha] at F_NearestAway_grows_midway mt_NearestAway_grows mt_NearestAway_grows_midway mt_NearestAway_bursts
  have c_grows_midway : ∀ b : Bool, MetD P w K mg base 1 (wayC C (b2w b)) "grows_midway" (spD K (gMid C (b2w b)))
    | false => ⟨cl_Nearest, ⟨_, _, _, mt_Nearest_grows_midway, ok_Nearest_grows_midway F_Nearest_grows_midway, bd_Nearest_grows_midway⟩⟩
    | true => ⟨cl_NearestAway, ⟨_, _, _, mt_NearestAway_grows_midway, ok_NearestAway_grows_midway F_NearestAway_grows_midway, bd_NearestAway_grows_midway⟩⟩
  have c_bursts : ∀ wy : W5, MetD P w K mg base 1 (wayC C wy) "bursts" (spD K (gBursts C wy))
    | .even => ⟨cl_Nearest, ⟨_, _, _, mt_Nearest_bursts, ok_Nearest_bursts (b := false) F_Nearest_bursts, bd_Nearest_bursts⟩⟩
    | .away => ⟨cl_NearestAway, ⟨_, _, _, mt_NearestAway_bursts, ok_Nearest_bursts (b := true) F_Nearest_bursts, bd_Nearest_bursts⟩⟩
    | .nought => ⟨cl_Way, ⟨_, _, _, mt_Way_bursts, ok_Way_bursts F_Way_bursts, bd_Way_bursts⟩⟩
    | .up => ⟨cl_Outward, ⟨_, _, _, mt_Outward_bursts, ok_Outward_bursts (b := false) F_Outward_bursts cl_Outward na_O, bd_Outward_bursts⟩⟩
    | .down => ⟨cl_Outward, ⟨_, _, _, mt_Outward_bursts, ok_Outward_bursts (b := true) F_Outward_bursts cl_Outward na_O, bd_Outward_bursts⟩⟩
  have c_grows : ∀ wy : W5, MetD P w K mg base 2 (wayC C wy) "grows" (spD K (gGrows C wy))
    | .even => ⟨cl_Nearest, ⟨_, _, _, mt_Nearest_grows, ok_Nearest_grows (b := false) F_Nearest_grows c_grows_midway, bd_Nearest_grows⟩⟩
    | .away => ⟨cl_NearestAway, ⟨_, _, _, mt_NearestAway_grows, ok_Nearest_grows (b := true) F_Nearest_grows c_grows_midway, bd_Nearest_grows⟩⟩
    | .nought => ⟨cl_Way, ⟨_, _, _, mt_Way_grows, (ok_Way_grows F_Way_grows).mono (by decide), bd_Way_grows⟩⟩
    | .up => ⟨cl_Outward, ⟨_, _, _, mt_Outward_grows, (ok_Outward_grows (b := false) F_Outward_grows cl_Outward na_O).mono (by decide), bd_Outward_grows⟩⟩
    | .down => ⟨cl_Outward, ⟨_, _, _, mt_Outward_grows, (ok_Outward_grows (b := true) F_Outward_grows cl_Outward na_O).mono (by decide), bd_Outward_grows⟩⟩
  have f_init : FnOk P w K mg base CX0 1 _ fd_Outward_init ["self", "sign"] (spOut C.o) := ok_Outward_init F_Outward_init cl_Outward na_O
  have c_l_size_by : Cal P w K mg base 1 "_law_size_by" (spX K xSize) := mk_cal F_l_size_by (ok_l_size_by F_l_size_by ) g_l_size_by bd_l_size_by
  have c_l_cell_at : Cal P w K mg base 1 "_law_cell_at" (spD K gCell) := mk_cal F_l_cell_at (ok_l_cell_at F_l_cell_at b_len) g_l_cell_at bd_l_cell_at
  have c_l_mixed : Cal P w K mg base 1 "_law_mixed" (spD K gMix) := mk_cal F_l_mixed (ok_l_mixed F_l_mixed ) g_l_mixed bd_l_mixed
  have c_l_bits_by : Cal P w K mg base 2 "_law_bits_by" (spX K xBits) := mk_cal F_l_bits_by (ok_l_bits_by F_l_bits_by c_l_mixed b_max b_min) g_l_bits_by bd_l_bits_by
  have c_l_way_by : Cal P w K mg base 1 "_law_way_by" (spX K xWay) := mk_cal F_l_way_by (ok_l_way_by F_l_way_by ) g_l_way_by bd_l_way_by
  have c_l_odd_by : Cal P w K mg base 3 "_law_odd_by" (spX K xBits) := mk_cal F_l_odd_by (ok_l_odd_by F_l_odd_by c_l_bits_by) g_l_odd_by bd_l_odd_by
  have c_l_mate_by : Cal P w K mg base 4 "_law_mate_by" (spX K xMate) := mk_cal F_l_mate_by (ok_l_mate_by F_l_mate_by c_l_mixed c_l_odd_by c_l_bits_by b_max b_min) g_l_mate_by bd_l_mate_by
  have c_l_partner : Cal P w K mg base 5 "_law_partner" (spX K xPart) := mk_cal F_l_partner (ok_l_partner F_l_partner c_l_mate_by b_len) g_l_partner bd_l_partner
  have c_l_value : Cal P w K mg base 1 "_law_value" (spD K gVal) := mk_cal F_l_value (ok_l_value F_l_value ) g_l_value bd_l_value
  have c_l_third_by : Cal P w K mg base 4 "_law_third_by" (spX K xThird) := mk_cal F_l_third_by (ok_l_third_by F_l_third_by c_l_bits_by c_l_odd_by c_l_value b_max b_min) g_l_third_by bd_l_third_by
  have c_way_of : Cal P w K mg base 3 "way_of" (spD K (gWay C)) := mk_cal F_way_of (ok_way_of F_way_of k_Nearest m_Nearest k_NearestAway m_NearestAway k_Way m_Way k_Outward f_init m_Outward bd_Outward_init) g_way_of bd_way_of
  have c_width : Cal P w K mg base 1 "width" (spD K gWidth) := mk_cal F_width (ok_width F_width ) g_width bd_width
  have c_sign_bit : Cal P w K mg base 1 "sign_bit" (spD K gSign) := mk_cal F_sign_bit (ok_sign_bit F_sign_bit ) g_sign_bit bd_sign_bit
  have c_parted : Cal P w K mg base 2 "parted" (spD K gParted) := mk_cal F_parted (ok_parted F_parted c_width c_sign_bit b_divmod) g_parted bd_parted
  have c_kind : Cal P w K mg base 3 "kind" (spD K gKind) := mk_cal F_kind (ok_kind F_kind c_parted) g_kind bd_kind
  have c_kinds_of : Cal P w K mg base 4 "kinds_of" (spD K gKinds) := mk_cal F_kinds_of (ok_kinds_of F_kinds_of c_way_of c_kind) g_kinds_of bd_kinds_of
  have c_endless : Cal P w K mg base 1 "endless" (spD K gEndless) := mk_cal F_endless (ok_endless F_endless ) g_endless bd_endless
  have c_no_number : Cal P w K mg base 2 "no_number" (spD K gNan) := mk_cal F_no_number (ok_no_number F_no_number c_endless) g_no_number bd_no_number
  have c_gone_wrong : Cal P w K mg base 3 "gone_wrong" (spD K gGone) := mk_cal F_gone_wrong (ok_gone_wrong F_gone_wrong c_no_number n_WRONG) g_gone_wrong bd_gone_wrong
  have c_endless_with : Cal P w K mg base 2 "endless_with" (spD K gEndw) := mk_cal F_endless_with (ok_endless_with F_endless_with c_sign_bit c_endless) g_endless_with bd_endless_with
  have c_total : Cal P w K mg base 1 "total" (spD K gTotal) := mk_cal F_total (ok_total F_total b_min) g_total bd_total
  have c_nought_sign : Cal P w K mg base 4 "nought_sign" (spD K gNsg) := mk_cal F_nought_sign (ok_nought_sign F_nought_sign c_way_of b_len) g_nought_sign bd_nought_sign
  have c_asked_fraction : Cal P w K mg base 1 "asked_fraction" (spD K gAsked) := mk_cal F_asked_fraction (ok_asked_fraction F_asked_fraction ) g_asked_fraction bd_asked_fraction
  have c_bias : Cal P w K mg base 1 "bias" (spD K gBias) := mk_cal F_bias (ok_bias F_bias ) g_bias bd_bias
  have c_low : Cal P w K mg base 2 "low" (spD K gLow) := mk_cal F_low (ok_low F_low c_bias) g_low bd_low
  have c_scaled : Cal P w K mg base 1 "scaled" (spD K gScaled) := mk_cal F_scaled (ok_scaled F_scaled ) g_scaled bd_scaled
  have c_ahead : Cal P w K mg base 2 "ahead" (spD K gAhead) := mk_cal F_ahead (ok_ahead F_ahead c_scaled) g_ahead bd_ahead
  have c_rest_of : Cal P w K mg base 1 "rest_of" (spD K gRest) := mk_cal F_rest_of (ok_rest_of F_rest_of ) g_rest_of bd_rest_of
  have c_cut : Cal P w K mg base 3 "cut" (spD K gCut) := mk_cal F_cut (ok_cut F_cut c_asked_fraction c_low c_ahead c_scaled c_rest_of b_max b_divmod) g_cut bd_cut
  have c_settled : Cal P w K mg base 4 "settled" (spD K gSettled) := mk_cal F_settled (ok_settled F_settled c_way_of c_sign_bit c_low c_endless c_bursts c_grows n_INEXACT n_GREAT n_SMALL) g_settled bd_settled
  have c_rounded : Cal P w K mg base 5 "rounded" (spD K gRounded) := mk_cal F_rounded (ok_rounded F_rounded c_way_of c_cut c_settled) g_rounded bd_rounded
  have c_settled_total : Cal P w K mg base 6 "settled_total" (spD K gStot) := mk_cal F_settled_total (ok_settled_total F_settled_total c_way_of c_total c_nought_sign c_sign_bit c_rounded) g_settled_total bd_settled_total
  have c_sum_of_terms : Cal P w K mg base 7 "sum_of_terms" (spD K gSumT) := mk_cal F_sum_of_terms (ok_sum_of_terms F_sum_of_terms c_gone_wrong c_endless_with c_settled_total b_len) g_sum_of_terms bd_sum_of_terms
  have c_worth : Cal P w K mg base 3 "worth" (spD K gWorth) := mk_cal F_worth (ok_worth F_worth c_parted c_low) g_worth bd_worth
  have c_term_of : Cal P w K mg base 4 "term_of" (spD K gTerm) := mk_cal F_term_of (ok_term_of F_term_of c_kind c_parted c_worth) g_term_of bd_term_of
  have c_added : Cal P w K mg base 8 "added" (spD K gAdd) := mk_cal F_added (ok_added F_added c_kinds_of c_no_number c_sum_of_terms c_term_of) g_added bd_added
  have c_l_whole : Cal P w K mg base 1 "_law_whole" (spD K gWhole) := mk_cal F_l_whole (ok_l_whole F_l_whole b_isinstance b_bool b_int) g_l_whole bd_l_whole
  have c_l_two : Cal P w K mg base 2 "_law_two" (spD K gTwo) := mk_cal F_l_two (ok_l_two F_l_two c_l_whole b_len b_isinstance b_tuple) g_l_two bd_l_two
  have c_l_is : Cal P w K mg base 3 "_law_is" (spD K gIs) := mk_cal F_l_is (ok_l_is F_l_is c_l_two) g_l_is bd_l_is
  have c_l_near : Cal P w K mg base 1 "_law_near" (spD K gNear) := mk_cal F_l_near (ok_l_near F_l_near ) g_l_near bd_l_near
  have c_l_far : Cal P w K mg base 1 "_law_far" (spD K gFar) := mk_cal F_l_far (ok_l_far F_l_far ) g_l_far bd_l_far
  have c_l_fair : Cal P w K mg base 3 "_law_fair" (spD K gFair) := mk_cal F_l_fair (ok_l_fair F_l_fair c_l_two c_l_value c_l_near c_l_far) g_l_fair bd_l_fair
  have c_l_sum_good : Cal P w K mg base 4 "_law_sum_good" (spD K gSumGood) := mk_cal F_l_sum_good (ok_l_sum_good F_l_sum_good c_l_is c_l_fair b_len b_sum b_int b_abs) g_l_sum_good bd_l_sum_good
  have c_l_term : Cal P w K mg base 2 "_law_term" (spD K gLTerm) := mk_cal F_l_term (ok_l_term F_l_term c_l_value) g_l_term bd_l_term
  have c_negated : Cal P w K mg base 3 "negated" (spD K gNeg) := mk_cal F_negated (ok_negated F_negated c_parted c_sign_bit) g_negated bd_negated
  have c_taken : Cal P w K mg base 9 "taken" (spD K gTake) := mk_cal F_taken (ok_taken F_taken c_kinds_of c_added c_negated) g_taken bd_taken
  have c_product_term : Cal P w K mg base 5 "product_term" (spD K gProd) := mk_cal F_product_term (ok_product_term F_product_term c_term_of) g_product_term bd_product_term
  have c_multiplied : Cal P w K mg base 8 "multiplied" (spD K gMul) := mk_cal F_multiplied (ok_multiplied F_multiplied c_kinds_of c_no_number c_sum_of_terms c_product_term) g_multiplied bd_multiplied
  have c_l_product : Cal P w K mg base 3 "_law_product" (spD K gLProd) := mk_cal F_l_product (ok_l_product F_l_product c_l_term) g_l_product bd_l_product
  have c_fraction : Cal P w K mg base 4 "fraction" (spD K gFrac) := mk_cal F_fraction (ok_fraction F_fraction c_worth) g_fraction bd_fraction
  have c_divided : Cal P w K mg base 6 "divided" (spD K gDiv) := mk_cal F_divided (ok_divided F_divided c_kinds_of c_no_number c_gone_wrong c_parted c_endless_with c_sign_bit c_fraction c_rounded n_POLE) g_divided bd_divided
  have c_l_quotient_good : Cal P w K mg base 4 "_law_quotient_good" (spD K gQuot) := mk_cal F_l_quotient_good (ok_l_quotient_good F_l_quotient_good c_l_is c_l_value c_l_fair) g_l_quotient_good bd_l_quotient_good
  have c_fused : Cal P w K mg base 8 "fused" (spD K gFus) := mk_cal F_fused (ok_fused F_fused c_kinds_of c_no_number c_sum_of_terms c_term_of c_product_term) g_fused bd_fused
  have c_whole_root : Cal P w K mg base 1 "whole_root" (spD K gIsq) := mk_cal F_whole_root (ok_whole_root F_whole_root ) g_whole_root bd_whole_root
  have c_root_cut : Cal P w K mg base 3 "root_cut" (spD K gRoot) := mk_cal F_root_cut (ok_root_cut F_root_cut c_asked_fraction c_low c_ahead c_scaled c_whole_root c_rest_of b_max) g_root_cut bd_root_cut
  have c_rooted : Cal P w K mg base 5 "rooted" (spD K gRoo) := mk_cal F_rooted (ok_rooted F_rooted c_kinds_of c_no_number c_parted c_gone_wrong c_fraction c_root_cut c_settled) g_rooted bd_rooted
  have c_l_root_fair : Cal P w K mg base 3 "_law_root_fair" (spD K gRFair) := mk_cal F_l_root_fair (ok_l_root_fair F_l_root_fair c_l_two c_l_value c_l_near c_l_far) g_l_root_fair bd_l_root_fair
  have c_l_root_good : Cal P w K mg base 4 "_law_root_good" (spD K gRootG) := mk_cal F_l_root_good (ok_l_root_good F_l_root_good c_l_is c_l_root_fair c_l_value) g_l_root_good bd_l_root_good
  have c_whole_of : Cal P w K mg base 4 "whole_of" (spD K gWholeOf) := mk_cal F_whole_of (ok_whole_of F_whole_of c_way_of c_grows b_divmod) g_whole_of bd_whole_of
  have c_wholed : Cal P w K mg base 6 "wholed" (spD K gWho) := mk_cal F_wholed (ok_wholed F_wholed c_way_of c_kind c_no_number c_fraction c_whole_of c_rounded n_GREAT n_INEXACT) g_wholed bd_wholed
  have c_l_fair_whole : Cal P w K mg base 2 "_law_fair_whole" (spD K gFW) := mk_cal F_l_fair_whole (ok_l_fair_whole F_l_fair_whole c_l_whole c_l_near c_l_far) g_l_fair_whole bd_l_fair_whole
  have c_l_wholed_fair : Cal P w K mg base 4 "_law_wholed_fair" (spD K gWF) := mk_cal F_l_wholed_fair (ok_l_wholed_fair F_l_wholed_fair c_l_is c_l_two c_l_value c_l_fair_whole b_int) g_l_wholed_fair bd_l_wholed_fair
  have c_l_deed : Cal P w K mg base 10 "_law_deed" (spD K gDeed) := mk_cal F_l_deed (ok_l_deed F_l_deed c_added c_l_sum_good c_l_term c_taken c_multiplied c_l_product c_divided c_l_quotient_good c_fused c_rooted c_l_root_good c_wholed c_l_wholed_fair) g_l_deed bd_l_deed
  exact ok_law F_law c_l_size_by c_l_cell_at c_l_bits_by c_l_way_by c_l_partner c_l_third_by c_l_deed b_len
theorem rep_ints {K : PySem.W.Frag} {H : Hp} : ∀ ns : List Int, RepL K H (ns.map V.int) (ns.map D.int)
  | [] => .nil
  | n :: ns => .cons (.int n) (rep_ints ns)
/-- the row's end, by the facts and the script's bits -/
theorem walk_bits {l : PySem.W.OpenLaw} {n k : Nat} {q : Program} {loose : List Str} {XP : (Str → Option Value) → Heap → Prop} {YP : World → Heap → Prop} {d : DefRec} {x : Str}
    (hn : l.most = some n) (hn2 : n ≤ sizeLine) (hdf : d.params.defaults = []) (hr : Room k callerA)
    (F : ∀ (w : World) (mg : Str → Option Value) (fa : Addr) (h : Heap), YP w h → h.Ns mainGlobals mg → mg d.name = some (.ref fa) → ∃ (K : PySem.W.Frag) (fd : FuncData) (sp : Sp), K.In h ∧
      ((∀ (s : Shared) (u : Value), BindsTo s fd ⟨[u], []⟩ [(x, u)]) ∧ (∀ base : Heap, K.In base → base.Ns mainGlobals mg → FnOk l.prog w K mg base CX0 k fa fd [x] sp)) ∧
      ∀ (H : Hp) (a : Addr) (ns : List Int), ns.length ≤ n → (∀ z ∈ ns, Builtin.Int.intBits z ≤ 1048576) → SqL K H a (ns.map V.int) → sp [.ref a] H (fun v _ => v = .bl true) fun _ _ _ => False) :
    PySem.W.WalkO q loose XP YP l.row.toRowW d [] (fun f vs => PySem.call f vs) := by
  refine Att.attach_callB hn hdf fun w s₀ s₁ mg mb fa o pm cd doc a vs ns G Y ho hd hcd hmg hobj hints hlen hbits hg => ?_
  obtain ⟨K, fd, sp, KX, ⟨hb, hF⟩, hsp⟩ := F w mg fa _ Y G.T.g hmg
  exact law_call KX G.T.g G.T.b G.T.builtins G.T.nolimit hg hobj hints (Nat.le_trans hlen hn2) hr hF hb (fun H hO hS => hsp H a ns hlen hbits hS) fun H e s' z => z
end RM
open PySem PySem.W PySem.Calls PyProof.Rows
theorem PySem.Challenge.cw_roundmill_k34_whole_deeds_holds : PySem.Challenge.rw_roundmill_k34_whole_deeds.Holds := by
  w_on; o_law
  refine HandSHeadRun.head_any (r := RM.RowR) (q := view RM.RowR.prog [87]) (H := RM.hookM 4) (ob := RM.obM) (M := 6000) (loose := RM.looseL) (d := HandSHeadRun.topDef RM.RowR.prog 87) (kwd := []) RM.obM_eq
    (by kernel_rfl) (fun s => by kernel_rfl) RM.runM (by kernel_rfl) (by kernel_rfl) (by kernel_rfl) (by rfl) (by first | assumption | decide +kernel) (by decide +kernel) ⟨rfl, rfl, rfl, rfl, rfl, by decide +kernel⟩ ?hw ?hc
  case hw => w_witness2
  case hc =>
    refine RM.walk_bits (l := PySem.Challenge.rw_roundmill_k34_whole_deeds) (n := 63) (k := 11) (x := "_law_script") rfl (by decide) (by kernel_rfl) ⟨rfl, by decide, by decide⟩ ?F
    intro w mg fa h Y G hmg0
    obtain ⟨K, KX, c⟩ := Y
    have hmg : mg ("law" : PySem.Str) = some (.ref fa) := by
      have e : (HandSHeadRun.topDef RM.RowR.prog 87).name = ("law" : PySem.Str) := by kernel_rfl
      rw [← e]
      exact hmg0
    obtain ⟨fd, hb, hF⟩ := RM.facts (P := (PySem.Challenge.rw_roundmill_k34_whole_deeds).prog) (w := w) KX G hmg c
    refine ⟨K, fd, RM.spD K RM.gLaw, KX, ⟨hb, hF⟩, fun H a ns hl hbits hS => ?_⟩
    refine ⟨[.lst (ns.map RM.D.int)], .bl true, .cons (.lst hS (RM.rep_ints ns)) .nil, ⟨ns, hl, fun n hn => ?_, rfl, rfl⟩, fun v H' _ r => ?_⟩
    · have h1 := hbits n hn
      exact PySem.intBits_le_iff.mp (Nat.le_trans h1 (by rw [RM.CB_v]; decide))
    · cases r
      rfl

