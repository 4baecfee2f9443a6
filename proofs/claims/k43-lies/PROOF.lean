import PyProof.Rows.All
import Wide.All
import OpenK.AllK
import Wide.FinOn
import HandS.ForMost
import HandS.Exc
import HandS.TryOnly
import HandS.ExcOwn
import HandS.WordsExc
import HandS.ExcInit
import HandS.Defaults
import HandS.MakeKwOnly
import HandS.Codes
import HandS.Wide
import HandS.Gcd
import HandS.IsInst
import HandS.Flow
import HandS.Zip
import KE.KStateDown
import HandS.Head0
import HandS.Head1
import HandS.Head2
import HandS.Head3
import HandS.HeadEnd
import HandS.HeadHook1
import HandS.HeadHook2
import HandS.HeadHook3
import HandS.HeadHook4
import PySem.Challenge.RW_unbent_k43_whole_lies_of_one_number
/-! The plain law: fractions as Rat, sizes, pieces, lies. -/
namespace Un
/-! ### sizes -/
structure Sz (n : Nat) (x : Rat) : Prop where
  num : x.num.natAbs < 2 ^ n
  den : x.den < 2 ^ n
theorem Sz.mono {n m : Nat} {x : Rat} (h : Sz n x) (k : n ≤ m) : Sz m x :=
  ⟨Nat.lt_of_lt_of_le h.num (Nat.pow_le_pow_right (by decide) k), Nat.lt_of_lt_of_le h.den (Nat.pow_le_pow_right (by decide) k)⟩
theorem Sz.pos {n : Nat} {x : Rat} (h : Sz n x) : 0 < n := by
  cases n with
  | zero => exact absurd (Nat.lt_of_le_of_lt x.den_pos h.den) (by decide)
  | succ n => exact Nat.succ_pos _
theorem Sz.den' {n : Nat} {x : Rat} (h : Sz n x) : ((x.den : Int)).natAbs < 2 ^ n := h.den
/-- the numerator and the denominator that make, lowest reckon -/
theorem num_mk {p q : Int} (hq : 0 < q) : (Rat.divInt p q).num = p / (Nat.gcd p.natAbs q.natAbs : Nat) := by
  rw [Rat.num_divInt, Int.sign_eq_one_of_pos hq, Int.one_mul]
  show p / ((Nat.gcd q.natAbs p.natAbs : Nat) : Int) = _
  rw [Nat.gcd_comm]
theorem den_mk {p q : Int} (hq : 0 < q) : ((Rat.divInt p q).den : Int) = q / (Nat.gcd p.natAbs q.natAbs : Nat) := by
  rw [Rat.den_divInt, if_neg (by omega)]
  show ((q.natAbs / (Nat.gcd q.natAbs p.natAbs) : Nat) : Int) = _
  rw [Nat.gcd_comm, Int.natCast_ediv, Int.natAbs_of_nonneg (by omega)]
theorem gcd_posi {p q : Int} (hq : 0 < q) : 0 < Nat.gcd p.natAbs q.natAbs := Nat.gcd_pos_of_pos_right _ (by omega)
theorem gcd_lt {p q : Int} {n : Nat} (hq : 0 < q) (h : q.natAbs < 2 ^ n) : ((Nat.gcd p.natAbs q.natAbs : Nat) : Int).natAbs < 2 ^ n :=
  Nat.lt_of_le_of_lt (Nat.le_of_dvd (by omega) (Nat.gcd_dvd_right _ _)) h
theorem natAbs_div_le (p : Int) {g : Nat} (_ : 0 < g) : (p / (g : Int)).natAbs ≤ p.natAbs := by
  have := Int.natAbs_ediv_le_natAbs p g
  exact this
theorem sz_mk {p q : Int} {n : Nat} (hq : 0 < q) (h1 : p.natAbs < 2 ^ n) (h2 : q.natAbs < 2 ^ n) : Sz n (Rat.divInt p q) := by
  refine ⟨?_, ?_⟩
  · rw [num_mk hq]
    exact Nat.lt_of_le_of_lt (natAbs_div_le p (gcd_posi hq)) h1
  · have e := den_mk (p := p) hq
    have h := natAbs_div_le q (gcd_posi (p := p) hq)
    rw [← e] at h
    exact Nat.lt_of_le_of_lt h h2
theorem den_pos' (x : Rat) : (0 : Int) < (x.den : Int) := Int.natCast_pos.mpr x.den_pos
theorem den_ne' (x : Rat) : (x.den : Int) ≠ 0 := by have := den_pos' x; omega
/-! ### the four operations -/
theorem mul_lt {i j : Int} {a b : Nat} (ha : i.natAbs < 2 ^ a) (hb : j.natAbs < 2 ^ b) : (i * j).natAbs < 2 ^ (a + b) := by
  rw [Int.natAbs_mul, Nat.pow_add]
  exact Nat.mul_lt_mul'' ha hb
theorem add_lt {i j : Int} {a : Nat} (ha : i.natAbs < 2 ^ a) (hb : j.natAbs < 2 ^ a) : (i + j).natAbs < 2 ^ (a + 1) := by
  rw [Nat.pow_succ]
  omega
theorem add_eq (a b : Rat) : Rat.divInt (a.num * b.den + b.num * a.den) (a.den * b.den) = a + b := by
  rw [← Rat.divInt_add_divInt _ _ (den_ne' a) (den_ne' b), Rat.num_divInt_den, Rat.num_divInt_den]
theorem mul_eq (a b : Rat) : Rat.divInt (a.num * b.num) (a.den * b.den) = a * b := by
  rw [← Rat.divInt_mul_divInt, Rat.num_divInt_den, Rat.num_divInt_den]
theorem div_eq (a b : Rat) : Rat.divInt (a.num * b.den) (a.den * b.num) = a / b := by
  have e : b⁻¹ = Rat.divInt b.den b.num := by
    rw [← Rat.inv_divInt, Rat.num_divInt_den]
  rw [Rat.div_def, e, ← Rat.divInt_mul_divInt, Rat.num_divInt_den]
theorem num_pos {b : Rat} (h : 0 < b) : 0 < b.num := by
  have q := (Rat.lt_iff 0 b).mp h
  simpa using q
theorem add_sz {a b : Rat} {n m : Nat} (ha : Sz n a) (hb : Sz m b) : (a.num * b.den + b.num * a.den).natAbs < 2 ^ (n + m + 1) ∧ ((a.den : Int) * b.den).natAbs < 2 ^ (n + m + 1) := by
  refine ⟨add_lt (mul_lt ha.num hb.den') ?_, ?_⟩
  · have := mul_lt hb.num ha.den'
    rw [Nat.add_comm] at this
    exact this
  · exact Nat.lt_of_lt_of_le (mul_lt ha.den' hb.den') (Nat.pow_le_pow_right (by decide) (Nat.le_succ _))
theorem sz_add {a b : Rat} {n m : Nat} (ha : Sz n a) (hb : Sz m b) : Sz (n + m + 1) (a + b) := by
  rw [← add_eq]
  exact sz_mk (Int.mul_pos (den_pos' a) (den_pos' b)) (add_sz ha hb).1 (add_sz ha hb).2
theorem sz_neg {a : Rat} {n : Nat} (ha : Sz n a) : Sz n (-a) := ⟨by rw [Rat.neg_num, Int.natAbs_neg]; exact ha.num, by rw [Rat.neg_den]; exact ha.den⟩
theorem less_iff (a b : Rat) : (a.num * b.den < b.num * a.den) ↔ a < b := (Rat.lt_iff a b).symm
/-! ### Euclid -/
def euc : Nat → Nat × Nat → Nat × Nat
  | 0, p => p
  | k + 1, p => if p.2 = 0 then p else euc k (p.2, p.1 % p.2)
theorem euc_gcd : ∀ (k : Nat) (a b : Nat), Nat.gcd (euc k (a, b)).1 (euc k (a, b)).2 = Nat.gcd a b
  | 0, _, _ => rfl
  | k + 1, a, b => by
    unfold euc
    by_cases h : b = 0
    · rw [if_pos h]
    · rw [if_neg h]
      show Nat.gcd (euc k (b, a % b)).1 (euc k (b, a % b)).2 = _
      rw [euc_gcd k b (a % b), Nat.gcd_comm b, ← Nat.gcd_rec, Nat.gcd_comm]
theorem mod_half {a b : Nat} (hb : 0 < b) (h : b ≤ a) : 2 * (b * (a % b)) ≤ a * b := by
  have h1 : a % b < b := Nat.mod_lt _ hb
  have h2 := Nat.div_add_mod a b
  have h3 : 1 ≤ a / b := Nat.div_pos h hb
  have h4 : b * 1 ≤ b * (a / b) := Nat.mul_le_mul_left _ h3
  have h5 : 2 * (a % b) ≤ a := by omega
  calc 2 * (b * (a % b)) = (2 * (a % b)) * b := by rw [Nat.mul_comm b, Nat.mul_assoc]
    _ ≤ a * b := Nat.mul_le_mul_right _ h5
/-- with the larger one ahead: the product is halved at each turn -/
theorem euc_end0 : ∀ (k : Nat) (a b : Nat), b ≤ a → a * b < 2 ^ k → (euc (k + 1) (a, b)).2 = 0 ∨ (euc k (a, b)).2 = 0
  | 0, a, b, hba, h => by
    have hb : b = 0 := by
      cases b with
      | zero => rfl
      | succ b =>
        have : 1 ≤ a * (b + 1) := Nat.mul_pos (by omega) (by omega)
        omega
    right
    show b = 0
    exact hb
  | k + 1, a, b, hba, h => by
    by_cases hb : b = 0
    · right
      unfold euc
      rw [if_pos hb]
      exact hb
    · have hl : a % b ≤ b := Nat.le_of_lt (Nat.mod_lt _ (by omega))
      have hp : b * (a % b) < 2 ^ k := by
        have := mod_half (by omega) hba
        rw [Nat.pow_succ] at h
        omega
      have q := euc_end0 k b (a % b) hl hp
      have e1 : euc (k + 1 + 1) (a, b) = euc (k + 1) (b, a % b) := by rw [euc, if_neg hb]
      have e2 : euc (k + 1) (a, b) = euc k (b, a % b) := by rw [euc, if_neg hb]
      rw [e1, e2]
      exact q
theorem euc_stay : ∀ (k : Nat) (p : Nat × Nat), (euc k p).2 = 0 → euc (k + 1) p = euc k p
  | 0, p, h => by
    have h0 : p.2 = 0 := h
    show (if p.2 = 0 then p else euc 0 (p.2, p.1 % p.2)) = p
    rw [if_pos h0]
  | k + 1, p, h => by
    unfold euc
    by_cases hp : p.2 = 0
    · rw [if_pos hp, if_pos hp]
    · rw [if_neg hp, if_neg hp]
      refine euc_stay k _ ?_
      rw [euc, if_neg hp] at h
      exact h
theorem euc_stays {k : Nat} {p : Nat × Nat} (h : (euc k p).2 = 0) : ∀ m, euc (k + m) p = euc k p
  | 0 => rfl
  | m + 1 => by
    have ih := euc_stays h m
    rw [← Nat.add_assoc, euc_stay (k + m) p (by rw [ih]; exact h), ih]
theorem euc_end {n a b : Nat} (ha : a < 2 ^ n) (hb : b < 2 ^ n) : (euc (2 * n + 2) (a, b)).2 = 0 := by
  have key : ∀ (a b : Nat), b ≤ a → a < 2 ^ n → b < 2 ^ n → (euc (2 * n + 1) (a, b)).2 = 0 := fun a b h ha hb => by
    have hp : a * b < 2 ^ (2 * n) := by
      rw [show 2 * n = n + n by omega, Nat.pow_add]
      exact Nat.mul_lt_mul'' ha hb
    rcases euc_end0 (2 * n) a b h hp with q | q
    · exact q
    · rw [euc_stay _ _ q]
      exact q
  by_cases h : b ≤ a
  · have q := key a b h ha hb
    rw [euc_stay _ _ q]
    exact q
  · have hb0 : b ≠ 0 := by omega
    rw [euc, if_neg hb0]
    show (euc (2 * n + 1) (b, a % b)).2 = 0
    rw [Nat.mod_eq_of_lt (by omega)]
    exact key b a (by omega) hb ha
/-- one more turn, at the end -/
theorem euc_next : ∀ (k : Nat) (p : Nat × Nat), (euc k p).2 ≠ 0 → euc (k + 1) p = ((euc k p).2, (euc k p).1 % (euc k p).2)
  | 0, p, h => by
    have h0 : p.2 ≠ 0 := h
    show (if p.2 = 0 then p else euc 0 (p.2, p.1 % p.2)) = (p.2, p.1 % p.2)
    rw [if_neg h0]
    rfl
  | k + 1, p, h => by
    by_cases hp : p.2 = 0
    · rw [euc, if_pos hp] at h
      exact absurd hp h
    · have e : euc (k + 1) p = euc k (p.2, p.1 % p.2) := by rw [euc, if_neg hp]
      rw [e] at h ⊢
      have e2 : euc (k + 1 + 1) p = euc (k + 1) (p.2, p.1 % p.2) := by rw [euc, if_neg hp]
      rw [e2]
      exact euc_next k _ h
/-- what the loop leaves in its first name -/
theorem euc_first {n a b : Nat} (ha : a < 2 ^ n) (hb : b < 2 ^ n) (k : Nat) (h : (euc k (a, b)).2 = 0 ∨ 2 * n + 2 ≤ k) : (euc k (a, b)).2 = 0 ∧ (euc k (a, b)).1 = Nat.gcd a b := by
  have h0 : (euc k (a, b)).2 = 0 := by
    rcases h with h | h
    · exact h
    · have q := euc_end ha hb
      have e := euc_stays q (k - (2 * n + 2))
      rw [show 2 * n + 2 + (k - (2 * n + 2)) = k by omega] at e
      rw [e]
      exact q
  refine ⟨h0, ?_⟩
  have g := euc_gcd k a b
  rw [h0, Nat.gcd_zero_right] at g
  exact g
/-! ### pieces -/
def Asc (n : Nat) (x : Nat → Rat) : Prop := ∀ i, i < n → x i < x (i + 1)
theorem Asc.lt {n : Nat} {x : Nat → Rat} (h : Asc n x) {i : Nat} : ∀ {j : Nat}, i < j → j ≤ n → x i < x j
  | 0, h1, _ => absurd h1 (Nat.not_lt_zero _)
  | j + 1, h1, h2 => by
    have hj := h j h2
    by_cases e : i = j
    · rw [e]
      exact hj
    · have := h.lt (i := i) (j := j) (by omega) (by omega)
      grind
theorem Asc.le {n : Nat} {x : Nat → Rat} (h : Asc n x) {i j : Nat} (h1 : i ≤ j) (h2 : j ≤ n) : x i ≤ x j := by
  by_cases e : i = j
  · rw [e]
    exact Rat.le_refl
  · have := h.lt (i := i) (j := j) (by omega) h2
    grind
/-- k is the piece of v among n pieces -/
structure PieceIs (n : Nat) (x : Nat → Rat) (v : Rat) (k : Nat) : Prop where
  lt : k < n
  low : k = 0 ∨ x k ≤ v
  high : ∀ j, k < j → j < n → v < x j
theorem PieceIs.eq {n : Nat} {x : Nat → Rat} {v : Rat} {k i : Nat} (p : PieceIs n x v k) (h : Asc n x) (hi : i < n) (h1 : x i ≤ v) (h2 : v < x (i + 1)) : k = i := by
  by_cases a : k < i
  · have := p.high i a hi
    grind
  · by_cases b : i < k
    · rcases p.low with e | e
      · omega
      · have := h.le (i := i + 1) (j := k) (by omega) (by have := p.lt; omega)
        grind
    · omega
theorem PieceIs.mem {n : Nat} {x : Nat → Rat} {v : Rat} {k : Nat} (p : PieceIs n x v k) (h1 : x 0 ≤ v) (h2 : v ≤ x n) : x k ≤ v ∧ v ≤ x (k + 1) := by
  refine ⟨?_, ?_⟩
  · rcases p.low with e | e
    · rw [e]
      exact h1
    · exact e
  · by_cases c : k + 1 < n
    · have := p.high (k + 1) (by omega) c
      grind
    · have e : k + 1 = n := by have := p.lt; omega
      rw [e]
      exact h2
/-! ### gains -/
def gain (s p : Nat → Rat) (v : Rat) (i j : Nat) : Rat := v * (s j - s i) - (p j - p i)
def NoGain (n : Nat) (x s p : Nat → Rat) : Prop := ∀ i j, i < n → j < n → gain s p (x i) i j ≤ 0 ∧ gain s p (x (i + 1)) i j ≤ 0
/-- a right lie -/
structure LieIs (n : Nat) (x s p : Nat → Rat) (t u g : Rat) : Prop where
  ex : ∃ i j, i < n ∧ j < n ∧ u = x j ∧ x i ≤ t ∧ t < x (i + 1) ∧ g = gain s p t i j ∧ 0 < g
def AscS (n : Nat) (s : Nat → Rat) : Prop := ∀ k, 0 < k → k < n → ¬ s k < s (k - 1)
theorem noGain_asc {n : Nat} {x s p : Nat → Rat} (h : Asc n x) (g : NoGain n x s p) : AscS n s := fun k h0 h1 c => by
  have a := (g (k - 1) k (by omega) h1).1
  have b := (g k (k - 1) h1 (by omega)).2
  have l := h.lt (i := k - 1) (j := k + 1) (by omega) (by omega)
  have m : 0 < (x (k + 1) - x (k - 1)) * (s (k - 1) - s k) := Rat.mul_pos (by grind) (by grind)
  unfold gain at a b
  grind
/-- tolls, all of them by c more -/
structure TollIs (n : Nat) (x s p : Nat → Rat) : Prop where
  step : ∀ k, 0 < k → k < n → p k = p (k - 1) + x k * (s k - s (k - 1))
theorem toll_up {n : Nat} {x s p : Nat → Rat} (h : Asc n x) (a : AscS n s) (t : TollIs n x s p) {i : Nat} {v : Rat} (hv : v ≤ x (i + 1)) : ∀ {j : Nat}, i ≤ j → j < n → gain s p v i j ≤ 0
  | 0, h1, h2 => by
    have e : i = 0 := by omega
    unfold gain
    rw [e]
    grind
  | j + 1, h1, h2 => by
    by_cases e : i = j + 1
    · unfold gain
      rw [e]
      grind
    · have ih := toll_up h a t hv (j := j) (by omega) (by omega)
      have st := t.step (j + 1) (by omega) h2
      have as := a (j + 1) (by omega) h2
      rw [Nat.add_sub_cancel] at st as
      have l := h.le (i := i + 1) (j := j + 1) (by omega) (by omega)
      have m : 0 ≤ (x (j + 1) - v) * (s (j + 1) - s j) := Rat.mul_nonneg (by grind) (by grind)
      unfold gain at ih ⊢
      rw [st]
      grind
theorem toll_down {n : Nat} {x s p : Nat → Rat} (h : Asc n x) (a : AscS n s) (t : TollIs n x s p) {j : Nat} {v : Rat} : ∀ {i : Nat}, j ≤ i → i < n → x i ≤ v → gain s p v i j ≤ 0
  | 0, h1, h2, _ => by
    have e : j = 0 := by omega
    unfold gain
    rw [e]
    grind
  | i + 1, h1, h2, hv => by
    by_cases e : j = i + 1
    · unfold gain
      rw [e]
      grind
    · have l := h i (by omega)
      have ih := toll_down h a t (i := i) (j := j) (v := v) (by omega) (by omega) (by grind)
      have st := t.step (i + 1) (by omega) h2
      have as := a (i + 1) (by omega) h2
      rw [Nat.add_sub_cancel] at st as
      have m : 0 ≤ (v - x (i + 1)) * (s (i + 1) - s i) := Rat.mul_nonneg (by grind) (by grind)
      unfold gain at ih ⊢
      rw [st]
      grind
theorem toll_noGain {n : Nat} {x s p : Nat → Rat} (h : Asc n x) (a : AscS n s) (t : TollIs n x s p) : NoGain n x s p := fun i j hi hj => by
  have l := h i hi
  by_cases c : i ≤ j
  · exact ⟨toll_up h a t (by grind) c hj, toll_up h a t (by grind) c hj⟩
  · have cj : j ≤ i := by omega
    exact ⟨toll_down (n := n) h a t (i := i) (j := j) cj hi (by grind), toll_down (n := n) h a t (i := i) (j := j) cj hi (by grind)⟩
/-- between the ends of a piece nothing is gained -/
theorem noGain_mid {n : Nat} {x s p : Nat → Rat} (h : Asc n x) (g : NoGain n x s p) {k m : Nat} (hk : k < n) (hm : m < n) {v : Rat} (h1 : x k ≤ v) (h2 : v ≤ x (k + 1)) : v * s m - p m ≤ v * s k - p k := by
  obtain ⟨a, b⟩ := g k m hk hm
  have l := h k hk
  unfold gain at a b
  by_cases c : 0 ≤ s m - s k
  · have : 0 ≤ (x (k + 1) - v) * (s m - s k) := Rat.mul_nonneg (by grind) c
    grind
  · have : 0 ≤ (v - x k) * (s k - s m) := Rat.mul_nonneg (by grind) (by grind)
    grind
/-- the number halfway between the zero and the end -/
theorem mid_gain {n : Nat} {x s p : Nat → Rat} (h : Asc n x) {i j : Nat} (hi : i < n) (h1 : gain s p (x i) i j ≤ 0) (h2 : 0 < gain s p (x (i + 1)) i j) :
    0 < s j - s i ∧ x i ≤ ((p j - p i) / (s j - s i) + x (i + 1)) / 2 ∧ ((p j - p i) / (s j - s i) + x (i + 1)) / 2 < x (i + 1) ∧ 0 < gain s p (((p j - p i) / (s j - s i) + x (i + 1)) / 2) i j := by
  have l := h i hi
  unfold gain at h1 h2 ⊢
  have r : 0 < s j - s i := by
    by_cases c : 0 < s j - s i
    · exact c
    · have : 0 ≤ (x (i + 1) - x i) * (s i - s j) := Rat.mul_nonneg (by grind) (by grind)
      grind
  generalize hr : s j - s i = r' at *
  generalize hp : p j - p i = d at *
  have e : d / r' * r' = d := Rat.div_mul_cancel (by grind)
  generalize hz : d / r' = z at *
  have z1 : z < x (i + 1) := by
    by_cases c : z < x (i + 1)
    · exact c
    · have : 0 ≤ (z - x (i + 1)) * r' := Rat.mul_nonneg (by grind) (by grind)
      grind
  have z2 : x i ≤ z := by
    by_cases c : x i ≤ z
    · exact c
    · have : 0 < (x i - z) * r' := Rat.mul_pos (by grind) (by grind)
      grind
  have m : 0 < (x (i + 1) - z) * r' := Rat.mul_pos (by grind) r
  refine ⟨r, by grind, by grind, by grind⟩
end Un

set_option Elab.async false
set_option linter.all false
set_option maxRecDepth 100000
/-! Fractions in the heap. -/
namespace Un
open PySem PySem.Spec PyProof.Rows L2
def top (i : Nat) : Stmt := PySem.Challenge.pw_unbent_k43_whole_lies_of_one_number.main.body.getD i (.Pass ⟨0, 0, 0, 0⟩)
abbrev FnP (K : PySem.W.Frag) (x q : Str) (st : Stmt) (dvs : List V) (f : Addr) (fd : FuncData) := FunD K x q (defArgs st) (defBody st) (defScope st) dvs [] f fd
section
variable {K : PySem.W.Frag} {H H' H1 H2 : Hp} {a l : Addr} {n m : Nat} {v : V} {x : Rat} {xs ys vs : List V} {f g : Nat → Rat}
/-- a fraction as a value -/
def Fr (K : PySem.W.Frag) (H : Hp) (n : Nat) (v : V) (x : Rat) : Prop :=
  ∃ p : Addr, v = .ref p ∧ SqT K H p [.int x.num, .int (x.den : Int)] ∧ Sz n x
/-- all that was tracked but at l is as it was -/
def Keep (l : Addr) (H H' : Hp) : Prop := ∀ b o, H b = some o → b ≠ l → H' b = some o
theorem Keep.of (e : Same H H') : Keep l H H' := fun b o h _ => e b o h
theorem Keep.trans (e : Keep l H H1) (k : Keep l H1 H2) : Keep l H H2 := fun b o h n => k b o (e b o h n) n
theorem Keep.upd {o : HO} : Keep l H (upd H l o) := fun b _ h n => by rw [upd_ne n]; exact h
theorem same_new {o : HO} (h : H a = none) : Same H (upd H a o) := fun b u e => by rw [upd_ne (ne_of_none e h)]; exact e
theorem same_upd {o : HO} (e : Same H H1) (h : H a = none) : Same H (upd H1 a o) := fun b u k => by rw [upd_ne (ne_of_none k h)]; exact e b u k
theorem Same.keepNew (e : Same H H1) (k : Keep a H1 H2) (h : H a = none) : Same H H2 := fun b u z => k b u (e b u z) (ne_of_none z h)
theorem tup_same (e : Same H H') (h : SqT K H a xs) : SqT K H' a xs := by
  rcases h with (h | ⟨o, h⟩) | h
  · exact .inl (.inl (e _ _ h))
  · exact .inl (.inr ⟨o, e _ _ h⟩)
  · exact .inr h
theorem tup_keep (e : Keep l H H') (hl : H l = some (.lst ys)) (h : SqT K H a xs) : SqT K H' a xs := by
  rcases h with (h | ⟨o, h⟩) | h
  · exact .inl (.inl (e _ _ h (ne_of h hl (by intro z; cases z))))
  · exact .inl (.inr ⟨o, e _ _ h (ne_of h hl (by intro z; cases z))⟩)
  · exact .inr h
theorem Fr.same (e : Same H H') (h : Fr K H n v x) : Fr K H' n v x := by
  obtain ⟨p, rfl, q, z⟩ := h
  exact ⟨p, rfl, tup_same e q, z⟩
theorem Fr.keep (e : Keep l H H') (hl : H l = some (.lst ys)) (h : Fr K H n v x) : Fr K H' n v x := by
  obtain ⟨p, rfl, q, z⟩ := h
  exact ⟨p, rfl, tup_keep e hl q, z⟩
theorem Fr.mono (h : Fr K H n v x) (k : n ≤ m) : Fr K H m v x := by
  obtain ⟨p, rfl, q, z⟩ := h
  exact ⟨p, rfl, q, z.mono k⟩
theorem Fr.new {p q : Int} (hq : 0 < q) (h1 : p.natAbs < 2 ^ n) (h2 : q.natAbs < 2 ^ n) (h : H a = some (.tup [.int (p / (Nat.gcd p.natAbs q.natAbs : Nat)), .int (q / (Nat.gcd p.natAbs q.natAbs : Nat))])) : Fr K H n (.ref a) (Rat.divInt p q) := by
  refine ⟨a, rfl, ?_, sz_mk hq h1 h2⟩
  rw [num_mk hq, den_mk hq]
  exact SqT.of h
/-- a written pair that is a fraction -/
theorem Fr.lit {p q : Int} (hn : x.num = p) (hd : (x.den : Int) = q) (hz : Sz n x) (h : H a = some (.tup [.int p, .int q])) : Fr K H n (.ref a) x := by
  refine ⟨a, rfl, ?_, hz⟩
  rw [hn, hd]
  exact SqT.of h
/-- a list of fractions, by place -/
def FrL (K : PySem.W.Frag) (H : Hp) (n : Nat) (vs : List V) (f : Nat → Rat) : Prop := ∀ i v, vs[i]? = some v → Fr K H n v (f i)
theorem FrL.same (e : Same H H') (h : FrL K H n vs f) : FrL K H' n vs f := fun i v k => (h i v k).same e
theorem FrL.keep (e : Keep l H H') (hl : H l = some (.lst ys)) (h : FrL K H n vs f) : FrL K H' n vs f := fun i v k => (h i v k).keep e hl
theorem FrL.mono (h : FrL K H n vs f) (k : n ≤ m) : FrL K H m vs f := fun i v q => (h i v q).mono k
theorem FrL.get (h : FrL K H n vs f) {i : Nat} (k : i < vs.length) : ∃ v, vs[i]? = some v ∧ Fr K H n v (f i) := ⟨vs[i], by simp [k], h i _ (by simp [k])⟩
def put (f : Nat → Rat) (k : Nat) (x : Rat) : Nat → Rat := fun i => if i = k then x else f i
theorem put_same (f : Nat → Rat) (k : Nat) (x : Rat) : put f k x k = x := if_pos rfl
theorem put_ne (f : Nat → Rat) {k i : Nat} (x : Rat) (h : i ≠ k) : put f k x i = f i := if_neg h
theorem FrL.push (h : FrL K H n vs f) (k : Fr K H n v x) : FrL K H n (vs ++ [v]) (put f vs.length x) := fun i u e => by
  by_cases c : i < vs.length
  · rw [List.getElem?_append_left c] at e
    rw [put_ne _ _ (by omega)]
    exact h i u e
  · rw [List.getElem?_append_right (by omega)] at e
    have hi : i = vs.length := by
      by_cases d : i = vs.length
      · exact d
      · rw [List.getElem?_eq_none (by simp; omega)] at e
        cases e
    subst hi
    rw [Nat.sub_self] at e
    cases e
    rw [put_same]
    exact k
theorem FrL.set (h : FrL K H n vs f) {j : Nat} (k : Fr K H n v x) : FrL K H n (vs.set j v) (put f j x) := fun i u e => by
  by_cases c : i = j
  · subst c
    rw [put_same]
    rw [List.getElem?_set] at e
    rw [if_pos rfl] at e
    split at e
    · cases e
      exact k
    · cases e
  · rw [put_ne _ _ c]
    rw [List.getElem?_set_ne (Ne.symm c)] at e
    exact h i u e
theorem FrL.nil : FrL K H n [] f := fun i v e => by simp at e
theorem FrL.ext (h : FrL K H n vs f) (k : ∀ i, i < vs.length → g i = f i) : FrL K H n vs g := fun i v e => by
  rw [k i (List.getElem?_eq_some_iff.mp e).1]
  exact h i v e
end
/-! ### the callers' words -/
section
variable {P : Program} {w : World} {K : PySem.W.Frag} {mg : Str → Option Value} {base : Heap}
/-- a def that stands under its name, all its parameters given -/
theorem cal_mk {k : Nat} {x : Str} {f : Addr} {fd : FuncData} {ps : List Str} {sp : Sp} (o : FnOk P w K mg base CX0 k f fd ps sp) (g : mg x = some (.ref f)) (kp : PySem.W.keepIn K (.ref f) = true) (b : Binds K fd ps []) : C8.Cal P w K mg base k x sp [] :=
  ⟨⟨f, fd, ps, [], o, g, kp, b, .nil⟩⟩
end
end Un

set_option Elab.async false
set_option linter.all false
set_option maxRecDepth 100000
/-! The defs of ratios. -/
namespace Un
open PySem PySem.Spec PyProof.Rows L2
abbrev sMake : Stmt := top 8
abbrev sAdd : Stmt := top 9
abbrev sNeg : Stmt := top 10
abbrev sSub : Stmt := top 11
abbrev sMul : Stmt := top 12
abbrev sDiv : Stmt := top 13
abbrev sCmp : Stmt := top 14
abbrev sSign : Stmt := top 15
/-! ### promises -/
/-- a new fraction is handed back -/
def New (K : PySem.W.Frag) (H : Hp) (Q : VK) (n : Nat) (x : Rat) : Prop := ∀ (v : V) (H' : Hp), Same H H' → Fr K H' n v x → Q v H'
def spMake (K : PySem.W.Frag) : Sp := fun vs H Q _ => ∃ (p q : Int) (n : Nat), vs = [.int p, .int q] ∧ 0 < q ∧ p.natAbs < 2 ^ n ∧ q.natAbs < 2 ^ n ∧ n ≤ 4000 ∧ New K H Q n (Rat.divInt p q)
def spAdd (K : PySem.W.Frag) : Sp := fun vs H Q _ => ∃ (u v : V) (x y : Rat) (n m : Nat), vs = [u, v] ∧ Fr K H n u x ∧ Fr K H m v y ∧ n + m ≤ 3000 ∧ New K H Q (n + m + 1) (x + y)
def spSub (K : PySem.W.Frag) : Sp := fun vs H Q _ => ∃ (u v : V) (x y : Rat) (n m : Nat), vs = [u, v] ∧ Fr K H n u x ∧ Fr K H m v y ∧ n + m ≤ 3000 ∧ New K H Q (n + m + 1) (x - y)
def spMul (K : PySem.W.Frag) : Sp := fun vs H Q _ => ∃ (u v : V) (x y : Rat) (n m : Nat), vs = [u, v] ∧ Fr K H n u x ∧ Fr K H m v y ∧ n + m ≤ 3000 ∧ New K H Q (n + m) (x * y)
def spDiv (K : PySem.W.Frag) : Sp := fun vs H Q _ => ∃ (u v : V) (x y : Rat) (n m : Nat), vs = [u, v] ∧ Fr K H n u x ∧ Fr K H m v y ∧ n + m ≤ 3000 ∧ 0 < y ∧ New K H Q (n + m) (x / y)
def spNeg (K : PySem.W.Frag) : Sp := fun vs H Q _ => ∃ (u : V) (x : Rat) (n : Nat), vs = [u] ∧ Fr K H n u x ∧ New K H Q n (-x)
/-- -1, 0 or 1 -/
def cmpI (x y : Rat) : Int := (if y < x then 1 else 0) - (if x < y then 1 else 0)
def spCmp (K : PySem.W.Frag) : Sp := fun vs H Q _ => ∃ (u v : V) (x y : Rat) (n m : Nat), vs = [u, v] ∧ Fr K H n u x ∧ Fr K H m v y ∧ n + m ≤ 3000 ∧ Q (.int (cmpI x y)) H
def spSign (K : PySem.W.Frag) : Sp := fun vs H Q _ => ∃ (u : V) (x : Rat) (n : Nat), vs = [u] ∧ Fr K H n u x ∧ n ≤ 2900 ∧ Q (.int (cmpI x 0)) H
theorem cmp_int (x y : Rat) : (if decide (0 < x.num * y.den - y.num * x.den) = true then (1 : Int) else 0) - (if decide (x.num * y.den - y.num * x.den < 0) = true then (1 : Int) else 0) = cmpI x y := by
  have h1 : (0 < x.num * y.den - y.num * x.den) ↔ y < x := by rw [← less_iff]; omega
  have h2 : (x.num * y.den - y.num * x.den < 0) ↔ x < y := by rw [← less_iff]; omega
  unfold cmpI
  simp only [decide_eq_true_eq, h1, h2]
theorem cmpI_pos (x y : Rat) : 0 < cmpI x y ↔ y < x := by
  unfold cmpI
  by_cases a : y < x
  · have b : ¬ x < y := by grind
    simp [a, b]
  · by_cases b : x < y <;> simp [a, b]
theorem cmpI_nonneg (x y : Rat) : 0 ≤ cmpI x y ↔ ¬ x < y := by
  unfold cmpI
  by_cases a : y < x
  · have b : ¬ x < y := by grind
    simp [a, b]
  · by_cases b : x < y <;> simp [a, b]
theorem lit01 {K : PySem.W.Frag} {H : Hp} {a : Addr} (h : SqT K H a [.int 0, .int 1]) : Fr K H 1 (.ref a) 0 := ⟨a, rfl, h, ⟨by decide, by decide⟩⟩
section
variable {P : Program} {w : World} {K : PySem.W.Frag} {mg : Str → Option Value} {base : Heap} {f : Addr} {fd : FuncData}
theorem scMake : FnScope ["p", "q", "divisor"] ["p", "q"] (defScope sMake) := ⟨rfl, rfl, rfl, by decide +kernel, rfl, by decide +kernel, by decide +kernel⟩
theorem ok_make {dvs : List V} (F : FnP K "make" "make" sMake dvs f fd) (gg : mg "gcd" = some (.builtin "math.gcd")) : FnOk P w K mg base CX0 1 f fd ["p", "q"] (spMake K) := by
  refine F.ok scMake (fun vs H Q E h => ?_) (fun cdv A outer s H vs Q E hr h => ⟨_, PSs.nox (pss_cons (ps_if (pt_cmpR op_eq (pv 1) pe_int (nomark _)) pss_never pss_nil)
      (pss_cons (ps_set (i := 2) scMake.nd rfl (.inl rfl) (pe_callBfun cr_gcd (by rfl) gg (pa_cons (pv 0) (pa_cons (pv 1) pa_nil))))
      (pss_cons (ps_if (pt_cmpR op_lt (pv 1) pe_int (nomark _)) pss_never pss_nil)
      (pss_one (ps_ret (pe_tup (pa_cons (pe_op op_fdivW (pv 0) (pv 2)) (pa_cons (pe_op op_fdivW (pv 1) (pv 2)) pa_nil)))))))), ?_⟩)
  · obtain ⟨p, q, n, rfl, _⟩ := h
    rfl
  · obtain ⟨p, q, n, rfl, hq, h1, h2, hn, k⟩ := h
    refine ⟨_, rfl, rfl, _, rfl, ?_⟩
    refine ite2 (fun c => ?_) (fun _ => ?_)
    · have e := V.int.inj (of_decide_eq_true c)
      omega
    refine ⟨_, rfl, _, rfl, p, q, rfl, ?_⟩
    refine ⟨_, rfl, _, _, rfl, rfl, _, rfl, ?_⟩
    refine ite2 (fun c => ?_) (fun _ => ?_)
    · have e := of_decide_eq_true c
      omega
    have gp := gcd_posi (p := p) hq
    have gi : (0 : Int) < (Nat.gcd p.natAbs q.natAbs : Nat) := Int.natCast_pos.mpr gp
    have g2 := gcd_lt (p := p) hq h2
    have n0 : 0 < n := by
      cases n with
      | zero => omega
      | succ n => exact Nat.succ_pos _
    refine ⟨_, rfl, _, rfl, _, _, rfl, rfl, wide_div gi g2 n0 (by omega), _, rfl, _, rfl, _, _, rfl, rfl, wide_div gi g2 n0 (by omega), (by show 2 ≤ sizeLine; decide), fun a ha => ?_⟩
    exact k _ _ (same_new ha) (Fr.new hq h1 h2 upd_same)
theorem scAdd : FnScope ["a", "b"] ["a", "b"] (defScope sAdd) := ⟨rfl, rfl, rfl, by decide +kernel, rfl, by decide +kernel, by decide +kernel⟩
theorem ok_add (F : FnP K "add" "add" sAdd [] f fd) (cM : C8.Cal P w K mg base 1 "make" (spMake K) []) : FnOk P w K mg base CX0 2 f fd ["a", "b"] (spAdd K) := by
  refine F.ok scAdd (fun vs H Q E h => ?_) (fun cdv A outer s H vs Q E hr h => ⟨_, PSs.nox (pss_one (ps_ret (C8.pe_c cM hr (by decide) rfl
      (pa_cons (pe_op op_add (pe_op op_mulW (pe_ix ix_tup (pv 0) pe_int (fun _ _ => rfl)) (pe_ix ix_tup (pv 1) pe_int (fun _ _ => rfl))) (pe_op op_mulW (pe_ix ix_tup (pv 1) pe_int (fun _ _ => rfl)) (pe_ix ix_tup (pv 0) pe_int (fun _ _ => rfl))))
      (pa_cons (pe_op op_mulW (pe_ix ix_tup (pv 0) pe_int (fun _ _ => rfl)) (pe_ix ix_tup (pv 1) pe_int (fun _ _ => rfl))) pa_nil))))), ?_⟩)
  · obtain ⟨u, v, x, y, n, m, rfl, _⟩ := h
    rfl
  · obtain ⟨u, v, x, y, n, m, rfl, ⟨a, rfl, ta, za⟩, ⟨b, rfl, tb, zb⟩, hnm, k⟩ := h
    have pa := za.pos
    have pb := zb.pos
    have hs := add_sz za zb
    refine ⟨_, rfl, _, _, _, _, rfl, rfl, ta, rfl, _, rfl, _, _, _, _, rfl, rfl, tb, rfl, _, _, rfl, rfl, wide_mul za.num zb.den' pa pb (by omega), ?_⟩
    refine ⟨_, rfl, _, _, _, _, rfl, rfl, tb, rfl, _, rfl, _, _, _, _, rfl, rfl, ta, rfl, _, _, rfl, rfl, wide_mul zb.num za.den' pb pa (by omega), _, _, rfl, rfl, ?_⟩
    refine ⟨_, rfl, _, _, _, _, rfl, rfl, ta, rfl, _, rfl, _, _, _, _, rfl, rfl, tb, rfl, _, _, rfl, rfl, wide_mul za.den' zb.den' pa pb (by omega), ?_⟩
    refine ⟨_, _, n + m + 1, rfl, Int.mul_pos (den_pos' x) (den_pos' y), hs.1, hs.2, by omega, ?_⟩
    rw [add_eq]
    exact k
end
end Un

set_option Elab.async false
set_option linter.all false
set_option maxRecDepth 100000
/-! The defs of ratios, the rest. -/
namespace Un
open PySem PySem.Spec PyProof.Rows L2
section
variable {P : Program} {w : World} {K : PySem.W.Frag} {mg : Str → Option Value} {base : Heap} {f : Addr} {fd : FuncData}
theorem scNeg : FnScope ["a"] ["a"] (defScope sNeg) := ⟨rfl, rfl, rfl, by decide +kernel, rfl, by decide +kernel, by decide +kernel⟩
theorem ok_neg (F : FnP K "negate" "negate" sNeg [] f fd) : FnOk P w K mg base CX0 1 f fd ["a"] (spNeg K) := by
  refine F.ok scNeg (fun vs H Q E h => ?_) (fun cdv A outer s H vs Q E hr h => ⟨_, PSs.nox (pss_one (ps_ret (pe_tup (pa_cons (pe_un un_neg (pe_ix ix_tup (pv 0) pe_int (fun _ _ => rfl))) (pa_cons (pe_ix ix_tup (pv 0) pe_int (fun _ _ => rfl)) pa_nil))))), ?_⟩)
  · obtain ⟨u, x, n, rfl, _⟩ := h
    rfl
  · obtain ⟨u, x, n, rfl, ⟨a, rfl, ta, za⟩, k⟩ := h
    refine ⟨_, rfl, _, _, _, _, rfl, rfl, ta, rfl, _, rfl, _, rfl, _, _, _, _, rfl, rfl, ta, rfl, (by show 2 ≤ sizeLine; decide), fun p hp => ?_⟩
    exact k _ _ (same_new hp) (Fr.lit (Rat.neg_num x) (by rw [Rat.neg_den]) (sz_neg za) upd_same)
theorem scSub : FnScope ["a", "b"] ["a", "b"] (defScope sSub) := ⟨rfl, rfl, rfl, by decide +kernel, rfl, by decide +kernel, by decide +kernel⟩
theorem ok_sub (F : FnP K "subtract" "subtract" sSub [] f fd) (cA : C8.Cal P w K mg base 2 "add" (spAdd K) []) (cN : C8.Cal P w K mg base 1 "negate" (spNeg K) []) : FnOk P w K mg base CX0 3 f fd ["a", "b"] (spSub K) := by
  refine F.ok scSub (fun vs H Q E h => ?_) (fun cdv A outer s H vs Q E hr h => ⟨_, PSs.nox (pss_one (ps_ret (C8.pe_c cA hr (by decide) rfl
      (pa_cons (pv 0) (pa_cons (C8.pe_c cN hr (by decide) rfl (pa_cons (pv 1) pa_nil)) pa_nil))))), ?_⟩)
  · obtain ⟨u, v, x, y, n, m, rfl, _⟩ := h
    rfl
  · obtain ⟨u, v, x, y, n, m, rfl, fx, fy, hnm, k⟩ := h
    refine ⟨_, rfl, _, rfl, v, y, m, rfl, fy, fun v1 H1 s1 f1 => ?_⟩
    refine ⟨u, v1, x, -y, n, m, rfl, fx.same s1, f1, hnm, fun v2 H2 s2 f2 => ?_⟩
    rw [← Rat.sub_eq_add_neg] at f2
    exact k v2 H2 (s1.trans s2) f2
theorem scMul : FnScope ["a", "b"] ["a", "b"] (defScope sMul) := ⟨rfl, rfl, rfl, by decide +kernel, rfl, by decide +kernel, by decide +kernel⟩
theorem ok_mul (F : FnP K "multiply" "multiply" sMul [] f fd) (cM : C8.Cal P w K mg base 1 "make" (spMake K) []) : FnOk P w K mg base CX0 2 f fd ["a", "b"] (spMul K) := by
  refine F.ok scMul (fun vs H Q E h => ?_) (fun cdv A outer s H vs Q E hr h => ⟨_, PSs.nox (pss_one (ps_ret (C8.pe_c cM hr (by decide) rfl
      (pa_cons (pe_op op_mulW (pe_ix ix_tup (pv 0) pe_int (fun _ _ => rfl)) (pe_ix ix_tup (pv 1) pe_int (fun _ _ => rfl)))
      (pa_cons (pe_op op_mulW (pe_ix ix_tup (pv 0) pe_int (fun _ _ => rfl)) (pe_ix ix_tup (pv 1) pe_int (fun _ _ => rfl))) pa_nil))))), ?_⟩)
  · obtain ⟨u, v, x, y, n, m, rfl, _⟩ := h
    rfl
  · obtain ⟨u, v, x, y, n, m, rfl, ⟨a, rfl, ta, za⟩, ⟨b, rfl, tb, zb⟩, hnm, k⟩ := h
    have pa := za.pos
    have pb := zb.pos
    refine ⟨_, rfl, _, _, _, _, rfl, rfl, ta, rfl, _, rfl, _, _, _, _, rfl, rfl, tb, rfl, _, _, rfl, rfl, wide_mul za.num zb.num pa pb (by omega), ?_⟩
    refine ⟨_, rfl, _, _, _, _, rfl, rfl, ta, rfl, _, rfl, _, _, _, _, rfl, rfl, tb, rfl, _, _, rfl, rfl, wide_mul za.den' zb.den' pa pb (by omega), ?_⟩
    refine ⟨_, _, n + m, rfl, Int.mul_pos (den_pos' x) (den_pos' y), mul_lt za.num zb.num, mul_lt za.den' zb.den', by omega, ?_⟩
    rw [mul_eq]
    exact k
theorem scDiv : FnScope ["a", "b"] ["a", "b"] (defScope sDiv) := ⟨rfl, rfl, rfl, by decide +kernel, rfl, by decide +kernel, by decide +kernel⟩
theorem ok_div (F : FnP K "divide" "divide" sDiv [] f fd) (cM : C8.Cal P w K mg base 1 "make" (spMake K) []) : FnOk P w K mg base CX0 2 f fd ["a", "b"] (spDiv K) := by
  refine F.ok scDiv (fun vs H Q E h => ?_) (fun cdv A outer s H vs Q E hr h => ⟨_, PSs.nox (pss_one (ps_ret (C8.pe_c cM hr (by decide) rfl
      (pa_cons (pe_op op_mulW (pe_ix ix_tup (pv 0) pe_int (fun _ _ => rfl)) (pe_ix ix_tup (pv 1) pe_int (fun _ _ => rfl)))
      (pa_cons (pe_op op_mulW (pe_ix ix_tup (pv 0) pe_int (fun _ _ => rfl)) (pe_ix ix_tup (pv 1) pe_int (fun _ _ => rfl))) pa_nil))))), ?_⟩)
  · obtain ⟨u, v, x, y, n, m, rfl, _⟩ := h
    rfl
  · obtain ⟨u, v, x, y, n, m, rfl, ⟨a, rfl, ta, za⟩, ⟨b, rfl, tb, zb⟩, hnm, hy, k⟩ := h
    have pa := za.pos
    have pb := zb.pos
    refine ⟨_, rfl, _, _, _, _, rfl, rfl, ta, rfl, _, rfl, _, _, _, _, rfl, rfl, tb, rfl, _, _, rfl, rfl, wide_mul za.num zb.den' pa pb (by omega), ?_⟩
    refine ⟨_, rfl, _, _, _, _, rfl, rfl, ta, rfl, _, rfl, _, _, _, _, rfl, rfl, tb, rfl, _, _, rfl, rfl, wide_mul za.den' zb.num pa pb (by omega), ?_⟩
    refine ⟨_, _, n + m, rfl, Int.mul_pos (den_pos' x) (num_pos hy), mul_lt za.num zb.den', mul_lt za.den' zb.num, by omega, ?_⟩
    rw [div_eq]
    exact k
theorem scCmp : FnScope ["a", "b", "difference"] ["a", "b"] (defScope sCmp) := ⟨rfl, rfl, rfl, by decide +kernel, rfl, by decide +kernel, by decide +kernel⟩
theorem ok_cmp (F : FnP K "compare" "compare" sCmp [] f fd) (gi : mg "int" = none) : FnOk P w K mg base CX0 1 f fd ["a", "b"] (spCmp K) := by
  refine F.ok scCmp (fun vs H Q E h => ?_) (fun cdv A outer s H vs Q E hr h => ⟨_, PSs.nox (pss_cons (ps_set (i := 2) scCmp.nd rfl (.inl rfl) 
      (pe_op op_sub (pe_op op_mulW (pe_ix ix_tup (pv 0) pe_int (fun _ _ => rfl)) (pe_ix ix_tup (pv 1) pe_int (fun _ _ => rfl))) (pe_op op_mulW (pe_ix ix_tup (pv 1) pe_int (fun _ _ => rfl)) (pe_ix ix_tup (pv 0) pe_int (fun _ _ => rfl)))))
      (pss_one (ps_ret (pe_op op_sub (pe_callTy call_int1 (by rfl) gi (by decide +kernel) (pa_cons (pe_cmpR op_gt (pv 2) pe_int (nomark _)) pa_nil)) (pe_callTy call_int1 (by rfl) gi (by decide +kernel) (pa_cons (pe_cmpR op_lt (pv 2) pe_int (nomark _)) pa_nil)))))), ?_⟩)
  · obtain ⟨u, v, x, y, n, m, rfl, _⟩ := h
    rfl
  · obtain ⟨u, v, x, y, n, m, rfl, ⟨a, rfl, ta, za⟩, ⟨b, rfl, tb, zb⟩, hnm, k⟩ := h
    have pa := za.pos
    have pb := zb.pos
    refine ⟨_, rfl, _, _, _, _, rfl, rfl, ta, rfl, _, rfl, _, _, _, _, rfl, rfl, tb, rfl, _, _, rfl, rfl, wide_mul za.num zb.den' pa pb (by omega), ?_⟩
    refine ⟨_, rfl, _, _, _, _, rfl, rfl, tb, rfl, _, rfl, _, _, _, _, rfl, rfl, ta, rfl, _, _, rfl, rfl, wide_mul zb.num za.den' pb pa (by omega), _, _, rfl, rfl, ?_⟩
    refine ⟨_, rfl, _, _, rfl, rfl, .inr ⟨_, rfl, ?_⟩⟩
    refine ⟨_, rfl, _, _, rfl, rfl, .inr ⟨_, rfl, ?_⟩⟩
    refine ⟨_, _, rfl, rfl, ?_⟩
    show Q (V.int (_ - _)) H
    rw [cmp_int]
    exact k
theorem scSign : FnScope ["a"] ["a"] (defScope sSign) := ⟨rfl, rfl, rfl, by decide +kernel, rfl, by decide +kernel, by decide +kernel⟩
theorem ok_sign (F : FnP K "sign" "sign" sSign [] f fd) (cC : C8.Cal P w K mg base 1 "compare" (spCmp K) []) {aZ : Addr} (gZ : mg "ZERO" = some (.ref aZ)) (tZ : ∀ H, SqT K H aZ [.int 0, .int 1]) : FnOk P w K mg base CX0 2 f fd ["a"] (spSign K) := by
  refine F.ok scSign (fun vs H Q E h => ?_) (fun cdv A outer s H vs Q E hr h => ⟨_, PSs.nox (pss_one (ps_ret (C8.pe_c cC hr (by decide) rfl (pa_cons (pv 0) (pa_cons (pe_glob rfl gZ (v := .ref aZ) rfl) pa_nil))))), ?_⟩)
  · obtain ⟨u, x, n, rfl, _⟩ := h
    rfl
  · obtain ⟨u, x, n, rfl, fx, hn, k⟩ := h
    exact ⟨_, rfl, u, _, x, 0, n, 1, rfl, fx, lit01 (tZ H), by omega, k⟩
end
end Un

set_option Elab.async false
set_option linter.all false
set_option maxRecDepth 100000
/-! The class Thresholds: its state, start, end, gain, gaining. -/
namespace Un
open PySem PySem.Spec PyProof.Rows L2
abbrev sTInit : Stmt := inClass (top 18) 0
abbrev sStart : Stmt := inClass (top 18) 1
abbrev sEnd : Stmt := inClass (top 18) 2
abbrev sGain : Stmt := inClass (top 18) 6
abbrev sLie : Stmt := inClass (top 18) 7
abbrev sGaining : Stmt := inClass (top 18) 8
/-! ### the fields -/
def flds (lo hi : V) (c s : Addr) : List (Str × V) := putF "shares" (.ref s) (putF "cuts" (.ref c) (putF "high" hi (putF "low" lo [])))
theorem flds_shares (lo hi : V) (c s : Addr) : (flds lo hi c s).lookup ("shares" : Str) = some (.ref s) := by
  unfold flds
  rw [lookup_putF, if_pos rfl]
theorem flds_cuts (lo hi : V) (c s : Addr) : (flds lo hi c s).lookup ("cuts" : Str) = some (.ref c) := by
  unfold flds
  rw [lookup_putF, if_neg (by decide +kernel), lookup_putF, if_pos rfl]
theorem flds_high (lo hi : V) (c s : Addr) : (flds lo hi c s).lookup ("high" : Str) = some hi := by
  unfold flds
  rw [lookup_putF, if_neg (by decide +kernel), lookup_putF, if_neg (by decide +kernel), lookup_putF, if_pos rfl]
theorem flds_low (lo hi : V) (c s : Addr) : (flds lo hi c s).lookup ("low" : Str) = some lo := by
  unfold flds
  rw [lookup_putF, if_neg (by decide +kernel), lookup_putF, if_neg (by decide +kernel), lookup_putF, if_neg (by decide +kernel), lookup_putF, if_pos rfl]
theorem flds_no (lo hi : V) (c s : Addr) {m : Str} (h1 : ¬ m = "shares") (h2 : ¬ m = "cuts") (h3 : ¬ m = "high") (h4 : ¬ m = "low") : (flds lo hi c s).lookup m = none := by
  unfold flds
  rw [lookup_putF, if_neg h1, lookup_putF, if_neg h2, lookup_putF, if_neg h3, lookup_putF, if_neg h4]
  all_goals rfl
structure ThTxt (K : PySem.W.Frag) (C : Addr) : Prop where
  cl : Cls K C
  nLow : NoAttr K C "low"
  nHigh : NoAttr K C "high"
  nCuts : NoAttr K C "cuts"
  nShares : NoAttr K C "shares"
/-- a Thresholds at o, its cuts at c, its shares at sh: n pieces, the points x 0 .. x n, the shares s -/
structure Made (K : PySem.W.Frag) (C : Addr) (H : Hp) (o c sh : Addr) (n : Nat) (x s : Nat → Rat) : Prop where
  ob : ∃ (dx : Addr) (lo hi : V), H o = some (.ins C dx (flds lo hi c sh)) ∧ Fr K H 24 lo (x 0) ∧ Fr K H 24 hi (x n)
  cu : ∃ cv : List V, H c = some (.lst cv) ∧ cv.length + 1 = n ∧ ∀ i v, cv[i]? = some v → Fr K H 24 v (x (i + 1))
  sh : ∃ sv : List V, H sh = some (.lst sv) ∧ sv.length = n ∧ FrL K H 3 sv s
section
variable {K : PySem.W.Frag} {C : Addr} {H H' : Hp} {o c sh l pa : Addr} {n : Nat} {x s p : Nat → Rat} {ys pv : List V}
theorem Made.same (e : Same H H') (h : Made K C H o c sh n x s) : Made K C H' o c sh n x s := by
  obtain ⟨⟨dx, lo, hi, h1, h2, h3⟩, ⟨cv, h4, h5, h6⟩, ⟨sv, h7, h8, h9⟩⟩ := h
  exact ⟨⟨dx, lo, hi, e _ _ h1, h2.same e, h3.same e⟩, ⟨cv, e _ _ h4, h5, fun i v q => (h6 i v q).same e⟩, ⟨sv, e _ _ h7, h8, h9.same e⟩⟩
theorem Made.keep (e : Keep l H H') (hl : H l = some (.lst ys)) (nc : c ≠ l) (ns : sh ≠ l) (h : Made K C H o c sh n x s) : Made K C H' o c sh n x s := by
  obtain ⟨⟨dx, lo, hi, h1, h2, h3⟩, ⟨cv, h4, h5, h6⟩, ⟨sv, h7, h8, h9⟩⟩ := h
  exact ⟨⟨dx, lo, hi, e _ _ h1 (ne_of h1 hl (by intro z; cases z)), h2.keep e hl, h3.keep e hl⟩, ⟨cv, e _ _ h4 nc, h5, fun i v q => (h6 i v q).keep e hl⟩, ⟨sv, e _ _ h7 ns, h8, h9.keep e hl⟩⟩
/-- payments for n pieces -/
structure Pay (K : PySem.W.Frag) (H : Hp) (pa : Addr) (pv : List V) (n : Nat) (p : Nat → Rat) : Prop where
  sq : SqL K H pa pv
  len : pv.length = n
  fr : FrL K H 120 pv p
theorem Pay.same (e : Same H H') (h : Pay K H pa pv n p) : Pay K H' pa pv n p := ⟨e.seq h.sq, h.len, h.fr.same e⟩
end
/-! ### promises -/
def spStart (K : PySem.W.Frag) (C : Addr) : Sp := fun vs H Q _ => ∃ (o c sh : Addr) (n : Nat) (x s : Nat → Rat) (i : Nat), vs = [.ref o, .int i] ∧ Made K C H o c sh n x s ∧ i < n ∧ ∀ v, Fr K H 24 v (x i) → Q v H
def spEnd (K : PySem.W.Frag) (C : Addr) : Sp := fun vs H Q _ => ∃ (o c sh : Addr) (n : Nat) (x s : Nat → Rat) (i : Nat), vs = [.ref o, .int i] ∧ Made K C H o c sh n x s ∧ i < n ∧ ∀ v, Fr K H 24 v (x (i + 1)) → Q v H
def spGain (K : PySem.W.Frag) (C : Addr) : Sp := fun vs H Q _ => ∃ (o c sh pa : Addr) (n : Nat) (x s p : Nat → Rat) (pv : List V) (u : V) (t : Rat) (m i j : Nat), vs = [.ref o, .ref pa, u, .int i, .int j] ∧ Made K C H o c sh n x s ∧ Pay K H pa pv n p ∧ Fr K H m u t ∧ m ≤ 1000 ∧ i < n ∧ j < n ∧
  New K H Q (m + 249) (gain s p t i j)
def spGaining (K : PySem.W.Frag) (C : Addr) : Sp := fun vs H Q _ => ∃ (o c sh pa : Addr) (n : Nat) (x s p : Nat → Rat) (pv : List V) (i j : Nat), vs = [.ref o, .ref pa, .int i, .int j] ∧ Made K C H o c sh n x s ∧ Pay K H pa pv n p ∧ Asc n x ∧ i < n ∧ j < n ∧
  (∀ v H' t, Same H H' → Fr K H' 275 v t → x i ≤ t → t < x (i + 1) → 0 < gain s p t i j → Q v H') ∧ (∀ H', Same H H' → gain s p (x i) i j ≤ 0 → gain s p (x (i + 1)) i j ≤ 0 → Q .non H')
section
variable {P : Program} {w : World} {K : PySem.W.Frag} {mg : Str → Option Value} {base : Heap} {f C : Addr} {fd : FuncData}
theorem scStart : FnScope ["self", "piece"] ["self", "piece"] (defScope sStart) := ⟨rfl, rfl, rfl, by decide +kernel, rfl, by decide +kernel, by decide +kernel⟩
theorem ok_start (F : FnP K "start" "Thresholds.start" sStart [] f fd) (T : ThTxt K C) : FnOk P w K mg base CX0 1 f fd ["self", "piece"] (spStart K C) := by
  refine F.ok scStart (fun vs H Q E h => ?_) (fun cdv A outer s H vs Q E hr h => ⟨_, PSs.nox (pss_cons (ps_if (pt_cmpR op_eq (pv 1) pe_int (nomark _)) (pss_one (ps_ret (pe_fld (pv 0) rfl))) pss_nil)
      (pss_one (ps_ret (pe_ix ix_list (pe_fld (pv 0) rfl) (pe_op op_sub (pv 1) pe_int) (fun _ _ => rfl))))), ?_⟩)
  · obtain ⟨o, c, sh, n, x, s, i, rfl, _⟩ := h
    rfl
  · obtain ⟨o, c, sh, n, x, s, i, rfl, M, hi, k⟩ := h
    obtain ⟨⟨dx, lo, hi', h1, h2, h3⟩, ⟨cv, h4, h5, h6⟩, _⟩ := M
    refine ⟨_, rfl, rfl, _, rfl, ?_⟩
    refine ite2 (fun c => ?_) (fun c => ?_)
    · have e := V.int.inj (of_decide_eq_true c)
      have e0 : i = 0 := by omega
      subst e0
      exact ⟨_, rfl, o, C, dx, _, _, rfl, h1, T.cl, T.nLow, flds_low _ _ _ _, k _ h2⟩
    · have e : i ≠ 0 := fun z => c (by rw [z]; rfl)
      obtain ⟨v, hv⟩ : ∃ v, cv[i - 1]? = some v := ⟨cv[i - 1]'(by omega), by simp [show i - 1 < cv.length by omega]⟩
      have q := h6 _ _ hv
      rw [show i - 1 + 1 = i by omega] at q
      exact ⟨_, rfl, o, C, dx, _, _, rfl, h1, T.cl, T.nCuts, flds_cuts _ _ _ _, _, rfl, _, _, rfl, rfl, _, _, _, v, rfl, rfl, SqL.of h4, at_of (by omega) hv, k _ q⟩
theorem scEnd : FnScope ["self", "piece"] ["self", "piece"] (defScope sEnd) := ⟨rfl, rfl, rfl, by decide +kernel, rfl, by decide +kernel, by decide +kernel⟩
theorem ok_end (F : FnP K "end" "Thresholds.end" sEnd [] f fd) (T : ThTxt K C) (gl : mg "len" = none) : FnOk P w K mg base CX0 1 f fd ["self", "piece"] (spEnd K C) := by
  refine F.ok scEnd (fun vs H Q E h => ?_) (fun cdv A outer s H vs Q E hr h => ⟨_, PSs.nox (pss_cons (ps_if (pt_cmpR op_eq (pv 1) (pe_callB call_len_seq (by rfl) gl PySem.boot_len (pa_cons (pe_fld (pv 0) rfl) pa_nil)) (nomark _)) (pss_one (ps_ret (pe_fld (pv 0) rfl))) pss_nil)
      (pss_one (ps_ret (pe_ix ix_list (pe_fld (pv 0) rfl) (pv 1) (fun _ _ => rfl))))), ?_⟩)
  · obtain ⟨o, c, sh, n, x, s, i, rfl, _⟩ := h
    rfl
  · obtain ⟨o, c, sh, n, x, s, i, rfl, M, hi, k⟩ := h
    obtain ⟨⟨dx, lo, hi', h1, h2, h3⟩, ⟨cv, h4, h5, h6⟩, _⟩ := M
    refine ⟨_, rfl, _, rfl, o, C, dx, _, _, rfl, h1, T.cl, T.nCuts, flds_cuts _ _ _ _, c, cv, rfl, .inl (SqL.of h4), rfl, _, rfl, ?_⟩
    refine ite2 (fun z => ?_) (fun z => ?_)
    · have e := V.int.inj (of_decide_eq_true z)
      have e0 : n = i + 1 := by omega
      subst e0
      exact ⟨_, rfl, o, C, dx, _, _, rfl, h1, T.cl, T.nHigh, flds_high _ _ _ _, k _ h3⟩
    · have e : i ≠ cv.length := fun y => z (by rw [y]; exact decide_eq_true rfl)
      obtain ⟨v, hv⟩ : ∃ v, cv[i]? = some v := ⟨cv[i]'(by omega), by simp [show i < cv.length by omega]⟩
      exact ⟨_, rfl, o, C, dx, _, _, rfl, h1, T.cl, T.nCuts, flds_cuts _ _ _ _, _, rfl, _, _, _, v, rfl, rfl, SqL.of h4, at_of rfl hv, k _ (h6 _ _ hv)⟩
theorem scGain : FnScope ["self", "payments", "number", "piece", "other", "more"] ["self", "payments", "number", "piece", "other"] (defScope sGain) := ⟨rfl, rfl, rfl, by decide +kernel, rfl, by decide +kernel, by decide +kernel⟩
theorem ok_gain (F : FnP K "gain" "Thresholds.gain" sGain [] f fd) (T : ThTxt K C) (cS : C8.Cal P w K mg base 3 "subtract" (spSub K) []) (cM : C8.Cal P w K mg base 2 "multiply" (spMul K) []) : FnOk P w K mg base CX0 4 f fd ["self", "payments", "number", "piece", "other"] (spGain K C) := by
  refine F.ok scGain (fun vs H Q E h => ?_) (fun cdv A outer s H vs Q E hr h => ⟨_, PSs.nox (pss_cons (ps_set (i := 5) scGain.nd rfl (.inl rfl) (C8.pe_c cM hr (by decide) rfl (pa_cons (pv 2)
        (pa_cons (C8.pe_c cS hr (by decide) rfl (pa_cons (pe_ix ix_list (pe_fld (pv 0) rfl) (pv 4) (fun _ _ => rfl)) (pa_cons (pe_ix ix_list (pe_fld (pv 0) rfl) (pv 3) (fun _ _ => rfl)) pa_nil))) pa_nil))))
      (pss_one (ps_ret (C8.pe_c cS hr (by decide) rfl (pa_cons (pv 5) (pa_cons (C8.pe_c cS hr (by decide) rfl (pa_cons (pe_ix ix_list (pv 1) (pv 4) (fun _ _ => rfl)) (pa_cons (pe_ix ix_list (pv 1) (pv 3) (fun _ _ => rfl)) pa_nil))) pa_nil)))))), ?_⟩)
  · obtain ⟨o, c, sh, pa, n, x, s, p, pv, u, t, m, i, j, rfl, _⟩ := h
    rfl
  · obtain ⟨o, c, sh, pa, n, x, s, p, pv, u, t, m, i, j, rfl, M, Y, ft, hm, hi, hj, k⟩ := h
    obtain ⟨⟨dx, lo, hi', h1, h2, h3⟩, _, ⟨sv, h7, h8, h9⟩⟩ := M
    obtain ⟨si, e1, f1⟩ := h9.get (i := i) (by omega)
    obtain ⟨sj, e2, f2⟩ := h9.get (i := j) (by omega)
    obtain ⟨pi, e3, f3⟩ := Y.fr.get (i := i) (by have := Y.len; omega)
    obtain ⟨pj, e4, f4⟩ := Y.fr.get (i := j) (by have := Y.len; omega)
    refine ⟨_, rfl, _, rfl, o, C, dx, _, _, rfl, h1, T.cl, T.nShares, flds_shares _ _ _ _, _, rfl, _, _, _, sj, rfl, rfl, SqL.of h7, at_of rfl e2, ?_⟩
    refine ⟨_, rfl, o, C, dx, _, _, rfl, h1, T.cl, T.nShares, flds_shares _ _ _ _, _, rfl, _, _, _, si, rfl, rfl, SqL.of h7, at_of rfl e1, ?_⟩
    refine ⟨sj, si, s j, s i, 3, 3, rfl, f2, f1, by omega, fun v1 H1 s1 g1 => ?_⟩
    refine ⟨u, v1, t, s j - s i, m, 7, rfl, ft.same s1, g1, by omega, fun v2 H2 s2 g2 => ?_⟩
    have s02 := s1.trans s2
    refine ⟨_, rfl, _, rfl, _, rfl, _, _, _, pj, rfl, rfl, s02.seq Y.sq, at_of rfl e4, _, rfl, _, rfl, _, _, _, pi, rfl, rfl, s02.seq Y.sq, at_of rfl e3, ?_⟩
    refine ⟨pj, pi, p j, p i, 120, 120, rfl, f4.same s02, f3.same s02, by omega, fun v3 H3 s3 g3 => ?_⟩
    refine ⟨v2, v3, t * (s j - s i), p j - p i, m + 7, 241, rfl, g2.same s3, g3, by omega, fun v4 H4 s4 g4 => ?_⟩
    exact k v4 H4 (s02.trans (s3.trans s4)) g4
end
end Un

set_option Elab.async false
set_option linter.all false
set_option maxRecDepth 100000
/-! gaining, lie. -/
namespace Un
open PySem PySem.Spec PyProof.Rows L2
abbrev sInv : Stmt := inClass (top 4) 0
theorem lit21 {K : PySem.W.Frag} {H : Hp} {a : Addr} (h : H a = some (.tup [.int 2, .int 1])) : Fr K H 2 (.ref a) 2 := ⟨a, rfl, SqT.of h, ⟨by decide, by decide⟩⟩
/-- what lie hands back -/
structure LieOut (K : PySem.W.Frag) (H : Hp) (n : Nat) (x s p : Nat → Rat) (Q : VK) : Prop where
  non : ∀ H', Same H H' → NoGain n x s p → Q .non H'
  tup : ∀ H' a vt vu vg t u g, Same H H' → H' a = some (.tup [vt, vu, vg]) → Fr K H' 275 vt t → Fr K H' 24 vu u → Fr K H' 524 vg g → LieIs n x s p t u g → Q (.ref a) H'
def spLie (K : PySem.W.Frag) (C CI : Addr) : Sp := fun vs H Q E => ∃ (o c sh pa : Addr) (n : Nat) (x s p : Nat → Rat) (pv : List V), vs = [.ref o, .ref pa] ∧ Made K C H o c sh n x s ∧ SqL K H pa pv ∧ n ≤ 100 ∧ pv.length ≤ 100 ∧
  (pv.length ≠ n → ∀ d H', Same H H' → E (.ref CI) (some d) H') ∧ (pv.length = n → FrL K H 120 pv p ∧ Asc n x ∧ LieOut K H n x s p Q)
section
variable {P : Program} {w : World} {K : PySem.W.Frag} {mg : Str → Option Value} {base : Heap} {f C : Addr} {fd : FuncData}
theorem noM {m : Str} (h1 : ¬ m = "shares") (h2 : ¬ m = "cuts") (h3 : ¬ m = "high") (h4 : ¬ m = "low") {K : PySem.W.Frag} {H : Hp} {o c sh : Addr} {n : Nat} {x s : Nat → Rat} (M : Made K C H o c sh n x s) : ∃ dx fs, H o = some (.ins C dx fs) ∧ fs.lookup m = none := by
  obtain ⟨⟨dx, lo, hi, e, _⟩, _⟩ := M
  exact ⟨dx, _, e, flds_no _ _ _ _ h1 h2 h3 h4⟩
theorem scGaining : FnScope ["self", "payments", "piece", "other", "start", "end", "at_start", "rise", "zero"] ["self", "payments", "piece", "other"] (defScope sGaining) := ⟨rfl, rfl, rfl, by decide +kernel, rfl, by decide +kernel, by decide +kernel⟩
theorem ok_gaining (F : FnP K "gaining" "Thresholds.gaining" sGaining [] f fd) (T : ThTxt K C) (cS : C8.Cal P w K mg base 3 "subtract" (spSub K) []) (cD : C8.Cal P w K mg base 2 "divide" (spDiv K) []) (cA : C8.Cal P w K mg base 2 "add" (spAdd K) [])
    (cG : C8.Cal P w K mg base 2 "sign" (spSign K) []) (mS : C8.Met P w K mg base 1 C "start" (spStart K C) []) (mE : C8.Met P w K mg base 1 C "end" (spEnd K C) []) (mG : C8.Met P w K mg base 4 C "gain" (spGain K C) []) :
    FnOk P w K mg base CX0 5 f fd ["self", "payments", "piece", "other"] (spGaining K C) := by
  refine F.ok scGaining (fun vs H Q E h => ?_) (fun cdv A outer s H vs Q E hr h => ⟨_, PSs.nox (pss_cons (ps_set (i := 4) scGaining.nd rfl (.inl rfl) (C8.pe_mt mS hr (by decide) (pv 0) (pa_cons (pv 2) pa_nil)))
      (pss_cons (ps_set (i := 5) scGaining.nd rfl (.inl rfl) (C8.pe_mt mE hr (by decide) (pv 0) (pa_cons (pv 2) pa_nil)))
      (pss_cons (ps_set (i := 6) scGaining.nd rfl (.inl rfl) (C8.pe_mt mG hr (by decide) (pv 0) (pa_cons (pv 1) (pa_cons (pv 4) (pa_cons (pv 2) (pa_cons (pv 3) pa_nil))))))
      (pss_cons (ps_if (pt_cmpR op_gt (C8.pe_c cG hr (by decide) rfl (pa_cons (pv 6) pa_nil)) pe_int (nomark _)) (pss_one (ps_ret (pv 4))) pss_nil)
      (pss_cons (ps_if (pt_cmpR op_le (C8.pe_c cG hr (by decide) rfl (pa_cons (C8.pe_mt mG hr (by decide) (pv 0) (pa_cons (pv 1) (pa_cons (pv 5) (pa_cons (pv 2) (pa_cons (pv 3) pa_nil))))) pa_nil)) pe_int (nomark _)) (pss_one (ps_ret pe_non)) pss_nil)
      (pss_cons (ps_set (i := 7) scGaining.nd rfl (.inl rfl) (C8.pe_c cS hr (by decide) rfl (pa_cons (pe_ix ix_list (pe_fld (pv 0) rfl) (pv 3) (fun _ _ => rfl)) (pa_cons (pe_ix ix_list (pe_fld (pv 0) rfl) (pv 2) (fun _ _ => rfl)) pa_nil))))
      (pss_cons (ps_set (i := 8) scGaining.nd rfl (.inl rfl) (C8.pe_c cD hr (by decide) rfl (pa_cons (C8.pe_c cS hr (by decide) rfl (pa_cons (pe_ix ix_list (pv 1) (pv 3) (fun _ _ => rfl)) (pa_cons (pe_ix ix_list (pv 1) (pv 2) (fun _ _ => rfl)) pa_nil))) (pa_cons (pv 7) pa_nil))))
      (pss_one (ps_ret (C8.pe_c cD hr (by decide) rfl (pa_cons (C8.pe_c cA hr (by decide) rfl (pa_cons (pv 8) (pa_cons (pv 5) pa_nil))) (pa_cons (pe_tup (pa_cons pe_int (pa_cons pe_int pa_nil))) pa_nil)))))))))))), ?_⟩)
  · obtain ⟨o, c, sh, pa, n, x, s, p, pv, i, j, rfl, _⟩ := h
    rfl
  · obtain ⟨o, c, sh, pa, n, x, s, p, pv, i, j, rfl, M, Y, hx, hi, hj, kS, kN⟩ := h
    obtain ⟨dx, fs, eo, no⟩ := noM (m := "start") (by decide +kernel) (by decide +kernel) (by decide +kernel) (by decide +kernel) M
    refine ⟨_, rfl, o, dx, _, rfl, eo, no, _, rfl, o, c, sh, n, x, s, i, rfl, M, hi, fun vs1 fs1 => ?_⟩
    obtain ⟨dx, fs, eo, no⟩ := noM (m := "end") (by decide +kernel) (by decide +kernel) (by decide +kernel) (by decide +kernel) M
    refine ⟨_, rfl, o, dx, _, rfl, eo, no, _, rfl, o, c, sh, n, x, s, i, rfl, M, hi, fun ve1 fe1 => ?_⟩
    obtain ⟨dx, fs, eo, no⟩ := noM (m := "gain") (by decide +kernel) (by decide +kernel) (by decide +kernel) (by decide +kernel) M
    refine ⟨_, rfl, o, dx, _, rfl, eo, no, _, rfl, _, rfl, _, rfl, _, rfl, o, c, sh, pa, n, x, s, p, pv, vs1, x i, 24, i, j, rfl, M, Y, fs1, by decide, hi, hj, fun g1 H1 s1 fg1 => ?_⟩
    refine ⟨_, rfl, _, _, _, rfl, fg1, by decide, _, _, rfl, rfl, _, rfl, ?_⟩
    refine ite2 (fun z => ?_) (fun z => ?_)
    · have z1 := (cmpI_pos _ _).mp (of_decide_eq_true z)
      exact ⟨_, rfl, kS _ _ (x i) s1 ((fs1.same s1).mono (by decide)) Rat.le_refl (hx i hi) z1⟩
    · have z1 : gain s p (x i) i j ≤ 0 := by
        have q : ¬ 0 < gain s p (x i) i j := fun y => z (decide_eq_true ((cmpI_pos _ _).mpr y))
        grind
      have M1 := M.same s1
      have Y1 := Y.same s1
      obtain ⟨dx, fs, eo, no⟩ := noM (m := "gain") (by decide +kernel) (by decide +kernel) (by decide +kernel) (by decide +kernel) M1
      refine ⟨_, rfl, o, dx, _, rfl, eo, no, _, rfl, _, rfl, _, rfl, _, rfl, o, c, sh, pa, n, x, s, p, pv, ve1, x (i + 1), 24, i, j, rfl, M1, Y1, fe1.same s1, by decide, hi, hj, fun g2 H2 s2 fg2 => ?_⟩
      have s02 := s1.trans s2
      refine ⟨_, _, _, rfl, fg2, by decide, _, _, rfl, rfl, _, rfl, ?_⟩
      refine ite2 (fun z => ?_) (fun z => ?_)
      · have z2 : gain s p (x (i + 1)) i j ≤ 0 := by
          have q : ¬ 0 < gain s p (x (i + 1)) i j := fun y => by
            have a := (cmpI_pos _ _).mpr y
            have b := of_decide_eq_true z
            omega
          grind
        exact kN H2 s02 z1 z2
      · have z2 : 0 < gain s p (x (i + 1)) i j := by
          refine (cmpI_pos _ _).mp ?_
          have q : ¬ cmpI (gain s p (x (i + 1)) i j) 0 ≤ 0 := fun y => z (decide_eq_true y)
          omega
        obtain ⟨r, m1, m2, m3⟩ := mid_gain hx hi z1 z2
        have M2 := M.same s02
        have Y2 := Y.same s02
        obtain ⟨⟨dx, lo, hi', h1, _⟩, _, ⟨sv, h7, h8, h9⟩⟩ := id M2
        obtain ⟨si, e1, f1⟩ := h9.get (i := i) (by omega)
        obtain ⟨sj, e2, f2⟩ := h9.get (i := j) (by omega)
        refine ⟨_, rfl, o, C, dx, _, _, rfl, h1, T.cl, T.nShares, flds_shares _ _ _ _, _, rfl, _, _, _, sj, rfl, rfl, SqL.of h7, at_of rfl e2, ?_⟩
        refine ⟨_, rfl, o, C, dx, _, _, rfl, h1, T.cl, T.nShares, flds_shares _ _ _ _, _, rfl, _, _, _, si, rfl, rfl, SqL.of h7, at_of rfl e1, ?_⟩
        refine ⟨sj, si, s j, s i, 3, 3, rfl, f2, f1, by omega, fun v3 H3 s3 g3 => ?_⟩
        have Y3 := Y2.same s3
        obtain ⟨pi, e3, f3⟩ := Y3.fr.get (i := i) (by have := Y3.len; omega)
        obtain ⟨pj, e4, f4⟩ := Y3.fr.get (i := j) (by have := Y3.len; omega)
        refine ⟨_, rfl, _, rfl, _, _, _, pj, rfl, rfl, Y3.sq, at_of rfl e4, _, rfl, _, rfl, _, _, _, pi, rfl, rfl, Y3.sq, at_of rfl e3, ?_⟩
        refine ⟨pj, pi, p j, p i, 120, 120, rfl, f4, f3, by omega, fun v4 H4 s4 g4 => ?_⟩
        refine ⟨_, rfl, v4, v3, _, _, 241, 7, rfl, g4, g3.same s4, by decide, r, fun v5 H5 s5 g5 => ?_⟩
        have s25 := s3.trans (s4.trans s5)
        refine ⟨_, rfl, _, rfl, v5, ve1, _, _, 248, 24, rfl, g5, fe1.same (s02.trans s25), by decide, fun v6 H6 s6 g6 => ?_⟩
        refine ⟨by show 2 ≤ sizeLine; decide, fun q hq => ?_⟩
        refine ⟨v6, .ref q, _, 2, 273, 2, rfl, g6.same (same_new hq), lit21 upd_same, by decide, by decide, fun v7 H7 s7 g7 => ?_⟩
        exact kS v7 H7 _ (s02.trans (s25.trans (s6.trans ((same_new hq).trans s7)))) g7 m1 m2 m3
end
end Un

set_option Elab.async false
set_option linter.all false
set_option maxRecDepth 100000
/-! The error's __init__, lie. -/
namespace Un
open PySem PySem.Spec PyProof.Rows L2
def spInv (CI : Addr) : Sp := fun vs H Q _ => ∃ (a : Addr) (r : V), vs = [.ref a, r] ∧ H a = some (exo a CI none) ∧ ∀ d, H d = none → d ≠ a → Q .non (upd (upd H d (exd d [(("reason" : Str), r)])) a (exo a CI (some d)))
/-- the error's class -/
structure InvTxt (K : PySem.W.Frag) (mg : Str → Option Value) (CI fI : Addr) (fdI : FuncData) : Prop where
  ox : OexC K CI
  noR : PySem.W.findIn K (.ref CI) "reason" = some none
  iC : PySem.W.findIn K (.ref CI) "__init__" = some (some (.ref fI))
  tI : PySem.W.typeIn K (.ref fI) = some (.type "function")
  gC : mg "InvalidThresholds" = some (.ref CI)
  bI : Binds K fdI ["self", "reason"] []
section
variable {P : Program} {w : World} {K : PySem.W.Frag} {mg : Str → Option Value} {base : Heap} {f C CI fI : Addr} {fd fdI : FuncData}
theorem scInv : FnScope ["self", "reason"] ["self", "reason"] (defScope sInv) := ⟨rfl, rfl, rfl, by decide +kernel, rfl, by decide +kernel, by decide +kernel⟩
theorem ok_inv (F : FnP K "__init__" "InvalidThresholds.__init__" sInv [] fI fdI) (T : InvTxt K mg CI fI fdI) : FnOk P w K mg base CX0 1 fI fdI ["self", "reason"] (spInv CI) := by
  refine F.ok scInv (fun vs H Q E h => ?_) (fun cdv A outer s H vs Q E hr h => ⟨_, PSs.nox (pss_one (ps_ost (pv 0) (pv 1))), ?_⟩)
  · obtain ⟨a, r, rfl, _⟩ := h
    rfl
  · obtain ⟨a, r, rfl, ha, k⟩ := h
    exact ⟨_, rfl, _, rfl, a, CI, rfl, T.ox, T.noR, .inl ⟨ha, fun d hd ne => k d hd ne⟩⟩
/-- what raising the error asks -/
theorem inv_raise {H : Hp} {r : V} {E : Value → Option Addr → Hp → Prop} (h : ∀ d H', Same H H' → E (.ref CI) (some d) H') : ∀ a, H a = none → spInv CI [.ref a, r] (upd H a (exo a CI none))
    (fun v H2 => v = .non ∧ ∃ (d : Addr) (fs : List (Str × V)), H2 a = some (exo a CI (some d)) ∧ H2 d = some (exd d fs) ∧ H d = none ∧ E (.ref CI) (some d) (upd (del H2 a) d (.xd fs))) (fun _ _ _ => False) := fun a ha => by
  refine ⟨a, r, rfl, upd_same, fun d hd ne => ⟨rfl, d, _, upd_same, by rw [upd_ne ne, upd_same], ?_, h d _ fun b o e => ?_⟩⟩
  · rw [upd_ne ne] at hd
    exact hd
  · rw [upd_ne ne] at hd
    have nba : b ≠ a := ne_of_none e ha
    have nbd : b ≠ d := ne_of_none e hd
    rw [upd_ne nbd, del_ne nba, upd_ne nba, upd_ne nbd, upd_ne nba]
    exact e
theorem scLie : FnScope ["self", "payments", "piece", "other", "true"] ["self", "payments"] (defScope sLie) := ⟨rfl, rfl, rfl, by decide +kernel, rfl, by decide +kernel, by decide +kernel⟩
theorem ok_lie (F : FnP K "lie" "Thresholds.lie" sLie [] f fd) (T : ThTxt K C) (TI : InvTxt K mg CI fI fdI) (FI : FnOk P w K mg base CX0 1 fI fdI ["self", "reason"] (spInv CI)) (gl : mg "len" = none) (gr : mg "range" = none)
    (mS : C8.Met P w K mg base 1 C "start" (spStart K C) []) (mG : C8.Met P w K mg base 4 C "gain" (spGain K C) []) (mI : C8.Met P w K mg base 5 C "gaining" (spGaining K C) []) :
    FnOk P w K mg base (L2.CX P w) 6 f fd ["self", "payments"] (spLie K C CI) := by
  refine F.ok scLie (fun vs H Q E h => ?_) (fun cdv A outer s H vs Q E hr h => ⟨_, pss_cons (ps_if (pt_cmpR op_ne (pe_callB call_len_seq (by rfl) gl PySem.boot_len (pa_cons (pv 1) pa_nil)) (pe_callB call_len_seq (by rfl) gl PySem.boot_len (pa_cons (pe_fld (pv 0) rfl) pa_nil)) (nomark _))
      (pss_one (ps_raise rfl (takes_of rfl rfl rfl rfl) (pmk_oex TI.ox TI.iC TI.tI FI (hr.mono (by decide)) TI.bI .nil pass0 rfl TI.gC (pa_cons pe_str pa_nil)))) pss_nil)
      (PSs.nox (pss_cons (ps_for PassesOwn.never rfl (pi_range1 rfl gr (pa_cons (pe_callB call_len_seq (by rfl) gl PySem.boot_len (pa_cons (pe_fld (pv 0) rfl) pa_nil)) pa_nil)) (pg_name (i := 2) scLie.nd rfl (.inl rfl))
        (pss_one (ps_for PassesOwn.never rfl (pi_range1 rfl gr (pa_cons (pe_callB call_len_seq (by rfl) gl PySem.boot_len (pa_cons (pe_fld (pv 0) rfl) pa_nil)) pa_nil)) (pg_name (i := 3) scLie.nd rfl (.inl rfl))
          (pss_cons (ps_set (i := 4) scLie.nd rfl (.inl rfl) (C8.pe_mt mI hr (by decide) (pv 0) (pa_cons (pv 1) (pa_cons (pv 2) (pa_cons (pv 3) pa_nil)))))
          (pss_one (ps_if (pt_cmpR op_notN (pv 4) pe_non (nomark _)) (pss_one (ps_ret (pe_tup (pa_cons (pv 4) (pa_cons (C8.pe_mt mS hr (by decide) (pv 0) (pa_cons (pv 3) pa_nil))
            (pa_cons (C8.pe_mt mG hr (by decide) (pv 0) (pa_cons (pv 1) (pa_cons (pv 4) (pa_cons (pv 2) (pa_cons (pv 3) pa_nil))))) pa_nil)))))) pss_nil))))))
      (pss_one (ps_ret pe_non)))), ?_⟩)
  · obtain ⟨o, c, sh, pa, n, x, s, p, pv, rfl, _⟩ := h
    rfl
  · obtain ⟨o, c, sh, pa, n, x, s, p, pv, rfl, M, hS, hn, hpl, kE, kO⟩ := h
    obtain ⟨⟨dx, lo, hi', h1, _⟩, _, ⟨sv, h7, h8, h9⟩⟩ := id M
    refine ⟨_, rfl, pa, pv, rfl, .inl hS, _, rfl, o, C, dx, _, _, rfl, h1, T.cl, T.nShares, flds_shares _ _ _ _, sh, sv, rfl, .inl (SqL.of h7), rfl, _, rfl, ?_⟩
    by_cases hlen : pv.length = n
    · obtain ⟨fp, hx, out⟩ := kO hlen
      have e0 : (!decide (V.int (pv.length : Int) = V.int (sv.length : Int))) = false := by
        rw [hlen, h8, decide_eq_true rfl]
        rfl
      rw [e0]
      refine iteF ?_
      have Y : Pay K H pa pv n p := ⟨hS, hlen, fp⟩
      refine ⟨_, rfl, o, C, dx, _, _, rfl, h1, T.cl, T.nShares, flds_shares _ _ _ _, sh, sv, rfl, .inl (SqL.of h7), _, rfl, by omega, by omega, for_range (lo := 0) (n := sv.length) (fun i σ H' => ∃ a b c, σ = [some (.ref o), some (.ref pa), a, b, c] ∧ Same H H' ∧
          ∀ i', i' < i → ∀ j, j < n → gain s p (x i') i' j ≤ 0 ∧ gain s p (x (i' + 1)) i' j ≤ 0) ⟨none, none, none, rfl, Same.refl H, fun _ z => absurd z (Nat.not_lt_zero _)⟩ ?_ ?_⟩
      · rintro i σ H1 hi ⟨a, b, c', rfl, s1, g1⟩
        rw [Int.zero_add]
        have M1 := M.same s1
        have Y1 := Y.same s1
        obtain ⟨⟨dx, lo, hi', h1, _⟩, _, ⟨sv1, h7', h8', h9'⟩⟩ := id M1
        refine ⟨_, rfl, o, C, dx, _, _, rfl, h1, T.cl, T.nShares, flds_shares _ _ _ _, sh, sv1, rfl, .inl (SqL.of h7'), _, rfl, by omega, by omega, for_range (lo := 0) (n := sv1.length) (fun j σ H' => ∃ b c, σ = [some (.ref o), some (.ref pa), some (.int (i : Int)), b, c] ∧ Same H H' ∧
          ∀ j', j' < j → gain s p (x i) i j' ≤ 0 ∧ gain s p (x (i + 1)) i j' ≤ 0) ⟨b, c', rfl, s1, fun _ z => absurd z (Nat.not_lt_zero _)⟩ ?_ ?_⟩
        · rintro j σ H2 hj ⟨b, c2, rfl, s2, g2⟩
          rw [Int.zero_add]
          have M2 := M.same s2
          have Y2 := Y.same s2
          obtain ⟨dx, fs, eo, no⟩ := noM (m := "gaining") (by decide +kernel) (by decide +kernel) (by decide +kernel) (by decide +kernel) M2
          refine ⟨_, rfl, o, dx, _, rfl, eo, no, _, rfl, _, rfl, _, rfl, o, c, sh, pa, n, x, s, p, pv, i, j, rfl, M2, Y2, hx, by omega, by omega, fun v H3 t s3 ft t1 t2 t3 => ?_, fun H3 s3 z1 z2 => ?_⟩
          · obtain ⟨q, rfl, tq, zq⟩ := id ft
            refine ⟨_, rfl, rfl, _, rfl, ?_⟩
            refine ite2 (fun _ => ?_) (fun z => absurd rfl z)
            have M3 := M2.same s3
            have Y3 := Y2.same s3
            obtain ⟨dx, fs, eo, no⟩ := noM (m := "start") (by decide +kernel) (by decide +kernel) (by decide +kernel) (by decide +kernel) M3
            refine ⟨_, rfl, _, rfl, o, dx, _, rfl, eo, no, _, rfl, o, c, sh, n, x, s, j, rfl, M3, by omega, fun vu fu => ?_⟩
            obtain ⟨dx, fs, eo, no⟩ := noM (m := "gain") (by decide +kernel) (by decide +kernel) (by decide +kernel) (by decide +kernel) M3
            refine ⟨_, rfl, o, dx, _, rfl, eo, no, _, rfl, _, rfl, _, rfl, _, rfl, o, c, sh, pa, n, x, s, p, pv, _, t, 275, i, j, rfl, M3, Y3, ft, by decide, by omega, by omega, fun vg H4 s4 fg => ?_⟩
            refine ⟨by show 3 ≤ sizeLine; decide, fun r hr => ?_⟩
            have s5 := same_new (o := .tup [.ref q, vu, vg]) hr
            exact out.tup _ r _ vu vg t (x j) _ (s2.trans (s3.trans (s4.trans s5))) upd_same (ft.same (s4.trans s5)) (fu.same (s4.trans s5)) (fg.same s5) ⟨i, j, by omega, by omega, rfl, t1, t2, rfl, t3⟩
          · refine ⟨_, rfl, rfl, _, rfl, ?_⟩
            refine ite2 (fun z => absurd z (by decide)) (fun _ => ?_)
            refine ⟨_, _, rfl, s2.trans s3, fun j' hj' => ?_⟩
            by_cases e : j' = j
            · rw [e]
              exact ⟨z1, z2⟩
            · exact g2 j' (by omega)
        · rintro σ H2 ⟨b, c2, rfl, s2, g2⟩
          refine ⟨_, _, _, rfl, s2, fun i' hi' j hj => ?_⟩
          by_cases e : i' = i
          · rw [e]
            exact g2 j (by omega)
          · exact g1 i' (by omega) j hj
      · rintro σ H1 ⟨a, b, c', rfl, s1, g1⟩
        exact out.non H1 s1 fun i j hi hj => g1 i (by omega) j hj
    · have e0 : (!decide (V.int (pv.length : Int) = V.int (sv.length : Int))) = true := by
        rw [decide_eq_false (fun z => hlen (by have := V.int.inj z; omega))]
        rfl
      rw [e0]
      refine iteT ?_
      exact ⟨by show 1 ≤ 1000; decide, inv_raise (kE hlen)⟩
end
end Un

set_option Elab.async false
set_option linter.all false
set_option maxRecDepth 100000
/-! Thresholds.__init__. -/
namespace Un
open PySem PySem.Spec PyProof.Rows L2
/-! ### slices -/
theorem cut_front (xs : List V) : cutV xs none (some (-1)) = xs.take (xs.length - 1) := by
  show (xs.drop 0).take ((if (-1 : Int) < 0 then (-1 + (xs.length : Int)).toNat else min (-1 : Int).toNat xs.length) - 0) = _
  rw [if_pos (by decide), List.drop_zero]
  congr 1
  omega
theorem cut_back (xs : List V) (h : 1 ≤ xs.length) : cutV xs (some 1) none = xs.drop 1 := by
  show (xs.drop (if (1 : Int) < 0 then (1 + (xs.length : Int)).toNat else min (1 : Int).toNat xs.length)).take (xs.length - (if (1 : Int) < 0 then (1 + (xs.length : Int)).toNat else min (1 : Int).toNat xs.length)) = _
  rw [if_neg (by decide), show min (1 : Int).toNat xs.length = 1 by show min 1 xs.length = 1; omega]
  rw [List.take_of_length_le (by rw [List.length_drop]; exact Nat.le_refl _)]
theorem cut_mid (xs : List V) (h : 1 ≤ xs.length) : cutV xs (some 1) (some (-1)) = (xs.drop 1).take (xs.length - 2) := by
  show (xs.drop (if (1 : Int) < 0 then (1 + (xs.length : Int)).toNat else min (1 : Int).toNat xs.length)).take ((if (-1 : Int) < 0 then (-1 + (xs.length : Int)).toNat else min (-1 : Int).toNat xs.length) - (if (1 : Int) < 0 then (1 + (xs.length : Int)).toNat else min (1 : Int).toNat xs.length)) = _
  rw [if_pos (show (-1 : Int) < 0 by decide), if_neg (show ¬ (1 : Int) < 0 by decide), show min (1 : Int).toNat xs.length = 1 by show min 1 xs.length = 1; omega]
  congr 1
  omega
theorem cut_first (xs : List V) (k : Nat) : cutV xs none (some (k : Int)) = xs.take k := by
  show (xs.drop 0).take (HT.sIx xs.length xs.length (some (k : Int)) - 0) = _
  rw [HT.sIx_nat, List.drop_zero, Nat.sub_zero]
  by_cases c : k ≤ xs.length
  · rw [Nat.min_eq_left c]
  · rw [Nat.min_eq_right (by omega), List.take_of_length_le (Nat.le_refl _), List.take_of_length_le (by omega)]
theorem putF_len (f : Str) (v : V) : ∀ l : List (Str × V), (putF f v l).length ≤ l.length + 1
  | [] => Nat.le_refl _
  | (g, u) :: r => by
    show (if g = f then (g, v) :: r else (g, u) :: putF f v r).length ≤ _
    split
    · exact Nat.le_succ _
    · have := putF_len f v r
      simp only [List.length_cons]
      omega
theorem FrL.points {K : PySem.W.Frag} {H : Hp} {b n : Nat} {lo hi : V} {cv : List V} {x : Nat → Rat} (h1 : Fr K H b lo (x 0)) (h2 : ∀ i v, cv[i]? = some v → Fr K H b v (x (i + 1))) (h3 : Fr K H b hi (x n)) (hl : cv.length + 1 = n) : FrL K H b ([lo] ++ cv ++ [hi]) x := fun i v e => by
  cases i with
  | zero =>
    have e1 : lo = v := Option.some.inj e
    rw [← e1]
    exact h1
  | succ i =>
    have e1 : (cv ++ [hi])[i]? = some v := e
    by_cases c : i < cv.length
    · rw [List.getElem?_append_left c] at e1
      exact h2 i v e1
    · rw [List.getElem?_append_right (by omega)] at e1
      have hi' : i = cv.length := by
        by_cases d : i = cv.length
        · exact d
        · rw [List.getElem?_eq_none (by simp; omega)] at e1
          cases e1
      subst hi'
      rw [Nat.sub_self] at e1
      have e2 : hi = v := Option.some.inj e1
      rw [← e2, hl]
      exact h3
def spTInit (K : PySem.W.Frag) (C : Addr) : Sp := fun vs H Q _ => ∃ (o dx ca sa : Addr) (lo hi : V) (cv sv : List V) (n : Nat) (x s : Nat → Rat), vs = [.ref o, lo, hi, .ref ca, .ref sa] ∧ H o = some (.ins C dx []) ∧ Fr K H 24 lo (x 0) ∧ Fr K H 24 hi (x n) ∧
  SqL K H ca cv ∧ cv.length + 1 = n ∧ (∀ i v, cv[i]? = some v → Fr K H 24 v (x (i + 1))) ∧ SqL K H sa sv ∧ sv.length = n ∧ FrL K H 3 sv s ∧ n ≤ 8 ∧ Asc n x ∧
  ∀ H' c sh, Keep o H H' → H c = none → H sh = none → Made K C H' o c sh n x s → Q .non H'
section
variable {P : Program} {w : World} {K : PySem.W.Frag} {mg : Str → Option Value} {base : Heap} {f C : Addr} {fd : FuncData}
theorem scTInit : FnScope ["self", "low", "high", "cuts", "shares", "points", "first", "second"] ["self", "low", "high", "cuts", "shares"] (defScope sTInit) := ⟨rfl, rfl, rfl, by decide +kernel, rfl, by decide +kernel, by decide +kernel⟩
theorem ok_tinit (F : FnP K "__init__" "Thresholds.__init__" sTInit [] f fd) (T : ThTxt K C) (gl : mg "len" = none) (gls : mg "list" = none) (gz : mg "zip" = none) {tk : Tok} (gM : mg "MOST_CUTS" = some (.int 7 tk)) (cC : C8.Cal P w K mg base 1 "compare" (spCmp K) []) :
    FnOk P w K mg base CX0 2 f fd ["self", "low", "high", "cuts", "shares"] (spTInit K C) := by
  refine F.ok scTInit (fun vs H Q E h => ?_) (fun cdv A outer s H vs Q E hr h => ⟨_, PSs.nox (pss_cons (ps_set (i := 5) scTInit.nd rfl (.inl rfl)
        (pe_op op_cat (pe_op op_cat (pe_lst (pa_cons (pv 1) pa_nil)) (pe_callTy call_list_of (by rfl) gls (by decide +kernel) (pa_cons (pv 3) pa_nil))) (pe_lst (pa_cons (pv 2) pa_nil))))
      (pss_cons (ps_for PassesOwn.never rfl (pi_zip (by rfl) gz (pa_cons (pe_slice sl_list (pv 5) po_none (po_some (pe_un un_neg pe_int))) (pa_cons (pe_slice sl_list (pv 5) (po_some pe_int) po_none) pa_nil)))
          (pg_tup rfl (pgs_cons (pg_name (i := 6) scTInit.nd rfl (.inl rfl)) (pgs_cons (pg_name (i := 7) scTInit.nd rfl (.inl rfl)) pgs_nil)))
          (pss_one (ps_if (pt_cmpR op_ge (C8.pe_c cC hr (by decide) rfl (pa_cons (pv 6) (pa_cons (pv 7) pa_nil))) pe_int (nomark _)) pss_never pss_nil)))
      (pss_cons (ps_if (PW.pt (pw_or (pt_cmpR op_gt (pe_callB call_len_seq (by rfl) gl PySem.boot_len (pa_cons (pv 3) pa_nil)) (pe_glob rfl gM (v := .int 7) ⟨_, rfl⟩) (nomark _))
          (pw_or1 (pt_cmpR op_ne (pe_callB call_len_seq (by rfl) gl PySem.boot_len (pa_cons (pv 4) pa_nil)) (pe_op op_add (pe_callB call_len_seq (by rfl) gl PySem.boot_len (pa_cons (pv 3) pa_nil)) pe_int) (nomark _))))) pss_never pss_nil)
      (pss_cons (ps_fld (pv 0) (pv 1) rfl) (pss_cons (ps_fld (pv 0) (pv 2) rfl)
      (pss_cons (ps_fld (pv 0) (pe_callTy call_list_of (by rfl) gls (by decide +kernel) (pa_cons (pv 3) pa_nil)) rfl)
      (pss_one (ps_fld (pv 0) (pe_callTy call_list_of (by rfl) gls (by decide +kernel) (pa_cons (pv 4) pa_nil)) rfl)))))))), ?_⟩)
  · obtain ⟨o, dx, ca, sa, lo, hi, cv, sv, n, x, s, rfl, _⟩ := h
    rfl
  · obtain ⟨o, dx, ca, sa, lo, hi, cv, sv, n, x, s, rfl, ho, flo, fhi, sc, hcl, fcv, ss, hsl, fsv, hn, hx, k⟩ := h
    have l24 : (24 : Nat) ≤ sizeLine := by decide
    -- points = [low] + list(cuts) + [high]
    refine ⟨_, rfl, (by show 1 ≤ sizeLine; decide), fun a1 n1 => ?_⟩
    have s1 : Same H (upd H a1 (.lst [lo])) := same_new n1
    refine ⟨_, rfl, ca, cv, rfl, .inl (s1.seq sc), fun a2 n2 => ?_⟩
    have s2 := same_new (o := .lst cv) n2
    refine ⟨a1, a2, [lo], cv, rfl, rfl, s2 _ _ upd_same, upd_same, (by simp only [List.length_singleton]; omega), fun a3 n3 => ?_⟩
    have s3 := same_new (o := .lst ([lo] ++ cv)) n3
    refine ⟨_, rfl, (by show 1 ≤ sizeLine; decide), fun a4 n4 => ?_⟩
    have s4 := same_new (o := .lst [hi]) n4
    refine ⟨a3, a4, [lo] ++ cv, [hi], rfl, rfl, s4 _ _ upd_same, upd_same, (by simp only [List.length_append, List.length_singleton]; omega), fun a5 n5 => ?_⟩
    have s5 := same_new (o := .lst ([lo] ++ cv ++ [hi])) n5
    have s05 := s1.trans (s2.trans (s3.trans (s4.trans s5)))
    generalize hG5 : upd (upd (upd (upd (upd H a1 (.lst [lo])) a2 (.lst cv)) a3 (.lst ([lo] ++ cv))) a4 (.lst [hi])) a5 (.lst ([lo] ++ cv ++ [hi])) = H5 at s05 ⊢
    have h5 : H5 a5 = some (.lst ([lo] ++ cv ++ [hi])) := by rw [← hG5]; exact upd_same
    have plen : ([lo] ++ cv ++ [hi]).length = n + 1 := by simp only [List.length_append, List.length_singleton]; omega
    -- zip(points[:-1], points[1:])
    refine ⟨_, rfl, _, rfl, _, rfl, a5, _, rfl, SqL.of h5, fun a6 n6 => ?_⟩
    rw [cut_front]
    have s6 := same_new (o := .lst (List.take (([lo] ++ cv ++ [hi]).length - 1) ([lo] ++ cv ++ [hi]))) n6
    refine ⟨_, rfl, _, rfl, a5, _, rfl, SqL.of (s6 _ _ h5), fun a7 n7 => ?_⟩
    rw [cut_back _ (by omega)]
    have s7 := same_new (o := .lst (List.drop 1 ([lo] ++ cv ++ [hi]))) n7
    have s57 := s6.trans s7
    have fpts : FrL K H 24 ([lo] ++ cv ++ [hi]) x := FrL.points flo fcv fhi hcl
    generalize hpts : [lo] ++ cv ++ [hi] = pts at *
    have q6 := s7 _ _ (upd_same (H := H5) (a := a6) (o := .lst (List.take (pts.length - 1) pts)))
    have q7 := upd_same (H := upd H5 a6 (.lst (List.take (pts.length - 1) pts))) (a := a7) (o := .lst (List.drop 1 pts))
    generalize hG7 : upd (upd H5 a6 (.lst (List.take (pts.length - 1) pts))) a7 (.lst (List.drop 1 pts)) = H7 at s57 q6 q7 ⊢
    have s07 := s05.trans s57
    refine ⟨a6, a7, _, _, rfl, SqL.of q6, SqL.of q7, RZ.for_zipL (xs := List.take (pts.length - 1) pts) (ys := List.drop 1 pts) (by rw [List.length_take, List.length_drop]; omega) (fun i σ H' => ∃ a b, σ = [some (.ref o), some lo, some hi, some (.ref ca), some (.ref sa), some (.ref a5), a, b] ∧ Same H7 H')
      ⟨none, none, rfl, Same.refl _⟩ (fun i σ H' ⟨_, _, _, sx⟩ => ⟨sx.seq (SqL.of q6), sx.seq (SqL.of q7)⟩) ?_ ?_⟩
    · rintro i u v T σ H' eu ev ⟨a, b, rfl, sx⟩ nT
      have hi : i < n := by
        have := (List.getElem?_eq_some_iff.mp ev).1
        rw [List.length_drop] at this
        omega
      rw [List.getElem?_take, if_pos (by omega)] at eu
      rw [List.getElem?_drop, Nat.add_comm] at ev
      have sT := same_new (o := .tup [u, v]) nT
      have fu := (fpts i u eu).same (s07.trans (sx.trans sT))
      have fv := (fpts (i + 1) v ev).same (s07.trans (sx.trans sT))
      refine ⟨T, _, rfl, SqT.of upd_same, rfl, _, _, rfl, _, _, rfl, rfl, ?_⟩
      refine ⟨_, rfl, _, rfl, u, v, _, _, 24, 24, rfl, fu, fv, by decide, _, _, rfl, rfl, _, rfl, ?_⟩
      refine ite2 (fun z => absurd (hx i hi) ((cmpI_nonneg _ _).mp (of_decide_eq_true z))) (fun _ => ?_)
      exact ⟨_, _, rfl, sx.trans sT⟩
    · rintro σ H' ⟨a, b, rfl, sx⟩
      have s0 := s07.trans sx
      -- the lengths
      refine ⟨_, rfl, ca, cv, rfl, .inl (s0.seq sc), _, _, rfl, rfl, _, rfl, ?_⟩
      refine ite2 (fun z => ?_) (fun _ => ?_)
      · have := of_decide_eq_true z
        omega
      refine ⟨_, rfl, sa, sv, rfl, .inl (s0.seq ss), _, rfl, ca, cv, rfl, .inl (s0.seq sc), _, _, rfl, rfl, rfl, _, rfl, ?_⟩
      refine iteNS (congrArg V.int (by omega)) ?_
      -- the fields
      have o0 := s0 _ _ ho
      have len0 : ([] : List (Str × V)).length < 1000 := by decide
      refine ⟨_, rfl, _, rfl, o, C, dx, _, rfl, o0, T.cl, T.nLow, len0, ?_⟩
      have len1 := putF_len "low" lo []
      refine ⟨_, rfl, _, rfl, o, C, dx, _, rfl, upd_same, T.cl, T.nHigh, Nat.lt_of_le_of_lt len1 (by decide), ?_⟩
      have len2 := Nat.le_trans (putF_len "high" hi (putF "low" lo [])) (Nat.succ_le_succ len1)
      rw [upd_upd]
      have kp1 : Keep o H' (upd H' o (.ins C dx (putF "high" hi (putF "low" lo [])))) := Keep.upd
      have nca : ∀ {cs : List V} {a : Addr}, SqL K H' a cs → SqL K (upd H' o (.ins C dx (putF "high" hi (putF "low" lo [])))) a cs := fun {cs a} q => by
        rcases q with (q | ⟨ob, q⟩) | q
        · exact .inl (.inl (kp1 _ _ q (ne_of q o0 (by intro z; cases z))))
        · exact .inl (.inr ⟨ob, kp1 _ _ q (ne_of q o0 (by intro z; cases z))⟩)
        · exact .inr q
      refine ⟨_, rfl, ca, cv, rfl, .inl (nca (s0.seq sc)), fun c hc => ?_⟩
      have nco : c ≠ o := fun z => by
        rw [z, upd_same] at hc
        cases hc
      have hc' : H' c = none := by
        rw [upd_ne nco] at hc
        exact hc
      have sc1 := same_new (o := .lst cv) hc
      refine ⟨_, rfl, o, C, dx, _, rfl, (by rw [upd_ne nco.symm]; exact upd_same), T.cl, T.nCuts, Nat.lt_of_le_of_lt len2 (by decide), ?_⟩
      have len3 := Nat.le_trans (putF_len "cuts" (.ref c) (putF "high" hi (putF "low" lo []))) (Nat.succ_le_succ len2)
      have nsa : SqL K (upd (upd (upd H' o (.ins C dx (putF "high" hi (putF "low" lo [])))) c (.lst cv)) o (.ins C dx (putF "cuts" (.ref c) (putF "high" hi (putF "low" lo []))))) sa sv := by
        have q := sc1.seq (nca (s0.seq ss))
        have o1 : (upd (upd H' o (.ins C dx (putF "high" hi (putF "low" lo [])))) c (.lst cv)) o = some (.ins C dx (putF "high" hi (putF "low" lo []))) := by
          rw [upd_ne nco.symm]
          exact upd_same
        rcases q with (q | ⟨ob, q⟩) | q
        · exact .inl (.inl (Keep.upd _ _ q (ne_of q o1 (by intro z; cases z))))
        · exact .inl (.inr ⟨ob, Keep.upd _ _ q (ne_of q o1 (by intro z; cases z))⟩)
        · exact .inr q
      refine ⟨_, rfl, sa, sv, rfl, .inl nsa, fun sh hsh => ?_⟩
      have nso : sh ≠ o := fun z => by
        rw [z, upd_same] at hsh
        cases hsh
      have hsh1 : (upd (upd H' o (.ins C dx (putF "high" hi (putF "low" lo [])))) c (.lst cv)) sh = none := by
        rw [upd_ne nso] at hsh
        exact hsh
      have nsc : sh ≠ c := fun z => by
        rw [z, upd_same] at hsh1
        cases hsh1
      have hsh' : H' sh = none := by
        rw [upd_ne nsc, upd_ne nso] at hsh1
        exact hsh1
      refine ⟨_, rfl, o, C, dx, _, rfl, (by rw [upd_ne nso.symm]; exact upd_same), T.cl, T.nShares, Nat.lt_of_le_of_lt len3 (by decide), ?_⟩
      have kp : Keep o H (upd (upd (upd (upd (upd H' o (.ins C dx (putF "high" hi (putF "low" lo [])))) c (.lst cv)) o (.ins C dx (putF "cuts" (.ref c) (putF "high" hi (putF "low" lo []))))) sh (.lst sv)) o
          (.ins C dx (putF "shares" (.ref sh) (putF "cuts" (.ref c) (putF "high" hi (putF "low" lo [])))))) := fun b ob e nb => by
        have e' := s0 _ _ e
        rw [upd_ne nb, upd_ne (ne_of_none e' hsh'), upd_ne nb, upd_ne (ne_of_none e' hc'), upd_ne nb]
        exact e'
      have frk : ∀ {m : Nat} {v : V} {y : Rat}, Fr K H m v y → Fr K (upd (upd (upd (upd (upd H' o (.ins C dx (putF "high" hi (putF "low" lo [])))) c (.lst cv)) o (.ins C dx (putF "cuts" (.ref c) (putF "high" hi (putF "low" lo []))))) sh (.lst sv)) o
          (.ins C dx (putF "shares" (.ref sh) (putF "cuts" (.ref c) (putF "high" hi (putF "low" lo [])))))) m v y := fun {m v y} q => by
        obtain ⟨p, rfl, tq, z⟩ := q
        refine ⟨p, rfl, ?_, z⟩
        rcases tq with (tq | ⟨ob, tq⟩) | tq
        · exact .inl (.inl (kp _ _ tq (ne_of tq ho (by intro z; cases z))))
        · exact .inl (.inr ⟨ob, kp _ _ tq (ne_of tq ho (by intro z; cases z))⟩)
        · exact .inr tq
      exact k _ c sh kp (s0.free hc') (s0.free hsh') ⟨⟨dx, lo, hi, upd_same, frk flo, frk fhi⟩, ⟨cv, by rw [upd_ne nco, upd_ne nsc.symm, upd_ne nco, upd_same], hcl, fun i v q => frk (fcv i v q)⟩, ⟨sv, by rw [upd_ne nso, upd_same], hsl, fun i v q => frk (fsv i v q)⟩⟩
end
end Un

set_option Elab.async false
set_option linter.all false
set_option maxRecDepth 100000
/-! The law's own helpers: mix, numbers, take, lowest, plus, times, less, minus, fraction. -/
namespace Un
open PySem PySem.Spec PyProof.Rows L2
abbrev sMix : Stmt := top 20
abbrev sNumbers : Stmt := top 21
abbrev sTake : Stmt := top 22
abbrev sFrac : Stmt := top 23
abbrev sLow : Stmt := top 24
abbrev sPlus : Stmt := top 25
abbrev sTimes : Stmt := top 26
abbrev sLess : Stmt := top 27
abbrev sMinus : Stmt := top 29
/-- the row of drawn numbers -/
def Row (H : Hp) (l : Addr) : Prop := ∃ rs : List Int, H l = some (.lst (rs.map V.int))
theorem Keep.free {H H' : Hp} {l a : Addr} (e : Keep l H H') (r : Row H' l) (h : H' a = none) : H a = none := by
  cases q : H a with
  | none => rfl
  | some o =>
    by_cases c : a = l
    · obtain ⟨rs, hr⟩ := r
      rw [c, hr] at h
      cases h
    · rw [e a o q c] at h
      cases h
theorem Row.same {H H' : Hp} {l : Addr} (e : Same H H') (h : Row H l) : Row H' l := by
  obtain ⟨rs, h⟩ := h
  exact ⟨rs, e _ _ h⟩
theorem Fr.row {K : PySem.W.Frag} {H H' : Hp} {l : Addr} {n : Nat} {v : V} {x : Rat} (e : Keep l H H') (r : Row H l) (h : Fr K H n v x) : Fr K H' n v x := by
  obtain ⟨rs, hl⟩ := r
  exact h.keep e hl
theorem FrL.row {K : PySem.W.Frag} {H H' : Hp} {l : Addr} {n : Nat} {vs : List V} {f : Nat → Rat} (e : Keep l H H') (r : Row H l) (h : FrL K H n vs f) : FrL K H' n vs f := fun i v q => (h i v q).row e r
/-! ### promises -/
def spMix : Sp := fun vs H Q _ => ∃ a k : Int, vs = [.int a, .int k] ∧ ∀ r : Int, Q (.int r) H
def spNumbers (K : PySem.W.Frag) : Sp := fun vs H Q _ => ∃ (a : Addr) (ns : List Int), vs = [.ref a, .int 90] ∧ SqL K H a (ns.map V.int) ∧ ns.length ≤ 63 ∧ ∀ (l : Addr) H', Same H H' → H l = none → Row H' l → Q (.ref l) H'
def spTake : Sp := fun vs H Q _ => ∃ (l : Addr) (b : Int), vs = [.ref l, .int b] ∧ 0 < b ∧ Row H l ∧ ∀ (r : Int) H', 0 ≤ r → r < b → Keep l H H' → Row H' l → Q (.int r) H'
def spFrac (K : PySem.W.Frag) : Sp := fun vs H Q _ => ∃ l : Addr, vs = [.ref l] ∧ Row H l ∧ ∀ (v : V) (x : Rat) H', Keep l H H' → Row H' l → Fr K H' 7 v x → Q v H'
def spLow (K : PySem.W.Frag) : Sp := fun vs H Q _ => ∃ (p q : Int) (n : Nat), vs = [.int p, .int q] ∧ 0 < q ∧ p.natAbs < 2 ^ n ∧ q.natAbs < 2 ^ n ∧ n ≤ 2400 ∧ New K H Q n (Rat.divInt p q)
def spPlus (K : PySem.W.Frag) : Sp := fun vs H Q _ => ∃ (u v : V) (x y : Rat) (n m : Nat), vs = [u, v] ∧ Fr K H n u x ∧ Fr K H m v y ∧ n + m ≤ 2300 ∧ New K H Q (n + m + 1) (x + y)
def spTimes (K : PySem.W.Frag) : Sp := fun vs H Q _ => ∃ (u v : V) (x y : Rat) (n m : Nat), vs = [u, v] ∧ Fr K H n u x ∧ Fr K H m v y ∧ n + m ≤ 2300 ∧ New K H Q (n + m) (x * y)
def spMinus (K : PySem.W.Frag) : Sp := fun vs H Q _ => ∃ (u v : V) (x y : Rat) (n m : Nat), vs = [u, v] ∧ Fr K H n u x ∧ Fr K H m v y ∧ n + m ≤ 2200 ∧ New K H Q (n + m + 2) (x - y)
def spLess (K : PySem.W.Frag) : Sp := fun vs H Q _ => ∃ (u v : V) (x y : Rat) (n m : Nat), vs = [u, v] ∧ Fr K H n u x ∧ Fr K H m v y ∧ n + m ≤ 3000 ∧ Q (.bl (decide (x < y))) H
section
variable {P : Program} {w : World} {K : PySem.W.Frag} {mg : Str → Option Value} {base : Heap} {f : Addr} {fd : FuncData}
theorem scMix : FnScope ["_law_number", "_law_k"] ["_law_number", "_law_k"] (defScope sMix) := ⟨rfl, rfl, rfl, by decide +kernel, rfl, by decide +kernel, by decide +kernel⟩
theorem ok_mix (F : FnP K "_law_mix" "_law_mix" sMix [] f fd) (gi : mg "int" = none) : FnOk P w K mg base CX0 1 f fd ["_law_number", "_law_k"] spMix := by
  refine F.ok scMix (fun vs H Q E h => ?_) (fun cdv A outer s H vs Q E hr h => ⟨_, PSs.nox (pss_one (ps_ret (pe_op op_mod (pe_op op_mul (pe_op op_mod (pe_callTy call_int1 (by rfl) gi (by decide +kernel)
      (pa_cons (pe_op op_mul (pe_op op_add (pe_op op_add (pe_op op_mod (pe_callTy call_int1 (by rfl) gi (by decide +kernel) (pa_cons (pv 0) pa_nil)) pe_int) (pe_op op_mul pe_int (pv 1))) pe_int) pe_int) pa_nil)) pe_int) pe_int) pe_int))), ?_⟩)
  · obtain ⟨a, k, rfl, _⟩ := h
    rfl
  · obtain ⟨a, k, rfl, q⟩ := h
    refine ⟨_, rfl, .inl ⟨_, rfl, _, _, rfl, rfl, (by show (0 : Int) < 1000003; decide), _, rfl, _, _, rfl, rfl, .inl ⟨by decide, by decide⟩, _, _, rfl, rfl, _, _, rfl, rfl, _, _, rfl, rfl, .inr ⟨by decide, by decide⟩, .inl ⟨_, rfl, ?_⟩⟩⟩
    exact ⟨_, _, rfl, rfl, (by show (0 : Int) < 1000033; decide), _, _, rfl, rfl, .inr ⟨by decide, by decide⟩, _, _, rfl, rfl, (by show (0 : Int) < 998244353; decide), q _⟩
theorem scTake : FnScope ["_law_row", "_law_bound"] ["_law_row", "_law_bound"] (defScope sTake) := ⟨rfl, rfl, rfl, by decide +kernel, rfl, by decide +kernel, by decide +kernel⟩
theorem ok_take (F : FnP K "_law_take" "_law_take" sTake [] f fd) (gi : mg "int" = none) : FnOk P w K mg base CX0 1 f fd ["_law_row", "_law_bound"] spTake := by
  refine F.ok scTake (fun vs H Q E h => ?_) (fun cdv A outer s H vs Q E hr h => ⟨_, PSs.nox (pss_cons (ps_if (pt_not (pt_truth (pv 0) (by intro _; rfl))) (pss_one (ps_ret pe_int)) pss_nil)
      (pss_one (ps_ret (pe_op op_mod (pe_callTy call_int1 (by rfl) gi (by decide +kernel) (pa_cons (pe_bm0 PySem.F.plainAttrs_list PySem.F.slot_list_pop PySem.F.type_list_pop mt_pop (pv 0)) pa_nil)) (pv 1))))), ?_⟩)
  · obtain ⟨l, b, rfl, _⟩ := h
    rfl
  · obtain ⟨l, b, rfl, hb, ⟨rs, hl⟩, k⟩ := h
    refine ⟨_, rfl, _, .inl ⟨_, SqL.of hl, rfl⟩, ?_⟩
    cases rs with
    | nil => exact iteT (k 0 H (by decide) hb (fun _ _ e _ => e) ⟨[], hl⟩)
    | cons r rs =>
      refine iteF ?_
      obtain ⟨z, hz⟩ : ∃ z : Int, (r :: rs)[(r :: rs).length - 1]? = some z := ⟨(r :: rs)[(r :: rs).length - 1]'(by simp), by simp⟩
      refine ⟨_, rfl, .inl ⟨rfl, _, SqL.of hl⟩, l, _, .int z, rfl, rfl, hl, ?_, .inl ⟨_, rfl, _, rfl, _, _, rfl, rfl, hb, ?_⟩⟩
      · rw [List.length_map, List.getElem?_map, hz]
        rfl
      · exact k _ _ (Int.emod_nonneg _ (by omega)) (Int.emod_lt_of_pos _ hb) Keep.upd ⟨(r :: rs).dropLast, by rw [upd_same, List.map_dropLast]⟩
theorem scLow : FnScope ["_law_p", "_law_q", "_law_first", "_law_second", "_law_k"] ["_law_p", "_law_q"] (defScope sLow) := ⟨rfl, rfl, rfl, by decide +kernel, rfl, by decide +kernel, by decide +kernel⟩
theorem ok_low (F : FnP K "_law_lowest" "_law_lowest" sLow [] f fd) (gi : mg "int" = none) (ga : mg "abs" = none) (gr : mg "range" = none) : FnOk P w K mg base CX0 1 f fd ["_law_p", "_law_q"] (spLow K) := by
  refine F.ok scLow (fun vs H Q E h => ?_) (fun cdv A outer s H vs Q E hr h => ⟨_, PSs.nox (pss_cons (ps_par rfl scLow.nd rfl rfl (by decide) (i := 2) (j := 3) rfl rfl (pa_cons (pe_callB call_abs (by rfl) ga (by decide +kernel) (pa_cons (pv 0) pa_nil)) (pa_cons (pv 1) pa_nil)) (by rfl))
      (C8.pss_cut (ps_for PassesOwn.never rfl (pi_range1 rfl gr (pa_cons pe_int pa_nil)) (pg_name (i := 4) scLow.nd rfl (.inl rfl))
        (pss_cons (ps_if (pt_cmpR op_eq (pv 3) pe_int (nomark _)) (pss_one ps_break) pss_nil)
        (pss_one (ps_par rfl scLow.nd rfl rfl (by decide) (i := 2) (j := 3) rfl rfl (pa_cons (pv 3) (pa_cons (pe_op op_mod (pe_callTy call_int1 (by rfl) gi (by decide +kernel) (pa_cons (pv 2) pa_nil)) (pv 3)) pa_nil)) (by rfl)))))
      (pss_cons (ps_if (pt_cmpR op_eq (pv 2) pe_int (nomark _)) (pss_one (ps_ret (pe_tup (pa_cons pe_int (pa_cons pe_int pa_nil))))) pss_nil)
      (pss_one (ps_ret (pe_tup (pa_cons (pe_op op_fdivW (pv 0) (pv 2)) (pa_cons (pe_op op_fdivW (pv 1) (pv 2)) pa_nil)))))))), ?_⟩)
  · obtain ⟨p, q, n, rfl, _⟩ := h
    rfl
  · obtain ⟨p, q, n, rfl, hq, h1, h2, hn, k⟩ := h
    have ea : (if p < 0 then -p else p) = ((p.natAbs : Nat) : Int) := by
      split <;> omega
    have eq' : q = ((q.natAbs : Nat) : Int) := by omega
    refine ⟨_, rfl, p, rfl, _, rfl, _, _, rfl, ?_⟩
    refine ⟨fun σ' H' => ∃ kk, σ' = [some (.int p), some (.int q), some (.int ((Nat.gcd p.natAbs q.natAbs : Nat) : Int)), some (.int 0), kk] ∧ H' = H, ?_, ?_⟩
    · refine ⟨5000, rfl, by decide, by decide, for_range (lo := 0) (n := 5000) (fun i σ H' => ∃ kk, σ = [some (.int p), some (.int q), some (.int ((euc i (p.natAbs, q.natAbs)).1 : Int)), some (.int ((euc i (p.natAbs, q.natAbs)).2 : Int)), kk] ∧ H' = H) ⟨none, ?_, rfl⟩ ?_ ?_⟩
      · rw [ea]
        show _ = [some (V.int p), some (V.int q), some (V.int (p.natAbs : Int)), some (V.int (q.natAbs : Int)), none]
        rw [← eq'] <;> rfl
      · rintro i σ H' hi ⟨kk, rfl, rfl⟩
        refine ⟨_, rfl, rfl, _, rfl, ?_⟩
        refine ite2 (fun z => ?_) (fun z => ?_)
        · have e := V.int.inj (of_decide_eq_true z)
          have e0 : (euc i (p.natAbs, q.natAbs)).2 = 0 := by omega
          have g := euc_first h1 h2 i (.inl e0)
          refine ⟨some (.int (0 + (i : Int))), ?_, rfl⟩
          rw [g.1, g.2]
          rfl
        · have e0 : (euc i (p.natAbs, q.natAbs)).2 ≠ 0 := fun y => z (by rw [y]; rfl)
          refine ⟨_, rfl, _, rfl, .inl ⟨_, rfl, _, rfl, _, _, rfl, rfl, (by omega), _, _, rfl, ?_⟩⟩
          refine ⟨some (.int (0 + (i : Int))), ?_, rfl⟩
          rw [euc_next _ _ e0, Int.natCast_emod]
          rfl
      · rintro σ H' ⟨kk, rfl, rfl⟩
        have g := euc_first h1 h2 5000 (.inr (by omega))
        refine ⟨kk, ?_, rfl⟩
        rw [g.1, g.2]
        rfl
    · rintro σ H' ⟨kk, rfl, rfl⟩
      have gp := gcd_posi (p := p) hq
      have gi : (0 : Int) < (Nat.gcd p.natAbs q.natAbs : Nat) := Int.natCast_pos.mpr gp
      have g2 := gcd_lt (p := p) hq h2
      have n0 : 0 < n := by
        cases n with
        | zero => omega
        | succ n => exact Nat.succ_pos _
      refine ⟨_, rfl, rfl, _, rfl, ?_⟩
      refine ite2 (fun z => ?_) (fun _ => ?_)
      · have e := V.int.inj (of_decide_eq_true z)
        omega
      refine ⟨_, rfl, _, rfl, _, _, rfl, rfl, wide_div gi g2 n0 (by omega), _, rfl, _, rfl, _, _, rfl, rfl, wide_div gi g2 n0 (by omega), (by show 2 ≤ sizeLine; decide), fun a ha => ?_⟩
      exact k _ _ (same_new ha) (Fr.new hq h1 h2 upd_same)
theorem scPlus : FnScope ["_law_a", "_law_b"] ["_law_a", "_law_b"] (defScope sPlus) := ⟨rfl, rfl, rfl, by decide +kernel, rfl, by decide +kernel, by decide +kernel⟩
theorem ok_plus (F : FnP K "_law_plus" "_law_plus" sPlus [] f fd) (cL : C8.Cal P w K mg base 1 "_law_lowest" (spLow K) []) : FnOk P w K mg base CX0 2 f fd ["_law_a", "_law_b"] (spPlus K) := by
  refine F.ok scPlus (fun vs H Q E h => ?_) (fun cdv A outer s H vs Q E hr h => ⟨_, PSs.nox (pss_one (ps_ret (C8.pe_c cL hr (by decide) rfl
      (pa_cons (pe_op op_add (pe_op op_mulW (pe_ix ix_tup (pv 0) pe_int (fun _ _ => rfl)) (pe_ix ix_tup (pv 1) pe_int (fun _ _ => rfl))) (pe_op op_mulW (pe_ix ix_tup (pv 1) pe_int (fun _ _ => rfl)) (pe_ix ix_tup (pv 0) pe_int (fun _ _ => rfl))))
      (pa_cons (pe_op op_mulW (pe_ix ix_tup (pv 0) pe_int (fun _ _ => rfl)) (pe_ix ix_tup (pv 1) pe_int (fun _ _ => rfl))) pa_nil))))), ?_⟩)
  · obtain ⟨u, v, x, y, n, m, rfl, _⟩ := h
    rfl
  · obtain ⟨u, v, x, y, n, m, rfl, ⟨a, rfl, ta, za⟩, ⟨b, rfl, tb, zb⟩, hnm, k⟩ := h
    have pa := za.pos
    have pb := zb.pos
    have hs := add_sz za zb
    refine ⟨_, rfl, _, _, _, _, rfl, rfl, ta, rfl, _, rfl, _, _, _, _, rfl, rfl, tb, rfl, _, _, rfl, rfl, wide_mul za.num zb.den' pa pb (by omega), ?_⟩
    refine ⟨_, rfl, _, _, _, _, rfl, rfl, tb, rfl, _, rfl, _, _, _, _, rfl, rfl, ta, rfl, _, _, rfl, rfl, wide_mul zb.num za.den' pb pa (by omega), _, _, rfl, rfl, ?_⟩
    refine ⟨_, rfl, _, _, _, _, rfl, rfl, ta, rfl, _, rfl, _, _, _, _, rfl, rfl, tb, rfl, _, _, rfl, rfl, wide_mul za.den' zb.den' pa pb (by omega), ?_⟩
    refine ⟨_, _, n + m + 1, rfl, Int.mul_pos (den_pos' x) (den_pos' y), hs.1, hs.2, by omega, ?_⟩
    rw [add_eq]
    exact k
theorem scTimes : FnScope ["_law_a", "_law_b"] ["_law_a", "_law_b"] (defScope sTimes) := ⟨rfl, rfl, rfl, by decide +kernel, rfl, by decide +kernel, by decide +kernel⟩
theorem ok_times (F : FnP K "_law_times" "_law_times" sTimes [] f fd) (cL : C8.Cal P w K mg base 1 "_law_lowest" (spLow K) []) : FnOk P w K mg base CX0 2 f fd ["_law_a", "_law_b"] (spTimes K) := by
  refine F.ok scTimes (fun vs H Q E h => ?_) (fun cdv A outer s H vs Q E hr h => ⟨_, PSs.nox (pss_one (ps_ret (C8.pe_c cL hr (by decide) rfl
      (pa_cons (pe_op op_mulW (pe_ix ix_tup (pv 0) pe_int (fun _ _ => rfl)) (pe_ix ix_tup (pv 1) pe_int (fun _ _ => rfl)))
      (pa_cons (pe_op op_mulW (pe_ix ix_tup (pv 0) pe_int (fun _ _ => rfl)) (pe_ix ix_tup (pv 1) pe_int (fun _ _ => rfl))) pa_nil))))), ?_⟩)
  · obtain ⟨u, v, x, y, n, m, rfl, _⟩ := h
    rfl
  · obtain ⟨u, v, x, y, n, m, rfl, ⟨a, rfl, ta, za⟩, ⟨b, rfl, tb, zb⟩, hnm, k⟩ := h
    have pa := za.pos
    have pb := zb.pos
    refine ⟨_, rfl, _, _, _, _, rfl, rfl, ta, rfl, _, rfl, _, _, _, _, rfl, rfl, tb, rfl, _, _, rfl, rfl, wide_mul za.num zb.num pa pb (by omega), ?_⟩
    refine ⟨_, rfl, _, _, _, _, rfl, rfl, ta, rfl, _, rfl, _, _, _, _, rfl, rfl, tb, rfl, _, _, rfl, rfl, wide_mul za.den' zb.den' pa pb (by omega), ?_⟩
    refine ⟨_, _, n + m, rfl, Int.mul_pos (den_pos' x) (den_pos' y), mul_lt za.num zb.num, mul_lt za.den' zb.den', by omega, ?_⟩
    rw [mul_eq]
    exact k
theorem scLess : FnScope ["_law_a", "_law_b"] ["_law_a", "_law_b"] (defScope sLess) := ⟨rfl, rfl, rfl, by decide +kernel, rfl, by decide +kernel, by decide +kernel⟩
theorem ok_less (F : FnP K "_law_less" "_law_less" sLess [] f fd) : FnOk P w K mg base CX0 1 f fd ["_law_a", "_law_b"] (spLess K) := by
  refine F.ok scLess (fun vs H Q E h => ?_) (fun cdv A outer s H vs Q E hr h => ⟨_, PSs.nox (pss_one (ps_ret (pe_cmpR op_lt (pe_op op_mulW (pe_ix ix_tup (pv 0) pe_int (fun _ _ => rfl)) (pe_ix ix_tup (pv 1) pe_int (fun _ _ => rfl))) (pe_op op_mulW (pe_ix ix_tup (pv 1) pe_int (fun _ _ => rfl)) (pe_ix ix_tup (pv 0) pe_int (fun _ _ => rfl))) (nomark _)))), ?_⟩)
  · obtain ⟨u, v, x, y, n, m, rfl, _⟩ := h
    rfl
  · obtain ⟨u, v, x, y, n, m, rfl, ⟨a, rfl, ta, za⟩, ⟨b, rfl, tb, zb⟩, hnm, k⟩ := h
    have pa := za.pos
    have pb := zb.pos
    refine ⟨_, rfl, _, _, _, _, rfl, rfl, ta, rfl, _, rfl, _, _, _, _, rfl, rfl, tb, rfl, _, _, rfl, rfl, wide_mul za.num zb.den' pa pb (by omega), ?_⟩
    refine ⟨_, rfl, _, _, _, _, rfl, rfl, tb, rfl, _, rfl, _, _, _, _, rfl, rfl, ta, rfl, _, _, rfl, rfl, wide_mul zb.num za.den' pb pa (by omega), _, _, rfl, rfl, ?_⟩
    show Q (V.bl (decide (x.num * y.den < y.num * x.den))) H
    have e : decide (x.num * (y.den : Int) < y.num * x.den) = decide (x < y) := by rw [decide_eq_decide]; exact less_iff x y
    rw [e]
    exact k
theorem scMinus : FnScope ["_law_a", "_law_b"] ["_law_a", "_law_b"] (defScope sMinus) := ⟨rfl, rfl, rfl, by decide +kernel, rfl, by decide +kernel, by decide +kernel⟩
theorem ok_minus (F : FnP K "_law_minus" "_law_minus" sMinus [] f fd) (cP : C8.Cal P w K mg base 2 "_law_plus" (spPlus K) []) (cT : C8.Cal P w K mg base 2 "_law_times" (spTimes K) []) : FnOk P w K mg base CX0 3 f fd ["_law_a", "_law_b"] (spMinus K) := by
  refine F.ok scMinus (fun vs H Q E h => ?_) (fun cdv A outer s H vs Q E hr h => ⟨_, PSs.nox (pss_one (ps_ret (C8.pe_c cP hr (by decide) rfl (pa_cons (pv 0) (pa_cons (C8.pe_c cT hr (by decide) rfl
      (pa_cons (pe_tup (pa_cons (pe_un un_neg pe_int) (pa_cons pe_int pa_nil))) (pa_cons (pv 1) pa_nil))) pa_nil))))), ?_⟩)
  · obtain ⟨u, v, x, y, n, m, rfl, _⟩ := h
    rfl
  · obtain ⟨u, v, x, y, n, m, rfl, fx, fy, hnm, k⟩ := h
    refine ⟨_, rfl, _, rfl, (by show 2 ≤ sizeLine; decide), fun a ha => ?_⟩
    have s1 := same_new (o := .tup [.int (-1), .int 1]) ha
    refine ⟨_, rfl, .ref a, v, (-1), y, 1, m, rfl, Fr.lit (by decide) (by decide) ⟨by decide, by decide⟩ upd_same, fy.same s1, by omega, fun v2 H2 s2 f2 => ?_⟩
    refine ⟨u, v2, x, _, n, 1 + m, rfl, fx.same (s1.trans s2), f2, by omega, fun v3 H3 s3 f3 => ?_⟩
    have e : x + -1 * y = x - y := by grind
    rw [e, show n + (1 + m) + 1 = n + m + 2 by omega] at f3
    exact k v3 H3 (s1.trans (s2.trans s3)) f3
end
end Un

set_option Elab.async false
set_option linter.all false
set_option maxRecDepth 100000
/-! fraction, numbers, steps. -/
namespace Un
open PySem PySem.Spec PyProof.Rows L2
abbrev sSteps : Stmt := top 30
theorem mk_pos {p q : Int} (hp : 0 < p) (hq : 0 < q) : 0 < Rat.divInt p q := by
  have h := num_mk (p := p) hq
  rw [Rat.lt_iff]
  have this : 0 < (Rat.divInt p q).num := by
    rw [h]
    refine Int.ediv_pos_of_pos_of_dvd hp (Int.natCast_nonneg _) ?_
    have d := Nat.gcd_dvd_left p.natAbs q.natAbs
    have e : p = ((p.natAbs : Nat) : Int) := by omega
    rw [e]
    exact Int.natCast_dvd_natCast.mpr (by rw [Int.natAbs_natCast]; exact d)
  simpa using this
theorem keep_upd {H H1 : Hp} {l a : Addr} {o : HO} (e : Keep l H H1) (h : H a = none) : Keep l H (upd H1 a o) := fun b u k n => by
  rw [upd_ne (ne_of_none k h)]
  exact e b u k n
theorem Row.upd {H : Hp} {l a : Addr} {o : HO} (r : Row H l) (n : l ≠ a) : Row (L2.upd H a o) l := by
  obtain ⟨rs, h⟩ := r
  exact ⟨rs, by rw [upd_ne n]; exact h⟩
theorem Row.ne {H : Hp} {l a : Addr} (r : Row H l) (h : H a = none) : l ≠ a := by
  obtain ⟨rs, q⟩ := r
  exact ne_of_none q h
theorem ixN_nat {n j : Nat} (h : j < n) : ixN n (j : Int) = some j := by
  unfold ixN
  rw [if_pos (by omega), if_pos (by omega)]
  simp
theorem setAt {xs : List V} {z : Int} {j : Nat} (e : z = (j : Int)) (h : j < xs.length) : ixN xs.length z = some j := by
  rw [e]
  exact ixN_nat h
/-- an item of a list of fractions -/
theorem FrL.at {K : PySem.W.Frag} {H : Hp} {n : Nat} {vs : List V} {f : Nat → Rat} (h : FrL K H n vs f) {z : Int} {j : Nat} (e : z = (j : Int)) (k : j < vs.length) : ∃ v, atI vs z = some v ∧ Fr K H n v (f j) := by
  obtain ⟨v, e1, e2⟩ := h.get k
  exact ⟨v, at_of e e1, e2⟩
def spSteps (K : PySem.W.Frag) : Sp := fun vs H Q _ => ∃ l : Addr, vs = [.ref l] ∧ Row H l ∧ ∀ (H' : Hp) (t pp ps : Addr) (pv sv : List V) (n : Nat) (x s : Nat → Rat), Keep l H H' → Row H' l → H' t = some (.tup [.ref pp, .ref ps]) → H pp = none → H ps = none → H' pp = some (.lst pv) → H' ps = some (.lst sv) →
  pv.length = n + 1 → sv.length = n → 1 ≤ n → n ≤ 4 → FrL K H' 24 pv x → FrL K H' 3 sv s → Asc n x → Q (.ref t) H'
section
variable {P : Program} {w : World} {K : PySem.W.Frag} {mg : Str → Option Value} {base : Heap} {f : Addr} {fd : FuncData}
theorem scFrac : FnScope ["_law_row", "_law_choice"] ["_law_row"] (defScope sFrac) := ⟨rfl, rfl, rfl, by decide +kernel, rfl, by decide +kernel, by decide +kernel⟩
theorem ok_frac (F : FnP K "_law_fraction" "_law_fraction" sFrac [] f fd) (cT : C8.Cal P w K mg base 1 "_law_take" spTake []) (cL : C8.Cal P w K mg base 1 "_law_lowest" (spLow K) []) : FnOk P w K mg base CX0 2 f fd ["_law_row"] (spFrac K) := by
  refine F.ok scFrac (fun vs H Q E h => ?_) (fun cdv A outer s H vs Q E hr h => ⟨_, PSs.nox (pss_cons (ps_set (i := 1) scFrac.nd rfl (.inl rfl) (C8.pe_c cT hr (by decide) rfl (pa_cons (pv 0) (pa_cons pe_int pa_nil))))
      (pss_cons (ps_if (pt_cmpR op_lt (pv 1) pe_int (nomark _)) (pss_one (ps_ret (pe_tup (pa_cons (pe_op op_sub (C8.pe_c cT hr (by decide) rfl (pa_cons (pv 0) (pa_cons pe_int pa_nil))) pe_int) (pa_cons pe_int pa_nil))))) pss_nil)
      (pss_cons (ps_if (pt_cmpR op_lt (pv 1) pe_int (nomark _)) (pss_one (ps_ret (C8.pe_c cL hr (by decide) rfl (pa_cons (pe_op op_sub (C8.pe_c cT hr (by decide) rfl (pa_cons (pv 0) (pa_cons pe_int pa_nil))) pe_int)
          (pa_cons (pe_op op_add pe_int (C8.pe_c cT hr (by decide) rfl (pa_cons (pv 0) (pa_cons pe_int pa_nil)))) pa_nil))))) pss_nil)
      (pss_cons (ps_if (pt_cmpR op_eq (pv 1) pe_int (nomark _)) (pss_one (ps_ret (pe_tup (pa_cons pe_int (pa_cons pe_int pa_nil))))) pss_nil)
      (pss_one (ps_ret (C8.pe_c cL hr (by decide) rfl (pa_cons (pe_op op_sub (C8.pe_c cT hr (by decide) rfl (pa_cons (pv 0) (pa_cons pe_int pa_nil))) pe_int)
          (pa_cons (pe_op op_add pe_int (C8.pe_c cT hr (by decide) rfl (pa_cons (pv 0) (pa_cons pe_int pa_nil)))) pa_nil))))))))), ?_⟩)
  · obtain ⟨l, rfl, _⟩ := h
    rfl
  · obtain ⟨l, rfl, row, k⟩ := h
    refine ⟨_, rfl, l, 8, rfl, by decide, row, fun c H1 c0 c8 k1 row1 => ?_⟩
    refine ⟨_, rfl, _, _, rfl, rfl, _, rfl, ?_⟩
    refine ite2 (fun _ => ?_) (fun _ => ?_)
    · refine ⟨_, rfl, l, 7, rfl, by decide, row1, fun r H2 r0 r1 k2 row2 => ⟨_, _, rfl, rfl, (by show 2 ≤ sizeLine; decide), fun a ha => ?_⟩⟩
      exact k _ (Rat.ofInt (r - 2)) _ (k1.trans (k2.trans (Keep.of (same_new ha)))) (row2.same (same_new ha)) (Fr.lit (p := r - 2) (q := 1) rfl rfl ⟨show (r - 2).natAbs < 2 ^ 7 by omega, show 1 < 2 ^ 7 by decide⟩ upd_same)
    refine ⟨_, rfl, _, _, rfl, rfl, _, rfl, ?_⟩
    refine ite2 (fun _ => ?_) (fun _ => ?_)
    · refine ⟨_, rfl, l, 13, rfl, by decide, row1, fun r H2 r0 r1 k2 row2 => ⟨_, _, rfl, rfl, ?_⟩⟩
      refine ⟨_, rfl, l, 4, rfl, by decide, row2, fun q H3 q0 q1 k3 row3 => ⟨_, _, rfl, rfl, ?_⟩⟩
      refine ⟨r - 6, 1 + q, 7, rfl, by omega, by omega, by omega, by decide, fun v H4 s4 f4 => ?_⟩
      exact k v _ H4 (k1.trans (k2.trans (k3.trans (Keep.of s4)))) (row3.same s4) f4
    refine ⟨_, rfl, rfl, _, rfl, ?_⟩
    refine ite2 (fun _ => ?_) (fun _ => ?_)
    · refine ⟨(by show 2 ≤ sizeLine; decide), fun a ha => ?_⟩
      exact k _ 0 _ (k1.trans (Keep.of (same_new ha))) (row1.same (same_new ha)) ((lit01 (SqT.of upd_same)).mono (by decide))
    · refine ⟨_, rfl, l, 200, rfl, by decide, row1, fun r H2 r0 r1 k2 row2 => ⟨_, _, rfl, rfl, ?_⟩⟩
      refine ⟨_, rfl, l, 30, rfl, by decide, row2, fun q H3 q0 q1 k3 row3 => ⟨_, _, rfl, rfl, ?_⟩⟩
      refine ⟨r - 100, 1 + q, 7, rfl, by omega, by omega, by omega, by decide, fun v H4 s4 f4 => ?_⟩
      exact k v _ H4 (k1.trans (k2.trans (k3.trans (Keep.of s4)))) (row3.same s4) f4
/-! ### numbers -/
theorem scNumbers : FnScope ["_law_script", "_law_count", "_law_row", "_law_base", "_law_cell", "_law_rest", "_law_k"] ["_law_script", "_law_count"] (defScope sNumbers) := ⟨rfl, rfl, rfl, by decide +kernel, rfl, by decide +kernel, by decide +kernel⟩
/-- the row while it is made: n numbers at most, the slice at a2 stands -/
structure RowIn (H H' : Hp) (l a2 : Addr) (its : List V) (n : Nat) : Prop where
  same : Same H H'
  row : ∃ rs : List Int, H' l = some (.lst (rs.map V.int)) ∧ rs.length ≤ n
  it : H' a2 = some (.lst its)
theorem RowIn.push {H H' : Hp} {l a2 : Addr} {its : List V} {n : Nat} (h : RowIn H H' l a2 its n) (hl : H l = none) (na : a2 ≠ l) (hn : n ≤ 4000) : ∃ xs, H' l = some (.lst xs) ∧ xs.length < sizeLine ∧ ∀ z : Int, RowIn H (upd H' l (.lst (xs ++ [.int z]))) l a2 its (n + 1) := by
  obtain ⟨hs, ⟨rs, hr, hz⟩, hi⟩ := h
  have l4 : (4000 : Nat) < sizeLine := by decide
  refine ⟨_, hr, by rw [List.length_map]; omega, fun z => ⟨same_upd hs hl, ⟨rs ++ [z], ?_, ?_⟩, by rw [upd_ne na]; exact hi⟩⟩
  · rw [upd_same, List.map_append]
    rfl
  · rw [List.length_append, List.length_singleton]
    omega
theorem RowIn.mono {H H' : Hp} {l a2 : Addr} {its : List V} {n m : Nat} (h : RowIn H H' l a2 its n) (k : n ≤ m) : RowIn H H' l a2 its m := by
  obtain ⟨hs, ⟨rs, hr, hz⟩, hi⟩ := h
  exact ⟨hs, ⟨rs, hr, Nat.le_trans hz k⟩, hi⟩
theorem ok_numbers (F : FnP K "_law_numbers" "_law_numbers" sNumbers [] f fd) (gi : mg "int" = none) (gr : mg "range" = none) (cM : C8.Cal P w K mg base 1 "_law_mix" spMix []) : FnOk P w K mg base CX0 2 f fd ["_law_script", "_law_count"] (spNumbers K) := by
  refine F.ok scNumbers (fun vs H Q E h => ?_) (fun cdv A outer s H vs Q E hr h => ⟨_, PSs.nox (pss_cons (ps_set (i := 2) scNumbers.nd rfl (.inl rfl) (pe_lst pa_nil))
      (pss_cons (ps_set (i := 3) scNumbers.nd rfl (.inl rfl) pe_int)
      (pss_cons (ps_for PassesOwn.never rfl (pi_list (pe_slice sl_list (pv 0) po_none (po_some pe_int))) (pg_name (i := 4) scNumbers.nd rfl (.inl rfl))
        (pss_cons (ps_set (i := 3) scNumbers.nd rfl (.inl rfl) (pe_op op_add (pv 3) (pv 4)))
        (pss_one (ps_if (pt_cmpR op_ge (pv 4) pe_int (nomark _))
          (pss_cons (ps_set (i := 5) scNumbers.nd rfl (.inl rfl) (pv 4))
          (pss_one (ps_for PassesOwn.never rfl (pi_range1 rfl gr (pa_cons pe_int pa_nil)) (pg_name (i := 6) scNumbers.nd rfl (.inl rfl))
            (pss_cons (ps_expr (pe_bm PySem.F.plainAttrs_list PySem.F.slot_list_append PySem.F.type_list_append mt_append (pv 2) (pa_cons (pe_op op_mod (pe_callTy call_int1 (by rfl) gi (by decide +kernel) (pa_cons (pv 5) pa_nil)) pe_int) pa_nil)))
            (pss_cons (ps_set (i := 5) scNumbers.nd rfl (.inl rfl) (pe_op op_fdiv (pv 5) pe_int))
            (pss_one (ps_if (pt_cmpR op_eq (pv 5) pe_int (nomark _)) (pss_one ps_break) pss_nil)))))))
          (pss_one (ps_expr (pe_bm PySem.F.plainAttrs_list PySem.F.slot_list_append PySem.F.type_list_append mt_append (pv 2) (pa_cons (C8.pe_c cM hr (by decide) rfl (pa_cons (C8.pe_c cM hr (by decide) rfl (pa_cons (pv 4) (pa_cons pe_int pa_nil))) (pa_cons pe_int pa_nil))) pa_nil))))))))
      (pss_cons (ps_for PassesOwn.never rfl (pi_range1 rfl gr (pa_cons (pv 1) pa_nil)) (pg_name (i := 6) scNumbers.nd rfl (.inl rfl))
        (pss_one (ps_expr (pe_bm PySem.F.plainAttrs_list PySem.F.slot_list_append PySem.F.type_list_append mt_append (pv 2) (pa_cons (C8.pe_c cM hr (by decide) rfl (pa_cons (C8.pe_c cM hr (by decide) rfl
          (pa_cons (pe_op op_add (pv 3) (pe_op op_mul pe_int (pv 6))) (pa_cons (pe_op op_add pe_int (pv 6)) pa_nil))) (pa_cons pe_int pa_nil))) pa_nil)))))
      (pss_cons (ps_expr (pe_bm0 PySem.F.plainAttrs_list PySem.F.slot_list_reverse PySem.F.type_list_reverse mt_reverse (pv 2)))
      (pss_one (ps_ret (pv 2)))))))), ?_⟩)
  · obtain ⟨a, ns, rfl, _⟩ := h
    rfl
  · obtain ⟨a, ns, rfl, hS, hn, k⟩ := h
    refine ⟨Nat.zero_le _, fun l hl => ?_⟩
    have s1 := same_new (o := .lst []) hl
    refine ⟨_, rfl, _, rfl, a, _, rfl, s1.seq hS, fun a2 h2 => ?_⟩
    have nal : a2 ≠ l := fun z => by
      rw [z, upd_same] at h2
      cases h2
    have s2 := same_new (o := .lst (cutV (ns.map V.int) none (some 63))) h2
    have e63 : cutV (ns.map V.int) none (some 63) = ns.map V.int := by
      rw [show (63 : Int) = ((63 : Nat) : Int) from rfl, cut_first, List.take_of_length_le (by rw [List.length_map]; exact hn)]
    rw [e63] at s2 ⊢
    have R0 : RowIn H (upd (upd H l (.lst [])) a2 (.lst (ns.map V.int))) l a2 (ns.map V.int) 0 := ⟨s1.trans s2, ⟨[], s2 _ _ upd_same, Nat.le_refl _⟩, upd_same⟩
    refine ⟨a2, rfl, ⟨_, SqL.of upd_same⟩, for_list (K := K) (a := a2) (xs := ns.map V.int) (fun i σ H' => ∃ (b : Int) (c r kk : Option V), σ = [some (.ref a), some (.int 90), some (.ref l), some (.int b), c, r, kk] ∧ RowIn H H' l a2 (ns.map V.int) (60 * i))
      ⟨0, none, none, none, rfl, R0⟩ (fun i σ H' _ ⟨_, _, _, _, _, R⟩ => SqL.of R.it) ?_ ?_⟩
    · rintro i y σ H' hi ⟨b, c, r, kk, rfl, R⟩
      have hi63 : i < ns.length := by
        have q := (List.getElem?_eq_some_iff.mp hi).1
        rw [List.length_map] at q
        exact q
      obtain ⟨u, rfl⟩ : ∃ u, y = V.int u := by
        rw [List.getElem?_map] at hi
        cases e : ns[i]? with
        | none =>
          rw [e] at hi
          cases hi
        | some u =>
          rw [e] at hi
          exact ⟨u, (Option.some.inj hi).symm⟩
      refine ⟨_, rfl, _, rfl, _, _, rfl, rfl, ?_⟩
      refine ⟨_, rfl, _, _, rfl, rfl, _, rfl, ?_⟩
      refine ite2 (fun _ => ?_) (fun _ => ?_)
      · refine ⟨_, rfl, ?_⟩
        refine ⟨60, rfl, by decide, by decide, for_range (lo := 0) (n := 60) (fun j σ H' => ∃ (rr : Int) (kk : Option V), σ = [some (.ref a), some (.int 90), some (.ref l), some (.int (b + u)), some (.int u), some (.int rr), kk] ∧ RowIn H H' l a2 (ns.map V.int) (60 * i + j)) ⟨u, kk, rfl, R⟩ ?_ ?_⟩
        · rintro j σ H2 hj ⟨rr, kk, rfl, R2⟩
          obtain ⟨xs, hx, hz, nx⟩ := R2.push hl nal (by omega)
          refine ⟨_, rfl, .inl ⟨rfl, _, SqL.of hx⟩, _, rfl, .inl ⟨_, rfl, _, _, rfl, rfl, (by show (0 : Int) < 840; decide), l, xs, _, rfl, rfl, hx, hz, ?_⟩⟩
          refine ⟨_, rfl, _, _, rfl, rfl, ⟨by decide, by decide⟩, ?_⟩
          refine ⟨_, rfl, rfl, _, rfl, ?_⟩
          refine ite2 (fun _ => ?_) (fun _ => ?_)
          · exact ⟨_, _, _, _, rfl, (nx _).mono (by omega)⟩
          · exact ⟨_, _, rfl, nx _⟩
        · rintro σ H2 ⟨rr, kk, rfl, R2⟩
          exact ⟨_, _, _, _, rfl, R2.mono (by omega)⟩
      · obtain ⟨xs, hx, hz, nx⟩ := R.push hl nal (by omega)
        refine ⟨_, rfl, .inl ⟨rfl, _, SqL.of hx⟩, _, rfl, u, 3, rfl, fun r1 => ⟨r1, 5, rfl, fun r2 => ⟨l, xs, _, rfl, rfl, hx, hz, ?_⟩⟩⟩
        exact ⟨_, _, _, _, rfl, (nx _).mono (by omega)⟩
    · rintro σ H' ⟨b, c, r, kk, rfl, R⟩
      rw [List.length_map] at R
      refine ⟨_, rfl, 90, rfl, by decide, by decide, for_range (lo := 0) (n := 90) (fun j σ H' => ∃ (kk : Option V), σ = [some (.ref a), some (.int 90), some (.ref l), some (.int b), c, r, kk] ∧ RowIn H H' l a2 (ns.map V.int) (60 * ns.length + j)) ⟨kk, rfl, R⟩ ?_ ?_⟩
      · rintro j σ H2 hj ⟨kk, rfl, R2⟩
        obtain ⟨xs, hx, hz, nx⟩ := R2.push hl nal (by omega)
        refine ⟨_, rfl, .inl ⟨rfl, _, SqL.of hx⟩, _, rfl, _, rfl, _, _, rfl, rfl, .inl ⟨by decide, by decide⟩, _, _, rfl, rfl, _, rfl, _, _, rfl, rfl, _, _, rfl, fun r1 => ⟨r1, 17, rfl, fun r2 => ⟨l, xs, _, rfl, rfl, hx, hz, ?_⟩⟩⟩
        exact ⟨_, rfl, nx _⟩
      · rintro σ H2 ⟨kk, rfl, R2⟩
        obtain ⟨s2, ⟨rs, hrs, hz⟩, _⟩ := R2
        refine ⟨_, rfl, .inl ⟨rfl, _, SqL.of hrs⟩, l, _, rfl, rfl, hrs, _, rfl, ?_⟩
        exact k l _ (same_upd s2 hl) hl ⟨rs.reverse, by rw [upd_same, List.map_reverse]⟩
end
end Un

set_option Elab.async false
set_option linter.all false
set_option maxRecDepth 100000
/-! steps. -/
namespace Un
open PySem PySem.Spec PyProof.Rows L2
theorem Asc.push {n : Nat} {x : Nat → Rat} {y : Rat} (h : Asc n x) (hy : x n < y) : Asc (n + 1) (put x (n + 1) y) := fun i hi => by
  by_cases c : i = n
  · rw [c, put_same, put_ne _ _ (by omega)]
    exact hy
  · rw [put_ne _ _ (by omega), put_ne _ _ (by omega)]
    exact h i (by omega)
section
variable {P : Program} {w : World} {K : PySem.W.Frag} {mg : Str → Option Value} {base : Heap} {f : Addr} {fd : FuncData}
theorem scSteps : FnScope ["_law_row", "_law_low", "_law_points", "_law_k", "_law_shares"] ["_law_row"] (defScope sSteps) := ⟨rfl, rfl, rfl, by decide +kernel, rfl, by decide +kernel, by decide +kernel⟩
theorem ok_steps (F : FnP K "_law_steps" "_law_steps" sSteps [] f fd) (gr : mg "range" = none) (gl : mg "len" = none) (cF : C8.Cal P w K mg base 2 "_law_fraction" (spFrac K) []) (cT : C8.Cal P w K mg base 1 "_law_take" spTake []) (cL : C8.Cal P w K mg base 1 "_law_lowest" (spLow K) [])
    (cP : C8.Cal P w K mg base 2 "_law_plus" (spPlus K) []) (cS : C8.Cal P w K mg base 1 "_law_less" (spLess K) []) : FnOk P w K mg base CX0 3 f fd ["_law_row"] (spSteps K) := by
  refine F.ok scSteps (fun vs H Q E h => ?_) (fun cdv A outer s H vs Q E hr h => ⟨_, PSs.nox (pss_cons (ps_set (i := 1) scSteps.nd rfl (.inl rfl) (C8.pe_c cF hr (by decide) rfl (pa_cons (pv 0) pa_nil)))
      (pss_cons (ps_set (i := 2) scSteps.nd rfl (.inl rfl) (pe_lst (pa_cons (pv 1) pa_nil)))
      (pss_cons (ps_for PassesOwn.never rfl (pi_range1 rfl gr (pa_cons (pe_op op_add pe_int (C8.pe_c cT hr (by decide) rfl (pa_cons (pv 0) (pa_cons pe_int pa_nil)))) pa_nil)) (pg_name (i := 3) scSteps.nd rfl (.inl rfl))
        (pss_one (ps_expr (pe_bm PySem.F.plainAttrs_list PySem.F.slot_list_append PySem.F.type_list_append mt_append (pv 2) (pa_cons (C8.pe_c cP hr (by decide) rfl (pa_cons (pe_ix ix_list (pv 2) (pv 3) (fun _ _ => rfl))
          (pa_cons (C8.pe_c cL hr (by decide) rfl (pa_cons (pe_op op_add pe_int (C8.pe_c cT hr (by decide) rfl (pa_cons (pv 0) (pa_cons pe_int pa_nil)))) (pa_cons (pe_op op_add pe_int (C8.pe_c cT hr (by decide) rfl (pa_cons (pv 0) (pa_cons pe_int pa_nil)))) pa_nil))) pa_nil))) pa_nil)))))
      (pss_cons (ps_set (i := 4) scSteps.nd rfl (.inl rfl) (pe_lst pa_nil))
      (pss_cons (ps_for PassesOwn.never rfl (pi_range1 rfl gr (pa_cons (pe_op op_sub (pe_callB call_len_seq (by rfl) gl PySem.boot_len (pa_cons (pv 2) pa_nil)) pe_int) pa_nil)) (pg_name (i := 3) scSteps.nd rfl (.inl rfl))
        (pss_one (ps_expr (pe_bm PySem.F.plainAttrs_list PySem.F.slot_list_append PySem.F.type_list_append mt_append (pv 4) (pa_cons (C8.pe_c cL hr (by decide) rfl (pa_cons (pe_op op_sub (C8.pe_c cT hr (by decide) rfl (pa_cons (pv 0) (pa_cons pe_int pa_nil))) pe_int)
          (pa_cons (pe_op op_add pe_int (C8.pe_c cT hr (by decide) rfl (pa_cons (pv 0) (pa_cons pe_int pa_nil)))) pa_nil))) pa_nil)))))
      (C8.pss_cut (ps_if (pt_cmpR op_eq (C8.pe_c cT hr (by decide) rfl (pa_cons (pv 0) (pa_cons pe_int pa_nil))) pe_int (nomark _))
        (pss_one (ps_for PassesOwn.never rfl (pi_range2 rfl gr (pa_cons pe_int (pa_cons (pe_callB call_len_seq (by rfl) gl PySem.boot_len (pa_cons (pv 4) pa_nil)) pa_nil))) (pg_name (i := 3) scSteps.nd rfl (.inl rfl))
          (pss_one (ps_if (pt_val (C8.pe_c cS hr (by decide) rfl (pa_cons (pe_ix ix_list (pv 4) (pv 3) (fun _ _ => rfl)) (pa_cons (pe_ix ix_list (pv 4) (pe_op op_sub (pv 3) pe_int) (fun _ _ => rfl)) pa_nil))))
            (pss_one (ps_asg (pe_ix ix_list (pv 4) (pe_op op_sub (pv 3) pe_int) (fun _ _ => rfl)) (pg_sub (pv 4) (pv 3) set_list))) pss_nil)))) pss_nil)
      (pss_one (ps_ret (pe_tup (pa_cons (pv 2) (pa_cons (pv 4) pa_nil))))))))))), ?_⟩)
  · obtain ⟨l, rfl, _⟩ := h
    rfl
  · obtain ⟨l, rfl, row, k⟩ := h
    have big : (100 : Nat) < sizeLine := by decide
    -- low, points
    refine ⟨_, rfl, l, rfl, row, fun lo x0 H1 k1 row1 f1 => ?_⟩
    refine ⟨_, rfl, (by show 1 ≤ sizeLine; decide), fun pp hpp => ?_⟩
    have hp0 : H pp = none := k1.free row1 hpp
    have nlp : l ≠ pp := row1.ne hpp
    have s2 := same_new (o := .lst [lo]) hpp
    have F0 : FrL K (upd H1 pp (.lst [lo])) 7 [lo] (fun _ => x0) := fun i v e => by
      cases i with
      | zero =>
        have e1 : lo = v := Option.some.inj e
        rw [← e1]
        exact f1.same s2
      | succ i => cases e
    -- the points' loop
    refine ⟨_, rfl, l, 4, rfl, by decide, row1.same s2, fun m H2 m0 m4 k2 row2 => ⟨_, _, rfl, rfl, ?_⟩⟩
    refine ⟨_, rfl, by omega, by omega, for_range (lo := 0) (n := (1 + m).toNat) (fun i σ H' => ∃ (pv : List V) (x : Nat → Rat) (kk : Option V), σ = [some (.ref l), some lo, some (.ref pp), kk, none] ∧ Keep l H H' ∧ Row H' l ∧ H' pp = some (.lst pv) ∧ pv.length = i + 1 ∧ FrL K H' (7 + 4 * i) pv x ∧ Asc i x)
      ⟨[lo], fun _ => x0, none, rfl, (keep_upd k1 hp0).trans k2, row2, k2 _ _ upd_same nlp.symm, rfl, F0.row k2 (row1.same s2), fun i hi => absurd hi (Nat.not_lt_zero _)⟩ ?_ ?_⟩
    · rintro i σ H3 hi ⟨pv, x, kk, rfl, k3, row3, h3, hl3, F3, A3⟩
      have hi4 : i < 4 := by omega
      rw [Int.zero_add]
      obtain ⟨pi, ei, fi⟩ := F3.get (i := i) (by omega)
      refine ⟨_, rfl, .inl ⟨rfl, _, SqL.of h3⟩, _, rfl, _, rfl, _, _, _, pi, rfl, rfl, SqL.of h3, at_of rfl ei, ?_⟩
      refine ⟨_, rfl, l, 6, rfl, by decide, row3, fun a H4 a0 a6 k4 row4 => ⟨_, _, rfl, rfl, ?_⟩⟩
      refine ⟨_, rfl, l, 3, rfl, by decide, row4, fun b H5 b0 b3 k5 row5 => ⟨_, _, rfl, rfl, ?_⟩⟩
      refine ⟨1 + a, 1 + b, 3, rfl, by omega, by omega, by omega, by decide, fun v6 H6 s6 f6 => ?_⟩
      have k36 := k4.trans (k5.trans (Keep.of s6))
      have row6 := row5.same s6
      refine ⟨pi, v6, x i, _, 7 + 4 * i, 3, rfl, fi.row k36 row3, f6, by omega, fun v7 H7 s7 f7 => ?_⟩
      have k37 := k36.trans (Keep.of s7)
      have row7 := row6.same s7
      have h7 := k37 _ _ h3 nlp.symm
      refine ⟨pp, pv, v7, rfl, rfl, h7, by omega, ?_⟩
      have kp : Keep pp H7 (upd H7 pp (.lst (pv ++ [v7]))) := Keep.upd
      have G7 := (F3.row k37 row3).mono (m := 7 + 4 * i + 3 + 1) (by omega)
      have G8 := (G7.push f7).keep kp h7
      rw [hl3, show 7 + 4 * i + 3 + 1 = 7 + 4 * (i + 1) by omega] at G8
      refine ⟨_, _, _, rfl, keep_upd (k3.trans k37) hp0, row7.upd nlp, upd_same, by rw [List.length_append, hl3] <;> rfl, G8, A3.push ?_⟩
      have := mk_pos (p := 1 + a) (q := 1 + b) (by omega) (by omega)
      grind
    · rintro σ H3 ⟨pv, x, kk, rfl, k3, row3, h3, hl3, F3, A3⟩
      obtain ⟨n, hn⟩ : ∃ n : Nat, n = (1 + m).toNat := ⟨_, rfl⟩
      rw [← hn] at hl3 F3 A3
      have n1 : 1 ≤ n := by omega
      have n4 : n ≤ 4 := by omega
      have F3' : FrL K H3 24 pv x := F3.mono (by omega)
      -- shares
      refine ⟨Nat.zero_le _, fun ps hps => ?_⟩
      have hs0 : H ps = none := k3.free row3 hps
      have nls : l ≠ ps := row3.ne hps
      have nps : pp ≠ ps := ne_of_none h3 hps
      have s4 := same_new (o := .lst []) hps
      refine ⟨_, rfl, pp, pv, rfl, .inl (SqL.of (s4 _ _ h3)), _, _, rfl, rfl, ?_⟩
      refine ⟨_, rfl, by omega, by omega, for_range (lo := 0) (n := ((pv.length : Int) - 1).toNat) (fun i σ H' => ∃ (sv : List V) (s : Nat → Rat) (kk : Option V), σ = [some (.ref l), some lo, some (.ref pp), kk, some (.ref ps)] ∧ Keep l H H' ∧ Row H' l ∧ H' pp = some (.lst pv) ∧ FrL K H' 24 pv x ∧
          H' ps = some (.lst sv) ∧ sv.length = i ∧ FrL K H' 3 sv s)
        ⟨[], fun _ => 0, kk, rfl, keep_upd k3 hs0, row3.same s4, s4 _ _ h3, F3'.same s4, upd_same, rfl, FrL.nil⟩ ?_ ?_⟩
      · rintro i σ H4 hi ⟨sv, s, kk, rfl, k4, row4, h4, F4, g4, hl4, G4⟩
        refine ⟨_, rfl, .inl ⟨rfl, _, SqL.of g4⟩, ?_⟩
        refine ⟨_, rfl, l, 7, rfl, by decide, row4, fun a H5 a0 a7 k5 row5 => ⟨_, _, rfl, rfl, ?_⟩⟩
        refine ⟨_, rfl, l, 3, rfl, by decide, row5, fun b H6 b0 b3 k6 row6 => ⟨_, _, rfl, rfl, ?_⟩⟩
        refine ⟨a - 1, 1 + b, 3, rfl, by omega, by omega, by omega, by decide, fun v7 H7 s7 f7 => ?_⟩
        have k47 := k5.trans (k6.trans (Keep.of s7))
        have row7 := row6.same s7
        have g7 := k47 _ _ g4 nls.symm
        refine ⟨ps, sv, v7, rfl, rfl, g7, by omega, ?_⟩
        have kp : Keep ps H7 (upd H7 ps (.lst (sv ++ [v7]))) := Keep.upd
        have G8 := ((G4.row k47 row4).push f7).keep kp g7
        refine ⟨_, _, _, rfl, keep_upd (k4.trans k47) hs0, row7.upd nls, kp _ _ (k47 _ _ h4 nlp.symm) nps, (F4.row k47 row4).keep kp g7, upd_same, by rw [List.length_append, hl4] <;> rfl, G8⟩
      · rintro σ H4 ⟨sv, s, kk, rfl, k4, row4, h4, F4, g4, hl4, G4⟩
        have hsn : sv.length = n := by omega
        -- if take(row, 2) == 1
        refine ⟨fun σ' H' => ∃ (sv : List V) (s : Nat → Rat) (kk : Option V), σ' = [some (.ref l), some lo, some (.ref pp), kk, some (.ref ps)] ∧ Keep l H H' ∧ Row H' l ∧ H' pp = some (.lst pv) ∧ FrL K H' 24 pv x ∧
          H' ps = some (.lst sv) ∧ sv.length = n ∧ FrL K H' 3 sv s, ?_, ?_⟩
        · refine ⟨_, rfl, l, 2, rfl, by decide, row4, fun c H5 c0 c2 k5 row5 => ?_⟩
          refine ⟨rfl, _, rfl, ?_⟩
          have h5 := k5 _ _ h4 nlp.symm
          have g5 := k5 _ _ g4 nls.symm
          have F5 := F4.row k5 row4
          have G5 := G4.row k5 row4
          refine ite2 (fun _ => ?_) (fun _ => ?_)
          · refine ⟨_, rfl, ps, sv, rfl, .inl (SqL.of g5), 1, _, rfl, ⟨by decide, by decide, by omega, by omega⟩, for_range (lo := 1) (n := ((sv.length : Int) - 1).toNat) (fun i σ H' => ∃ (sv : List V) (s : Nat → Rat) (kk : Option V), σ = [some (.ref l), some lo, some (.ref pp), kk, some (.ref ps)] ∧ Keep l H H' ∧ Row H' l ∧ H' pp = some (.lst pv) ∧ FrL K H' 24 pv x ∧
              H' ps = some (.lst sv) ∧ sv.length = n ∧ FrL K H' 3 sv s) ⟨sv, s, kk, rfl, k4.trans k5, row5, h5, F5, g5, hsn, G5⟩ ?_ ?_⟩
            · rintro i σ H6 hi ⟨sv6, s6, kk, rfl, k6, row6, h6, F6, g6, hl6, G6⟩
              obtain ⟨va, ea, fa⟩ := G6.get (i := i + 1) (by omega)
              obtain ⟨vb, eb, fb⟩ := G6.get (i := i) (by omega)
              refine ⟨_, rfl, _, rfl, _, _, _, va, rfl, rfl, SqL.of g6, at_of (by omega) ea, _, rfl, _, rfl, _, _, rfl, rfl, _, _, _, vb, rfl, rfl, SqL.of g6, at_of (by omega) eb, ?_⟩
              refine ⟨va, vb, _, _, 3, 3, rfl, fa, fb, by decide, _, rfl, ?_⟩
              refine ite2 (fun _ => ?_) (fun _ => ?_)
              · refine ⟨_, rfl, _, rfl, _, _, rfl, rfl, _, _, _, vb, rfl, rfl, SqL.of g6, at_of (by omega) eb, _, rfl, _, rfl, ps, sv6, _, i + 1, rfl, rfl, g6, setAt (by omega) (by omega), ?_⟩
                have kp : Keep ps H6 (upd H6 ps (.lst (sv6.set (i + 1) vb))) := Keep.upd
                exact ⟨_, _, _, rfl, keep_upd k6 hs0, row6.upd nls, kp _ _ h6 nps, F6.keep kp g6, upd_same, by rw [List.length_set]; exact hl6, (G6.set fb).keep kp g6⟩
              · exact ⟨_, _, _, rfl, k6, row6, h6, F6, g6, hl6, G6⟩
            · rintro σ H6 q
              exact q
          · exact ⟨sv, s, kk, rfl, k4.trans k5, row5, h5, F5, g5, hsn, G5⟩
        · rintro σ H5 ⟨sv, s, kk, rfl, k5, row5, h5, F5, g5, hl5, G5⟩
          refine ⟨_, rfl, _, rfl, (by show 2 ≤ sizeLine; decide), fun t ht => ?_⟩
          have s6 := same_new (o := .tup [.ref pp, .ref ps]) ht
          exact k _ t pp ps pv sv n x s (k5.trans (Keep.of s6)) (row5.same s6) upd_same hp0 hs0 (s6 _ _ h5) (s6 _ _ g5) hl3 hl5 n1 n4 (F5.same s6) (G5.same s6) A3
end
end Un

set_option Elab.async false
set_option linter.all false
set_option maxRecDepth 100000
/-! piece, has, tolls, numbers_in. -/
namespace Un
open PySem PySem.Spec PyProof.Rows L2
abbrev sPiece : Stmt := top 31
abbrev sHas : Stmt := top 32
abbrev sTolls : Stmt := top 33
abbrev sNumIn : Stmt := top 35
theorem part_le (r : Int) (h0 : 0 ≤ r) (h1 : r < 12) : 0 ≤ Rat.divInt r 12 ∧ Rat.divInt r 12 ≤ 1 := by
  refine ⟨Rat.divInt_nonneg h0 (by decide), ?_⟩
  rw [Rat.divInt_eq_div]
  have e : ((r : Rat) / ((12 : Int) : Rat)) * 12 = r := Rat.div_mul_cancel (by decide)
  have l : (r : Rat) ≤ 12 := by
    have := (Rat.intCast_le_intCast (a := r) (b := 12)).mpr (by omega)
    exact this
  grind
def r99 : Rat := { num := 99, den := 100, den_nz := by decide, reduced := by decide }
theorem r99_le : 0 ≤ r99 ∧ r99 ≤ 1 := ⟨(Rat.le_iff _ _).mpr (by decide), (Rat.le_iff _ _).mpr (by decide)⟩
theorem between {a b c : Rat} (h : a < b) (h0 : 0 ≤ c) (h1 : c ≤ 1) : a ≤ a + c * (b - a) ∧ a + c * (b - a) ≤ b := by
  have m : 0 ≤ c * (b - a) := Rat.mul_nonneg h0 (by grind)
  have m2 : 0 ≤ (1 - c) * (b - a) := Rat.mul_nonneg (by grind) (by grind)
  refine ⟨by grind, by grind⟩
/-- the points and the shares of a rule as lists -/
structure Rule (K : PySem.W.Frag) (H : Hp) (pp ps : Addr) (n : Nat) (x s : Nat → Rat) : Prop where
  pts : ∃ pv, SqL K H pp pv ∧ pv.length = n + 1 ∧ FrL K H 24 pv x
  shs : ∃ sv, SqL K H ps sv ∧ sv.length = n ∧ FrL K H 3 sv s
  n1 : 1 ≤ n
  n4 : n ≤ 4
theorem Rule.same {K : PySem.W.Frag} {H H' : Hp} {pp ps : Addr} {n : Nat} {x s : Nat → Rat} (e : Same H H') (h : Rule K H pp ps n x s) : Rule K H' pp ps n x s := by
  obtain ⟨⟨pv, a, b, c⟩, ⟨sv, a', b', c'⟩, n1, n4⟩ := h
  exact ⟨⟨pv, e.seq a, b, c.same e⟩, ⟨sv, e.seq a', b', c'.same e⟩, n1, n4⟩
def spPiece (K : PySem.W.Frag) : Sp := fun vs H Q _ => ∃ (pp : Addr) (u : V) (pv : List V) (n m : Nat) (x : Nat → Rat) (t : Rat), vs = [.ref pp, u] ∧ SqL K H pp pv ∧ pv.length = n + 1 ∧ FrL K H 24 pv x ∧ 1 ≤ n ∧ n ≤ 4 ∧ Fr K H m u t ∧ m ≤ 1000 ∧
  ∀ k, PieceIs n x t k → Q (.int (k : Nat)) H
def spHas (K : PySem.W.Frag) : Sp := fun vs H Q _ => ∃ (pp ps pa : Addr) (u v : V) (pv : List V) (n m m' : Nat) (x s p : Nat → Rat) (t t' : Rat), vs = [.ref pp, .ref ps, .ref pa, u, v] ∧ Rule K H pp ps n x s ∧ Pay K H pa pv n p ∧ Fr K H m u t ∧ m ≤ 1000 ∧ Fr K H m' v t' ∧ m' ≤ 1000 ∧
  ∀ k, PieceIs n x t' k → New K H Q (m + 125) (t * s k - p k)
def spTolls (K : PySem.W.Frag) : Sp := fun vs H Q _ => ∃ (pp ps : Addr) (n : Nat) (x s : Nat → Rat), vs = [.ref pp, .ref ps] ∧ Rule K H pp ps n x s ∧
  ∀ H' a tv p, Same H H' → H a = none → H' a = some (.lst tv) → tv.length = n → FrL K H' 100 tv p → TollIs n x s p → Q (.ref a) H'
def spNumIn (K : PySem.W.Frag) : Sp := fun vs H Q _ => ∃ (l pp : Addr) (pv : List V) (n : Nat) (x : Nat → Rat), vs = [.ref l, .ref pp] ∧ Row H l ∧ H pp = some (.lst pv) ∧ pp ≠ l ∧ pv.length = n + 1 ∧ 1 ≤ n ∧ n ≤ 4 ∧ FrL K H 24 pv x ∧ Asc n x ∧
  ∀ H' a nv y, Keep l H H' → Row H' l → H a = none → H' a = some (.lst nv) → nv.length ≤ 100 → FrL K H' 82 nv y → (∀ i, i < nv.length → x 0 ≤ y i ∧ y i ≤ x n) → Q (.ref a) H'
section
variable {P : Program} {w : World} {K : PySem.W.Frag} {mg : Str → Option Value} {base : Heap} {f : Addr} {fd : FuncData}
theorem scPiece : FnScope ["_law_points", "_law_number", "_law_found", "_law_k"] ["_law_points", "_law_number"] (defScope sPiece) := ⟨rfl, rfl, rfl, by decide +kernel, rfl, by decide +kernel, by decide +kernel⟩
theorem ok_piece (F : FnP K "_law_piece" "_law_piece" sPiece [] f fd) (gr : mg "range" = none) (gl : mg "len" = none) (cS : C8.Cal P w K mg base 1 "_law_less" (spLess K) []) : FnOk P w K mg base CX0 2 f fd ["_law_points", "_law_number"] (spPiece K) := by
  refine F.ok scPiece (fun vs H Q E h => ?_) (fun cdv A outer s H vs Q E hr h => ⟨_, PSs.nox (pss_cons (ps_set (i := 2) scPiece.nd rfl (.inl rfl) pe_int)
      (pss_cons (ps_for PassesOwn.never rfl (pi_range2 rfl gr (pa_cons pe_int (pa_cons (pe_op op_sub (pe_callB call_len_seq (by rfl) gl PySem.boot_len (pa_cons (pv 0) pa_nil)) pe_int) pa_nil))) (pg_name (i := 3) scPiece.nd rfl (.inl rfl))
        (pss_one (ps_if (pt_not (pt_val (C8.pe_c cS hr (by decide) rfl (pa_cons (pv 1) (pa_cons (pe_ix ix_list (pv 0) (pv 3) (fun _ _ => rfl)) pa_nil))))) (pss_one (ps_set (i := 2) scPiece.nd rfl (.inl rfl) (pv 3))) pss_nil)))
      (pss_one (ps_ret (pv 2))))), ?_⟩)
  · obtain ⟨pp, u, pv, n, m, x, t, rfl, _⟩ := h
    rfl
  · obtain ⟨pp, u, pv, n, m, x, t, rfl, hS, hl, F, n1, n4, fu, hm, k⟩ := h
    refine ⟨_, rfl, pp, pv, rfl, .inl hS, _, _, rfl, rfl, 1, _, rfl, ⟨by decide, by decide, by omega, by omega⟩, for_range (lo := 1) (n := ((pv.length : Int) - 1 - 1).toNat) (fun i σ H' => ∃ (j : Nat) (kk : Option V), σ = [some (.ref pp), some u, some (.int (j : Int)), kk] ∧ H' = H ∧ j ≤ i ∧ (j = 0 ∨ x j ≤ t) ∧ ∀ q, j < q → q ≤ i → t < x q)
      ⟨0, none, rfl, rfl, Nat.le_refl _, .inl rfl, fun q a b => by omega⟩ ?_ ?_⟩
    · rintro i σ H' hi ⟨j, kk, rfl, rfl, j1, j2, j3⟩
      have e : (1 : Int) + (i : Int) = ((i + 1 : Nat) : Int) := by omega
      rw [e]
      obtain ⟨v, ev, fv⟩ := F.get (i := i + 1) (by omega)
      refine ⟨_, rfl, _, rfl, _, rfl, _, _, _, v, rfl, rfl, hS, at_of rfl ev, u, v, _, _, m, 24, rfl, fu, fv, by omega, _, rfl, ?_⟩
      by_cases c : t < x (i + 1)
      · rw [decide_eq_true c]
        refine iteF ?_
        refine ⟨j, _, rfl, rfl, by omega, j2, fun q a b => ?_⟩
        by_cases d : q = i + 1
        · rw [d]
          exact c
        · exact j3 q a (by omega)
      · rw [decide_eq_false c]
        refine iteT ?_
        exact ⟨_, rfl, i + 1, _, rfl, rfl, Nat.le_refl _, .inr (by grind), fun q a b => by omega⟩
    · rintro σ H' ⟨j, kk, rfl, rfl, j1, j2, j3⟩
      exact ⟨_, rfl, k j ⟨by omega, j2, fun q a b => j3 q a (by omega)⟩⟩
theorem scHas : FnScope ["_law_points", "_law_shares", "_law_payments", "_law_number", "_law_told", "_law_piece_here"] ["_law_points", "_law_shares", "_law_payments", "_law_number", "_law_told"] (defScope sHas) := ⟨rfl, rfl, rfl, by decide +kernel, rfl, by decide +kernel, by decide +kernel⟩
theorem ok_has (F : FnP K "_law_has" "_law_has" sHas [] f fd) (cP : C8.Cal P w K mg base 2 "_law_piece" (spPiece K) []) (cM : C8.Cal P w K mg base 3 "_law_minus" (spMinus K) []) (cT : C8.Cal P w K mg base 2 "_law_times" (spTimes K) []) :
    FnOk P w K mg base CX0 4 f fd ["_law_points", "_law_shares", "_law_payments", "_law_number", "_law_told"] (spHas K) := by
  refine F.ok scHas (fun vs H Q E h => ?_) (fun cdv A outer s H vs Q E hr h => ⟨_, PSs.nox (pss_cons (ps_set (i := 5) scHas.nd rfl (.inl rfl) (C8.pe_c cP hr (by decide) rfl (pa_cons (pv 0) (pa_cons (pv 4) pa_nil))))
      (pss_one (ps_ret (C8.pe_c cM hr (by decide) rfl (pa_cons (C8.pe_c cT hr (by decide) rfl (pa_cons (pv 3) (pa_cons (pe_ix ix_list (pv 1) (pv 5) (fun _ _ => rfl)) pa_nil))) (pa_cons (pe_ix ix_list (pv 2) (pv 5) (fun _ _ => rfl)) pa_nil)))))), ?_⟩)
  · obtain ⟨pp, ps, pa, u, v, pv, n, m, m', x, s, p, t, t', rfl, _⟩ := h
    rfl
  · obtain ⟨pp, ps, pa, u, v, pv, n, m, m', x, s, p, t, t', rfl, R, Y, fu, hm, fv, hm', k⟩ := h
    obtain ⟨⟨qv, a1, a2, a3⟩, ⟨sv, b1, b2, b3⟩, n1, n4⟩ := id R
    refine ⟨_, rfl, _, rfl, pp, v, qv, n, m', x, t', rfl, a1, a2, a3, n1, n4, fv, hm', fun j pj => ?_⟩
    have jl := pj.lt
    obtain ⟨sj, es, fs⟩ := b3.get (i := j) (by omega)
    refine ⟨_, rfl, _, rfl, _, rfl, _, _, _, sj, rfl, rfl, b1, at_of rfl es, u, sj, _, _, m, 3, rfl, fu, fs, by omega, fun v1 H1 s1 f1 => ?_⟩
    have Y1 := Y.same s1
    obtain ⟨yj, ey, fy⟩ := Y1.fr.get (i := j) (by have := Y1.len; omega)
    refine ⟨_, rfl, _, rfl, _, _, _, yj, rfl, rfl, Y1.sq, at_of rfl ey, v1, yj, _, _, m + 3, 120, rfl, f1, fy, by omega, fun v2 H2 s2 f2 => ?_⟩
    exact k j pj v2 H2 (s1.trans s2) f2
theorem scTolls : FnScope ["_law_points", "_law_shares", "_law_tolls_here", "_law_k"] ["_law_points", "_law_shares"] (defScope sTolls) := ⟨rfl, rfl, rfl, by decide +kernel, rfl, by decide +kernel, by decide +kernel⟩
theorem ok_tolls (F : FnP K "_law_tolls" "_law_tolls" sTolls [] f fd) (gr : mg "range" = none) (gl : mg "len" = none) (cP : C8.Cal P w K mg base 2 "_law_plus" (spPlus K) []) (cT : C8.Cal P w K mg base 2 "_law_times" (spTimes K) []) (cM : C8.Cal P w K mg base 3 "_law_minus" (spMinus K) []) :
    FnOk P w K mg base CX0 4 f fd ["_law_points", "_law_shares"] (spTolls K) := by
  refine F.ok scTolls (fun vs H Q E h => ?_) (fun cdv A outer s H vs Q E hr h => ⟨_, PSs.nox (pss_cons (ps_set (i := 2) scTolls.nd rfl (.inl rfl) (pe_lst (pa_cons (pe_tup (pa_cons pe_int (pa_cons pe_int pa_nil))) pa_nil)))
      (pss_cons (ps_for PassesOwn.never rfl (pi_range2 rfl gr (pa_cons pe_int (pa_cons (pe_callB call_len_seq (by rfl) gl PySem.boot_len (pa_cons (pv 1) pa_nil)) pa_nil))) (pg_name (i := 3) scTolls.nd rfl (.inl rfl))
        (pss_one (ps_expr (pe_bm PySem.F.plainAttrs_list PySem.F.slot_list_append PySem.F.type_list_append mt_append (pv 2) (pa_cons (C8.pe_c cP hr (by decide) rfl (pa_cons (pe_ix ix_list (pv 2) (pe_op op_sub (pv 3) pe_int) (fun _ _ => rfl))
          (pa_cons (C8.pe_c cT hr (by decide) rfl (pa_cons (pe_ix ix_list (pv 0) (pv 3) (fun _ _ => rfl)) (pa_cons (C8.pe_c cM hr (by decide) rfl (pa_cons (pe_ix ix_list (pv 1) (pv 3) (fun _ _ => rfl)) (pa_cons (pe_ix ix_list (pv 1) (pe_op op_sub (pv 3) pe_int) (fun _ _ => rfl)) pa_nil))) pa_nil))) pa_nil))) pa_nil)))))
      (pss_one (ps_ret (pv 2))))), ?_⟩)
  · obtain ⟨pp, ps, n, x, s, rfl, _⟩ := h
    rfl
  · obtain ⟨pp, ps, n, x, s, rfl, R, k⟩ := h
    have big : (100 : Nat) < sizeLine := by decide
    obtain ⟨⟨qv, a1, a2, a3⟩, ⟨sv, b1, b2, b3⟩, n1, n4⟩ := id R
    refine ⟨(by show 2 ≤ sizeLine; decide), fun z hz => ⟨(by show 1 ≤ sizeLine; decide), fun a ha => ?_⟩⟩
    have s1 := same_new (o := .tup [.int 0, .int 1]) hz
    have s2 := same_new (o := .lst [.ref z]) ha
    have ha0 : H a = none := s1.free ha
    have F0 : FrL K (upd (upd H z (.tup [.int 0, .int 1])) a (.lst [.ref z])) 1 [.ref z] (fun _ => 0) := fun i v e => by
      cases i with
      | zero =>
        have e1 : V.ref z = v := Option.some.inj e
        rw [← e1]
        exact (lit01 (SqT.of upd_same)).same s2
      | succ i => cases e
    have b1' := (s1.trans s2).seq b1
    refine ⟨_, rfl, ps, sv, rfl, .inl b1', 1, _, rfl, ⟨by decide, by decide, by omega, by omega⟩, for_range (lo := 1) (n := ((sv.length : Int) - 1).toNat) (fun i σ H' => ∃ (tv : List V) (p : Nat → Rat) (kk : Option V), σ = [some (.ref pp), some (.ref ps), some (.ref a), kk] ∧ Same H H' ∧ H' a = some (.lst tv) ∧ tv.length = i + 1 ∧ FrL K H' (1 + 33 * i) tv p ∧ TollIs (i + 1) x s p)
      ⟨[.ref z], fun _ => 0, none, rfl, s1.trans s2, upd_same, rfl, F0, ⟨fun q a b => by omega⟩⟩ ?_ ?_⟩
    · rintro i σ H3 hi ⟨tv, p, kk, rfl, s3, h3, hl, F3, T3⟩
      have e : (1 : Int) + (i : Int) = ((i + 1 : Nat) : Int) := by omega
      rw [e]
      obtain ⟨ti, et, ft⟩ := F3.get (i := i) (by omega)
      obtain ⟨xi, ex, fx⟩ := (a3.same s3).get (i := i + 1) (by omega)
      obtain ⟨si, es, fs⟩ := (b3.same s3).get (i := i + 1) (by omega)
      obtain ⟨sj, es', fs'⟩ := (b3.same s3).get (i := i) (by omega)
      refine ⟨_, rfl, .inl ⟨rfl, _, SqL.of h3⟩, _, rfl, _, rfl, _, _, rfl, rfl, _, _, _, ti, rfl, rfl, SqL.of h3, at_of (by omega) et, ?_⟩
      refine ⟨_, rfl, _, rfl, _, _, _, xi, rfl, rfl, s3.seq a1, at_of rfl ex, ?_⟩
      refine ⟨_, rfl, _, rfl, _, _, _, si, rfl, rfl, s3.seq b1, at_of rfl es, _, rfl, _, rfl, _, _, rfl, rfl, _, _, _, sj, rfl, rfl, s3.seq b1, at_of (by omega) es', ?_⟩
      refine ⟨si, sj, _, _, 3, 3, rfl, fs, fs', by decide, fun v4 H4 s4 f4 => ?_⟩
      refine ⟨xi, v4, _, _, 24, 8, rfl, fx.same s4, f4, by decide, fun v5 H5 s5 f5 => ?_⟩
      refine ⟨ti, v5, _, _, 1 + 33 * i, 32, rfl, ft.same (s4.trans s5), f5, by omega, fun v6 H6 s6 f6 => ?_⟩
      have s36 := s4.trans (s5.trans s6)
      have h6 := s36 _ _ h3
      refine ⟨a, tv, v6, rfl, rfl, h6, by omega, ?_⟩
      have kp : Keep a H6 (upd H6 a (.lst (tv ++ [v6]))) := Keep.upd
      have G := (((F3.same s36).mono (m := 1 + 33 * i + 32 + 1) (by omega)).push f6).keep kp h6
      rw [hl, show 1 + 33 * i + 32 + 1 = 1 + 33 * (i + 1) by omega] at G
      refine ⟨_, _, _, rfl, same_upd (s3.trans s36) ha0, upd_same, by rw [List.length_append, hl] <;> rfl, G, ⟨fun q q0 q1 => ?_⟩⟩
      by_cases d : q = i + 1
      · subst d
        rw [put_same, put_ne _ _ (by omega), Nat.add_sub_cancel]
      · rw [put_ne _ _ d, put_ne _ _ (by omega)]
        exact T3.step q q0 (by omega)
    · rintro σ H3 ⟨tv, p, kk, rfl, s3, h3, hl, F3, T3⟩
      exact ⟨_, rfl, k H3 a tv p s3 ha0 h3 (by omega) (F3.mono (by omega)) ⟨fun q q0 q1 => T3.step q q0 (by omega)⟩⟩
theorem scNumIn : FnScope ["_law_row", "_law_points", "_law_numbers_here", "_law_k", "_law_step", "_law_part"] ["_law_row", "_law_points"] (defScope sNumIn) := ⟨rfl, rfl, rfl, by decide +kernel, rfl, by decide +kernel, by decide +kernel⟩
theorem ok_numin (F : FnP K "_law_numbers_in" "_law_numbers_in" sNumIn [] f fd) (gls : mg "list" = none) (gr : mg "range" = none) (gl : mg "len" = none) (cP : C8.Cal P w K mg base 2 "_law_plus" (spPlus K) []) (cT : C8.Cal P w K mg base 2 "_law_times" (spTimes K) []) (cM : C8.Cal P w K mg base 3 "_law_minus" (spMinus K) [])
    (cL : C8.Cal P w K mg base 1 "_law_lowest" (spLow K) []) (cK : C8.Cal P w K mg base 1 "_law_take" spTake []) : FnOk P w K mg base CX0 4 f fd ["_law_row", "_law_points"] (spNumIn K) := by
  refine F.ok scNumIn (fun vs H Q E h => ?_) (fun cdv A outer s H vs Q E hr h => ⟨_, PSs.nox (pss_cons (ps_set (i := 2) scNumIn.nd rfl (.inl rfl) (pe_callTy call_list_of (by rfl) gls (by decide +kernel) (pa_cons (pv 1) pa_nil)))
      (pss_cons (ps_for PassesOwn.never rfl (pi_range1 rfl gr (pa_cons (pe_op op_sub (pe_callB call_len_seq (by rfl) gl PySem.boot_len (pa_cons (pv 1) pa_nil)) pe_int) pa_nil)) (pg_name (i := 3) scNumIn.nd rfl (.inl rfl))
        (pss_cons (ps_set (i := 4) scNumIn.nd rfl (.inl rfl) (C8.pe_c cM hr (by decide) rfl (pa_cons (pe_ix ix_list (pv 1) (pe_op op_add (pv 3) pe_int) (fun _ _ => rfl)) (pa_cons (pe_ix ix_list (pv 1) (pv 3) (fun _ _ => rfl)) pa_nil))))
        (pss_cons (ps_set (i := 5) scNumIn.nd rfl (.inl rfl) (C8.pe_c cL hr (by decide) rfl (pa_cons (C8.pe_c cK hr (by decide) rfl (pa_cons (pv 0) (pa_cons pe_int pa_nil))) (pa_cons pe_int pa_nil))))
        (pss_cons (ps_expr (pe_bm PySem.F.plainAttrs_list PySem.F.slot_list_append PySem.F.type_list_append mt_append (pv 2) (pa_cons (C8.pe_c cP hr (by decide) rfl (pa_cons (pe_ix ix_list (pv 1) (pv 3) (fun _ _ => rfl)) (pa_cons (C8.pe_c cT hr (by decide) rfl (pa_cons (pv 5) (pa_cons (pv 4) pa_nil))) pa_nil))) pa_nil)))
        (pss_one (ps_expr (pe_bm PySem.F.plainAttrs_list PySem.F.slot_list_append PySem.F.type_list_append mt_append (pv 2) (pa_cons (C8.pe_c cP hr (by decide) rfl (pa_cons (pe_ix ix_list (pv 1) (pv 3) (fun _ _ => rfl)) (pa_cons (C8.pe_c cT hr (by decide) rfl (pa_cons (pe_tup (pa_cons pe_int (pa_cons pe_int pa_nil))) (pa_cons (pv 4) pa_nil))) pa_nil))) pa_nil))))))))
      (pss_one (ps_ret (pv 2))))), ?_⟩)
  · obtain ⟨l, pp, pv, n, x, rfl, _⟩ := h
    rfl
  · obtain ⟨l, pp, pv, n, x, rfl, row, hpp, npl, hl, n1, n4, F, hx, k⟩ := h
    have big : (200 : Nat) < sizeLine := by decide
    refine ⟨_, rfl, pp, pv, rfl, .inl (SqL.of hpp), fun a ha => ?_⟩
    have s1 := same_new (o := .lst pv) ha
    have nal : l ≠ a := row.ne ha
    have nap : pp ≠ a := ne_of_none hpp ha
    refine ⟨_, rfl, pp, pv, rfl, .inl (SqL.of (s1 _ _ hpp)), _, _, rfl, rfl, ?_⟩
    refine ⟨_, rfl, by omega, by omega, for_range (lo := 0) (n := ((pv.length : Int) - 1).toNat) (fun i σ H' => ∃ (nv : List V) (y : Nat → Rat) (kk d e : Option V), σ = [some (.ref l), some (.ref pp), some (.ref a), kk, d, e] ∧ Keep l H H' ∧ Row H' l ∧ H' a = some (.lst nv) ∧ nv.length = n + 1 + 2 * i ∧ FrL K H' 82 nv y ∧
        ∀ j, j < nv.length → x 0 ≤ y j ∧ y j ≤ x n)
      ⟨pv, x, none, none, none, rfl, Keep.of s1, row.same s1, upd_same, by omega, (F.same s1).mono (by decide), fun j hj => ⟨hx.le (Nat.zero_le _) (by omega), hx.le (by omega) (Nat.le_refl _)⟩⟩ ?_ ?_⟩
    · rintro i σ H2 hi ⟨nv, y, kk, d, e, rfl, k2, row2, h2, hl2, F2, B2⟩
      rw [Int.zero_add]
      have hin : i < n := by omega
      have P2 := k2 _ _ hpp npl
      obtain ⟨xj, ej, fj⟩ := (F.row k2 row).get (i := i + 1) (by omega)
      obtain ⟨xi, ei, fi⟩ := (F.row k2 row).get (i := i) (by omega)
      refine ⟨_, rfl, _, rfl, _, _, rfl, rfl, _, _, _, xj, rfl, rfl, SqL.of P2, at_of (by omega) ej, _, rfl, _, rfl, _, _, _, xi, rfl, rfl, SqL.of P2, at_of rfl ei, ?_⟩
      refine ⟨xj, xi, _, _, 24, 24, rfl, fj, fi, by decide, fun v3 H3 s3 f3 => ?_⟩
      refine ⟨_, rfl, l, 12, rfl, by decide, row2.same s3, fun r H4 r0 r12 k4 row4 => ?_⟩
      refine ⟨r, 12, 4, rfl, by decide, by omega, by decide, by decide, fun v5 H5 s5 f5 => ?_⟩
      have k25 := (Keep.of s3).trans (k4.trans (Keep.of s5))
      have row5 := row4.same s5
      have h5 := k25 _ _ h2 nal.symm
      have P5 := k25 _ _ P2 npl
      have f3' := (f3.row k4 (row2.same s3)).same s5
      -- the first of the two
      refine ⟨_, rfl, .inl ⟨rfl, _, SqL.of h5⟩, _, rfl, _, rfl, _, _, _, xi, rfl, rfl, SqL.of P5, at_of rfl ei, _, rfl, _, rfl, v5, v3, _, _, 4, 50, rfl, f5, f3', by decide, fun v6 H6 s6 f6 => ?_⟩
      refine ⟨xi, v6, _, _, 24, 54, rfl, (fi.row k25 row2).same s6, f6, by decide, fun v7 H7 s7 f7 => ?_⟩
      have s57 := s6.trans s7
      have h7 := s57 _ _ h5
      refine ⟨a, nv, v7, rfl, rfl, h7, by omega, ?_⟩
      have kp : Keep a H7 (upd H7 a (.lst (nv ++ [v7]))) := Keep.upd
      have k27 := k25.trans (Keep.of s57)
      have G8 := ((F2.row k27 row2).push (f7.mono (m := 82) (by decide))).keep kp h7
      have k08 : Keep l H (upd H7 a (.lst (nv ++ [v7]))) := keep_upd (k2.trans k27) ha
      have row8 : Row (upd H7 a (.lst (nv ++ [v7]))) l := (row5.same s57).upd nal
      have h8 : (upd H7 a (.lst (nv ++ [v7]))) a = some (.lst (nv ++ [v7])) := upd_same
      have P8 := kp _ _ (s57 _ _ P5) nap
      have fi8 := ((fi.row k27 row2)).keep kp h7
      have f38 := ((f3'.same s57)).keep kp h7
      generalize upd H7 a (.lst (nv ++ [v7])) = H8 at *
      -- the second
      refine ⟨_, rfl, .inl ⟨rfl, _, SqL.of h8⟩, _, rfl, _, rfl, _, _, _, xi, rfl, rfl, SqL.of P8, at_of rfl ei, (by show 2 ≤ sizeLine; decide), fun q hq => ?_⟩
      have s9 := same_new (o := .tup [.int 99, .int 100]) hq
      refine ⟨_, rfl, .ref q, v3, r99, _, 7, 50, rfl, Fr.lit rfl rfl ⟨by decide, by decide⟩ upd_same, f38.same s9, by decide, fun v10 H10 s10 f10 => ?_⟩
      refine ⟨xi, v10, _, _, 24, 57, rfl, fi8.same (s9.trans s10), f10, by decide, fun v11 H11 s11 f11 => ?_⟩
      have s811 := s9.trans (s10.trans s11)
      have h11 := s811 _ _ h8
      refine ⟨a, nv ++ [v7], v11, rfl, rfl, h11, by rw [List.length_append, List.length_singleton]; omega, ?_⟩
      have kp2 : Keep a H11 (upd H11 a (.lst (nv ++ [v7] ++ [v11]))) := Keep.upd
      have G12 := ((G8.same s811).push f11).keep kp2 h11
      refine ⟨_, _, _, _, _, rfl, keep_upd (k08.trans (Keep.of s811)) ha, (row8.same s811).upd nal, upd_same, by simp only [List.length_append, List.length_singleton]; omega, G12, fun j hj => ?_⟩
      have hj' : j < nv.length + 2 := by simp only [List.length_append, List.length_singleton] at hj; omega
      have l0 := hx.le (i := 0) (j := i) (Nat.zero_le _) (by omega)
      have l1 := hx.le (i := i + 1) (j := n) (by omega) (Nat.le_refl _)
      have lm := hx i hin
      by_cases c : j = nv.length + 1
      · have b := between lm r99_le.1 r99_le.2
        rw [c, List.length_append, List.length_singleton, put_same]
        exact ⟨by grind, by grind⟩
      · rw [List.length_append, List.length_singleton, put_ne _ _ c]
        by_cases c2 : j = nv.length
        · have pb := part_le r r0 r12
          have b := between lm pb.1 pb.2
          rw [c2, put_same]
          exact ⟨by grind, by grind⟩
        · rw [put_ne _ _ c2]
          exact B2 j (by omega)
    · rintro σ H2 ⟨nv, y, kk, d, e, rfl, k2, row2, h2, hl2, F2, B2⟩
      exact ⟨_, rfl, k H2 a nv y k2 row2 ha h2 (by omega) F2 B2⟩
end
end Un

set_option Elab.async false
set_option linter.all false
set_option maxRecDepth 100000
/-! lie_right, refused; equal data. -/
namespace Un
open PySem PySem.Spec PyProof.Rows L2
abbrev sRefused : Stmt := top 34
abbrev sRight : Stmt := top 36
/-! ### equal data -/
def frD (x : Rat) : PyData := .tuple [.int x.num, .int (x.den : Int)]
theorem frD_of {K : PySem.W.Frag} {H : Hp} {n : Nat} {v : V} {x : Rat} (h : Fr K H n v x) : Dp K H v (frD x) := by
  obtain ⟨p, rfl, t, _⟩ := h
  exact .tup t (.cons (.int _) (.cons (.int _) .nil))
theorem frD_shaped (x : Rat) : SeqAt.shaped (frD x) = true := rfl
theorem frD_eqv (x : Rat) : PyData.eqv (frD x) (frD x) = true := SeqAt.eqv_refl _ (SeqAt.canLay_of_shaped (frD_shaped x))
theorem frL_data {K : PySem.W.Frag} {H : Hp} {n : Nat} : ∀ {vs : List V} {f : Nat → Rat}, FrL K H n vs f → ∃ ds, DpAll K H vs ds ∧ PyData.canLayAll0 ds = true ∧ PyData.depthAll ds ≤ 1
  | [], _, _ => ⟨[], .nil, rfl, Nat.zero_le _⟩
  | v :: vs, f, h => by
    obtain ⟨ds, a, b, c⟩ := frL_data (vs := vs) (f := fun i => f (i + 1)) fun i u e => h (i + 1) u e
    have hv := h 0 v rfl
    refine ⟨frD (f 0) :: ds, .cons (frD_of hv) a, ?_, ?_⟩
    · show (PyData.canLay0 (frD (f 0)) && PyData.canLayAll0 ds) = true
      rw [b]
      rfl
    · show max (PyData.depth (frD (f 0))) (PyData.depthAll ds) ≤ 1
      exact Nat.max_le.mpr ⟨Nat.le_refl _, c⟩
theorem list_data {K : PySem.W.Frag} {H : Hp} {n : Nat} {a b : Addr} {vs : List V} {f : Nat → Rat} (ha : SqL K H a vs) (hb : SqL K H b vs) (h : FrL K H n vs f) : ∃ d, Dp K H (.ref a) d ∧ Dp K H (.ref b) d ∧ SeqAt.shaped d = true ∧ PyData.eqv d d = true := by
  obtain ⟨ds, x, y, z⟩ := frL_data h
  have hs : SeqAt.shaped (.list ds) = true := by
    show (PyData.canLayAll0 ds && decide (PyData.depthAll ds + 1 ≤ 64)) = true
    rw [y, decide_eq_true (by omega)]
    rfl
  exact ⟨.list ds, .lst ha x, .lst hb x, hs, SeqAt.eqv_refl _ (SeqAt.canLay_of_shaped hs)⟩
theorem at_neg1 {xs : List V} {n : Nat} {v : V} (hl : xs.length = n + 1) (h : xs[n]? = some v) : atI xs (-1) = some v := by
  have e : ixN xs.length (-1) = some n := by
    unfold ixN
    rw [if_neg (by omega), if_pos (by omega)]
    congr 1
    omega
  unfold atI
  rw [e]
  exact h
def spRight (K : PySem.W.Frag) : Sp := fun vs H Q _ => ∃ (pp ps pa q : Addr) (vt vu vg : V) (pv : List V) (n : Nat) (x s p : Nat → Rat) (t u g : Rat), vs = [.ref pp, .ref ps, .ref pa, .ref q] ∧ Rule K H pp ps n x s ∧ Pay K H pa pv n p ∧ H q = some (.tup [vt, vu, vg]) ∧
  Fr K H 275 vt t ∧ Fr K H 24 vu u ∧ Fr K H 524 vg g ∧ LieIs n x s p t u g ∧ Asc n x ∧ ∀ H', Same H H' → Q (.bl true) H'
def spRefused (K : PySem.W.Frag) (C : Addr) : Sp := fun vs H Q _ => ∃ (o c sh pa : Addr) (n : Nat) (x s : Nat → Rat) (pv : List V), vs = [.ref o, .ref pa] ∧ Made K C H o c sh n x s ∧ SqL K H pa pv ∧ n ≤ 100 ∧ pv.length ≤ 100 ∧ pv.length ≠ n ∧ ∀ H', Same H H' → Q (.bl true) H'
section
variable {P : Program} {w : World} {K : PySem.W.Frag} {mg : Str → Option Value} {base : Heap} {f C CI fL fI : Addr} {fd fdL fdI : FuncData}
theorem scRight : FnScope ["_law_points", "_law_shares", "_law_payments", "_law_lie", "_law_true", "_law_told", "_law_gain", "_law_number", "_law_own", "_law_other"] ["_law_points", "_law_shares", "_law_payments", "_law_lie"] (defScope sRight) := ⟨rfl, rfl, rfl, by decide +kernel, rfl, by decide +kernel, by decide +kernel⟩
theorem ok_right (F : FnP K "_law_lie_right" "_law_lie_right" sRight [] f fd) (gis : mg "isinstance" = none) (gt : mg "tuple" = none) (gl : mg "len" = none) (cS : C8.Cal P w K mg base 1 "_law_less" (spLess K) []) (cH : C8.Cal P w K mg base 4 "_law_has" (spHas K) []) (cM : C8.Cal P w K mg base 3 "_law_minus" (spMinus K) []) :
    FnOk P w K mg base CX0 5 f fd ["_law_points", "_law_shares", "_law_payments", "_law_lie"] (spRight K) := by
  refine F.ok scRight (fun vs H Q E h => ?_) (fun cdv A outer s H vs Q E hr h => ⟨_, PSs.nox (pss_cons (ps_if (PW.pt (pw_or (pt_not (pt_val (pe_callB call_isi (by rfl) gis boot_isinstance (pa_cons (pv 3) (pa_cons (pe_bltn (v := .ty "tuple") (by rfl) gt (by decide +kernel) rfl) pa_nil)))))
          (pw_or1 (pt_cmpR op_ne (pe_callB call_len_seq (by rfl) gl PySem.boot_len (pa_cons (pv 3) pa_nil)) pe_int (nomark _))))) (pss_one (ps_ret pe_bl)) pss_nil)
      (pss_cons (ps_asg (pv 3) (pg_tup rfl (pgs_cons (pg_name (i := 4) scRight.nd rfl (.inl rfl)) (pgs_cons (pg_name (i := 5) scRight.nd rfl (.inl rfl)) (pgs_cons (pg_name (i := 6) scRight.nd rfl (.inl rfl)) pgs_nil)))))
      (pss_cons (ps_for PassesOwn.never rfl (pi_list (pe_lst (pa_cons (pv 4) (pa_cons (pv 5) pa_nil)))) (pg_name (i := 7) scRight.nd rfl (.inl rfl))
        (pss_one (ps_if (PW.pt (pw_or (pt_val (C8.pe_c cS hr (by decide) rfl (pa_cons (pv 7) (pa_cons (pe_ix ix_list (pv 0) pe_int (fun _ _ => rfl)) pa_nil))))
          (pw_or1 (pt_val (C8.pe_c cS hr (by decide) rfl (pa_cons (pe_ix ix_list (pv 0) (pe_un un_neg pe_int) (fun _ _ => rfl)) (pa_cons (pv 7) pa_nil))))))) (pss_one (ps_ret pe_bl)) pss_nil)))
      (pss_cons (ps_set (i := 8) scRight.nd rfl (.inl rfl) (C8.pe_c cH hr (by decide) rfl (pa_cons (pv 0) (pa_cons (pv 1) (pa_cons (pv 2) (pa_cons (pv 4) (pa_cons (pv 4) pa_nil)))))))
      (pss_cons (ps_set (i := 9) scRight.nd rfl (.inl rfl) (C8.pe_c cH hr (by decide) rfl (pa_cons (pv 0) (pa_cons (pv 1) (pa_cons (pv 2) (pa_cons (pv 4) (pa_cons (pv 5) pa_nil)))))))
      (pss_one (ps_ret (pe_and (pe_cmpR op_gt (pe_ix ix_tup (pv 6) pe_int (fun _ _ => rfl)) pe_int (nomark _)) (pe_one (pe_cmpR (op_eqD hr.units) (C8.pe_c cM hr (by decide) rfl (pa_cons (pv 9) (pa_cons (pv 8) pa_nil))) (pv 6) (nomark _))))))))))), ?_⟩)
  · obtain ⟨pp, ps, pa, q, vt, vu, vg, pv, n, x, s, p, t, u, g, rfl, _⟩ := h
    rfl
  · obtain ⟨pp, ps, pa, q, vt, vu, vg, pv, n, x, s, p, t, u, g, rfl, R, Y, hq, ft, fu, fg, L, hx, k⟩ := h
    obtain ⟨⟨xv, a1, a2, a3⟩, _, n1, n4⟩ := id R
    obtain ⟨i, j, hi, hj, eu, t1, t2, eg, g0⟩ := L.ex
    -- isinstance(lie, tuple), len(lie) == 3
    refine ⟨_, rfl, _, _, _, _, true, rfl, .ty "tuple", .base (.tup hq), kit_ty (by decide +kernel), _, rfl, ?_⟩
    refine iteF ?_
    refine ⟨_, rfl, q, _, rfl, .inr (SqT.of hq), rfl, _, rfl, ?_⟩
    refine iteNS rfl ?_
    refine ⟨_, rfl, q, _, rfl, SqT.of hq, rfl, _, _, rfl, _, _, rfl, _, _, rfl, rfl, ?_⟩
    -- both numbers lie in it
    refine ⟨_, rfl, _, rfl, (by show 2 ≤ sizeLine; decide), fun a ha => ?_⟩
    have s1 := same_new (o := .lst [vt, vu]) ha
    have R1 := R.same s1
    have Y1 := Y.same s1
    have f1 := a3.same s1
    have l1 := s1.seq a1
    have t0 : x 0 ≤ t := by have := hx.le (i := 0) (j := i) (Nat.zero_le _) (by omega); grind
    have tn : t ≤ x n := by have := hx.le (i := i + 1) (j := n) (by omega) (Nat.le_refl _); grind
    have u0 : x 0 ≤ u := by rw [eu]; exact hx.le (Nat.zero_le _) (by omega)
    have un : u ≤ x n := by rw [eu]; exact hx.le (by omega) (Nat.le_refl _)
    refine ⟨a, rfl, ⟨_, SqL.of upd_same⟩, for_list (K := K) (a := a) (xs := [vt, vu]) (fun i σ H' => ∃ kk, σ = [some (.ref pp), some (.ref ps), some (.ref pa), some (.ref q), some vt, some vu, some vg, kk, none, none] ∧ H' = upd H a (.lst [vt, vu])) ⟨none, rfl, rfl⟩ (fun i σ H' _ ⟨_, _, e⟩ => by rw [e]; exact SqL.of upd_same) ?_ ?_⟩
    · rintro i' y σ H' ey ⟨kk, rfl, rfl⟩
      obtain ⟨z, m, hm, fz, z0, zn⟩ : ∃ (z : Rat) (m : Nat), m ≤ 300 ∧ Fr K (upd H a (.lst [vt, vu])) m y z ∧ x 0 ≤ z ∧ z ≤ x n := by
        match i', ey with
        | 0, e =>
          have e1 : vt = y := Option.some.inj e
          rw [← e1]
          exact ⟨t, 275, by decide, ft.same s1, t0, tn⟩
        | 1, e =>
          have e1 : vu = y := Option.some.inj e
          rw [← e1]
          exact ⟨u, 24, by decide, fu.same s1, u0, un⟩
        | i + 2, e => cases e
      obtain ⟨v0, e0, fv0⟩ := f1.get (i := 0) (by omega)
      obtain ⟨vn, en, fvn⟩ := f1.get (i := n) (by omega)
      refine ⟨_, rfl, _, rfl, _, _, _, v0, rfl, rfl, l1, at_of rfl e0, y, v0, _, _, m, 24, rfl, fz, fv0, by omega, _, rfl, ?_⟩
      rw [decide_eq_false (by grind)]
      refine iteF ?_
      refine ⟨_, rfl, _, rfl, _, _, _, vn, rfl, rfl, l1, at_neg1 a2 en, _, rfl, vn, y, _, _, 24, m, rfl, fvn, fz, by omega, _, rfl, ?_⟩
      rw [decide_eq_false (by grind)]
      refine iteF ?_
      exact ⟨_, rfl, rfl⟩
    · rintro σ H' ⟨kk, rfl, rfl⟩
      refine ⟨_, rfl, _, rfl, _, rfl, _, rfl, _, rfl, pp, ps, pa, vt, vt, pv, n, 275, 275, x, s, p, t, t, rfl, R1, Y1, ft.same s1, by decide, ft.same s1, by decide, fun k1 p1 v2 H2 s2 f2 => ?_⟩
      have e1 := p1.eq hx hi t1 t2
      subst e1
      refine ⟨_, rfl, _, rfl, _, rfl, _, rfl, _, rfl, pp, ps, pa, vt, vu, pv, n, 275, 24, x, s, p, t, u, rfl, R1.same s2, Y1.same s2, ft.same (s1.trans s2), by decide, fu.same (s1.trans s2), by decide, fun k2 p2 v3 H3 s3 f3 => ?_⟩
      have e2 : k2 = j := p2.eq hx hj (by rw [eu]; exact Rat.le_refl) (by rw [eu]; exact hx j hj)
      subst e2
      have s13 := s1.trans (s2.trans s3)
      obtain ⟨ag, rfl, tg, zg⟩ := id fg
      refine ⟨_, rfl, _, _, _, _, rfl, rfl, tup_same s13 tg, rfl, _, _, rfl, rfl, _, rfl, ?_⟩
      rw [decide_eq_true (num_pos g0)]
      refine iteT ?_
      refine ⟨_, rfl, _, rfl, v3, v2, _, _, 400, 400, rfl, f3, f2.same s3, by decide, fun v4 H4 s4 f4 => ?_⟩
      have ed : t * s k2 - p k2 - (t * s k1 - p k1) = g := by
        rw [eg]
        unfold gain
        grind
      rw [ed] at f4
      refine ⟨_, rfl, frD g, frD g, frD_of f4, frD_of (fg.same (s13.trans s4)), frD_shaped g, frD_shaped g, ?_⟩
      rw [frD_eqv]
      exact k H4 (s13.trans s4)
/-- what a def may let out, with a weaker wish -/
theorem cx_mono {outer : List Env} {H : Hp} {s s' : Shared} {E E' : XK} {u : Value} (c : L2.CX P w outer H s E u s') (h : ∀ cls d H', E cls d H' → E' cls d H') : L2.CX P w outer H s E' u s' := by
  obtain ⟨a, B, H', cls, d, e1, fl, hok, ub, na, os, ag, hE⟩ := c
  exact ⟨a, B, H', cls, d, e1, fl, hok, ub, na, os, ag, h _ _ _ hE⟩
theorem scRefused : FnScope ["_law_made", "_law_payments"] ["_law_made", "_law_payments"] (defScope sRefused) := ⟨rfl, rfl, rfl, by decide +kernel, rfl, by decide +kernel, by decide +kernel⟩
theorem ok_refused (F : FnP K "_law_refused" "_law_refused" sRefused [] f fd) (T : ThTxt K C) (gC : mg "InvalidThresholds" = some (.ref CI)) (te : PySem.W.exmOne K (.ref CI) (.ref CI) = some true) (mL : Meth K C "lie" fL) (GL : FnOk P w K mg base (L2.CX P w) 6 fL fdL ["self", "payments"] (spLie K C CI)) (bL : Binds K fdL ["self", "payments"] []) :
    FnOk P w K mg base CX0 7 f fd ["_law_made", "_law_payments"] (spRefused K C) := by
  refine F.ok scRefused (fun vs H Q E h => ?_) (fun cdv A outer s H vs Q E hr h => ⟨_, PSs.nox (pss_cons (ps_try_only (tb := fun W => tDrop (tMeth C "lie" (spLie K C CI) [] (fun cls d H => ∀ σ, W cls d σ H) (tVar 0) (tCons (tVar 1) tNil))) (ts := fun _ _ _ => tRet (tC (.bl true))) (Wout := fun _ _ _ _ => False)
        rfl rfl ⟨rfl, by decide, .inl gC⟩ takes0
        (fun W pn xe tk _ => pss_one (ps_expr (pe_meth (pv 0) T.cl mL GL hr bL .nil (fun pins σ H s e s' I c => passAt tk σ pins H s e s' I (cx_mono c fun _ _ _ z => z σ)) (pa_cons (pv 1) pa_nil))))
        (fun a oe cls d pn _ _ => pss_one (ps_ret pe_bl)))
      (pss_one (ps_ret pe_bl))), ?_⟩)
  · obtain ⟨o, c, sh, pa, n, x, s, pv, rfl, _⟩ := h
    rfl
  · obtain ⟨o, c, sh, pa, n, x, s, pv, rfl, M, hS, hn, hp, ne, k⟩ := h
    obtain ⟨dx, fs, eo, no⟩ := noM (m := "lie") (by decide +kernel) (by decide +kernel) (by decide +kernel) (by decide +kernel) M
    refine ⟨_, rfl, o, dx, _, rfl, eo, no, _, rfl, o, c, sh, pa, n, x, s, fun _ => 0, pv, rfl, M, hS, hn, hp, fun _ d H' s1 σ => ?_, fun z => absurd z ne⟩
    exact ⟨true, te, fun _ a _ => k H' s1, fun z => Bool.noConfusion z⟩
end
end Un

set_option Elab.async false
set_option linter.all false
set_option maxRecDepth 100000
/-! The law. -/
namespace Un
open PySem PySem.Spec PyProof.Rows L2
abbrev sLaw : Stmt := top 37
def r5 : Rat := { num := 1, den := 5, den_nz := by decide, reduced := by decide }
def rm9 : Rat := { num := -1, den := 9, den_nz := by decide, reduced := by decide }
def lit4 : Nat → Rat
  | 0 => 1
  | 1 => -1
  | 2 => r5
  | _ => rm9
theorem lie_not {n : Nat} {x s p : Nat → Rat} {t u g : Rat} (h : Asc n x) (L : LieIs n x s p t u g) : ¬ NoGain n x s p := fun ng => by
  obtain ⟨i, j, hi, hj, _, t1, t2, eg, g0⟩ := L.ex
  have m := noGain_mid h ng hi hj t1 (by grind)
  rw [eg] at g0
  unfold gain at g0
  grind
/-- the lists and the object that the law holds -/
structure Base (K : PySem.W.Frag) (C : Addr) (H : Hp) (pp ps ta o c sh : Addr) (n : Nat) (x s p : Nat → Rat) (pv sv tv : List V) : Prop where
  pts : H pp = some (.lst pv)
  pl : pv.length = n + 1
  pf : FrL K H 24 pv x
  shs : H ps = some (.lst sv)
  sl : sv.length = n
  sf : FrL K H 3 sv s
  tol : H ta = some (.lst tv)
  tl : tv.length = n
  tf : FrL K H 100 tv p
  made : Made K C H o c sh n x s
section
variable {K : PySem.W.Frag} {C : Addr} {H H' : Hp} {l pp ps ta o c sh : Addr} {n : Nat} {x s p : Nat → Rat} {pv sv tv : List V}
theorem Base.same (e : Same H H') (B : Base K C H pp ps ta o c sh n x s p pv sv tv) : Base K C H' pp ps ta o c sh n x s p pv sv tv :=
  ⟨e _ _ B.pts, B.pl, B.pf.same e, e _ _ B.shs, B.sl, B.sf.same e, e _ _ B.tol, B.tl, B.tf.same e, B.made.same e⟩
theorem Base.keep (e : Keep l H H') (r : Row H l) (n1 : pp ≠ l) (n2 : ps ≠ l) (n3 : ta ≠ l) (n4 : c ≠ l) (n5 : sh ≠ l) (B : Base K C H pp ps ta o c sh n x s p pv sv tv) : Base K C H' pp ps ta o c sh n x s p pv sv tv := by
  obtain ⟨rs, hl⟩ := r
  exact ⟨e _ _ B.pts n1, B.pl, B.pf.keep e hl, e _ _ B.shs n2, B.sl, B.sf.keep e hl, e _ _ B.tol n3, B.tl, B.tf.keep e hl, B.made.keep e hl n4 n5⟩
theorem Base.rule (B : Base K C H pp ps ta o c sh n x s p pv sv tv) (h1 : 1 ≤ n) (h4 : n ≤ 4) : Rule K H pp ps n x s := ⟨⟨pv, SqL.of B.pts, B.pl, B.pf⟩, ⟨sv, SqL.of B.shs, B.sl, B.sf⟩, h1, h4⟩
end
theorem mid_get {pv : List V} {i : Nat} {v : V} (h : ((pv.drop 1).take (pv.length - 2))[i]? = some v) : pv[i + 1]? = some v := by
  rw [List.getElem?_take] at h
  split at h
  · rw [List.getElem?_drop, Nat.add_comm] at h
    exact h
  · cases h
/-- what the main loop needs -/
structure Main (K : PySem.W.Frag) (C : Addr) (H : Hp) (pp ps ta o c sh pl nn : Addr) (n : Nat) (x s p : Nat → Rat) (pv sv tv : List V) : Prop where
  base : Base K C H pp ps ta o c sh n x s p pv sv tv
  plans : ∃ qs : List V, H pl = some (.lst qs) ∧ ∀ i, i < 4 → ∃ (qa : Addr) (qv : List V) (q : Nat → Rat), qs[i]? = some (.ref qa) ∧ Pay K H qa qv n q ∧ (i < 2 → TollIs n x s q)
  nums : ∃ (nv : List V) (y : Nat → Rat), H nn = some (.lst nv) ∧ FrL K H 82 nv y ∧ ∀ i, i < nv.length → x 0 ≤ y i ∧ y i ≤ x n
theorem Main.same {K : PySem.W.Frag} {C : Addr} {H H' : Hp} {pp ps ta o c sh pl nn : Addr} {n : Nat} {x s p : Nat → Rat} {pv sv tv : List V} (e : Same H H') (M : Main K C H pp ps ta o c sh pl nn n x s p pv sv tv) : Main K C H' pp ps ta o c sh pl nn n x s p pv sv tv := by
  obtain ⟨B, ⟨qs, a, b⟩, ⟨nv, y, d, f, g⟩⟩ := M
  refine ⟨B.same e, ⟨qs, e _ _ a, fun i hi => ?_⟩, ⟨nv, y, e _ _ d, f.same e, g⟩⟩
  obtain ⟨qa, qv, q, h1, h2, h3⟩ := b i hi
  exact ⟨qa, qv, q, h1, h2.same e, h3⟩
theorem iteB {c : Bool} {A B : Prop} (hc : c = false) (h : B) : if c = true then A else B := by
  rw [hc]
  exact iteF h
theorem iteA {c : Bool} {A B : Prop} (hc : c = true) (h : A) : if c = true then A else B := by
  rw [hc]
  exact iteT h
def spLaw (K : PySem.W.Frag) : Sp := fun vs H Q _ => ∃ (a : Addr) (ns : List Int), vs = [.ref a] ∧ SqL K H a (ns.map V.int) ∧ ns.length ≤ 63 ∧ ∀ H', Q (.bl true) H'
/-- the defs that the law calls -/
structure Calls (P : Program) (w : World) (K : PySem.W.Frag) (mg : Str → Option Value) (base : Heap) (C CI fT fL : Addr) (fdT fdL : FuncData) : Prop where
  numbers : C8.Cal P w K mg base 2 "_law_numbers" (spNumbers K) []
  steps : C8.Cal P w K mg base 3 "_law_steps" (spSteps K) []
  tolls : C8.Cal P w K mg base 4 "_law_tolls" (spTolls K) []
  less : C8.Cal P w K mg base 1 "_law_less" (spLess K) []
  frac : C8.Cal P w K mg base 2 "_law_fraction" (spFrac K) []
  take : C8.Cal P w K mg base 1 "_law_take" spTake []
  plus : C8.Cal P w K mg base 2 "_law_plus" (spPlus K) []
  numin : C8.Cal P w K mg base 4 "_law_numbers_in" (spNumIn K) []
  has : C8.Cal P w K mg base 4 "_law_has" (spHas K) []
  right : C8.Cal P w K mg base 5 "_law_lie_right" (spRight K) []
  refused : C8.Cal P w K mg base 7 "_law_refused" (spRefused K C) []
  th : ThTxt K C
  made : Mk K C fT
  init : FnOk P w K mg base CX0 2 fT fdT ["self", "low", "high", "cuts", "shares"] (spTInit K C)
  gTh : mg "Thresholds" = some (.ref C)
  kb : KBn K fdT ["self", "low", "high", "cuts", "shares"] 3 ["cuts", "shares"] (fun us ws => us ++ ws) (fun vs zs => vs ++ zs)
  mL : Meth K C "lie" fL
  lie : FnOk P w K mg base (L2.CX P w) 6 fL fdL ["self", "payments"] (spLie K C CI)
  bL : Binds K fdL ["self", "payments"] []
  gl : mg "len" = none
  gr : mg "range" = none
  gls : mg "list" = none
  gany : mg "any" = none
abbrev NL : List Str := ["_law_script", "_law_row", "_law_points", "_law_shares", "_law_tolls_here", "_law_made", "_law_k", "_law_ascending", "_law_extra", "_law_near", "_law_plans", "_law_numbers_here", "_law_turn", "_law_payments", "_law_given", "_law_lie", "_law_number", "_law_own", "_law_told", "_law_toll"]
theorem scLaw : FnScope NL ["_law_script"] (defScope sLaw) := ⟨rfl, rfl, rfl, by decide +kernel, rfl, by decide +kernel, by decide +kernel⟩
section
variable {P : Program} {w : World} {K : PySem.W.Frag} {mg : Str → Option Value} {base : Heap} {f C CI fT fL : Addr} {fd fdT fdL : FuncData}
set_option maxHeartbeats 8000000 in
theorem ok_law (F : FnP K "law" "law" sLaw [] f fd) (T : Calls P w K mg base C CI fT fL fdT fdL) : FnOk P w K mg base CX0 8 f fd ["_law_script"] (spLaw K) := by
  refine F.ok scLaw (fun vs H Q E h => ?_) (fun cdv A outer s H vs Q E hr h => ⟨_, PSs.nox (pss_cons (ps_set (i := 1) scLaw.nd rfl (.inr rfl) (C8.pe_c T.numbers hr (by decide) rfl (pa_cons (pv 0) (pa_cons pe_int pa_nil))))
      (pss_cons (ps_asg (C8.pe_c T.steps hr (by decide) rfl (pa_cons (pv 1) pa_nil)) (pg_tup rfl (pgs_cons (pg_name (i := 2) scLaw.nd rfl (.inl rfl)) (pgs_cons (pg_name (i := 3) scLaw.nd rfl (.inr rfl)) pgs_nil))))
      (pss_cons (ps_set (i := 4) scLaw.nd rfl (.inl rfl) (C8.pe_c T.tolls hr (by decide) rfl (pa_cons (pv 2) (pa_cons (pv 3) pa_nil))))
      (pss_cons (ps_set (i := 5) scLaw.nd rfl (.inl rfl) (pe_makeK T.made T.init (hr.mono (by decide)) rfl T.gTh T.kb pass0 (pa_cons (pe_ix ix_list (pv 2) pe_int (fun _ _ => rfl)) (pa_cons (pe_ix ix_list (pv 2) (pe_un un_neg pe_int) (fun _ _ => rfl)) pa_nil))
        (pk_cons (pe_slice sl_list (pv 2) (po_some pe_int) (po_some (pe_un un_neg pe_int))) (pk_cons (pe_callTy call_list_of (by rfl) T.gls (by decide +kernel) (pa_cons (pv 3) pa_nil)) pk_nil))))
      (pss_cons (ps_set (i := 7) scLaw.nd rfl (.inl rfl) (pe_not (pe_callB (cr_any rfl) (by rfl) T.gany boot_any (pa_cons
        (pe_lc (own := [("_law_k", 6)]) (g := gName 6) (tt := tYes) rfl scLaw.nd (pi_range2 rfl T.gr (pa_cons pe_int (pa_cons (pe_callB call_len_seq (by rfl) T.gl PySem.boot_len (pa_cons (pv 3) pa_nil)) pa_nil))) (blkOk_by (N := NL) (sc := defScope sLaw) (by decide +kernel))
          (fun _ _ _ _ _ => pg_name (i := 6) scLaw.nd rfl (Or.inl rfl)) (fun _ _ _ _ _ => pts_nil)
          (fun _ _ _ _ _ => C8.pe_c T.less hr (by decide) rfl (pa_cons (pe_ix (r := rIxL K) ix_list (pv 3) (pv 6) (fun _ _ => rfl)) (pa_cons (pe_ix (r := rIxL K) ix_list (pv 3) (pe_op op_sub (pv 6) pe_int) (fun _ _ => rfl)) pa_nil)))) pa_nil))))
      (pss_cons (ps_set (i := 8) scLaw.nd rfl (.inr rfl) (C8.pe_c T.frac hr (by decide) rfl (pa_cons (pv 1) pa_nil)))
      (pss_cons (ps_set (i := 9) scLaw.nd rfl (.inl rfl) (pe_callTy call_list_of (by rfl) T.gls (by decide +kernel) (pa_cons (pv 4) pa_nil)))
      (pss_cons (ps_set (i := 6) scLaw.nd rfl (.inl rfl) (C8.pe_c T.take hr (by decide) rfl (pa_cons (pv 1) (pa_cons (pe_callB call_len_seq (by rfl) T.gl PySem.boot_len (pa_cons (pv 9) pa_nil)) pa_nil))))
      (pss_cons (ps_asg (C8.pe_c T.plus hr (by decide) rfl (pa_cons (pe_ix ix_list (pv 9) (pv 6) (fun _ _ => rfl)) (pa_cons (pe_ix ix_list (pe_lst (pa_cons (pe_tup (pa_cons pe_int (pa_cons pe_int pa_nil))) (pa_cons (pe_tup (pa_cons (pe_un un_neg pe_int) (pa_cons pe_int pa_nil)))
          (pa_cons (pe_tup (pa_cons pe_int (pa_cons pe_int pa_nil))) (pa_cons (pe_tup (pa_cons (pe_un un_neg pe_int) (pa_cons pe_int pa_nil))) pa_nil))))) (C8.pe_c T.take hr (by decide) rfl (pa_cons (pv 1) (pa_cons pe_int pa_nil))) (fun _ _ => rfl)) pa_nil)))
        (pg_sub (pv 9) (pv 6) set_list))
      (pss_cons (ps_set (i := 10) scLaw.nd rfl (.inl rfl) (pe_lst (pa_cons (pv 4) (pa_cons
          (pe_lc (own := [("_law_toll", 19)]) (g := gName 19) (tt := tYes) rfl scLaw.nd (pi_list (pv 4)) (blkOk_by (N := NL) (sc := defScope sLaw) (by decide +kernel)) (fun _ _ _ _ _ => pg_name (i := 19) scLaw.nd rfl (Or.inl rfl)) (fun _ _ _ _ _ => pts_nil)
            (fun _ _ _ _ _ => C8.pe_c T.plus hr (by decide) rfl (pa_cons (pv 19) (pa_cons (pv 8) pa_nil)))) (pa_cons (pv 9) (pa_cons
          (pe_lc (own := [("_law_toll", 19)]) (g := gName 19) (tt := tYes) rfl scLaw.nd (pi_list (pv 4)) (blkOk_by (N := NL) (sc := defScope sLaw) (by decide +kernel)) (fun _ _ _ _ _ => pg_name (i := 19) scLaw.nd rfl (Or.inl rfl)) (fun _ _ _ _ _ => pts_nil)
            (fun _ _ _ _ _ => C8.pe_c T.frac hr (by decide) rfl (pa_cons (pv 1) pa_nil))) pa_nil))))))
      (pss_cons (ps_set (i := 11) scLaw.nd rfl (.inl rfl) (C8.pe_c T.numin hr (by decide) rfl (pa_cons (pv 1) (pa_cons (pv 2) pa_nil))))
      (pss_cons (ps_for PassesOwn.never rfl (pi_range1 rfl T.gr (pa_cons pe_int pa_nil)) (pg_name (i := 12) scLaw.nd rfl (.inl rfl))
        (pss_cons (ps_set (i := 13) scLaw.nd rfl (.inl rfl) (pe_ix ix_list (pv 10) (pv 12) (fun _ _ => rfl)))
        (pss_cons (ps_set (i := 14) scLaw.nd rfl (.inl rfl) (pe_callTy call_list_of (by rfl) T.gls (by decide +kernel) (pa_cons (pv 13) pa_nil)))
        (pss_cons (ps_set (i := 15) scLaw.nd rfl (.inl rfl) (pe_meth (pv 5) T.th.cl T.mL T.lie (hr.mono (by decide)) T.bL .nil passL (pa_cons (pv 14) pa_nil)))
        (pss_cons (ps_if (PW.pt (pw_or (pt_cmpR (op_neD hr.units) (pv 14) (pv 13) (nomark _)) (pw_or (PW.pt (pw_and (pt_cmpR op_lt (pv 12) pe_int (nomark _)) (pw_and1 (pt_cmpR op_ne (pe_cmpR op_isN (pv 15) pe_non (nomark _)) (pv 7) (nomark _)))))
            (pw_or1 (PW.pt (pw_and (pt_cmpR op_isN (pv 15) pe_non (nomark _)) (pw_and1 (pt_not (pt_val (pv 7)))))))))) (pss_one (ps_ret pe_bl)) pss_nil)
        (pss_one (ps_if (pt_cmpR op_notN (pv 15) pe_non (nomark _))
          (pss_one (ps_if (pt_not (pt_val (C8.pe_c T.right hr (by decide) rfl (pa_cons (pv 2) (pa_cons (pv 3) (pa_cons (pv 13) (pa_cons (pv 15) pa_nil))))))) (pss_one (ps_ret pe_bl)) pss_nil))
          (pss_one (ps_for PassesOwn.never rfl (pi_list (pv 11)) (pg_name (i := 16) scLaw.nd rfl (.inl rfl))
            (pss_cons (ps_set (i := 17) scLaw.nd rfl (.inl rfl) (C8.pe_c T.has hr (by decide) rfl (pa_cons (pv 2) (pa_cons (pv 3) (pa_cons (pv 13) (pa_cons (pv 16) (pa_cons (pv 16) pa_nil)))))))
            (pss_one (ps_for PassesOwn.never rfl (pi_list (pv 2)) (pg_name (i := 18) scLaw.nd rfl (.inl rfl))
              (pss_one (ps_if (pt_val (C8.pe_c T.less hr (by decide) rfl (pa_cons (pv 17) (pa_cons (C8.pe_c T.has hr (by decide) rfl (pa_cons (pv 2) (pa_cons (pv 3) (pa_cons (pv 13) (pa_cons (pv 16) (pa_cons (pv 18) pa_nil)))))) pa_nil))))
                (pss_one (ps_ret pe_bl)) pss_nil))))))))))))))
      (pss_one (ps_ret (pe_and (C8.pe_c T.refused hr (by decide) rfl (pa_cons (pv 5) (pa_cons (pe_op op_cat (pv 4) (pe_lst (pa_cons (pe_tup (pa_cons pe_int (pa_cons pe_int pa_nil))) pa_nil))) pa_nil)))
        (pe_one (C8.pe_c T.refused hr (by decide) rfl (pa_cons (pv 5) (pa_cons (pe_slice sl_list (pv 4) po_none (po_some (pe_un un_neg pe_int))) pa_nil))))))))))))))))))), ?_⟩)
  · obtain ⟨a, ns, rfl, _⟩ := h
    rfl
  · obtain ⟨a, ns, rfl, hS, hns, k⟩ := h
    have big : (200 : Nat) < sizeLine := by decide
    -- row, points, shares
    refine ⟨_, rfl, a, ns, rfl, hS, hns, fun l H1 s1 hl0 row1 => ?_⟩
    refine ⟨_, rfl, l, rfl, row1, fun H2 t pp ps pv sv n x s k2 row2 ht hpp0 hps0 hpp hps hpl hsl n1 n4 fpv fsv hx => ?_⟩
    have npp : pp ≠ l := (row1.ne hpp0).symm
    have nps : ps ≠ l := (row1.ne hps0).symm
    refine ⟨t, _, rfl, SqT.of ht, rfl, _, _, rfl, _, _, rfl, rfl, ?_⟩
    -- tolls
    have R2 : Rule K H2 pp ps n x s := ⟨⟨pv, SqL.of hpp, hpl, fpv⟩, ⟨sv, SqL.of hps, hsl, fsv⟩, n1, n4⟩
    refine ⟨_, rfl, _, rfl, pp, ps, n, x, s, rfl, R2, fun H3 ta tv p s3 hta0 hta htl ftv toll => ?_⟩
    have row3 := row2.same s3
    have nta : ta ≠ l := (row2.ne hta0).symm
    have pp3 := s3 _ _ hpp
    have ps3 := s3 _ _ hps
    have fpv3 := fpv.same s3
    have fsv3 := fsv.same s3
    -- the object
    obtain ⟨v0, e0, f0⟩ := fpv3.get (i := 0) (by omega)
    obtain ⟨vn, en, fn⟩ := fpv3.get (i := n) (by omega)
    refine ⟨_, rfl, _, _, _, v0, rfl, rfl, SqL.of pp3, at_of rfl e0, _, rfl, _, rfl, _, _, _, vn, rfl, rfl, SqL.of pp3, at_neg1 hpl en, ?_⟩
    refine ⟨_, rfl, _, rfl, _, rfl, _, rfl, pp, pv, rfl, SqL.of pp3, fun ca hca => ?_⟩
    rw [cut_mid _ (by omega)]
    have s4 := same_new (o := .lst ((pv.drop 1).take (pv.length - 2))) hca
    refine ⟨_, rfl, ps, sv, rfl, .inl (SqL.of (s4 _ _ ps3)), fun sa hsa => ?_⟩
    have s5 := same_new (o := .lst sv) hsa
    refine ⟨rfl, rfl, fun o dx ho hdx ndx => ?_⟩
    have s6 : Same (upd (upd H3 ca (.lst ((pv.drop 1).take (pv.length - 2)))) sa (.lst sv)) (upd (upd (upd (upd H3 ca (.lst ((pv.drop 1).take (pv.length - 2)))) sa (.lst sv)) dx (.own o)) o (.ins C dx [])) := fun b u e => by
      rw [upd_ne (ne_of_none e ho), upd_ne (ne_of_none e hdx)]
      exact e
    have s46 := s4.trans (s5.trans s6)
    refine ⟨o, dx, ca, sa, v0, vn, _, sv, n, x, s, rfl, upd_same, f0.same s46, fn.same s46, SqL.of (s6 _ _ (s5 _ _ upd_same)), (by rw [List.length_take, List.length_drop]; omega), fun i v e => (fpv3 (i + 1) v (mid_get e)).same s46, SqL.of (s6 _ _ upd_same), hsl, fsv3.same s46, by omega, hx, fun H4 c sh kp hc0 hsh0 M4 => ⟨rfl, ?_⟩⟩
    have s34 : Same H3 H4 := fun b u e => kp b u (s46 b u e) (ne_of_none (s5 _ _ (s4 _ _ e)) ho)
    have row6 := row3.same s46
    have nc : c ≠ l := (row6.ne hc0).symm
    have nsh : sh ≠ l := (row6.ne hsh0).symm
    have row4 := row3.same s34
    have B4 : Base K C H4 pp ps ta o c sh n x s p pv sv tv := ⟨s34 _ _ pp3, hpl, fpv3.same s34, s34 _ _ ps3, hsl, fsv3.same s34, s34 _ _ hta, htl, ftv.same s34, M4⟩
    clear kp M4 s46 s6 s5 s4
    -- ascending
    refine ⟨_, rfl, ps, sv, rfl, .inl (SqL.of B4.shs), 1, _, rfl, ⟨by decide, by decide, by omega, by omega⟩, fun D hD => ?_⟩
    have nD : D ≠ l := (row4.ne hD).symm
    have s5 := same_new (o := .lst []) hD
    refine lc_range (lo := 1) (n := ((sv.length : Int) - 1).toNat) (fun i H' => ∃ bs : List Bool, Same H4 H' ∧ H' D = some (.lst (bs.map V.bl)) ∧ bs.length = i ∧ (bs.any id = true ↔ ∃ q, 0 < q ∧ q ≤ i ∧ s q < s (q - 1)))
      ⟨[], s5, upd_same, rfl, ⟨fun z => Bool.noConfusion z, fun ⟨q, a, b, _⟩ => by omega⟩⟩ ?_ ?_
    · rintro i H' hi ⟨bs, s6, hD6, hb, hany⟩
      have e : (1 : Int) + (i : Int) = ((i + 1 : Nat) : Int) := by omega
      rw [e]
      refine ⟨rfl, ?_⟩
      unfold tYes
      refine iteT ?_
      have ps6 := s6 _ _ B4.shs
      have sf6 := B4.sf.same s6
      obtain ⟨va, ea, fa⟩ := sf6.get (i := i + 1) (by omega)
      obtain ⟨vb, eb, fb⟩ := sf6.get (i := i) (by omega)
      refine ⟨_, rfl, _, rfl, _, _, _, va, rfl, rfl, SqL.of ps6, at_of rfl ea, _, rfl, _, rfl, _, _, rfl, rfl, _, _, _, vb, rfl, rfl, SqL.of ps6, at_of (by omega) eb, ?_⟩
      refine ⟨va, vb, _, _, 3, 3, rfl, fa, fb, by decide, _, hD6, by rw [List.length_map]; omega, bs ++ [decide (s (i + 1) < s i)], same_upd s6 hD, by rw [upd_same, List.map_append] <;> rfl, by rw [List.length_append, hb] <;> rfl, ?_⟩
      rw [List.any_append, Bool.or_eq_true, hany]
      constructor
      · rintro (⟨q, q0, q1, q2⟩ | z)
        · exact ⟨q, q0, by omega, q2⟩
        · simp only [List.any_cons, List.any_nil, id_eq, Bool.or_false, decide_eq_true_eq] at z
          exact ⟨i + 1, by omega, Nat.le_refl _, by rw [Nat.add_sub_cancel]; exact z⟩
      · rintro ⟨q, q0, q1, q2⟩
        by_cases d : q = i + 1
        · subst d
          rw [Nat.add_sub_cancel] at q2
          right
          simp only [List.any_cons, List.any_nil, id_eq, Bool.or_false, decide_eq_true_eq]
          exact q2
        · exact .inl ⟨q, q0, by omega, q2⟩
    · rintro H5 ⟨bs, s6, hD6, hb, hany⟩
      refine ⟨D, bs, rfl, SqL.of hD6, _, rfl, ?_⟩
      have hA : (!bs.any id) = true ↔ AscS n s := by
        rw [Bool.not_eq_true', ← Bool.not_eq_true, hany]
        constructor
        · intro z q q0 q1 q2
          exact z ⟨q, q0, by omega, q2⟩
        · rintro z ⟨q, q0, q1, q2⟩
          exact z q q0 (by omega) q2
      generalize (!bs.any id) = asc at hA ⊢
      have B5 := B4.same s6
      have row5 := row4.same s6
      clear hany hb hD6 s6 s5 B4
      -- extra
      refine ⟨_, rfl, l, rfl, row5, fun ve xe H6 k6 row6 fe => ?_⟩
      have B6 := B5.keep k6 row5 npp nps nta nc nsh
      -- near
      refine ⟨_, rfl, ta, tv, rfl, .inl (SqL.of B6.tol), fun na hna => ?_⟩
      have nna : na ≠ l := (row6.ne hna).symm
      have s7 := same_new (o := .lst tv) hna
      refine ⟨_, rfl, _, rfl, na, tv, rfl, .inl (SqL.of upd_same), l, _, rfl, by omega, row6.same s7, fun r H8 r0 r1 k8 row8 => ?_⟩
      have h8 := k8 _ _ (upd_same (H := H6) (a := na) (o := .lst tv)) nna
      have k68 : Keep l H6 H8 := (Keep.of s7).trans k8
      obtain ⟨rn, hrn⟩ : ∃ rn : Nat, r = (rn : Int) := ⟨r.toNat, by omega⟩
      subst hrn
      have tf8 := B6.tf.row k68 row6
      obtain ⟨vk, ek, fk⟩ := tf8.get (i := rn) (by omega)
      refine ⟨_, rfl, _, rfl, _, _, _, vk, rfl, rfl, SqL.of h8, at_of rfl ek, ?_⟩
      refine ⟨by show 2 ≤ sizeLine; decide, fun c1 g1 => ⟨_, rfl, by show 2 ≤ sizeLine; decide, fun c2 g2 => ⟨by show 2 ≤ sizeLine; decide, fun c3 g3 => ⟨_, rfl, by show 2 ≤ sizeLine; decide, fun c4 g4 => ⟨by show 4 ≤ sizeLine; decide, fun c5 g5 => ?_⟩⟩⟩⟩⟩
      have s1 := same_new (o := .tup [.int 1, .int 1]) g1
      have s2 := same_new (o := .tup [.int (-1), .int 1]) g2
      have s3 := same_new (o := .tup [.int 1, .int 5]) g3
      have s4 := same_new (o := .tup [.int (-1), .int 9]) g4
      have s5 := same_new (o := .lst [.ref c1, .ref c2, .ref c3, .ref c4]) g5
      have q1 : Fr K (upd H8 c1 (.tup [.int 1, .int 1])) 4 (.ref c1) 1 := Fr.lit (by decide) (by decide) ⟨by decide, by decide⟩ upd_same
      have q2 : Fr K (upd (upd H8 c1 (.tup [.int 1, .int 1])) c2 (.tup [.int (-1), .int 1])) 4 (.ref c2) (-1) := Fr.lit (by decide) (by decide) ⟨by decide, by decide⟩ upd_same
      have q3 : Fr K (upd (upd (upd H8 c1 (.tup [.int 1, .int 1])) c2 (.tup [.int (-1), .int 1])) c3 (.tup [.int 1, .int 5])) 4 (.ref c3) r5 := Fr.lit rfl rfl ⟨by decide, by decide⟩ upd_same
      have q4 : Fr K (upd (upd (upd (upd H8 c1 (.tup [.int 1, .int 1])) c2 (.tup [.int (-1), .int 1])) c3 (.tup [.int 1, .int 5])) c4 (.tup [.int (-1), .int 9])) 4 (.ref c4) rm9 := Fr.lit rfl rfl ⟨by decide, by decide⟩ upd_same
      have L4 : FrL K _ 4 [V.ref c1, V.ref c2, V.ref c3, V.ref c4] lit4 := fun i v e => by
        match i, e with
        | 0, e =>
          have e1 : V.ref c1 = v := Option.some.inj e
          rw [← e1]
          exact q1.same (s2.trans (s3.trans (s4.trans s5)))
        | 1, e =>
          have e1 : V.ref c2 = v := Option.some.inj e
          rw [← e1]
          exact q2.same (s3.trans (s4.trans s5))
        | 2, e =>
          have e1 : V.ref c3 = v := Option.some.inj e
          rw [← e1]
          exact q3.same (s4.trans s5)
        | 3, e =>
          have e1 : V.ref c4 = v := Option.some.inj e
          rw [← e1]
          exact q4.same s5
        | j + 4, e => cases e
      have s89 := s1.trans (s2.trans (s3.trans (s4.trans s5)))
      have h9 := upd_same (H := upd (upd (upd (upd H8 c1 (.tup [.int 1, .int 1])) c2 (.tup [.int (-1), .int 1])) c3 (.tup [.int 1, .int 5])) c4 (.tup [.int (-1), .int 9])) (a := c5) (o := .lst [.ref c1, .ref c2, .ref c3, .ref c4])
      have nc5 : c5 ≠ l := ((((((row8.same s1).same s2).same s3).same s4)).ne g5).symm
      generalize upd (upd (upd (upd (upd H8 c1 (.tup [.int 1, .int 1])) c2 (.tup [.int (-1), .int 1])) c3 (.tup [.int 1, .int 5])) c4 (.tup [.int (-1), .int 9])) c5 (.lst [.ref c1, .ref c2, .ref c3, .ref c4]) = H9 at s89 h9 L4 ⊢
      clear q1 q2 q3 q4 s1 s2 s3 s4 s5
      refine ⟨_, rfl, l, 4, rfl, by decide, row8.same s89, fun z H10 z0 z4 k10 row10 => ?_⟩
      obtain ⟨zn, hzn⟩ : ∃ zn : Nat, z = (zn : Int) := ⟨z.toNat, by omega⟩
      subst hzn
      obtain ⟨v4, e4, f4⟩ := (L4.row k10 (row8.same s89)).get (i := zn) (by show zn < 4; omega)
      have k810 : Keep l H8 H10 := (Keep.of s89).trans k10
      refine ⟨_, _, _, v4, rfl, rfl, SqL.of (k10 _ _ h9 nc5), at_of rfl e4, ?_⟩
      refine ⟨vk, v4, _, _, 100, 4, rfl, fk.row k810 row8, f4, by decide, fun v11 H11 s11 f11 => ?_⟩
      have k811 := k810.trans (Keep.of s11)
      have h11 := k811 _ _ h8 nna
      have row11 := row10.same s11
      refine ⟨_, rfl, _, rfl, na, tv, _, rn, rfl, rfl, h11, setAt rfl (by omega), ?_⟩
      have kp : Keep na H11 (upd H11 na (.lst (tv.set rn v11))) := Keep.upd
      have G12 := (((tf8.row k811 row8).mono (m := 105) (by decide)).set (j := rn) f11).keep kp h11
      have h12 : (upd H11 na (.lst (tv.set rn v11))) na = some (.lst (tv.set rn v11)) := upd_same
      have k612 : Keep l H6 (upd H11 na (.lst (tv.set rn v11))) := keep_upd (k68.trans k811) hna
      have row12 : Row (upd H11 na (.lst (tv.set rn v11))) l := row11.upd nna.symm
      have nvl : (tv.set rn v11).length = n := by rw [List.length_set]; exact htl
      have B12 := B6.keep k612 row6 npp nps nta nc nsh
      have fe12 := fe.row k612 row6
      generalize upd H11 na (.lst (tv.set rn v11)) = H12 at G12 h12 row12 B12 fe12 ⊢
      generalize put p rn (p rn + lit4 zn) = p3 at G12
      generalize hnv : tv.set rn v11 = nv at G12 h12 nvl
      clear k612 kp L4 h11 k811 k810 h9
      -- the plans
      refine ⟨_, rfl, _, rfl, ta, rfl, ⟨_, SqL.of B12.tol⟩, fun D1 hD1 => ?_⟩
      have nD1 : D1 ≠ l := (row12.ne hD1).symm
      refine lc_list (K := K) (a := ta) (xs := tv) (fun i H' => ∃ (qv : List V) (p2 : Nat → Rat), Same H12 H' ∧ H' D1 = some (.lst qv) ∧ qv.length = i ∧ FrL K H' 108 qv p2 ∧ ∀ j, j < i → p2 j = p j + xe)
        ⟨[], p, same_new hD1, upd_same, rfl, FrL.nil, fun j hj => absurd hj (Nat.not_lt_zero _)⟩ (fun i H' _ ⟨_, _, sx, _⟩ => sx.seq (SqL.of B12.tol)) ?_ ?_
      · rintro i u H' eu ⟨qv, p2, sx, hq, hl, G, eqs⟩
        refine ⟨rfl, ?_⟩
        unfold tYes
        refine iteT ?_
        have fu := (B12.tf.same sx) i u eu
        have hi : i < n := by have := (List.getElem?_eq_some_iff.mp eu).1; omega
        refine ⟨_, rfl, _, rfl, u, ve, _, _, 100, 7, rfl, fu, fe12.same sx, by decide, fun v1 H1' s1 f1 => ?_⟩
        have hq1 := s1 _ _ hq
        refine ⟨_, hq1, by omega, qv ++ [v1], put p2 i (p i + xe), same_upd (sx.trans s1) hD1, upd_same, by rw [List.length_append, hl] <;> rfl, ?_, fun j hj => ?_⟩
        · have G1 := ((G.same s1).push f1).keep (Keep.upd (o := .lst (qv ++ [v1]))) hq1
          rw [hl] at G1
          exact G1
        · by_cases d : j = i
          · rw [d, put_same]
          · rw [put_ne _ _ d]
            exact eqs j (by omega)
      · rintro H13 ⟨qv, p2, s13, hq, hl, G, eqs⟩
        have B13 := B12.same s13
        have row13 := row12.same s13
        have h13 := s13 _ _ h12
        have G13 := G12.same s13
        refine ⟨_, rfl, _, rfl, ta, rfl, ⟨_, SqL.of B13.tol⟩, fun D2 hD2 => ?_⟩
        have nD2 : D2 ≠ l := (row13.ne hD2).symm
        refine lc_list (K := K) (a := ta) (xs := tv) (fun i H' => ∃ (wv : List V) (p4 : Nat → Rat), Keep l H13 H' ∧ Row H' l ∧ H' D2 = some (.lst wv) ∧ wv.length = i ∧ FrL K H' 7 wv p4)
          ⟨[], p, Keep.of (same_new hD2), row13.same (same_new hD2), upd_same, rfl, FrL.nil⟩ (fun i H' _ ⟨_, _, kx, _⟩ => SqL.of (kx _ _ B13.tol nta)) ?_ ?_
        · rintro i u H' eu ⟨wv, p4, kx, rowx, hw, hwl, Gw⟩
          refine ⟨rfl, ?_⟩
          unfold tYes
          refine iteT ?_
          have hi : i < n := by have := (List.getElem?_eq_some_iff.mp eu).1; omega
          refine ⟨_, rfl, l, rfl, rowx, fun v1 y1 H1' k1 row1' f1 => ?_⟩
          have hw1 := k1 _ _ hw nD2
          refine ⟨_, hw1, by omega, wv ++ [v1], put p4 i y1, keep_upd (kx.trans k1) hD2, row1'.upd nD2.symm, upd_same, by rw [List.length_append, hwl] <;> rfl, ?_⟩
          have G1 := ((Gw.row k1 rowx).push f1).keep (Keep.upd (o := .lst (wv ++ [v1]))) hw1
          rw [hwl] at G1
          exact G1
        · rintro H14 ⟨wv, p4, k14, row14, hw, hwl, Gw⟩
          refine ⟨by show 4 ≤ sizeLine; decide, fun pl hpl' => ?_⟩
          have s15 := same_new (o := .lst [.ref ta, .ref D1, .ref na, .ref D2]) hpl'
          have npl : pl ≠ l := (row14.ne hpl').symm
          have B15 := (B13.keep k14 row13 npp nps nta nc nsh).same s15
          have row15 := row14.same s15
          -- the numbers
          refine ⟨_, rfl, _, rfl, l, pp, pv, n, x, rfl, row15, B15.pts, npp, hpl, n1, n4, B15.pf, hx, fun H16 nn nw y k16 row16 hnn0 hnn nnl fnn ynn => ?_⟩
          have k1316 : Keep l H13 H16 := k14.trans ((Keep.of s15).trans k16)
          have toll2 : TollIs n x s p2 := ⟨fun q q0 q1 => by
            rw [eqs q (by omega), eqs (q - 1) (by omega), toll.step q q0 q1]
            grind⟩
          have M16 : Main K C H16 pp ps ta o c sh pl nn n x s p pv sv tv := by
            refine ⟨B15.keep k16 row15 npp nps nta nc nsh, ⟨_, k16 _ _ upd_same npl, fun i hi => ?_⟩, ⟨nw, y, hnn, fnn, ynn⟩⟩
            match i, hi with
            | 0, _ => exact ⟨ta, tv, p, rfl, ⟨SqL.of (k1316 _ _ B13.tol nta), htl, (B13.tf.row k1316 row13).mono (by decide)⟩, fun _ => toll⟩
            | 1, _ => exact ⟨D1, qv, p2, rfl, ⟨SqL.of (k1316 _ _ hq nD1), by omega, (G.row k1316 row13).mono (by decide)⟩, fun _ => toll2⟩
            | 2, _ => exact ⟨na, nv, p3, rfl, ⟨SqL.of (k1316 _ _ h13 nna), nvl, (G13.row k1316 row13).mono (by decide)⟩, fun z => absurd z (by decide)⟩
            | 3, _ => exact ⟨D2, wv, p4, rfl, ⟨SqL.of (((Keep.of s15).trans k16) _ _ hw nD2), by omega, (Gw.row ((Keep.of s15).trans k16) row14).mono (by decide)⟩, fun z => absurd z (by decide)⟩
            | j + 4, h => exact absurd h (by omega)
          -- the main loop
          refine ⟨4, rfl, by decide, by decide, for_range (lo := 0) (n := 4) (fun i σ H' => ∃ b12 b13 b14 b15 b16 b17 b18 b19, σ = [some (.ref a), some (.ref l), some (.ref pp), some (.ref ps), some (.ref ta), some (.ref o), some (.int (rn : Int)), some (.bl asc), some ve, some (.ref na), some (.ref pl), some (.ref nn), b12, b13, b14, b15, b16, b17, b18, b19] ∧ Same H16 H')
            ⟨none, none, none, none, none, none, none, none, rfl, Same.refl _⟩ ?_ ?_⟩
          · rintro i σ H' hi ⟨b12, b13, b14, b15, b16, b17, b18, b19, rfl, sx⟩
            rw [Int.zero_add]
            have M := M16.same sx
            obtain ⟨B, ⟨qs, hqs, hpl4⟩, ⟨nv2, y2, hnv2, fy, hy⟩⟩ := id M
            obtain ⟨qa, qw, qf, eq1, Y, tq⟩ := hpl4 i hi
            refine ⟨_, rfl, _, rfl, _, _, _, _, rfl, rfl, SqL.of hqs, at_of rfl eq1, ?_⟩
            refine ⟨_, rfl, qa, qw, rfl, .inl Y.sq, fun ga hga => ?_⟩
            have sg := same_new (o := .lst qw) hga
            have M1 := M.same sg
            have Y1 := Y.same sg
            have ylen := Y.len
            obtain ⟨dx2, fs2, eo, no⟩ := noM (m := "lie") (by decide +kernel) (by decide +kernel) (by decide +kernel) (by decide +kernel) M1.base.made
            have Yg : Pay K (upd H' ga (.lst qw)) ga qw n qf := ⟨SqL.of upd_same, Y.len, Y1.fr⟩
            refine ⟨_, rfl, o, dx2, _, rfl, eo, no, _, rfl, o, c, sh, ga, n, x, s, qf, qw, rfl, M1.base.made, Yg.sq, by omega, by omega, fun z => absurd ylen z, fun _ => ⟨Yg.fr, hx, ⟨fun H2 s2 ng => ?_, fun H2 la vt vu vg t u g s2 hla ft fu fg L => ?_⟩⟩⟩
            · -- no lie
              have ea : asc = true := hA.mpr (noGain_asc hx ng)
              obtain ⟨d, d1, d2, d3, d4⟩ := list_data (s2.seq Yg.sq) (s2.seq Y1.sq) (Yg.fr.same s2)
              refine ⟨_, rfl, _, rfl, d, d, d1, d2, d3, d3, _, rfl, ?_⟩
              rw [d4]
              refine iteF ?_
              refine ⟨_, rfl, _, _, rfl, rfl, _, rfl, ?_⟩
              refine (fun r => ite2 (fun _ => ⟨_, rfl, rfl, _, rfl, rfl, _, rfl, iteNS (by rw [ea] <;> rfl) r⟩) (fun _ => iteF r)) ?_
              refine ⟨_, rfl, rfl, _, rfl, iteA rfl ?_⟩
              refine ⟨_, rfl, _, rfl, ?_⟩
              refine iteB (by rw [ea] <;> rfl) ?_
              refine ⟨_, rfl, rfl, _, rfl, iteB rfl ?_⟩
              have s02 := sg.trans s2
              have M2 := M.same s02
              have Y2 := Y.same s02
              have R2 := M2.base.rule n1 n4
              refine ⟨_, rfl, nn, rfl, ⟨_, SqL.of (s02 _ _ hnv2)⟩, for_list (K := K) (a := nn) (xs := nv2) (fun j σ H3 => ∃ b16 b17 b18, σ = [some (.ref a), some (.ref l), some (.ref pp), some (.ref ps), some (.ref ta), some (.ref o), some (.int (rn : Int)), some (.bl asc), some ve, some (.ref na), some (.ref pl), some (.ref nn), some (.int (i : Int)), some (.ref qa), some (.ref ga), some .non, b16, b17, b18, b19] ∧ Same H2 H3)
                ⟨b16, b17, b18, rfl, Same.refl _⟩ (fun j σ H3 _ ⟨_, _, _, _, s3⟩ => (s02.trans s3).seq (SqL.of hnv2)) ?_ ?_⟩
              · rintro j u σ H3 eu ⟨b16, b17, b18, rfl, s3⟩
                have fu := (fy.same (s02.trans s3)) j u eu
                have hju := hy j (List.getElem?_eq_some_iff.mp eu).1
                refine ⟨_, rfl, _, rfl, _, rfl, _, rfl, _, rfl, pp, ps, qa, u, u, qw, n, 82, 82, x, s, qf, y2 j, y2 j, rfl, R2.same s3, Y2.same s3, fu, by decide, fu, by decide, fun k1 p1 v4 H4 s4 f4 => ?_⟩
                have m1 := p1.mem hju.1 hju.2
                have s24 := s3.trans s4
                have B4 := M2.base.same s24
                refine ⟨_, rfl, pp, rfl, ⟨_, SqL.of B4.pts⟩, for_list (K := K) (a := pp) (xs := pv) (fun j σ H5 => ∃ b18, σ = [some (.ref a), some (.ref l), some (.ref pp), some (.ref ps), some (.ref ta), some (.ref o), some (.int (rn : Int)), some (.bl asc), some ve, some (.ref na), some (.ref pl), some (.ref nn), some (.int (i : Int)), some (.ref qa), some (.ref ga), some .non, some u, some v4, b18, b19] ∧ Same H4 H5)
                  ⟨b18, rfl, Same.refl _⟩ (fun j σ H5 _ ⟨_, _, s5⟩ => s5.seq (SqL.of B4.pts)) ?_ ?_⟩
                · rintro m w5 σ H5 ew ⟨b18, rfl, s5⟩
                  have fw := (B4.pf.same s5) m w5 ew
                  refine ⟨_, rfl, _, rfl, _, rfl, _, rfl, _, rfl, _, rfl, pp, ps, qa, u, w5, qw, n, 82, 24, x, s, qf, y2 j, x m, rfl, R2.same (s24.trans s5), Y2.same (s24.trans s5), fu.same (s4.trans s5), by decide, fw, by decide, fun k2 p2 v6 H6 s6 f6 => ?_⟩
                  refine ⟨v4, v6, _, _, 207, 207, rfl, f4.same (s5.trans s6), f6, by decide, _, rfl, ?_⟩
                  have le := noGain_mid hx ng p1.lt p2.lt m1.1 m1.2
                  refine iteB (decide_eq_false (by grind)) ?_
                  exact ⟨_, rfl, s5.trans s6⟩
                · rintro σ H5 ⟨b18, rfl, s5⟩
                  exact ⟨_, _, _, rfl, s24.trans s5⟩
              · rintro σ H3 ⟨b16, b17, b18, rfl, s3⟩
                exact ⟨_, _, _, _, _, _, _, _, rfl, sx.trans (s02.trans s3)⟩
            · -- a lie
              have ea : (i : Int) < 2 → asc = false := fun z => by
                cases ha : asc with
                | false => rfl
                | true => exact absurd (toll_noGain hx (hA.mp ha) (tq (by omega))) (lie_not hx L)
              obtain ⟨d, d1, d2, d3, d4⟩ := list_data (s2.seq Yg.sq) (s2.seq Y1.sq) (Yg.fr.same s2)
              refine ⟨_, rfl, _, rfl, d, d, d1, d2, d3, d3, _, rfl, ?_⟩
              rw [d4]
              refine iteF ?_
              refine ⟨_, rfl, _, _, rfl, rfl, _, rfl, ?_⟩
              refine (fun r => ite2 (fun z => ⟨_, rfl, rfl, _, rfl, rfl, _, rfl, iteNS (by rw [ea (of_decide_eq_true z)] <;> rfl) r⟩) (fun _ => iteF r)) ?_
              refine ⟨_, rfl, rfl, _, rfl, iteB rfl ?_⟩
              refine iteF ?_
              refine ⟨_, rfl, rfl, _, rfl, iteA rfl ?_⟩
              have s02 := sg.trans s2
              have M2 := M.same s02
              refine ⟨_, rfl, _, rfl, _, rfl, _, rfl, pp, ps, qa, la, vt, vu, vg, qw, n, x, s, qf, t, u, g, rfl, M2.base.rule n1 n4, Y.same s02, hla, ft, fu, fg, L, hx, fun H3 s3 => ?_⟩
              refine ⟨_, rfl, iteF ?_⟩
              exact ⟨_, _, _, _, _, _, _, _, rfl, sx.trans (s02.trans s3)⟩
          · rintro σ H' ⟨b12, b13, b14, b15, b16, b17, b18, b19, rfl, sx⟩
            have B := M16.base.same sx
            refine ⟨_, rfl, _, rfl, by show 2 ≤ sizeLine; decide, fun z hz => ⟨by show 1 ≤ sizeLine; decide, fun za hza => ?_⟩⟩
            have sz1 := same_new (o := .tup [.int 0, .int 1]) hz
            have sz2 := same_new (o := .lst [.ref z]) hza
            have sz := sz1.trans sz2
            refine ⟨ta, za, tv, [.ref z], rfl, rfl, sz _ _ B.tol, upd_same, by show tv.length + 1 ≤ sizeLine; omega, fun zb hzb => ?_⟩
            have sz3 := same_new (o := .lst (tv ++ [.ref z])) hzb
            refine ⟨o, c, sh, zb, n, x, s, _, rfl, B.made.same (sz.trans sz3), SqL.of upd_same, by omega, by rw [List.length_append, List.length_singleton]; omega, by rw [List.length_append, List.length_singleton]; omega, fun H4 s4 => ?_⟩
            refine ⟨_, rfl, iteT ?_⟩
            have B4 := B.same (sz.trans (sz3.trans s4))
            refine ⟨_, rfl, _, rfl, _, rfl, _, rfl, ta, tv, rfl, SqL.of B4.tol, fun ze hze => ?_⟩
            rw [cut_front]
            have s5 := same_new (o := .lst (tv.take (tv.length - 1))) hze
            refine ⟨o, c, sh, ze, n, x, s, _, rfl, B4.made.same s5, SqL.of upd_same, by omega, by rw [List.length_take]; omega, by rw [List.length_take]; omega, fun H6 s6 => ?_⟩
            exact k H6
end
end Un

set_option Elab.async false
set_option linter.all false
set_option maxRecDepth 100000
/-! What the top has written: the defs by name, the facts. -/
namespace Un
open PySem PySem.Spec PyProof.Rows L2
def dn (x : Str) (st : Stmt) : He.DefD := ⟨(x, none), x, x, defArgs st, defBody st, defScope st, [], []⟩
def dm (C x q : Str) (st : Stmt) : He.DefD := ⟨(C, some x), x, q, defArgs st, defBody st, defScope st, [], []⟩
def fnL : List He.DefD := [⟨("make", none), "make", "make", defArgs sMake, defBody sMake, defScope sMake, [.int 1], []⟩, dn "add" sAdd, dn "negate" sNeg, dn "subtract" sSub, dn "multiply" sMul, dn "divide" sDiv, dn "compare" sCmp, dn "sign" sSign,
  dm "InvalidThresholds" "__init__" "InvalidThresholds.__init__" sInv, dm "Thresholds" "__init__" "Thresholds.__init__" sTInit, dm "Thresholds" "start" "Thresholds.start" sStart, dm "Thresholds" "end" "Thresholds.end" sEnd, dm "Thresholds" "gain" "Thresholds.gain" sGain,
  dm "Thresholds" "lie" "Thresholds.lie" sLie, dm "Thresholds" "gaining" "Thresholds.gaining" sGaining,
  dn "_law_mix" sMix, dn "_law_numbers" sNumbers, dn "_law_take" sTake, dn "_law_fraction" sFrac, dn "_law_lowest" sLow, dn "_law_plus" sPlus, dn "_law_times" sTimes, dn "_law_less" sLess, dn "_law_minus" sMinus, dn "_law_steps" sSteps, dn "_law_piece" sPiece, dn "_law_has" sHas,
  dn "_law_tolls" sTolls, dn "_law_refused" sRefused, dn "_law_numbers_in" sNumIn, dn "_law_lie_right" sRight, dn "law" sLaw]
def faL : List He.Fa := [.glo "make", .glo "add", .glo "negate", .glo "subtract", .glo "multiply", .glo "divide", .glo "compare", .glo "sign", .glo "ZERO", .glo "InvalidThresholds", .glo "Thresholds",
  .glo "_law_mix", .glo "_law_numbers", .glo "_law_take", .glo "_law_fraction", .glo "_law_lowest", .glo "_law_plus", .glo "_law_times", .glo "_law_less", .glo "_law_minus", .glo "_law_steps", .glo "_law_piece", .glo "_law_has", .glo "_law_tolls", .glo "_law_refused", .glo "_law_numbers_in", .glo "_law_lie_right", .glo "law",
  .free "len", .free "range", .free "list", .free "zip", .free "int", .free "abs", .free "any", .free "isinstance", .free "tuple", .int "MOST_CUTS" 7,
  .cls "Thresholds", .noat "Thresholds" "low", .noat "Thresholds" "high", .noat "Thresholds" "cuts", .noat "Thresholds" "shares", .mkr "Thresholds", .meth "Thresholds" "start", .meth "Thresholds" "end", .meth "Thresholds" "gain", .meth "Thresholds" "lie", .meth "Thresholds" "gaining",
  .noat "InvalidThresholds" "reason", .exm "InvalidThresholds" "InvalidThresholds" true]
/-- the error's class object -/
def oexB (K : PySem.W.Frag) (C : Addr) : Bool := match K.lookup C with
  | some ⟨.type t, _, .cls cd, sl⟩ => decide (t = "type") && (match cd.mro, sl.toList with
    | .ref C' :: bm, [_, _, _, _, some (.builtin n), _] => decide (C' = C) && (decide (n = "ValueError.__new__") && (cd.hasDict && (!cd.hasDel && PySem.HandSPX.refsVE bm)))
    | _, _ => false)
  | _ => false
theorem oexB_ok {K : PySem.W.Frag} {C : Addr} (h : oexB K C = true) : ∃ nm q N bs bm sn sub ab col dd k0 k1 k2 k3 k5, K.lookup C = some (excClassObj nm q C N bs bm true sn sub ab col dd k0 k1 k2 k3 k5 "ValueError.__new__") ∧ PySem.HandSPX.refsVE bm = true := by
  unfold oexB at h
  split at h
  · rename_i t dd cd sl hl
    obtain ⟨h1, h2⟩ := He.ba h
    have et : t = "type" := of_decide_eq_true h1
    split at h2
    · rename_i C' bm k0 k1 k2 k3 n k5 em es
      obtain ⟨h3, h4⟩ := He.ba h2
      obtain ⟨h5, h6⟩ := He.ba h4
      obtain ⟨h7, h8⟩ := He.ba h6
      obtain ⟨h9, h10⟩ := He.ba h8
      have eC : C' = C := of_decide_eq_true h3
      have en : n = "ValueError.__new__" := of_decide_eq_true h5
      have ed : cd.hasDel = false := by simpa using h9
      have esl : sl = #[k0, k1, k2, k3, some (.builtin n), k5] := by
        apply Array.ext'
        rw [es]
      obtain ⟨c1, c2, c3, c4, c5, c6, c7, c8, c9, c10, c11⟩ := cd
      dsimp only at em h7 ed
      subst et eC en em h7 ed esl
      exact ⟨c1, c5, c4, c2, bm, c7, c8, c9, c10, dd, k0, k1, k2, k3, k5, hl, h10⟩
    · cases h2
  · cases h
def exL (K : PySem.W.Frag) : Bool := oexB K (He.ga K "InvalidThresholds") && (He.eqO (PySem.W.findIn K (.ref (He.ga K "InvalidThresholds")) "__setattr__") (some (some (.builtin "object.__setattr__"))) &&
  (decide (PySem.W.subIn K (.ref (He.ga K "InvalidThresholds")) (.type "BaseException") = some true) && (decide (PySem.W.typeIn K (.ref (He.ga K "InvalidThresholds")) = some (.type "type")) && (PySem.W.keepIn K (.ref (He.ga K "InvalidThresholds")) &&
  (He.eqO (PySem.W.findIn K (.ref (He.ga K "InvalidThresholds")) "__init__") (some (some (.ref (He.ma K (He.ga K "InvalidThresholds") "__init__")))) && (decide (PySem.W.typeIn K (.ref (He.ma K (He.ga K "InvalidThresholds") "__init__")) = some (.type "function")) &&
  (He.eqO (PySem.W.nsIn K mainGlobals "gcd") (some (some (.builtin "math.gcd"))) && He.tupB K "ZERO" [.int 0, .int 1])))))))
abbrev R : PySem.W.OpenRow := PySem.W.OpenLaw.row PySem.Challenge.rw_unbent_k43_whole_lies_of_one_number
abbrev hkL : PySem.W.Hook := He.hookX 5 faL fnL [] [] exL
def obL (s : PySem.W.SharedT) : He.AlX := He.obsX 5 faL fnL [] [] exL (HandSHeadRun.getT s)
theorem obL_eq (s : PySem.W.SharedT) : obL s = hkL.obs s.abs := He.obsX_eq (HandSHeadRun.getT_eq s)
def namesL : List Str := ["_wall", "UnbentError", "InvalidThresholds", "ZeroDenominator", "ZERO", "make", "add", "negate", "subtract", "multiply", "divide", "compare", "sign", "MOST_CUTS", "Thresholds", "_law_mix", "_law_numbers", "_law_take", "_law_fraction", "_law_lowest", "_law_plus", "_law_times",
  "_law_less", "_law_dot", "_law_minus", "_law_steps", "_law_piece", "_law_has", "_law_tolls", "_law_refused", "_law_numbers_in", "_law_lie_right"]
end Un

set_option Elab.async false
set_option linter.all false
set_option maxRecDepth 100000
/-! All defs joined. -/
namespace Un
open PySem PySem.Spec PyProof.Rows L2
section
variable {P : Program} {w : World} {K : PySem.W.Frag} {mg : Str → Option Value} {base : Heap}
theorem kb_init {f : Addr} {fd : FuncData} (F : FnP K "__init__" "Thresholds.__init__" sTInit [] f fd) : KBn K fd ["self", "low", "high", "cuts", "shares"] 3 ["cuts", "shares"] (fun us ws => us ++ ws) (fun vs zs => vs ++ zs) := by
  obtain ⟨oc, od, dV, kV, doc, pm, an, cdv, ct, osl, rfl, lk, hcd, hD, hK⟩ := F.ex
  rcases hD with ⟨_, rfl⟩ | ⟨e, _⟩
  · refine ⟨fun s us ws X l1 l2 => ?_, fun r1 r2 => r1.append r2⟩
    match us, ws, l1, l2 with
    | [a, b, c], [d, e], _, _ => exact .of_eq rfl
  · exact absurd rfl e
theorem b_make {f : Addr} {fd : FuncData} (F : FnP K "make" "make" sMake [.int 1] f fd) : Binds K fd ["p", "q"] [] := by
  obtain ⟨ds, hv, hb⟩ := FunD.binds1 F 2 1 (ps := ["p", "q"]) (by intro z; cases z) rfl (fun T kV doc pm an cdv ct us its l1 l2 => by
    match us, its, l1, l2 with
    | [a, b], [c], _, _ => exact ⟨_, rfl, rfl⟩)
  cases hv
  exact hb
theorem ok_all {h : Heap} {fa : Addr} (X : K.In h) (G : h.Ns mainGlobals mg) (hfa : mg ("law" : Str) = some (.ref fa)) (c : He.SaysX faL fnL [] [] exL w h K) :
    ∃ fd : FuncData, (∀ (s : Shared) (v : Value), BindsTo s fd ⟨[v], []⟩ [("_law_script", v)]) ∧ ∀ base : Heap, K.In base → base.Ns mainGlobals mg → FnOk P w K mg base CX0 8 fa fd ["_law_script"] (spLaw K) := by
  have cd := c.t.d
  obtain ⟨x1, y1⟩ := He.ba c.more
  obtain ⟨x2, y2⟩ := He.ba y1
  obtain ⟨x3, y3⟩ := He.ba y2
  obtain ⟨x4, y4⟩ := He.ba y3
  obtain ⟨x5, y5⟩ := He.ba y4
  obtain ⟨x6, y6⟩ := He.ba y5
  obtain ⟨x7, y7⟩ := He.ba y6
  obtain ⟨x8, x9⟩ := He.ba y7
  have glo : ∀ (i : Nat) {x : Str}, faL[i]? = some (.glo x) → mg x = some (.ref (He.ga K x)) := fun i {x} e => He.glo_ok X G (cd.fact i (f := .glo x) e)
  have free : ∀ (i : Nat) {x : Str}, faL[i]? = some (.free x) → mg x = none := fun i {x} e => He.free_ok X G (cd.fact i (f := .free x) e)
  -- the defs
  obtain ⟨fd0, F0⟩ := cd.def_ 0 rfl
  obtain ⟨fd1, F1⟩ := cd.def_ 1 rfl
  obtain ⟨fd2, F2⟩ := cd.def_ 2 rfl
  obtain ⟨fd3, F3⟩ := cd.def_ 3 rfl
  obtain ⟨fd4, F4⟩ := cd.def_ 4 rfl
  obtain ⟨fd5, F5⟩ := cd.def_ 5 rfl
  obtain ⟨fd6, F6⟩ := cd.def_ 6 rfl
  obtain ⟨fd7, F7⟩ := cd.def_ 7 rfl
  obtain ⟨fd8, F8⟩ := cd.def_ 8 rfl
  obtain ⟨fd9, F9⟩ := cd.def_ 9 rfl
  obtain ⟨fd10, F10⟩ := cd.def_ 10 rfl
  obtain ⟨fd11, F11⟩ := cd.def_ 11 rfl
  obtain ⟨fd12, F12⟩ := cd.def_ 12 rfl
  obtain ⟨fd13, F13⟩ := cd.def_ 13 rfl
  obtain ⟨fd14, F14⟩ := cd.def_ 14 rfl
  obtain ⟨fd15, F15⟩ := cd.def_ 15 rfl
  obtain ⟨fd16, F16⟩ := cd.def_ 16 rfl
  obtain ⟨fd17, F17⟩ := cd.def_ 17 rfl
  obtain ⟨fd18, F18⟩ := cd.def_ 18 rfl
  obtain ⟨fd19, F19⟩ := cd.def_ 19 rfl
  obtain ⟨fd20, F20⟩ := cd.def_ 20 rfl
  obtain ⟨fd21, F21⟩ := cd.def_ 21 rfl
  obtain ⟨fd22, F22⟩ := cd.def_ 22 rfl
  obtain ⟨fd23, F23⟩ := cd.def_ 23 rfl
  obtain ⟨fd24, F24⟩ := cd.def_ 24 rfl
  obtain ⟨fd25, F25⟩ := cd.def_ 25 rfl
  obtain ⟨fd26, F26⟩ := cd.def_ 26 rfl
  obtain ⟨fd27, F27⟩ := cd.def_ 27 rfl
  obtain ⟨fd28, F28⟩ := cd.def_ 28 rfl
  obtain ⟨fd29, F29⟩ := cd.def_ 29 rfl
  obtain ⟨fd30, F30⟩ := cd.def_ 30 rfl
  obtain ⟨fd31, F31⟩ := cd.def_ 31 rfl
  have F0' : FnP K "make" "make" sMake [.int 1] (He.ga K "make") fd0 := F0
  have F1' : FnP K "add" "add" sAdd [] (He.ga K "add") fd1 := F1
  have F2' : FnP K "negate" "negate" sNeg [] (He.ga K "negate") fd2 := F2
  have F3' : FnP K "subtract" "subtract" sSub [] (He.ga K "subtract") fd3 := F3
  have F4' : FnP K "multiply" "multiply" sMul [] (He.ga K "multiply") fd4 := F4
  have F5' : FnP K "divide" "divide" sDiv [] (He.ga K "divide") fd5 := F5
  have F6' : FnP K "compare" "compare" sCmp [] (He.ga K "compare") fd6 := F6
  have F7' : FnP K "sign" "sign" sSign [] (He.ga K "sign") fd7 := F7
  have F8' : FnP K "__init__" "InvalidThresholds.__init__" sInv [] (He.ma K (He.ga K "InvalidThresholds") "__init__") fd8 := F8
  have F9' : FnP K "__init__" "Thresholds.__init__" sTInit [] (He.ma K (He.ga K "Thresholds") "__init__") fd9 := F9
  have F10' : FnP K "start" "Thresholds.start" sStart [] (He.ma K (He.ga K "Thresholds") "start") fd10 := F10
  have F11' : FnP K "end" "Thresholds.end" sEnd [] (He.ma K (He.ga K "Thresholds") "end") fd11 := F11
  have F12' : FnP K "gain" "Thresholds.gain" sGain [] (He.ma K (He.ga K "Thresholds") "gain") fd12 := F12
  have F13' : FnP K "lie" "Thresholds.lie" sLie [] (He.ma K (He.ga K "Thresholds") "lie") fd13 := F13
  have F14' : FnP K "gaining" "Thresholds.gaining" sGaining [] (He.ma K (He.ga K "Thresholds") "gaining") fd14 := F14
  have F15' : FnP K "_law_mix" "_law_mix" sMix [] (He.ga K "_law_mix") fd15 := F15
  have F16' : FnP K "_law_numbers" "_law_numbers" sNumbers [] (He.ga K "_law_numbers") fd16 := F16
  have F17' : FnP K "_law_take" "_law_take" sTake [] (He.ga K "_law_take") fd17 := F17
  have F18' : FnP K "_law_fraction" "_law_fraction" sFrac [] (He.ga K "_law_fraction") fd18 := F18
  have F19' : FnP K "_law_lowest" "_law_lowest" sLow [] (He.ga K "_law_lowest") fd19 := F19
  have F20' : FnP K "_law_plus" "_law_plus" sPlus [] (He.ga K "_law_plus") fd20 := F20
  have F21' : FnP K "_law_times" "_law_times" sTimes [] (He.ga K "_law_times") fd21 := F21
  have F22' : FnP K "_law_less" "_law_less" sLess [] (He.ga K "_law_less") fd22 := F22
  have F23' : FnP K "_law_minus" "_law_minus" sMinus [] (He.ga K "_law_minus") fd23 := F23
  have F24' : FnP K "_law_steps" "_law_steps" sSteps [] (He.ga K "_law_steps") fd24 := F24
  have F25' : FnP K "_law_piece" "_law_piece" sPiece [] (He.ga K "_law_piece") fd25 := F25
  have F26' : FnP K "_law_has" "_law_has" sHas [] (He.ga K "_law_has") fd26 := F26
  have F27' : FnP K "_law_tolls" "_law_tolls" sTolls [] (He.ga K "_law_tolls") fd27 := F27
  have F28' : FnP K "_law_refused" "_law_refused" sRefused [] (He.ga K "_law_refused") fd28 := F28
  have F29' : FnP K "_law_numbers_in" "_law_numbers_in" sNumIn [] (He.ga K "_law_numbers_in") fd29 := F29
  have F30' : FnP K "_law_lie_right" "_law_lie_right" sRight [] (He.ga K "_law_lie_right") fd30 := F30
  have F31' : FnP K "law" "law" sLaw [] (He.ga K "law") fd31 := F31
  -- the names
  have e := hfa.symm.trans (glo 27 rfl)
  cases e
  have gl := free 28 (x := "len") rfl
  have gr := free 29 (x := "range") rfl
  have gls := free 30 (x := "list") rfl
  have gz := free 31 (x := "zip") rfl
  have gi := free 32 (x := "int") rfl
  have gab := free 33 (x := "abs") rfl
  have gany := free 34 (x := "any") rfl
  have gis := free 35 (x := "isinstance") rfl
  have gt := free 36 (x := "tuple") rfl
  obtain ⟨tk, gM⟩ := He.int_ok X G (cd.fact 37 (f := .int "MOST_CUTS" 7) rfl)
  have T : ThTxt K (He.ga K "Thresholds") := ⟨He.cls_ok (cd.fact 38 (f := .cls "Thresholds") rfl), He.noat_ok (cd.fact 39 (f := .noat "Thresholds" "low") rfl), He.noat_ok (cd.fact 40 (f := .noat "Thresholds" "high") rfl), He.noat_ok (cd.fact 41 (f := .noat "Thresholds" "cuts") rfl), He.noat_ok (cd.fact 42 (f := .noat "Thresholds" "shares") rfl)⟩
  have mk := He.mkr_ok (cd.fact 43 (f := .mkr "Thresholds") rfl)
  have mS := He.meth_ok (cd.fact 44 (f := .meth "Thresholds" "start") rfl)
  have mE := He.meth_ok (cd.fact 45 (f := .meth "Thresholds" "end") rfl)
  have mG := He.meth_ok (cd.fact 46 (f := .meth "Thresholds" "gain") rfl)
  have mL := He.meth_ok (cd.fact 47 (f := .meth "Thresholds" "lie") rfl)
  have mI := He.meth_ok (cd.fact 48 (f := .meth "Thresholds" "gaining") rfl)
  have te := He.exm_ok (cd.fact 50 (f := .exm "InvalidThresholds" "InvalidThresholds" true) rfl)
  have gcd_ : mg "gcd" = some (.builtin "math.gcd") := PySem.W.mg_of X G (He.eqO_ok x8)
  have tZ : ∀ H, SqT K H (He.ga K "ZERO") [.int 0, .int 1] := He.tupB_ok x9
  have TI : InvTxt K mg (He.ga K "InvalidThresholds") (He.ma K (He.ga K "InvalidThresholds") "__init__") fd8 :=
    ⟨⟨oexB_ok x1, He.eqO_ok x2, of_decide_eq_true x3, of_decide_eq_true x4, x5⟩, He.noat_ok (cd.fact 49 (f := .noat "InvalidThresholds" "reason") rfl), He.eqO_ok x6, of_decide_eq_true x7, glo 9 rfl, F8'.bindsN fun _ _ _ _ _ _ us hl => match us, hl with | [_, _], _ => rfl⟩
  refine ⟨fd31, fun s v => FunD.bindsA (ps := ["_law_script"]) F31' (fun _ _ _ _ _ _ us hl => match us, hl with | [_], _ => rfl) s [v] rfl, fun base _ _ => ?_⟩
  have cMake : C8.Cal P w K mg base 1 "make" (spMake K) [] := cal_mk (ok_make F0' gcd_) (glo 0 rfl) F0'.kp (b_make F0')
  have cAdd : C8.Cal P w K mg base 2 "add" (spAdd K) [] := cal_mk (ok_add F1' cMake) (glo 1 rfl) F1'.kp (F1'.bindsN fun _ _ _ _ _ _ us hl => match us, hl with | [_, _], _ => rfl)
  have cNeg : C8.Cal P w K mg base 1 "negate" (spNeg K) [] := cal_mk (ok_neg F2') (glo 2 rfl) F2'.kp (F2'.bindsN fun _ _ _ _ _ _ us hl => match us, hl with | [_], _ => rfl)
  have cSub : C8.Cal P w K mg base 3 "subtract" (spSub K) [] := cal_mk (ok_sub F3' cAdd cNeg) (glo 3 rfl) F3'.kp (F3'.bindsN fun _ _ _ _ _ _ us hl => match us, hl with | [_, _], _ => rfl)
  have cMul : C8.Cal P w K mg base 2 "multiply" (spMul K) [] := cal_mk (ok_mul F4' cMake) (glo 4 rfl) F4'.kp (F4'.bindsN fun _ _ _ _ _ _ us hl => match us, hl with | [_, _], _ => rfl)
  have cDiv : C8.Cal P w K mg base 2 "divide" (spDiv K) [] := cal_mk (ok_div F5' cMake) (glo 5 rfl) F5'.kp (F5'.bindsN fun _ _ _ _ _ _ us hl => match us, hl with | [_, _], _ => rfl)
  have cCmp : C8.Cal P w K mg base 1 "compare" (spCmp K) [] := cal_mk (ok_cmp F6' gi) (glo 6 rfl) F6'.kp (F6'.bindsN fun _ _ _ _ _ _ us hl => match us, hl with | [_, _], _ => rfl)
  have cSign : C8.Cal P w K mg base 2 "sign" (spSign K) [] := cal_mk (ok_sign F7' cCmp (glo 8 rfl) tZ) (glo 7 rfl) F7'.kp (F7'.bindsN fun _ _ _ _ _ _ us hl => match us, hl with | [_], _ => rfl)
  have oInv : FnOk P w K mg base CX0 1 _ fd8 ["self", "reason"] (spInv (He.ga K "InvalidThresholds")) := ok_inv F8' TI
  have oInit : FnOk P w K mg base CX0 2 _ fd9 ["self", "low", "high", "cuts", "shares"] (spTInit K (He.ga K "Thresholds")) := ok_tinit F9' T gl gls gz gM cCmp
  have mStart : C8.Met P w K mg base 1 (He.ga K "Thresholds") "start" (spStart K (He.ga K "Thresholds")) [] := ⟨⟨_, fd10, _, [], T.cl, mS, ok_start F10' T, F10'.bindsN fun _ _ _ _ _ _ us hl => match us, hl with | [_, _], _ => rfl, .nil⟩⟩
  have mEnd : C8.Met P w K mg base 1 (He.ga K "Thresholds") "end" (spEnd K (He.ga K "Thresholds")) [] := ⟨⟨_, fd11, _, [], T.cl, mE, ok_end F11' T gl, F11'.bindsN fun _ _ _ _ _ _ us hl => match us, hl with | [_, _], _ => rfl, .nil⟩⟩
  have mGain : C8.Met P w K mg base 4 (He.ga K "Thresholds") "gain" (spGain K (He.ga K "Thresholds")) [] := ⟨⟨_, fd12, _, [], T.cl, mG, ok_gain F12' T cSub cMul, F12'.bindsN fun _ _ _ _ _ _ us hl => match us, hl with | [_, _, _, _, _], _ => rfl, .nil⟩⟩
  have mGaining : C8.Met P w K mg base 5 (He.ga K "Thresholds") "gaining" (spGaining K (He.ga K "Thresholds")) [] := ⟨⟨_, fd14, _, [], T.cl, mI, ok_gaining F14' T cSub cDiv cAdd cSign mStart mEnd mGain, F14'.bindsN fun _ _ _ _ _ _ us hl => match us, hl with | [_, _, _, _], _ => rfl, .nil⟩⟩
  have oLie : FnOk P w K mg base (L2.CX P w) 6 _ fd13 ["self", "payments"] (spLie K (He.ga K "Thresholds") (He.ga K "InvalidThresholds")) := ok_lie F13' T TI oInv gl gr mStart mGain mGaining
  have bLie : Binds K fd13 ["self", "payments"] [] := F13'.bindsN fun _ _ _ _ _ _ us hl => match us, hl with | [_, _], _ => rfl
  have cMix : C8.Cal P w K mg base 1 "_law_mix" spMix [] := cal_mk (ok_mix F15' gi) (glo 11 rfl) F15'.kp (F15'.bindsN fun _ _ _ _ _ _ us hl => match us, hl with | [_, _], _ => rfl)
  have cNumbers : C8.Cal P w K mg base 2 "_law_numbers" (spNumbers K) [] := cal_mk (ok_numbers F16' gi gr cMix) (glo 12 rfl) F16'.kp (F16'.bindsN fun _ _ _ _ _ _ us hl => match us, hl with | [_, _], _ => rfl)
  have cTake : C8.Cal P w K mg base 1 "_law_take" spTake [] := cal_mk (ok_take F17' gi) (glo 13 rfl) F17'.kp (F17'.bindsN fun _ _ _ _ _ _ us hl => match us, hl with | [_, _], _ => rfl)
  have cLow : C8.Cal P w K mg base 1 "_law_lowest" (spLow K) [] := cal_mk (ok_low F19' gi gab gr) (glo 15 rfl) F19'.kp (F19'.bindsN fun _ _ _ _ _ _ us hl => match us, hl with | [_, _], _ => rfl)
  have cFrac : C8.Cal P w K mg base 2 "_law_fraction" (spFrac K) [] := cal_mk (ok_frac F18' cTake cLow) (glo 14 rfl) F18'.kp (F18'.bindsN fun _ _ _ _ _ _ us hl => match us, hl with | [_], _ => rfl)
  have cPlus : C8.Cal P w K mg base 2 "_law_plus" (spPlus K) [] := cal_mk (ok_plus F20' cLow) (glo 16 rfl) F20'.kp (F20'.bindsN fun _ _ _ _ _ _ us hl => match us, hl with | [_, _], _ => rfl)
  have cTimes : C8.Cal P w K mg base 2 "_law_times" (spTimes K) [] := cal_mk (ok_times F21' cLow) (glo 17 rfl) F21'.kp (F21'.bindsN fun _ _ _ _ _ _ us hl => match us, hl with | [_, _], _ => rfl)
  have cLess : C8.Cal P w K mg base 1 "_law_less" (spLess K) [] := cal_mk (ok_less F22') (glo 18 rfl) F22'.kp (F22'.bindsN fun _ _ _ _ _ _ us hl => match us, hl with | [_, _], _ => rfl)
  have cMinus : C8.Cal P w K mg base 3 "_law_minus" (spMinus K) [] := cal_mk (ok_minus F23' cPlus cTimes) (glo 19 rfl) F23'.kp (F23'.bindsN fun _ _ _ _ _ _ us hl => match us, hl with | [_, _], _ => rfl)
  have cSteps : C8.Cal P w K mg base 3 "_law_steps" (spSteps K) [] := cal_mk (ok_steps F24' gr gl cFrac cTake cLow cPlus cLess) (glo 20 rfl) F24'.kp (F24'.bindsN fun _ _ _ _ _ _ us hl => match us, hl with | [_], _ => rfl)
  have cPiece : C8.Cal P w K mg base 2 "_law_piece" (spPiece K) [] := cal_mk (ok_piece F25' gr gl cLess) (glo 21 rfl) F25'.kp (F25'.bindsN fun _ _ _ _ _ _ us hl => match us, hl with | [_, _], _ => rfl)
  have cHas : C8.Cal P w K mg base 4 "_law_has" (spHas K) [] := cal_mk (ok_has F26' cPiece cMinus cTimes) (glo 22 rfl) F26'.kp (F26'.bindsN fun _ _ _ _ _ _ us hl => match us, hl with | [_, _, _, _, _], _ => rfl)
  have cTolls : C8.Cal P w K mg base 4 "_law_tolls" (spTolls K) [] := cal_mk (ok_tolls F27' gr gl cPlus cTimes cMinus) (glo 23 rfl) F27'.kp (F27'.bindsN fun _ _ _ _ _ _ us hl => match us, hl with | [_, _], _ => rfl)
  have cRefused : C8.Cal P w K mg base 7 "_law_refused" (spRefused K (He.ga K "Thresholds")) [] := cal_mk (ok_refused F28' T (glo 9 rfl) te mL oLie bLie) (glo 24 rfl) F28'.kp (F28'.bindsN fun _ _ _ _ _ _ us hl => match us, hl with | [_, _], _ => rfl)
  have cNumIn : C8.Cal P w K mg base 4 "_law_numbers_in" (spNumIn K) [] := cal_mk (ok_numin F29' gls gr gl cPlus cTimes cMinus cLow cTake) (glo 25 rfl) F29'.kp (F29'.bindsN fun _ _ _ _ _ _ us hl => match us, hl with | [_, _], _ => rfl)
  have cRight : C8.Cal P w K mg base 5 "_law_lie_right" (spRight K) [] := cal_mk (ok_right F30' gis gt gl cLess cHas cMinus) (glo 26 rfl) F30'.kp (F30'.bindsN fun _ _ _ _ _ _ us hl => match us, hl with | [_, _, _, _], _ => rfl)
  exact ok_law F31' ⟨cNumbers, cSteps, cTolls, cLess, cFrac, cTake, cPlus, cNumIn, cHas, cRight, cRefused, T, mk, oInit, glo 10 rfl, kb_init F9', mL, oLie, bLie, gl, gr, gls, gany⟩
end
end Un

set_option Elab.async false
set_option linter.all false
set_option maxRecDepth 100000
set_option maxHeartbeats 0
/-! The top's run. -/
namespace Un
open PySem PySem.W PySem.Calls PyProof.Rows
theorem runL (w : World) : HandSHeadRun.RunEqI R (PySem.W.view R.prog [0, 37]) hkL obL 3000 namesL w := by
  unfold HandSHeadRun.RunEqI
  kernel_rfl
end Un

set_option Elab.async false
set_option linter.all false
set_option maxRecDepth 100000
open PySem PySem.W PySem.Calls PyProof.Rows
set_option maxRecDepth 100000 in
set_option maxHeartbeats 0 in
theorem PySem.Challenge.cw_unbent_k43_whole_lies_of_one_number_holds : PySem.Challenge.rw_unbent_k43_whole_lies_of_one_number.Holds := by
  w_on; o_law
  refine HandSHeadRun.head_imp (r := Un.R) (q := view Un.R.prog [0, 37]) (H := Un.hkL) (ob := Un.obL) (M := 3000) (loose := Un.namesL) (d := HandSHeadRun.topDef Un.R.prog 37) (kwd := []) Un.obL_eq
    Un.runL (by kernel_rfl) (by kernel_rfl) (by kernel_rfl) (by rfl) (by first | assumption | decide +kernel) (by decide +kernel) ⟨rfl, rfl, rfl, rfl, rfl, by decide +kernel⟩ ?hw ?hc
  case hw => w_witness2
  case hc =>
    refine L2.walk_ofE (l := PySem.Challenge.rw_unbent_k43_whole_lies_of_one_number) (n := 63) (k := 8) (x := "_law_script") (CX := L2.CX0) rfl (by decide) (by kernel_rfl) ⟨rfl, by decide, by decide⟩ ?F (fun _ _ _ _ z => z)
    intro w mg fa h Y G hmg0
    obtain ⟨K, KX, c⟩ := Y
    have hmg : mg ("law" : PySem.Str) = some (.ref fa) := by
      have e : (HandSHeadRun.topDef Un.R.prog 37).name = ("law" : PySem.Str) := by kernel_rfl
      rw [← e]
      exact hmg0
    obtain ⟨fd, hb, hF⟩ := Un.ok_all (P := (PySem.Challenge.rw_unbent_k43_whole_lies_of_one_number).prog) (w := w) KX G hmg c
    exact ⟨K, fd, Un.spLaw K, KX, hb, fun H a ns hl _ hS => ⟨a, ns, rfl, hS, hl, fun _ => rfl⟩, hF⟩
