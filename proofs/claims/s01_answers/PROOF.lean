import PyProof.Rows.All
import Wide.All
import OpenK.AllK
import Wide.FinOn
import PyProof.EqAt
import PyProof.EqKinds
import PyProof.TupleCall
import Open.SpecLaws
import KE.OsGo
import PySem.Challenge.RW_productsofall_s01_answers
import HandS.ForSpec
import HandS.Comp
import HandS.ExcInit
import HandS.ExcField
set_option Elab.async false
set_option linter.all false
set_option maxRecDepth 100000
set_option maxHeartbeats 2000000
namespace Pf

/-! ### how often a prime divides a product -/
theorem div_lt {p n f : Nat} (hp : 2 ≤ p) (hn : n < 2 ^ (f + 1)) : n / p < 2 ^ f := by
  have h1 : n / p ≤ n / 2 := Nat.div_le_div_left hp (by decide)
  have h2 : n / 2 < 2 ^ f := by rw [Nat.pow_succ] at hn; omega
  omega
theorem tO_zero (p : Nat) : ∀ f, Kp267.timesOf p f 0 = 0
  | 0 => rfl
  | f + 1 => by show (if (0 : Nat) = 0 then 0 else _) = 0; rw [if_pos rfl]
theorem tO_succ {p f n : Nat} (h : n ≠ 0) : Kp267.timesOf p (f + 1) n = n / p + Kp267.timesOf p f (n / p) := by
  show (if n = 0 then 0 else _) = _
  rw [if_neg h]
theorem tO_fuel {p : Nat} (hp : 2 ≤ p) : ∀ (f n : Nat), n < 2 ^ f → Kp267.timesOf p (f + 1) n = Kp267.timesOf p f n
  | 0, n, h => by
    have e : n = 0 := by simp at h; exact h
    subst e
    rw [tO_zero, tO_zero]
  | f + 1, n, h => by
    by_cases e : n = 0
    · subst e
      rw [tO_zero, tO_zero]
    · rw [tO_succ e, tO_succ e, tO_fuel hp f _ (div_lt hp h)]
theorem times_zero (p : Nat) : Kp267.times p 0 = 0 := tO_zero p 24
theorem times_step {p n : Nat} (hp : 2 ≤ p) (h0 : n ≠ 0) (h : n < 2 ^ 24) : Kp267.times p n = n / p + Kp267.times p (n / p) := by
  unfold Kp267.times
  rw [tO_succ h0, tO_fuel hp 23 _ (div_lt hp h)]
theorem tO_mono (p : Nat) : ∀ (f n m : Nat), n ≤ m → Kp267.timesOf p f n ≤ Kp267.timesOf p f m
  | 0, _, _, _ => Nat.le_refl _
  | f + 1, n, m, h => by
    by_cases e : n = 0
    · subst e
      rw [tO_zero]
      exact Nat.zero_le _
    · have e' : m ≠ 0 := by omega
      rw [tO_succ e, tO_succ e']
      have h1 : n / p ≤ m / p := Nat.div_le_div_right h
      exact Nat.add_le_add h1 (tO_mono p f _ _ h1)
theorem times_mono (p : Nat) {n m : Nat} (h : n ≤ m) : Kp267.times p n ≤ Kp267.times p m := tO_mono p 24 n m h
theorem tO_le {p : Nat} (hp : 2 ≤ p) : ∀ (f n : Nat), Kp267.timesOf p f n ≤ n
  | 0, _ => Nat.zero_le _
  | f + 1, n => by
    by_cases e : n = 0
    · subst e
      rw [tO_zero]
      exact Nat.zero_le _
    · rw [tO_succ e]
      have h := tO_le hp f (n / p)
      have h2 : n / p ≤ n / 2 := Nat.div_le_div_left hp (by decide)
      omega
theorem times_le {p : Nat} (hp : 2 ≤ p) (n : Nat) : Kp267.times p n ≤ n := tO_le hp 24 n

/-! ### digits -/
theorem dO_zero (p : Nat) : ∀ f, Kp266.digitsOf p f 0 = []
  | 0 => rfl
  | f + 1 => by show (if (0 : Nat) = 0 then [] else _) = []; rw [if_pos rfl]
theorem dO_succ {p f n : Nat} (h : n ≠ 0) : Kp266.digitsOf p (f + 1) n = n % p :: Kp266.digitsOf p f (n / p) := by
  show (if n = 0 then [] else _) = _
  rw [if_neg h]
theorem dO_fuel {p : Nat} (hp : 2 ≤ p) : ∀ (f n : Nat), n < 2 ^ f → Kp266.digitsOf p (f + 1) n = Kp266.digitsOf p f n
  | 0, n, h => by
    have e : n = 0 := by simp at h; exact h
    subst e
    rw [dO_zero, dO_zero]
  | f + 1, n, h => by
    by_cases e : n = 0
    · subst e
      rw [dO_zero, dO_zero]
    · rw [dO_succ e, dO_succ e, dO_fuel hp f _ (div_lt hp h)]
theorem digits_zero (p : Nat) : Kp266.digits p 0 = [] := dO_zero p 24
theorem digits_step {p n : Nat} (hp : 2 ≤ p) (h0 : n ≠ 0) (h : n < 2 ^ 24) : Kp266.digits p n = n % p :: Kp266.digits p (n / p) := by
  unfold Kp266.digits
  rw [dO_succ h0, dO_fuel hp 23 _ (div_lt hp h)]

/-! ### how often a prime divides a number -/
theorem kO_zero (p : Nat) : ∀ f, Kp266.timesOf p f 0 = 0
  | 0 => rfl
  | f + 1 => by show (if (0 : Nat) = 0 then 0 else _) = 0; rw [if_pos rfl]
theorem kO_yes {p f n : Nat} (h : n ≠ 0) (d : n % p = 0) : Kp266.timesOf p (f + 1) n = Kp266.timesOf p f (n / p) + 1 := by
  show (if n = 0 then 0 else if n % p = 0 then _ else 0) = _
  rw [if_neg h, if_pos d]
theorem kO_no {p f n : Nat} (d : n % p ≠ 0) : Kp266.timesOf p f n = 0 := by
  cases f with
  | zero => rfl
  | succ f =>
    show (if n = 0 then 0 else if n % p = 0 then _ else 0) = _
    rw [if_neg d]
    split <;> rfl
theorem kO_fuel {p : Nat} (hp : 2 ≤ p) : ∀ (f n : Nat), n < 2 ^ f → Kp266.timesOf p (f + 1) n = Kp266.timesOf p f n
  | 0, n, h => by
    have e : n = 0 := by simp at h; exact h
    subst e
    rw [kO_zero, kO_zero]
  | f + 1, n, h => by
    by_cases e : n = 0
    · subst e
      rw [kO_zero, kO_zero]
    · by_cases d : n % p = 0
      · rw [kO_yes e d, kO_yes e d, kO_fuel hp f _ (div_lt hp h)]
      · rw [kO_no d, kO_no d]
theorem in_yes {p n : Nat} (hp : 2 ≤ p) (h0 : n ≠ 0) (h : n < 2 ^ 24) (d : n % p = 0) : Kp266.times p n = Kp266.times p (n / p) + 1 := by
  unfold Kp266.times
  rw [kO_yes h0 d, kO_fuel hp 23 _ (div_lt hp h)]
theorem in_no {p n : Nat} (d : n % p ≠ 0) : Kp266.times p n = 0 := kO_no d
theorem div_pos' {p n : Nat} (h0 : n ≠ 0) (d : n % p = 0) : n / p ≠ 0 := by
  intro e
  have := Nat.div_add_mod n p
  rw [e, d] at this
  simp at this
  omega
theorem div_less {p n : Nat} (hp : 2 ≤ p) (h0 : n ≠ 0) : n / p < n := Nat.div_lt_self (by omega) (by omega)

/-! ### what is left -/
theorem small_eq (p : Nat) : ∀ d, Kp267.small p d = Kp267.prod d % p
  | 0 => rfl
  | d + 1 => by
    show (d + 1) * Kp267.small p d % p = (d + 1) * Kp267.prod d % p
    rw [small_eq p d, Nat.mul_mod, Nat.mod_mod, ← Nat.mul_mod]
/-- the products of digits, multiplied -/
def lp : List Nat → Nat
  | [] => 1
  | d :: l => Kp267.prod d * lp l
theorem fold_lp (p : Nat) : ∀ (l : List Nat) (a : Nat), a % p = a → l.foldl (fun (a d : Nat) => a * Kp267.small p d % p) a = a * lp l % p
  | [], a, h => by
    show a = a * 1 % p
    rw [Nat.mul_one, h]
  | d :: l, a, h => by
    rw [List.foldl_cons, fold_lp p l _ (Nat.mod_mod _ _), small_eq]
    show a * (Kp267.prod d % p) % p * lp l % p = a * (Kp267.prod d * lp l) % p
    rw [Nat.mod_mul_mod, ← Nat.mul_assoc, Nat.mul_mod (a * (Kp267.prod d % p)) (lp l), Nat.mul_mod a (Kp267.prod d % p), Nat.mod_mod, ← Nat.mul_mod a, ← Nat.mul_mod]
theorem less_pow {p : Nat} (hp : 2 ≤ p) : ∀ k, (p - 1) ^ k % p = if k % 2 = 0 then 1 else p - 1
  | 0 => by
    rw [if_pos rfl, Nat.pow_zero]
    exact Nat.mod_eq_of_lt (by omega)
  | k + 1 => by
    rw [Nat.pow_succ, Nat.mul_mod, less_pow hp k]
    by_cases e : k % 2 = 0
    · rw [if_pos e, if_neg (by omega), Nat.one_mul, Nat.mod_mod, Nat.mod_eq_of_lt (by omega)]
    · rw [if_neg e, if_pos (by omega), Nat.mod_eq_of_lt (show p - 1 < p by omega)]
      obtain ⟨q, rfl⟩ : ∃ q, p = q + 2 := ⟨p - 2, by omega⟩
      have : (q + 2 - 1) * (q + 2 - 1) = 1 + (q + 2) * q := by
        show (q + 1) * (q + 1) = _
        rw [Nat.add_mul, Nat.mul_add, Nat.one_mul, Nat.mul_one, Nat.add_mul]
        omega
      rw [this, Nat.add_mul_mod_self_left]
      exact Nat.mod_eq_of_lt (by omega)
theorem neg_mul {p v : Nat} (hp : 2 ≤ p) (hv : v < p) : (p - 1) * v % p = (p - v) % p := by
  cases v with
  | zero => simp
  | succ v =>
    have : (p - 1) * (v + 1) = (p - (v + 1)) + p * v := by
      obtain ⟨q, rfl⟩ : ∃ q, p = q + (v + 1) := ⟨p - (v + 1), by omega⟩
      show (q + v) * (v + 1) = _
      rw [Nat.mul_add, Nat.mul_one, show q + (v + 1) - (v + 1) = q by omega, Nat.add_mul, Nat.add_mul, Nat.add_mul, Nat.one_mul]
      omega
    rw [this, Nat.add_mul_mod_self_left]
theorem rest_eq {p n : Nat} (hp : 2 ≤ p) : (p - 1) ^ Kp267.times p n * lp (Kp266.digits p n) % p = Kp267.rest p n := by
  show _ = if Kp267.times p n % 2 = 0 then (Kp266.digits p n).foldl (fun (a d : Nat) => a * Kp267.small p d % p) (1 % p)
    else (p - (Kp266.digits p n).foldl (fun (a d : Nat) => a * Kp267.small p d % p) (1 % p)) % p
  rw [fold_lp p _ _ (Nat.mod_mod _ _), Nat.mod_mul_mod, Nat.one_mul, Nat.mul_mod, less_pow hp]
  by_cases e : Kp267.times p n % 2 = 0
  · rw [if_pos e, if_pos e, Nat.one_mul, Nat.mod_mod]
  · rw [if_neg e, if_neg e]
    exact neg_mul hp (Nat.mod_lt _ (by omega))
/-- the loop's word -/
def Left (p n₀ n found : Nat) : Prop := found < p ∧ n < 2 ^ 24 ∧ found * ((p - 1) ^ Kp267.times p n * lp (Kp266.digits p n)) % p = Kp267.rest p n₀
theorem left_start {p n : Nat} (hp : 2 ≤ p) (h : n < 2 ^ 24) : Left p n n 1 := ⟨by omega, h, by rw [Nat.one_mul]; exact rest_eq hp⟩
theorem left_end {p n₀ found : Nat} (h : Left p n₀ 0 found) : found = Kp267.rest p n₀ := by
  obtain ⟨h1, _, h3⟩ := h
  rw [times_zero, digits_zero] at h3
  show _
  have : found * ((p - 1) ^ 0 * lp []) = found := by show found * (1 * 1) = found; omega
  rw [this, Nat.mod_eq_of_lt h1] at h3
  exact h3
theorem left_turn {p n₀ n found : Nat} (hp : 2 ≤ p) (h0 : n ≠ 0) (h : Left p n₀ n found) : Left p n₀ (n / p) (found * ((p - 1) ^ (n / p) % p) % p * Kp267.prod (n % p) % p) := by
  obtain ⟨h1, h2, h3⟩ := h
  refine ⟨Nat.mod_lt _ (by omega), Nat.lt_of_le_of_lt (Nat.div_le_self _ _) h2, ?_⟩
  rw [times_step hp h0 h2, digits_step hp h0 h2, Nat.pow_add] at h3
  rw [← h3]
  generalize (p - 1) ^ (n / p) = A
  generalize (p - 1) ^ Kp267.times p (n / p) = B
  show found * (A % p) % p * Kp267.prod (n % p) % p * (B * lp (Kp266.digits p (n / p))) % p = found * (A * B * (Kp267.prod (n % p) * lp (Kp266.digits p (n / p)))) % p
  generalize lp (Kp266.digits p (n / p)) = L
  generalize Kp267.prod (n % p) = D
  have e1 : found * (A % p) * D * (B * L) = (A % p) * (found * (D * (B * L))) := by
    simp only [Nat.mul_assoc, Nat.mul_left_comm, Nat.mul_comm]
  have e2 : found * (A * B * (D * L)) = A * (found * (D * (B * L))) := by
    simp only [Nat.mul_assoc, Nat.mul_left_comm, Nat.mul_comm]
  rw [Nat.mod_mul_mod, Nat.mul_assoc (found * (A % p) % p), Nat.mod_mul_mod, ← Nat.mul_assoc (found * (A % p)), e1, Nat.mod_mul_mod, e2]

/-! ### powers -/
def Pow (p goal found base k : Nat) : Prop := found < p ∧ base < p ∧ found * base ^ k % p = goal
theorem pow_start {p b k : Nat} (hp : 2 ≤ p) (hb : b < p) : Pow p (b ^ k % p) 1 b k := ⟨by omega, hb, by rw [Nat.one_mul]⟩
theorem pow_end {p goal found base : Nat} (h : Pow p goal found base 0) : found = goal := by
  obtain ⟨h1, _, h3⟩ := h
  rw [Nat.pow_zero, Nat.mul_one, Nat.mod_eq_of_lt h1] at h3
  exact h3
theorem pow_sq (b j : Nat) : b ^ (2 * j) = (b * b) ^ j := by rw [Nat.pow_mul, Nat.pow_two]
theorem sq_mod (b j p : Nat) : (b * b % p) ^ j % p = (b * b) ^ j % p := (Nat.pow_mod (b * b) j p).symm
theorem pow_odd {p goal found base k : Nat} (hp : 2 ≤ p) (ho : k % 2 = 1) (h : Pow p goal found base k) : Pow p goal (found * base % p) (base * base % p) (k / 2) := by
  obtain ⟨h1, h2, h3⟩ := h
  refine ⟨Nat.mod_lt _ (by omega), Nat.mod_lt _ (by omega), ?_⟩
  have e : k = 2 * (k / 2) + 1 := by omega
  rw [e, Nat.pow_succ, pow_sq] at h3
  rw [Nat.mod_mul_mod, Nat.mul_mod, sq_mod, ← Nat.mul_mod, ← h3, Nat.mul_assoc, Nat.mul_comm base]
theorem pow_even {p goal found base k : Nat} (hp : 2 ≤ p) (ho : k % 2 ≠ 1) (h : Pow p goal found base k) : Pow p goal found (base * base % p) (k / 2) := by
  obtain ⟨h1, h2, h3⟩ := h
  refine ⟨h1, Nat.mod_lt _ (by omega), ?_⟩
  have e : k = 2 * (k / 2) := by omega
  rw [e, pow_sq] at h3
  rw [Nat.mul_mod, sq_mod, ← Nat.mul_mod, ← h3]

/-! ### primes -/
theorem isPrime_less {n : Nat} (h : n < 2) : Kp266.isPrime n = false := by
  have : decide (2 ≤ n) = false := decide_eq_false (by omega)
  unfold Kp266.isPrime
  rw [this] <;> rfl
theorem isPrime_two {n : Nat} (h : Kp266.isPrime n = true) : 2 ≤ n := by
  unfold Kp266.isPrime at h
  rw [Bool.and_eq_true] at h
  exact of_decide_eq_true h.1
theorem isPrime_not {n d : Nat} (h2 : 2 ≤ d) (h : d < n) (hd : n % d = 0) : Kp266.isPrime n = false := by
  cases e : Kp266.isPrime n with
  | false => rfl
  | true =>
    unfold Kp266.isPrime at e
    rw [Bool.and_eq_true, List.all_eq_true] at e
    have q := e.2 d (List.mem_range.mpr h)
    simp only [Bool.or_eq_true, decide_eq_true_eq, bne_iff_ne, ne_eq] at q
    rcases q with q | q
    · omega
    · exact absurd hd q
theorem isPrime_yes {n d : Nat} (hn : 2 ≤ n) (hd : n < d * d) (h : ∀ e, 2 ≤ e → e < d → n % e ≠ 0) : Kp266.isPrime n = true := by
  unfold Kp266.isPrime
  rw [Bool.and_eq_true, List.all_eq_true]
  refine ⟨decide_eq_true hn, fun f hf => ?_⟩
  have hf' := List.mem_range.mp hf
  simp only [Bool.or_eq_true, decide_eq_true_eq, bne_iff_ne, ne_eq]
  by_cases h2 : f < 2
  · exact .inl h2
  · refine .inr fun hz => ?_
    by_cases hlt : f < d
    · exact h f (by omega) hlt hz
    · have e1 := Nat.div_add_mod n f
      rw [hz, Nat.add_zero] at e1
      have hg0 : n / f ≠ 0 := by
        intro z
        rw [z, Nat.mul_zero] at e1
        omega
      have hg1 : n / f ≠ 1 := by
        intro z
        rw [z, Nat.mul_one] at e1
        omega
      have hgd : n / f < d := by
        refine Nat.lt_of_not_le fun hle => ?_
        have : d * d ≤ f * (n / f) := Nat.mul_le_mul (by omega) hle
        omega
      have hg2 : 2 ≤ n / f := by
        generalize n / f = g at hg0 hg1
        omega
      refine h (n / f) hg2 hgd ?_
      rw [← e1]
      have : f * (n / f) / f = n / f := Nat.mul_div_cancel_left _ (by omega)
      rw [this]
      exact Nat.mul_mod_left _ _
theorem okP_lt {p : Nat} (h : Kp266.okP p = true) : p < 100 ∧ 2 ≤ p := by
  unfold Kp266.okP at h
  rw [Bool.and_eq_true] at h
  exact ⟨of_decide_eq_true h.1, isPrime_two h.2⟩
theorem wilson_all : ∀ p, p < 100 → Kp266.okP p = true → Kp267.prod (p - 1) % p = p - 1 := by decide +kernel
theorem wilson {p : Nat} (h : Kp266.okP p = true) : Kp267.prod (p - 1) % p = p - 1 := wilson_all p (okP_lt h).1 h
/-! ### lists of primes -/
def upTo (m : Nat) : List Nat := (List.range m).filter Kp266.isPrime
theorem primes_upTo (n : Nat) : Kp267.primes n = upTo (n + 1) := rfl
theorem upTo_less {m : Nat} (h : m ≤ 2) : upTo m = [] := by
  match m, h with
  | 0, _ => rfl
  | 1, _ => decide
  | 2, _ => decide
theorem upTo_yes {m : Nat} (h : Kp266.isPrime m = true) : upTo (m + 1) = upTo m ++ [m] := by
  unfold upTo
  rw [List.range_succ, List.filter_append]
  simp [List.filter, h]
theorem upTo_no {m : Nat} (h : Kp266.isPrime m = false) : upTo (m + 1) = upTo m := by
  unfold upTo
  rw [List.range_succ, List.filter_append]
  simp [List.filter, h]
theorem upTo_mem {m q : Nat} (h : q ∈ upTo m) : 2 ≤ q ∧ q < m := by
  unfold upTo at h
  rw [List.mem_filter, List.mem_range] at h
  exact ⟨isPrime_two h.2, h.1⟩
theorem upTo_len (m : Nat) : (upTo m).length ≤ m := by
  have := List.length_filter_le Kp266.isPrime (List.range m)
  rw [List.length_range] at this
  exact this
theorem primes_mem {n q : Nat} (h : q ∈ Kp267.primes n) : 2 ≤ q ∧ q ≤ n := by
  have := upTo_mem (m := n + 1) h
  omega
theorem primes_len (n : Nat) : (Kp267.primes n).length ≤ n + 1 := upTo_len _
/-! ### parts -/
theorem parts_eq (b : Nat) : Kp267.parts b = ((Kp267.primes b).filter fun q => b % q == 0).map fun q => (q, Kp266.times q b) := by
  unfold Kp267.parts Kp267.primes
  rw [List.filter_filter]
  congr 1
  apply List.filter_congr
  intro q _
  rw [Bool.and_comm]
theorem parts_ok : ∀ b, b < 101 → 2 ≤ b → Kp267.parts b ≠ [] ∧ ∀ z ∈ Kp267.parts b, 2 ≤ z.1 ∧ z.1 ≤ 100 ∧ 1 ≤ z.2 ∧ z.2 ≤ 100 := by decide +kernel
theorem min_is {l : List Nat} {m : Nat} : ∀ {a : Nat}, (m = a ∨ m ∈ l) → m ≤ a → (∀ y ∈ l, m ≤ y) → l.foldl (fun (m v : Nat) => min m v) a = m := by
  induction l with
  | nil =>
    intro a h1 h2 h3
    rcases h1 with h1 | h1
    · exact h1.symm
    · cases h1
  | cons x l ih =>
    intro a h1 h2 h3
    rw [List.foldl_cons]
    have hx := h3 x List.mem_cons_self
    refine ih ?_ (by omega) fun y hy => h3 y (List.mem_cons_of_mem _ hy)
    rcases h1 with h1 | h1
    · left
      omega
    · rcases List.mem_cons.mp h1 with h1 | h1
      · left
        omega
      · exact .inr h1
theorem noughts_is {b n m : Nat} (h1 : m ∈ (Kp267.parts b).map fun z => Kp267.times z.1 n / z.2) (h2 : ∀ y ∈ (Kp267.parts b).map (fun z => Kp267.times z.1 n / z.2), m ≤ y) : Kp267.noughts b n = m := by
  unfold Kp267.noughts
  generalize (Kp267.parts b).map (fun z => Kp267.times z.1 n / z.2) = l at h1 h2
  cases l with
  | nil => cases h1
  | cons a l =>
    refine min_is ?_ (h2 a List.mem_cons_self) fun y hy => h2 y (List.mem_cons_of_mem _ hy)
    rcases List.mem_cons.mp h1 with h | h
    · exact .inl h
    · exact .inr h
/-! ### the least -/
theorem least_some {p k i : Nat} (hi : i < 700) (h : k ≤ Kp267.times p i) (hn : ∀ m, m < i → ¬ k ≤ Kp267.times p m) : Kp267.least p k = some i := by
  unfold Kp267.least
  rw [List.find?_range_eq_some]
  refine ⟨by simpa using h, by simpa using hi, fun j hj => ?_⟩
  have := hn j hj
  simpa using this
theorem least_none {p k : Nat} (hn : ∀ m, m < 700 → ¬ k ≤ Kp267.times p m) : Kp267.least p k = none := by
  unfold Kp267.least
  rw [List.find?_range_eq_none]
  intro j hj
  have := hn j hj
  simpa using this
end Pf

namespace Pf
open Kp267 (Call)
/-! ### calls as they stand in a row of whole numbers -/
def code : Call → Nat
  | .begin_ _ => 0
  | .prime _ => 1
  | .prod _ => 2
  | .times _ => 3
  | .rest _ => 4
  | .least _ => 5
  | .noughts _ _ => 6
  | .span _ _ => 7
  | .gaps _ => 8
  | .square _ => 9
  | .twice _ _ => 10
  | .parts _ => 11
  | .jumps _ => 12
  | .told => 13
def nums : Call → List Nat
  | .begin_ p => [p]
  | .prime p => [p]
  | .prod n => [n]
  | .times n => [n]
  | .rest n => [n]
  | .least k => [k]
  | .noughts b n => [b, n]
  | .span a b => [a, b]
  | .gaps n => [n]
  | .square n => [n]
  | .twice n m => [n, m]
  | .parts b => [b]
  | .jumps n => [n]
  | .told => []
def flat (c : Call) : List Int := (code c : Int) :: (nums c).map fun (n : Nat) => (n : Int)
def flats (cs : List Call) : List Int := cs.flatMap flat
theorem call_flat (c : Call) : Kp267Neutral.callOf [flat c] = some c := by cases c <;> rfl
theorem whole_same (c : List (List Int)) : PyKp267.whole c = c := by
  unfold PyKp267.whole
  split <;> rfl
theorem nat_of {a : Int} (h : Kp267Neutral.natural a = true) : ∃ n : Nat, a = (n : Int) := by
  unfold Kp267Neutral.natural at h
  rw [Bool.and_eq_true] at h
  exact ⟨a.toNat, by have := of_decide_eq_true h.1; omega⟩
theorem shape_is {p : Int} {n k : Nat} (h : PyKp267.shape p = some (n, k)) : k = 0 ∧ (p = 0 ∧ n = 1 ∨ p = 1 ∧ n = 1 ∨ p = 2 ∧ n = 1 ∨ p = 3 ∧ n = 1 ∨ p = 4 ∧ n = 1 ∨ p = 5 ∧ n = 1 ∨ p = 6 ∧ n = 2 ∨ p = 7 ∧ n = 2 ∨ p = 8 ∧ n = 1 ∨ p = 9 ∧ n = 1 ∨ p = 10 ∧ n = 2 ∨ p = 11 ∧ n = 1 ∨ p = 12 ∧ n = 1 ∨ p = 13 ∧ n = 0) := by
  unfold PyKp267.shape at h
  by_cases h0 : p = 0
  · rw [if_pos h0] at h
    injection h with h
    injection h with h1 h2
    subst h1
    subst h2
    exact ⟨rfl, Or.inl ⟨h0, rfl⟩⟩
  rw [if_neg h0] at h
  by_cases h1 : p = 1
  · rw [if_pos h1] at h
    injection h with h
    injection h with h1 h2
    subst h1
    subst h2
    exact ⟨rfl, Or.inr (Or.inl ⟨h1, rfl⟩)⟩
  rw [if_neg h1] at h
  by_cases h2 : p = 2
  · rw [if_pos h2] at h
    injection h with h
    injection h with h1 h2
    subst h1
    subst h2
    exact ⟨rfl, Or.inr (Or.inr (Or.inl ⟨h2, rfl⟩))⟩
  rw [if_neg h2] at h
  by_cases h3 : p = 3
  · rw [if_pos h3] at h
    injection h with h
    injection h with h1 h2
    subst h1
    subst h2
    exact ⟨rfl, Or.inr (Or.inr (Or.inr (Or.inl ⟨h3, rfl⟩)))⟩
  rw [if_neg h3] at h
  by_cases h4 : p = 4
  · rw [if_pos h4] at h
    injection h with h
    injection h with h1 h2
    subst h1
    subst h2
    exact ⟨rfl, Or.inr (Or.inr (Or.inr (Or.inr (Or.inl ⟨h4, rfl⟩))))⟩
  rw [if_neg h4] at h
  by_cases h5 : p = 5
  · rw [if_pos h5] at h
    injection h with h
    injection h with h1 h2
    subst h1
    subst h2
    exact ⟨rfl, Or.inr (Or.inr (Or.inr (Or.inr (Or.inr (Or.inl ⟨h5, rfl⟩)))))⟩
  rw [if_neg h5] at h
  by_cases h6 : p = 6
  · rw [if_pos h6] at h
    injection h with h
    injection h with h1 h2
    subst h1
    subst h2
    exact ⟨rfl, Or.inr (Or.inr (Or.inr (Or.inr (Or.inr (Or.inr (Or.inl ⟨h6, rfl⟩))))))⟩
  rw [if_neg h6] at h
  by_cases h7 : p = 7
  · rw [if_pos h7] at h
    injection h with h
    injection h with h1 h2
    subst h1
    subst h2
    exact ⟨rfl, Or.inr (Or.inr (Or.inr (Or.inr (Or.inr (Or.inr (Or.inr (Or.inl ⟨h7, rfl⟩)))))))⟩
  rw [if_neg h7] at h
  by_cases h8 : p = 8
  · rw [if_pos h8] at h
    injection h with h
    injection h with h1 h2
    subst h1
    subst h2
    exact ⟨rfl, Or.inr (Or.inr (Or.inr (Or.inr (Or.inr (Or.inr (Or.inr (Or.inr (Or.inl ⟨h8, rfl⟩))))))))⟩
  rw [if_neg h8] at h
  by_cases h9 : p = 9
  · rw [if_pos h9] at h
    injection h with h
    injection h with h1 h2
    subst h1
    subst h2
    exact ⟨rfl, Or.inr (Or.inr (Or.inr (Or.inr (Or.inr (Or.inr (Or.inr (Or.inr (Or.inr (Or.inl ⟨h9, rfl⟩)))))))))⟩
  rw [if_neg h9] at h
  by_cases h10 : p = 10
  · rw [if_pos h10] at h
    injection h with h
    injection h with h1 h2
    subst h1
    subst h2
    exact ⟨rfl, Or.inr (Or.inr (Or.inr (Or.inr (Or.inr (Or.inr (Or.inr (Or.inr (Or.inr (Or.inr (Or.inl ⟨h10, rfl⟩))))))))))⟩
  rw [if_neg h10] at h
  by_cases h11 : p = 11
  · rw [if_pos h11] at h
    injection h with h
    injection h with h1 h2
    subst h1
    subst h2
    exact ⟨rfl, Or.inr (Or.inr (Or.inr (Or.inr (Or.inr (Or.inr (Or.inr (Or.inr (Or.inr (Or.inr (Or.inr (Or.inl ⟨h11, rfl⟩)))))))))))⟩
  rw [if_neg h11] at h
  by_cases h12 : p = 12
  · rw [if_pos h12] at h
    injection h with h
    injection h with h1 h2
    subst h1
    subst h2
    exact ⟨rfl, Or.inr (Or.inr (Or.inr (Or.inr (Or.inr (Or.inr (Or.inr (Or.inr (Or.inr (Or.inr (Or.inr (Or.inr (Or.inl ⟨h12, rfl⟩))))))))))))⟩
  rw [if_neg h12] at h
  by_cases h13 : p = 13
  · rw [if_pos h13] at h
    injection h with h
    injection h with h1 h2
    subst h1
    subst h2
    exact ⟨rfl, Or.inr (Or.inr (Or.inr (Or.inr (Or.inr (Or.inr (Or.inr (Or.inr (Or.inr (Or.inr (Or.inr (Or.inr (Or.inr (⟨h13, rfl⟩)))))))))))))⟩
  rw [if_neg h13] at h
  cases h
theorem one_of {r : List Int} (h : ¬ r.length < 1) : ∃ a t, r = a :: t := by
  cases r with
  | nil => exact absurd (by decide : ([] : List Int).length < 1) h
  | cons a t => exact ⟨a, t, rfl⟩
theorem two_of {r : List Int} (h : ¬ r.length < 2) : ∃ a b t, r = a :: b :: t := by
  match r, h with
  | a :: b :: t, _ => exact ⟨a, b, t, rfl⟩
  | [a], h => exact absurd (by simp : ([a] : List Int).length < 2) h
  | [], h => exact absurd (by simp : ([] : List Int).length < 2) h
theorem first_call {p : Int} {r t : List Int} {c : List (List Int)} (h : PyFlat.call PyKp267.shape (p :: r) = some (c, t)) (ha : Kp267Neutral.asked1 c = true) : ∃ x : Call, c = [flat x] ∧ p :: r = flat x ++ t := by
  unfold PyFlat.call at h
  cases e : PyKp267.shape p with
  | none => simp [e] at h
  | some nk =>
    obtain ⟨n, k⟩ := nk
    simp only [e] at h
    obtain ⟨rfl, q⟩ := shape_is e
    by_cases hl : r.length < n
    · rw [if_pos hl] at h
      cases h
    · rw [if_neg hl] at h
      have h' : some ((p :: r.take n) :: [], r.drop n) = some (c, t) := h
      injection h' with h'
      injection h' with h1 h2
      subst h1
      subst h2
      rcases q with q | q | q | q | q | q | q | q | q | q | q | q | q | q <;> obtain ⟨rfl, rfl⟩ := q
      all_goals first
        | exact ⟨.told, rfl, rfl⟩
        | (obtain ⟨a, b, t, rfl⟩ := two_of hl
           have ha' : (Kp267Neutral.natural a && Kp267Neutral.natural b) = true := ha
           rw [Bool.and_eq_true] at ha'
           obtain ⟨x, rfl⟩ := nat_of ha'.1
           obtain ⟨y, rfl⟩ := nat_of ha'.2
           first
           | exact ⟨.noughts x y, rfl, rfl⟩
           | exact ⟨.span x y, rfl, rfl⟩
           | exact ⟨.twice x y, rfl, rfl⟩)
        | (obtain ⟨a, t, rfl⟩ := one_of hl
           have ha' : Kp267Neutral.natural a = true := ha
           obtain ⟨x, rfl⟩ := nat_of ha'
           first
           | exact ⟨.begin_ x, rfl, rfl⟩
           | exact ⟨.prime x, rfl, rfl⟩
           | exact ⟨.prod x, rfl, rfl⟩
           | exact ⟨.times x, rfl, rfl⟩
           | exact ⟨.rest x, rfl, rfl⟩
           | exact ⟨.least x, rfl, rfl⟩
           | exact ⟨.gaps x, rfl, rfl⟩
           | exact ⟨.square x, rfl, rfl⟩
           | exact ⟨.parts x, rfl, rfl⟩
           | exact ⟨.jumps x, rfl, rfl⟩)
theorem parse : ∀ (f : Nat) (l : List Int) (raw : List (List (List Int))), PyFlat.calls PyKp267.shape f l = some raw → (raw.all Kp267Neutral.asked1) = true → ∃ cs : List Call, l = flats cs ∧ raw = cs.map fun c => [flat c]
  | f, [], raw, h, _ => by
    have h' : some ([] : List (List (List Int))) = some raw := by
      rw [← h]
      cases f <;> rfl
    injection h' with h'
    subst h'
    exact ⟨[], rfl, rfl⟩
  | 0, p :: r, raw, h, _ => by cases h
  | f + 1, p :: r, raw, h, ha => by
    unfold PyFlat.calls at h
    cases e : PyFlat.call PyKp267.shape (p :: r) with
    | none => simp [e] at h
    | some ct =>
      obtain ⟨c, t⟩ := ct
      simp only [e] at h
      cases e2 : PyFlat.calls PyKp267.shape f t with
      | none => simp [e2] at h
      | some cs =>
        simp only [e2] at h
        injection h with h
        subst h
        rw [List.all_cons, Bool.and_eq_true] at ha
        obtain ⟨x, hc, hl⟩ := first_call e ha.1
        obtain ⟨ys, ht, hr⟩ := parse f t cs e2 ha.2
        refine ⟨x :: ys, ?_, ?_⟩
        · rw [hl, ht]
          rfl
        · rw [hc, hr]
          rfl
/-! ### played -/
def out (s : Kp267.State) (c : Call) : List Int := (Kp267.step s c).2.num :: (Kp267.step s c).2.nums
def after (s : Kp267.State) (cs : List Call) : Kp267.State := cs.foldl (fun s c => (Kp267.step s c).1) s
def outs : Kp267.State → List Call → List (List Int)
  | _, [] => []
  | s, c :: r => out s c :: outs (Kp267.step s c).1 r
/-- all that is answered, in one row -/
def said (s : Kp267.State) (cs : List Call) : List Int := PyFlat.told (outs s cs)
theorem outs_append : ∀ (a b : List Call) (s : Kp267.State), outs s (a ++ b) = outs s a ++ outs (after s a) b
  | [], _, _ => rfl
  | c :: a, b, s => by
    show out s c :: outs (Kp267.step s c).1 (a ++ b) = _
    rw [outs_append a b]
    rfl
theorem said_append (a b : List Call) (s : Kp267.State) : said s (a ++ b) = said s a ++ said (after s a) b := by
  unfold said
  rw [outs_append]
  unfold PyFlat.told
  rw [List.flatMap_append]
theorem said_one (s : Kp267.State) (c : Call) : said s [c] = ((out s c).length : Int) :: out s c := by
  show List.flatMap _ [out s c] = _
  simp
theorem after_append (a b : List Call) (s : Kp267.State) : after s (a ++ b) = after (after s a) b := List.foldl_append
theorem step_flat (s : Kp267.State) (c : Call) : Kp267Neutral.step s [flat c] = ((Kp267.step s c).1, out s c) := by
  unfold Kp267Neutral.step
  rw [call_flat]
  rfl
theorem played_is : ∀ (cs : List Call) (s : Kp267.State), PyFlat.played Kp267Neutral.step s (cs.map fun c => [flat c]) = outs s cs
  | [], _ => rfl
  | c :: cs, s => by
    show (Kp267Neutral.step s [flat c]).2 :: PyFlat.played Kp267Neutral.step (Kp267Neutral.step s [flat c]).1 (cs.map fun c => [flat c]) = _
    rw [step_flat, played_is cs]
    rfl
/-- what is asked, and what is due -/
theorem asked_is {l : List Int} (h : PyKp267.answers_asked l = true) : ∃ cs : List Call, l = flats cs ∧ PyKp267.answers l = said none cs ∧ (said none cs).length ≤ 10000000 := by
  unfold PyKp267.answers_asked at h
  cases e : PyFlat.calls PyKp267.shape l.length l with
  | none => simp [e] at h
  | some raw =>
    simp only [e] at h
    have hw : raw.map PyKp267.whole = raw := by
      have : PyKp267.whole = id := by
        funext c
        exact whole_same c
      rw [this, List.map_id]
    rw [hw] at h
    simp only [Bool.and_eq_true] at h
    obtain ⟨⟨⟨⟨_, _⟩, _⟩, h4⟩, h5⟩ := h
    unfold Kp267Neutral.asked at h4
    simp only [Bool.and_eq_true] at h4
    obtain ⟨cs, hl, hr⟩ := parse _ _ _ e h4.2.2
    have hans : PyKp267.answers l = said none cs := by
      unfold PyKp267.answers PyKp267.calls
      simp only [e]
      rw [hw, hr]
      show PyFlat.told (PyFlat.played Kp267Neutral.step none _) = _
      rw [played_is]
      rfl
    refine ⟨cs, hl, hans, ?_⟩
    rw [← hans]
    exact of_decide_eq_true h5
/-! ### the prime that is kept is one -/
def Good (s : Kp267.State) : Prop := ∀ p, s = some p → Kp266.okP p = true
theorem good_none : Good none := fun p h => by cases h
theorem good_step {s : Kp267.State} (h : Good s) (c : Call) : Good (Kp267.step s c).1 := by
  intro q hq
  cases c with
  | begin_ p =>
    have hq' : (if Kp266.okP p then (some p, Kp267.say (p : Int)) else (s, Kp267.say (-22))).1 = some q := hq
    by_cases e : Kp266.okP p = true
    · rw [if_pos e] at hq'
      injection hq' with hq'
      subst hq'
      exact e
    · rw [if_neg e] at hq'
      exact h q hq'
  | prime p =>
    cases s with
    | none => cases hq
    | some p0 =>
      have hq' : (if Kp266.okP p then (some p, Kp267.say (p0 : Int)) else (some p0, Kp267.say (-22))).1 = some q := hq
      by_cases e : Kp266.okP p = true
      · rw [if_pos e] at hq'
        injection hq' with hq'
        subst hq'
        exact e
      · rw [if_neg e] at hq'
        exact h q hq'
  | _ =>
    cases s with
    | none => cases hq
    | some p0 => exact h q hq
theorem good_after : ∀ (cs : List Call) (s : Kp267.State), Good s → Good (after s cs)
  | [], _, h => h
  | c :: cs, s, h => good_after cs _ (good_step h c)
/-! ### a row of calls, from one of them on -/
theorem flat_len (c : Call) : (flat c).length = (nums c).length + 1 := by unfold flat; rw [List.length_cons, List.length_map]
theorem flats_append (a b : List Call) : flats (a ++ b) = flats a ++ flats b := List.flatMap_append
theorem flats_cons (c : Call) (b : List Call) : flats (c :: b) = flat c ++ flats b := List.flatMap_cons
theorem row_at (a : List Call) (c : Call) (b : List Call) : (flats (a ++ c :: b))[(flats a).length]? = some (code c : Int) := by
  rw [flats_append, flats_cons, List.getElem?_append_right (Nat.le_refl _), Nat.sub_self]
  rfl
theorem row_len (a : List Call) (c : Call) (b : List Call) : (flats (a ++ c :: b)).length = (flats a).length + ((nums c).length + 1) + (flats b).length := by
  rw [flats_append, flats_cons, List.length_append, List.length_append, flat_len]
  omega
theorem row_nums (a : List Call) (c : Call) (b : List Call) : ((flats (a ++ c :: b)).drop ((flats a).length + 1)).take (nums c).length = (nums c).map fun (n : Nat) => (n : Int) := by
  rw [flats_append, flats_cons, ← List.drop_drop, List.drop_append]
  show (((flats a).drop (flats a).length ++ (flat c ++ flats b).drop ((flats a).length - (flats a).length)).drop 1).take _ = _
  rw [List.drop_length, Nat.sub_self, List.nil_append, List.drop_zero]
  show (((nums c).map fun (n : Nat) => (n : Int)) ++ flats b).take _ = _
  rw [List.take_append_of_le_length (by rw [List.length_map]; exact Nat.le_refl _)]
  exact List.take_of_length_le (by rw [List.length_map]; exact Nat.le_refl _)
theorem row_next (a : List Call) (c : Call) : (flats (a ++ [c])).length = (flats a).length + 1 + (nums c).length := by
  rw [flats_append, List.length_append]
  show _ + (flat c ++ []).length = _
  rw [List.append_nil, flat_len]
  omega
end Pf

namespace Pf
open PySem PySem.Spec PyProof.Rows L2
/-! ### the text by places -/
def top (i : Nat) : Stmt := PySem.Challenge.pw_productsofall_s01_answers.main.body.getD i (.Pass ⟨0, 0, 0, 0⟩)
abbrev sProd : Stmt := top 4
abbrev sOften : Stmt := top 5
abbrev sPow : Stmt := top 6
abbrev sRest : Stmt := top 7
abbrev sLeast : Stmt := top 8
abbrev sIsP : Stmt := top 11
abbrev sIn : Stmt := top 13
theorem if_true_of {c : Bool} {A B : Prop} (hc : c = true) (h : A) : if c = true then A else B := by
  rw [if_pos hc]
  exact h
theorem if_false_of {c : Bool} {A B : Prop} (hc : c = false) (h : B) : if c = true then A else B := by
  rw [hc, if_neg Bool.false_ne_true]
  exact h
theorem if_dec {c : Prop} [Decidable c] {A B : Prop} (h1 : c → A) (h2 : ¬ c → B) : if decide c = true then A else B := by
  by_cases h : c
  · exact if_true_of (decide_eq_true h) (h1 h)
  · exact if_false_of (decide_eq_false h) (h2 h)
/-- a test of two ints by == -/
theorem if_eq {i j : Int} {A B : Prop} (h1 : i = j → A) (h2 : ¬ i = j → B) : if decide (V.int i = V.int j) = true then A else B :=
  if_dec (fun c => h1 (V.int.inj c)) fun c => h2 fun e => c (congrArg V.int e)
/-- a def of the text: where it stands, its name, how it is called -/
structure Df (K : PySem.W.Frag) (mg : Str → Option Value) (x : Str) (st : Stmt) (ps : List Str) (f : Addr) (fd : FuncData) : Prop where
  F : Fun K x x st f fd
  g : mg x = some (.ref f)
  b : Binds K fd ps []
/-! ### promises -/
def spProd : Sp := fun vs H Q _ => ∃ (z : Int) (n : Nat), vs = [.int z] ∧ z = (n : Int) ∧ n ≤ 1000 ∧ Q (.int ((Kp267.prod n : Nat) : Int)) H
def spOften : Sp := fun vs H Q _ => ∃ (y z : Int) (p n : Nat), vs = [.int y, .int z] ∧ y = (p : Int) ∧ z = (n : Int) ∧ 2 ≤ p ∧ p ≤ 1000 ∧ n < 2 ^ 24 ∧ Q (.int ((Kp267.times p n : Nat) : Int)) H
def spPow : Sp := fun vs H Q _ => ∃ (x y z : Int) (b k p : Nat), vs = [.int x, .int y, .int z] ∧ x = (b : Int) ∧ y = (k : Int) ∧ z = (p : Int) ∧ 2 ≤ p ∧ p ≤ 1000 ∧ b < p ∧ Q (.int ((b ^ k % p : Nat) : Int)) H
def spRest : Sp := fun vs H Q _ => ∃ (y z : Int) (p n : Nat), vs = [.int y, .int z] ∧ y = (p : Int) ∧ z = (n : Int) ∧ Kp266.okP p = true ∧ n < 2 ^ 24 ∧ Q (.int ((Kp267.rest p n : Nat) : Int)) H
def lv : Option Nat → V
  | none => .non
  | some n => .int (n : Int)
def spLeast : Sp := fun vs H Q _ => ∃ (y z : Int) (p k : Nat), vs = [.int y, .int z, .int 699] ∧ y = (p : Int) ∧ z = (k : Int) ∧ 2 ≤ p ∧ p ≤ 1000 ∧ Q (lv (Kp267.least p k)) H
def spIsP : Sp := fun vs H Q _ => ∃ (z : Int) (n : Nat), vs = [.int z] ∧ z = (n : Int) ∧ n ≤ 1000 ∧ Q (.bl (Kp266.isPrime n)) H
def spIn : Sp := fun vs H Q _ => ∃ (y z : Int) (n p : Nat), vs = [.int y, .int z] ∧ y = (n : Int) ∧ z = (p : Int) ∧ n ≠ 0 ∧ n ≤ 1000 ∧ 2 ≤ p ∧ p ≤ 1000 ∧ Q (.int ((Kp266.times p n : Nat) : Int)) H
section
variable {P : Program} {w : World} {K : PySem.W.Frag} {mg : Str → Option Value} {base : Heap}
theorem scProd : FnScope ["number", "found", "factor"] ["number"] (defScope sProd) := ⟨rfl, rfl, rfl, by decide +kernel, rfl, by decide +kernel, by decide +kernel⟩
theorem ok_prod {f : Addr} {fd : FuncData} (D : Df K mg "product_of" sProd ["number"] f fd) (hrange : mg "range" = none) : FnOk P w K mg base CX0 1 f fd ["number"] spProd := by
  refine D.F.ok scProd (fun vs H Q E h => ?_) (fun cdv A outer s H vs Q E hr h => ?_)
  · obtain ⟨z, n, rfl, _⟩ := h
    rfl
  · obtain ⟨z, n, rfl, rfl, hn, k⟩ := h
    refine ⟨_, pss_cons (ps_set (i := 1) scProd.nd rfl (Or.inl rfl) pe_int) (pss_cons
      (ps_for PassesOwn.never rfl (pi_range2 (by rfl) hrange (pa_cons pe_int (pa_cons (pe_op op_add (pv 0) pe_int) pa_nil))) (pg_name (i := 2) scProd.nd rfl (Or.inl rfl))
        (pss_one (ps_set (i := 1) scProd.nd rfl (Or.inl rfl) (pe_op op_mul (pv 1) (pv 2)))))
      (pss_one (ps_ret (pv 1)))), ?_⟩
    refine ⟨_, rfl, _, _, rfl, rfl, 2, (n : Int) + 1, rfl, by omega, for_range (lo := 2) (n := ((n : Int) + 1 - 2).toNat)
      (fun i σ H' => H' = H ∧ ∃ v : Option V, σ = [some (.int (n : Int)), some (.int ((Kp267.prod (i + 1) : Nat) : Int)), v]) ⟨rfl, none, rfl⟩ ?_ ?_⟩
    · rintro i σ H' hi ⟨rfl, v, rfl⟩
      refine ⟨_, rfl, _, rfl, _, _, rfl, rfl, .inr (by omega), ?_⟩
      refine ⟨rfl, some (.int (2 + (i : Int))), ?_⟩
      have e : ((Kp267.prod (i + 1) : Nat) : Int) * (2 + (i : Int)) = ((Kp267.prod (i + 1 + 1) : Nat) : Int) := by
        show _ = (((i + 1 + 1) * Kp267.prod (i + 1) : Nat) : Int)
        rw [Int.natCast_mul, Int.mul_comm]
        congr 1
        omega
      rw [← e]
      rfl
    · rintro σ H' ⟨rfl, v, rfl⟩
      refine ⟨_, rfl, ?_⟩
      have e : Kp267.prod (((n : Int) + 1 - 2).toNat + 1) = Kp267.prod n := by
        cases n with
        | zero => rfl
        | succ n =>
          congr 1
          omega
      show Q (.int ((Kp267.prod (((n : Int) + 1 - 2).toNat + 1) : Nat) : Int)) H'
      rw [e]
      exact k
theorem scOften : FnScope ["prime", "number", "times"] ["prime", "number"] (defScope sOften) := ⟨rfl, rfl, rfl, by decide +kernel, rfl, by decide +kernel, by decide +kernel⟩
theorem ok_often {f : Addr} {fd : FuncData} (D : Df K mg "often" sOften ["prime", "number"] f fd) : FnOk P w K mg base CX0 1 f fd ["prime", "number"] spOften := by
  refine D.F.ok scOften (fun vs H Q E h => ?_) (fun cdv A outer s H vs Q E hr h => ?_)
  · obtain ⟨y, z, p, n, rfl, _⟩ := h
    rfl
  · obtain ⟨y, z, p, n, rfl, rfl, rfl, hp, hp2, hn, k⟩ := h
    refine ⟨_, pss_cons (ps_set (i := 2) scOften.nd rfl (Or.inl rfl) pe_int) (pss_cons
      (ps_while PassesOwn.never (pt_cmpR op_gt (pv 1) pe_int (nomark _)) (pss_cons (ps_set (i := 1) scOften.nd rfl (Or.inl rfl) (pe_op op_fdiv (pv 1) (pv 0))) (pss_one (ps_set (i := 2) scOften.nd rfl (Or.inl rfl) (pe_op op_add (pv 2) (pv 1))))))
      (pss_one (ps_ret (pv 2)))), ?_⟩
    refine ⟨fun m σ H' => H' = H ∧ ∃ t : Nat, σ = [some (.int (p : Int)), some (.int (m : Int)), some (.int (t : Int))] ∧ m < 2 ^ 24 ∧ t + Kp267.times p m = Kp267.times p n, ⟨n, rfl, 0, rfl, hn, by omega⟩, ?_⟩
    rintro m σ H' ⟨rfl, t, rfl, hm, ht⟩
    refine ⟨_, rfl, _, _, rfl, rfl, _, rfl, if_dec (fun c => ?_) (fun c => ?_)⟩
    · have h0 : m ≠ 0 := by omega
      refine ⟨fun σ' H'' => H'' = H' ∧ σ' = [some (.int (p : Int)), some (.int ((m / p : Nat) : Int)), some (.int ((t + m / p : Nat) : Int))], ?_, ?_⟩
      · rintro σ' H'' ⟨rfl, rfl⟩
        refine ⟨m / p, div_less hp h0, rfl, t + m / p, rfl, Nat.lt_of_le_of_lt (Nat.div_le_self _ _) hm, ?_⟩
        rw [times_step hp h0 hm] at ht
        omega
      · refine ⟨_, rfl, _, rfl, _, _, rfl, rfl, ⟨by omega, by omega⟩, ?_⟩
        refine ⟨_, rfl, _, rfl, _, _, rfl, rfl, ?_⟩
        exact ⟨rfl, rfl⟩
    · have h0 : m = 0 := by omega
      subst h0
      rw [times_zero, Nat.add_zero] at ht
      refine ⟨_, rfl, ?_⟩
      show Q (.int (t : Int)) H'
      rw [ht]
      exact k
theorem scPow : FnScope ["base", "often_taken", "prime", "found"] ["base", "often_taken", "prime"] (defScope sPow) := ⟨rfl, rfl, rfl, by decide +kernel, rfl, by decide +kernel, by decide +kernel⟩
theorem ok_pow {f : Addr} {fd : FuncData} (D : Df K mg "power_rest" sPow ["base", "often_taken", "prime"] f fd) : FnOk P w K mg base CX0 1 f fd ["base", "often_taken", "prime"] spPow := by
  refine D.F.ok scPow (fun vs H Q E h => ?_) (fun cdv A outer s H vs Q E hr h => ?_)
  · obtain ⟨x, y, z, b, k, p, rfl, _⟩ := h
    rfl
  · obtain ⟨x, y, z, b, k, p, rfl, rfl, rfl, rfl, hp, hp2, hb, q⟩ := h
    refine ⟨_, pss_cons (ps_set (i := 3) scPow.nd rfl (Or.inl rfl) pe_int) (pss_cons
      (ps_while PassesOwn.never (pt_cmpR op_gt (pv 1) pe_int (nomark _))
        (pss_cons (ps_if (pt_cmpR op_eq (pe_op op_mod (pv 1) pe_int) pe_int (nomark _)) (pss_one (ps_set (i := 3) scPow.nd rfl (Or.inl rfl) (pe_op op_mod (pe_op op_mul (pv 3) (pv 0)) (pv 2)))) pss_nil)
        (pss_cons (ps_set (i := 0) scPow.nd rfl (Or.inl rfl) (pe_op op_mod (pe_op op_mul (pv 0) (pv 0)) (pv 2)))
        (pss_one (ps_set (i := 1) scPow.nd rfl (Or.inl rfl) (pe_op op_fdiv (pv 1) pe_int))))))
      (pss_one (ps_ret (pv 3)))), ?_⟩
    refine ⟨fun m σ H' => H' = H ∧ ∃ (g a : Nat), σ = [some (.int (g : Int)), some (.int (m : Int)), some (.int (p : Int)), some (.int (a : Int))] ∧ Pow p (b ^ k % p) a g m, ⟨k, rfl, b, 1, rfl, pow_start hp hb⟩, ?_⟩
    rintro m σ H' ⟨rfl, g, a, rfl, hw⟩
    obtain ⟨ha, hg, _⟩ := id hw
    refine ⟨_, rfl, _, _, rfl, rfl, _, rfl, if_dec (fun c => ?_) (fun c => ?_)⟩
    · have h0 : m ≠ 0 := by omega
      refine ⟨fun σ' H'' => H'' = H' ∧ ∃ (g a : Nat), σ' = [some (.int (g : Int)), some (.int ((m / 2 : Nat) : Int)), some (.int (p : Int)), some (.int (a : Int))] ∧ Pow p (b ^ k % p) a g (m / 2), ?_, ?_⟩
      · rintro σ' H'' ⟨rfl, g', a', rfl, hw'⟩
        exact ⟨m / 2, by omega, rfl, g', a', rfl, hw'⟩
      · refine ⟨_, rfl, _, _, rfl, rfl, (by show (0 : Int) < 2; decide), rfl, _, rfl, if_eq (fun c2 => ?_) (fun c2 => ?_)⟩
        · refine ⟨_, rfl, _, rfl, _, _, rfl, rfl, .inl (by omega), _, rfl, _, _, rfl, rfl, by omega, ?_⟩
          refine ⟨_, rfl, _, rfl, _, _, rfl, rfl, .inl (by omega), _, rfl, _, _, rfl, rfl, by omega, ?_⟩
          refine ⟨_, rfl, _, _, rfl, rfl, ⟨by decide, by decide⟩, ?_⟩
          exact ⟨rfl, g * g % p, a * g % p, rfl, pow_odd hp (by omega) hw⟩
        · refine ⟨_, rfl, _, rfl, _, _, rfl, rfl, .inl (by omega), _, rfl, _, _, rfl, rfl, by omega, ?_⟩
          refine ⟨_, rfl, _, _, rfl, rfl, ⟨by decide, by decide⟩, ?_⟩
          exact ⟨rfl, g * g % p, a, rfl, pow_even hp (by omega) hw⟩
    · have h0 : m = 0 := by omega
      subst h0
      refine ⟨_, rfl, ?_⟩
      show Q (.int (a : Int)) H'
      rw [pow_end hw]
      exact q
theorem scRest : FnScope ["prime", "number", "whole", "found"] ["prime", "number"] (defScope sRest) := ⟨rfl, rfl, rfl, by decide +kernel, rfl, by decide +kernel, by decide +kernel⟩
theorem ok_rest {f f1 f2 : Addr} {fd fd1 fd2 : FuncData} (D : Df K mg "rest_of" sRest ["prime", "number"] f fd) (D1 : Df K mg "product_of" sProd ["number"] f1 fd1) (D2 : Df K mg "power_rest" sPow ["base", "often_taken", "prime"] f2 fd2) (hrange : mg "range" = none) :
    FnOk P w K mg base CX0 2 f fd ["prime", "number"] spRest := by
  have G1 : FnOk P w K mg base CX0 1 f1 fd1 ["number"] spProd := ok_prod D1 hrange
  have G2 : FnOk P w K mg base CX0 1 f2 fd2 ["base", "often_taken", "prime"] spPow := ok_pow D2
  refine D.F.ok scRest (fun vs H Q E h => ?_) (fun cdv A outer s H vs Q E hr h => ?_)
  · obtain ⟨y, z, p, n, rfl, _⟩ := h
    rfl
  · obtain ⟨y, z, p, n, rfl, rfl, rfl, hp, hn, k⟩ := h
    obtain ⟨hp1, hp2⟩ := okP_lt hp
    have hwil := wilson hp
    refine ⟨_, pss_cons (ps_set (i := 2) scRest.nd rfl (Or.inl rfl) (pe_op op_mod (pe_call G1 hr rfl D1.g D1.F.kp D1.b .nil pass0 (pa_cons (pe_op op_sub (pv 0) pe_int) pa_nil)) (pv 0)))
      (pss_cons (ps_set (i := 3) scRest.nd rfl (Or.inl rfl) pe_int) (pss_cons
      (ps_while PassesOwn.never (pt_cmpR op_gt (pv 1) pe_int (nomark _))
        (pss_cons (ps_set (i := 3) scRest.nd rfl (Or.inl rfl) (pe_op op_mod (pe_op op_mul (pv 3) (pe_call G2 hr rfl D2.g D2.F.kp D2.b .nil pass0 (pa_cons (pv 2) (pa_cons (pe_op op_fdiv (pv 1) (pv 0)) (pa_cons (pv 0) pa_nil))))) (pv 0)))
        (pss_cons (ps_set (i := 3) scRest.nd rfl (Or.inl rfl) (pe_op op_mod (pe_op op_mul (pv 3) (pe_call G1 hr rfl D1.g D1.F.kp D1.b .nil pass0 (pa_cons (pe_op op_mod (pv 1) (pv 0)) pa_nil))) (pv 0)))
        (pss_one (ps_set (i := 1) scRest.nd rfl (Or.inl rfl) (pe_op op_fdiv (pv 1) (pv 0)))))))
      (pss_one (ps_ret (pv 3))))), ?_⟩
    refine ⟨_, rfl, _, _, rfl, rfl, _, p - 1, rfl, by omega, by omega, _, rfl, _, _, rfl, rfl, by omega, ?_⟩
    refine ⟨fun m σ H' => H' = H ∧ ∃ (a : Nat), σ = [some (.int (p : Int)), some (.int (m : Int)), some (.int ((p - 1 : Nat) : Int)), some (.int (a : Int))] ∧ Left p n m a, ⟨n, rfl, 1, ?_, left_start hp2 hn⟩, ?_⟩
    · have e : ((Kp267.prod (p - 1) : Nat) : Int) % (p : Int) = ((p - 1 : Nat) : Int) := by
        show ((Kp267.prod (p - 1) % p : Nat) : Int) = _
        rw [hwil]
      rw [← e]
      rfl
    · rintro m σ H' ⟨rfl, a, rfl, hw⟩
      obtain ⟨ha, hm, _⟩ := id hw
      refine ⟨_, rfl, _, _, rfl, rfl, _, rfl, if_dec (fun c => ?_) (fun c => ?_)⟩
      · have h0 : m ≠ 0 := by omega
        refine ⟨fun σ' H'' => H'' = H' ∧ ∃ (a : Nat), σ' = [some (.int (p : Int)), some (.int ((m / p : Nat) : Int)), some (.int ((p - 1 : Nat) : Int)), some (.int (a : Int))] ∧ Left p n (m / p) a, ?_, ?_⟩
        · rintro σ' H'' ⟨rfl, a', rfl, hw'⟩
          exact ⟨m / p, div_less hp2 h0, rfl, a', rfl, hw'⟩
        · refine ⟨_, rfl, _, rfl, _, rfl, _, rfl, _, _, rfl, rfl, ⟨by omega, by omega⟩, _, rfl, ?_⟩
          refine ⟨_, _, _, p - 1, m / p, p, rfl, rfl, rfl, rfl, hp2, by omega, by omega, ?_⟩
          refine ⟨_, _, rfl, rfl, .inl (by omega), _, rfl, _, _, rfl, rfl, by omega, ?_⟩
          refine ⟨_, rfl, _, rfl, _, rfl, _, _, rfl, rfl, by omega, _, m % p, rfl, rfl, Nat.le_trans (Nat.le_of_lt (Nat.mod_lt _ (by omega))) (by omega), ?_⟩
          refine ⟨((a * ((p - 1) ^ (m / p) % p) % p : Nat) : Int), _, rfl, rfl, .inl ?_, _, rfl, _, _, rfl, rfl, by omega, ?_⟩
          · have : a * ((p - 1) ^ (m / p) % p) % p < p := Nat.mod_lt _ (by omega)
            generalize a * ((p - 1) ^ (m / p) % p) % p = u at this
            omega
          refine ⟨_, rfl, _, rfl, _, _, rfl, rfl, ⟨by omega, by omega⟩, ?_⟩
          exact ⟨rfl, _, rfl, left_turn hp2 h0 hw⟩
      · have h0 : m = 0 := by omega
        subst h0
        refine ⟨_, rfl, ?_⟩
        show Q (.int (a : Int)) H'
        rw [left_end hw]
        exact k
theorem scIsP : FnScope ["number", "divisor"] ["number"] (defScope sIsP) := ⟨rfl, rfl, rfl, by decide +kernel, rfl, by decide +kernel, by decide +kernel⟩
theorem ok_isp {f : Addr} {fd : FuncData} (D : Df K mg "is_prime" sIsP ["number"] f fd) : FnOk P w K mg base CX0 1 f fd ["number"] spIsP := by
  refine D.F.ok scIsP (fun vs H Q E h => ?_) (fun cdv A outer s H vs Q E hr h => ?_)
  · obtain ⟨z, n, rfl, _⟩ := h
    rfl
  · obtain ⟨z, n, rfl, rfl, hn, k⟩ := h
    refine ⟨_, pss_cons (ps_if (pt_cmpR op_lt (pv 0) pe_int (nomark _)) (pss_one (ps_ret pe_bl)) pss_nil)
      (pss_cons (ps_set (i := 1) scIsP.nd rfl (Or.inl rfl) pe_int) (pss_cons
      (ps_while PassesOwn.never (pt_cmpR op_le (pe_op op_mul (pv 1) (pv 1)) (pv 0) (nomark _))
        (pss_cons (ps_if (pt_cmpR op_eq (pe_op op_mod (pv 0) (pv 1)) pe_int (nomark _)) (pss_one (ps_ret pe_bl)) pss_nil)
        (pss_one (ps_set (i := 1) scIsP.nd rfl (Or.inl rfl) (pe_op op_add (pv 1) pe_int)))))
      (pss_one (ps_ret pe_bl)))), ?_⟩
    refine ⟨_, rfl, _, _, rfl, rfl, _, rfl, if_dec (fun c => ?_) (fun c => ?_)⟩
    · show Q (.bl false) H
      rw [← isPrime_less (n := n) (by omega)]
      exact k
    · refine ⟨fun m σ H' => H' = H ∧ ∃ d : Nat, σ = [some (.int (n : Int)), some (.int (d : Int))] ∧ m + d = n + 2 ∧ 2 ≤ d ∧ ∀ e, 2 ≤ e → e < d → n % e ≠ 0, ⟨n, rfl, 2, rfl, rfl, Nat.le_refl _, fun e h1 h2 => by omega⟩, ?_⟩
      rintro m σ H' ⟨rfl, d, rfl, hm, hd, hw⟩
      refine ⟨_, rfl, _, rfl, _, _, rfl, rfl, .inl (by omega), _, rfl, _, _, rfl, rfl, _, rfl, if_dec (fun c2 => ?_) (fun c2 => ?_)⟩
      · have c3 : d * d ≤ n := Int.ofNat_le.mp c2
        have c4 : d < n := by
          have : d * 2 ≤ d * d := Nat.mul_le_mul_left d hd
          omega
        refine ⟨fun σ' H'' => H'' = H' ∧ σ' = [some (.int (n : Int)), some (.int ((d + 1 : Nat) : Int))] ∧ n % d ≠ 0, ?_, ?_⟩
        · rintro σ' H'' ⟨rfl, rfl, hz⟩
          refine ⟨m - 1, by omega, rfl, d + 1, rfl, by omega, by omega, fun e h1 h2 => ?_⟩
          by_cases he : e = d
          · rw [he]
            exact hz
          · exact hw e h1 (by omega)
        · refine ⟨_, rfl, _, rfl, _, _, rfl, rfl, by omega, rfl, _, rfl, if_eq (fun c5 => ?_) (fun c5 => ?_)⟩
          · show Q (.bl false) H'
            rw [← isPrime_not hd c4 (Int.ofNat_inj.mp c5)]
            exact k
          · refine ⟨_, rfl, _, _, rfl, rfl, ?_⟩
            exact ⟨rfl, rfl, fun e => c5 (congrArg Int.ofNat e)⟩
      · have c3 : ¬ d * d ≤ n := fun h => c2 (Int.ofNat_le.mpr h)
        show Q (.bl true) H'
        rw [← isPrime_yes (n := n) (d := d) (by omega) (by omega) hw]
        exact k
theorem scIn : FnScope ["number", "prime", "times"] ["number", "prime"] (defScope sIn) := ⟨rfl, rfl, rfl, by decide +kernel, rfl, by decide +kernel, by decide +kernel⟩
theorem ok_in {f : Addr} {fd : FuncData} (D : Df K mg "often_in" sIn ["number", "prime"] f fd) : FnOk P w K mg base CX0 1 f fd ["number", "prime"] spIn := by
  refine D.F.ok scIn (fun vs H Q E h => ?_) (fun cdv A outer s H vs Q E hr h => ?_)
  · obtain ⟨y, z, n, p, rfl, _⟩ := h
    rfl
  · obtain ⟨y, z, n, p, rfl, rfl, rfl, hn0, hn, hp, hp2, k⟩ := h
    refine ⟨_, pss_cons (ps_set (i := 2) scIn.nd rfl (Or.inl rfl) pe_int) (pss_cons
      (ps_while PassesOwn.never (pt_cmpR op_eq (pe_op op_mod (pv 0) (pv 1)) pe_int (nomark _))
        (pss_cons (ps_set (i := 0) scIn.nd rfl (Or.inl rfl) (pe_op op_fdiv (pv 0) (pv 1))) (pss_one (ps_set (i := 2) scIn.nd rfl (Or.inl rfl) (pe_op op_add (pv 2) pe_int)))))
      (pss_one (ps_ret (pv 2)))), ?_⟩
    refine ⟨fun m σ H' => H' = H ∧ ∃ t : Nat, σ = [some (.int (m : Int)), some (.int (p : Int)), some (.int (t : Int))] ∧ m ≠ 0 ∧ m < 2 ^ 24 ∧ t + Kp266.times p m = Kp266.times p n, ⟨n, rfl, 0, rfl, hn0, by omega, by omega⟩, ?_⟩
    rintro m σ H' ⟨rfl, t, rfl, h0, hm, ht⟩
    refine ⟨_, rfl, _, rfl, _, _, rfl, rfl, by omega, rfl, _, rfl, if_eq (fun c => ?_) (fun c => ?_)⟩
    · have c2 : m % p = 0 := Int.ofNat_inj.mp c
      refine ⟨fun σ' H'' => H'' = H' ∧ σ' = [some (.int ((m / p : Nat) : Int)), some (.int (p : Int)), some (.int ((t + 1 : Nat) : Int))], ?_, ?_⟩
      · rintro σ' H'' ⟨rfl, rfl⟩
        refine ⟨m / p, div_less hp h0, rfl, t + 1, rfl, div_pos' h0 c2, Nat.lt_of_le_of_lt (Nat.div_le_self _ _) hm, ?_⟩
        rw [in_yes hp h0 hm c2] at ht
        omega
      · refine ⟨_, rfl, _, rfl, _, _, rfl, rfl, ⟨by omega, by omega⟩, ?_⟩
        refine ⟨_, rfl, _, _, rfl, rfl, ?_⟩
        exact ⟨rfl, rfl⟩
    · have c2 : m % p ≠ 0 := fun e => c (congrArg Int.ofNat e)
      rw [in_no c2, Nat.add_zero] at ht
      refine ⟨_, rfl, ?_⟩
      show Q (.int (t : Int)) H'
      rw [ht]
      exact k
theorem scLeast : FnScope ["prime", "times", "most", "number"] ["prime", "times", "most"] (defScope sLeast) := ⟨rfl, rfl, rfl, by decide +kernel, rfl, by decide +kernel, by decide +kernel⟩
theorem ok_least {f f1 : Addr} {fd fd1 : FuncData} (D : Df K mg "least_for" sLeast ["prime", "times", "most"] f fd) (D1 : Df K mg "often" sOften ["prime", "number"] f1 fd1) (hrange : mg "range" = none) : FnOk P w K mg base CX0 2 f fd ["prime", "times", "most"] spLeast := by
  have G1 : FnOk P w K mg base CX0 1 f1 fd1 ["prime", "number"] spOften := ok_often D1
  refine D.F.ok scLeast (fun vs H Q E h => ?_) (fun cdv A outer s H vs Q E hr h => ?_)
  · obtain ⟨y, z, p, k, rfl, _⟩ := h
    rfl
  · obtain ⟨y, z, p, t, rfl, rfl, rfl, hp, hp2, k⟩ := h
    refine ⟨_, pss_cons (ps_for PassesOwn.never rfl (pi_range1 (by rfl) hrange (pa_cons (pe_op op_add (pv 2) pe_int) pa_nil)) (pg_name (i := 3) scLeast.nd rfl (Or.inl rfl))
        (pss_one (ps_if (pt_cmpR op_ge (pe_call G1 hr rfl D1.g D1.F.kp D1.b .nil pass0 (pa_cons (pv 0) (pa_cons (pv 3) pa_nil))) (pv 1) (nomark _)) (pss_one (ps_ret (pv 3))) pss_nil)))
      (pss_one (ps_ret pe_non)), ?_⟩
    refine ⟨_, rfl, _, _, rfl, rfl, 700, rfl, by decide, by decide, for_range (lo := 0) (n := 700)
      (fun i σ H' => H' = H ∧ (∃ v : Option V, σ = [some (.int (p : Int)), some (.int (t : Int)), some (.int 699), v]) ∧ ∀ m, m < i → ¬ t ≤ Kp267.times p m) ⟨rfl, ⟨none, rfl⟩, fun m h => by omega⟩ ?_ ?_⟩
    · rintro i σ H' hi ⟨rfl, ⟨v, rfl⟩, hw⟩
      refine ⟨_, rfl, _, rfl, _, _, p, i, rfl, rfl, by omega, hp, hp2, by omega, _, rfl, _, _, rfl, rfl, _, rfl, if_dec (fun c => ?_) (fun c => ?_)⟩
      · refine ⟨_, rfl, ?_⟩
        have e := least_some (p := p) (k := t) hi (Int.ofNat_le.mp c) hw
        rw [e] at k
        show Q (.int (0 + (i : Int))) H'
        rw [Int.zero_add]
        exact k
      · refine ⟨rfl, ⟨_, rfl⟩, fun m hm => ?_⟩
        by_cases he : m = i
        · rw [he]
          exact fun h => c (Int.ofNat_le.mpr h)
        · exact hw m (by omega)
    · rintro σ H' ⟨rfl, ⟨v, rfl⟩, hw⟩
      show Q .non H'
      rw [least_none hw] at k
      exact k
end
end Pf

namespace Pf
open PySem PySem.Spec PyProof.Rows L2
abbrev sGaps : Stmt := top 9
abbrev sPrimes : Stmt := top 12
abbrev sParts : Stmt := top 14
abbrev sNou : Stmt := top 16
abbrev sOdd : Stmt := top 17
abbrev sTwice : Stmt := top 18
/-! ### two lists side by side -/
inductive All2 {A B : Type} (R : A → B → Prop) : List A → List B → Prop
  | nil : All2 R [] []
  | cons {a : A} {b : B} {l : List A} {m : List B} : R a b → All2 R l m → All2 R (a :: l) (b :: m)
theorem All2.len {A B : Type} {R : A → B → Prop} {l : List A} {m : List B} (h : All2 R l m) : l.length = m.length := by
  induction h with
  | nil => rfl
  | cons _ _ ih => rw [List.length_cons, List.length_cons, ih]
theorem All2.imp {A B : Type} {R S : A → B → Prop} {l : List A} {m : List B} (h : All2 R l m) (k : ∀ a b, R a b → S a b) : All2 S l m := by
  induction h with
  | nil => exact .nil
  | cons r _ ih => exact .cons (k _ _ r) ih
theorem All2.snoc {A B : Type} {R : A → B → Prop} {l : List A} {m : List B} (h : All2 R l m) {a : A} {b : B} (r : R a b) : All2 R (l ++ [a]) (m ++ [b]) := by
  induction h with
  | nil => exact .cons r .nil
  | cons r' _ ih => exact .cons r' ih
theorem All2.get {A B : Type} {R : A → B → Prop} {l : List A} {m : List B} (h : All2 R l m) : ∀ {i : Nat} {a : A}, l[i]? = some a → ∃ b, m[i]? = some b ∧ R a b := by
  induction h with
  | nil => intro i a e; simp at e
  | @cons a0 b0 l m r _ ih =>
    intro i a e
    cases i with
    | zero =>
      have e' : a0 = a := by simpa using e
      exact ⟨b0, by simp, e' ▸ r⟩
    | succ i =>
      obtain ⟨b, h1, h2⟩ := ih (i := i) (a := a) (by simpa using e)
      exact ⟨b, by simpa using h1, h2⟩
theorem take_more {α : Type} : ∀ {l : List α} {i : Nat} {x : α}, l[i]? = some x → l.take (i + 1) = l.take i ++ [x]
  | [], i, x, h => by simp at h
  | a :: l, 0, x, h => by
    have e : a = x := Option.some.inj h
    subst e
    rfl
  | a :: l, i + 1, x, h => by
    have ih := take_more (l := l) (i := i) (x := x) h
    show a :: l.take (i + 1) = a :: l.take i ++ [x]
    rw [ih]
    rfl
theorem get_map {α β : Type} {f : α → β} {l : List α} {i : Nat} {y : β} (h : (l.map f)[i]? = some y) : ∃ x, l[i]? = some x ∧ y = f x := by
  rw [List.getElem?_map] at h
  cases e : l[i]? with
  | none =>
    rw [e] at h
    cases h
  | some x =>
    rw [e] at h
    exact ⟨x, rfl, (Option.some.inj h).symm⟩
theorem room {n : Nat} (h : n ≤ 10001000) : n < sizeLine := by
  rw [sizeLine_eq]
  omega
theorem room' {n : Nat} (h : n ≤ 10001000) : n ≤ sizeLine := Nat.le_of_lt (room h)
/-! ### heaps -/
theorem same_new {H H' : Hp} {p : Addr} {o : HO} (s : Same H H') (h : H' p = none) : Same H (upd H' p o) := fun b u e => by
  rw [upd_ne (ne_of_none (s b u e) h)]
  exact s b u e
theorem same_old {H H' : Hp} {p : Addr} {o : HO} (s : Same H H') (h : H p = none) : Same H (upd H' p o) := fun b u e => by
  rw [upd_ne (ne_of_none e h)]
  exact s b u e
def iv (n : Nat) : V := .int (n : Int)
def ivs (l : List Nat) : List V := l.map iv
theorem ivs_snoc (l : List Nat) (n : Nat) : ivs (l ++ [n]) = ivs l ++ [.int (n : Int)] := by
  unfold ivs
  rw [List.map_append]
  rfl
theorem ivs_len (l : List Nat) : (ivs l).length = l.length := List.length_map _
def tv (z : Nat × Nat) : HO := .tup [iv z.1, iv z.2]
/-! ### promises -/
def spPrimes : Sp := fun vs H Q _ => ∃ (z : Int) (n : Nat), vs = [.int z] ∧ z = (n : Int) ∧ n ≤ 100 ∧ ∀ H' l, Same H H' → H l = none → H' l = some (.lst (ivs (Kp267.primes n))) → Q (.ref l) H'
def spParts : Sp := fun vs H Q _ => ∃ (z : Int) (n : Nat), vs = [.int z] ∧ z = (n : Int) ∧ 2 ≤ n ∧ n ≤ 100 ∧
  ∀ H' l as, Same H H' → H l = none → H' l = some (.lst (as.map V.ref)) → All2 (fun a z => H' a = some (tv z)) as (Kp267.parts n) → Q (.ref l) H'
def spNou : Sp := fun vs H Q _ => ∃ (y z : Int) (b n : Nat), vs = [.int y, .int z] ∧ y = (b : Int) ∧ z = (n : Int) ∧ 2 ≤ b ∧ b ≤ 100 ∧ n < 2 ^ 24 ∧ ∀ H', Same H H' → Q (.int ((Kp267.noughts b n : Nat) : Int)) H'
def spOdd : Sp := fun vs H Q _ => ∃ (z : Int) (n : Nat), vs = [.int z] ∧ z = (n : Int) ∧ n ≤ 100 ∧
  ∀ H' l, Same H H' → H l = none → H' l = some (.lst (ivs ((Kp267.primes n).filter fun q => Kp267.times q n % 2 != 0))) → Q (.ref l) H'
def spTwice : Sp := fun vs H Q _ => ∃ (y z : Int) (m n : Nat), vs = [.int y, .int z] ∧ y = (m : Int) ∧ z = (n : Int) ∧ m ≤ 100 ∧ n < 2 ^ 24 ∧
  ∀ H', Same H H' → Q (.bl ((Kp267.primes m).all fun q => decide (2 * Kp267.times q m ≤ Kp267.times q n))) H'
def spGaps : Sp := fun vs H Q _ => ∃ (y z : Int) (p n : Nat), vs = [.int y, .int z] ∧ y = (p : Int) ∧ z = (n : Int) ∧ 2 ≤ p ∧ p ≤ 1000 ∧ n ≤ 1000 ∧
  ∀ H' l, Same H H' → H l = none → H' l = some (.lst (ivs (Kp267.gaps p n))) → Q (.ref l) H'
section
variable {P : Program} {w : World} {K : PySem.W.Frag} {mg : Str → Option Value} {base : Heap}
theorem scPrimes : FnScope ["most", "number"] ["most"] (defScope sPrimes) := ⟨rfl, rfl, rfl, by decide +kernel, rfl, by decide +kernel, by decide +kernel⟩
theorem ok_primes {f f1 : Addr} {fd fd1 : FuncData} (D : Df K mg "primes_up_to" sPrimes ["most"] f fd) (D1 : Df K mg "is_prime" sIsP ["number"] f1 fd1) (hrange : mg "range" = none) : FnOk P w K mg base CX0 2 f fd ["most"] spPrimes := by
  have G1 : FnOk P w K mg base CX0 1 f1 fd1 ["number"] spIsP := ok_isp D1
  refine D.F.ok scPrimes (fun vs H Q E h => ?_) (fun cdv A outer s H vs Q E hr h => ?_)
  · obtain ⟨z, n, rfl, _⟩ := h
    rfl
  · obtain ⟨z, n, rfl, rfl, hn, k⟩ := h
    refine ⟨_, pss_one (ps_ret (pe_lc (own := [("number", 1)]) (g := gName 1) rfl scPrimes.nd (pi_range2 (by rfl) hrange (pa_cons pe_int (pa_cons (pe_op op_add (pv 0) pe_int) pa_nil)))
      (blkOk_by (own := [("number", 1)]) (N := ["most", "number"]) (sc := defScope sPrimes) (by decide +kernel)) (fun _ _ _ _ _ => pg_name (i := 1) scPrimes.nd rfl (Or.inl rfl))
      (fun _ _ _ _ _ => pts_one (pt_val (pe_call G1 hr rfl D1.g D1.F.kp D1.b .nil pass0 (pa_cons (pv 1) pa_nil)))) (fun _ _ _ _ _ => pv 1))), ?_⟩
    refine ⟨_, rfl, _, _, rfl, rfl, 2, (n : Int) + 1, rfl, by omega, fun L hL => lc_range (lo := 2) (n := ((n : Int) + 1 - 2).toNat)
      (fun i H' => Same H H' ∧ H' L = some (.lst (ivs (upTo (2 + i))))) ⟨same_new (Same.refl H) hL, upd_same⟩ ?_ ?_⟩
    · rintro i H' hi ⟨s1, h1⟩
      refine ⟨rfl, _, rfl, _, 2 + i, rfl, by omega, by omega, _, rfl, ?_⟩
      cases e : Kp266.isPrime (2 + i) with
      | true =>
        refine iteT ?_
        refine ⟨_, rfl, _, h1, ?_, same_old s1 hL, ?_⟩
        · rw [ivs_len]
          have := upTo_len (2 + i)
          exact room (by omega)
        · rw [upd_same, show 2 + (i + 1) = 2 + i + 1 from rfl, upTo_yes e, ivs_snoc]
          have : ((2 + i : Nat) : Int) = 2 + (i : Int) := by omega
          rw [this]
      | false =>
        refine iteF ⟨s1, ?_⟩
        rw [show 2 + (i + 1) = 2 + i + 1 from rfl, upTo_no e]
        exact h1
    · rintro H' ⟨s1, h1⟩
      refine k _ _ s1 hL ?_
      rw [h1, primes_upTo]
      by_cases e : n = 0
      · subst e
        rw [upTo_less (m := 0 + 1) (by omega)]
        show some (HO.lst (ivs (upTo 2))) = _
        rw [upTo_less (m := 2) (by omega)]
      · have : 2 + ((n : Int) + 1 - 2).toNat = n + 1 := by omega
        rw [this]
theorem scParts : FnScope ["number", "found", "prime"] ["number"] (defScope sParts) := ⟨rfl, rfl, rfl, by decide +kernel, rfl, by decide +kernel, by decide +kernel⟩
theorem ok_parts {f f1 f2 f3 : Addr} {fd fd1 fd2 fd3 : FuncData} (D : Df K mg "parts_of" sParts ["number"] f fd) (D1 : Df K mg "primes_up_to" sPrimes ["most"] f1 fd1) (D2 : Df K mg "is_prime" sIsP ["number"] f2 fd2) (D3 : Df K mg "often_in" sIn ["number", "prime"] f3 fd3) (hrange : mg "range" = none) :
    FnOk P w K mg base CX0 3 f fd ["number"] spParts := by
  have G1 : FnOk P w K mg base CX0 2 f1 fd1 ["most"] spPrimes := ok_primes D1 D2 hrange
  have G3 : FnOk P w K mg base CX0 1 f3 fd3 ["number", "prime"] spIn := ok_in D3
  refine D.F.ok scParts (fun vs H Q E h => ?_) (fun cdv A outer s H vs Q E hr h => ?_)
  · obtain ⟨z, n, rfl, _⟩ := h
    rfl
  · obtain ⟨z, n, rfl, rfl, hn2, hn, k⟩ := h
    have hr1 : Room 1 _ := hr.mono (by decide)
    refine ⟨_, pss_cons (ps_set (i := 1) scParts.nd rfl (Or.inl rfl) (pe_lst pa_nil)) (pss_cons
      (ps_for PassesOwn.never rfl (pi_list (pe_call G1 hr rfl D1.g D1.F.kp D1.b .nil pass0 (pa_cons (pv 0) pa_nil))) (pg_name (i := 2) scParts.nd rfl (Or.inl rfl))
        (pss_one (ps_if (pt_cmpR op_eq (pe_op op_mod (pv 0) (pv 2)) pe_int (nomark _))
          (pss_one (ps_expr (pe_bm PySem.F.plainAttrs_list PySem.F.slot_list_append PySem.F.type_list_append mt_append (pv 1) (pa_cons (pe_tup (pa_cons (pv 2) (pa_cons (pe_call G3 hr1 rfl D3.g D3.F.kp D3.b .nil pass0 (pa_cons (pv 0) (pa_cons (pv 2) pa_nil))) pa_nil))) pa_nil)))) pss_nil)))
      (pss_one (ps_ret (pv 1)))), ?_⟩
    refine ⟨Nat.zero_le _, fun L hL => ?_⟩
    refine ⟨_, rfl, _, n, rfl, rfl, hn, fun H1 l s1 hl h1 => ?_⟩
    have sL : Same (upd H L (.lst [])) H1 := s1
    have hlL : l ≠ L := fun e => by
      rw [e, upd_same] at hl
      cases hl
    refine ⟨l, rfl, ⟨_, SqL.of h1⟩, for_list (K := K) (a := l) (xs := ivs (Kp267.primes n))
      (fun i σ H' => ∃ (v : Option V) (as : List Addr), σ = [some (.int (n : Int)), some (.ref L), v] ∧ Same H H' ∧ H' l = some (.lst (ivs (Kp267.primes n))) ∧ H' L = some (.lst (as.map V.ref)) ∧
        All2 (fun a z => H' a = some (tv z)) as ((((Kp267.primes n).take i).filter fun q => n % q == 0).map fun q => (q, Kp266.times q n)))
      ⟨none, [], rfl, fun b o e => s1 b o (by rw [upd_ne (ne_of_none e hL)]; exact e), h1, s1 L _ upd_same, .nil⟩ (fun i σ H' _ ⟨_, _, _, _, h, _⟩ => SqL.of h) ?_ ?_⟩
    · rintro i y σ H' hi ⟨v, as, rfl, s2, h2, h3, h4⟩
      obtain ⟨q, hq, rfl⟩ := get_map hi
      have hm := List.mem_of_getElem? hq
      obtain ⟨q2, qn⟩ := primes_mem hm
      have hlen : as.length ≤ n + 1 := by
        rw [h4.len, List.length_map]
        refine Nat.le_trans (List.length_filter_le _ _) ?_
        rw [List.length_take]
        have := primes_len n
        omega
      rw [take_more hq, List.filter_append, List.map_append]
      refine ⟨_, rfl, _, rfl, _, _, rfl, rfl, by omega, rfl, _, rfl, if_eq (fun c => ?_) (fun c => ?_)⟩
      · have c2 : n % q = 0 := Int.ofNat_inj.mp c
        have e1 : List.filter (fun q => n % q == 0) [q] = [q] := by simp [c2]
        rw [e1]
        refine ⟨_, rfl, .inl ⟨rfl, _, SqL.of h3⟩, _, rfl, _, rfl, _, rfl, _, _, n, q, rfl, rfl, rfl, by omega, by omega, q2, by omega, (by show 2 ≤ sizeLine; decide), fun t ht => ?_⟩
        have tL : L ≠ t := ne_of_none h3 ht
        have tl : l ≠ t := ne_of_none h2 ht
        refine ⟨_, _, _, rfl, rfl, (by rw [upd_ne tL]; exact h3), ?_, ?_⟩
        · rw [List.length_map]
          exact room (by omega)
        refine ⟨_, as ++ [t], rfl, fun b o e => ?_, ?_, ?_, ?_⟩
        · rw [upd_ne (ne_of_none e hL), upd_ne (ne_of_none (s2 b o e) ht)]
          exact s2 b o e
        · rw [upd_ne hlL, upd_ne tl]
          exact h2
        · rw [upd_same, List.map_append]
          rfl
        · refine All2.snoc (h4.imp fun a z ha => ?_) ?_
          · have aL : a ≠ L := ne_of ha h3 (by intro z; cases z)
            rw [upd_ne aL, upd_ne (ne_of_none ha ht)]
            exact ha
          · rw [upd_ne tL.symm, upd_same]
            rfl
      · have c2 : ¬ n % q = 0 := fun e => c (congrArg Int.ofNat e)
        have e1 : List.filter (fun q => n % q == 0) [q] = [] := by simp [c2]
        rw [e1]
        refine ⟨_, as, rfl, s2, h2, h3, ?_⟩
        rw [List.map_nil, List.append_nil]
        exact h4
    · rintro σ H' ⟨v, as, rfl, s2, h2, h3, h4⟩
      rw [ivs_len, List.take_length, ← parts_eq] at h4
      exact ⟨_, rfl, k _ _ as s2 hL h3 h4⟩
end
end Pf

namespace Pf
open PySem PySem.Spec PyProof.Rows L2
section
variable {P : Program} {w : World} {K : PySem.W.Frag} {mg : Str → Option Value} {base : Heap}
theorem scNou : FnScope ["base", "number", "prime", "times"] ["base", "number"] (defScope sNou) := ⟨rfl, rfl, rfl, by decide +kernel, rfl, by decide +kernel, by decide +kernel⟩
theorem ok_nou {f f1 f2 : Addr} {fd fd1 fd2 : FuncData} (D : Df K mg "noughts_of" sNou ["base", "number"] f fd) (D1 : Df K mg "parts_of" sParts ["number"] f1 fd1) (D2 : Df K mg "often" sOften ["prime", "number"] f2 fd2)
    (G1 : FnOk P w K mg base CX0 3 f1 fd1 ["number"] spParts) (hmin : mg "min" = none) : FnOk P w K mg base CX0 4 f fd ["base", "number"] spNou := by
  have G2 : FnOk P w K mg base CX0 1 f2 fd2 ["prime", "number"] spOften := ok_often D2
  refine D.F.ok scNou (fun vs H Q E h => ?_) (fun cdv A outer s H vs Q E hr h => ?_)
  · obtain ⟨y, z, b, n, rfl, _⟩ := h
    rfl
  · obtain ⟨y, z, b, n, rfl, rfl, rfl, hb2, hb, hn, k⟩ := h
    have hr1 : Room 1 _ := hr.mono (by decide)
    obtain ⟨hne, hok⟩ := parts_ok b (by omega) hb2
    refine ⟨_, pss_one (ps_ret (pe_callB (cr_min rfl) (by rfl) hmin (by decide +kernel) (pa_cons
      (pe_lc (own := [("prime", 2), ("times", 3)]) (g := gTup _ 2 (gCons (gName 2) (gCons (gName 3) gNil))) (tt := tYes) rfl scNou.nd (pi_list (pe_call G1 hr rfl D1.g D1.F.kp D1.b .nil pass0 (pa_cons (pv 0) pa_nil)))
      (blkOk_by (own := [("prime", 2), ("times", 3)]) (N := ["base", "number", "prime", "times"]) (sc := defScope sNou) (by decide +kernel))
      (fun _ _ _ _ _ => pg_tup rfl (pgs_cons (pg_name (i := 2) scNou.nd rfl (Or.inl rfl)) (pgs_cons (pg_name (i := 3) scNou.nd rfl (Or.inl rfl)) pgs_nil)))
      (fun _ _ _ _ _ => pts_nil) (fun _ _ _ _ _ => pe_op op_fdiv (pe_call G2 hr1 rfl D2.g D2.F.kp D2.b .nil pass0 (pa_cons (pv 2) (pa_cons (pv 1) pa_nil))) (pv 3))) pa_nil))), ?_⟩
    refine ⟨_, rfl, _, b, rfl, rfl, hb2, hb, fun H1 l as s1 hl h1 h2 => ?_⟩
    refine ⟨l, rfl, ⟨_, SqL.of h1⟩, fun L hL => lc_list (K := K) (a := l) (xs := as.map V.ref)
      (fun i H' => Same H1 H' ∧ H' L = some (.lst (ivs (((Kp267.parts b).take i).map fun z => Kp267.times z.1 n / z.2)))) ⟨same_new (Same.refl H1) hL, upd_same⟩ (fun i H' _ h => SqL.of (h.1 _ _ h1)) ?_ ?_⟩
    · rintro i y H' hi ⟨s2, h3⟩
      obtain ⟨a, ha, rfl⟩ := get_map hi
      obtain ⟨z, hz, hza⟩ := h2.get ha
      obtain ⟨z1, z2, z3, z4⟩ := hok z (List.mem_of_getElem? hz)
      refine ⟨a, _, rfl, SqT.of (s2 _ _ hza), rfl, _, _, rfl, _, _, rfl, rfl, rfl, ?_⟩
      refine ⟨_, rfl, _, rfl, _, _, z.1, n, rfl, rfl, rfl, z1, by omega, hn, _, rfl, _, _, rfl, rfl, ⟨by omega, by omega⟩, ?_⟩
      refine ⟨_, h3, ?_, same_old s2 hL, ?_⟩
      · rw [ivs_len, List.length_map, List.length_take]
        have : (Kp267.parts b).length ≤ b + 1 := by
          rw [parts_eq, List.length_map]
          refine Nat.le_trans (List.length_filter_le _ _) (primes_len b)
        exact room (by omega)
      · rw [upd_same, take_more hz, List.map_append, List.map_cons, List.map_nil, ivs_snoc]
        rfl
    · rintro H' ⟨s2, h3⟩
      have e : (as.map V.ref).length = (Kp267.parts b).length := by rw [List.length_map, h2.len]
      rw [e, List.take_length] at h3
      refine ⟨L, ((Kp267.parts b).map fun z => Kp267.times z.1 n / z.2).map fun (n : Nat) => (n : Int), rfl, SqL.of ?_, ?_, fun m hm hle => ?_⟩
      · rw [h3, List.map_map]
        rfl
      · rw [List.length_map, List.length_map]
        exact List.length_pos_iff.mpr hne
      · obtain ⟨m', hm', rfl⟩ := List.mem_map.mp hm
        have e2 : Kp267.noughts b n = m' := noughts_is hm' fun y hy => Int.ofNat_le.mp (hle _ (List.mem_map.mpr ⟨y, hy, rfl⟩))
        rw [← e2]
        exact k _ fun b o e => s2 b o (s1 b o e)
theorem scOdd : FnScope ["number", "prime"] ["number"] (defScope sOdd) := ⟨rfl, rfl, rfl, by decide +kernel, rfl, by decide +kernel, by decide +kernel⟩
theorem ok_odd {f f1 f2 : Addr} {fd fd1 fd2 : FuncData} (D : Df K mg "odd_primes" sOdd ["number"] f fd) (D1 : Df K mg "primes_up_to" sPrimes ["most"] f1 fd1) (D2 : Df K mg "often" sOften ["prime", "number"] f2 fd2)
    (G1 : FnOk P w K mg base CX0 2 f1 fd1 ["most"] spPrimes) : FnOk P w K mg base CX0 3 f fd ["number"] spOdd := by
  have G2 : FnOk P w K mg base CX0 1 f2 fd2 ["prime", "number"] spOften := ok_often D2
  refine D.F.ok scOdd (fun vs H Q E h => ?_) (fun cdv A outer s H vs Q E hr h => ?_)
  · obtain ⟨z, n, rfl, _⟩ := h
    rfl
  · obtain ⟨z, n, rfl, rfl, hn, k⟩ := h
    have hr1 : Room 1 _ := hr.mono (by decide)
    refine ⟨_, pss_one (ps_ret (pe_lc (own := [("prime", 1)]) (g := gName 1) rfl scOdd.nd (pi_list (pe_call G1 hr rfl D1.g D1.F.kp D1.b .nil pass0 (pa_cons (pv 0) pa_nil)))
      (blkOk_by (own := [("prime", 1)]) (N := ["number", "prime"]) (sc := defScope sOdd) (by decide +kernel)) (fun _ _ _ _ _ => pg_name (i := 1) scOdd.nd rfl (Or.inl rfl))
      (fun _ _ _ _ _ => pts_one (pt_cmpR op_eq (pe_op op_mod (pe_call G2 hr1 rfl D2.g D2.F.kp D2.b .nil pass0 (pa_cons (pv 1) (pa_cons (pv 0) pa_nil))) pe_int) pe_int (nomark _))) (fun _ _ _ _ _ => pv 1))), ?_⟩
    refine ⟨_, rfl, _, n, rfl, rfl, hn, fun H1 l s1 hl h1 => ?_⟩
    refine ⟨l, rfl, ⟨_, SqL.of h1⟩, fun L hL => lc_list (K := K) (a := l) (xs := ivs (Kp267.primes n))
      (fun i H' => Same H1 H' ∧ H' L = some (.lst (ivs (((Kp267.primes n).take i).filter fun q => Kp267.times q n % 2 != 0)))) ⟨same_new (Same.refl H1) hL, upd_same⟩ (fun i H' _ h => SqL.of (h.1 _ _ h1)) ?_ ?_⟩
    · rintro i y H' hi ⟨s2, h3⟩
      obtain ⟨q, hq, rfl⟩ := get_map hi
      obtain ⟨q2, qn⟩ := primes_mem (List.mem_of_getElem? hq)
      rw [take_more hq, List.filter_append]
      refine ⟨rfl, _, rfl, _, rfl, _, _, q, n, rfl, rfl, rfl, q2, by omega, by omega, _, _, rfl, rfl, (by show (0 : Int) < 2; decide), rfl, _, rfl, if_eq (fun c => ?_) (fun c => ?_)⟩
      · have c2 : Kp267.times q n % 2 = 1 := by omega
        have e1 : List.filter (fun q => Kp267.times q n % 2 != 0) [q] = [q] := by simp [c2]
        rw [e1]
        refine ⟨_, rfl, _, h3, ?_, same_old s2 hL, ?_⟩
        · rw [ivs_len]
          have a1 := List.length_filter_le (fun q => Kp267.times q n % 2 != 0) ((Kp267.primes n).take i)
          rw [List.length_take] at a1
          have := primes_len n
          exact room (by omega)
        · rw [upd_same, ivs_snoc]
          rfl
      · have c2 : Kp267.times q n % 2 = 0 := by omega
        have e1 : List.filter (fun q => Kp267.times q n % 2 != 0) [q] = [] := by simp [c2]
        rw [e1, List.append_nil]
        exact ⟨s2, h3⟩
    · rintro H' ⟨s2, h3⟩
      rw [ivs_len, List.take_length] at h3
      exact k _ _ (fun b o e => s2 b o (s1 b o e)) (s1.free hL) h3
theorem scTwice : FnScope ["lesser", "number", "prime"] ["lesser", "number"] (defScope sTwice) := ⟨rfl, rfl, rfl, by decide +kernel, rfl, by decide +kernel, by decide +kernel⟩
theorem ok_twice {f f1 f2 : Addr} {fd fd1 fd2 : FuncData} (D : Df K mg "divides_twice" sTwice ["lesser", "number"] f fd) (D1 : Df K mg "primes_up_to" sPrimes ["most"] f1 fd1) (D2 : Df K mg "often" sOften ["prime", "number"] f2 fd2)
    (G1 : FnOk P w K mg base CX0 2 f1 fd1 ["most"] spPrimes) (hall : mg "all" = none) : FnOk P w K mg base CX0 3 f fd ["lesser", "number"] spTwice := by
  have G2 : FnOk P w K mg base CX0 1 f2 fd2 ["prime", "number"] spOften := ok_often D2
  refine D.F.ok scTwice (fun vs H Q E h => ?_) (fun cdv A outer s H vs Q E hr h => ?_)
  · obtain ⟨y, z, m, n, rfl, _⟩ := h
    rfl
  · obtain ⟨y, z, m, n, rfl, rfl, rfl, hm, hn, k⟩ := h
    have hr1 : Room 1 _ := hr.mono (by decide)
    refine ⟨_, pss_one (ps_ret (pe_callB (cr_all rfl) (by rfl) hall (by decide +kernel) (pa_cons
      (pe_lc (own := [("prime", 2)]) (g := gName 2) (tt := tYes) rfl scTwice.nd (pi_list (pe_call G1 hr rfl D1.g D1.F.kp D1.b .nil pass0 (pa_cons (pv 0) pa_nil)))
      (blkOk_by (own := [("prime", 2)]) (N := ["lesser", "number", "prime"]) (sc := defScope sTwice) (by decide +kernel)) (fun _ _ _ _ _ => pg_name (i := 2) scTwice.nd rfl (Or.inl rfl))
      (fun _ _ _ _ _ => pts_nil) (fun _ _ _ _ _ => pe_cmpR op_le (pe_op op_mul pe_int (pe_call G2 hr1 rfl D2.g D2.F.kp D2.b .nil pass0 (pa_cons (pv 2) (pa_cons (pv 0) pa_nil))))
        (pe_call G2 hr1 rfl D2.g D2.F.kp D2.b .nil pass0 (pa_cons (pv 2) (pa_cons (pv 1) pa_nil))) (nomark _))) pa_nil))), ?_⟩
    refine ⟨_, rfl, _, m, rfl, rfl, hm, fun H1 l s1 hl h1 => ?_⟩
    refine ⟨l, rfl, ⟨_, SqL.of h1⟩, fun L hL => lc_list (K := K) (a := l) (xs := ivs (Kp267.primes m))
      (fun i H' => Same H1 H' ∧ H' L = some (.lst ((((Kp267.primes m).take i).map fun q => decide (2 * Kp267.times q m ≤ Kp267.times q n)).map V.bl))) ⟨same_new (Same.refl H1) hL, upd_same⟩ (fun i H' _ h => SqL.of (h.1 _ _ h1)) ?_ ?_⟩
    · rintro i y H' hi ⟨s2, h3⟩
      obtain ⟨q, hq, rfl⟩ := get_map hi
      obtain ⟨q2, qn⟩ := primes_mem (List.mem_of_getElem? hq)
      rw [take_more hq, List.map_append, List.map_append]
      refine ⟨rfl, ?_⟩
      refine ⟨_, rfl, _, rfl, _, _, q, m, rfl, rfl, rfl, q2, by omega, by omega, _, _, rfl, rfl, .inl (by decide), ?_⟩
      refine ⟨_, rfl, _, rfl, _, _, q, n, rfl, rfl, rfl, q2, by omega, hn, _, _, rfl, rfl, ?_⟩
      refine ⟨_, h3, ?_, same_old s2 hL, ?_⟩
      · rw [List.length_map, List.length_map, List.length_take]
        have := primes_len m
        exact room (by omega)
      · rw [upd_same]
        have e : decide ((2 : Int) * ((Kp267.times q m : Nat) : Int) ≤ ((Kp267.times q n : Nat) : Int)) = decide (2 * Kp267.times q m ≤ Kp267.times q n) := by
          apply decide_eq_decide.mpr
          omega
        dsimp only
        rw [e]
        rfl
    · rintro H' ⟨s2, h3⟩
      rw [ivs_len, List.take_length] at h3
      refine ⟨L, _, rfl, SqL.of h3, ?_⟩
      have e : ((Kp267.primes m).map fun q => decide (2 * Kp267.times q m ≤ Kp267.times q n)).all id = (Kp267.primes m).all fun q => decide (2 * Kp267.times q m ≤ Kp267.times q n) := by
        rw [List.all_map]
        rfl
      rw [e]
      exact k _ fun b o e => s2 b o (s1 b o e)
theorem inV_ivs (t : Nat) : ∀ l : List Nat, inV (.int (t : Int)) (ivs l) = l.any fun m => m == t
  | [] => rfl
  | a :: l => by
    show (((a : Int) == (t : Int)) || inV (.int (t : Int)) (ivs l)) = ((a == t) || l.any fun m => m == t)
    rw [inV_ivs t l]
    congr 1
    apply Bool.eq_iff_iff.mpr
    rw [beq_iff_eq, beq_iff_eq]
    omega
theorem flat_ivs : ∀ l : List Nat, (ivs l).all flatV = true
  | [] => rfl
  | a :: l => by
    show (flatV (.int (a : Int)) && (ivs l).all flatV) = true
    rw [flat_ivs l] <;> rfl
theorem scGaps : FnScope ["prime", "number", "met", "lesser", "times"] ["prime", "number"] (defScope sGaps) := ⟨rfl, rfl, rfl, by decide +kernel, rfl, by decide +kernel, by decide +kernel⟩
theorem ok_gaps {f f1 : Addr} {fd fd1 : FuncData} (D : Df K mg "gaps_of" sGaps ["prime", "number"] f fd) (D1 : Df K mg "often" sOften ["prime", "number"] f1 fd1) (hrange : mg "range" = none) : FnOk P w K mg base CX0 2 f fd ["prime", "number"] spGaps := by
  have G1 : FnOk P w K mg base CX0 1 f1 fd1 ["prime", "number"] spOften := ok_often D1
  refine D.F.ok scGaps (fun vs H Q E h => ?_) (fun cdv A outer s H vs Q E hr h => ?_)
  · obtain ⟨y, z, p, n, rfl, _⟩ := h
    rfl
  · obtain ⟨y, z, p, n, rfl, rfl, rfl, hp, hp2, hn, k⟩ := h
    refine ⟨_, pss_cons (ps_set (i := 2) scGaps.nd rfl (Or.inr rfl)
      (pe_lc (own := [("lesser", 3)]) (g := gName 3) (tt := tYes) rfl scGaps.nd (pi_range1 (by rfl) hrange (pa_cons (pe_op op_add (pv 1) pe_int) pa_nil))
      (blkOk_by (own := [("lesser", 3)]) (N := ["prime", "number", "met", "lesser", "times"]) (sc := defScope sGaps) (by decide +kernel)) (fun _ _ _ _ _ => pg_name (i := 3) scGaps.nd rfl (Or.inl rfl))
      (fun _ _ _ _ _ => pts_nil) (fun _ _ _ _ _ => pe_call G1 hr rfl D1.g D1.F.kp D1.b .nil pass0 (pa_cons (pv 0) (pa_cons (pv 3) pa_nil)))))
      (pss_one (ps_ret (pe_lc (own := [("times", 4)]) (g := gName 4) (tt := tTest (tOp (rIn K true) (tVar 4) (tVar 2))) rfl scGaps.nd (pi_range1 (by rfl) hrange (pa_cons (pe_op op_add (pe_ix ix_list (pv 2) (pe_un un_neg pe_int) (fun _ _ => rfl)) pe_int) pa_nil))
      (blkOk_by (own := [("times", 4)]) (N := ["prime", "number", "met", "lesser", "times"]) (sc := defScope sGaps) (by decide +kernel)) (fun _ _ _ _ _ => pg_name (i := 4) scGaps.nd rfl (Or.inl rfl))
      (fun _ _ _ _ _ => pts_one (pt_cmpR op_notIn_seq (pv 4) (pv 2) rfl)) (fun _ _ _ _ _ => pv 4)))), ?_⟩
    refine ⟨_, rfl, _, _, rfl, rfl, _, rfl, by omega, by omega, fun M hM => lc_range (lo := 0) (n := ((n : Int) + 1).toNat)
      (fun i H' => Same H H' ∧ H' M = some (.lst (ivs ((List.range i).map (Kp267.times p))))) ⟨same_new (Same.refl H) hM, upd_same⟩ ?_ ?_⟩
    · rintro i H' hi ⟨s1, h1⟩
      refine ⟨rfl, ?_⟩
      refine ⟨_, rfl, _, rfl, _, _, p, i, rfl, rfl, by omega, hp, hp2, by omega, _, h1, ?_, same_old s1 hM, ?_⟩
      · rw [ivs_len, List.length_map, List.length_range]
        exact room (by omega)
      · rw [upd_same, List.range_succ, List.map_append, List.map_cons, List.map_nil, ivs_snoc]
    · rintro H1 ⟨s1, h1⟩
      have en : ((n : Int) + 1).toNat = n + 1 := by omega
      rw [en] at h1
      have hlast : atI (ivs ((List.range (n + 1)).map (Kp267.times p))) (-1) = some (.int ((Kp267.times p n : Nat) : Int)) := by
        rw [List.range_succ, List.map_append, List.map_cons, List.map_nil, ivs_snoc]
        exact atI_last _ _
      have hle := times_le hp n
      refine ⟨_, rfl, _, rfl, M, _, _, _, rfl, rfl, SqL.of h1, hlast, _, _, rfl, rfl, _, rfl, by omega, by omega, fun L hL => lc_range (lo := 0) (n := (((Kp267.times p n : Nat) : Int) + 1).toNat)
        (fun i H' => Same H1 H' ∧ H' L = some (.lst (ivs ((List.range i).filter fun k => !(List.range (n + 1)).any fun m => Kp267.times p m == k)))) ⟨same_new (Same.refl H1) hL, upd_same⟩ ?_ ?_⟩
      · rintro i H' hi ⟨s2, h2⟩
        refine ⟨rfl, _, rfl, _, rfl, M, _, rfl, .inl (SqL.of (s2 _ _ h1)), rfl, flat_ivs _, _, rfl, ?_⟩
        have e0 : V.int (0 + (i : Int)) = V.int (i : Int) := by rw [Int.zero_add]
        have e1 : inV (V.int (0 + (i : Int))) (ivs ((List.range (n + 1)).map (Kp267.times p))) = (List.range (n + 1)).any fun m => Kp267.times p m == i := by
          rw [e0, inV_ivs, List.any_map]
          rfl
        show if (!inV (V.int (0 + (i : Int))) (ivs ((List.range (n + 1)).map (Kp267.times p)))) = true then _ else _
        rw [e1]
        rw [List.range_succ (n := i), List.filter_append]
        cases e : (List.range (n + 1)).any fun m => Kp267.times p m == i with
        | true =>
          refine iteF ?_
          have e2 : List.filter (fun k => !(List.range (n + 1)).any fun m => Kp267.times p m == k) [i] = [] := by
            rw [List.filter_cons, e]
            rfl
          rw [e2, List.append_nil]
          exact ⟨s2, h2⟩
        | false =>
          refine iteT ?_
          have e2 : List.filter (fun k => !(List.range (n + 1)).any fun m => Kp267.times p m == k) [i] = [i] := by
            rw [List.filter_cons, e]
            rfl
          rw [e2]
          refine ⟨_, rfl, _, h2, ?_, same_old s2 hL, ?_⟩
          · rw [ivs_len]
            have a1 := List.length_filter_le (fun k => !(List.range (n + 1)).any fun m => Kp267.times p m == k) (List.range i)
            rw [List.length_range] at a1
            exact room (by omega)
          · rw [upd_same, ivs_snoc, ← e0]
      · rintro H' ⟨s2, h2⟩
        have et : (((Kp267.times p n : Nat) : Int) + 1).toNat = Kp267.times p n + 1 := by omega
        rw [et] at h2
        exact k _ _ (fun b o e => s2 b o (s1 b o e)) (s1.free hL) h2
end
end Pf

namespace Pf
open PySem PySem.Spec PyProof.Rows L2
abbrev sRI : Stmt := inClass (top 23) 0
abbrev sRefuse : Stmt := top 24
abbrev sMust : Stmt := top 25
abbrev sMustP : Stmt := top 35
/-! ### refusals -/
/-- what the written part says of the class Refused, at CR, and of its __init__, at fI -/
structure Rf (K : PySem.W.Frag) (mg : Str → Option Value) (CR fI : Addr) : Prop where
  ox : OexC K CR
  gC : mg "Refused" = some (.ref CR)
  iC : PySem.W.findIn K (.ref CR) "__init__" = some (some (.ref fI))
  tI : PySem.W.typeIn K (.ref fI) = some (.type "function")
  noN : PySem.W.findIn K (.ref CR) "number" = some none
  ve : mg "ValueError" = none
  vV : PySem.W.findCls K (.type "ValueError") (.type "type") "__init__" = some (.val (.builtin "ValueError.__init__"))
  te : PySem.W.exmOne K (.ref CR) (.ref CR) = some true
  xf : XfC K CR
/-- an error with a number leaves, all else as it was -/
def Rfs (CR : Addr) (n : Int) (H : Hp) (E : XK) : Prop := ∀ H' d, Same H H' → H' d = some (.xd [("number", .int n)]) → E (.ref CR) (some d) H'
def spRI (CR : Addr) : Sp := fun vs H Q _ => ∃ (a : Addr) (n : Int), vs = [.ref a, .int n] ∧ H a = some (exo a CR none) ∧
  ∀ dx, H dx = none → dx ≠ a → Q .non (upd (upd H dx (exd dx [("number", .int n)])) a (exo a CR (some dx)))
def spRefuse (CR : Addr) : Sp := fun vs H Q E => ∃ (b : Bool) (n : Int), vs = [.bl b, .int n] ∧ (b = false → Q .non H) ∧ (b = true → Rfs CR n H E)
def spMust (CR : Addr) : Sp := fun vs H Q E => ∃ n lo hi : Int, vs = [.int n, .int lo, .int hi] ∧ (lo ≤ n ∧ n ≤ hi → Q .non H) ∧ (¬ (lo ≤ n ∧ n ≤ hi) → Rfs CR (-22) H E)
def spMustP (CR : Addr) : Sp := fun vs H Q E => ∃ (z : Int) (n : Nat), vs = [.int z] ∧ z = (n : Int) ∧ (Kp266.okP n = true → Q .non H) ∧ (Kp266.okP n = false → Rfs CR (-22) H E)
/-- a module's constant -/
def Cn (mg : Str → Option Value) (x : Str) (i : Int) : Prop := ∃ t, mg x = some (.int i t)
section
variable {P : Program} {w : World} {K : PySem.W.Frag} {mg : Str → Option Value} {base : Heap}
theorem scRI : FnScope ["self", "number"] ["self", "number"] (defScope sRI) := ⟨rfl, rfl, rfl, by decide +kernel, rfl, by decide +kernel, by decide +kernel⟩
theorem ok_ri {CR f : Addr} {fd : FuncData} (F : Fun K "__init__" "Refused.__init__" sRI f fd) (R : Rf K mg CR f) : FnOk P w K mg base CX0 1 f fd ["self", "number"] (spRI CR) := by
  refine F.ok scRI (fun vs H Q E h => ?_) (fun cdv A outer s H vs Q E hr h => ?_)
  · obtain ⟨a, n, rfl, _⟩ := h
    rfl
  · obtain ⟨a, n, rfl, ha, k⟩ := h
    refine ⟨_, pss_cons (ps_expr (pe_veinit (by rfl) R.ve R.vV (pa_cons (pv 0) (pa_cons pe_str pa_nil)))) (pss_one (ps_ost (pv 0) (pv 1))), ?_⟩
    refine ⟨_, rfl, a, CR, _, rfl, (by show 1 ≤ 1000; decide), R.ox, ha, ?_⟩
    exact ⟨_, rfl, _, rfl, a, CR, rfl, R.ox, R.noN, .inl ⟨ha, k⟩⟩
theorem scRefuse : FnScope ["fact", "number"] ["fact", "number"] (defScope sRefuse) := ⟨rfl, rfl, rfl, by decide +kernel, rfl, by decide +kernel, by decide +kernel⟩
theorem ok_refuse {CR f fI : Addr} {fd fdI : FuncData} (D : Df K mg "refuse_where" sRefuse ["fact", "number"] f fd) (R : Rf K mg CR fI) (FI : Fun K "__init__" "Refused.__init__" sRI fI fdI) (bI : Binds K fdI ["self", "number"] []) :
    FnOk P w K mg base (L2.CX P w) 3 f fd ["fact", "number"] (spRefuse CR) := by
  have GI : FnOk P w K mg base CX0 1 fI fdI ["self", "number"] (spRI CR) := ok_ri FI R
  refine D.F.okX scRefuse (fun vs H Q E h => ?_) (fun cdv A outer s H vs Q E hr h => ?_)
  · obtain ⟨b, n, rfl, _⟩ := h
    rfl
  · obtain ⟨b, n, rfl, k1, k2⟩ := h
    refine ⟨_, pss_one (ps_if (pt_val (pv 0)) (pss_one (ps_raise rfl (takes_of rfl rfl rfl rfl) (pmk_oex R.ox R.iC R.tI GI hr bI .nil pass0 (by rfl) R.gC (pa_cons (pv 1) pa_nil)))) pss_nil), ?_⟩
    refine ⟨_, rfl, b, rfl, ?_⟩
    cases b with
    | false => exact k1 rfl
    | true =>
      refine ⟨_, rfl, (by show 1 ≤ 1000; decide), fun a ha => ?_⟩
      refine ⟨a, n, rfl, upd_same, fun dx hdx hne => ⟨rfl, dx, [("number", .int n)], upd_same, ?_, ?_, ?_⟩⟩
      · rw [upd_ne hne, upd_same]
      · rw [upd_ne hne] at hdx
        exact hdx
      · rw [upd_ne hne] at hdx
        refine k2 rfl _ dx (fun b o e => ?_) upd_same
        have h1 : b ≠ dx := ne_of_none e hdx
        have h2 : b ≠ a := ne_of_none e ha
        rw [upd_ne h1, del_ne h2, upd_ne h2, upd_ne h1, upd_ne h2]
        exact e
theorem scMust : FnScope ["number", "least", "most"] ["number", "least", "most"] (defScope sMust) := ⟨rfl, rfl, rfl, by decide +kernel, rfl, by decide +kernel, by decide +kernel⟩
theorem ok_must {CR f f1 : Addr} {fd fd1 : FuncData} (D : Df K mg "must_be_from" sMust ["number", "least", "most"] f fd) (D1 : Df K mg "refuse_where" sRefuse ["fact", "number"] f1 fd1) (G1 : FnOk P w K mg base (L2.CX P w) 3 f1 fd1 ["fact", "number"] (spRefuse CR)) (c22 : Cn mg "NO_SUCH_NUMBER" (-22)) :
    FnOk P w K mg base (L2.CX P w) 4 f fd ["number", "least", "most"] (spMust CR) := by
  obtain ⟨t22, c22⟩ := c22
  refine D.F.okX scMust (fun vs H Q E h => ?_) (fun cdv A outer s H vs Q E hr h => ?_)
  · obtain ⟨n, lo, hi, rfl, _⟩ := h
    rfl
  · obtain ⟨n, lo, hi, rfl, k1, k2⟩ := h
    refine ⟨_, pss_one (ps_expr (pe_call G1 hr rfl D1.g D1.F.kp D1.b .nil (passes_call (takes_of rfl rfl rfl rfl) (fun _ _ _ _ h => h)) (pa_cons (pe_not (pe_chain op_le op_le (pv 1) (pv 0) (pv 2))) (pa_cons (pe_glob (v := .int (-22)) (by rfl) c22 ⟨_, rfl⟩) pa_nil)))), ?_⟩
    refine ⟨_, rfl, _, rfl, _, _, rfl, rfl, _, rfl, if_dec (fun c => ?_) (fun c => ?_)⟩
    · refine ⟨_, rfl, _, _, rfl, rfl, _, rfl, _, _, rfl, fun c2 => ?_, fun c2 => ?_⟩
      · have c3 : n ≤ hi := by simpa using c2
        exact k1 ⟨c, c3⟩
      · have c3 : ¬ n ≤ hi := by simpa using c2
        exact k2 fun z => c3 z.2
    · refine ⟨_, rfl, _, _, rfl, fun c2 => ?_, fun _ => k2 fun z => c z.1⟩
      cases c2
theorem scMustP : FnScope ["number"] ["number"] (defScope sMustP) := ⟨rfl, rfl, rfl, by decide +kernel, rfl, by decide +kernel, by decide +kernel⟩
theorem ok_mustp {CR f f1 f2 : Addr} {fd fd1 fd2 : FuncData} (D : Df K mg "must_be_prime" sMustP ["number"] f fd) (D1 : Df K mg "refuse_where" sRefuse ["fact", "number"] f1 fd1) (G1 : FnOk P w K mg base (L2.CX P w) 3 f1 fd1 ["fact", "number"] (spRefuse CR))
    (D2 : Df K mg "is_prime" sIsP ["number"] f2 fd2) (c22 : Cn mg "NO_SUCH_NUMBER" (-22)) (c99 : Cn mg "MOST_PRIME" 99) : FnOk P w K mg base (L2.CX P w) 4 f fd ["number"] (spMustP CR) := by
  have G2 : FnOk P w K mg base CX0 1 f2 fd2 ["number"] spIsP := ok_isp D2
  obtain ⟨t22, c22⟩ := c22
  obtain ⟨t99, c99⟩ := c99
  refine D.F.okX scMustP (fun vs H Q E h => ?_) (fun cdv A outer s H vs Q E hr h => ?_)
  · obtain ⟨z, n, rfl, _⟩ := h
    rfl
  · obtain ⟨z, n, rfl, rfl, k1, k2⟩ := h
    have hr1 : Room 1 _ := hr.mono (by decide)
    refine ⟨_, pss_one (ps_expr (pe_call G1 hr rfl D1.g D1.F.kp D1.b .nil (passes_call (takes_of rfl rfl rfl rfl) (fun _ _ _ _ h => h)) (pa_cons
      (pe_or (pe_cmpR op_gt (pv 0) (pe_glob (v := .int 99) (by rfl) c99 ⟨_, rfl⟩) (nomark _)) (pe_one (pe_not (pe_call G2 hr1 rfl D2.g D2.F.kp D2.b .nil pass0 (pa_cons (pv 0) pa_nil)))))
      (pa_cons (pe_glob (v := .int (-22)) (by rfl) c22 ⟨_, rfl⟩) pa_nil)))), ?_⟩
    refine ⟨_, rfl, _, _, rfl, rfl, _, rfl, if_dec (fun c => ?_) (fun c => ?_)⟩
    · refine ⟨_, _, rfl, fun c2 => ?_, fun _ => k2 ?_⟩
      · cases c2
      · have : decide (n < 100) = false := decide_eq_false (by omega)
        unfold Kp266.okP
        rw [this] <;> rfl
    · have e : Kp266.okP n = Kp266.isPrime n := by
        have : decide (n < 100) = true := decide_eq_true (by omega)
        unfold Kp266.okP
        rw [this] <;> rfl
      refine ⟨_, rfl, _, n, rfl, rfl, by omega, _, rfl, _, _, rfl, fun c2 => k1 ?_, fun c2 => k2 ?_⟩
      · rw [e]
        simpa using c2
      · rw [e]
        simpa using c2
end
end Pf

namespace Pf
open PySem PySem.Spec PyProof.Rows L2
abbrev sKI : Stmt := inClass (top 36) 0
abbrev sNeed : Stmt := inClass (top 36) 1
abbrev sBegin : Stmt := inClass (top 36) 2
abbrev sChange : Stmt := inClass (top 36) 3
abbrev sProduct : Stmt := inClass (top 36) 4
abbrev sTimes : Stmt := inClass (top 36) 5
abbrev sRestM : Stmt := inClass (top 36) 6
abbrev sLeastM : Stmt := inClass (top 36) 7
abbrev sNoughts : Stmt := inClass (top 36) 8
abbrev sSpan : Stmt := inClass (top 36) 9
abbrev sGapsM : Stmt := inClass (top 36) 10
abbrev sSquare : Stmt := inClass (top 36) 11
abbrev sTwiceM : Stmt := inClass (top 36) 12
abbrev sPartsM : Stmt := inClass (top 36) 13
abbrev sJumps : Stmt := inClass (top 36) 14
/-! ### the keeper as it lies in the heap -/
def kf (v : V) : List (Str × V) := [("prime", v)]
theorem kf_look (v : V) : (kf v).lookup ("prime" : Str) = some v := by
  have e : (("prime" : Str) == ("prime" : Str)) = true := beq_self_eq_true _
  simp only [kf, List.lookup, e]
theorem kf_put (u v : V) : putF "prime" u (kf v) = kf u := if_pos rfl
theorem kf_no (v : V) {m : Str} (h : (m == ("prime" : Str)) = false) : (kf v).lookup m = none := by
  simp only [kf, List.lookup, h]
def KeepAt (CK : Addr) (H : Hp) (k : Addr) (st : Option Nat) : Prop := ∃ dx, H k = some (.ins CK dx (kf (lv st)))
theorem KeepAt.same {CK : Addr} {H H' : Hp} {k : Addr} {st : Option Nat} (h : KeepAt CK H k st) (s : Same H H') : KeepAt CK H' k st := by
  obtain ⟨dx, e⟩ := h
  exact ⟨dx, s _ _ e⟩
/-- all but the keeper is as it was -/
def Keeps (k : Addr) (H H' : Hp) : Prop := ∀ b o, b ≠ k → H b = some o → H' b = some o
structure Kp (K : PySem.W.Frag) (CK : Addr) : Prop where
  cl : Cls K CK
  nP : NoAttr K CK "prime"
structure Mf (K : PySem.W.Frag) (CK : Addr) (m qual : Str) (st : Stmt) (ps : List Str) (f : Addr) (fd : FuncData) : Prop where
  F : Fun K m qual st f fd
  m : Meth K CK m f
  b : Binds K fd ps []
/-! ### what a call answers -/
def alist (a : Kp267.Ans) : List V := (a.num :: a.nums).map V.int
def Tells (CR : Addr) (H : Hp) (Q : VK) (E : XK) (a : Kp267.Ans) : Prop := (∀ H' l, Same H H' → H l = none → H' l = some (.lst (alist a)) → Q (.ref l) H') ∧ ∀ z, a = Kp267.say z → Rfs CR z H E
def spKI (CK : Addr) : Sp := fun vs H Q _ => ∃ (a dx : Addr), vs = [.ref a] ∧ H a = some (.ins CK dx []) ∧ Q .non (upd H a (.ins CK dx (kf .non)))
def spNeed (CK CR : Addr) : Sp := fun vs H Q E => ∃ (a : Addr) (st : Option Nat), vs = [.ref a] ∧ KeepAt CK H a st ∧ (st ≠ none → Q .non H) ∧ (st = none → Rfs CR (-11) H E)
def spBegin (CK CR : Addr) : Sp := fun vs H Q E => ∃ (a : Addr) (z : Int) (st : Option Nat) (n : Nat), vs = [.ref a, .int z] ∧ z = (n : Int) ∧ KeepAt CK H a st ∧
  (Kp266.okP n = true → ∀ H' l, Keeps a H H' → KeepAt CK H' a (some n) → H l = none → H' l = some (.lst [.int (n : Int)]) → Q (.ref l) H') ∧ (Kp266.okP n = false → Rfs CR (-22) H E)
def spChange (CK CR : Addr) : Sp := fun vs H Q E => ∃ (a : Addr) (z : Int) (p n : Nat), vs = [.ref a, .int z] ∧ z = (n : Int) ∧ KeepAt CK H a (some p) ∧
  (Kp266.okP n = true → ∀ H' l, Keeps a H H' → KeepAt CK H' a (some n) → H l = none → H' l = some (.lst [.int (p : Int)]) → Q (.ref l) H') ∧ (Kp266.okP n = false → Rfs CR (-22) H E)
/-- a call with one number, one with two: the keeper is as it was -/
def sp1 (CK CR : Addr) (c : Nat → Kp267.Call) : Sp := fun vs H Q E => ∃ (a : Addr) (z : Int) (p n : Nat), vs = [.ref a, .int z] ∧ z = (n : Int) ∧ KeepAt CK H a (some p) ∧ Kp266.okP p = true ∧ Tells CR H Q E (Kp267.step (some p) (c n)).2
def sp2 (CK CR : Addr) (c : Nat → Nat → Kp267.Call) : Sp := fun vs H Q E => ∃ (a : Addr) (y z : Int) (p n m : Nat), vs = [.ref a, .int y, .int z] ∧ y = (n : Int) ∧ z = (m : Int) ∧ KeepAt CK H a (some p) ∧ Kp266.okP p = true ∧ Tells CR H Q E (Kp267.step (some p) (c n m)).2
theorem tells_no {CR : Addr} {H : Hp} {Q : VK} {E : XK} {a : Kp267.Ans} (t : Tells CR H Q E a) {z : Int} (h : a = Kp267.say z) : Rfs CR z H E := t.2 z h
section
variable {P : Program} {w : World} {K : PySem.W.Frag} {mg : Str → Option Value} {base : Heap}
theorem scKI : FnScope ["self"] ["self"] (defScope sKI) := ⟨rfl, rfl, rfl, by decide +kernel, rfl, by decide +kernel, by decide +kernel⟩
theorem ok_ki {CK f : Addr} {fd : FuncData} (F : Fun K "__init__" "Keeper.__init__" sKI f fd) (T : Kp K CK) : FnOk P w K mg base CX0 1 f fd ["self"] (spKI CK) := by
  refine F.ok scKI (fun vs H Q E h => ?_) (fun cdv A outer s H vs Q E hr h => ?_)
  · obtain ⟨a, dx, rfl, _⟩ := h
    rfl
  · obtain ⟨a, dx, rfl, ha, k⟩ := h
    exact ⟨_, pss_one (ps_fld (pv 0) pe_non rfl), _, rfl, a, CK, dx, [], rfl, ha, T.cl, T.nP, (by show 0 < 1000; decide), k⟩
theorem scNeed : FnScope ["self"] ["self"] (defScope sNeed) := ⟨rfl, rfl, rfl, by decide +kernel, rfl, by decide +kernel, by decide +kernel⟩
theorem ok_need {CK CR f f1 : Addr} {fd fd1 : FuncData} (M : Mf K CK "need_begun" "Keeper.need_begun" sNeed ["self"] f fd) (T : Kp K CK) (D1 : Df K mg "refuse_where" sRefuse ["fact", "number"] f1 fd1) (G1 : FnOk P w K mg base (L2.CX P w) 3 f1 fd1 ["fact", "number"] (spRefuse CR)) (c11 : Cn mg "NOT_BEGUN" (-11)) :
    FnOk P w K mg base (L2.CX P w) 5 f fd ["self"] (spNeed CK CR) := by
  obtain ⟨t11, c11⟩ := c11
  refine M.F.okX scNeed (fun vs H Q E h => ?_) (fun cdv A outer s H vs Q E hr h => ?_)
  · obtain ⟨a, st, rfl, _⟩ := h
    rfl
  · obtain ⟨a, st, rfl, ⟨dx, ha⟩, k1, k2⟩ := h
    have hr3 : Room 3 _ := hr.mono (by decide)
    refine ⟨_, pss_one (ps_expr (pe_call G1 hr3 rfl D1.g D1.F.kp D1.b .nil (passes_call (takes_of rfl rfl rfl rfl) (fun _ _ _ _ h => h)) (pa_cons (pe_cmpR op_isN (pe_fld (pv 0) rfl) pe_non (nomark _)) (pa_cons (pe_glob (v := .int (-11)) (by rfl) c11 ⟨_, rfl⟩) pa_nil)))), ?_⟩
    refine ⟨_, rfl, a, CK, dx, _, _, rfl, ha, T.cl, T.nP, kf_look _, rfl, _, _, rfl, fun c => k1 ?_, fun c => k2 ?_⟩
    · intro e
      subst e
      have := of_decide_eq_false c
      exact this rfl
    · have := of_decide_eq_true c
      cases st with
      | none => rfl
      | some p => cases this
theorem scBegin : FnScope ["self", "prime"] ["self", "prime"] (defScope sBegin) := ⟨rfl, rfl, rfl, by decide +kernel, rfl, by decide +kernel, by decide +kernel⟩
theorem ok_begin {CK CR f f1 : Addr} {fd fd1 : FuncData} (M : Mf K CK "begin" "Keeper.begin" sBegin ["self", "prime"] f fd) (T : Kp K CK) (D1 : Df K mg "must_be_prime" sMustP ["number"] f1 fd1) (G1 : FnOk P w K mg base (L2.CX P w) 4 f1 fd1 ["number"] (spMustP CR)) :
    FnOk P w K mg base (L2.CX P w) 5 f fd ["self", "prime"] (spBegin CK CR) := by
  refine M.F.okX scBegin (fun vs H Q E h => ?_) (fun cdv A outer s H vs Q E hr h => ?_)
  · obtain ⟨a, z, st, n, rfl, _⟩ := h
    rfl
  · obtain ⟨a, z, st, n, rfl, rfl, ⟨dx, ha⟩, k1, k2⟩ := h
    refine ⟨_, pss_cons (ps_expr (pe_call G1 hr rfl D1.g D1.F.kp D1.b .nil (passes_call (takes_of rfl rfl rfl rfl) (fun _ _ _ _ h => h)) (pa_cons (pv 1) pa_nil)))
      (pss_cons (ps_fld (pv 0) (pv 1) rfl) (pss_one (ps_ret (pe_lst (pa_cons (pv 1) pa_nil))))), ?_⟩
    refine ⟨_, rfl, _, n, rfl, rfl, fun c => ?_, k2⟩
    refine ⟨_, rfl, _, rfl, a, CK, dx, _, rfl, ha, T.cl, T.nP, (by show 1 < 1000; decide), ?_⟩
    refine ⟨_, rfl, (by show 1 ≤ sizeLine; decide), fun l hl => ?_⟩
    have hla : l ≠ a := fun e => by
      rw [e, upd_same] at hl
      cases hl
    refine k1 c _ l (fun b o hb e => ?_) ⟨dx, ?_⟩ (by rw [upd_ne hla] at hl; exact hl) upd_same
    · have hbl : b ≠ l := fun e2 => by
        rw [upd_ne hla] at hl
        rw [e2, hl] at e
        cases e
      rw [upd_ne hbl, upd_ne hb]
      exact e
    · rw [upd_ne hla.symm, upd_same, kf_put]
      rfl
theorem scChange : FnScope ["self", "prime", "before"] ["self", "prime"] (defScope sChange) := ⟨rfl, rfl, rfl, by decide +kernel, rfl, by decide +kernel, by decide +kernel⟩
theorem ok_change {CK CR f f1 : Addr} {fd fd1 : FuncData} (M : Mf K CK "change" "Keeper.change" sChange ["self", "prime"] f fd) (T : Kp K CK) (D1 : Df K mg "must_be_prime" sMustP ["number"] f1 fd1) (G1 : FnOk P w K mg base (L2.CX P w) 4 f1 fd1 ["number"] (spMustP CR)) :
    FnOk P w K mg base (L2.CX P w) 5 f fd ["self", "prime"] (spChange CK CR) := by
  refine M.F.okX scChange (fun vs H Q E h => ?_) (fun cdv A outer s H vs Q E hr h => ?_)
  · obtain ⟨a, z, p, n, rfl, _⟩ := h
    rfl
  · obtain ⟨a, z, p, n, rfl, rfl, ⟨dx, ha⟩, k1, k2⟩ := h
    refine ⟨_, pss_cons (ps_expr (pe_call G1 hr rfl D1.g D1.F.kp D1.b .nil (passes_call (takes_of rfl rfl rfl rfl) (fun _ _ _ _ h => h)) (pa_cons (pv 1) pa_nil)))
      (pss_cons (ps_set (i := 2) scChange.nd rfl (Or.inl rfl) (pe_fld (pv 0) rfl))
      (pss_cons (ps_fld (pv 0) (pv 1) rfl) (pss_one (ps_ret (pe_lst (pa_cons (pv 2) pa_nil)))))), ?_⟩
    refine ⟨_, rfl, _, n, rfl, rfl, fun c => ?_, k2⟩
    refine ⟨_, rfl, a, CK, dx, _, _, rfl, ha, T.cl, T.nP, kf_look _, ?_⟩
    refine ⟨_, rfl, _, rfl, a, CK, dx, _, rfl, ha, T.cl, T.nP, (by show 1 < 1000; decide), ?_⟩
    refine ⟨_, rfl, (by show 1 ≤ sizeLine; decide), fun l hl => ?_⟩
    have hla : l ≠ a := fun e => by
      rw [e, upd_same] at hl
      cases hl
    refine k1 c _ l (fun b o hb e => ?_) ⟨dx, ?_⟩ (by rw [upd_ne hla] at hl; exact hl) upd_same
    · have hbl : b ≠ l := fun e2 => by
        rw [upd_ne hla] at hl
        rw [e2, hl] at e
        cases e
      rw [upd_ne hbl, upd_ne hb]
      exact e
    · rw [upd_ne hla.symm, upd_same, kf_put]
      rfl
/-! ### the methods that leave the keeper as it is -/
theorem scProduct : FnScope ["self", "number"] ["self", "number"] (defScope sProduct) := ⟨rfl, rfl, rfl, by decide +kernel, rfl, by decide +kernel, by decide +kernel⟩
theorem ok_product {CK CR f f1 f2 : Addr} {fd fd1 fd2 : FuncData} (M : Mf K CK "product" "Keeper.product" sProduct ["self", "number"] f fd) (D1 : Df K mg "must_be_from" sMust ["number", "least", "most"] f1 fd1) (G1 : FnOk P w K mg base (L2.CX P w) 4 f1 fd1 ["number", "least", "most"] (spMust CR))
    (D2 : Df K mg "product_of" sProd ["number"] f2 fd2) (hrange : mg "range" = none) (c20 : Cn mg "MOST_TOLD" 20) :
    FnOk P w K mg base (L2.CX P w) 5 f fd ["self", "number"] (sp1 CK CR .prod) := by
  have G2 : FnOk P w K mg base CX0 1 f2 fd2 ["number"] spProd := ok_prod D2 hrange
  obtain ⟨t20, c20⟩ := c20
  refine M.F.okX scProduct (fun vs H Q E h => ?_) (fun cdv A outer s H vs Q E hr h => ?_)
  · obtain ⟨a, z, p, n, rfl, _⟩ := h
    rfl
  · obtain ⟨a, z, p, n, rfl, rfl, ⟨dx, ha⟩, hp, k⟩ := h
    have hr1 : Room 1 _ := hr.mono (by decide)
    have k' : Tells CR H Q E (if 20 < n then Kp267.say (-22) else Kp267.say ((Kp267.prod n : Nat) : Int)) := k
    refine ⟨_, pss_cons (ps_expr (pe_call G1 hr rfl D1.g D1.F.kp D1.b .nil (passes_call (takes_of rfl rfl rfl rfl) (fun _ _ _ _ h => h)) (pa_cons (pv 1) (pa_cons pe_int (pa_cons (pe_glob (v := .int 20) (by rfl) c20 ⟨_, rfl⟩) pa_nil)))))
      (pss_one (ps_ret (pe_lst (pa_cons (pe_call G2 hr1 rfl D2.g D2.F.kp D2.b .nil pass0 (pa_cons (pv 1) pa_nil)) pa_nil)))), ?_⟩
    refine ⟨_, rfl, _, _, _, rfl, fun c => ?_, fun c => ?_⟩
    · rw [if_neg (by omega)] at k'
      refine ⟨_, rfl, _, n, rfl, rfl, by omega, (by show 1 ≤ sizeLine; decide), fun l hl => ?_⟩
      exact k'.1 _ l (same_new (Same.refl H) hl) hl upd_same
    · rw [if_pos (by omega)] at k'
      exact k'.2 _ rfl
theorem scTimes : FnScope ["self", "number"] ["self", "number"] (defScope sTimes) := ⟨rfl, rfl, rfl, by decide +kernel, rfl, by decide +kernel, by decide +kernel⟩
theorem ok_times {CK CR f f1 f2 : Addr} {fd fd1 fd2 : FuncData} (M : Mf K CK "times" "Keeper.times" sTimes ["self", "number"] f fd) (T : Kp K CK) (D1 : Df K mg "must_be_from" sMust ["number", "least", "most"] f1 fd1) (G1 : FnOk P w K mg base (L2.CX P w) 4 f1 fd1 ["number", "least", "most"] (spMust CR))
    (D2 : Df K mg "often" sOften ["prime", "number"] f2 fd2) (cM : Cn mg "MOST" 1000000) :
    FnOk P w K mg base (L2.CX P w) 5 f fd ["self", "number"] (sp1 CK CR .times) := by
  have G2 : FnOk P w K mg base CX0 1 f2 fd2 ["prime", "number"] spOften := ok_often D2
  obtain ⟨tM, cM⟩ := cM
  refine M.F.okX scTimes (fun vs H Q E h => ?_) (fun cdv A outer s H vs Q E hr h => ?_)
  · obtain ⟨a, z, p, n, rfl, _⟩ := h
    rfl
  · obtain ⟨a, z, p, n, rfl, rfl, ⟨dx, ha⟩, hp, k⟩ := h
    have hr1 : Room 1 _ := hr.mono (by decide)
    obtain ⟨hp1, hp2⟩ := okP_lt hp
    have k' : Tells CR H Q E (if 1000000 < n then Kp267.say (-22) else Kp267.say ((Kp267.times p n : Nat) : Int)) := k
    refine ⟨_, pss_cons (ps_expr (pe_call G1 hr rfl D1.g D1.F.kp D1.b .nil (passes_call (takes_of rfl rfl rfl rfl) (fun _ _ _ _ h => h)) (pa_cons (pv 1) (pa_cons pe_int (pa_cons (pe_glob (v := .int 1000000) (by rfl) cM ⟨_, rfl⟩) pa_nil)))))
      (pss_one (ps_ret (pe_lst (pa_cons (pe_call G2 hr1 rfl D2.g D2.F.kp D2.b .nil pass0 (pa_cons (pe_fld (pv 0) rfl) (pa_cons (pv 1) pa_nil))) pa_nil)))), ?_⟩
    refine ⟨_, rfl, _, _, _, rfl, fun c => ?_, fun c => ?_⟩
    · rw [if_neg (by omega)] at k'
      refine ⟨_, rfl, a, CK, dx, _, _, rfl, ha, T.cl, T.nP, kf_look _, _, rfl, _, _, p, n, rfl, rfl, rfl, hp2, by omega, by omega, (by show 1 ≤ sizeLine; decide), fun l hl => ?_⟩
      exact k'.1 _ l (same_new (Same.refl H) hl) hl upd_same
    · rw [if_pos (by omega)] at k'
      exact k'.2 _ rfl
theorem scRestM : FnScope ["self", "number"] ["self", "number"] (defScope sRestM) := ⟨rfl, rfl, rfl, by decide +kernel, rfl, by decide +kernel, by decide +kernel⟩
theorem ok_restm {CK CR f f1 f2 : Addr} {fd fd1 fd2 : FuncData} (M : Mf K CK "rest" "Keeper.rest" sRestM ["self", "number"] f fd) (T : Kp K CK) (D1 : Df K mg "must_be_from" sMust ["number", "least", "most"] f1 fd1) (G1 : FnOk P w K mg base (L2.CX P w) 4 f1 fd1 ["number", "least", "most"] (spMust CR))
    (D2 : Df K mg "rest_of" sRest ["prime", "number"] f2 fd2) (G2 : FnOk P w K mg base CX0 2 f2 fd2 ["prime", "number"] spRest) (cM : Cn mg "MOST" 1000000) :
    FnOk P w K mg base (L2.CX P w) 5 f fd ["self", "number"] (sp1 CK CR .rest) := by
  obtain ⟨tM, cM⟩ := cM
  refine M.F.okX scRestM (fun vs H Q E h => ?_) (fun cdv A outer s H vs Q E hr h => ?_)
  · obtain ⟨a, z, p, n, rfl, _⟩ := h
    rfl
  · obtain ⟨a, z, p, n, rfl, rfl, ⟨dx, ha⟩, hp, k⟩ := h
    have hr2 : Room 2 _ := hr.mono (by decide)
    have k' : Tells CR H Q E (if 1000000 < n then Kp267.say (-22) else Kp267.say ((Kp267.rest p n : Nat) : Int)) := k
    refine ⟨_, pss_cons (ps_expr (pe_call G1 hr rfl D1.g D1.F.kp D1.b .nil (passes_call (takes_of rfl rfl rfl rfl) (fun _ _ _ _ h => h)) (pa_cons (pv 1) (pa_cons pe_int (pa_cons (pe_glob (v := .int 1000000) (by rfl) cM ⟨_, rfl⟩) pa_nil)))))
      (pss_one (ps_ret (pe_lst (pa_cons (pe_call G2 hr2 rfl D2.g D2.F.kp D2.b .nil pass0 (pa_cons (pe_fld (pv 0) rfl) (pa_cons (pv 1) pa_nil))) pa_nil)))), ?_⟩
    refine ⟨_, rfl, _, _, _, rfl, fun c => ?_, fun c => ?_⟩
    · rw [if_neg (by omega)] at k'
      refine ⟨_, rfl, a, CK, dx, _, _, rfl, ha, T.cl, T.nP, kf_look _, _, rfl, _, _, p, n, rfl, rfl, rfl, hp, by omega, (by show 1 ≤ sizeLine; decide), fun l hl => ?_⟩
      exact k'.1 _ l (same_new (Same.refl H) hl) hl upd_same
    · rw [if_pos (by omega)] at k'
      exact k'.2 _ rfl
theorem scLeastM : FnScope ["self", "times", "number"] ["self", "times"] (defScope sLeastM) := ⟨rfl, rfl, rfl, by decide +kernel, rfl, by decide +kernel, by decide +kernel⟩
theorem ok_leastm {CK CR f f1 f2 f3 f4 : Addr} {fd fd1 fd2 fd3 fd4 : FuncData} (M : Mf K CK "least" "Keeper.least" sLeastM ["self", "times"] f fd) (T : Kp K CK) (D1 : Df K mg "must_be_from" sMust ["number", "least", "most"] f1 fd1) (G1 : FnOk P w K mg base (L2.CX P w) 4 f1 fd1 ["number", "least", "most"] (spMust CR))
    (D2 : Df K mg "often" sOften ["prime", "number"] f2 fd2) (D3 : Df K mg "least_for" sLeast ["prime", "times", "most"] f3 fd3) (D4 : Df K mg "refuse_where" sRefuse ["fact", "number"] f4 fd4) (G4 : FnOk P w K mg base (L2.CX P w) 3 f4 fd4 ["fact", "number"] (spRefuse CR))
    (hrange : mg "range" = none) (c600 : Cn mg "MOST_TIMES" 600) (c699 : Cn mg "MOST_SOUGHT" 699) (c33 : Cn mg "NONE_SO_SMALL" (-33)) :
    FnOk P w K mg base (L2.CX P w) 5 f fd ["self", "times"] (sp1 CK CR .least) := by
  have G2 : FnOk P w K mg base CX0 1 f2 fd2 ["prime", "number"] spOften := ok_often D2
  have G3 : FnOk P w K mg base CX0 2 f3 fd3 ["prime", "times", "most"] spLeast := ok_least D3 D2 hrange
  obtain ⟨t600, c600⟩ := c600
  obtain ⟨t699, c699⟩ := c699
  obtain ⟨t33, c33⟩ := c33
  refine M.F.okX scLeastM (fun vs H Q E h => ?_) (fun cdv A outer s H vs Q E hr h => ?_)
  · obtain ⟨a, z, p, n, rfl, _⟩ := h
    rfl
  · obtain ⟨a, z, p, t, rfl, rfl, ⟨dx, ha⟩, hp, k⟩ := h
    have hr1 : Room 1 _ := hr.mono (by decide)
    have hr2 : Room 2 _ := hr.mono (by decide)
    have hr3 : Room 3 _ := hr.mono (by decide)
    obtain ⟨hp1, hp2⟩ := okP_lt hp
    have k' : Tells CR H Q E (if 600 < t then Kp267.say (-22) else match Kp267.least p t with
          | some n => ⟨((n : Nat) : Int), Kp267.ints [Kp267.times p n]⟩
          | none => Kp267.say (-33)) := k
    refine ⟨_, pss_cons (ps_expr (pe_call G1 hr rfl D1.g D1.F.kp D1.b .nil (passes_call (takes_of rfl rfl rfl rfl) (fun _ _ _ _ h => h)) (pa_cons (pv 1) (pa_cons pe_int (pa_cons (pe_glob (v := .int 600) (by rfl) c600 ⟨_, rfl⟩) pa_nil)))))
      (pss_cons (ps_set (i := 2) scLeastM.nd rfl (Or.inl rfl) (pe_call G3 hr2 rfl D3.g D3.F.kp D3.b .nil pass0 (pa_cons (pe_fld (pv 0) rfl) (pa_cons (pv 1) (pa_cons (pe_glob (v := .int 699) (by rfl) c699 ⟨_, rfl⟩) pa_nil)))))
      (pss_cons (ps_expr (pe_call G4 hr3 rfl D4.g D4.F.kp D4.b .nil (passes_call (takes_of rfl rfl rfl rfl) (fun _ _ _ _ h => h)) (pa_cons (pe_cmpR op_isN (pv 2) pe_non (nomark _)) (pa_cons (pe_glob (v := .int (-33)) (by rfl) c33 ⟨_, rfl⟩) pa_nil))))
      (pss_one (ps_ret (pe_lst (pa_cons (pv 2) (pa_cons (pe_call G2 hr1 rfl D2.g D2.F.kp D2.b .nil pass0 (pa_cons (pe_fld (pv 0) rfl) (pa_cons (pv 2) pa_nil))) pa_nil))))))), ?_⟩
    refine ⟨_, rfl, _, _, _, rfl, fun c => ?_, fun c => ?_⟩
    · rw [if_neg (by omega)] at k'
      refine ⟨_, rfl, a, CK, dx, _, _, rfl, ha, T.cl, T.nP, kf_look _, _, rfl, _, _, p, t, rfl, rfl, rfl, hp2, by omega, ?_⟩
      cases e : Kp267.least p t with
      | none =>
        rw [e] at k'
        refine ⟨_, rfl, rfl, _, _, rfl, fun c2 => ?_, fun _ => k'.2 _ rfl⟩
        exact absurd rfl (of_decide_eq_false c2)
      | some n =>
        rw [e] at k'
        have hn : n < 700 := by
          unfold Kp267.least at e
          exact List.mem_range.mp (List.mem_of_find?_eq_some e)
        refine ⟨_, rfl, rfl, _, _, rfl, fun _ => ?_, fun c2 => ?_⟩
        · refine ⟨_, rfl, _, rfl, a, CK, dx, _, _, rfl, ha, T.cl, T.nP, kf_look _, _, rfl, _, _, p, n, rfl, rfl, rfl, hp2, by omega, by omega, (by show 2 ≤ sizeLine; decide), fun l hl => ?_⟩
          exact k'.1 _ l (same_new (Same.refl H) hl) hl upd_same
        · cases of_decide_eq_true c2
    · rw [if_pos (by omega)] at k'
      exact k'.2 _ rfl
end
end Pf

namespace Pf
open PySem PySem.Spec PyProof.Rows L2
theorem ivs_ints (l : List Nat) : (Kp267.ints l).map V.int = ivs l := by
  unfold Kp267.ints ivs
  rw [List.map_map]
  rfl
section
variable {P : Program} {w : World} {K : PySem.W.Frag} {mg : Str → Option Value} {base : Heap}
theorem scNoughts : FnScope ["self", "base", "number"] ["self", "base", "number"] (defScope sNoughts) := ⟨rfl, rfl, rfl, by decide +kernel, rfl, by decide +kernel, by decide +kernel⟩
theorem ok_noughts {CK CR f f1 f2 : Addr} {fd fd1 fd2 : FuncData} (M : Mf K CK "noughts" "Keeper.noughts" sNoughts ["self", "base", "number"] f fd) (D1 : Df K mg "must_be_from" sMust ["number", "least", "most"] f1 fd1) (G1 : FnOk P w K mg base (L2.CX P w) 4 f1 fd1 ["number", "least", "most"] (spMust CR))
    (D2 : Df K mg "noughts_of" sNou ["base", "number"] f2 fd2) (G2 : FnOk P w K mg base CX0 4 f2 fd2 ["base", "number"] spNou) (cM : Cn mg "MOST" 1000000) (c2 : Cn mg "LEAST_BASE" 2) (c100 : Cn mg "MOST_BASE" 100) :
    FnOk P w K mg base (L2.CX P w) 5 f fd ["self", "base", "number"] (sp2 CK CR .noughts) := by
  obtain ⟨tM, cM⟩ := cM
  obtain ⟨t2, c2⟩ := c2
  obtain ⟨t100, c100⟩ := c100
  refine M.F.okX scNoughts (fun vs H Q E h => ?_) (fun cdv A outer s H vs Q E hr h => ?_)
  · obtain ⟨a, y, z, p, n, m, rfl, _⟩ := h
    rfl
  · obtain ⟨a, y, z, p, b, n, rfl, rfl, rfl, ⟨dx, ha⟩, hp, k⟩ := h
    have k' : Tells CR H Q E (if b < 2 ∨ 100 < b ∨ 1000000 < n then Kp267.say (-22) else Kp267.say ((Kp267.noughts b n : Nat) : Int)) := k
    refine ⟨_, pss_cons (ps_expr (pe_call G1 hr rfl D1.g D1.F.kp D1.b .nil (passes_call (takes_of rfl rfl rfl rfl) (fun _ _ _ _ h => h)) (pa_cons (pv 1) (pa_cons (pe_glob (v := .int 2) (by rfl) c2 ⟨_, rfl⟩) (pa_cons (pe_glob (v := .int 100) (by rfl) c100 ⟨_, rfl⟩) pa_nil)))))
      (pss_cons (ps_expr (pe_call G1 hr rfl D1.g D1.F.kp D1.b .nil (passes_call (takes_of rfl rfl rfl rfl) (fun _ _ _ _ h => h)) (pa_cons (pv 2) (pa_cons pe_int (pa_cons (pe_glob (v := .int 1000000) (by rfl) cM ⟨_, rfl⟩) pa_nil)))))
      (pss_one (ps_ret (pe_lst (pa_cons (pe_call G2 hr rfl D2.g D2.F.kp D2.b .nil pass0 (pa_cons (pv 1) (pa_cons (pv 2) pa_nil))) pa_nil))))), ?_⟩
    refine ⟨_, rfl, _, _, _, rfl, fun c => ?_, fun c => ?_⟩
    · refine ⟨_, rfl, _, _, _, rfl, fun c3 => ?_, fun c3 => ?_⟩
      · rw [if_neg (by omega)] at k'
        refine ⟨_, rfl, _, rfl, _, _, b, n, rfl, rfl, rfl, by omega, by omega, by omega, fun H1 s1 => ⟨(by show 1 ≤ sizeLine; decide), fun l hl => ?_⟩⟩
        exact k'.1 _ l (same_new s1 hl) (s1.free hl) upd_same
      · rw [if_pos (by omega)] at k'
        exact k'.2 _ rfl
    · rw [if_pos (by omega)] at k'
      exact k'.2 _ rfl
theorem scSpan : FnScope ["self", "first", "last"] ["self", "first", "last"] (defScope sSpan) := ⟨rfl, rfl, rfl, by decide +kernel, rfl, by decide +kernel, by decide +kernel⟩
theorem ok_span {CK CR f f1 f2 : Addr} {fd fd1 fd2 : FuncData} (M : Mf K CK "span" "Keeper.span" sSpan ["self", "first", "last"] f fd) (T : Kp K CK) (D1 : Df K mg "must_be_from" sMust ["number", "least", "most"] f1 fd1) (G1 : FnOk P w K mg base (L2.CX P w) 4 f1 fd1 ["number", "least", "most"] (spMust CR))
    (D2 : Df K mg "often" sOften ["prime", "number"] f2 fd2) (cM : Cn mg "MOST" 1000000) :
    FnOk P w K mg base (L2.CX P w) 5 f fd ["self", "first", "last"] (sp2 CK CR .span) := by
  have G2 : FnOk P w K mg base CX0 1 f2 fd2 ["prime", "number"] spOften := ok_often D2
  obtain ⟨tM, cM⟩ := cM
  refine M.F.okX scSpan (fun vs H Q E h => ?_) (fun cdv A outer s H vs Q E hr h => ?_)
  · obtain ⟨a, y, z, p, n, m, rfl, _⟩ := h
    rfl
  · obtain ⟨a, y, z, p, n, m, rfl, rfl, rfl, ⟨dx, ha⟩, hp, k⟩ := h
    have hr1 : Room 1 _ := hr.mono (by decide)
    obtain ⟨hp1, hp2⟩ := okP_lt hp
    have k' : Tells CR H Q E (if n = 0 ∨ 1000000 < m ∨ m < n then Kp267.say (-22) else Kp267.say ((Kp267.times p m - Kp267.times p (n - 1) : Nat) : Int)) := k
    refine ⟨_, pss_cons (ps_expr (pe_call G1 hr rfl D1.g D1.F.kp D1.b .nil (passes_call (takes_of rfl rfl rfl rfl) (fun _ _ _ _ h => h)) (pa_cons (pv 1) (pa_cons pe_int (pa_cons (pe_glob (v := .int 1000000) (by rfl) cM ⟨_, rfl⟩) pa_nil)))))
      (pss_cons (ps_expr (pe_call G1 hr rfl D1.g D1.F.kp D1.b .nil (passes_call (takes_of rfl rfl rfl rfl) (fun _ _ _ _ h => h)) (pa_cons (pv 2) (pa_cons (pv 1) (pa_cons (pe_glob (v := .int 1000000) (by rfl) cM ⟨_, rfl⟩) pa_nil)))))
      (pss_one (ps_ret (pe_lst (pa_cons (pe_op op_sub (pe_call G2 hr1 rfl D2.g D2.F.kp D2.b .nil pass0 (pa_cons (pe_fld (pv 0) rfl) (pa_cons (pv 2) pa_nil)))
        (pe_call G2 hr1 rfl D2.g D2.F.kp D2.b .nil pass0 (pa_cons (pe_fld (pv 0) rfl) (pa_cons (pe_op op_sub (pv 1) pe_int) pa_nil)))) pa_nil))))), ?_⟩
    refine ⟨_, rfl, _, _, _, rfl, fun c => ?_, fun c => ?_⟩
    · refine ⟨_, rfl, _, rfl, _, _, _, rfl, fun c3 => ?_, fun c3 => ?_⟩
      · rw [if_neg (by omega)] at k'
        have hmono := times_mono p (n := n - 1) (m := m) (by omega)
        refine ⟨_, rfl, a, CK, dx, _, _, rfl, ha, T.cl, T.nP, kf_look _, _, rfl, _, _, p, m, rfl, rfl, rfl, hp2, by omega, by omega, ?_⟩
        refine ⟨_, rfl, a, CK, dx, _, _, rfl, ha, T.cl, T.nP, kf_look _, _, rfl, _, _, rfl, rfl, _, _, p, n - 1, rfl, rfl, by omega, hp2, by omega, by omega, _, _, rfl, rfl, (by show 1 ≤ sizeLine; decide), fun l hl => ?_⟩
        refine k'.1 _ l (same_new (Same.refl H) hl) hl ?_
        have e : ((Kp267.times p m : Nat) : Int) - ((Kp267.times p (n - 1) : Nat) : Int) = ((Kp267.times p m - Kp267.times p (n - 1) : Nat) : Int) := by omega
        rw [upd_same]
        dsimp only
        rw [e]
        rfl
      · rw [if_pos (by omega)] at k'
        exact k'.2 _ rfl
    · rw [if_pos (by omega)] at k'
      exact k'.2 _ rfl
theorem scGapsM : FnScope ["self", "number", "found"] ["self", "number"] (defScope sGapsM) := ⟨rfl, rfl, rfl, by decide +kernel, rfl, by decide +kernel, by decide +kernel⟩
theorem gaps_len (p n : Nat) : (Kp267.gaps p n).length ≤ Kp267.times p n + 1 := by
  unfold Kp267.gaps
  have := List.length_filter_le (fun k => !(List.range (n + 1)).any fun m => Kp267.times p m == k) (List.range (Kp267.times p n + 1))
  rw [List.length_range] at this
  exact this
theorem ok_gapsm {CK CR f f1 f2 : Addr} {fd fd1 fd2 : FuncData} (M : Mf K CK "gaps" "Keeper.gaps" sGapsM ["self", "number"] f fd) (T : Kp K CK) (D1 : Df K mg "must_be_from" sMust ["number", "least", "most"] f1 fd1) (G1 : FnOk P w K mg base (L2.CX P w) 4 f1 fd1 ["number", "least", "most"] (spMust CR))
    (D2 : Df K mg "gaps_of" sGaps ["prime", "number"] f2 fd2) (G2 : FnOk P w K mg base CX0 2 f2 fd2 ["prime", "number"] spGaps) (c60 : Cn mg "MOST_SMALL" 60) (hlen : mg "len" = none) :
    FnOk P w K mg base (L2.CX P w) 5 f fd ["self", "number"] (sp1 CK CR .gaps) := by
  obtain ⟨t60, c60⟩ := c60
  refine M.F.okX scGapsM (fun vs H Q E h => ?_) (fun cdv A outer s H vs Q E hr h => ?_)
  · obtain ⟨a, z, p, n, rfl, _⟩ := h
    rfl
  · obtain ⟨a, z, p, n, rfl, rfl, ⟨dx, ha⟩, hp, k⟩ := h
    have hr2 : Room 2 _ := hr.mono (by decide)
    obtain ⟨hp1, hp2⟩ := okP_lt hp
    have k' : Tells CR H Q E (if 60 < n then Kp267.say (-22) else Kp267.tellAll (Kp267.gaps p n)) := k
    refine ⟨_, pss_cons (ps_expr (pe_call G1 hr rfl D1.g D1.F.kp D1.b .nil (passes_call (takes_of rfl rfl rfl rfl) (fun _ _ _ _ h => h)) (pa_cons (pv 1) (pa_cons pe_int (pa_cons (pe_glob (v := .int 60) (by rfl) c60 ⟨_, rfl⟩) pa_nil)))))
      (pss_cons (ps_set (i := 2) scGapsM.nd rfl (Or.inl rfl) (pe_call G2 hr2 rfl D2.g D2.F.kp D2.b .nil pass0 (pa_cons (pe_fld (pv 0) rfl) (pa_cons (pv 1) pa_nil))))
      (pss_one (ps_ret (pe_op op_cat (pe_lst (pa_cons (pe_callB call_len_seq (by rfl) hlen PySem.boot_len (pa_cons (pv 2) pa_nil)) pa_nil)) (pv 2))))), ?_⟩
    refine ⟨_, rfl, _, _, _, rfl, fun c => ?_, fun c => ?_⟩
    · rw [if_neg (by omega)] at k'
      refine ⟨_, rfl, a, CK, dx, _, _, rfl, ha, T.cl, T.nP, kf_look _, _, rfl, _, _, p, n, rfl, rfl, rfl, hp2, by omega, by omega, fun H1 l s1 hl h1 => ?_⟩
      refine ⟨_, rfl, l, _, rfl, .inl (SqL.of h1), (by show 1 ≤ sizeLine; decide), fun q hq => ?_⟩
      have lq : l ≠ q := ne_of_none h1 hq
      refine ⟨_, rfl, q, l, _, _, rfl, rfl, upd_same, (by rw [upd_ne lq]; exact h1), ?_, fun r hr => ?_⟩
      · rw [ivs_len]
        have := gaps_len p n
        have := times_le hp2 n
        show 1 + _ ≤ _
        exact room' (by omega)
      · refine k'.1 _ r (same_new (same_new s1 hq) hr) (Same.free (same_new s1 hq) hr) ?_
        rw [upd_same]
        show some (HO.lst (V.int ((ivs (Kp267.gaps p n)).length : Nat) :: ivs (Kp267.gaps p n))) = some (HO.lst (V.int ((Kp267.gaps p n).length : Nat) :: (Kp267.ints (Kp267.gaps p n)).map V.int))
        rw [ivs_ints, ivs_len]
    · rw [if_pos (by omega)] at k'
      exact k'.2 _ rfl
theorem scSquare : FnScope ["self", "number", "found"] ["self", "number"] (defScope sSquare) := ⟨rfl, rfl, rfl, by decide +kernel, rfl, by decide +kernel, by decide +kernel⟩
theorem ok_square {CK CR f f1 f2 : Addr} {fd fd1 fd2 : FuncData} (M : Mf K CK "square" "Keeper.square" sSquare ["self", "number"] f fd) (D1 : Df K mg "must_be_from" sMust ["number", "least", "most"] f1 fd1) (G1 : FnOk P w K mg base (L2.CX P w) 4 f1 fd1 ["number", "least", "most"] (spMust CR))
    (D2 : Df K mg "odd_primes" sOdd ["number"] f2 fd2) (G2 : FnOk P w K mg base CX0 3 f2 fd2 ["number"] spOdd) (c60 : Cn mg "MOST_SMALL" 60) (hlen : mg "len" = none) :
    FnOk P w K mg base (L2.CX P w) 5 f fd ["self", "number"] (sp1 CK CR .square) := by
  obtain ⟨t60, c60⟩ := c60
  refine M.F.okX scSquare (fun vs H Q E h => ?_) (fun cdv A outer s H vs Q E hr h => ?_)
  · obtain ⟨a, z, p, n, rfl, _⟩ := h
    rfl
  · obtain ⟨a, z, p, n, rfl, rfl, ⟨dx, ha⟩, hp, k⟩ := h
    have hr3 : Room 3 _ := hr.mono (by decide)
    have k' : Tells CR H Q E (if 60 < n then Kp267.say (-22) else Kp267.tellAll ((Kp267.primes n).filter fun q => Kp267.times q n % 2 != 0)) := k
    refine ⟨_, pss_cons (ps_expr (pe_call G1 hr rfl D1.g D1.F.kp D1.b .nil (passes_call (takes_of rfl rfl rfl rfl) (fun _ _ _ _ h => h)) (pa_cons (pv 1) (pa_cons pe_int (pa_cons (pe_glob (v := .int 60) (by rfl) c60 ⟨_, rfl⟩) pa_nil)))))
      (pss_cons (ps_set (i := 2) scSquare.nd rfl (Or.inl rfl) (pe_call G2 hr3 rfl D2.g D2.F.kp D2.b .nil pass0 (pa_cons (pv 1) pa_nil)))
      (pss_one (ps_ret (pe_op op_cat (pe_lst (pa_cons (pe_callB call_len_seq (by rfl) hlen PySem.boot_len (pa_cons (pv 2) pa_nil)) pa_nil)) (pv 2))))), ?_⟩
    refine ⟨_, rfl, _, _, _, rfl, fun c => ?_, fun c => ?_⟩
    · rw [if_neg (by omega)] at k'
      refine ⟨_, rfl, _, n, rfl, rfl, by omega, fun H1 l s1 hl h1 => ?_⟩
      have hsm : ((Kp267.primes n).filter fun q => Kp267.times q n % 2 != 0).length ≤ n + 1 := Nat.le_trans (List.length_filter_le _ _) (primes_len n)
      generalize (Kp267.primes n).filter (fun q => Kp267.times q n % 2 != 0) = F at h1 k' hsm
      refine ⟨_, rfl, l, _, rfl, .inl (SqL.of h1), (by show 1 ≤ sizeLine; decide), fun q hq => ?_⟩
      have lq : l ≠ q := ne_of_none h1 hq
      refine ⟨_, rfl, q, l, _, _, rfl, rfl, upd_same, (by rw [upd_ne lq]; exact h1), ?_, fun r hr => ?_⟩
      · rw [ivs_len]
        show 1 + _ ≤ _
        exact room' (by omega)
      · refine k'.1 _ r (same_new (same_new s1 hq) hr) (Same.free (same_new s1 hq) hr) ?_
        rw [upd_same]
        show some (HO.lst (V.int ((ivs F).length : Nat) :: ivs F)) = some (HO.lst (V.int (F.length : Nat) :: (Kp267.ints F).map V.int))
        rw [ivs_ints, ivs_len]
    · rw [if_pos (by omega)] at k'
      exact k'.2 _ rfl
theorem scTwiceM : FnScope ["self", "number", "lesser"] ["self", "number", "lesser"] (defScope sTwiceM) := ⟨rfl, rfl, rfl, by decide +kernel, rfl, by decide +kernel, by decide +kernel⟩
theorem ok_twicem {CK CR f f1 f2 : Addr} {fd fd1 fd2 : FuncData} (M : Mf K CK "twice" "Keeper.twice" sTwiceM ["self", "number", "lesser"] f fd) (D1 : Df K mg "must_be_from" sMust ["number", "least", "most"] f1 fd1) (G1 : FnOk P w K mg base (L2.CX P w) 4 f1 fd1 ["number", "least", "most"] (spMust CR))
    (D2 : Df K mg "divides_twice" sTwice ["lesser", "number"] f2 fd2) (G2 : FnOk P w K mg base CX0 3 f2 fd2 ["lesser", "number"] spTwice) (cM : Cn mg "MOST" 1000000) (c60 : Cn mg "MOST_SMALL" 60) (hint : mg "int" = none) :
    FnOk P w K mg base (L2.CX P w) 5 f fd ["self", "number", "lesser"] (sp2 CK CR .twice) := by
  obtain ⟨t60, c60⟩ := c60
  obtain ⟨tM, cM⟩ := cM
  refine M.F.okX scTwiceM (fun vs H Q E h => ?_) (fun cdv A outer s H vs Q E hr h => ?_)
  · obtain ⟨a, y, z, p, n, m, rfl, _⟩ := h
    rfl
  · obtain ⟨a, y, z, p, n, m, rfl, rfl, rfl, ⟨dx, ha⟩, hp, k⟩ := h
    have hr3 : Room 3 _ := hr.mono (by decide)
    have k' : Tells CR H Q E (if 1000000 < n ∨ 60 < m then Kp267.say (-22) else Kp267.say (if (Kp267.primes m).all (fun q => decide (2 * Kp267.times q m ≤ Kp267.times q n)) then 1 else 0)) := k
    refine ⟨_, pss_cons (ps_expr (pe_call G1 hr rfl D1.g D1.F.kp D1.b .nil (passes_call (takes_of rfl rfl rfl rfl) (fun _ _ _ _ h => h)) (pa_cons (pv 1) (pa_cons pe_int (pa_cons (pe_glob (v := .int 1000000) (by rfl) cM ⟨_, rfl⟩) pa_nil)))))
      (pss_cons (ps_expr (pe_call G1 hr rfl D1.g D1.F.kp D1.b .nil (passes_call (takes_of rfl rfl rfl rfl) (fun _ _ _ _ h => h)) (pa_cons (pv 2) (pa_cons pe_int (pa_cons (pe_glob (v := .int 60) (by rfl) c60 ⟨_, rfl⟩) pa_nil)))))
      (pss_one (ps_ret (pe_lst (pa_cons (pe_callTy call_int1 (by rfl) hint (by decide +kernel) (pa_cons (pe_call G2 hr3 rfl D2.g D2.F.kp D2.b .nil pass0 (pa_cons (pv 2) (pa_cons (pv 1) pa_nil))) pa_nil)) pa_nil))))), ?_⟩
    refine ⟨_, rfl, _, _, _, rfl, fun c => ?_, fun c => ?_⟩
    · refine ⟨_, rfl, _, _, _, rfl, fun c3 => ?_, fun c3 => ?_⟩
      · rw [if_neg (by omega)] at k'
        refine ⟨_, rfl, _, rfl, _, _, m, n, rfl, rfl, rfl, by omega, by omega, fun H1 s1 => .inr ⟨_, rfl, (by show 1 ≤ sizeLine; decide), fun l hl => ?_⟩⟩
        exact k'.1 _ l (same_new s1 hl) (s1.free hl) upd_same
      · rw [if_pos (by omega)] at k'
        exact k'.2 _ rfl
    · rw [if_pos (by omega)] at k'
      exact k'.2 _ rfl
theorem scPartsM : FnScope ["self", "base", "found", "told", "prime", "times"] ["self", "base"] (defScope sPartsM) := ⟨rfl, rfl, rfl, by decide +kernel, rfl, by decide +kernel, by decide +kernel⟩
theorem ok_partsm {CK CR f f1 f2 : Addr} {fd fd1 fd2 : FuncData} (M : Mf K CK "parts" "Keeper.parts" sPartsM ["self", "base"] f fd) (D1 : Df K mg "must_be_from" sMust ["number", "least", "most"] f1 fd1) (G1 : FnOk P w K mg base (L2.CX P w) 4 f1 fd1 ["number", "least", "most"] (spMust CR))
    (D2 : Df K mg "parts_of" sParts ["number"] f2 fd2) (G2 : FnOk P w K mg base CX0 3 f2 fd2 ["number"] spParts) (c2 : Cn mg "LEAST_BASE" 2) (c100 : Cn mg "MOST_BASE" 100) (hlen : mg "len" = none) :
    FnOk P w K mg base (L2.CX P w) 5 f fd ["self", "base"] (sp1 CK CR .parts) := by
  obtain ⟨t2, c2⟩ := c2
  obtain ⟨t100, c100⟩ := c100
  refine M.F.okX scPartsM (fun vs H Q E h => ?_) (fun cdv A outer s H vs Q E hr h => ?_)
  · obtain ⟨a, z, p, n, rfl, _⟩ := h
    rfl
  · obtain ⟨a, z, p, b, rfl, rfl, ⟨dx, ha⟩, hp, k⟩ := h
    have hr3 : Room 3 _ := hr.mono (by decide)
    have k' : Tells CR H Q E (if b < 2 ∨ 100 < b then Kp267.say (-22) else ⟨((Kp267.parts b).length : Int), Kp267.ints ((Kp267.parts b).flatMap fun z => [z.1, z.2])⟩) := k
    refine ⟨_, pss_cons (ps_expr (pe_call G1 hr rfl D1.g D1.F.kp D1.b .nil (passes_call (takes_of rfl rfl rfl rfl) (fun _ _ _ _ h => h)) (pa_cons (pv 1) (pa_cons (pe_glob (v := .int 2) (by rfl) c2 ⟨_, rfl⟩) (pa_cons (pe_glob (v := .int 100) (by rfl) c100 ⟨_, rfl⟩) pa_nil)))))
      (pss_cons (ps_set (i := 2) scPartsM.nd rfl (Or.inl rfl) (pe_call G2 hr3 rfl D2.g D2.F.kp D2.b .nil pass0 (pa_cons (pv 1) pa_nil)))
      (pss_cons (ps_set (i := 3) scPartsM.nd rfl (Or.inl rfl) (pe_lst (pa_cons (pe_callB call_len_seq (by rfl) hlen PySem.boot_len (pa_cons (pv 2) pa_nil)) pa_nil)))
      (pss_cons (ps_for (passes_of rfl) rfl (pi_list (pv 2)) (pg_tup rfl (pgs_cons (pg_name (i := 4) scPartsM.nd rfl (Or.inl rfl)) (pgs_cons (pg_name (i := 5) scPartsM.nd rfl (Or.inl rfl)) pgs_nil)))
        (pss_one (ps_expr (pe_bm PySem.F.plainAttrs_list PySem.F.slot_list_extend PySem.F.type_list_extend mt_extend (pv 3) (pa_cons (pe_lst (pa_cons (pv 4) (pa_cons (pv 5) pa_nil))) pa_nil)))))
      (pss_one (ps_ret (pv 3)))))), ?_⟩
    refine ⟨_, rfl, _, _, _, rfl, fun c => ?_, fun c => ?_⟩
    · rw [if_neg (by omega)] at k'
      refine ⟨_, rfl, _, b, rfl, rfl, by omega, by omega, fun H1 l as s1 hl h1 h2 => ?_⟩
      have hplen : (Kp267.parts b).length ≤ b + 1 := by
        rw [parts_eq, List.length_map]
        refine Nat.le_trans (List.length_filter_le _ _) (primes_len b)
      refine ⟨_, rfl, l, _, rfl, .inl (SqL.of h1), (by show 1 ≤ sizeLine; decide), fun q hq => ?_⟩
      have lq : l ≠ q := ne_of_none h1 hq
      have e0 : V.int ((as.map V.ref).length : Nat) = V.int ((Kp267.parts b).length : Nat) := by rw [List.length_map, h2.len]
      refine ⟨_, rfl, l, rfl, ⟨_, SqL.of (by rw [upd_ne lq]; exact h1)⟩, for_list (K := K) (a := l) (xs := as.map V.ref)
        (fun i σ H' => ∃ (u v : Option V), σ = [some (.ref a), some (.int (b : Int)), some (.ref l), some (.ref q), u, v] ∧ Same H1 H' ∧
          H' q = some (.lst (V.int ((Kp267.parts b).length : Nat) :: ivs (((Kp267.parts b).take i).flatMap fun z => [z.1, z.2]))))
        ⟨none, none, rfl, same_new (Same.refl H1) hq, ?_⟩ (fun i σ H' _ ⟨_, _, _, s, _⟩ => SqL.of (s _ _ h1)) ?_ ?_⟩
      · rw [upd_same, e0]
        rfl
      · rintro i y σ H' hi ⟨u, v, rfl, s2, h3⟩
        obtain ⟨t, ht, rfl⟩ := get_map hi
        obtain ⟨z, hz, hza⟩ := h2.get ht
        refine ⟨t, _, rfl, SqT.of (s2 _ _ hza), rfl, _, _, rfl, _, _, rfl, rfl, ?_⟩
        refine ⟨_, rfl, .inl ⟨rfl, _, SqL.of h3⟩, _, rfl, _, rfl, (by show 2 ≤ sizeLine; decide), fun r hr => ?_⟩
        have qr : q ≠ r := ne_of_none h3 hr
        refine ⟨q, r, _, _, rfl, rfl, (by rw [upd_ne qr]; exact h3), upd_same, ?_, ?_⟩
        · have hfl : (((Kp267.parts b).take i).flatMap fun z => [z.1, z.2]).length ≤ 2 * (b + 1) := by
            have hh : ∀ l : List (Nat × Nat), (l.flatMap fun z => [z.1, z.2]).length = 2 * l.length := by
              intro l
              induction l with
              | nil => rfl
              | cons x l ih =>
                rw [List.flatMap_cons, List.length_append, ih]
                show 2 + 2 * l.length = 2 * (l.length + 1)
                omega
            rw [hh, List.length_take]
            omega
          rw [List.length_cons, ivs_len]
          show _ + 2 ≤ _
          exact room' (by omega)
        · refine ⟨_, _, rfl, fun x o e => ?_, ?_⟩
          · have xq : x ≠ q := ne_of_none e hq
            rw [upd_ne xq, upd_ne (ne_of_none (s2 x o e) hr)]
            exact s2 x o e
          · rw [upd_same, take_more hz, List.flatMap_append]
            unfold ivs
            rw [List.map_append]
            rfl
      · rintro σ H' ⟨u, v, rfl, s2, h3⟩
        refine ⟨_, rfl, k'.1 _ q (fun x o e => s2 x o (s1 x o e)) (s1.free hq) ?_⟩
        rw [h3, List.length_map, h2.len, List.take_length]
        show _ = some (HO.lst (V.int ((Kp267.parts b).length : Nat) :: (Kp267.ints _).map V.int))
        rw [ivs_ints]
    · rw [if_pos (by omega)] at k'
      exact k'.2 _ rfl
theorem scJumps : FnScope ["self", "number", "fewer", "times"] ["self", "number"] (defScope sJumps) := ⟨rfl, rfl, rfl, by decide +kernel, rfl, by decide +kernel, by decide +kernel⟩
theorem ok_jumps {CK CR f f1 f2 : Addr} {fd fd1 fd2 : FuncData} (M : Mf K CK "jumps" "Keeper.jumps" sJumps ["self", "number"] f fd) (T : Kp K CK) (D1 : Df K mg "must_be_from" sMust ["number", "least", "most"] f1 fd1) (G1 : FnOk P w K mg base (L2.CX P w) 4 f1 fd1 ["number", "least", "most"] (spMust CR))
    (D2 : Df K mg "often" sOften ["prime", "number"] f2 fd2) (cM : Cn mg "MOST" 1000000) :
    FnOk P w K mg base (L2.CX P w) 5 f fd ["self", "number"] (sp1 CK CR .jumps) := by
  have G2 : FnOk P w K mg base CX0 1 f2 fd2 ["prime", "number"] spOften := ok_often D2
  obtain ⟨tM, cM⟩ := cM
  refine M.F.okX scJumps (fun vs H Q E h => ?_) (fun cdv A outer s H vs Q E hr h => ?_)
  · obtain ⟨a, z, p, n, rfl, _⟩ := h
    rfl
  · obtain ⟨a, z, p, n, rfl, rfl, ⟨dx, ha⟩, hp, k⟩ := h
    have hr1 : Room 1 _ := hr.mono (by decide)
    obtain ⟨hp1, hp2⟩ := okP_lt hp
    have k' : Tells CR H Q E (if n = 0 ∨ 1000000 < n then Kp267.say (-22) else ⟨((Kp267.times p n - Kp267.times p (n - 1) : Nat) : Int), Kp267.ints [Kp267.times p (n - 1), Kp267.times p n]⟩) := k
    refine ⟨_, pss_cons (ps_expr (pe_call G1 hr rfl D1.g D1.F.kp D1.b .nil (passes_call (takes_of rfl rfl rfl rfl) (fun _ _ _ _ h => h)) (pa_cons (pv 1) (pa_cons pe_int (pa_cons (pe_glob (v := .int 1000000) (by rfl) cM ⟨_, rfl⟩) pa_nil)))))
      (pss_cons (ps_set (i := 2) scJumps.nd rfl (Or.inl rfl) (pe_call G2 hr1 rfl D2.g D2.F.kp D2.b .nil pass0 (pa_cons (pe_fld (pv 0) rfl) (pa_cons (pe_op op_sub (pv 1) pe_int) pa_nil))))
      (pss_cons (ps_set (i := 3) scJumps.nd rfl (Or.inl rfl) (pe_call G2 hr1 rfl D2.g D2.F.kp D2.b .nil pass0 (pa_cons (pe_fld (pv 0) rfl) (pa_cons (pv 1) pa_nil))))
      (pss_one (ps_ret (pe_lst (pa_cons (pe_op op_sub (pv 3) (pv 2)) (pa_cons (pv 2) (pa_cons (pv 3) pa_nil)))))))), ?_⟩
    refine ⟨_, rfl, _, _, _, rfl, fun c => ?_, fun c => ?_⟩
    · rw [if_neg (by omega)] at k'
      have hmono := times_mono p (n := n - 1) (m := n) (by omega)
      refine ⟨_, rfl, a, CK, dx, _, _, rfl, ha, T.cl, T.nP, kf_look _, _, rfl, _, _, rfl, rfl, _, _, p, n - 1, rfl, rfl, by omega, hp2, by omega, by omega, ?_⟩
      refine ⟨_, rfl, a, CK, dx, _, _, rfl, ha, T.cl, T.nP, kf_look _, _, rfl, _, _, p, n, rfl, rfl, rfl, hp2, by omega, by omega, ?_⟩
      refine ⟨_, rfl, _, rfl, _, _, rfl, rfl, _, rfl, _, rfl, (by show 3 ≤ sizeLine; decide), fun l hl => ?_⟩
      refine k'.1 _ l (same_new (Same.refl H) hl) hl ?_
      have e : ((Kp267.times p n : Nat) : Int) - ((Kp267.times p (n - 1) : Nat) : Int) = ((Kp267.times p n - Kp267.times p (n - 1) : Nat) : Int) := by omega
      rw [upd_same]
      dsimp only
      rw [e]
      rfl
    · rw [if_pos (by omega)] at k'
      exact k'.2 _ rfl
end
end Pf

namespace Pf
open PySem PySem.Spec PyProof.Rows L2
open Kp267 (Call)
abbrev sRead : Stmt := top 2
abbrev sTwo : Stmt := top 39
abbrev sPrd : Stmt := top 40
abbrev sLst : Stmt := top 41
def word : Call → Str
  | .begin_ _ => "begin"
  | .prime _ => "prime"
  | .prod _ => "prod"
  | .times _ => "times"
  | .rest _ => "rest"
  | .least _ => "least"
  | .noughts _ _ => "noughts"
  | .span _ _ => "span"
  | .gaps _ => "gaps"
  | .square _ => "square"
  | .twice _ _ => "twice"
  | .parts _ => "parts"
  | .jumps _ => "jumps"
  | .told => "told"
/-- the module's table of words -/
structure Ct (K : PySem.W.Frag) (mg : Str → Option Value) (ca : Addr) (ts : List Addr) : Prop where
  g : mg "CALLS" = some (.ref ca)
  t : ∀ H, SqT K H ca (ts.map V.ref)
  r : ∀ c : Call, ∃ a, ts[code c]? = some a ∧ ∀ H, SqT K H a [.str (word c), .int ((nums c).length : Nat)]
/-- a call that is read -/
def RdC (H0 H : Hp) (t : Addr) (c : Call) : Prop := ∃ nl, H t = some (.tup [.str (word c), .ref nl]) ∧ H nl = some (.lst (ivs (nums c))) ∧ H0 nl = none
def spRead (K : PySem.W.Frag) : Sp := fun vs H Q _ => ∃ (a : Addr) (cs : List Call), vs = [.ref a] ∧ SqL K H a ((flats cs).map V.int) ∧ (flats cs).length ≤ 1000 ∧
  ∀ H' l ts, Same H H' → H l = none → H' l = some (.lst (ts.map V.ref)) → All2 (RdC H H') ts cs → Q (.ref l) H'
theorem cut_row (a : List Call) (c : Call) (b : List Call) : cutV ((flats (a ++ c :: b)).map V.int) (some (((flats a).length : Nat) + 1 : Int)) (some (((flats a).length : Nat) + 1 + ((nums c).length : Nat) : Int)) = ivs (nums c) := by
  have hl := row_len a c b
  have e1 : (((flats a).length : Nat) + 1 : Int) = (((flats a).length + 1 : Nat) : Int) := by omega
  have e2 : (((flats a).length : Nat) + 1 + ((nums c).length : Nat) : Int) = (((flats a).length + 1 + (nums c).length : Nat) : Int) := by omega
  unfold cutV
  rw [e2, e1, HT.sIx_nat, HT.sIx_nat, List.length_map]
  have e3 : min ((flats a).length + 1) (flats (a ++ c :: b)).length = (flats a).length + 1 := by omega
  have e4 : min ((flats a).length + 1 + (nums c).length) (flats (a ++ c :: b)).length - ((flats a).length + 1) = (nums c).length := by omega
  rw [e3, e4, ← List.map_drop, ← List.map_take, row_nums, List.map_map]
  rfl
theorem flats_pos (c : Call) (b : List Call) (a : List Call) : (flats a).length < (flats (a ++ c :: b)).length := by
  rw [row_len]
  omega
section
variable {P : Program} {w : World} {K : PySem.W.Frag} {mg : Str → Option Value} {base : Heap}
theorem scRead : FnScope ["calls", "found", "at", "word", "many"] ["calls"] (defScope sRead) := ⟨rfl, rfl, rfl, by decide +kernel, rfl, by decide +kernel, by decide +kernel⟩
theorem ok_read {f ca : Addr} {ts : List Addr} {fd : FuncData} (D : Df K mg "read_calls" sRead ["calls"] f fd) (C : Ct K mg ca ts) (hlen : mg "len" = none) : FnOk P w K mg base CX0 1 f fd ["calls"] (spRead K) := by
  refine D.F.ok scRead (fun vs H Q E h => ?_) (fun cdv A outer s H vs Q E hr h => ?_)
  · obtain ⟨a, cs, rfl, _⟩ := h
    rfl
  · obtain ⟨a, cs, rfl, hS, hmax, k⟩ := h
    refine ⟨_, pss_cons (ps_set (i := 1) scRead.nd rfl (Or.inl rfl) (pe_lst pa_nil)) (pss_cons (ps_set (i := 2) scRead.nd rfl (Or.inl rfl) pe_int) (pss_cons
      (ps_while PassesOwn.never (pt_cmpR op_lt (pv 2) (pe_callB call_len_seq (by rfl) hlen PySem.boot_len (pa_cons (pv 0) pa_nil)) (nomark _))
        (pss_cons (ps_asg (pe_ix ix_tup (pe_glob (v := .ref ca) (by rfl) C.g rfl) (pe_ix ix_list (pv 0) (pv 2) (fun _ _ => rfl)) (fun _ _ => rfl))
          (pg_tup rfl (pgs_cons (pg_name (i := 3) scRead.nd rfl (Or.inl rfl)) (pgs_cons (pg_name (i := 4) scRead.nd rfl (Or.inl rfl)) pgs_nil))))
        (pss_cons (ps_expr (pe_bm PySem.F.plainAttrs_list PySem.F.slot_list_append PySem.F.type_list_append mt_append (pv 1)
          (pa_cons (pe_tup (pa_cons (pv 3) (pa_cons (pe_slice sl_list (pv 0) (po_some (pe_op op_add (pv 2) pe_int)) (po_some (pe_op op_add (pe_op op_add (pv 2) pe_int) (pv 4)))) pa_nil))) pa_nil)))
        (pss_one (ps_set (i := 2) scRead.nd rfl (Or.inl rfl) (pe_op op_add (pe_op op_add (pv 2) pe_int) (pv 4)))))))
      (pss_one (ps_ret (pv 1))))), ?_⟩
    refine ⟨Nat.zero_le _, fun L hL => ?_⟩
    refine ⟨fun m σ H' => ∃ (done rest : List Call) (as : List Addr) (u v : Option V), m = rest.length ∧ cs = done ++ rest ∧ σ = [some (.ref a), some (.ref L), some (.int ((flats done).length : Nat)), u, v] ∧ Same H H' ∧ H' L = some (.lst (as.map V.ref)) ∧ All2 (RdC (upd H L (.lst [])) H') as done,
      ⟨cs.length, [], cs, [], none, none, rfl, rfl, rfl, same_new (Same.refl H) hL, upd_same, .nil⟩, ?_⟩
    rintro m σ H' ⟨done, rest, as, u, v, rfl, rfl, rfl, s1, h1, h2⟩
    have hS1 := s1.seq hS
    refine ⟨_, rfl, _, rfl, a, _, rfl, .inl hS1, _, _, rfl, rfl, _, rfl, ?_⟩
    rw [List.length_map]
    cases rest with
    | nil =>
      rw [List.append_nil]
      refine if_false_of (decide_eq_false (Int.lt_irrefl _)) ?_
      refine ⟨_, rfl, k _ L as s1 hL h1 ?_⟩
      rw [List.append_nil]
      refine h2.imp fun t d hx => ?_
      obtain ⟨nl, e1, e2, e3⟩ := hx
      refine ⟨nl, e1, e2, ?_⟩
      have nL : nl ≠ L := fun e => by
        rw [e, upd_same] at e3
        cases e3
      rw [upd_ne nL] at e3
      exact e3
    | cons c r =>
      have hlt := flats_pos c r done
      have hcnt : as.length ≤ 1000 := by
        have e1 := h2.len
        have e2 : ∀ l : List Call, l.length ≤ (flats l).length := by
          intro l
          induction l with
          | nil => exact Nat.le_refl _
          | cons x l ih =>
            rw [flats_cons, List.length_append, flat_len]
            show l.length + 1 ≤ _
            omega
        have e3 := e2 done
        omega
      refine if_true_of (decide_eq_true (by omega)) ?_
      obtain ⟨ta, hta, htc⟩ := C.r c
      refine ⟨fun σ' H'' => ∃ (as : List Addr) (u v : Option V), σ' = [some (.ref a), some (.ref L), some (.int ((flats (done ++ [c])).length : Nat)), u, v] ∧ Same H H'' ∧ H'' L = some (.lst (as.map V.ref)) ∧ All2 (RdC (upd H L (.lst [])) H'') as (done ++ [c]), ?_, ?_⟩
      · rintro σ' H'' ⟨as', u', v', rfl, s2, h3, h4⟩
        exact ⟨r.length, Nat.lt_succ_self _, done ++ [c], r, as', u', v', rfl, by rw [List.append_assoc]; rfl, rfl, s2, h3, h4⟩
      · have hat : atI ((flats (done ++ c :: r)).map V.int) (((flats done).length : Nat) : Int) = some (V.int ((code c : Nat) : Int)) := by
          refine atI_nat ?_
          rw [List.getElem?_map, row_at]
          rfl
        have hct : atI (ts.map V.ref) ((code c : Nat) : Int) = some (V.ref ta) := by
          refine atI_nat ?_
          rw [List.getElem?_map, hta]
          rfl
        refine ⟨_, rfl, _, rfl, a, _, _, _, rfl, rfl, hS1, hat, ca, _, _, _, rfl, rfl, C.t _, hct, ?_⟩
        refine ⟨ta, _, rfl, htc _, rfl, _, _, rfl, _, _, rfl, rfl, ?_⟩
        refine ⟨_, rfl, .inl ⟨rfl, _, SqL.of h1⟩, _, rfl, _, rfl, _, rfl, _, _, rfl, rfl, _, rfl, _, rfl, _, _, rfl, rfl, _, rfl, _, _, rfl, rfl, _, rfl, a, _, rfl, hS1, fun p hp => ?_⟩
        rw [cut_row]
        refine ⟨(by show 2 ≤ sizeLine; decide), fun t ht => ?_⟩
        have Lp : L ≠ p := ne_of_none h1 hp
        have pt : p ≠ t := fun e => by
          rw [← e, upd_same] at ht
          cases ht
        have ht' : H' t = none := by
          rw [upd_ne pt.symm] at ht
          exact ht
        have Lt : L ≠ t := ne_of_none h1 ht'
        refine ⟨L, _, _, rfl, rfl, (by rw [upd_ne Lt, upd_ne Lp]; exact h1), ?_, ?_⟩
        · rw [List.length_map]
          exact room (by omega)
        · refine ⟨_, rfl, _, _, rfl, rfl, _, rfl, _, _, rfl, rfl, as ++ [t], some (.str (word c)), some (.int ((nums c).length : Nat)), ?_, ?_, ?_, ?_⟩
          · have e : (((flats (done ++ [c])).length : Nat) : Int) = (((flats done).length : Nat) : Int) + 1 + (((nums c).length : Nat) : Int) := by
              rw [row_next]
              omega
            rw [e]
            rfl
          · exact same_old (same_new (same_new s1 hp) ht) hL
          · rw [upd_same, List.map_append]
            rfl
          · refine All2.snoc (h2.imp fun x d hx => ?_) ⟨p, ?_, ?_, by rw [upd_ne Lp.symm]; exact s1.free hp⟩
            · obtain ⟨nl, e1, e2, e3⟩ := hx
              have xL : x ≠ L := ne_of e1 h1 (by intro z; cases z)
              have nL : nl ≠ L := fun e => by
                rw [e, upd_same] at e3
                cases e3
              refine ⟨nl, ?_, ?_, e3⟩
              · rw [upd_ne xL, upd_ne (ne_of_none e1 ht'), upd_ne (ne_of_none e1 hp)]
                exact e1
              · rw [upd_ne nL, upd_ne (ne_of_none e2 ht'), upd_ne (ne_of_none e2 hp)]
                exact e2
            · rw [upd_ne Lt.symm, upd_same]
            · rw [upd_ne Lp.symm, upd_ne pt, upd_same]
end
end Pf

namespace Pf
open PySem PySem.Spec PyProof.Rows L2
open Kp267 (Call)
abbrev sAnswer : Stmt := top 38
def spTwo (CK CR : Addr) : Sp := fun vs H Q E => ∃ (a : Addr) (wd : Str) (c : Call) (y z : Int) (p n m : Nat), vs = [.ref a, .str wd, .int y, .int z] ∧ y = (n : Int) ∧ z = (m : Int) ∧
  (wd = "noughts" ∧ c = .noughts n m ∨ wd = "span" ∧ c = .span n m ∨ wd = "twice" ∧ c = .twice n m) ∧ KeepAt CK H a (some p) ∧ Kp266.okP p = true ∧ Tells CR H Q E (Kp267.step (some p) c).2
def spPrd (CK CR : Addr) : Sp := fun vs H Q E => ∃ (a : Addr) (wd : Str) (c : Call) (z : Int) (p n : Nat), vs = [.ref a, .str wd, .int z] ∧ z = (n : Int) ∧
  (wd = "prod" ∧ c = .prod n ∨ wd = "times" ∧ c = .times n ∨ wd = "rest" ∧ c = .rest n ∨ wd = "jumps" ∧ c = .jumps n) ∧ KeepAt CK H a (some p) ∧ Kp266.okP p = true ∧ Tells CR H Q E (Kp267.step (some p) c).2
def spLst (CK CR : Addr) : Sp := fun vs H Q E => ∃ (a : Addr) (wd : Str) (c : Call) (z : Int) (p n : Nat), vs = [.ref a, .str wd, .int z] ∧ z = (n : Int) ∧
  (wd = "least" ∧ c = .least n ∨ wd = "gaps" ∧ c = .gaps n ∨ wd = "square" ∧ c = .square n ∨ wd = "parts" ∧ c = .parts n) ∧ KeepAt CK H a (some p) ∧ Kp266.okP p = true ∧ Tells CR H Q E (Kp267.step (some p) c).2
/-- what answer promises: the state behind the call, what is told, or an error with the number told, the state as it was -/
def spAnswer (CK CR : Addr) : Sp := fun vs H Q E => ∃ (a nl : Addr) (wd : Str) (c : Call) (st : Option Nat), vs = [.ref a, .str wd, .ref nl] ∧ wd = word c ∧ KeepAt CK H a st ∧ Good st ∧ H nl = some (.lst (ivs (nums c))) ∧
  (∀ H' l, Keeps a H H' → KeepAt CK H' a (Kp267.step st c).1 → H l = none → H' l = some (.lst (alist (Kp267.step st c).2)) → Q (.ref l) H') ∧ ∀ z, Kp267.step st c = (st, Kp267.say z) → Rfs CR z H E
theorem tells_of {CK CR k : Addr} {H H2 : Hp} {Q : VK} {E : XK} {p : Nat} {c : Call} (hs : (Kp267.step (some p) c).1 = some p) (hk : KeepAt CK H k (some p)) (s : Same H H2)
    (k1 : ∀ H' l, Keeps k H H' → KeepAt CK H' k (Kp267.step (some p) c).1 → H l = none → H' l = some (.lst (alist (Kp267.step (some p) c).2)) → Q (.ref l) H') (k2 : ∀ z, Kp267.step (some p) c = (some p, Kp267.say z) → Rfs CR z H E) :
    Tells CR H2 Q E (Kp267.step (some p) c).2 := by
  refine ⟨fun H' l s2 n e => k1 H' l (fun b o _ h => s2 b o (s b o h)) ?_ (s.free n) e, fun z e H' d s2 e2 => k2 z (Prod.ext hs e) H' d (s.trans s2) e2⟩
  rw [hs]
  exact hk.same (s.trans s2)
section
variable {P : Program} {w : World} {K : PySem.W.Frag} {mg : Str → Option Value} {base : Heap}
theorem sc_two : FnScope ["keeper", "word", "one", "other"] ["keeper", "word", "one", "other"] (defScope sTwo) := ⟨rfl, rfl, rfl, by decide +kernel, rfl, by decide +kernel, by decide +kernel⟩
theorem ok_two {CK CR f f1 f2 f3 : Addr} {fd fd1 fd2 fd3 : FuncData} (D : Df K mg "answer_of_two" sTwo ["keeper", "word", "one", "other"] f fd) (T : Kp K CK) (M1 : Mf K CK "noughts" "Keeper.noughts" sNoughts ["self", "base", "number"] f1 fd1) (G1 : FnOk P w K mg base (L2.CX P w) 5 f1 fd1 ["self", "base", "number"] (sp2 CK CR .noughts)) (M2 : Mf K CK "span" "Keeper.span" sSpan ["self", "first", "last"] f2 fd2) (G2 : FnOk P w K mg base (L2.CX P w) 5 f2 fd2 ["self", "first", "last"] (sp2 CK CR .span)) (M3 : Mf K CK "twice" "Keeper.twice" sTwiceM ["self", "number", "lesser"] f3 fd3) (G3 : FnOk P w K mg base (L2.CX P w) 5 f3 fd3 ["self", "number", "lesser"] (sp2 CK CR .twice)) :
    FnOk P w K mg base (L2.CX P w) 6 f fd ["keeper", "word", "one", "other"] (spTwo CK CR) := by
  refine D.F.okX sc_two (fun vs H Q E h => ?_) (fun cdv A outer s H vs Q E hr h => ?_)
  · obtain ⟨a, wd, c, y, z, p, n, m, rfl, _⟩ := h
    rfl
  · obtain ⟨a, wd, c, y, z, p, n, m, rfl, rfl, rfl, hc, ⟨dx, ha⟩, hp, k⟩ := h
    refine ⟨_, pss_cons (ps_if (pt_cmpR op_eq (pv 1) pe_str (nomark _)) (pss_one (ps_ret (pe_meth (pv 0) T.cl M1.m G1 hr M1.b .nil (passes_call (takes_of rfl rfl rfl rfl) (fun _ _ _ _ h => h)) (pa_cons (pv 2) (pa_cons (pv 3) pa_nil))))) pss_nil) (pss_cons (ps_if (pt_cmpR op_eq (pv 1) pe_str (nomark _)) (pss_one (ps_ret (pe_meth (pv 0) T.cl M2.m G2 hr M2.b .nil (passes_call (takes_of rfl rfl rfl rfl) (fun _ _ _ _ h => h)) (pa_cons (pv 2) (pa_cons (pv 3) pa_nil))))) pss_nil) ((pss_one (ps_ret (pe_meth (pv 0) T.cl M3.m G3 hr M3.b .nil (passes_call (takes_of rfl rfl rfl rfl) (fun _ _ _ _ h => h)) (pa_cons (pv 2) (pa_cons (pv 3) pa_nil))))))), ?_⟩
    rcases hc with ⟨rfl, rfl⟩ | ⟨rfl, rfl⟩ | ⟨rfl, rfl⟩
    · refine ⟨_, rfl, rfl, _, rfl, ?_⟩
      refine if_true_of (by decide +kernel) ?_
      exact ⟨_, rfl, a, dx, _, rfl, ha, kf_no _ (by decide +kernel), _, rfl, _, rfl, a, _, _, p, n, m, rfl, rfl, rfl, ⟨dx, ha⟩, hp, k⟩
    · refine ⟨_, rfl, rfl, _, rfl, ?_⟩
      refine if_false_of (by decide +kernel) ?_
      refine ⟨_, rfl, rfl, _, rfl, ?_⟩
      refine if_true_of (by decide +kernel) ?_
      exact ⟨_, rfl, a, dx, _, rfl, ha, kf_no _ (by decide +kernel), _, rfl, _, rfl, a, _, _, p, n, m, rfl, rfl, rfl, ⟨dx, ha⟩, hp, k⟩
    · refine ⟨_, rfl, rfl, _, rfl, ?_⟩
      refine if_false_of (by decide +kernel) ?_
      refine ⟨_, rfl, rfl, _, rfl, ?_⟩
      refine if_false_of (by decide +kernel) ?_
      exact ⟨_, rfl, a, dx, _, rfl, ha, kf_no _ (by decide +kernel), _, rfl, _, rfl, a, _, _, p, n, m, rfl, rfl, rfl, ⟨dx, ha⟩, hp, k⟩
theorem sc_prd : FnScope ["keeper", "word", "number"] ["keeper", "word", "number"] (defScope sPrd) := ⟨rfl, rfl, rfl, by decide +kernel, rfl, by decide +kernel, by decide +kernel⟩
theorem ok_prd {CK CR f f1 f2 f3 f4 : Addr} {fd fd1 fd2 fd3 fd4 : FuncData} (D : Df K mg "answer_of_product" sPrd ["keeper", "word", "number"] f fd) (T : Kp K CK) (M1 : Mf K CK "product" "Keeper.product" sProduct ["self", "number"] f1 fd1) (G1 : FnOk P w K mg base (L2.CX P w) 5 f1 fd1 ["self", "number"] (sp1 CK CR .prod)) (M2 : Mf K CK "times" "Keeper.times" sTimes ["self", "number"] f2 fd2) (G2 : FnOk P w K mg base (L2.CX P w) 5 f2 fd2 ["self", "number"] (sp1 CK CR .times)) (M3 : Mf K CK "rest" "Keeper.rest" sRestM ["self", "number"] f3 fd3) (G3 : FnOk P w K mg base (L2.CX P w) 5 f3 fd3 ["self", "number"] (sp1 CK CR .rest)) (M4 : Mf K CK "jumps" "Keeper.jumps" sJumps ["self", "number"] f4 fd4) (G4 : FnOk P w K mg base (L2.CX P w) 5 f4 fd4 ["self", "number"] (sp1 CK CR .jumps)) :
    FnOk P w K mg base (L2.CX P w) 6 f fd ["keeper", "word", "number"] (spPrd CK CR) := by
  refine D.F.okX sc_prd (fun vs H Q E h => ?_) (fun cdv A outer s H vs Q E hr h => ?_)
  · obtain ⟨a, wd, c, z, p, n, rfl, _⟩ := h
    rfl
  · obtain ⟨a, wd, c, z, p, n, rfl, rfl, hc, ⟨dx, ha⟩, hp, k⟩ := h
    refine ⟨_, pss_cons (ps_if (pt_cmpR op_eq (pv 1) pe_str (nomark _)) (pss_one (ps_ret (pe_meth (pv 0) T.cl M1.m G1 hr M1.b .nil (passes_call (takes_of rfl rfl rfl rfl) (fun _ _ _ _ h => h)) (pa_cons (pv 2) pa_nil)))) pss_nil) (pss_cons (ps_if (pt_cmpR op_eq (pv 1) pe_str (nomark _)) (pss_one (ps_ret (pe_meth (pv 0) T.cl M2.m G2 hr M2.b .nil (passes_call (takes_of rfl rfl rfl rfl) (fun _ _ _ _ h => h)) (pa_cons (pv 2) pa_nil)))) pss_nil) (pss_cons (ps_if (pt_cmpR op_eq (pv 1) pe_str (nomark _)) (pss_one (ps_ret (pe_meth (pv 0) T.cl M3.m G3 hr M3.b .nil (passes_call (takes_of rfl rfl rfl rfl) (fun _ _ _ _ h => h)) (pa_cons (pv 2) pa_nil)))) pss_nil) ((pss_one (ps_ret (pe_meth (pv 0) T.cl M4.m G4 hr M4.b .nil (passes_call (takes_of rfl rfl rfl rfl) (fun _ _ _ _ h => h)) (pa_cons (pv 2) pa_nil))))))), ?_⟩
    rcases hc with ⟨rfl, rfl⟩ | ⟨rfl, rfl⟩ | ⟨rfl, rfl⟩ | ⟨rfl, rfl⟩
    · refine ⟨_, rfl, rfl, _, rfl, ?_⟩
      refine if_true_of (by decide +kernel) ?_
      exact ⟨_, rfl, a, dx, _, rfl, ha, kf_no _ (by decide +kernel), _, rfl, a, _, p, n, rfl, rfl, ⟨dx, ha⟩, hp, k⟩
    · refine ⟨_, rfl, rfl, _, rfl, ?_⟩
      refine if_false_of (by decide +kernel) ?_
      refine ⟨_, rfl, rfl, _, rfl, ?_⟩
      refine if_true_of (by decide +kernel) ?_
      exact ⟨_, rfl, a, dx, _, rfl, ha, kf_no _ (by decide +kernel), _, rfl, a, _, p, n, rfl, rfl, ⟨dx, ha⟩, hp, k⟩
    · refine ⟨_, rfl, rfl, _, rfl, ?_⟩
      refine if_false_of (by decide +kernel) ?_
      refine ⟨_, rfl, rfl, _, rfl, ?_⟩
      refine if_false_of (by decide +kernel) ?_
      refine ⟨_, rfl, rfl, _, rfl, ?_⟩
      refine if_true_of (by decide +kernel) ?_
      exact ⟨_, rfl, a, dx, _, rfl, ha, kf_no _ (by decide +kernel), _, rfl, a, _, p, n, rfl, rfl, ⟨dx, ha⟩, hp, k⟩
    · refine ⟨_, rfl, rfl, _, rfl, ?_⟩
      refine if_false_of (by decide +kernel) ?_
      refine ⟨_, rfl, rfl, _, rfl, ?_⟩
      refine if_false_of (by decide +kernel) ?_
      refine ⟨_, rfl, rfl, _, rfl, ?_⟩
      refine if_false_of (by decide +kernel) ?_
      exact ⟨_, rfl, a, dx, _, rfl, ha, kf_no _ (by decide +kernel), _, rfl, a, _, p, n, rfl, rfl, ⟨dx, ha⟩, hp, k⟩
theorem sc_lst : FnScope ["keeper", "word", "number"] ["keeper", "word", "number"] (defScope sLst) := ⟨rfl, rfl, rfl, by decide +kernel, rfl, by decide +kernel, by decide +kernel⟩
theorem ok_lst {CK CR f f1 f2 f3 f4 : Addr} {fd fd1 fd2 fd3 fd4 : FuncData} (D : Df K mg "answer_of_list" sLst ["keeper", "word", "number"] f fd) (T : Kp K CK) (M1 : Mf K CK "least" "Keeper.least" sLeastM ["self", "times"] f1 fd1) (G1 : FnOk P w K mg base (L2.CX P w) 5 f1 fd1 ["self", "times"] (sp1 CK CR .least)) (M2 : Mf K CK "gaps" "Keeper.gaps" sGapsM ["self", "number"] f2 fd2) (G2 : FnOk P w K mg base (L2.CX P w) 5 f2 fd2 ["self", "number"] (sp1 CK CR .gaps)) (M3 : Mf K CK "square" "Keeper.square" sSquare ["self", "number"] f3 fd3) (G3 : FnOk P w K mg base (L2.CX P w) 5 f3 fd3 ["self", "number"] (sp1 CK CR .square)) (M4 : Mf K CK "parts" "Keeper.parts" sPartsM ["self", "base"] f4 fd4) (G4 : FnOk P w K mg base (L2.CX P w) 5 f4 fd4 ["self", "base"] (sp1 CK CR .parts)) :
    FnOk P w K mg base (L2.CX P w) 6 f fd ["keeper", "word", "number"] (spLst CK CR) := by
  refine D.F.okX sc_lst (fun vs H Q E h => ?_) (fun cdv A outer s H vs Q E hr h => ?_)
  · obtain ⟨a, wd, c, z, p, n, rfl, _⟩ := h
    rfl
  · obtain ⟨a, wd, c, z, p, n, rfl, rfl, hc, ⟨dx, ha⟩, hp, k⟩ := h
    refine ⟨_, pss_cons (ps_if (pt_cmpR op_eq (pv 1) pe_str (nomark _)) (pss_one (ps_ret (pe_meth (pv 0) T.cl M1.m G1 hr M1.b .nil (passes_call (takes_of rfl rfl rfl rfl) (fun _ _ _ _ h => h)) (pa_cons (pv 2) pa_nil)))) pss_nil) (pss_cons (ps_if (pt_cmpR op_eq (pv 1) pe_str (nomark _)) (pss_one (ps_ret (pe_meth (pv 0) T.cl M2.m G2 hr M2.b .nil (passes_call (takes_of rfl rfl rfl rfl) (fun _ _ _ _ h => h)) (pa_cons (pv 2) pa_nil)))) pss_nil) (pss_cons (ps_if (pt_cmpR op_eq (pv 1) pe_str (nomark _)) (pss_one (ps_ret (pe_meth (pv 0) T.cl M3.m G3 hr M3.b .nil (passes_call (takes_of rfl rfl rfl rfl) (fun _ _ _ _ h => h)) (pa_cons (pv 2) pa_nil)))) pss_nil) ((pss_one (ps_ret (pe_meth (pv 0) T.cl M4.m G4 hr M4.b .nil (passes_call (takes_of rfl rfl rfl rfl) (fun _ _ _ _ h => h)) (pa_cons (pv 2) pa_nil))))))), ?_⟩
    rcases hc with ⟨rfl, rfl⟩ | ⟨rfl, rfl⟩ | ⟨rfl, rfl⟩ | ⟨rfl, rfl⟩
    · refine ⟨_, rfl, rfl, _, rfl, ?_⟩
      refine if_true_of (by decide +kernel) ?_
      exact ⟨_, rfl, a, dx, _, rfl, ha, kf_no _ (by decide +kernel), _, rfl, a, _, p, n, rfl, rfl, ⟨dx, ha⟩, hp, k⟩
    · refine ⟨_, rfl, rfl, _, rfl, ?_⟩
      refine if_false_of (by decide +kernel) ?_
      refine ⟨_, rfl, rfl, _, rfl, ?_⟩
      refine if_true_of (by decide +kernel) ?_
      exact ⟨_, rfl, a, dx, _, rfl, ha, kf_no _ (by decide +kernel), _, rfl, a, _, p, n, rfl, rfl, ⟨dx, ha⟩, hp, k⟩
    · refine ⟨_, rfl, rfl, _, rfl, ?_⟩
      refine if_false_of (by decide +kernel) ?_
      refine ⟨_, rfl, rfl, _, rfl, ?_⟩
      refine if_false_of (by decide +kernel) ?_
      refine ⟨_, rfl, rfl, _, rfl, ?_⟩
      refine if_true_of (by decide +kernel) ?_
      exact ⟨_, rfl, a, dx, _, rfl, ha, kf_no _ (by decide +kernel), _, rfl, a, _, p, n, rfl, rfl, ⟨dx, ha⟩, hp, k⟩
    · refine ⟨_, rfl, rfl, _, rfl, ?_⟩
      refine if_false_of (by decide +kernel) ?_
      refine ⟨_, rfl, rfl, _, rfl, ?_⟩
      refine if_false_of (by decide +kernel) ?_
      refine ⟨_, rfl, rfl, _, rfl, ?_⟩
      refine if_false_of (by decide +kernel) ?_
      exact ⟨_, rfl, a, dx, _, rfl, ha, kf_no _ (by decide +kernel), _, rfl, a, _, p, n, rfl, rfl, ⟨dx, ha⟩, hp, k⟩
theorem sc_answer : FnScope ["keeper", "word", "numbers"] ["keeper", "word", "numbers"] (defScope sAnswer) := ⟨rfl, rfl, rfl, by decide +kernel, rfl, by decide +kernel, by decide +kernel⟩
theorem ok_answer {CK CR f f1 f2 f3 f4 f5 f6 : Addr} {fd fd1 fd2 fd3 fd4 fd5 fd6 : FuncData} (D : Df K mg "answer" sAnswer ["keeper", "word", "numbers"] f fd) (T : Kp K CK)
    (MB : Mf K CK "begin" "Keeper.begin" sBegin ["self", "prime"] f1 fd1) (GB : FnOk P w K mg base (L2.CX P w) 5 f1 fd1 ["self", "prime"] (spBegin CK CR))
    (MN : Mf K CK "need_begun" "Keeper.need_begun" sNeed ["self"] f2 fd2) (GN : FnOk P w K mg base (L2.CX P w) 5 f2 fd2 ["self"] (spNeed CK CR))
    (MC : Mf K CK "change" "Keeper.change" sChange ["self", "prime"] f3 fd3) (GC : FnOk P w K mg base (L2.CX P w) 5 f3 fd3 ["self", "prime"] (spChange CK CR))
    (D2 : Df K mg "answer_of_two" sTwo ["keeper", "word", "one", "other"] f4 fd4) (G2 : FnOk P w K mg base (L2.CX P w) 6 f4 fd4 ["keeper", "word", "one", "other"] (spTwo CK CR))
    (D3 : Df K mg "answer_of_product" sPrd ["keeper", "word", "number"] f5 fd5) (G3 : FnOk P w K mg base (L2.CX P w) 6 f5 fd5 ["keeper", "word", "number"] (spPrd CK CR))
    (D4 : Df K mg "answer_of_list" sLst ["keeper", "word", "number"] f6 fd6) (G4 : FnOk P w K mg base (L2.CX P w) 6 f6 fd6 ["keeper", "word", "number"] (spLst CK CR)) :
    FnOk P w K mg base (L2.CX P w) 7 f fd ["keeper", "word", "numbers"] (spAnswer CK CR) := by
  refine D.F.okX sc_answer (fun vs H Q E h => ?_) (fun cdv A outer s H vs Q E hr h => ?_)
  · obtain ⟨a, nl, wd, c, st, rfl, _⟩ := h
    rfl
  · obtain ⟨a, nl, wd, c, st, rfl, hw, ⟨dx, ha⟩, hg, hn, k1, k2⟩ := h
    have hr5 : Room 5 _ := hr.mono (by decide)
    refine ⟨_, (pss_cons (ps_if (pt_cmpR op_eq (pv 1) pe_str (nomark _)) (pss_one (ps_ret (pe_meth (pv 0) T.cl MB.m GB hr5 MB.b .nil (passes_call (takes_of rfl rfl rfl rfl) (fun _ _ _ _ h => h)) (pa_cons (pe_ix ix_list (pv 2) pe_int (fun _ _ => rfl)) pa_nil)))) pss_nil)
      (pss_cons (ps_expr (pe_meth0 (pv 0) T.cl MN.m GN hr5 MN.b .nil (passes_call (takes_of rfl rfl rfl rfl) (fun _ _ _ _ h => h))))
      (pss_cons (ps_if (pt_cmpR op_eq (pv 1) pe_str (nomark _)) (pss_one (ps_ret (pe_lst (pa_cons (pe_fld (pv 0) rfl) pa_nil)))) pss_nil)
      (pss_cons (ps_if (pt_cmpR op_eq (pv 1) pe_str (nomark _)) (pss_one (ps_ret (pe_meth (pv 0) T.cl MC.m GC hr5 MC.b .nil (passes_call (takes_of rfl rfl rfl rfl) (fun _ _ _ _ h => h)) (pa_cons (pe_ix ix_list (pv 2) pe_int (fun _ _ => rfl)) pa_nil)))) pss_nil)
      (pss_cons (ps_if (pt_cmpR op_in_seq (pv 1) (pe_tup (pa_cons pe_str (pa_cons pe_str (pa_cons pe_str pa_nil)))) (by rfl)) (pss_one (ps_ret (pe_call G2 hr rfl D2.g D2.F.kp D2.b .nil (passes_call (takes_of rfl rfl rfl rfl) (fun _ _ _ _ h => h)) (pa_cons (pv 0) (pa_cons (pv 1) (pa_cons (pe_ix ix_list (pv 2) pe_int (fun _ _ => rfl)) (pa_cons (pe_ix ix_list (pv 2) pe_int (fun _ _ => rfl)) pa_nil))))))) pss_nil)
      (pss_cons (ps_if (pt_cmpR op_in_seq (pv 1) (pe_tup (pa_cons pe_str (pa_cons pe_str (pa_cons pe_str (pa_cons pe_str pa_nil))))) (by rfl)) (pss_one (ps_ret (pe_call G3 hr rfl D3.g D3.F.kp D3.b .nil (passes_call (takes_of rfl rfl rfl rfl) (fun _ _ _ _ h => h)) (pa_cons (pv 0) (pa_cons (pv 1) (pa_cons (pe_ix ix_list (pv 2) pe_int (fun _ _ => rfl)) pa_nil)))))) pss_nil)
      (pss_one (ps_ret (pe_call G4 hr rfl D4.g D4.F.kp D4.b .nil (passes_call (takes_of rfl rfl rfl rfl) (fun _ _ _ _ h => h)) (pa_cons (pv 0) (pa_cons (pv 1) (pa_cons (pe_ix ix_list (pv 2) pe_int (fun _ _ => rfl)) pa_nil)))))))))))), ?_⟩
    cases c with
    | begin_ p =>
      have hw2 : wd = "begin" := hw
      subst hw2
      refine ⟨_, rfl, rfl, _, rfl, ?_⟩
      refine if_true_of (by decide +kernel) ?_
      refine ⟨_, rfl, a, dx, _, rfl, ha, kf_no _ (by decide +kernel), _, rfl, nl, _, 0, _, rfl, rfl, SqL.of hn, rfl, a, _, st, p, rfl, rfl, ⟨dx, ha⟩, fun c H' l s2 e1 n e2 => ?_, fun c => ?_⟩
      · have e : Kp267.step st (.begin_ p) = (some p, Kp267.say (p : Int)) := if_pos c
        rw [e] at k1
        exact k1 H' l s2 e1 n e2
      · have e : Kp267.step st (.begin_ p) = (st, Kp267.say (-22)) := if_neg (by rw [c]; exact Bool.false_ne_true)
        exact k2 _ e
    | prime q =>
      have hw2 : wd = "prime" := hw
      subst hw2
      refine ⟨_, rfl, rfl, _, rfl, ?_⟩
      refine if_false_of (by decide +kernel) ?_
      refine ⟨_, rfl, a, dx, _, rfl, ha, kf_no _ (by decide +kernel), a, st, rfl, ⟨dx, ha⟩, fun hne => ?_, fun he => by subst he; exact k2 _ rfl⟩
      obtain ⟨p, rfl⟩ : ∃ p, st = some p := by
        cases st with
        | none => exact absurd rfl hne
        | some p => exact ⟨p, rfl⟩
      have hp := hg p rfl
      refine ⟨_, rfl, rfl, _, rfl, ?_⟩
      refine if_false_of (by decide +kernel) ?_
      refine ⟨_, rfl, rfl, _, rfl, ?_⟩
      refine if_true_of (by decide +kernel) ?_
      refine ⟨_, rfl, a, dx, _, rfl, ha, kf_no _ (by decide +kernel), _, rfl, nl, _, 0, _, rfl, rfl, SqL.of hn, rfl, a, _, p, q, rfl, rfl, ⟨dx, ha⟩, fun c H' l s2 e1 n e2 => ?_, fun c => ?_⟩
      · have e : Kp267.step (some p) (.prime q) = (some q, Kp267.say (p : Int)) := if_pos c
        rw [e] at k1
        exact k1 H' l s2 e1 n e2
      · have e : Kp267.step (some p) (.prime q) = (some p, Kp267.say (-22)) := if_neg (by rw [c]; exact Bool.false_ne_true)
        exact k2 _ e
    | prod n =>
      have hw2 : wd = "prod" := hw
      subst hw2
      refine ⟨_, rfl, rfl, _, rfl, ?_⟩
      refine if_false_of (by decide +kernel) ?_
      refine ⟨_, rfl, a, dx, _, rfl, ha, kf_no _ (by decide +kernel), a, st, rfl, ⟨dx, ha⟩, fun hne => ?_, fun he => by subst he; exact k2 _ rfl⟩
      obtain ⟨p, rfl⟩ : ∃ p, st = some p := by
        cases st with
        | none => exact absurd rfl hne
        | some p => exact ⟨p, rfl⟩
      have hp := hg p rfl
      refine ⟨_, rfl, rfl, _, rfl, ?_⟩
      refine if_false_of (by decide +kernel) ?_
      refine ⟨_, rfl, rfl, _, rfl, ?_⟩
      refine if_false_of (by decide +kernel) ?_
      refine ⟨_, rfl, (by show 3 ≤ sizeLine; decide), fun t1 ht1 => ⟨t1, _, rfl, .inr (SqT.of upd_same), rfl, rfl, _, rfl, ?_⟩⟩
      have s1 := same_new (o := .tup [.str "noughts", .str "span", .str "twice"]) (Same.refl H) ht1
      refine if_false_of (by decide +kernel) ?_
      refine ⟨_, rfl, (by show 4 ≤ sizeLine; decide), fun t2 ht2 => ⟨t2, _, rfl, .inr (SqT.of upd_same), rfl, rfl, _, rfl, ?_⟩⟩
      have s2 := same_new (o := .tup [.str "prod", .str "times", .str "rest", .str "jumps"]) s1 ht2
      refine if_true_of (by decide +kernel) ?_
      refine ⟨_, rfl, _, rfl, _, rfl, nl, _, 0, _, rfl, rfl, SqL.of (s2 _ _ hn), rfl, ?_⟩
      exact ⟨a, _, .prod n, _, p, n, rfl, rfl, .inl ⟨rfl, rfl⟩, ⟨dx, s2 _ _ ha⟩, hp, tells_of rfl ⟨dx, ha⟩ s2 k1 k2⟩
    | times n =>
      have hw2 : wd = "times" := hw
      subst hw2
      refine ⟨_, rfl, rfl, _, rfl, ?_⟩
      refine if_false_of (by decide +kernel) ?_
      refine ⟨_, rfl, a, dx, _, rfl, ha, kf_no _ (by decide +kernel), a, st, rfl, ⟨dx, ha⟩, fun hne => ?_, fun he => by subst he; exact k2 _ rfl⟩
      obtain ⟨p, rfl⟩ : ∃ p, st = some p := by
        cases st with
        | none => exact absurd rfl hne
        | some p => exact ⟨p, rfl⟩
      have hp := hg p rfl
      refine ⟨_, rfl, rfl, _, rfl, ?_⟩
      refine if_false_of (by decide +kernel) ?_
      refine ⟨_, rfl, rfl, _, rfl, ?_⟩
      refine if_false_of (by decide +kernel) ?_
      refine ⟨_, rfl, (by show 3 ≤ sizeLine; decide), fun t1 ht1 => ⟨t1, _, rfl, .inr (SqT.of upd_same), rfl, rfl, _, rfl, ?_⟩⟩
      have s1 := same_new (o := .tup [.str "noughts", .str "span", .str "twice"]) (Same.refl H) ht1
      refine if_false_of (by decide +kernel) ?_
      refine ⟨_, rfl, (by show 4 ≤ sizeLine; decide), fun t2 ht2 => ⟨t2, _, rfl, .inr (SqT.of upd_same), rfl, rfl, _, rfl, ?_⟩⟩
      have s2 := same_new (o := .tup [.str "prod", .str "times", .str "rest", .str "jumps"]) s1 ht2
      refine if_true_of (by decide +kernel) ?_
      refine ⟨_, rfl, _, rfl, _, rfl, nl, _, 0, _, rfl, rfl, SqL.of (s2 _ _ hn), rfl, ?_⟩
      exact ⟨a, _, .times n, _, p, n, rfl, rfl, .inr (.inl ⟨rfl, rfl⟩), ⟨dx, s2 _ _ ha⟩, hp, tells_of rfl ⟨dx, ha⟩ s2 k1 k2⟩
    | rest n =>
      have hw2 : wd = "rest" := hw
      subst hw2
      refine ⟨_, rfl, rfl, _, rfl, ?_⟩
      refine if_false_of (by decide +kernel) ?_
      refine ⟨_, rfl, a, dx, _, rfl, ha, kf_no _ (by decide +kernel), a, st, rfl, ⟨dx, ha⟩, fun hne => ?_, fun he => by subst he; exact k2 _ rfl⟩
      obtain ⟨p, rfl⟩ : ∃ p, st = some p := by
        cases st with
        | none => exact absurd rfl hne
        | some p => exact ⟨p, rfl⟩
      have hp := hg p rfl
      refine ⟨_, rfl, rfl, _, rfl, ?_⟩
      refine if_false_of (by decide +kernel) ?_
      refine ⟨_, rfl, rfl, _, rfl, ?_⟩
      refine if_false_of (by decide +kernel) ?_
      refine ⟨_, rfl, (by show 3 ≤ sizeLine; decide), fun t1 ht1 => ⟨t1, _, rfl, .inr (SqT.of upd_same), rfl, rfl, _, rfl, ?_⟩⟩
      have s1 := same_new (o := .tup [.str "noughts", .str "span", .str "twice"]) (Same.refl H) ht1
      refine if_false_of (by decide +kernel) ?_
      refine ⟨_, rfl, (by show 4 ≤ sizeLine; decide), fun t2 ht2 => ⟨t2, _, rfl, .inr (SqT.of upd_same), rfl, rfl, _, rfl, ?_⟩⟩
      have s2 := same_new (o := .tup [.str "prod", .str "times", .str "rest", .str "jumps"]) s1 ht2
      refine if_true_of (by decide +kernel) ?_
      refine ⟨_, rfl, _, rfl, _, rfl, nl, _, 0, _, rfl, rfl, SqL.of (s2 _ _ hn), rfl, ?_⟩
      exact ⟨a, _, .rest n, _, p, n, rfl, rfl, .inr (.inr (.inl ⟨rfl, rfl⟩)), ⟨dx, s2 _ _ ha⟩, hp, tells_of rfl ⟨dx, ha⟩ s2 k1 k2⟩
    | least n =>
      have hw2 : wd = "least" := hw
      subst hw2
      refine ⟨_, rfl, rfl, _, rfl, ?_⟩
      refine if_false_of (by decide +kernel) ?_
      refine ⟨_, rfl, a, dx, _, rfl, ha, kf_no _ (by decide +kernel), a, st, rfl, ⟨dx, ha⟩, fun hne => ?_, fun he => by subst he; exact k2 _ rfl⟩
      obtain ⟨p, rfl⟩ : ∃ p, st = some p := by
        cases st with
        | none => exact absurd rfl hne
        | some p => exact ⟨p, rfl⟩
      have hp := hg p rfl
      refine ⟨_, rfl, rfl, _, rfl, ?_⟩
      refine if_false_of (by decide +kernel) ?_
      refine ⟨_, rfl, rfl, _, rfl, ?_⟩
      refine if_false_of (by decide +kernel) ?_
      refine ⟨_, rfl, (by show 3 ≤ sizeLine; decide), fun t1 ht1 => ⟨t1, _, rfl, .inr (SqT.of upd_same), rfl, rfl, _, rfl, ?_⟩⟩
      have s1 := same_new (o := .tup [.str "noughts", .str "span", .str "twice"]) (Same.refl H) ht1
      refine if_false_of (by decide +kernel) ?_
      refine ⟨_, rfl, (by show 4 ≤ sizeLine; decide), fun t2 ht2 => ⟨t2, _, rfl, .inr (SqT.of upd_same), rfl, rfl, _, rfl, ?_⟩⟩
      have s2 := same_new (o := .tup [.str "prod", .str "times", .str "rest", .str "jumps"]) s1 ht2
      refine if_false_of (by decide +kernel) ?_
      refine ⟨_, rfl, _, rfl, _, rfl, nl, _, 0, _, rfl, rfl, SqL.of (s2 _ _ hn), rfl, ?_⟩
      exact ⟨a, _, .least n, _, p, n, rfl, rfl, .inl ⟨rfl, rfl⟩, ⟨dx, s2 _ _ ha⟩, hp, tells_of rfl ⟨dx, ha⟩ s2 k1 k2⟩
    | noughts n m =>
      have hw2 : wd = "noughts" := hw
      subst hw2
      refine ⟨_, rfl, rfl, _, rfl, ?_⟩
      refine if_false_of (by decide +kernel) ?_
      refine ⟨_, rfl, a, dx, _, rfl, ha, kf_no _ (by decide +kernel), a, st, rfl, ⟨dx, ha⟩, fun hne => ?_, fun he => by subst he; exact k2 _ rfl⟩
      obtain ⟨p, rfl⟩ : ∃ p, st = some p := by
        cases st with
        | none => exact absurd rfl hne
        | some p => exact ⟨p, rfl⟩
      have hp := hg p rfl
      refine ⟨_, rfl, rfl, _, rfl, ?_⟩
      refine if_false_of (by decide +kernel) ?_
      refine ⟨_, rfl, rfl, _, rfl, ?_⟩
      refine if_false_of (by decide +kernel) ?_
      refine ⟨_, rfl, (by show 3 ≤ sizeLine; decide), fun t1 ht1 => ⟨t1, _, rfl, .inr (SqT.of upd_same), rfl, rfl, _, rfl, ?_⟩⟩
      have s1 := same_new (o := .tup [.str "noughts", .str "span", .str "twice"]) (Same.refl H) ht1
      refine if_true_of (by decide +kernel) ?_
      refine ⟨_, rfl, _, rfl, _, rfl, nl, _, 0, _, rfl, rfl, SqL.of (s1 _ _ hn), rfl, _, rfl, nl, _, 1, _, rfl, rfl, SqL.of (s1 _ _ hn), rfl, ?_⟩
      exact ⟨a, _, .noughts n m, _, _, p, n, m, rfl, rfl, rfl, .inl ⟨rfl, rfl⟩, ⟨dx, s1 _ _ ha⟩, hp, tells_of rfl ⟨dx, ha⟩ s1 k1 k2⟩
    | span n m =>
      have hw2 : wd = "span" := hw
      subst hw2
      refine ⟨_, rfl, rfl, _, rfl, ?_⟩
      refine if_false_of (by decide +kernel) ?_
      refine ⟨_, rfl, a, dx, _, rfl, ha, kf_no _ (by decide +kernel), a, st, rfl, ⟨dx, ha⟩, fun hne => ?_, fun he => by subst he; exact k2 _ rfl⟩
      obtain ⟨p, rfl⟩ : ∃ p, st = some p := by
        cases st with
        | none => exact absurd rfl hne
        | some p => exact ⟨p, rfl⟩
      have hp := hg p rfl
      refine ⟨_, rfl, rfl, _, rfl, ?_⟩
      refine if_false_of (by decide +kernel) ?_
      refine ⟨_, rfl, rfl, _, rfl, ?_⟩
      refine if_false_of (by decide +kernel) ?_
      refine ⟨_, rfl, (by show 3 ≤ sizeLine; decide), fun t1 ht1 => ⟨t1, _, rfl, .inr (SqT.of upd_same), rfl, rfl, _, rfl, ?_⟩⟩
      have s1 := same_new (o := .tup [.str "noughts", .str "span", .str "twice"]) (Same.refl H) ht1
      refine if_true_of (by decide +kernel) ?_
      refine ⟨_, rfl, _, rfl, _, rfl, nl, _, 0, _, rfl, rfl, SqL.of (s1 _ _ hn), rfl, _, rfl, nl, _, 1, _, rfl, rfl, SqL.of (s1 _ _ hn), rfl, ?_⟩
      exact ⟨a, _, .span n m, _, _, p, n, m, rfl, rfl, rfl, .inr (.inl ⟨rfl, rfl⟩), ⟨dx, s1 _ _ ha⟩, hp, tells_of rfl ⟨dx, ha⟩ s1 k1 k2⟩
    | gaps n =>
      have hw2 : wd = "gaps" := hw
      subst hw2
      refine ⟨_, rfl, rfl, _, rfl, ?_⟩
      refine if_false_of (by decide +kernel) ?_
      refine ⟨_, rfl, a, dx, _, rfl, ha, kf_no _ (by decide +kernel), a, st, rfl, ⟨dx, ha⟩, fun hne => ?_, fun he => by subst he; exact k2 _ rfl⟩
      obtain ⟨p, rfl⟩ : ∃ p, st = some p := by
        cases st with
        | none => exact absurd rfl hne
        | some p => exact ⟨p, rfl⟩
      have hp := hg p rfl
      refine ⟨_, rfl, rfl, _, rfl, ?_⟩
      refine if_false_of (by decide +kernel) ?_
      refine ⟨_, rfl, rfl, _, rfl, ?_⟩
      refine if_false_of (by decide +kernel) ?_
      refine ⟨_, rfl, (by show 3 ≤ sizeLine; decide), fun t1 ht1 => ⟨t1, _, rfl, .inr (SqT.of upd_same), rfl, rfl, _, rfl, ?_⟩⟩
      have s1 := same_new (o := .tup [.str "noughts", .str "span", .str "twice"]) (Same.refl H) ht1
      refine if_false_of (by decide +kernel) ?_
      refine ⟨_, rfl, (by show 4 ≤ sizeLine; decide), fun t2 ht2 => ⟨t2, _, rfl, .inr (SqT.of upd_same), rfl, rfl, _, rfl, ?_⟩⟩
      have s2 := same_new (o := .tup [.str "prod", .str "times", .str "rest", .str "jumps"]) s1 ht2
      refine if_false_of (by decide +kernel) ?_
      refine ⟨_, rfl, _, rfl, _, rfl, nl, _, 0, _, rfl, rfl, SqL.of (s2 _ _ hn), rfl, ?_⟩
      exact ⟨a, _, .gaps n, _, p, n, rfl, rfl, .inr (.inl ⟨rfl, rfl⟩), ⟨dx, s2 _ _ ha⟩, hp, tells_of rfl ⟨dx, ha⟩ s2 k1 k2⟩
    | square n =>
      have hw2 : wd = "square" := hw
      subst hw2
      refine ⟨_, rfl, rfl, _, rfl, ?_⟩
      refine if_false_of (by decide +kernel) ?_
      refine ⟨_, rfl, a, dx, _, rfl, ha, kf_no _ (by decide +kernel), a, st, rfl, ⟨dx, ha⟩, fun hne => ?_, fun he => by subst he; exact k2 _ rfl⟩
      obtain ⟨p, rfl⟩ : ∃ p, st = some p := by
        cases st with
        | none => exact absurd rfl hne
        | some p => exact ⟨p, rfl⟩
      have hp := hg p rfl
      refine ⟨_, rfl, rfl, _, rfl, ?_⟩
      refine if_false_of (by decide +kernel) ?_
      refine ⟨_, rfl, rfl, _, rfl, ?_⟩
      refine if_false_of (by decide +kernel) ?_
      refine ⟨_, rfl, (by show 3 ≤ sizeLine; decide), fun t1 ht1 => ⟨t1, _, rfl, .inr (SqT.of upd_same), rfl, rfl, _, rfl, ?_⟩⟩
      have s1 := same_new (o := .tup [.str "noughts", .str "span", .str "twice"]) (Same.refl H) ht1
      refine if_false_of (by decide +kernel) ?_
      refine ⟨_, rfl, (by show 4 ≤ sizeLine; decide), fun t2 ht2 => ⟨t2, _, rfl, .inr (SqT.of upd_same), rfl, rfl, _, rfl, ?_⟩⟩
      have s2 := same_new (o := .tup [.str "prod", .str "times", .str "rest", .str "jumps"]) s1 ht2
      refine if_false_of (by decide +kernel) ?_
      refine ⟨_, rfl, _, rfl, _, rfl, nl, _, 0, _, rfl, rfl, SqL.of (s2 _ _ hn), rfl, ?_⟩
      exact ⟨a, _, .square n, _, p, n, rfl, rfl, .inr (.inr (.inl ⟨rfl, rfl⟩)), ⟨dx, s2 _ _ ha⟩, hp, tells_of rfl ⟨dx, ha⟩ s2 k1 k2⟩
    | twice n m =>
      have hw2 : wd = "twice" := hw
      subst hw2
      refine ⟨_, rfl, rfl, _, rfl, ?_⟩
      refine if_false_of (by decide +kernel) ?_
      refine ⟨_, rfl, a, dx, _, rfl, ha, kf_no _ (by decide +kernel), a, st, rfl, ⟨dx, ha⟩, fun hne => ?_, fun he => by subst he; exact k2 _ rfl⟩
      obtain ⟨p, rfl⟩ : ∃ p, st = some p := by
        cases st with
        | none => exact absurd rfl hne
        | some p => exact ⟨p, rfl⟩
      have hp := hg p rfl
      refine ⟨_, rfl, rfl, _, rfl, ?_⟩
      refine if_false_of (by decide +kernel) ?_
      refine ⟨_, rfl, rfl, _, rfl, ?_⟩
      refine if_false_of (by decide +kernel) ?_
      refine ⟨_, rfl, (by show 3 ≤ sizeLine; decide), fun t1 ht1 => ⟨t1, _, rfl, .inr (SqT.of upd_same), rfl, rfl, _, rfl, ?_⟩⟩
      have s1 := same_new (o := .tup [.str "noughts", .str "span", .str "twice"]) (Same.refl H) ht1
      refine if_true_of (by decide +kernel) ?_
      refine ⟨_, rfl, _, rfl, _, rfl, nl, _, 0, _, rfl, rfl, SqL.of (s1 _ _ hn), rfl, _, rfl, nl, _, 1, _, rfl, rfl, SqL.of (s1 _ _ hn), rfl, ?_⟩
      exact ⟨a, _, .twice n m, _, _, p, n, m, rfl, rfl, rfl, .inr (.inr ⟨rfl, rfl⟩), ⟨dx, s1 _ _ ha⟩, hp, tells_of rfl ⟨dx, ha⟩ s1 k1 k2⟩
    | parts n =>
      have hw2 : wd = "parts" := hw
      subst hw2
      refine ⟨_, rfl, rfl, _, rfl, ?_⟩
      refine if_false_of (by decide +kernel) ?_
      refine ⟨_, rfl, a, dx, _, rfl, ha, kf_no _ (by decide +kernel), a, st, rfl, ⟨dx, ha⟩, fun hne => ?_, fun he => by subst he; exact k2 _ rfl⟩
      obtain ⟨p, rfl⟩ : ∃ p, st = some p := by
        cases st with
        | none => exact absurd rfl hne
        | some p => exact ⟨p, rfl⟩
      have hp := hg p rfl
      refine ⟨_, rfl, rfl, _, rfl, ?_⟩
      refine if_false_of (by decide +kernel) ?_
      refine ⟨_, rfl, rfl, _, rfl, ?_⟩
      refine if_false_of (by decide +kernel) ?_
      refine ⟨_, rfl, (by show 3 ≤ sizeLine; decide), fun t1 ht1 => ⟨t1, _, rfl, .inr (SqT.of upd_same), rfl, rfl, _, rfl, ?_⟩⟩
      have s1 := same_new (o := .tup [.str "noughts", .str "span", .str "twice"]) (Same.refl H) ht1
      refine if_false_of (by decide +kernel) ?_
      refine ⟨_, rfl, (by show 4 ≤ sizeLine; decide), fun t2 ht2 => ⟨t2, _, rfl, .inr (SqT.of upd_same), rfl, rfl, _, rfl, ?_⟩⟩
      have s2 := same_new (o := .tup [.str "prod", .str "times", .str "rest", .str "jumps"]) s1 ht2
      refine if_false_of (by decide +kernel) ?_
      refine ⟨_, rfl, _, rfl, _, rfl, nl, _, 0, _, rfl, rfl, SqL.of (s2 _ _ hn), rfl, ?_⟩
      exact ⟨a, _, .parts n, _, p, n, rfl, rfl, .inr (.inr (.inr ⟨rfl, rfl⟩)), ⟨dx, s2 _ _ ha⟩, hp, tells_of rfl ⟨dx, ha⟩ s2 k1 k2⟩
    | jumps n =>
      have hw2 : wd = "jumps" := hw
      subst hw2
      refine ⟨_, rfl, rfl, _, rfl, ?_⟩
      refine if_false_of (by decide +kernel) ?_
      refine ⟨_, rfl, a, dx, _, rfl, ha, kf_no _ (by decide +kernel), a, st, rfl, ⟨dx, ha⟩, fun hne => ?_, fun he => by subst he; exact k2 _ rfl⟩
      obtain ⟨p, rfl⟩ : ∃ p, st = some p := by
        cases st with
        | none => exact absurd rfl hne
        | some p => exact ⟨p, rfl⟩
      have hp := hg p rfl
      refine ⟨_, rfl, rfl, _, rfl, ?_⟩
      refine if_false_of (by decide +kernel) ?_
      refine ⟨_, rfl, rfl, _, rfl, ?_⟩
      refine if_false_of (by decide +kernel) ?_
      refine ⟨_, rfl, (by show 3 ≤ sizeLine; decide), fun t1 ht1 => ⟨t1, _, rfl, .inr (SqT.of upd_same), rfl, rfl, _, rfl, ?_⟩⟩
      have s1 := same_new (o := .tup [.str "noughts", .str "span", .str "twice"]) (Same.refl H) ht1
      refine if_false_of (by decide +kernel) ?_
      refine ⟨_, rfl, (by show 4 ≤ sizeLine; decide), fun t2 ht2 => ⟨t2, _, rfl, .inr (SqT.of upd_same), rfl, rfl, _, rfl, ?_⟩⟩
      have s2 := same_new (o := .tup [.str "prod", .str "times", .str "rest", .str "jumps"]) s1 ht2
      refine if_true_of (by decide +kernel) ?_
      refine ⟨_, rfl, _, rfl, _, rfl, nl, _, 0, _, rfl, rfl, SqL.of (s2 _ _ hn), rfl, ?_⟩
      exact ⟨a, _, .jumps n, _, p, n, rfl, rfl, .inr (.inr (.inr ⟨rfl, rfl⟩)), ⟨dx, s2 _ _ ha⟩, hp, tells_of rfl ⟨dx, ha⟩ s2 k1 k2⟩
    | told =>
      have hw2 : wd = "told" := hw
      subst hw2
      refine ⟨_, rfl, rfl, _, rfl, ?_⟩
      refine if_false_of (by decide +kernel) ?_
      refine ⟨_, rfl, a, dx, _, rfl, ha, kf_no _ (by decide +kernel), a, st, rfl, ⟨dx, ha⟩, fun hne => ?_, fun he => by subst he; exact k2 _ rfl⟩
      obtain ⟨p, rfl⟩ : ∃ p, st = some p := by
        cases st with
        | none => exact absurd rfl hne
        | some p => exact ⟨p, rfl⟩
      have hp := hg p rfl
      refine ⟨_, rfl, rfl, _, rfl, ?_⟩
      refine if_true_of (by decide +kernel) ?_
      refine ⟨_, rfl, a, CK, dx, _, _, rfl, ha, T.cl, T.nP, kf_look _, (by show 1 ≤ sizeLine; decide), fun l hl => ?_⟩
      have la : a ≠ l := ne_of_none ha hl
      exact k1 _ l (fun b o _ e => same_new (Same.refl H) hl b o e) ⟨dx, by rw [upd_ne la]; exact ha⟩ hl upd_same
end
end Pf

namespace Pf
open PySem PySem.Spec PyProof.Rows L2
open Kp267 (Call)
abbrev sAnswers : Stmt := top 42
def spAns (K : PySem.W.Frag) : Sp := fun vs H Q _ => ∃ (a : Addr) (cs : List Call), vs = [.ref a] ∧ SqL K H a ((flats cs).map V.int) ∧ (flats cs).length ≤ 1000 ∧ (said none cs).length ≤ 10000000 ∧
  ∀ (H' : Hp) (p : Addr), H' p = some (.lst ((said none cs).map V.int)) → Q (.ref p) H'
/-- told = [e.number] -/
def tsE (CR : Addr) : Addr → Value → Option Addr → TS := fun a cls d => tAsg (tLst (tCons (tXf a cls d CR "number" (tVar 6)) tNil)) (gName 5)
theorem num_look (v : V) : List.lookup ("number" : Str) [(("number" : Str), v)] = some v := by
  have e : (("number" : Str) == ("number" : Str)) = true := beq_self_eq_true _
  simp only [List.lookup, e]
/-- the loop's word: behind i calls -/
structure Lw (CK : Addr) (H1 : Hp) (k F : Addr) (cs : List Call) (i : Nat) (H' : Hp) : Prop where
  keep : KeepAt CK H' k (after none (cs.take i))
  fnd : H' F = some (.lst ((said none (cs.take i)).map V.int))
  old : ∀ b o, b ≠ k → b ≠ F → H1 b = some o → H' b = some o
theorem after_one (s : Kp267.State) (c : Call) : after s [c] = (Kp267.step s c).1 := rfl
theorem lw_next {CK : Addr} {H1 H' H2 : Hp} {k F : Addr} {cs : List Call} {i : Nat} {c : Call} (hc : cs[i]? = some c) (L : Lw CK H1 k F cs i H') (kF : k ≠ F)
    (h1 : KeepAt CK H2 k (Kp267.step (after none (cs.take i)) c).1) (h2 : Keeps k H' H2) {x : List V} (hx : x = ((said none (cs.take i) ++ [((out (after none (cs.take i)) c).length : Int)]).map V.int) ++ alist (Kp267.step (after none (cs.take i)) c).2) (o : HO) :
    Lw CK H1 k F cs (i + 1) (upd (upd H2 F o) F (.lst x)) := by
  refine ⟨?_, ?_, fun b u hb hF e => ?_⟩
  · obtain ⟨dx, e⟩ := h1
    refine ⟨dx, ?_⟩
    rw [upd_ne kF, upd_ne kF, take_more hc, after_append, after_one]
    exact e
  · rw [upd_same, hx, take_more hc, said_append, said_one]
    unfold alist out
    simp only [List.map_append, List.map_cons, List.map_nil, List.append_assoc, List.cons_append, List.nil_append]
  · rw [upd_ne hF, upd_ne hF]
    exact h2 b u hb (L.old b u hb hF e)
theorem said_take (cs : List Call) (i : Nat) : (said none (cs.take i)).length ≤ (said none cs).length := by
  have e : said none cs = said none (cs.take i) ++ said (after none (cs.take i)) (cs.drop i) := by rw [← said_append, List.take_append_drop]
  rw [e, List.length_append]
  omega
section
variable {P : Program} {w : World} {K : PySem.W.Frag} {mg : Str → Option Value} {base : Heap}
theorem scAns : FnScope ["calls", "keeper", "found", "word", "numbers", "told", "e"] ["calls"] (defScope sAnswers) := ⟨rfl, rfl, rfl, by decide +kernel, rfl, by decide +kernel, by decide +kernel⟩
theorem ok_ans {CK CR f fI fR fA fE ca : Addr} {ws : List Addr} {fd fdI fdR fdA : FuncData} (D : Df K mg "answers" sAnswers ["calls"] f fd) (T : Kp K CK) (R : Rf K mg CR fE) (gK : mg "Keeper" = some (.ref CK)) (MK : Mk K CK fI)
    (FI : Fun K "__init__" "Keeper.__init__" sKI fI fdI) (bI : Binds K fdI ["self"] [])
    (DR : Df K mg "read_calls" sRead ["calls"] fR fdR) (C : Ct K mg ca ws) (DA : Df K mg "answer" sAnswer ["keeper", "word", "numbers"] fA fdA) (GA : FnOk P w K mg base (L2.CX P w) 7 fA fdA ["keeper", "word", "numbers"] (spAnswer CK CR)) (hlen : mg "len" = none) :
    FnOk P w K mg base CX0 8 f fd ["calls"] (spAns K) := by
  have GI : FnOk P w K mg base CX0 1 fI fdI ["self"] (spKI CK) := ok_ki FI T
  have GR : FnOk P w K mg base CX0 1 fR fdR ["calls"] (spRead K) := ok_read DR C hlen
  refine D.F.ok scAns (fun vs H Q E h => ?_) (fun cdv A outer s H vs Q E hr h => ?_)
  · obtain ⟨a, cs, rfl, _⟩ := h
    rfl
  · obtain ⟨a, cs, rfl, hS, hmax, hsz, q⟩ := h
    have hr2 : Room 2 _ := hr.mono (by decide)
    have hr1 : Room 1 _ := hr.mono (by decide)
    refine ⟨_, pss_cons (ps_set (i := 1) scAns.nd rfl (Or.inl rfl) (pe_make0 MK GI hr2 rfl gK bI .nil pass0))
      (pss_cons (ps_set (i := 2) scAns.nd rfl (Or.inl rfl) (pe_lst pa_nil))
      (pss_cons (ps_for PassesOwn.never rfl (pi_list (pe_call GR hr1 rfl DR.g DR.F.kp DR.b .nil pass0 (pa_cons (pv 0) pa_nil))) (pg_tup rfl (pgs_cons (pg_name (i := 3) scAns.nd rfl (Or.inl rfl)) (pgs_cons (pg_name (i := 4) scAns.nd rfl (Or.inl rfl)) pgs_nil)))
        (pss_cons (ps_try_as (i := 6) (tb := fun W => tAsg (tCallS (spAnswer CK CR) (WE W) (tCons (tVar 1) (tCons (tVar 3) (tCons (tVar 4) tNil)))) (gName 5)) (ts := tsE CR) (Wout := fun _ _ _ _ => False) rfl rfl scAns.nd rfl rfl ⟨rfl, by decide, Or.inl R.gC⟩ takes0
          (fun W pn xe tk _ => pss_one (ps_set (i := 5) scAns.nd rfl (Or.inl rfl) (by exact (pe_callS GA hr rfl DA.g DA.F.kp DA.b (fun σ => passAt tk σ) (by exact (pa_cons (pv 1) (pa_cons (pv 3) (pa_cons (pv 4) pa_nil))))))))
          (fun a oe cls d pn hz hf => pss_one (ps_set (i := 5) scAns.nd rfl (Or.inl rfl) (by exact (pe_lst (pa_cons (pe_xf R.xf R.noN hz hf (pv 6)) pa_nil))))))
        (pss_cons (ps_expr (pe_bm PySem.F.plainAttrs_list PySem.F.slot_list_append PySem.F.type_list_append mt_append (pv 2) (pa_cons (pe_callB call_len_seq (by rfl) hlen PySem.boot_len (pa_cons (pv 5) pa_nil)) pa_nil)))
        (pss_one (ps_expr (pe_bm PySem.F.plainAttrs_list PySem.F.slot_list_extend PySem.F.type_list_extend mt_extend (pv 2) (pa_cons (pv 5) pa_nil)))))))
      (pss_one (ps_ret (pv 2))))), ?_⟩
    intro k dx nk nd nkd
    refine ⟨k, dx, rfl, upd_same, rfl, Nat.zero_le _, fun F hF => ?_⟩
    rw [upd_upd] at hF ⊢
    have kF : k ≠ F := fun e => by
      rw [← e, upd_same] at hF
      cases hF
    have hF0 : H F = none := by
      rw [upd_ne kF.symm] at hF
      by_cases e : F = dx
      · rw [e, upd_same] at hF
        cases hF
      · rw [upd_ne e] at hF
        exact hF
    have s0 : Same H (upd (upd (upd H dx (.own k)) k (.ins CK dx (kf .non))) F (.lst [])) := fun b o e => by
      rw [upd_ne (ne_of_none e hF0), upd_ne (ne_of_none e nk), upd_ne (ne_of_none e nd)]
      exact e
    have hk0 : (upd (upd (upd H dx (.own k)) k (.ins CK dx (kf .non))) F (.lst [])) k = some (.ins CK dx (kf .non)) := by
      rw [upd_ne kF, upd_same]
    have hF1 : (upd (upd (upd H dx (.own k)) k (.ins CK dx (kf .non))) F (.lst [])) F = some (.lst []) := upd_same
    generalize upd (upd (upd H dx (.own k)) k (.ins CK dx (kf .non))) F (.lst []) = H0 at s0 hk0 hF1 ⊢
    refine ⟨_, rfl, a, cs, rfl, s0.seq hS, hmax, fun H1 rl ts s1 hrl h1 h2 => ?_⟩
    have rlk : rl ≠ k := fun e => by
      rw [e, hk0] at hrl
      cases hrl
    have rlF : rl ≠ F := fun e => by
      rw [e, hF1] at hrl
      cases hrl
    refine ⟨rl, rfl, ⟨_, SqL.of h1⟩, for_list (K := K) (a := rl) (xs := ts.map V.ref)
      (fun i σ H' => ∃ (u3 u4 u5 : Option V), σ = [some (.ref a), some (.ref k), some (.ref F), u3, u4, u5, none] ∧ Lw CK H1 k F cs i H')
      ⟨none, none, none, rfl, ⟨dx, s1 _ _ hk0⟩, s1 _ _ hF1, fun b o _ _ e => e⟩ (fun i σ H' _ ⟨_, _, _, _, L⟩ => SqL.of (L.old _ _ rlk rlF h1)) ?_ ?_⟩
    · rintro i y σ H' hi ⟨u3, u4, u5, rfl, L⟩
      obtain ⟨t, ht, rfl⟩ := get_map hi
      obtain ⟨c, hc, nl, e1, e2, e3⟩ := h2.get ht
      have tk : t ≠ k := ne_of e1 (s1 _ _ hk0) (by intro z; cases z)
      have tF : t ≠ F := ne_of e1 (s1 _ _ hF1) (by intro z; cases z)
      have nk' : nl ≠ k := fun e => by
        rw [e, hk0] at e3
        cases e3
      have nF' : nl ≠ F := fun e => by
        rw [e, hF1] at e3
        cases e3
      have hsz1 := said_take cs (i + 1)
      rw [take_more hc, said_append, said_one, List.length_append, List.length_cons] at hsz1
      have hal : (alist (Kp267.step (after none (cs.take i)) c).2).length = (out (after none (cs.take i)) c).length := by
        unfold alist out
        rw [List.length_map]
      have ex : ((said none (cs.take i)).map V.int ++ [V.int ((alist (Kp267.step (after none (cs.take i)) c).2).length : Nat)]) ++ alist (Kp267.step (after none (cs.take i)) c).2 =
          ((said none (cs.take i) ++ [((out (after none (cs.take i)) c).length : Int)]).map V.int) ++ alist (Kp267.step (after none (cs.take i)) c).2 := by
        rw [hal, List.map_append]
        rfl
      refine ⟨t, _, rfl, SqT.of (L.old _ _ tk tF e1), rfl, _, _, rfl, _, _, rfl, rfl, ?_⟩
      refine ⟨_, rfl, _, rfl, _, rfl, k, nl, _, c, after none (cs.take i), rfl, rfl, L.keep, good_after _ _ good_none, L.old _ _ nk' nF' e2, fun H2 l s2 hk2 hl0 hl => ?_, fun z ez H2 d s2 hd => ?_⟩
      · -- told
        have lF : l ≠ F := fun e => by
          rw [e, L.fnd] at hl0
          cases hl0
        have hF2 := s2 _ _ kF.symm L.fnd
        refine ⟨_, rfl, .inl ⟨rfl, _, SqL.of hF2⟩, _, rfl, l, _, rfl, .inl (SqL.of hl), F, _, _, rfl, rfl, hF2, ?_, ?_⟩
        · rw [List.length_map]
          exact room (by omega)
        refine ⟨_, rfl, .inl ⟨rfl, _, SqL.of upd_same⟩, _, rfl, F, l, _, _, rfl, rfl, upd_same, (by rw [upd_ne lF]; exact hl), ?_, ?_⟩
        · rw [List.length_append, List.length_map, hal]
          show _ + 1 + _ ≤ _
          exact room' (by omega)
        · exact ⟨_, _, _, rfl, lw_next hc L kF hk2 s2 ex _⟩
      · -- refused
        refine ⟨true, R.te, fun _ a0 _ => ?_, fun q => Bool.noConfusion q⟩
        refine ⟨_, rfl, rfl, rfl, d, _, _, rfl, hd, num_look _, (by show 1 ≤ sizeLine; decide), fun l hl0 => ?_⟩
        have hF2 : H2 F = _ := s2 _ _ L.fnd
        have lF : l ≠ F := fun e => by
          rw [e, hF2] at hl0
          cases hl0
        have es1 : (Kp267.step (after none (cs.take i)) c).1 = after none (cs.take i) := by rw [ez]
        have es2 : (Kp267.step (after none (cs.take i)) c).2 = Kp267.say z := by rw [ez]
        have hl : (upd H2 l (.lst [V.int z])) l = some (.lst (alist (Kp267.step (after none (cs.take i)) c).2)) := by
          rw [upd_same, es2]
          rfl
        have s3 : Same H' (upd H2 l (.lst [V.int z])) := same_new s2 hl0
        have hF3 := s3 _ _ L.fnd
        have hk3 : KeepAt CK (upd H2 l (.lst [V.int z])) k (Kp267.step (after none (cs.take i)) c).1 := by
          rw [es1]
          exact L.keep.same s3
        generalize upd H2 l (.lst [V.int z]) = H3 at hl s3 hF3 hk3 ⊢
        refine ⟨_, rfl, .inl ⟨rfl, _, SqL.of hF3⟩, _, rfl, l, _, rfl, .inl (SqL.of hl), F, _, _, rfl, rfl, hF3, ?_, ?_⟩
        · rw [List.length_map]
          exact room (by omega)
        refine ⟨_, rfl, .inl ⟨rfl, _, SqL.of upd_same⟩, _, rfl, F, l, _, _, rfl, rfl, upd_same, (by rw [upd_ne lF]; exact hl), ?_, ?_⟩
        · rw [List.length_append, List.length_map, hal]
          show _ + 1 + _ ≤ _
          exact room' (by omega)
        · exact ⟨_, _, _, rfl, lw_next hc L kF hk3 (fun b o _ e => s3 b o e) ex _⟩
    · rintro σ H' ⟨u3, u4, u5, rfl, L⟩
      have hL := L.fnd
      rw [List.length_map, h2.len, List.take_length] at hL
      exact ⟨_, rfl, q _ F hL⟩
end
end Pf

namespace Pf
open PySem PySem.Spec PyProof.Rows L2
open Kp267 (Call)
/-! ### what the top has written -/
theorem df_mk {K : PySem.W.Frag} {h : Heap} {mg : Str → Option Value} (X : K.In h) (G : h.Ns mainGlobals mg) {x : Str} {st : Stmt} {ps : List Str} {f : Addr} {od an : Option Addr} {osl : Array (Option Value)} {oc kV doc pm cdv ct : Value}
    (a : PySem.W.nsIn K mainGlobals x = some (some (.ref f))) (l : K.lookup f = some ⟨oc, od, .func (PySem.W.fnOf x x (defArgs st) (defBody st) (defScope st) .none kV doc pm an cdv ct), osl⟩) (c : PySem.W.codeIn K cdv x = true) (k : PySem.W.keepIn K (.ref f) = true)
    (hb : ∀ (kV doc pm : Value) (an : Option Addr) (cdv ct : Value) (us : List Value), us.length = ps.length → bindArgs (PySem.W.fnOf x x (defArgs st) (defBody st) (defScope st) .none kV doc pm an cdv ct) ⟨us, []⟩ = pure (ps.zip us)) : ∃ f fd, Df K mg x st ps f fd := by
  have F := fun_mk (st := st) l c k
  exact ⟨f, _, F, PySem.W.mg_of X G a, F.binds hb⟩
theorem mf_mk {K : PySem.W.Frag} {CK : Addr} (T : Kp K CK) {x qual : Str} {st : Stmt} {ps : List Str} {f : Addr} {od an : Option Addr} {osl : Array (Option Value)} {oc kV doc pm cdv ct : Value}
    (a : PySem.W.findIn K (.ref CK) x = some (some (.ref f))) (i : PySem.W.isFn K (.ref f) = true) (l : K.lookup f = some ⟨oc, od, .func (PySem.W.fnOf x qual (defArgs st) (defBody st) (defScope st) .none kV doc pm an cdv ct), osl⟩) (c : PySem.W.codeIn K cdv qual = true) (k : PySem.W.keepIn K (.ref f) = true)
    (hb : ∀ (kV doc pm : Value) (an : Option Addr) (cdv ct : Value) (us : List Value), us.length = ps.length → bindArgs (PySem.W.fnOf x qual (defArgs st) (defBody st) (defScope st) .none kV doc pm an cdv ct) ⟨us, []⟩ = pure (ps.zip us)) : ∃ f fd, Mf K CK x qual st ps f fd := by
  have F := fun_mk (st := st) l c k
  exact ⟨f, _, F, ⟨a, i, k⟩, F.binds hb⟩
theorem cn_mk {K : PySem.W.Frag} {h : Heap} {mg : Str → Option Value} (X : K.In h) (G : h.Ns mainGlobals mg) {x : Str} {i : Int} {t : Tok} (a : PySem.W.nsIn K mainGlobals x = some (some (.int i t))) : Cn mg x i := ⟨t, PySem.W.mg_of X G a⟩
/-- an error of the class at S is what «except S» names -/
theorem exm_own {K : PySem.W.Frag} {S : Addr} (h1 : PySem.W.subIn K (.ref S) (.type "BaseException") = some true) (h2 : PySem.W.isClsIn K S = true) (h3 : PySem.W.typeIn K (.ref S) = some (.type "type")) (h4 : PySem.W.subIn K (.ref S) (.ref S) = some true) :
    PySem.W.exmOne K (.ref S) (.ref S) = some true := by
  have e1 : (PySem.W.subIn K (.ref S) (.type "BaseException") == some true) = true := by rw [h1] <;> rfl
  have e2 : ((PySem.W.clsIn K S).isSome && PySem.W.typeIn K (.ref S) == some (.type "type")) = true := by
    have h2' : (PySem.W.clsIn K S).isSome = true := h2
    rw [h2', h3] <;> rfl
  show (if (PySem.W.subIn K (.ref S) (.type "BaseException") == some true) = true then (if ((PySem.W.clsIn K S).isSome && PySem.W.typeIn K (.ref S) == some (.type "type")) = true then PySem.W.subIn K (.ref S) (.ref S) else none) else none) = some true
  rw [if_pos e1, if_pos e2]
  exact h4
theorem rf_mk {K : PySem.W.Frag} {h : Heap} {mg : Str → Option Value} (X : K.In h) (G : h.Ns mainGlobals mg) {CR f : Addr} {nm q : Str} {N : Addr} {bs : List Value} {sn : List Str} {sub : List Value} {ab : Bool} {col : Option Bool} {dd : Option Addr} {m0 m1 m2 m3 m5 : Option Value}
    {od an : Option Addr} {osl : Array (Option Value)} {oc kV doc pm cdv ct : Value}
    (aC : PySem.W.nsIn K mainGlobals "Refused" = some (some (.ref CR)))
    (xL : K.lookup CR = some (excClassObj nm q CR N bs [.type "ValueError", .type "Exception", .type "BaseException", .type "object"] true sn sub ab col dd m0 m1 m2 m3 m5 "ValueError.__new__"))
    (sa : PySem.W.findIn K (.ref CR) "__setattr__" = some (some (.builtin "object.__setattr__"))) (ga : PySem.W.findIn K (.ref CR) "__getattribute__" = some (some (.builtin "BaseException.__getattribute__"))) (gg : PySem.W.findIn K (.ref CR) "__getattr__" = some none) (nb : PySem.W.findIn K (.ref CR) "number" = some none)
    (a1 : PySem.W.findIn K (.ref CR) "__init__" = some (some (.ref f))) (t1 : PySem.W.typeIn K (.ref f) = some (.type "function"))
    (l : K.lookup f = some ⟨oc, od, .func (PySem.W.fnOf "__init__" "Refused.__init__" (defArgs sRI) (defBody sRI) (defScope sRI) .none kV doc pm an cdv ct), osl⟩) (c : PySem.W.codeIn K cdv "Refused.__init__" = true) (k : PySem.W.keepIn K (.ref f) = true)
    (kC : PySem.W.keepIn K (.ref CR) = true) (eC : PySem.W.subIn K (.ref CR) (.type "BaseException") = some true) (tC : PySem.W.typeIn K (.ref CR) = some (.type "type")) (hC : PySem.W.hasDictIn K CR = true) (iC : PySem.W.isClsIn K CR = true) (sC : PySem.W.subIn K (.ref CR) (.ref CR) = some true)
    (ve : PySem.W.nsIn K mainGlobals "ValueError" = some none) (vV : PySem.W.findCls K (.type "ValueError") (.type "type") "__init__" = some (.val (.builtin "ValueError.__init__"))) :
    ∃ CR f fd, Rf K mg CR f ∧ Fun K "__init__" "Refused.__init__" sRI f fd ∧ Binds K fd ["self", "number"] [] := by
  have F := fun_mk (st := sRI) l c k
  refine ⟨CR, f, _, ⟨⟨⟨nm, q, N, bs, _, sn, sub, ab, col, dd, m0, m1, m2, m3, m5, xL, by decide +kernel⟩, sa, eC, tC, kC⟩, PySem.W.mg_of X G aC, a1, t1, nb, PySem.W.mg_none_of X G ve, vV, exm_own eC iC tC sC, ⟨ga, gg, eC, hC⟩⟩, F,
    F.binds fun _ _ _ _ _ _ us hl => match us, hl with | [_, _], _ => rfl⟩
theorem kp_mk {K : PySem.W.Frag} {h : Heap} {mg : Str → Option Value} (X : K.In h) (G : h.Ns mainGlobals mg) {CK f : Addr} {od an : Option Addr} {osl : Array (Option Value)} {oc kV doc pm cdv ct : Value}
    (aC : PySem.W.nsIn K mainGlobals "Keeper" = some (some (.ref CK))) (pg : PySem.W.plainGet K CK Str.empty = true) (hd : PySem.W.hasDictIn K CK = true) (po : PySem.W.plainOver K CK = true) (sa : PySem.W.findIn K (.ref CK) "__setattr__" = some (some (.builtin "object.__setattr__")))
    (mk : PySem.W.makesIn K CK = true) (kc : PySem.W.keepIn K (.ref CK) = true) (nP : PySem.W.findIn K (.ref CK) "prime" = some none)
    (a1 : PySem.W.findIn K (.ref CK) "__init__" = some (some (.ref f))) (i1 : PySem.W.isFn K (.ref f) = true)
    (l : K.lookup f = some ⟨oc, od, .func (PySem.W.fnOf "__init__" "Keeper.__init__" (defArgs sKI) (defBody sKI) (defScope sKI) .none kV doc pm an cdv ct), osl⟩) (c : PySem.W.codeIn K cdv "Keeper.__init__" = true) (k : PySem.W.keepIn K (.ref f) = true) :
    Kp K CK ∧ mg "Keeper" = some (.ref CK) ∧ ∃ f fd, Mk K CK f ∧ Fun K "__init__" "Keeper.__init__" sKI f fd ∧ Binds K fd ["self"] [] := by
  have F := fun_mk (st := sKI) l c k
  exact ⟨⟨⟨pg, hd, po, sa⟩, nP⟩, PySem.W.mg_of X G aC, f, _, ⟨mk, a1, i1, kc⟩, F, F.binds fun _ _ _ _ _ _ us hl => match us, hl with | [_], _ => rfl⟩
/-- a written tuple of a text and a number -/
theorem row_mk {K : PySem.W.Frag} {a : Addr} {x : Str} {i : Int} {t u : Tok} {n : Nat} {dd : Option Addr} {sl : Array (Option Value)} (l : K.lookup a = some ⟨.type "tuple", dd, .seq #[.str x t, .int i u] n, sl⟩) (H : Hp) : SqT K H a [.str x, .int i] :=
  .inr ⟨_, _, n, l, rfl, rfl, (by show 2 ≤ sizeLine; decide), .cons ⟨t, rfl⟩ (.cons ⟨u, rfl⟩ .nil)⟩
theorem ct_mk {K : PySem.W.Frag} {h : Heap} {mg : Str → Option Value} (X : K.In h) (G : h.Ns mainGlobals mg) {ca b0 b1 b2 b3 b4 b5 b6 b7 b8 b9 b10 b11 b12 b13 : Addr} {m : Nat} {dd : Option Addr} {sl : Array (Option Value)}
    (a : PySem.W.nsIn K mainGlobals "CALLS" = some (some (.ref ca))) (l : K.lookup ca = some ⟨.type "tuple", dd, .seq #[.ref b0, .ref b1, .ref b2, .ref b3, .ref b4, .ref b5, .ref b6, .ref b7, .ref b8, .ref b9, .ref b10, .ref b11, .ref b12, .ref b13] m, sl⟩)
    (r0 : ∀ H, SqT K H b0 [.str "begin", .int 1])
    (r1 : ∀ H, SqT K H b1 [.str "prime", .int 1])
    (r2 : ∀ H, SqT K H b2 [.str "prod", .int 1])
    (r3 : ∀ H, SqT K H b3 [.str "times", .int 1])
    (r4 : ∀ H, SqT K H b4 [.str "rest", .int 1])
    (r5 : ∀ H, SqT K H b5 [.str "least", .int 1])
    (r6 : ∀ H, SqT K H b6 [.str "noughts", .int 2])
    (r7 : ∀ H, SqT K H b7 [.str "span", .int 2])
    (r8 : ∀ H, SqT K H b8 [.str "gaps", .int 1])
    (r9 : ∀ H, SqT K H b9 [.str "square", .int 1])
    (r10 : ∀ H, SqT K H b10 [.str "twice", .int 2])
    (r11 : ∀ H, SqT K H b11 [.str "parts", .int 1])
    (r12 : ∀ H, SqT K H b12 [.str "jumps", .int 1])
    (r13 : ∀ H, SqT K H b13 [.str "told", .int 0])
    : ∃ ca ts, Ct K mg ca ts := by
  refine ⟨ca, [b0, b1, b2, b3, b4, b5, b6, b7, b8, b9, b10, b11, b12, b13], PySem.W.mg_of X G a, fun H => .inr ⟨_, _, m, l, rfl, rfl, (by show 14 ≤ sizeLine; decide), ?_⟩, fun c => ?_⟩
  · exact .cons rfl (.cons rfl (.cons rfl (.cons rfl (.cons rfl (.cons rfl (.cons rfl (.cons rfl (.cons rfl (.cons rfl (.cons rfl (.cons rfl (.cons rfl (.cons rfl (.nil))))))))))))))
  · cases c with
    | begin_ p => exact ⟨b0, rfl, r0⟩
    | prime p => exact ⟨b1, rfl, r1⟩
    | prod p => exact ⟨b2, rfl, r2⟩
    | times p => exact ⟨b3, rfl, r3⟩
    | rest p => exact ⟨b4, rfl, r4⟩
    | least p => exact ⟨b5, rfl, r5⟩
    | noughts p q => exact ⟨b6, rfl, r6⟩
    | span p q => exact ⟨b7, rfl, r7⟩
    | gaps p => exact ⟨b8, rfl, r8⟩
    | square p => exact ⟨b9, rfl, r9⟩
    | twice p q => exact ⟨b10, rfl, r10⟩
    | parts p => exact ⟨b11, rfl, r11⟩
    | jumps p => exact ⟨b12, rfl, r12⟩
    | told => exact ⟨b13, rfl, r13⟩
section
variable {P : Program} {w : World} {K : PySem.W.Frag} {mg : Str → Option Value} {base : Heap}
theorem all_ok {fa : Addr} (hfa : mg "answers" = some (.ref fa))
    (D_read_calls : ∃ f fd, Df K mg "read_calls" sRead ["calls"] f fd)
    (D_product_of : ∃ f fd, Df K mg "product_of" sProd ["number"] f fd)
    (D_often : ∃ f fd, Df K mg "often" sOften ["prime", "number"] f fd)
    (D_power_rest : ∃ f fd, Df K mg "power_rest" sPow ["base", "often_taken", "prime"] f fd)
    (D_rest_of : ∃ f fd, Df K mg "rest_of" sRest ["prime", "number"] f fd)
    (D_least_for : ∃ f fd, Df K mg "least_for" sLeast ["prime", "times", "most"] f fd)
    (D_gaps_of : ∃ f fd, Df K mg "gaps_of" sGaps ["prime", "number"] f fd)
    (D_is_prime : ∃ f fd, Df K mg "is_prime" sIsP ["number"] f fd)
    (D_primes_up_to : ∃ f fd, Df K mg "primes_up_to" sPrimes ["most"] f fd)
    (D_often_in : ∃ f fd, Df K mg "often_in" sIn ["number", "prime"] f fd)
    (D_parts_of : ∃ f fd, Df K mg "parts_of" sParts ["number"] f fd)
    (D_noughts_of : ∃ f fd, Df K mg "noughts_of" sNou ["base", "number"] f fd)
    (D_odd_primes : ∃ f fd, Df K mg "odd_primes" sOdd ["number"] f fd)
    (D_divides_twice : ∃ f fd, Df K mg "divides_twice" sTwice ["lesser", "number"] f fd)
    (D_refuse_where : ∃ f fd, Df K mg "refuse_where" sRefuse ["fact", "number"] f fd)
    (D_must_be_from : ∃ f fd, Df K mg "must_be_from" sMust ["number", "least", "most"] f fd)
    (D_must_be_prime : ∃ f fd, Df K mg "must_be_prime" sMustP ["number"] f fd)
    (D_answer : ∃ f fd, Df K mg "answer" sAnswer ["keeper", "word", "numbers"] f fd)
    (D_answer_of_two : ∃ f fd, Df K mg "answer_of_two" sTwo ["keeper", "word", "one", "other"] f fd)
    (D_answer_of_product : ∃ f fd, Df K mg "answer_of_product" sPrd ["keeper", "word", "number"] f fd)
    (D_answer_of_list : ∃ f fd, Df K mg "answer_of_list" sLst ["keeper", "word", "number"] f fd)
    (D_answers : ∃ f fd, Df K mg "answers" sAnswers ["calls"] f fd)
    (B_range : mg "range" = none)
    (B_len : mg "len" = none)
    (B_min : mg "min" = none)
    (B_all : mg "all" = none)
    (B_int : mg "int" = none)
    (C_NOT_BEGUN : Cn mg "NOT_BEGUN" (-11))
    (C_NO_SUCH_NUMBER : Cn mg "NO_SUCH_NUMBER" (-22))
    (C_NONE_SO_SMALL : Cn mg "NONE_SO_SMALL" (-33))
    (C_MOST : Cn mg "MOST" 1000000)
    (C_MOST_PRIME : Cn mg "MOST_PRIME" 99)
    (C_MOST_TOLD : Cn mg "MOST_TOLD" 20)
    (C_MOST_TIMES : Cn mg "MOST_TIMES" 600)
    (C_MOST_SOUGHT : Cn mg "MOST_SOUGHT" 699)
    (C_MOST_SMALL : Cn mg "MOST_SMALL" 60)
    (C_LEAST_BASE : Cn mg "LEAST_BASE" 2)
    (C_MOST_BASE : Cn mg "MOST_BASE" 100)
    (hR : ∃ CR f fd, Rf K mg CR f ∧ Fun K "__init__" "Refused.__init__" sRI f fd ∧ Binds K fd ["self", "number"] [])
    {CK : Addr} (hK : Kp K CK ∧ mg "Keeper" = some (.ref CK) ∧ ∃ f fd, Mk K CK f ∧ Fun K "__init__" "Keeper.__init__" sKI f fd ∧ Binds K fd ["self"] [])
    (M_need_begun : ∃ f fd, Mf K CK "need_begun" "Keeper.need_begun" sNeed ["self"] f fd)
    (M_begin : ∃ f fd, Mf K CK "begin" "Keeper.begin" sBegin ["self", "prime"] f fd)
    (M_change : ∃ f fd, Mf K CK "change" "Keeper.change" sChange ["self", "prime"] f fd)
    (M_product : ∃ f fd, Mf K CK "product" "Keeper.product" sProduct ["self", "number"] f fd)
    (M_times : ∃ f fd, Mf K CK "times" "Keeper.times" sTimes ["self", "number"] f fd)
    (M_rest : ∃ f fd, Mf K CK "rest" "Keeper.rest" sRestM ["self", "number"] f fd)
    (M_least : ∃ f fd, Mf K CK "least" "Keeper.least" sLeastM ["self", "times"] f fd)
    (M_noughts : ∃ f fd, Mf K CK "noughts" "Keeper.noughts" sNoughts ["self", "base", "number"] f fd)
    (M_span : ∃ f fd, Mf K CK "span" "Keeper.span" sSpan ["self", "first", "last"] f fd)
    (M_gaps : ∃ f fd, Mf K CK "gaps" "Keeper.gaps" sGapsM ["self", "number"] f fd)
    (M_square : ∃ f fd, Mf K CK "square" "Keeper.square" sSquare ["self", "number"] f fd)
    (M_twice : ∃ f fd, Mf K CK "twice" "Keeper.twice" sTwiceM ["self", "number", "lesser"] f fd)
    (M_parts : ∃ f fd, Mf K CK "parts" "Keeper.parts" sPartsM ["self", "base"] f fd)
    (M_jumps : ∃ f fd, Mf K CK "jumps" "Keeper.jumps" sJumps ["self", "number"] f fd)
    (hC : ∃ ca ts, Ct K mg ca ts) :
    ∃ fd : FuncData, (∀ (s : Shared) (us : List Value), us.length = (["calls"] : List Str).length → BindsTo s fd ⟨us, []⟩ ((["calls"] : List Str).zip us)) ∧ ∀ base : Heap, FnOk P w K mg base CX0 8 fa fd ["calls"] (spAns K) := by
  obtain ⟨f_read_calls, fd_read_calls, D_read_calls⟩ := D_read_calls
  obtain ⟨f_product_of, fd_product_of, D_product_of⟩ := D_product_of
  obtain ⟨f_often, fd_often, D_often⟩ := D_often
  obtain ⟨f_power_rest, fd_power_rest, D_power_rest⟩ := D_power_rest
  obtain ⟨f_rest_of, fd_rest_of, D_rest_of⟩ := D_rest_of
  obtain ⟨f_least_for, fd_least_for, D_least_for⟩ := D_least_for
  obtain ⟨f_gaps_of, fd_gaps_of, D_gaps_of⟩ := D_gaps_of
  obtain ⟨f_is_prime, fd_is_prime, D_is_prime⟩ := D_is_prime
  obtain ⟨f_primes_up_to, fd_primes_up_to, D_primes_up_to⟩ := D_primes_up_to
  obtain ⟨f_often_in, fd_often_in, D_often_in⟩ := D_often_in
  obtain ⟨f_parts_of, fd_parts_of, D_parts_of⟩ := D_parts_of
  obtain ⟨f_noughts_of, fd_noughts_of, D_noughts_of⟩ := D_noughts_of
  obtain ⟨f_odd_primes, fd_odd_primes, D_odd_primes⟩ := D_odd_primes
  obtain ⟨f_divides_twice, fd_divides_twice, D_divides_twice⟩ := D_divides_twice
  obtain ⟨f_refuse_where, fd_refuse_where, D_refuse_where⟩ := D_refuse_where
  obtain ⟨f_must_be_from, fd_must_be_from, D_must_be_from⟩ := D_must_be_from
  obtain ⟨f_must_be_prime, fd_must_be_prime, D_must_be_prime⟩ := D_must_be_prime
  obtain ⟨f_answer, fd_answer, D_answer⟩ := D_answer
  obtain ⟨f_answer_of_two, fd_answer_of_two, D_answer_of_two⟩ := D_answer_of_two
  obtain ⟨f_answer_of_product, fd_answer_of_product, D_answer_of_product⟩ := D_answer_of_product
  obtain ⟨f_answer_of_list, fd_answer_of_list, D_answer_of_list⟩ := D_answer_of_list
  obtain ⟨f_answers, fd_answers, D_answers⟩ := D_answers
  obtain ⟨CR, f_ri, fd_ri, R, F_ri, b_ri⟩ := hR
  obtain ⟨T, gK, f_ki, fd_ki, MK, F_ki, b_ki⟩ := hK
  obtain ⟨g_need_begun, gd_need_begun, M_need_begun⟩ := M_need_begun
  obtain ⟨g_begin, gd_begin, M_begin⟩ := M_begin
  obtain ⟨g_change, gd_change, M_change⟩ := M_change
  obtain ⟨g_product, gd_product, M_product⟩ := M_product
  obtain ⟨g_times, gd_times, M_times⟩ := M_times
  obtain ⟨g_rest, gd_rest, M_rest⟩ := M_rest
  obtain ⟨g_least, gd_least, M_least⟩ := M_least
  obtain ⟨g_noughts, gd_noughts, M_noughts⟩ := M_noughts
  obtain ⟨g_span, gd_span, M_span⟩ := M_span
  obtain ⟨g_gaps, gd_gaps, M_gaps⟩ := M_gaps
  obtain ⟨g_square, gd_square, M_square⟩ := M_square
  obtain ⟨g_twice, gd_twice, M_twice⟩ := M_twice
  obtain ⟨g_parts, gd_parts, M_parts⟩ := M_parts
  obtain ⟨g_jumps, gd_jumps, M_jumps⟩ := M_jumps
  obtain ⟨ca, ts, C⟩ := hC
  have e := hfa.symm.trans D_answers.g
  cases e
  refine ⟨fd_answers, ?_, fun base => ?_⟩
  · obtain ⟨oc, od, kV, doc, pm, an, cdv, ct, osl, rfl, _⟩ := D_answers.F.ex
    exact fun s us hu => match us, hu with | [_], _ => .of_eq rfl
  · skip
    have G_rest_of : FnOk P w K mg base CX0 2 f_rest_of fd_rest_of ["prime", "number"] spRest := ok_rest D_rest_of D_product_of D_power_rest B_range
    have G_gaps_of : FnOk P w K mg base CX0 2 f_gaps_of fd_gaps_of ["prime", "number"] spGaps := ok_gaps D_gaps_of D_often B_range
    have G_primes_up_to : FnOk P w K mg base CX0 2 f_primes_up_to fd_primes_up_to ["most"] spPrimes := ok_primes D_primes_up_to D_is_prime B_range
    have G_parts_of : FnOk P w K mg base CX0 3 f_parts_of fd_parts_of ["number"] spParts := ok_parts D_parts_of D_primes_up_to D_is_prime D_often_in B_range
    have G_noughts_of : FnOk P w K mg base CX0 4 f_noughts_of fd_noughts_of ["base", "number"] spNou := ok_nou D_noughts_of D_parts_of D_often G_parts_of B_min
    have G_odd_primes : FnOk P w K mg base CX0 3 f_odd_primes fd_odd_primes ["number"] spOdd := ok_odd D_odd_primes D_primes_up_to D_often G_primes_up_to
    have G_divides_twice : FnOk P w K mg base CX0 3 f_divides_twice fd_divides_twice ["lesser", "number"] spTwice := ok_twice D_divides_twice D_primes_up_to D_often G_primes_up_to B_all
    have G_refuse_where : FnOk P w K mg base (L2.CX P w) 3 f_refuse_where fd_refuse_where ["fact", "number"] (spRefuse CR) := ok_refuse D_refuse_where R F_ri b_ri
    have G_must_be_from : FnOk P w K mg base (L2.CX P w) 4 f_must_be_from fd_must_be_from ["number", "least", "most"] (spMust CR) := ok_must D_must_be_from D_refuse_where G_refuse_where C_NO_SUCH_NUMBER
    have G_must_be_prime : FnOk P w K mg base (L2.CX P w) 4 f_must_be_prime fd_must_be_prime ["number"] (spMustP CR) := ok_mustp D_must_be_prime D_refuse_where G_refuse_where D_is_prime C_NO_SUCH_NUMBER C_MOST_PRIME
    have G_m_need_begun : FnOk P w K mg base (L2.CX P w) 5 g_need_begun gd_need_begun ["self"] (spNeed CK CR) := ok_need M_need_begun T D_refuse_where G_refuse_where C_NOT_BEGUN
    have G_m_begin : FnOk P w K mg base (L2.CX P w) 5 g_begin gd_begin ["self", "prime"] (spBegin CK CR) := ok_begin M_begin T D_must_be_prime G_must_be_prime
    have G_m_change : FnOk P w K mg base (L2.CX P w) 5 g_change gd_change ["self", "prime"] (spChange CK CR) := ok_change M_change T D_must_be_prime G_must_be_prime
    have G_m_product : FnOk P w K mg base (L2.CX P w) 5 g_product gd_product ["self", "number"] (sp1 CK CR .prod) := ok_product M_product D_must_be_from G_must_be_from D_product_of B_range C_MOST_TOLD
    have G_m_times : FnOk P w K mg base (L2.CX P w) 5 g_times gd_times ["self", "number"] (sp1 CK CR .times) := ok_times M_times T D_must_be_from G_must_be_from D_often C_MOST
    have G_m_rest : FnOk P w K mg base (L2.CX P w) 5 g_rest gd_rest ["self", "number"] (sp1 CK CR .rest) := ok_restm M_rest T D_must_be_from G_must_be_from D_rest_of G_rest_of C_MOST
    have G_m_least : FnOk P w K mg base (L2.CX P w) 5 g_least gd_least ["self", "times"] (sp1 CK CR .least) := ok_leastm M_least T D_must_be_from G_must_be_from D_often D_least_for D_refuse_where G_refuse_where B_range C_MOST_TIMES C_MOST_SOUGHT C_NONE_SO_SMALL
    have G_m_noughts : FnOk P w K mg base (L2.CX P w) 5 g_noughts gd_noughts ["self", "base", "number"] (sp2 CK CR .noughts) := ok_noughts M_noughts D_must_be_from G_must_be_from D_noughts_of G_noughts_of C_MOST C_LEAST_BASE C_MOST_BASE
    have G_m_span : FnOk P w K mg base (L2.CX P w) 5 g_span gd_span ["self", "first", "last"] (sp2 CK CR .span) := ok_span M_span T D_must_be_from G_must_be_from D_often C_MOST
    have G_m_gaps : FnOk P w K mg base (L2.CX P w) 5 g_gaps gd_gaps ["self", "number"] (sp1 CK CR .gaps) := ok_gapsm M_gaps T D_must_be_from G_must_be_from D_gaps_of G_gaps_of C_MOST_SMALL B_len
    have G_m_square : FnOk P w K mg base (L2.CX P w) 5 g_square gd_square ["self", "number"] (sp1 CK CR .square) := ok_square M_square D_must_be_from G_must_be_from D_odd_primes G_odd_primes C_MOST_SMALL B_len
    have G_m_twice : FnOk P w K mg base (L2.CX P w) 5 g_twice gd_twice ["self", "number", "lesser"] (sp2 CK CR .twice) := ok_twicem M_twice D_must_be_from G_must_be_from D_divides_twice G_divides_twice C_MOST C_MOST_SMALL B_int
    have G_m_parts : FnOk P w K mg base (L2.CX P w) 5 g_parts gd_parts ["self", "base"] (sp1 CK CR .parts) := ok_partsm M_parts D_must_be_from G_must_be_from D_parts_of G_parts_of C_LEAST_BASE C_MOST_BASE B_len
    have G_m_jumps : FnOk P w K mg base (L2.CX P w) 5 g_jumps gd_jumps ["self", "number"] (sp1 CK CR .jumps) := ok_jumps M_jumps T D_must_be_from G_must_be_from D_often C_MOST
    have G_answer_of_two : FnOk P w K mg base (L2.CX P w) 6 f_answer_of_two fd_answer_of_two ["keeper", "word", "one", "other"] (spTwo CK CR) := ok_two D_answer_of_two T M_noughts G_m_noughts M_span G_m_span M_twice G_m_twice
    have G_answer_of_product : FnOk P w K mg base (L2.CX P w) 6 f_answer_of_product fd_answer_of_product ["keeper", "word", "number"] (spPrd CK CR) := ok_prd D_answer_of_product T M_product G_m_product M_times G_m_times M_rest G_m_rest M_jumps G_m_jumps
    have G_answer_of_list : FnOk P w K mg base (L2.CX P w) 6 f_answer_of_list fd_answer_of_list ["keeper", "word", "number"] (spLst CK CR) := ok_lst D_answer_of_list T M_least G_m_least M_gaps G_m_gaps M_square G_m_square M_parts G_m_parts
    have G_answer : FnOk P w K mg base (L2.CX P w) 7 f_answer fd_answer ["keeper", "word", "numbers"] (spAnswer CK CR) := ok_answer D_answer T M_begin G_m_begin M_need_begun G_m_need_begun M_change G_m_change D_answer_of_two G_answer_of_two D_answer_of_product G_answer_of_product D_answer_of_list G_answer_of_list
    exact ok_ans D_answers T R gK MK F_ki b_ki D_read_calls C D_answer G_answer B_len
end
end Pf

open PySem PySem.W PyProof.Rows
set_option maxRecDepth 100000 in
set_option maxHeartbeats 8000000 in
theorem PySem.Challenge.cw_productsofall_s01_answers_holds : PySem.Challenge.rw_productsofall_s01_answers.Holds := by
  w_on; k_headS; (case hw => exact ⟨[.list [.int 13]], by decide +kernel, by decide +kernel⟩)
  k_fillS
  refine L2.walk_specK (r := PySem.Challenge.rw_productsofall_s01_answers) (k := 8) (CX := L2.CX0) (ps := ["calls"]) (sp := Pf.spAns) (by decide +kernel) rfl rfl ⟨rfl, by decide, by decide⟩ (fun w h Y => PySem.W.kIn_of Y) ?F ?S (fun _ _ _ _ z => z)
  case F =>
    intro w mg fa h Y KX G hmg
    have D_read_calls := by
      refine' Pf.df_mk (x := "read_calls") (st := Pf.sRead) (ps := ["calls"]) KX G ?a ?l ?c ?k (fun _ _ _ _ _ _ us hl => match us, hl with | [_], _ => rfl)
      (case a => k_is)
      (case l => k_is)
      (case c => k_is)
      (case k => k_is)
    have D_product_of := by
      refine' Pf.df_mk (x := "product_of") (st := Pf.sProd) (ps := ["number"]) KX G ?a ?l ?c ?k (fun _ _ _ _ _ _ us hl => match us, hl with | [_], _ => rfl)
      (case a => k_is)
      (case l => k_is)
      (case c => k_is)
      (case k => k_is)
    have D_often := by
      refine' Pf.df_mk (x := "often") (st := Pf.sOften) (ps := ["prime", "number"]) KX G ?a ?l ?c ?k (fun _ _ _ _ _ _ us hl => match us, hl with | [_, _], _ => rfl)
      (case a => k_is)
      (case l => k_is)
      (case c => k_is)
      (case k => k_is)
    have D_power_rest := by
      refine' Pf.df_mk (x := "power_rest") (st := Pf.sPow) (ps := ["base", "often_taken", "prime"]) KX G ?a ?l ?c ?k (fun _ _ _ _ _ _ us hl => match us, hl with | [_, _, _], _ => rfl)
      (case a => k_is)
      (case l => k_is)
      (case c => k_is)
      (case k => k_is)
    have D_rest_of := by
      refine' Pf.df_mk (x := "rest_of") (st := Pf.sRest) (ps := ["prime", "number"]) KX G ?a ?l ?c ?k (fun _ _ _ _ _ _ us hl => match us, hl with | [_, _], _ => rfl)
      (case a => k_is)
      (case l => k_is)
      (case c => k_is)
      (case k => k_is)
    have D_least_for := by
      refine' Pf.df_mk (x := "least_for") (st := Pf.sLeast) (ps := ["prime", "times", "most"]) KX G ?a ?l ?c ?k (fun _ _ _ _ _ _ us hl => match us, hl with | [_, _, _], _ => rfl)
      (case a => k_is)
      (case l => k_is)
      (case c => k_is)
      (case k => k_is)
    have D_gaps_of := by
      refine' Pf.df_mk (x := "gaps_of") (st := Pf.sGaps) (ps := ["prime", "number"]) KX G ?a ?l ?c ?k (fun _ _ _ _ _ _ us hl => match us, hl with | [_, _], _ => rfl)
      (case a => k_is)
      (case l => k_is)
      (case c => k_is)
      (case k => k_is)
    have D_is_prime := by
      refine' Pf.df_mk (x := "is_prime") (st := Pf.sIsP) (ps := ["number"]) KX G ?a ?l ?c ?k (fun _ _ _ _ _ _ us hl => match us, hl with | [_], _ => rfl)
      (case a => k_is)
      (case l => k_is)
      (case c => k_is)
      (case k => k_is)
    have D_primes_up_to := by
      refine' Pf.df_mk (x := "primes_up_to") (st := Pf.sPrimes) (ps := ["most"]) KX G ?a ?l ?c ?k (fun _ _ _ _ _ _ us hl => match us, hl with | [_], _ => rfl)
      (case a => k_is)
      (case l => k_is)
      (case c => k_is)
      (case k => k_is)
    have D_often_in := by
      refine' Pf.df_mk (x := "often_in") (st := Pf.sIn) (ps := ["number", "prime"]) KX G ?a ?l ?c ?k (fun _ _ _ _ _ _ us hl => match us, hl with | [_, _], _ => rfl)
      (case a => k_is)
      (case l => k_is)
      (case c => k_is)
      (case k => k_is)
    have D_parts_of := by
      refine' Pf.df_mk (x := "parts_of") (st := Pf.sParts) (ps := ["number"]) KX G ?a ?l ?c ?k (fun _ _ _ _ _ _ us hl => match us, hl with | [_], _ => rfl)
      (case a => k_is)
      (case l => k_is)
      (case c => k_is)
      (case k => k_is)
    have D_noughts_of := by
      refine' Pf.df_mk (x := "noughts_of") (st := Pf.sNou) (ps := ["base", "number"]) KX G ?a ?l ?c ?k (fun _ _ _ _ _ _ us hl => match us, hl with | [_, _], _ => rfl)
      (case a => k_is)
      (case l => k_is)
      (case c => k_is)
      (case k => k_is)
    have D_odd_primes := by
      refine' Pf.df_mk (x := "odd_primes") (st := Pf.sOdd) (ps := ["number"]) KX G ?a ?l ?c ?k (fun _ _ _ _ _ _ us hl => match us, hl with | [_], _ => rfl)
      (case a => k_is)
      (case l => k_is)
      (case c => k_is)
      (case k => k_is)
    have D_divides_twice := by
      refine' Pf.df_mk (x := "divides_twice") (st := Pf.sTwice) (ps := ["lesser", "number"]) KX G ?a ?l ?c ?k (fun _ _ _ _ _ _ us hl => match us, hl with | [_, _], _ => rfl)
      (case a => k_is)
      (case l => k_is)
      (case c => k_is)
      (case k => k_is)
    have D_refuse_where := by
      refine' Pf.df_mk (x := "refuse_where") (st := Pf.sRefuse) (ps := ["fact", "number"]) KX G ?a ?l ?c ?k (fun _ _ _ _ _ _ us hl => match us, hl with | [_, _], _ => rfl)
      (case a => k_is)
      (case l => k_is)
      (case c => k_is)
      (case k => k_is)
    have D_must_be_from := by
      refine' Pf.df_mk (x := "must_be_from") (st := Pf.sMust) (ps := ["number", "least", "most"]) KX G ?a ?l ?c ?k (fun _ _ _ _ _ _ us hl => match us, hl with | [_, _, _], _ => rfl)
      (case a => k_is)
      (case l => k_is)
      (case c => k_is)
      (case k => k_is)
    have D_must_be_prime := by
      refine' Pf.df_mk (x := "must_be_prime") (st := Pf.sMustP) (ps := ["number"]) KX G ?a ?l ?c ?k (fun _ _ _ _ _ _ us hl => match us, hl with | [_], _ => rfl)
      (case a => k_is)
      (case l => k_is)
      (case c => k_is)
      (case k => k_is)
    have D_answer := by
      refine' Pf.df_mk (x := "answer") (st := Pf.sAnswer) (ps := ["keeper", "word", "numbers"]) KX G ?a ?l ?c ?k (fun _ _ _ _ _ _ us hl => match us, hl with | [_, _, _], _ => rfl)
      (case a => k_is)
      (case l => k_is)
      (case c => k_is)
      (case k => k_is)
    have D_answer_of_two := by
      refine' Pf.df_mk (x := "answer_of_two") (st := Pf.sTwo) (ps := ["keeper", "word", "one", "other"]) KX G ?a ?l ?c ?k (fun _ _ _ _ _ _ us hl => match us, hl with | [_, _, _, _], _ => rfl)
      (case a => k_is)
      (case l => k_is)
      (case c => k_is)
      (case k => k_is)
    have D_answer_of_product := by
      refine' Pf.df_mk (x := "answer_of_product") (st := Pf.sPrd) (ps := ["keeper", "word", "number"]) KX G ?a ?l ?c ?k (fun _ _ _ _ _ _ us hl => match us, hl with | [_, _, _], _ => rfl)
      (case a => k_is)
      (case l => k_is)
      (case c => k_is)
      (case k => k_is)
    have D_answer_of_list := by
      refine' Pf.df_mk (x := "answer_of_list") (st := Pf.sLst) (ps := ["keeper", "word", "number"]) KX G ?a ?l ?c ?k (fun _ _ _ _ _ _ us hl => match us, hl with | [_, _, _], _ => rfl)
      (case a => k_is)
      (case l => k_is)
      (case c => k_is)
      (case k => k_is)
    have D_answers := by
      refine' Pf.df_mk (x := "answers") (st := Pf.sAnswers) (ps := ["calls"]) KX G ?a ?l ?c ?k (fun _ _ _ _ _ _ us hl => match us, hl with | [_], _ => rfl)
      (case a => k_is)
      (case l => k_is)
      (case c => k_is)
      (case k => k_is)
    have B_range : mg "range" = none := PySem.W.mg_none_of KX G (by k_is)
    have B_len : mg "len" = none := PySem.W.mg_none_of KX G (by k_is)
    have B_min : mg "min" = none := PySem.W.mg_none_of KX G (by k_is)
    have B_all : mg "all" = none := PySem.W.mg_none_of KX G (by k_is)
    have B_int : mg "int" = none := PySem.W.mg_none_of KX G (by k_is)
    have C_NOT_BEGUN : Pf.Cn mg "NOT_BEGUN" (-11) := by
      refine' Pf.cn_mk KX G ?a
      (case a => k_is)
    have C_NO_SUCH_NUMBER : Pf.Cn mg "NO_SUCH_NUMBER" (-22) := by
      refine' Pf.cn_mk KX G ?a
      (case a => k_is)
    have C_NONE_SO_SMALL : Pf.Cn mg "NONE_SO_SMALL" (-33) := by
      refine' Pf.cn_mk KX G ?a
      (case a => k_is)
    have C_MOST : Pf.Cn mg "MOST" 1000000 := by
      refine' Pf.cn_mk KX G ?a
      (case a => k_is)
    have C_MOST_PRIME : Pf.Cn mg "MOST_PRIME" 99 := by
      refine' Pf.cn_mk KX G ?a
      (case a => k_is)
    have C_MOST_TOLD : Pf.Cn mg "MOST_TOLD" 20 := by
      refine' Pf.cn_mk KX G ?a
      (case a => k_is)
    have C_MOST_TIMES : Pf.Cn mg "MOST_TIMES" 600 := by
      refine' Pf.cn_mk KX G ?a
      (case a => k_is)
    have C_MOST_SOUGHT : Pf.Cn mg "MOST_SOUGHT" 699 := by
      refine' Pf.cn_mk KX G ?a
      (case a => k_is)
    have C_MOST_SMALL : Pf.Cn mg "MOST_SMALL" 60 := by
      refine' Pf.cn_mk KX G ?a
      (case a => k_is)
    have C_LEAST_BASE : Pf.Cn mg "LEAST_BASE" 2 := by
      refine' Pf.cn_mk KX G ?a
      (case a => k_is)
    have C_MOST_BASE : Pf.Cn mg "MOST_BASE" 100 := by
      refine' Pf.cn_mk KX G ?a
      (case a => k_is)
    have hR := by
      refine' Pf.rf_mk KX G ?aC ?xL ?sa ?ga ?gg ?nb ?a1 ?t1 ?l ?c ?k ?kC ?eC ?tC ?hC ?iC ?sC ?ve ?vV
      (case aC => k_is)
      (case xL => k_is)
      (case sa => k_is)
      (case ga => k_is)
      (case gg => k_is)
      (case nb => k_is)
      (case a1 => k_is)
      (case t1 => k_is)
      (case l => k_is)
      (case c => k_is)
      (case k => k_is)
      (case kC => k_is)
      (case eC => k_is)
      (case tC => k_is)
      (case hC => k_is)
      (case iC => k_is)
      (case sC => first | rfl | k_is)
      (case ve => k_is)
      (case vV => k_is)
    have hK := by
      refine' Pf.kp_mk KX G ?aC ?pg ?hd ?po ?sa ?mk ?kc ?nP ?a1 ?i1 ?l ?c ?k
      (case aC => k_is)
      (case pg => k_is)
      (case hd => k_is)
      (case po => k_is)
      (case sa => k_is)
      (case mk => k_is)
      (case kc => k_is)
      (case nP => k_is)
      (case a1 => k_is)
      (case i1 => k_is)
      (case l => k_is)
      (case c => k_is)
      (case k => k_is)
    have M_need_begun := by
      refine' Pf.mf_mk (x := "need_begun") (qual := "Keeper.need_begun") (st := Pf.sNeed) (ps := ["self"]) hK.1 ?a ?i ?l ?c ?k (fun _ _ _ _ _ _ us hl => match us, hl with | [_], _ => rfl)
      (case a => k_is)
      (case i => k_is)
      (case l => k_is)
      (case c => k_is)
      (case k => k_is)
    have M_begin := by
      refine' Pf.mf_mk (x := "begin") (qual := "Keeper.begin") (st := Pf.sBegin) (ps := ["self", "prime"]) hK.1 ?a ?i ?l ?c ?k (fun _ _ _ _ _ _ us hl => match us, hl with | [_, _], _ => rfl)
      (case a => k_is)
      (case i => k_is)
      (case l => k_is)
      (case c => k_is)
      (case k => k_is)
    have M_change := by
      refine' Pf.mf_mk (x := "change") (qual := "Keeper.change") (st := Pf.sChange) (ps := ["self", "prime"]) hK.1 ?a ?i ?l ?c ?k (fun _ _ _ _ _ _ us hl => match us, hl with | [_, _], _ => rfl)
      (case a => k_is)
      (case i => k_is)
      (case l => k_is)
      (case c => k_is)
      (case k => k_is)
    have M_product := by
      refine' Pf.mf_mk (x := "product") (qual := "Keeper.product") (st := Pf.sProduct) (ps := ["self", "number"]) hK.1 ?a ?i ?l ?c ?k (fun _ _ _ _ _ _ us hl => match us, hl with | [_, _], _ => rfl)
      (case a => k_is)
      (case i => k_is)
      (case l => k_is)
      (case c => k_is)
      (case k => k_is)
    have M_times := by
      refine' Pf.mf_mk (x := "times") (qual := "Keeper.times") (st := Pf.sTimes) (ps := ["self", "number"]) hK.1 ?a ?i ?l ?c ?k (fun _ _ _ _ _ _ us hl => match us, hl with | [_, _], _ => rfl)
      (case a => k_is)
      (case i => k_is)
      (case l => k_is)
      (case c => k_is)
      (case k => k_is)
    have M_rest := by
      refine' Pf.mf_mk (x := "rest") (qual := "Keeper.rest") (st := Pf.sRestM) (ps := ["self", "number"]) hK.1 ?a ?i ?l ?c ?k (fun _ _ _ _ _ _ us hl => match us, hl with | [_, _], _ => rfl)
      (case a => k_is)
      (case i => k_is)
      (case l => k_is)
      (case c => k_is)
      (case k => k_is)
    have M_least := by
      refine' Pf.mf_mk (x := "least") (qual := "Keeper.least") (st := Pf.sLeastM) (ps := ["self", "times"]) hK.1 ?a ?i ?l ?c ?k (fun _ _ _ _ _ _ us hl => match us, hl with | [_, _], _ => rfl)
      (case a => k_is)
      (case i => k_is)
      (case l => k_is)
      (case c => k_is)
      (case k => k_is)
    have M_noughts := by
      refine' Pf.mf_mk (x := "noughts") (qual := "Keeper.noughts") (st := Pf.sNoughts) (ps := ["self", "base", "number"]) hK.1 ?a ?i ?l ?c ?k (fun _ _ _ _ _ _ us hl => match us, hl with | [_, _, _], _ => rfl)
      (case a => k_is)
      (case i => k_is)
      (case l => k_is)
      (case c => k_is)
      (case k => k_is)
    have M_span := by
      refine' Pf.mf_mk (x := "span") (qual := "Keeper.span") (st := Pf.sSpan) (ps := ["self", "first", "last"]) hK.1 ?a ?i ?l ?c ?k (fun _ _ _ _ _ _ us hl => match us, hl with | [_, _, _], _ => rfl)
      (case a => k_is)
      (case i => k_is)
      (case l => k_is)
      (case c => k_is)
      (case k => k_is)
    have M_gaps := by
      refine' Pf.mf_mk (x := "gaps") (qual := "Keeper.gaps") (st := Pf.sGapsM) (ps := ["self", "number"]) hK.1 ?a ?i ?l ?c ?k (fun _ _ _ _ _ _ us hl => match us, hl with | [_, _], _ => rfl)
      (case a => k_is)
      (case i => k_is)
      (case l => k_is)
      (case c => k_is)
      (case k => k_is)
    have M_square := by
      refine' Pf.mf_mk (x := "square") (qual := "Keeper.square") (st := Pf.sSquare) (ps := ["self", "number"]) hK.1 ?a ?i ?l ?c ?k (fun _ _ _ _ _ _ us hl => match us, hl with | [_, _], _ => rfl)
      (case a => k_is)
      (case i => k_is)
      (case l => k_is)
      (case c => k_is)
      (case k => k_is)
    have M_twice := by
      refine' Pf.mf_mk (x := "twice") (qual := "Keeper.twice") (st := Pf.sTwiceM) (ps := ["self", "number", "lesser"]) hK.1 ?a ?i ?l ?c ?k (fun _ _ _ _ _ _ us hl => match us, hl with | [_, _, _], _ => rfl)
      (case a => k_is)
      (case i => k_is)
      (case l => k_is)
      (case c => k_is)
      (case k => k_is)
    have M_parts := by
      refine' Pf.mf_mk (x := "parts") (qual := "Keeper.parts") (st := Pf.sPartsM) (ps := ["self", "base"]) hK.1 ?a ?i ?l ?c ?k (fun _ _ _ _ _ _ us hl => match us, hl with | [_, _], _ => rfl)
      (case a => k_is)
      (case i => k_is)
      (case l => k_is)
      (case c => k_is)
      (case k => k_is)
    have M_jumps := by
      refine' Pf.mf_mk (x := "jumps") (qual := "Keeper.jumps") (st := Pf.sJumps) (ps := ["self", "number"]) hK.1 ?a ?i ?l ?c ?k (fun _ _ _ _ _ _ us hl => match us, hl with | [_, _], _ => rfl)
      (case a => k_is)
      (case i => k_is)
      (case l => k_is)
      (case c => k_is)
      (case k => k_is)
    have hC := by
      refine' Pf.ct_mk KX G ?a ?l (Pf.row_mk ?r0) (Pf.row_mk ?r1) (Pf.row_mk ?r2) (Pf.row_mk ?r3) (Pf.row_mk ?r4) (Pf.row_mk ?r5) (Pf.row_mk ?r6) (Pf.row_mk ?r7) (Pf.row_mk ?r8) (Pf.row_mk ?r9) (Pf.row_mk ?r10) (Pf.row_mk ?r11) (Pf.row_mk ?r12) (Pf.row_mk ?r13)
      (case a => k_is)
      (case l => k_is)
      (case r0 => k_is)
      (case r1 => k_is)
      (case r2 => k_is)
      (case r3 => k_is)
      (case r4 => k_is)
      (case r5 => k_is)
      (case r6 => k_is)
      (case r7 => k_is)
      (case r8 => k_is)
      (case r9 => k_is)
      (case r10 => k_is)
      (case r11 => k_is)
      (case r12 => k_is)
      (case r13 => k_is)
    obtain ⟨fd, hb, hok⟩ := Pf.all_ok (P := PySem.Challenge.rw_productsofall_s01_answers.prog) (w := w) hmg D_read_calls D_product_of D_often D_power_rest D_rest_of D_least_for D_gaps_of D_is_prime D_primes_up_to D_often_in D_parts_of D_noughts_of D_odd_primes D_divides_twice D_refuse_where D_must_be_from D_must_be_prime D_answer D_answer_of_two D_answer_of_product D_answer_of_list D_answers B_range B_len B_min B_all B_int C_NOT_BEGUN C_NO_SUCH_NUMBER C_NONE_SO_SMALL C_MOST C_MOST_PRIME C_MOST_TOLD C_MOST_TIMES C_MOST_SOUGHT C_MOST_SMALL C_LEAST_BASE C_MOST_BASE hR hK M_need_begun M_begin M_change M_product M_times M_rest M_least M_noughts M_span M_gaps M_square M_twice M_parts M_jumps hC
    exact ⟨fd, hb, fun base _ _ => hok base⟩
  case S =>
    intro K H xs a hO hwi hask hx
    cases hx with
    | cons h1 h2 =>
      cases h2
      cases h1 with
      | lst hs ha =>
        have e := L2.ints_dw a.1 _ ha
        subst e
        have q : ((Codec.inLen 0 240 a.1 && a.1.all (Codec.inInt 0 4294967295)) && true) = true := hwi
        rw [Bool.and_eq_true, Bool.and_eq_true] at q
        have hlen := (Codec.inNat_iff.mp q.1.1).2
        obtain ⟨cs, hl, hans, hsz⟩ := Pf.asked_is (l := a.1) hask
        refine ⟨_, cs, rfl, (by rw [← hl]; exact hs), (by rw [← hl]; omega), hsz, fun H' p hp => ?_⟩
        rw [← hans] at hp
        exact .lst (L2.SqL.of hp) (L2.dw_ints _)
#print axioms PySem.Challenge.cw_productsofall_s01_answers_holds
