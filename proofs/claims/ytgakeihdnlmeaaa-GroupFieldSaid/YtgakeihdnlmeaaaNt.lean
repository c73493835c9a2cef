/- Number theory in plain Lean: Fermat's theorem, Pocklington's criterion, the primality of the group's modulus and order, and the facts of a group of safe prime order. -/
namespace Go.Proofs.Ytgakeihdnlmeaaa.Nt

def Prime (p : Nat) : Prop := 2 ≤ p ∧ ∀ d, d ∣ p → d = 1 ∨ d = p

theorem Prime.coprime {p a : Nat} (hp : Prime p) (h : ¬ p ∣ a) : Nat.gcd p a = 1 := by
  rcases hp.2 _ (Nat.gcd_dvd_left p a) with h1 | h1
  · exact h1
  · exact absurd (h1 ▸ Nat.gcd_dvd_right p a) h

theorem Prime.dvd_mul {p a b : Nat} (hp : Prime p) (h : p ∣ a * b) : p ∣ a ∨ p ∣ b := by
  by_cases h1 : p ∣ a
  · exact Or.inl h1
  · exact Or.inr (Nat.Coprime.dvd_of_dvd_mul_left (hp.coprime h1) h)

theorem Prime.dvd_pow {p a : Nat} (hp : Prime p) : ∀ n : Nat, p ∣ a ^ n → p ∣ a
  | 0, h => by
    have := Nat.le_of_dvd (by simp) h
    have := hp.1
    simp at *; omega
  | n + 1, h => by
    rw [Nat.pow_succ] at h
    rcases hp.dvd_mul h with h | h
    · exact hp.dvd_pow n h
    · exact h

-- binomials
def ch : Nat → Nat → Nat
  | _, 0 => 1
  | 0, _ + 1 => 0
  | n + 1, k + 1 => ch n k + ch n (k + 1)

theorem ch_zero (n : Nat) : ch n 0 = 1 := by cases n <;> rfl

theorem ch_big : ∀ n k, n < k → ch n k = 0
  | 0, k + 1, _ => rfl
  | n + 1, k + 1, h => by
    show ch n k + ch n (k + 1) = 0
    rw [ch_big n k (by omega), ch_big n (k + 1) (by omega)]

theorem ch_self : ∀ n, ch n n = 1
  | 0 => rfl
  | n + 1 => by
    show ch n n + ch n (n + 1) = 1
    rw [ch_self n, ch_big n (n + 1) (by omega)]

theorem ch_mul : ∀ n k, (n + 1) * ch n k = ch (n + 1) (k + 1) * (k + 1)
  | 0, 0 => rfl
  | 0, k + 1 => by
    rw [ch_big 0 (k + 1) (by omega), ch_big 1 (k + 1 + 1) (by omega)]; simp
  | n + 1, 0 => by
    have h := ch_mul n 0
    show (n + 2) * 1 = (ch (n + 1) 0 + ch (n + 1) 1) * 1
    rw [ch_zero] at h ⊢
    rw [Nat.zero_add] at h
    omega
  | n + 1, k + 1 => by
    have h1 := ch_mul n k
    have h2 := ch_mul n (k + 1)
    have e1 : ch (n + 1) (k + 1) = ch n k + ch n (k + 1) := rfl
    have e2 : ch (n + 1 + 1) (k + 1 + 1) = ch (n + 1) (k + 1) + ch (n + 1) (k + 1 + 1) := rfl
    rw [e2]
    grind

def bs (n a : Nat) : Nat → Nat
  | 0 => 0
  | m + 1 => bs n a m + ch n m * a ^ m

theorem bs_succ (n a : Nat) : ∀ m, bs (n + 1) a (m + 1) = a * bs n a m + bs n a (m + 1)
  | 0 => by simp [bs, ch_zero]
  | m + 1 => by
    have ih := bs_succ n a m
    have e1 : bs (n + 1) a (m + 1 + 1) = bs (n + 1) a (m + 1) + ch (n + 1) (m + 1) * a ^ (m + 1) := rfl
    have e2 : bs n a (m + 1 + 1) = bs n a (m + 1) + ch n (m + 1) * a ^ (m + 1) := rfl
    have e3 : ch (n + 1) (m + 1) = ch n m + ch n (m + 1) := rfl
    rw [e1, ih, e2, e3]
    have e4 : a * bs n a (m + 1) = a * bs n a m + ch n m * a ^ (m + 1) := by
      show a * (bs n a m + ch n m * a ^ m) = _
      rw [Nat.mul_add, Nat.pow_succ, ← Nat.mul_assoc, Nat.mul_comm a (ch n m), Nat.mul_assoc, Nat.mul_comm a (a ^ m)]
    rw [e4, Nat.add_mul]; omega

theorem bs_eq (a : Nat) : ∀ n, bs n a (n + 1) = (1 + a) ^ n
  | 0 => by simp [bs, ch]
  | n + 1 => by
    rw [bs_succ, bs_eq a n]
    have : bs n a (n + 1 + 1) = bs n a (n + 1) + ch n (n + 1) * a ^ (n + 1) := rfl
    rw [this, ch_big n (n + 1) (by omega), bs_eq a n]
    grind

theorem Prime.dvd_ch {p k : Nat} (hp : Prime p) (h0 : 0 < k) (h : k < p) : p ∣ ch p k := by
  obtain ⟨q, rfl⟩ : ∃ q, p = q + 1 := ⟨p - 1, by omega⟩
  obtain ⟨j, rfl⟩ : ∃ q, k = q + 1 := ⟨k - 1, by omega⟩
  have hd : q + 1 ∣ ch (q + 1) (j + 1) * (j + 1) := ⟨ch q j, (ch_mul q j).symm⟩
  rcases hp.dvd_mul hd with h1 | h1
  · exact h1
  · have := Nat.le_of_dvd (by omega) h1; omega

theorem Prime.bs_mod {p : Nat} (hp : Prime p) (a : Nat) : ∀ m, m + 1 ≤ p → bs p a (m + 1) % p = 1 % p
  | 0, _ => by simp [bs, ch_zero]
  | m + 1, h => by
    have e : bs p a (m + 1 + 1) = bs p a (m + 1) + ch p (m + 1) * a ^ (m + 1) := rfl
    obtain ⟨c, hc⟩ := hp.dvd_ch (k := m + 1) (by omega) (by omega)
    rw [e, hc, Nat.mul_assoc, Nat.add_mul_mod_self_left]
    exact hp.bs_mod a m (by omega)

theorem Prime.add_pow {p : Nat} (hp : Prime p) (a : Nat) : (1 + a) ^ p % p = (1 + a ^ p) % p := by
  obtain ⟨q, rfl⟩ : ∃ q, p = q + 1 := ⟨p - 1, by have := hp.1; omega⟩
  rw [← bs_eq]
  have e : bs (q + 1) a (q + 1 + 1) = bs (q + 1) a (q + 1) + ch (q + 1) (q + 1) * a ^ (q + 1) := rfl
  rw [e, ch_self, Nat.one_mul, Nat.add_mod, hp.bs_mod a q (by omega), ← Nat.add_mod]

theorem Prime.fermat {p : Nat} (hp : Prime p) : ∀ a, a ^ p % p = a % p
  | 0 => by rw [Nat.zero_pow (by have := hp.1; omega)]
  | a + 1 => by
    rw [Nat.add_comm a 1, hp.add_pow a, Nat.add_mod, hp.fermat a, ← Nat.add_mod]

/-- cancel a factor modulo a prime -/
theorem Prime.cancel {p a b c : Nat} (hp : Prime p) (ha : ¬ p ∣ a) (h : a * b % p = a * c % p) : b % p = c % p := by
  have key : ∀ b c : Nat, b ≤ c → a * b % p = a * c % p → b % p = c % p := by
    intro b c hbc h
    obtain ⟨d, rfl⟩ : ∃ d, c = b + d := ⟨c - b, by omega⟩
    have hd : p ∣ a * d := by
      rw [Nat.mul_add] at h
      have := Nat.sub_mod_eq_zero_of_mod_eq h.symm
      rw [Nat.add_sub_cancel_left] at this
      exact Nat.dvd_of_mod_eq_zero this
    rcases hp.dvd_mul hd with h1 | h1
    · exact absurd h1 ha
    · obtain ⟨e, rfl⟩ := h1
      rw [Nat.add_mul_mod_self_left]
  rcases Nat.le_total b c with h1 | h1
  · exact key b c h1 h
  · exact (key c b h1 h.symm).symm

theorem Prime.fermat1 {p a : Nat} (hp : Prime p) (ha : ¬ p ∣ a) : a ^ (p - 1) % p = 1 := by
  have h := hp.fermat a
  obtain ⟨q, rfl⟩ : ∃ q, p = q + 1 := ⟨p - 1, by have := hp.1; omega⟩
  have h2 : a * a ^ q % (q + 1) = a * 1 % (q + 1) := by
    rw [Nat.mul_one, ← h, Nat.pow_succ, Nat.mul_comm]
  have := hp.cancel ha h2
  rw [Nat.add_sub_cancel, this]
  exact Nat.mod_eq_of_lt (by have := hp.1; omega)

theorem mul_mod_one {p x y : Nat} (h : x % p = 1) : x * y % p = y % p := by
  rw [Nat.mul_mod, h, Nat.one_mul, Nat.mod_mod]

theorem pow_mod_one {p x n : Nat} (hp : 1 < p) (h : x % p = 1) : x ^ n % p = 1 := by
  rw [Nat.pow_mod, h, Nat.one_pow, Nat.mod_eq_of_lt hp]

/-- powers that are 1: the exponents' greatest common divisor -/
theorem pow_gcd {p a : Nat} (hp : 1 < p) (x y : Nat) : a ^ x % p = 1 → a ^ y % p = 1 → a ^ (Nat.gcd x y) % p = 1 := by
  induction x, y using Nat.gcd.induction with
  | H0 n => intro _ h; rw [Nat.gcd_zero_left]; exact h
  | H1 m n hm ih =>
    intro h1 h2
    rw [Nat.gcd_rec]
    refine ih ?_ h1
    have e : a ^ n = (a ^ m) ^ (n / m) * a ^ (n % m) := by
      rw [← Nat.pow_mul, ← Nat.pow_add, Nat.div_add_mod]
    rw [e, mul_mod_one (pow_mod_one hp h1)] at h2
    exact h2

theorem exists_prime : ∀ n, 2 ≤ n → ∃ r, Prime r ∧ r ∣ n := by
  intro n
  induction n using Nat.strongRecOn with
  | ind n ih =>
    intro hn
    by_cases hp : Prime n
    · exact ⟨n, hp, Nat.dvd_refl n⟩
    · have : ∃ d, d ∣ n ∧ d ≠ 1 ∧ d ≠ n := by
        apply Classical.byContradiction
        intro h
        apply hp
        refine ⟨hn, fun d hd => ?_⟩
        by_cases h1 : d = 1
        · exact Or.inl h1
        · by_cases h2 : d = n
          · exact Or.inr h2
          · exact absurd ⟨d, hd, h1, h2⟩ h
      obtain ⟨d, hd, h1, h2⟩ := this
      have hle := Nat.le_of_dvd (by omega) hd
      have h0 : d ≠ 0 := by rintro rfl; have := Nat.eq_zero_of_zero_dvd hd; omega
      obtain ⟨r, hr, hrd⟩ := ih d (by omega) (by omega)
      exact ⟨r, hr, Nat.dvd_trans hrd hd⟩

theorem not_prime_small {n : Nat} (hn : 2 ≤ n) (h : ¬ Prime n) : ∃ r, Prime r ∧ r ∣ n ∧ r * r ≤ n := by
  have : ∃ d, d ∣ n ∧ d ≠ 1 ∧ d ≠ n := by
    apply Classical.byContradiction
    intro h'
    apply h
    refine ⟨hn, fun d hd => ?_⟩
    by_cases h1 : d = 1
    · exact Or.inl h1
    · by_cases h2 : d = n
      · exact Or.inr h2
      · exact absurd ⟨d, hd, h1, h2⟩ h'
  obtain ⟨d, ⟨e, rfl⟩, h1, h2⟩ := this
  have hd0 : d ≠ 0 := by rintro rfl; omega
  have he0 : e ≠ 0 := by rintro rfl; omega
  have he1 : e ≠ 1 := by rintro rfl; omega
  rcases Nat.le_total d e with hle | hle
  · obtain ⟨r, hr, hrd⟩ := exists_prime d (by omega)
    have := Nat.le_of_dvd (by omega) hrd
    exact ⟨r, hr, Nat.dvd_trans hrd ⟨e, rfl⟩, Nat.mul_le_mul this (by omega)⟩
  · obtain ⟨r, hr, hrd⟩ := exists_prime e (by omega)
    have := Nat.le_of_dvd (by omega) hrd
    exact ⟨r, hr, Nat.dvd_trans hrd ⟨d, Nat.mul_comm _ _⟩, Nat.mul_le_mul (by omega) this⟩

def pmGo : Nat → Nat → Nat → Nat → Nat → Nat
  | 0, _, _, _, acc => acc
  | f + 1, a, e, n, acc => pmGo f (a * a % n) (e / 2) n (if e % 2 = 1 then acc * a % n else acc)

theorem pmGo_eq (n : Nat) : ∀ f a e acc, e < 2 ^ f → pmGo f a e n acc % n = acc * a ^ e % n
  | 0, a, e, acc, h => by
    have : e = 0 := by simp at h; omega
    subst this; simp [pmGo]
  | f + 1, a, e, acc, h => by
    have h2 : e / 2 < 2 ^ f := by rw [Nat.pow_succ] at h; omega
    rw [pmGo, pmGo_eq n f _ _ _ h2]
    have e1 : ∀ x, x * (a * a % n) ^ (e / 2) % n = x * a ^ (2 * (e / 2)) % n := by
      intro x
      rw [Nat.mul_mod, ← Nat.pow_mod, ← Nat.mul_mod, ← Nat.pow_two, ← Nat.pow_mul]
    rw [e1]
    by_cases h1 : e % 2 = 1
    · rw [if_pos h1, Nat.mul_mod, Nat.mod_mod, ← Nat.mul_mod, Nat.mul_assoc]
      have : a * a ^ (2 * (e / 2)) = a ^ e := by
        rw [← Nat.pow_succ']; congr 1; omega
      rw [this]
    · rw [if_neg h1]; congr 3; omega

theorem pm_one {f a e n r : Nat} (he : e < 2 ^ f) (h : pmGo f a e n 1 % n = r) : a ^ e % n = r := by
  rw [pmGo_eq n f a e 1 he, Nat.one_mul] at h; exact h

theorem pocklington {n q m a : Nat} (hq : Prime q) (hn : n = q * m + 1) (hs : n < (q + 1) * (q + 1))
    (h1 : a ^ (q * m) % n = 1) (t : Nat) (ht : a ^ m % n = t) (ht1 : Nat.gcd (t + (n - 1)) n = 1) : Prime n := by
  apply Classical.byContradiction
  intro hp
  have hm : m ≠ 0 := by
    rintro rfl
    simp at hn; subst hn; simp at h1
  have hq2 := hq.1
  have hn2 : 2 ≤ n := by
    have : 0 < q * m := Nat.mul_pos (by omega) (by omega)
    omega
  obtain ⟨r, hr, hrn, hrr⟩ := not_prime_small hn2 hp
  have hr2 := hr.1
  have hrq : r ≤ q := by
    apply Classical.byContradiction
    intro h
    have := Nat.mul_le_mul (show q + 1 ≤ r by omega) (show q + 1 ≤ r by omega)
    omega
  have red : ∀ x y, x % n = y % n → x % r = y % r := by
    intro x y h
    rw [← Nat.mod_mod_of_dvd x hrn, h, Nat.mod_mod_of_dvd _ hrn]
  have k1 : a ^ (q * m) % r = 1 := by
    rw [red _ 1 (by rw [h1, Nat.mod_eq_of_lt (by omega)]), Nat.mod_eq_of_lt (by omega)]
  have hra : ¬ r ∣ a := by
    intro h
    have : r ∣ a ^ (q * m) := by
      obtain ⟨j, hj⟩ : ∃ j, q * m = j + 1 := ⟨q * m - 1, by have : 0 < q * m := Nat.mul_pos (by omega) (by omega); omega⟩
      rw [hj, Nat.pow_succ]; exact Nat.dvd_mul_left_of_dvd h _
    rw [Nat.mod_eq_zero_of_dvd this] at k1
    omega
  have k2 : (a ^ m) ^ (r - 1) % r = 1 := by
    apply hr.fermat1
    intro h
    exact hra (hr.dvd_pow m h)
  have k3 : (a ^ m) ^ q % r = 1 := by rw [← Nat.pow_mul, Nat.mul_comm]; exact k1
  have hg : Nat.gcd q (r - 1) = 1 := by
    apply hq.coprime
    intro h
    have := Nat.le_of_dvd (by omega) h
    omega
  have k4 := pow_gcd (by omega) _ _ k3 k2
  rw [hg, Nat.pow_one] at k4
  have k5 : t % r = 1 := by
    rw [← k4]
    apply red
    rw [← ht, Nat.mod_mod]
  have k6 : r ∣ t + (n - 1) := by
    obtain ⟨c, rfl⟩ := hrn
    obtain ⟨c, rfl⟩ : ∃ d, c = d + 1 := ⟨c - 1, by cases c <;> simp at * ⟩
    have e : t + (r * (c + 1) - 1) = r * c + (t + (r - 1)) := by
      rw [Nat.mul_add, Nat.mul_one]; omega
    rw [e]
    apply Nat.dvd_add ⟨c, rfl⟩
    apply Nat.dvd_of_mod_eq_zero
    rw [Nat.add_mod, k5, Nat.mod_eq_of_lt (show r - 1 < r by omega), show 1 + (r - 1) = r by omega, Nat.mod_self]
  have k7 := Nat.dvd_gcd k6 hrn
  rw [ht1] at k7
  have := Nat.le_of_dvd (by omega) k7
  omega


theorem pock {n q a : Nat} (m : Nat) (hq : Prime q) (hn : n = q * m + 1) (hs : n < (q + 1) * (q + 1))
    (he : q * m < 2 ^ 64) (h1 : pmGo 64 a (q * m) n 1 % n = 1) (t : Nat) (hm : m < 2 ^ 64) (ht : pmGo 64 a m n 1 % n = t) (ht1 : Nat.gcd (t + (n - 1)) n = 1) : Prime n :=
  pocklington hq hn hs (pm_one he h1) t (pm_one hm ht) ht1

theorem prime_95189 : Prime 95189 := by
  apply Classical.byContradiction
  intro h
  obtain ⟨r, hr, hd, hs⟩ := not_prime_small (by decide) h
  have h2 := hr.1
  have hlt : r < 309 := by
    apply Classical.byContradiction
    intro hc
    have := Nat.mul_le_mul (show 309 ≤ r by omega) (show 309 ≤ r by omega)
    omega
  have key : ∀ d, d < 309 → d < 2 ∨ 95189 % d ≠ 0 := by decide +kernel
  rcases key r hlt with h3 | h3
  · omega
  · exact h3 (Nat.mod_eq_zero_of_dvd hd)

theorem prime_2835870689 : Prime 2835870689 :=
  pock (a := 2) 29792 prime_95189 (by decide +kernel) (by decide +kernel) (by decide +kernel) (by decide +kernel) 2427300015 (by decide +kernel) (by decide +kernel) (by decide +kernel)

theorem prime_5671741379 : Prime 5671741379 :=
  pock (a := 2) 2 prime_2835870689 (by decide +kernel) (by decide +kernel) (by decide +kernel) (by decide +kernel) 4 (by decide +kernel) (by decide +kernel) (by decide +kernel)

theorem prime_288230376151711447 : Prime 288230376151711447 :=
  pock (a := 2) 50818674 prime_5671741379 (by decide +kernel) (by decide +kernel) (by decide +kernel) (by decide +kernel) 269194018563725675 (by decide +kernel) (by decide +kernel) (by decide +kernel)

theorem prime_1152921504606845789 : Prime 1152921504606845789 :=
  pock (a := 2) 4 prime_288230376151711447 (by decide +kernel) (by decide +kernel) (by decide +kernel) (by decide +kernel) 16 (by decide +kernel) (by decide +kernel) (by decide +kernel)

theorem prime_2305843009213691579 : Prime 2305843009213691579 :=
  pock (a := 2) 2 prime_1152921504606845789 (by decide +kernel) (by decide +kernel) (by decide +kernel) (by decide +kernel) 4 (by decide +kernel) (by decide +kernel) (by decide +kernel)


/-- squares that are 1 modulo a prime -/
theorem sq_one {p t : Nat} (hp : Prime p) (h : t * t % p = 1) : t % p = 1 ∨ t % p = p - 1 := by
  have h2 := hp.1
  by_cases h0 : t = 0
  · subst h0; simp at h
  obtain ⟨s, rfl⟩ : ∃ s, t = s + 1 := ⟨t - 1, by omega⟩
  have hd : p ∣ s * (s + 2) := by
    apply Nat.dvd_of_mod_eq_zero
    have e : (s + 1) * (s + 1) = 1 + s * (s + 2) := by grind
    have h3 : (1 + s * (s + 2)) % p = 1 % p := by rw [← e, h, Nat.mod_eq_of_lt (by omega)]
    have := Nat.sub_mod_eq_zero_of_mod_eq h3
    rwa [Nat.add_sub_cancel_left] at this
  rcases hp.dvd_mul hd with ⟨c, hc⟩ | ⟨c, hc⟩
  · left; rw [hc, Nat.mul_add_mod, Nat.mod_eq_of_lt (by omega)]
  · right
    obtain ⟨c, rfl⟩ : ∃ d, c = d + 1 := ⟨c - 1, by cases c with | zero => simp at hc | succ => simp⟩
    have : s + 1 = p * c + (p - 1) := by rw [Nat.mul_add] at hc; omega
    rw [this, Nat.mul_add_mod, Nat.mod_eq_of_lt (by omega)]

/-- the numbers of a group of safe prime order -/
structure Safe (p q : Nat) : Prop where
  pr : Prime p
  qr : Prime q
  two : p = 2 * q + 1
  odd : q % 2 = 1

namespace Safe
variable {p q : Nat}

theorem half (S : Safe p q) {a : Nat} (ha : ¬ p ∣ a) : a ^ q % p = 1 ∨ a ^ q % p = p - 1 := by
  apply sq_one S.pr
  rw [← Nat.pow_add, ← Nat.two_mul]
  have := S.pr.fermat1 ha
  have h2 := S.two
  rwa [show p - 1 = 2 * q by omega] at this

theorem ne (S : Safe p q) : p - 1 ≠ 1 := by have := S.two; have := S.qr.1; omega

theorem neg_neg (S : Safe p q) : (p - 1) * (p - 1) % p = 1 := by
  have := S.pr.1
  obtain ⟨r, rfl⟩ : ∃ r, p = r + 1 := ⟨p - 1, by omega⟩
  rw [Nat.add_sub_cancel, show r * r = (r + 1) * (r - 1) + 1 by
    obtain ⟨s, rfl⟩ : ∃ s, r = s + 1 := ⟨r - 1, by omega⟩
    grind, Nat.mul_add_mod, Nat.mod_eq_of_lt (by omega)]

/-- being in the group goes through products -/
theorem mul (S : Safe p q) {a b : Nat} (ha : ¬ p ∣ a) (hb : ¬ p ∣ b) : ((a * b) ^ q % p = 1) ↔ (a ^ q % p = 1 ↔ b ^ q % p = 1) := by
  have hn := S.ne
  have h2 := S.pr.1
  rw [Nat.mul_pow, Nat.mul_mod]
  rcases S.half ha with h1 | h1 <;> rcases S.half hb with h3 | h3 <;> rw [h1, h3]
  · rw [Nat.one_mul, Nat.mod_eq_of_lt (by omega)]; simp
  · rw [Nat.one_mul, Nat.mod_eq_of_lt (by omega)]; simp [hn]
  · rw [Nat.mul_one, Nat.mod_eq_of_lt (by omega)]; simp [hn]
  · rw [S.neg_neg]; simp [hn]

theorem neg_one (S : Safe p q) : (p - 1) ^ q % p = p - 1 := by
  have h2 := S.pr.1
  obtain ⟨k, hk⟩ : ∃ k, q = 2 * k + 1 := ⟨q / 2, by have := S.odd; omega⟩
  rw [hk, Nat.pow_succ, Nat.pow_mul, Nat.pow_two, mul_mod_one (pow_mod_one (by omega) S.neg_neg), Nat.mod_eq_of_lt (by omega)]

theorem not_dvd_lt {a : Nat} (h0 : 0 < a) (h : a < p) : ¬ p ∣ a := by
  intro hd
  have := Nat.le_of_dvd h0 hd
  omega

/-- the negative -/
theorem neg (S : Safe p q) {x : Nat} (h0 : 0 < x) (h : x < p) : ((p - x) ^ q % p = 1) ↔ ¬ (x ^ q % p = 1) := by
  have h2 := S.pr.1
  have e : (p - x) % p = x * (p - 1) % p := by
    obtain ⟨y, rfl⟩ : ∃ y, p = x + y := ⟨p - x, by omega⟩
    obtain ⟨x, rfl⟩ : ∃ z, x = z + 1 := ⟨x - 1, by omega⟩
    rw [show x + 1 + y - (x + 1) = y by omega, show x + 1 + y - 1 = x + y by omega,
      show (x + 1) * (x + y) = y + (x + 1 + y) * x by grind, Nat.add_mul_mod_self_left]
  rw [Nat.pow_mod, e, ← Nat.pow_mod, S.mul (not_dvd_lt h0 h) (not_dvd_lt (by omega) (by omega)), S.neg_one]
  have := S.ne
  simp [this]

theorem pow_mod_q (S : Safe p q) {x : Nat} (h : x ^ q % p = 1) (n : Nat) : x ^ (n % q) % p = x ^ n % p := by
  have h2 := S.pr.1
  have e : x ^ n = (x ^ q) ^ (n / q) * x ^ (n % q) := by
    rw [← Nat.pow_mul, ← Nat.pow_add, Nat.div_add_mod]
  rw [e, mul_mod_one (pow_mod_one (by omega) h)]

theorem pow_congr (S : Safe p q) {x m n : Nat} (h : x ^ q % p = 1) (hm : m % q = n % q) : x ^ m % p = x ^ n % p := by
  rw [← S.pow_mod_q h m, hm, S.pow_mod_q h n]

theorem order (S : Safe p q) {x : Nat} (h : x ^ q % p = 1) (h1 : x % p ≠ 1) (n : Nat) : (x ^ n % p = 1) ↔ n % q = 0 := by
  have h2 := S.pr.1
  constructor
  · intro hn
    apply Classical.byContradiction
    intro hq
    have hg : Nat.gcd q n = 1 := S.qr.coprime (fun hd => hq (Nat.mod_eq_zero_of_dvd hd))
    have := pow_gcd (by omega) _ _ h hn
    rw [hg, Nat.pow_one] at this
    exact h1 this
  · intro hn
    rw [S.pow_congr h (show n % q = 0 % q by rw [hn, Nat.zero_mod]), Nat.pow_zero, Nat.mod_eq_of_lt (by omega)]

theorem pow_inj (S : Safe p q) {x : Nat} (h : x ^ q % p = 1) (h1 : x % p ≠ 1) (m n : Nat) : (x ^ m % p = x ^ n % p) ↔ m % q = n % q := by
  have h2 := S.pr.1
  have hx : ¬ p ∣ x := by
    rintro hd
    have hq := S.qr.1
    have : p ∣ x ^ q := by
      obtain ⟨k, rfl⟩ : ∃ k, q = k + 1 := ⟨q - 1, by omega⟩
      rw [Nat.pow_succ]; exact Nat.dvd_mul_left_of_dvd hd _
    rw [Nat.mod_eq_zero_of_dvd this] at h
    omega
  constructor
  · have key : ∀ m n, m % q ≤ n % q → x ^ m % p = x ^ n % p → m % q = n % q := by
      intro m n hle he
      rw [← S.pow_mod_q h m, ← S.pow_mod_q h n] at he
      obtain ⟨d, hd⟩ : ∃ d, n % q = m % q + d := ⟨n % q - m % q, by omega⟩
      rw [hd, Nat.pow_add] at he
      have hc := S.pr.cancel (a := x ^ (m % q)) (b := 1) (c := x ^ d) (fun hh => hx (S.pr.dvd_pow _ hh)) (by rw [Nat.mul_one]; exact he)
      rw [Nat.mod_eq_of_lt (by omega)] at hc
      have hz := (S.order h h1 d).1 hc.symm
      have := Nat.mod_lt n (show 0 < q by have := S.qr.1; omega)
      rw [Nat.mod_eq_of_lt (by omega)] at hz
      omega
    intro he
    rcases Nat.le_total (m % q) (n % q) with hle | hle
    · exact key m n hle he
    · exact (key n m hle he.symm).symm
  · intro he; exact S.pow_congr h he

/-- the inverse, by Fermat -/
theorem inv (S : Safe p q) {a : Nat} (ha : ¬ p ∣ a) : a * (a ^ (p - 2)) % p = 1 := by
  have h2 := S.pr.1
  rw [← Nat.pow_succ', show (p - 2).succ = p - 1 by omega]
  exact S.pr.fermat1 ha

/-- an inverse is unique -/
theorem inv_unique (S : Safe p q) {a x y : Nat} (hx : a * x % p = 1) (hy : a * y % p = 1) : x % p = y % p := by
  have ha : ¬ p ∣ a := by
    intro hd
    rw [Nat.mod_eq_zero_of_dvd (Nat.dvd_mul_right_of_dvd hd x)] at hx
    omega
  exact S.pr.cancel ha (by rw [hx, hy])

theorem sq_in (S : Safe p q) {a : Nat} (ha : ¬ p ∣ a) : (a * a) ^ q % p = 1 := (S.mul ha ha).2 Iff.rfl

theorem in_not_dvd (S : Safe p q) {x : Nat} (h : x ^ q % p = 1) : ¬ p ∣ x := by
  intro hd
  have hq := S.qr.1
  have : p ∣ x ^ q := by
    obtain ⟨k, rfl⟩ : ∃ k, q = k + 1 := ⟨q - 1, by omega⟩
    rw [Nat.pow_succ]; exact Nat.dvd_mul_left_of_dvd hd _
  rw [Nat.mod_eq_zero_of_dvd this] at h
  omega

end Safe

theorem safe : Safe 2305843009213691579 1152921504606845789 := ⟨prime_2305843009213691579, prime_1152921504606845789, by decide, by decide⟩

end Go.Proofs.Ytgakeihdnlmeaaa.Nt
