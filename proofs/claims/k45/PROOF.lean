import PyProof.Rows.All
import Wide.All
import OpenK.AllK
import Wide.FinOn
import HandS.ForMost
import HandS.IsInst
import HandS.Conv
import KE.GoesNew
import PySem.Challenge.RW_everyplace_k45_whole_wished_numbers
set_option Elab.async false
set_option linter.all false
set_option maxRecDepth 100000
set_option maxHeartbeats 4000000
namespace Wn

/-! ### powers by a prime, as the loop takes them -/
def pwL : Nat → Int → Int → Int → Int → Int
  | 0, f, _, _, _ => f
  | n + 1, f, b, o, m => if 0 < o then pwL n (if o % 2 = 1 then f * b % m else f) (b * b % m) (o / 2) m else f

/-- 0, 1 or -1 -/
def sqv (k p : Int) : Int :=
  if k % p = 0 then 0 else if pwL 3 (1 % p) (k % p) ((p - 1) / 2) p = 1 then 1 else -1

theorem sqv_mod (k p : Int) : sqv k p = sqv (k % p) p := by
  unfold sqv
  rw [Int.emod_emod]

def odds : List Int := [3, 5, 7, 11, 13]

/-- a number without a prime that goes into it -/
def lf (k p : Int) : Int := if k % p = 0 then k / p else k

/-- the squares by an odd small prime, as the law lists them -/
def sqs (p : Int) : List Int :=
  if p = 3 then [1] else if p = 5 then [1, 4] else if p = 7 then [1, 2, 4] else if p = 11 then [1, 3, 4, 5, 9] else [1, 3, 4, 9, 10, 12]

def Pr (k : Int) : Prop := 2 ≤ k ∧ ∀ e : Int, 2 ≤ e → e * e ≤ k → ¬ e ∣ k
/-- what the law's own look says of a number: odd, and no number from 2 on whose square is no more divides it -/
def Lp (k : Int) : Prop := k % 2 = 1 ∧ ∀ e : Int, 2 ≤ e → e * e ≤ k → ¬ e ∣ k

/-! ### wishes -/
structure Wi where
  sg : Int
  v2 : Int
  r2 : Int
  v3 : Int
  s3 : Int
  v5 : Int
  s5 : Int
  v7 : Int
  s7 : Int
  v11 : Int
  s11 : Int
  v13 : Int
  s13 : Int

structure Wi.Ok (c : Wi) : Prop where
  sg : c.sg = 1 ∨ c.sg = -1
  v2 : c.v2 = 0 ∨ c.v2 = 1
  r2 : c.r2 = 1 ∨ c.r2 = 3 ∨ c.r2 = 5 ∨ c.r2 = 7
  v3 : c.v3 = 0 ∨ c.v3 = 1
  s3 : c.s3 = 1 ∨ c.s3 = -1
  v5 : c.v5 = 0 ∨ c.v5 = 1
  s5 : c.s5 = 1 ∨ c.s5 = -1
  v7 : c.v7 = 0 ∨ c.v7 = 1
  s7 : c.s7 = 1 ∨ c.s7 = -1
  v11 : c.v11 = 0 ∨ c.v11 = 1
  s11 : c.s11 = 1 ∨ c.s11 = -1
  v13 : c.v13 = 0 ∨ c.v13 = 1
  s13 : c.s13 = 1 ∨ c.s13 = -1

/-- one factor taken in -/
def tk (n p v : Int) : Int := if v = 1 then n * p else n
def Wi.known (c : Wi) : Int := tk (tk (tk (tk (tk (tk c.sg 2 c.v2) 3 c.v3) 5 c.v5) 7 c.v7) 11 c.v11) 13 c.v13

/-- the wish for a further prime -/
def Wi.first (c : Wi) : Int := c.r2 * lf c.known 2 % 8
def rwV (c : Wi) (p s : Int) : Int := s * sqv (lf c.known p) p
def Wi.row (c : Wi) : List Int := [rwV c 3 c.s3, rwV c 5 c.s5, rwV c 7 c.s7, rwV c 11 c.s11, rwV c 13 c.s13]

def fitsB (q f : Int) (r : List Int) : Bool := (q % 8 == f) && ((odds.zip r).all fun z => sqv q z.1 == z.2)

/-- the law's own look at one prime -/
def lfit (n p s : Int) : Bool := ((sqs p).contains (lf n p % p)) == (s == 1)
def Wi.lfits (c : Wi) (n : Int) : Bool :=
  (lf n 2 % 8 == c.r2) && (lfit n 3 c.s3 && (lfit n 5 c.s5 && (lfit n 7 c.s7 && (lfit n 11 c.s11 && lfit n 13 c.s13))))

/-! ### the small facts, by going through all -/
def bits : List Int := [0, 1]
def signs : List Int := [1, -1]

theorem kn_all : ∀ sg ∈ signs, ∀ a ∈ bits, ∀ b ∈ bits, ∀ c ∈ bits, ∀ d ∈ bits, ∀ e ∈ bits, ∀ f ∈ bits,
    let k := tk (tk (tk (tk (tk (tk sg 2 a) 3 b) 5 c) 7 d) 11 e) 13 f
    (-30030 ≤ k ∧ k ≤ 30030 ∧ k ≠ 0) ∧ ∀ p ∈ [(2 : Int), 3, 5, 7, 11, 13], lf k p % p ≠ 0 ∧ (k % p = 0 → p * lf k p = k) := by
  decide +kernel

theorem bit_mem {v : Int} (h : v = 0 ∨ v = 1) : v ∈ bits := by
  rcases h with rfl | rfl <;> decide
theorem sign_mem {v : Int} (h : v = 1 ∨ v = -1) : v ∈ signs := by
  rcases h with rfl | rfl <;> decide

theorem Wi.Ok.kn {c : Wi} (h : c.Ok) : (-30030 ≤ c.known ∧ c.known ≤ 30030 ∧ c.known ≠ 0) ∧ ∀ p ∈ [(2 : Int), 3, 5, 7, 11, 13], lf c.known p % p ≠ 0 ∧ (c.known % p = 0 → p * lf c.known p = c.known) :=
  kn_all _ (sign_mem h.sg) _ (bit_mem h.v2) _ (bit_mem h.v3) _ (bit_mem h.v5) _ (bit_mem h.v7) _ (bit_mem h.v11) _ (bit_mem h.v13)

/-- rests by p, not 0 -/
theorem prod_all : ∀ p ∈ [(2 : Int), 3, 5, 7, 11, 13], ∀ l ∈ (List.range 13).map (fun n : Nat => (n : Int)), ∀ x ∈ (List.range 13).map (fun n : Nat => (n : Int)),
    l % p ≠ 0 → x % p ≠ 0 → l * x % p ≠ 0 := by
  decide +kernel
theorem fit_all : ∀ p ∈ odds, ∀ l ∈ (List.range 13).map (fun n : Nat => (n : Int)), ∀ x ∈ (List.range 13).map (fun n : Nat => (n : Int)), ∀ s ∈ signs,
    l < p → x < p → l ≠ 0 → x ≠ 0 → (((sqs p).contains (l * x % p)) == (s == 1)) = (sqv x p == s * sqv l p) := by
  decide +kernel
theorem two_all : ∀ l ∈ [(1 : Int), 3, 5, 7], ∀ x ∈ [(1 : Int), 3, 5, 7], ∀ r ∈ [(1 : Int), 3, 5, 7], (l * x % 8 == r) = (x == r * l % 8) := by
  decide +kernel
theorem sqv_all : ∀ p ∈ odds, ∀ l ∈ (List.range 13).map (fun n : Nat => (n : Int)), l < p → l ≠ 0 → sqv l p = 1 ∨ sqv l p = -1 := by
  decide +kernel

/-! ### each prime by itself -/
abbrev R13 : List Int := (List.range 13).map (fun n : Nat => (n : Int))
theorem res_mem {k p : Int} (h0 : 0 < p) (h1 : p ≤ 13) : k % p ∈ R13 := by
  have a := Int.emod_nonneg k (show p ≠ 0 by omega)
  have b := Int.emod_lt_of_pos k h0
  refine List.mem_map.mpr ⟨(k % p).toNat, List.mem_range.mpr (by omega), by omega⟩
theorem six_small : ∀ p ∈ [(2 : Int), 3, 5, 7, 11, 13], 0 < p ∧ p ≤ 13 := by decide
theorem six_two : ∀ p ∈ [(2 : Int), 3, 5, 7, 11, 13], 2 ≤ p := by decide
theorem le_or (a b : Int) : a < b ∨ b ≤ a := by omega
theorem odds_six : ∀ p ∈ odds, p ∈ [(2 : Int), 3, 5, 7, 11, 13] := by decide

/-- the known part times a number, the prime taken out -/
theorem lf_mul {k q p : Int} (hp : p ∈ [(2 : Int), 3, 5, 7, 11, 13]) (hl : lf k p % p ≠ 0) (hk : k % p = 0 → p * lf k p = k) (hq : q % p ≠ 0) : lf (k * q) p = lf k p * q := by
  obtain ⟨h0, h1⟩ := six_small p hp
  by_cases h : k % p = 0
  · have e := hk h
    generalize lf k p = l at e hl ⊢
    subst e
    have e2 : p * l * q = p * (l * q) := Int.mul_assoc _ _ _
    unfold lf
    rw [e2, Int.mul_emod_right, if_pos rfl, Int.mul_ediv_cancel_left _ (by omega)]
  · have e : lf k p = k := if_neg h
    rw [e] at hl ⊢
    have hne : k * q % p ≠ 0 := by
      rw [Int.mul_emod]
      exact prod_all p hp _ (res_mem h0 h1) _ (res_mem h0 h1) (by rw [Int.emod_emod]; exact hl) (by rw [Int.emod_emod]; exact hq)
    exact if_neg hne

theorem lfit_eq {k q p s : Int} (hp : p ∈ odds) (hs : s = 1 ∨ s = -1) (hl : lf k p % p ≠ 0) (hk : k % p = 0 → p * lf k p = k) (hq : q % p ≠ 0) :
    lfit (k * q) p s = (sqv q p == s * sqv (lf k p) p) := by
  obtain ⟨h0, h1⟩ := six_small p (odds_six p hp)
  unfold lfit
  rw [lf_mul (odds_six p hp) hl hk hq, Int.mul_emod, sqv_mod q p, sqv_mod (lf k p) p]
  exact fit_all p hp _ (res_mem h0 h1) _ (res_mem h0 h1) s (sign_mem hs) (Int.emod_lt_of_pos _ h0) (Int.emod_lt_of_pos _ h0) hl hq

theorem odd_eight {k : Int} (h : k % 2 ≠ 0) : k % 8 ∈ [(1 : Int), 3, 5, 7] := by
  have : k % 8 = 1 ∨ k % 8 = 3 ∨ k % 8 = 5 ∨ k % 8 = 7 := by omega
  rcases this with e | e | e | e <;> rw [e] <;> decide
theorem r2_mem {r : Int} (h : r = 1 ∨ r = 3 ∨ r = 5 ∨ r = 7) : r ∈ [(1 : Int), 3, 5, 7] := by
  rcases h with rfl | rfl | rfl | rfl <;> decide
theorem two_eq {k q r : Int} (hr : r = 1 ∨ r = 3 ∨ r = 5 ∨ r = 7) (hl : lf k 2 % 2 ≠ 0) (hk : k % 2 = 0 → 2 * lf k 2 = k) (hq : q % 2 ≠ 0) :
    (lf (k * q) 2 % 8 == r) = (q % 8 == r * lf k 2 % 8) := by
  rw [lf_mul (by decide) hl hk hq, Int.mul_emod, Int.mul_emod r]
  have hr8 : r % 8 = r := by omega
  rw [hr8]
  exact two_all _ (odd_eight hl) _ (odd_eight hq) r (r2_mem hr)

/-- q is by none of the small primes -/
def Apart (q : Int) : Prop := ∀ p ∈ [(2 : Int), 3, 5, 7, 11, 13], q % p ≠ 0

theorem fits_lfits {c : Wi} (h : c.Ok) {q : Int} (hq : Apart q) : c.lfits (c.known * q) = fitsB q c.first c.row := by
  have K := h.kn.2
  have g : ∀ p ∈ odds, ∀ s : Int, s = 1 ∨ s = -1 → lfit (c.known * q) p s = (sqv q p == rwV c p s) := fun p hp s hs =>
    lfit_eq hp hs (K p (odds_six p hp)).1 (K p (odds_six p hp)).2 (hq p (odds_six p hp))
  unfold Wi.lfits
  rw [two_eq h.r2 (K 2 (by decide)).1 (K 2 (by decide)).2 (hq 2 (by decide)), g 3 (by decide) _ h.s3, g 5 (by decide) _ h.s5, g 7 (by decide) _ h.s7, g 11 (by decide) _ h.s11, g 13 (by decide) _ h.s13]
  simp [fitsB, Wi.first, Wi.row, odds]

/-! ### primes -/
theorem apart_one : Apart 1 := by
  unfold Apart
  decide
theorem apart_pr {q : Int} (h : Pr q) (hq : 17 ≤ q) : Apart q := by
  intro p hp e
  obtain ⟨h0, h1⟩ := six_small p hp
  have h2 : 2 ≤ p := six_two p hp
  have hd : p ∣ q := Int.dvd_of_emod_eq_zero e
  by_cases hs : p * p ≤ q
  · exact h.2 p h2 hs hd
  · obtain ⟨m, rfl⟩ := hd
    have hm1 : 1 < m := by
      rcases le_or 1 m with a | a
      · exact a
      · have := Int.mul_le_mul_of_nonneg_left a (show 0 ≤ p by omega)
        omega
    have hmp : m < p := by
      rcases le_or m p with a | a
      · exact a
      · exact absurd (Int.mul_le_mul_of_nonneg_left a (show 0 ≤ p by omega)) hs
    have hmm : m * m ≤ p * m := Int.mul_le_mul_of_nonneg_right (Int.le_of_lt hmp) (by omega)
    exact h.2 m (by omega) hmm ⟨p, Int.mul_comm _ _⟩
theorem lp_one : Lp 1 := ⟨by decide, fun e h1 h2 => by
  have := Int.mul_le_mul_of_nonneg_left h1 (show 0 ≤ e by omega)
  omega⟩
theorem lp_pr {q : Int} (h : 17 ≤ q) (hl : Lp q) : Pr q := ⟨by omega, hl.2⟩
theorem pr_lp {q : Int} (h : q % 2 = 1) (hl : Pr q) : Lp q := ⟨h, hl.2⟩

/-! ### the further prime -/
def Cand (q : Int) : Prop := q = 1 ∨ (17 ≤ q ∧ q % 2 = 1)
def Wi.Good (c : Wi) (q : Int) : Prop := (q = 1 ∨ (17 ≤ q ∧ q % 2 = 1 ∧ Pr q)) ∧ fitsB q c.first c.row = true
def Wi.Best (c : Wi) (q : Int) : Prop := c.Good q ∧ q ≤ 8099 ∧ ∀ q', Cand q' → q' < q → ¬ c.Good q'

def noDiv (n : Nat) : Bool := (List.range 91).all fun e => e < 2 || (n < e * e || n % e != 0)
theorem pr_of {q : Int} (h : noDiv q.toNat = true) (h1 : 17 ≤ q) (h2 : q ≤ 8099) : Pr q := by
  refine ⟨by omega, fun e he hs hd => ?_⟩
  have hlt : e < 91 := by
    rcases le_or e 91 with a | a
    · exact a
    · have := Int.mul_le_mul a a (by omega) (by omega)
      omega
  have h3 := (List.all_eq_true.mp h) e.toNat (List.mem_range.mpr (by omega))
  have e1 : ((e.toNat : Nat) : Int) = e := by omega
  have e2 : ((q.toNat : Nat) : Int) = q := by omega
  have h4 : ¬ e.toNat < 2 := by omega
  have h5 : ¬ q.toNat < e.toNat * e.toNat := by
    intro z
    have z' : ((q.toNat : Nat) : Int) < ((e.toNat * e.toNat : Nat) : Int) := by exact_mod_cast z
    rw [Int.natCast_mul, e1, e2] at z'
    omega
  have h6 : q.toNat % e.toNat = 0 := by
    have : ((q.toNat % e.toNat : Nat) : Int) = 0 := by
      rw [Int.natCast_emod, e1, e2]
      exact Int.emod_eq_zero_of_dvd hd
    exact_mod_cast this
  simp [h4, h5, h6] at h3

def wits (f : Int) : List Int :=
  if f = 1 then [1, 2689, 2521, 1009, 1609, 1321, 601, 241, 1873, 2017, 337, 193, 313, 97, 937, 73, 641, 401, 569, 281, 521, 89, 1361, 41, 113, 137, 233, 1913, 257, 353, 17, 593]
  else if f = 3 then [1171, 331, 211, 739, 859, 619, 139, 19, 883, 67, 43, 1723, 1483, 643, 283, 307, 179, 2699, 491, 1019, 251, 59, 131, 1931, 443, 683, 107, 827, 467, 587, 563, 83]
  else if f = 5 then [1621, 421, 1381, 109, 181, 229, 61, 349, 757, 37, 277, 613, 157, 397, 997, 733, 389, 1061, 29, 149, 269, 509, 101, 461, 53, 317, 1733, 197, 797, 773, 173, 293]
  else [751, 631, 79, 151, 199, 31, 439, 271, 823, 463, 127, 967, 103, 223, 607, 3583, 191, 71, 1031, 239, 311, 839, 1559, 479, 23, 863, 263, 743, 647, 47, 503, 167]
def okW (q : Int) : Bool := q == 1 || (decide (17 ≤ q) && (decide (q ≤ 8099) && (q % 2 == 1 && noDiv q.toNat)))
theorem wit_all : ∀ f ∈ [(1 : Int), 3, 5, 7], ∀ a ∈ signs, ∀ b ∈ signs, ∀ c ∈ signs, ∀ d ∈ signs, ∀ e ∈ signs,
    ∃ q ∈ wits f, okW q = true ∧ fitsB q f [a, b, c, d, e] = true := by
  decide +kernel

theorem sg_mul {s t : Int} (hs : s = 1 ∨ s = -1) (ht : t = 1 ∨ t = -1) : s * t ∈ signs := by
  rcases hs with rfl | rfl <;> rcases ht with rfl | rfl <;> decide
theorem rw_mem {c : Wi} (h : c.Ok) {p s : Int} (hp : p ∈ odds) (hs : s = 1 ∨ s = -1) : rwV c p s ∈ signs := by
  obtain ⟨h0, h1⟩ := six_small p (odds_six p hp)
  refine sg_mul hs ?_
  rw [sqv_mod]
  exact sqv_all p hp _ (res_mem h0 h1) (Int.emod_lt_of_pos _ h0) (h.kn.2 p (odds_six p hp)).1
theorem first_all : ∀ l ∈ [(1 : Int), 3, 5, 7], ∀ r ∈ [(1 : Int), 3, 5, 7], r * l % 8 ∈ [(1 : Int), 3, 5, 7] := by decide
theorem first_mem {c : Wi} (h : c.Ok) : c.first ∈ [(1 : Int), 3, 5, 7] := by
  unfold Wi.first
  have hl := (h.kn.2 2 (by decide)).1
  have hr8 : c.r2 % 8 = c.r2 := by
    have := h.r2
    omega
  rw [Int.mul_emod, hr8]
  exact first_all _ (odd_eight hl) _ (r2_mem h.r2)
theorem some_good {c : Wi} (h : c.Ok) : ∃ q, Cand q ∧ q ≤ 8099 ∧ c.Good q := by
  obtain ⟨q, _, h1, h2⟩ := wit_all _ (first_mem h) _ (rw_mem h (p := 3) (by decide) h.s3) _ (rw_mem h (p := 5) (by decide) h.s5) _ (rw_mem h (p := 7) (by decide) h.s7) _ (rw_mem h (p := 11) (by decide) h.s11) _ (rw_mem h (p := 13) (by decide) h.s13)
  refine ⟨q, ?_⟩
  simp only [okW, Bool.or_eq_true, Bool.and_eq_true, decide_eq_true_eq, beq_iff_eq] at h1
  rcases h1 with rfl | ⟨a1, a2, a3, a4⟩
  · exact ⟨.inl rfl, by decide, .inl rfl, h2⟩
  · exact ⟨.inr ⟨a1, a3⟩, a2, .inr ⟨a1, a3, pr_of a4 a1 a2⟩, h2⟩

/-- the next number that is looked at -/
def nxt (q : Int) : Int := (if q = 1 then 15 else q) + 2
theorem cand_nxt {q : Int} (h : Cand q) : Cand (nxt q) := by
  unfold nxt
  rcases h with rfl | h
  · exact .inr (by decide)
  · rw [if_neg (by omega)]
    exact .inr (by omega)
theorem cand_below {q q' : Int} (h : Cand q) (h' : Cand q') (hlt : q' < nxt q) : q' < q ∨ q' = q := by
  unfold nxt at hlt
  unfold Cand at h h'
  split at hlt <;> omega
/-- so far none was good -/
def Wi.None (c : Wi) (q : Int) : Prop := Cand q ∧ q ≤ 8099 ∧ ∀ q', Cand q' → q' < q → ¬ c.Good q'
theorem none_one (c : Wi) : c.None 1 := ⟨.inl rfl, by decide, fun q' h hlt => by
  unfold Cand at h
  omega⟩
theorem none_nxt {c : Wi} (h : c.Ok) {q : Int} (n : c.None q) (hq : ¬ c.Good q) : c.None (nxt q) := by
  obtain ⟨n1, n2, n3⟩ := n
  have all : ∀ q', Cand q' → q' < nxt q → ¬ c.Good q' := fun q' h' hlt => by
    rcases cand_below n1 h' hlt with a | rfl
    · exact n3 q' h' a
    · exact hq
  refine ⟨cand_nxt n1, ?_, all⟩
  obtain ⟨w, w1, w2, w3⟩ := some_good h
  rcases le_or w (nxt q) with a | a
  · exact absurd w3 (all w w1 a)
  · omega
theorem nxt_gt {q : Int} (h : Cand q) : q < nxt q := by
  unfold Cand at h
  unfold nxt
  split <;> omega
theorem none_best {c : Wi} {q : Int} (n : c.None q) (hq : c.Good q) : c.Best q := ⟨hq, n.2.1, n.2.2⟩

/-! ### what the law asks of the number told -/
theorem best_fits {c : Wi} (h : c.Ok) {q : Int} (b : c.Best q) : c.lfits (c.known * q) = true := by
  obtain ⟨⟨g, f⟩, _, _⟩ := b
  have ap : Apart q := by
    rcases g with rfl | ⟨g1, _, g2⟩
    · exact apart_one
    · exact apart_pr g2 g1
  rw [fits_lfits h ap]
  exact f
theorem best_lp {c : Wi} {q : Int} (b : c.Best q) : q = 1 ∨ (17 ≤ q ∧ q ≤ 8099 ∧ q % 2 = 1 ∧ Lp q) := by
  obtain ⟨⟨g, f⟩, l, _⟩ := b
  rcases g with rfl | ⟨g1, g2, g3⟩
  · exact .inl rfl
  · exact .inr ⟨g1, l, g2, pr_lp g2 g3⟩
theorem best_none {c : Wi} (h : c.Ok) {q q' : Int} (b : c.Best q) (hc : Cand q') (hlt : q' < q) (hf : c.lfits (c.known * q') = true) (hl : Lp q') : False := by
  have g : q' = 1 ∨ (17 ≤ q' ∧ q' % 2 = 1 ∧ Pr q') := by
    rcases hc with e | ⟨a1, a2⟩
    · exact .inl e
    · exact .inr ⟨a1, a2, lp_pr a1 hl⟩
  have ap : Apart q' := by
    rcases g with rfl | ⟨g1, _, g2⟩
    · exact apart_one
    · exact apart_pr g2 g1
  rw [fits_lfits h ap] at hf
  exact b.2.2 q' hc hlt ⟨g, hf⟩
end Wn

namespace Wn
open PySem PySem.Spec PyProof.Rows L2
/-! ### the text by places -/
def topS (i : Nat) : Stmt := PySem.Challenge.pw_everyplace_k45_whole_wished_numbers.main.body.getD i (.Pass ⟨0, 0, 0, 0⟩)
abbrev sPrime : Stmt := topS 1
abbrev sPower : Stmt := topS 3
abbrev sSquare : Stmt := topS 4
abbrev sKnown : Stmt := topS 8
abbrev sLeft : Stmt := topS 9
abbrev sWanted : Stmt := topS 10
abbrev sFits : Stmt := topS 11
abbrev sAlso : Stmt := topS 12
abbrev sNumber : Stmt := topS 13
abbrev lCell : Stmt := topS 15
abbrev lBig : Stmt := topS 16
abbrev lClasses : Stmt := topS 17
abbrev lKnown : Stmt := topS 18
abbrev lSquare : Stmt := topS 19
abbrev lFits : Stmt := topS 20
abbrev lPrime : Stmt := topS 21
abbrev lHeld : Stmt := topS 22
abbrev lLaw : Stmt := topS 23
theorem scPrime : FnScope ["k", "d"] ["k"] (defScope sPrime) := ⟨rfl, rfl, rfl, by decide +kernel, rfl, by decide +kernel, by decide +kernel⟩
theorem scPower : FnScope ["k", "often", "m", "found", "base"] ["k", "often", "m"] (defScope sPower) := ⟨rfl, rfl, rfl, by decide +kernel, rfl, by decide +kernel, by decide +kernel⟩
theorem scSquare : FnScope ["k", "p"] ["k", "p"] (defScope sSquare) := ⟨rfl, rfl, rfl, by decide +kernel, rfl, by decide +kernel, by decide +kernel⟩
theorem scKnown : FnScope ["classes", "number", "p", "wish"] ["classes"] (defScope sKnown) := ⟨rfl, rfl, rfl, by decide +kernel, rfl, by decide +kernel, by decide +kernel⟩
theorem scLeft : FnScope ["number", "p"] ["number", "p"] (defScope sLeft) := ⟨rfl, rfl, rfl, by decide +kernel, rfl, by decide +kernel, by decide +kernel⟩
theorem scWanted : FnScope ["known", "classes", "first", "row", "p", "wish"] ["known", "classes"] (defScope sWanted) := ⟨rfl, rfl, rfl, by decide +kernel, rfl, by decide +kernel, by decide +kernel⟩
theorem scFits : FnScope ["q", "want", "p", "sign"] ["q", "want"] (defScope sFits) := ⟨rfl, rfl, rfl, by decide +kernel, rfl, by decide +kernel, by decide +kernel⟩
theorem scAlso : FnScope ["classes", "former", "sign", "known", "want", "q"] ["classes", "former", "sign"] (defScope sAlso) := ⟨rfl, rfl, rfl, by decide +kernel, rfl, by decide +kernel, by decide +kernel⟩
theorem scNumber : FnScope ["classes"] ["classes"] (defScope sNumber) := ⟨rfl, rfl, rfl, by decide +kernel, rfl, by decide +kernel, by decide +kernel⟩
theorem scLCell : FnScope ["_law_script", "_law_k"] ["_law_script", "_law_k"] (defScope lCell) := ⟨rfl, rfl, rfl, by decide +kernel, rfl, by decide +kernel, by decide +kernel⟩
theorem scLBig : FnScope ["_law_cell", "_law_k", "_law_number", "_law_j", "_law_part"] ["_law_cell", "_law_k"] (defScope lBig) := ⟨rfl, rfl, rfl, by decide +kernel, rfl, by decide +kernel, by decide +kernel⟩
theorem scLClasses : FnScope ["_law_cell", "_law_classes_here", "_law_rest", "_law_p"] ["_law_cell"] (defScope lClasses) := ⟨rfl, rfl, rfl, by decide +kernel, rfl, by decide +kernel, by decide +kernel⟩
theorem scLKnown : FnScope ["_law_classes_here", "_law_number", "_law_primes", "_law_k"] ["_law_classes_here"] (defScope lKnown) := ⟨rfl, rfl, rfl, by decide +kernel, rfl, by decide +kernel, by decide +kernel⟩
theorem scLSquare : FnScope ["_law_k", "_law_p", "_law_squares"] ["_law_k", "_law_p"] (defScope lSquare) := ⟨rfl, rfl, rfl, by decide +kernel, rfl, by decide +kernel, by decide +kernel⟩
theorem scLFits : FnScope ["_law_number", "_law_classes_here", "_law_left", "_law_primes", "_law_k"] ["_law_number", "_law_classes_here"] (defScope lFits) := ⟨rfl, rfl, rfl, by decide +kernel, rfl, by decide +kernel, by decide +kernel⟩
theorem scLPrime : FnScope ["_law_k", "_law_d"] ["_law_k"] (defScope lPrime) := ⟨rfl, rfl, rfl, by decide +kernel, rfl, by decide +kernel, by decide +kernel⟩
theorem scLHeld : FnScope ["_law_classes_here", "_law_handed", "_law_said", "_law_known_here", "_law_prime_here", "_law_q"] ["_law_classes_here"] (defScope lHeld) := ⟨rfl, rfl, rfl, by decide +kernel, rfl, by decide +kernel, by decide +kernel⟩
theorem scLLaw : FnScope ["_law_script", "_law_k"] ["_law_script"] (defScope lLaw) := ⟨rfl, rfl, rfl, by decide +kernel, rfl, by decide +kernel, by decide +kernel⟩

/-! ### small things -/
theorem same_upd {H : Hp} {p : Addr} {o : HO} (h : H p = none) : Same H (upd H p o) := fun b x e => by
  rw [upd_ne (ne_of_none e h)]
  exact e
theorem bI {P : Prop} {b : Bool} (h : b = true → P) (h' : P → b = true) : (b = true ↔ P) := ⟨h, h'⟩

section
variable {P : Program} {w : World} {K : PySem.W.Frag} {mg : Str → Option Value} {base : Heap}
/-! ### is_prime -/
def spPrime : Sp := fun vs H Q _ => ∃ k : Int, vs = [.int k] ∧ 2 ≤ k ∧ k ≤ 100000 ∧ ∀ b : Bool, (b = true ↔ Pr k) → Q (.bl b) H
theorem sq_le {d k : Int} (h0 : 0 ≤ d) (h : d * d ≤ k) : d ≤ k := by
  rcases le_or 0 d with a | a
  · have := Int.mul_le_mul_of_nonneg_left (show (1 : Int) ≤ d by omega) h0
    omega
  · have e : d = 0 := by omega
    subst e
    omega
theorem ok_prime {f : Addr} {fd : FuncData} {k : Nat} (F : Fun K "is_prime" "is_prime" sPrime f fd) : FnOk P w K mg base CX0 (k + 1) f fd ["k"] spPrime := by
  refine F.ok scPrime (fun vs H Q E h => ?_) (fun cdv A outer s H vs Q E hr h => ?_)
  · obtain ⟨n, rfl, _⟩ := h
    rfl
  · obtain ⟨n, rfl, h2, hb, q⟩ := h
    refine ⟨_, pss_cons (ps_if (pt_cmpR op_lt (pv 0) pe_int (nomark _)) (pss_one (ps_ret pe_bl)) pss_nil)
      (pss_cons (ps_set (i := 1) scPrime.nd rfl (.inl rfl) pe_int)
      (pss_cons (ps_while PassesOwn.never (pt_cmpR op_le (pe_op op_mul (pv 1) (pv 1)) (pv 0) (nomark _))
        (pss_cons (ps_if (pt_cmpR op_eq (pe_op op_mod (pv 0) (pv 1)) pe_int (nomark _)) (pss_one (ps_ret pe_bl)) pss_nil)
        (pss_one (ps_set (i := 1) scPrime.nd rfl (.inl rfl) (pe_op op_add (pe_op op_add (pv 1) pe_int) (pe_op op_mod (pv 1) pe_int))))))
      (pss_one (ps_ret pe_bl)))), ?_⟩
    refine ⟨_, rfl, _, _, rfl, rfl, _, rfl, ?_⟩
    rw [decide_eq_false (show ¬ n < 2 by omega)]
    refine iteF ?_
    refine ⟨fun m σ H' => H' = H ∧ ∃ d : Int, σ = [some (.int n), some (.int d)] ∧ 2 ≤ d ∧ d ≤ n + 2 ∧ (d = 2 ∨ d % 2 = 1) ∧ (m : Int) = n + 2 - d ∧ ∀ e : Int, 2 ≤ e → e < d → ¬ e ∣ n,
      ⟨n.toNat, rfl, 2, rfl, by omega, by omega, .inl rfl, by omega, fun e h1 h2 => by omega⟩, ?_⟩
    rintro m σ H' ⟨rfl, d, rfl, hd2, hdn, hodd, hm, hno⟩
    refine ⟨_, rfl, _, rfl, _, _, rfl, rfl, .inl ⟨by omega, by omega⟩, _, rfl, _, _, rfl, rfl, _, rfl, ?_⟩
    by_cases hle : d * d ≤ n
    · rw [decide_eq_true hle]
      refine iteT ?_
      have hdn' : d ≤ n := sq_le (by omega) hle
      refine ⟨fun σ' H'' => H'' = H' ∧ ∃ d' : Int, σ' = [some (.int n), some (.int d')] ∧ d < d' ∧ d' ≤ n + 2 ∧ d' % 2 = 1 ∧ ∀ e : Int, 2 ≤ e → e < d' → ¬ e ∣ n, ?_, ?_⟩
      · rintro σ' H'' ⟨e, d', e2, g1, g2, g3, g4⟩
        exact ⟨(n + 2 - d').toNat, by omega, e, d', e2, by omega, g2, .inr g3, by omega, g4⟩
      · refine ⟨_, rfl, _, rfl, _, _, rfl, rfl, (by show (0 : Int) < d; omega), rfl, _, rfl, ?_⟩
        by_cases hz : n % d = 0
        · rw [decide_eq_true (show V.int (n % d) = V.int 0 by rw [hz])]
          refine iteT ?_
          refine q false ⟨fun z => (nomatch z), fun z => absurd (Int.dvd_of_emod_eq_zero hz) (z.2 d hd2 hle)⟩
        · rw [decide_eq_false (show ¬ V.int (n % d) = V.int 0 from fun z => hz (V.int.inj z))]
          refine iteF ?_
          refine ⟨_, rfl, _, _, rfl, rfl, _, rfl, _, _, rfl, rfl, (by show (0 : Int) < 2; decide), _, _, rfl, rfl, ?_⟩
          have hnd : ¬ d ∣ n := fun z => hz (Int.emod_eq_zero_of_dvd z)
          refine ⟨rfl, d + 1 + d % 2, rfl, by omega, by omega, by omega, fun e h1 h2 => ?_⟩
          rcases le_or e d with a | a
          · exact hno e h1 a
          · rcases le_or d e with b | b
            · -- e = d + 1, an even number above 2
              intro z
              have h2n : (2 : Int) ∣ n := by
                obtain ⟨u, rfl⟩ := z
                exact Int.dvd_trans (show (2 : Int) ∣ e by omega) (Int.dvd_mul_right _ _)
              rcases hodd with rfl | ho
              · exact absurd h2 (by omega)
              · exact hno 2 (by omega) (by omega) h2n
            · have : e = d := by omega
              subst this
              exact hnd
    · rw [decide_eq_false hle]
      refine iteF ?_
      refine q true ⟨fun _ => ⟨h2, fun e he hs hd => ?_⟩, fun _ => rfl⟩
      rcases le_or e d with a | a
      · exact hno e he a hd
      · exact hle (Int.le_trans (Int.mul_le_mul a a (by omega) (by omega)) hs)
end
end Wn

namespace Wn
open PySem PySem.Spec PyProof.Rows L2
section
variable {P : Program} {w : World} {K : PySem.W.Frag} {mg : Str → Option Value} {base : Heap}
/-! ### power_by -/
theorem pwL_zero {n : Nat} {f b o m : Int} (h : o ≤ 0) : pwL n f b o m = f := by
  cases n with
  | zero => rfl
  | succ n => exact if_neg (by omega)
theorem pwL_succ {n : Nat} {f b o m : Int} (h : 0 < o) : pwL (n + 1) f b o m = pwL n (if o % 2 = 1 then f * b % m else f) (b * b % m) (o / 2) m := if_pos h
def spPower : Sp := fun vs H Q _ => ∃ k o m : Int, vs = [.int k, .int o, .int m] ∧ 0 < m ∧ m < 100000 ∧ 0 ≤ o ∧ o < 8 ∧ Q (.int (pwL 3 (1 % m) (k % m) o m)) H
theorem ok_power {f : Addr} {fd : FuncData} {k : Nat} (F : Fun K "power_by" "power_by" sPower f fd) : FnOk P w K mg base CX0 (k + 1) f fd ["k", "often", "m"] spPower := by
  refine F.ok scPower (fun vs H Q E h => ?_) (fun cdv A outer s H vs Q E hr h => ?_)
  · obtain ⟨k, o, m, rfl, _⟩ := h
    rfl
  · obtain ⟨k, o, m, rfl, hm, hm2, ho, ho8, q⟩ := h
    refine ⟨_, pss_cons (ps_set (i := 3) scPower.nd rfl (.inl rfl) (pe_op op_mod pe_int (pv 2)))
      (pss_cons (ps_set (i := 4) scPower.nd rfl (.inl rfl) (pe_op op_mod (pv 0) (pv 2)))
      (pss_cons (ps_while PassesOwn.never (pt_cmpR op_gt (pv 1) pe_int (nomark _))
        (pss_cons (ps_if (pt_cmpR op_eq (pe_op op_mod (pv 1) pe_int) pe_int (nomark _)) (pss_one (ps_set (i := 3) scPower.nd rfl (.inl rfl) (pe_op op_mod (pe_op op_mul (pv 3) (pv 4)) (pv 2)))) pss_nil)
        (pss_cons (ps_set (i := 4) scPower.nd rfl (.inl rfl) (pe_op op_mod (pe_op op_mul (pv 4) (pv 4)) (pv 2)))
        (pss_one (ps_set (i := 1) scPower.nd rfl (.inl rfl) (pe_op op_fdiv (pv 1) pe_int))))))
      (pss_one (ps_ret (pv 3))))), ?_⟩
    refine ⟨_, rfl, _, _, rfl, rfl, hm, _, rfl, _, rfl, _, _, rfl, rfl, hm, ?_⟩
    have b1 := Int.emod_nonneg 1 (show m ≠ 0 by omega)
    have b2 := Int.emod_lt_of_pos 1 hm
    have b3 := Int.emod_nonneg k (show m ≠ 0 by omega)
    have b4 := Int.emod_lt_of_pos k hm
    refine ⟨fun j σ H' => H' = H ∧ ∃ x b e : Int, σ = [some (.int k), some (.int e), some (.int m), some (.int x), some (.int b)] ∧ 0 ≤ e ∧ e < 2 ^ j ∧ 0 ≤ x ∧ x < m ∧ 0 ≤ b ∧ b < m ∧ pwL j x b e m = pwL 3 (1 % m) (k % m) o m,
      ⟨3, rfl, _, _, _, rfl, ho, ho8, b1, b2, b3, b4, rfl⟩, ?_⟩
    rintro j σ H' ⟨rfl, x, b, e, rfl, he, he2, hx, hxm, hb, hbm, hp⟩
    refine ⟨_, rfl, _, _, rfl, rfl, _, rfl, ?_⟩
    by_cases h0 : 0 < e
    · rw [decide_eq_true h0]
      refine iteT ?_
      cases j with
      | zero => exact absurd he2 (by show ¬ e < 1; omega)
      | succ j =>
        have he3 : e < 2 * 2 ^ j := by
          rw [Int.pow_succ, Int.mul_comm] at he2
          exact he2
        refine ⟨fun σ' H'' => H'' = H' ∧ ∃ x b e : Int, σ' = [some (.int k), some (.int e), some (.int m), some (.int x), some (.int b)] ∧ 0 ≤ e ∧ e < 2 ^ j ∧ 0 ≤ x ∧ x < m ∧ 0 ≤ b ∧ b < m ∧ pwL j x b e m = pwL 3 (1 % m) (k % m) o m,
          fun σ' H'' hN => ⟨j, Nat.lt_succ_self _, hN⟩, ?_⟩
        rw [pwL_succ h0] at hp
        have g1 := Int.emod_nonneg (b * b) (show m ≠ 0 by omega)
        have g2 := Int.emod_lt_of_pos (b * b) hm
        have g3 := Int.emod_nonneg (x * b) (show m ≠ 0 by omega)
        have g4 := Int.emod_lt_of_pos (x * b) hm
        have g5 : e / 2 < 2 ^ j := by
          rcases le_or (e / 2) (2 ^ j) with a | a
          · exact a
          · omega
        refine ⟨_, rfl, _, _, rfl, rfl, (by show (0 : Int) < 2; decide), rfl, _, rfl, ?_⟩
        by_cases h1 : e % 2 = 1
        · rw [decide_eq_true (show V.int (e % 2) = V.int 1 by rw [h1])]
          refine iteT ?_
          rw [if_pos h1] at hp
          refine ⟨_, rfl, _, rfl, _, _, rfl, rfl, .inl ⟨by omega, by omega⟩, _, rfl, _, _, rfl, rfl, hm, ?_⟩
          refine ⟨_, rfl, _, rfl, _, _, rfl, rfl, .inl ⟨by omega, by omega⟩, _, rfl, _, _, rfl, rfl, hm, ?_⟩
          refine ⟨_, rfl, _, _, rfl, rfl, ⟨by decide, by decide⟩, ?_⟩
          exact ⟨rfl, _, _, _, rfl, by omega, g5, g3, g4, g1, g2, hp⟩
        · rw [decide_eq_false (show ¬ V.int (e % 2) = V.int 1 from fun z => h1 (V.int.inj z))]
          refine iteF ?_
          rw [if_neg h1] at hp
          refine ⟨_, rfl, _, rfl, _, _, rfl, rfl, .inl ⟨by omega, by omega⟩, _, rfl, _, _, rfl, rfl, hm, ?_⟩
          refine ⟨_, rfl, _, _, rfl, rfl, ⟨by decide, by decide⟩, ?_⟩
          exact ⟨rfl, _, _, _, rfl, by omega, g5, hx, hxm, g1, g2, hp⟩
    · rw [decide_eq_false h0]
      refine iteF ?_
      rw [pwL_zero (by omega)] at hp
      refine ⟨_, rfl, ?_⟩
      rw [hp]
      exact q
/-! ### square_by -/
def spSquare : Sp := fun vs H Q _ => ∃ k p : Int, vs = [.int k, .int p] ∧ p ∈ odds ∧ Q (.int (sqv k p)) H
theorem odds_in : ∀ p ∈ odds, 2 < p ∧ p ≤ 13 ∧ (p - 1) / 2 < 8 := by decide
theorem ok_square {f g : Addr} {fd gd : FuncData} {k : Nat} (F : Fun K "square_by" "square_by" sSquare f fd) (G : Fun K "power_by" "power_by" sPower g gd) (bG : Binds K gd ["k", "often", "m"] []) (mG : mg "power_by" = some (.ref g)) :
    FnOk P w K mg base CX0 (k + 2) f fd ["k", "p"] spSquare := by
  have GP : FnOk P w K mg base CX0 (k + 1) g gd ["k", "often", "m"] spPower := ok_power G
  refine F.ok scSquare (fun vs H Q E h => ?_) (fun cdv A outer s H vs Q E hr h => ?_)
  · obtain ⟨k, p, rfl, _⟩ := h
    rfl
  · obtain ⟨n, p, rfl, hp, q⟩ := h
    obtain ⟨h2, h13, h8⟩ := odds_in p hp
    refine ⟨_, pss_cons (ps_if (pt_cmpR op_eq (pe_op op_mod (pv 0) (pv 1)) pe_int (nomark _)) (pss_one (ps_ret pe_int)) pss_nil)
      (pss_cons (ps_if (PW.pt (pw_or (pt_cmpR op_eq (pv 1) pe_int (nomark _)) (pw_or1 (pt_cmpR op_eq (pe_call GP hr (by rfl) mG G.kp bG .nil pass0 (pa_cons (pv 0) (pa_cons (pe_op op_fdiv (pe_op op_sub (pv 1) pe_int) pe_int) (pa_cons (pv 1) pa_nil)))) pe_int (nomark _)))))
        (pss_one (ps_ret pe_int)) pss_nil)
      (pss_one (ps_ret (pe_un un_neg pe_int)))), ?_⟩
    refine ⟨_, rfl, _, rfl, _, _, rfl, rfl, (by show (0 : Int) < p; omega), rfl, _, rfl, ?_⟩
    unfold sqv at q
    by_cases hz : n % p = 0
    · rw [decide_eq_true (show V.int (n % p) = V.int 0 by rw [hz])]
      refine iteT ?_
      rw [if_pos hz] at q
      exact q
    · rw [decide_eq_false (show ¬ V.int (n % p) = V.int 0 from fun z => hz (V.int.inj z))]
      refine iteF ?_
      rw [if_neg hz] at q
      refine ⟨_, rfl, rfl, _, rfl, ?_⟩
      rw [decide_eq_false (show ¬ V.int p = V.int 2 from fun z => by have := V.int.inj z; omega)]
      refine iteF ?_
      refine ⟨_, rfl, _, rfl, _, _, rfl, rfl, _, _, rfl, rfl, ⟨by decide, by decide⟩, _, rfl, ?_⟩
      refine ⟨_, _, _, rfl, by omega, by omega, by omega, h8, rfl, _, rfl, ?_⟩
      by_cases h1 : pwL 3 (1 % p) (n % p) ((p - 1) / 2) p = 1
      · rw [decide_eq_true (congrArg V.int h1)]
        refine iteT ?_
        rw [if_pos h1] at q
        exact q
      · rw [decide_eq_false (show ¬ V.int _ = V.int 1 from fun z => h1 (V.int.inj z))]
        refine iteF ?_
        rw [if_neg h1] at q
        exact ⟨_, rfl, q⟩
/-! ### left_of -/
def spLeft : Sp := fun vs H Q _ => ∃ k p : Int, vs = [.int k, .int p] ∧ 0 < p ∧ p < 100000 ∧ Q (.int (lf k p)) H
theorem ok_left {f : Addr} {fd : FuncData} {k : Nat} (F : Fun K "left_of" "left_of" sLeft f fd) : FnOk P w K mg base CX0 (k + 1) f fd ["number", "p"] spLeft := by
  refine F.ok scLeft (fun vs H Q E h => ?_) (fun cdv A outer s H vs Q E hr h => ?_)
  · obtain ⟨k, p, rfl, _⟩ := h
    rfl
  · obtain ⟨n, p, rfl, hp, hp2, q⟩ := h
    refine ⟨_, pss_cons (ps_if (pt_cmpR op_eq (pe_op op_mod (pv 0) (pv 1)) pe_int (nomark _)) (pss_one (ps_ret (pe_op op_fdiv (pv 0) (pv 1)))) pss_nil)
      (pss_one (ps_ret (pv 0))), ?_⟩
    refine ⟨_, rfl, _, rfl, _, _, rfl, rfl, hp, rfl, _, rfl, ?_⟩
    unfold lf at q
    by_cases hz : n % p = 0
    · rw [decide_eq_true (show V.int (n % p) = V.int 0 by rw [hz])]
      refine iteT ?_
      rw [if_pos hz] at q
      exact ⟨_, rfl, _, rfl, _, _, rfl, rfl, ⟨hp, by omega⟩, q⟩
    · rw [decide_eq_false (show ¬ V.int (n % p) = V.int 0 from fun z => hz (V.int.inj z))]
      refine iteF ?_
      rw [if_neg hz] at q
      exact ⟨_, rfl, q⟩
/-! ### the law's own look at a prime -/
def spLp : Sp := fun vs H Q _ => ∃ k : Int, vs = [.int k] ∧ 1 ≤ k ∧ k ≤ 100000 ∧ ∀ b : Bool, (b = true ↔ Lp k) → Q (.bl b) H
theorem ok_lp {f : Addr} {fd : FuncData} {k : Nat} (F : Fun K "_law_prime" "_law_prime" lPrime f fd) : FnOk P w K mg base CX0 (k + 1) f fd ["_law_k"] spLp := by
  refine F.ok scLPrime (fun vs H Q E h => ?_) (fun cdv A outer s H vs Q E hr h => ?_)
  · obtain ⟨n, rfl, _⟩ := h
    rfl
  · obtain ⟨n, rfl, h2, hb, q⟩ := h
    refine ⟨_, pss_cons (ps_set (i := 1) scLPrime.nd rfl (.inl rfl) pe_int)
      (pss_cons (ps_while PassesOwn.never (pt_cmpR op_le (pe_op op_mul (pv 1) (pv 1)) (pv 0) (nomark _))
        (pss_cons (ps_if (pt_cmpR op_eq (pe_op op_mod (pv 0) (pv 1)) pe_int (nomark _)) (pss_one (ps_ret pe_bl)) pss_nil)
        (pss_one (ps_set (i := 1) scLPrime.nd rfl (.inl rfl) (pe_op op_add (pv 1) pe_int)))))
      (pss_one (ps_ret (pe_cmpR op_eq (pe_op op_mod (pv 0) pe_int) pe_int (nomark _))))), ?_⟩
    refine ⟨fun m σ H' => H' = H ∧ ∃ d : Int, σ = [some (.int n), some (.int d)] ∧ 3 ≤ d ∧ d ≤ n + 3 ∧ d % 2 = 1 ∧ (m : Int) = n + 3 - d ∧ ∀ e : Int, 3 ≤ e → e < d → e % 2 = 1 → ¬ e ∣ n,
      ⟨n.toNat, rfl, 3, rfl, by omega, by omega, by decide, by omega, fun e h1 h2 => by omega⟩, ?_⟩
    rintro m σ H' ⟨rfl, d, rfl, hd3, hdn, hodd, hm, hno⟩
    refine ⟨_, rfl, _, rfl, _, _, rfl, rfl, .inl ⟨by omega, by omega⟩, _, rfl, _, _, rfl, rfl, _, rfl, ?_⟩
    by_cases hle : d * d ≤ n
    · rw [decide_eq_true hle]
      refine iteT ?_
      have hdn' : d ≤ n := sq_le (by omega) hle
      refine ⟨fun σ' H'' => H'' = H' ∧ ∃ d' : Int, σ' = [some (.int n), some (.int d')] ∧ d < d' ∧ d' ≤ n + 3 ∧ d' % 2 = 1 ∧ ∀ e : Int, 3 ≤ e → e < d' → e % 2 = 1 → ¬ e ∣ n, ?_, ?_⟩
      · rintro σ' H'' ⟨e, d', e2, g1, g2, g3, g4⟩
        exact ⟨(n + 3 - d').toNat, by omega, e, d', e2, by omega, g2, g3, by omega, g4⟩
      · refine ⟨_, rfl, _, rfl, _, _, rfl, rfl, (by show (0 : Int) < d; omega), rfl, _, rfl, ?_⟩
        by_cases hz : n % d = 0
        · rw [decide_eq_true (show V.int (n % d) = V.int 0 by rw [hz])]
          refine iteT ?_
          refine q false ⟨fun z => (nomatch z), fun z => absurd (Int.dvd_of_emod_eq_zero hz) (z.2 d (by omega) hle)⟩
        · rw [decide_eq_false (show ¬ V.int (n % d) = V.int 0 from fun z => hz (V.int.inj z))]
          refine iteF ?_
          refine ⟨_, rfl, _, _, rfl, rfl, ?_⟩
          have hnd : ¬ d ∣ n := fun z => hz (Int.emod_eq_zero_of_dvd z)
          refine ⟨rfl, d + 2, rfl, by omega, by omega, by omega, fun e h1 h2 h3 => ?_⟩
          rcases le_or e d with a | a
          · exact hno e h1 a h3
          · have : e = d := by omega
            subst this
            exact hnd
    · rw [decide_eq_false hle]
      refine iteF ?_
      refine ⟨_, rfl, _, _, rfl, rfl, (by show (0 : Int) < 2; decide), rfl, ?_⟩
      refine q _ ⟨fun z => ⟨V.int.inj (of_decide_eq_true z), fun e he hs hd => ?_⟩, fun z => decide_eq_true (congrArg V.int z.1)⟩
      have ho : n % 2 = 1 := V.int.inj (of_decide_eq_true z)
      have heo : e % 2 = 1 := by
        rcases Int.emod_two_eq e with a | a
        · have : (2 : Int) ∣ n := Int.dvd_trans (Int.dvd_of_emod_eq_zero a) hd
          omega
        · exact a
      rcases le_or e d with a | a
      · exact hno e (by omega) a heo hd
      · exact hle (Int.le_trans (Int.mul_le_mul a a (by omega) (by omega)) hs)
/-! ### the script's cell -/
def spCell (K : PySem.W.Frag) : Sp := fun vs H Q _ => ∃ (a : Addr) (ns : List Int) (k : Nat), vs = [.ref a, .int (k : Int)] ∧ SqL K H a (ns.map V.int) ∧ k ≤ 1000 ∧ ∀ x : Int, Q (.int x) H
theorem ok_cell {f : Addr} {fd : FuncData} {k : Nat} (F : Fun K "_law_cell_at" "_law_cell_at" lCell f fd) (ml : mg "len" = none) : FnOk P w K mg base CX0 (k + 1) f fd ["_law_script", "_law_k"] (spCell K) := by
  refine F.ok scLCell (fun vs H Q E h => ?_) (fun cdv A outer s H vs Q E hr h => ?_)
  · obtain ⟨a, ns, k, rfl, _⟩ := h
    rfl
  · obtain ⟨a, ns, j, rfl, hS, hj, q⟩ := h
    refine ⟨_, pss_cons (ps_if (pt_cmpR op_lt (pv 1) (pe_callB call_len_seq (by rfl) ml PySem.boot_len (pa_cons (pv 0) pa_nil)) (nomark _)) (pss_one (ps_ret (pe_ix ix_list (pv 0) (pv 1) (fun _ _ => rfl)))) pss_nil)
      (pss_one (ps_ret pe_int)), ?_⟩
    refine ⟨_, rfl, _, rfl, a, _, rfl, .inl hS, _, _, rfl, rfl, _, rfl, ?_⟩
    by_cases hlt : (j : Int) < ((ns.map V.int).length : Nat)
    · rw [decide_eq_true hlt]
      refine iteT ?_
      have hl : j < ns.length := by
        rw [List.length_map] at hlt
        omega
      have g : (ns.map V.int)[j]? = some (V.int ns[j]) := by
        rw [List.getElem?_map, List.getElem?_eq_getElem hl]
        rfl
      exact ⟨_, rfl, _, rfl, a, _, _, _, rfl, rfl, hS, atI_nat g, q _⟩
    · rw [decide_eq_false hlt]
      exact iteF (q 0)
end
end Wn

namespace Wn
open PySem PySem.Spec PyProof.Rows L2
/-! ### the wished classes in the heap -/
def Wi.pairs (c : Wi) : List (Int × Int) := [(c.v2, c.r2), (c.v3, c.s3), (c.v5, c.s5), (c.v7, c.s7), (c.v11, c.s11), (c.v13, c.s13)]
/-- tuples at ts that hold the pairs zs -/
inductive TupsAt (H : Hp) : List Addr → List (Int × Int) → Prop
  | nil : TupsAt H [] []
  | cons {t : Addr} {z : Int × Int} {ts : List Addr} {zs : List (Int × Int)} : H t = some (.tup [.int z.1, .int z.2]) → TupsAt H ts zs → TupsAt H (t :: ts) (z :: zs)
theorem TupsAt.same {H H' : Hp} (s : Same H H') : ∀ {ts : List Addr} {zs : List (Int × Int)}, TupsAt H ts zs → TupsAt H' ts zs
  | _, _, .nil => .nil
  | _, _, .cons h r => .cons (s _ _ h) (r.same s)
theorem TupsAt.keep {H H' : Hp} (s : ∀ t xs, H t = some (.tup xs) → H' t = some (.tup xs)) : ∀ {ts : List Addr} {zs : List (Int × Int)}, TupsAt H ts zs → TupsAt H' ts zs
  | _, _, .nil => .nil
  | _, _, .cons h r => .cons (s _ _ h) (r.keep s)
theorem TupsAt.snoc {H : Hp} {t : Addr} {z : Int × Int} (h : H t = some (.tup [.int z.1, .int z.2])) : ∀ {ts : List Addr} {zs : List (Int × Int)}, TupsAt H ts zs → TupsAt H (ts ++ [t]) (zs ++ [z])
  | _, _, .nil => .cons h .nil
  | _, _, .cons h' r => .cons h' (r.snoc h)
theorem TupsAt.length {H : Hp} : ∀ {ts : List Addr} {zs : List (Int × Int)}, TupsAt H ts zs → ts.length = zs.length
  | _, _, .nil => rfl
  | _, _, .cons _ r => congrArg (· + 1) r.length
theorem TupsAt.get {H : Hp} : ∀ {ts : List Addr} {zs : List (Int × Int)} {i : Nat} {z : Int × Int}, TupsAt H ts zs → zs[i]? = some z → ∃ t, ts[i]? = some t ∧ H t = some (.tup [.int z.1, .int z.2])
  | _, _, i, z, .nil, e => by simp at e
  | _, _, 0, z, .cons h _, e => by
    simp at e
    subst e
    exact ⟨_, rfl, h⟩
  | _, _, i + 1, z, .cons _ r, e => by
    obtain ⟨t, h1, h2⟩ := r.get (i := i) (z := z) (by simpa using e)
    exact ⟨t, by simpa using h1, h2⟩
/-- at a stands the list of the classes c -/
def ClAt (H : Hp) (a : Addr) (c : Wi) : Prop := ∃ ts : List Addr, H a = some (.lst (.int c.sg :: ts.map V.ref)) ∧ TupsAt H ts c.pairs
theorem ClAt.same {H H' : Hp} {a : Addr} {c : Wi} (s : Same H H') : ClAt H a c → ClAt H' a c := fun ⟨ts, h, t⟩ => ⟨ts, s _ _ h, t.same s⟩
/-- the item behind the sign -/
theorem ClAt.item {H : Hp} {a : Addr} {c : Wi} (h : ClAt H a c) {i : Nat} {z : Int × Int} (e : c.pairs[i]? = some z) : ∃ (xs : List V) (t : Addr), H a = some (.lst xs) ∧ xs[i + 1]? = some (.ref t) ∧ H t = some (.tup [.int z.1, .int z.2]) := by
  obtain ⟨ts, h1, h2⟩ := h
  obtain ⟨t, h3, h4⟩ := h2.get e
  refine ⟨_, t, h1, ?_, h4⟩
  rw [List.getElem?_cons_succ, List.getElem?_map, h3]
  rfl
/-- what a pair may be -/
def PairOk : Nat → Int × Int → Prop
  | 0, z => (z.1 = 0 ∨ z.1 = 1) ∧ (z.2 = 1 ∨ z.2 = 3 ∨ z.2 = 5 ∨ z.2 = 7)
  | _ + 1, z => (z.1 = 0 ∨ z.1 = 1) ∧ (z.2 = 1 ∨ z.2 = -1)
theorem wi_of {sg : Int} {zs : List (Int × Int)} (hs : sg = 1 ∨ sg = -1) (hl : zs.length = 6) (hz : ∀ (i : Nat) (z : Int × Int), zs[i]? = some z → PairOk i z) : ∃ c : Wi, c.Ok ∧ c.sg = sg ∧ c.pairs = zs := by
  match zs, hl with
  | [a, b, c, d, e, f], _ =>
    exact ⟨⟨sg, a.1, a.2, b.1, b.2, c.1, c.2, d.1, d.2, e.1, e.2, f.1, f.2⟩,
      ⟨hs, (hz 0 a rfl).1, (hz 0 a rfl).2, (hz 1 b rfl).1, (hz 1 b rfl).2, (hz 2 c rfl).1, (hz 2 c rfl).2, (hz 3 d rfl).1, (hz 3 d rfl).2, (hz 4 e rfl).1, (hz 4 e rfl).2, (hz 5 f rfl).1, (hz 5 f rfl).2⟩, rfl, rfl⟩
theorem pair_ok {i : Nat} {z : Int × Int} (h1 : z.1 = 0 ∨ z.1 = 1) (h2 : z.2 = 1 ∨ z.2 = -1) : PairOk (i + 1) z := ⟨h1, h2⟩

section
variable {P : Program} {w : World} {K : PySem.W.Frag} {mg : Str → Option Value} {base : Heap}
/-! ### the number mixed of a cell -/
def spBig : Sp := fun vs H Q _ => ∃ (x : Int) (k : Nat), vs = [.int x, .int (k : Int)] ∧ k ≤ 1000 ∧ ∀ y : Int, Q (.int y) H
theorem ok_big {f : Addr} {fd : FuncData} {k : Nat} (F : Fun K "_law_big" "_law_big" lBig f fd) (ma : mg "abs" = none) (mr : mg "range" = none) : FnOk P w K mg base CX0 (k + 1) f fd ["_law_cell", "_law_k"] spBig := by
  refine F.ok scLBig (fun vs H Q E h => ?_) (fun cdv A outer s H vs Q E hr h => ?_)
  · obtain ⟨a, k, rfl, _⟩ := h
    rfl
  · obtain ⟨x, k, rfl, hk, q⟩ := h
    refine ⟨_, pss_cons (ps_if (pt_cmpR op_ge (pe_callB call_abs (by rfl) ma (by decide +kernel) (pa_cons (pv 0) pa_nil)) (pe_op op_pow pe_int pe_int) (nomark _)) (pss_one (ps_ret (pv 0))) pss_nil)
      (pss_cons (ps_set (i := 2) scLBig.nd rfl (.inl rfl) pe_int)
      (pss_cons (ps_for PassesOwn.never rfl (pi_range1 rfl mr (pa_cons pe_int pa_nil)) (pg_name (i := 3) scLBig.nd rfl (.inl rfl))
        (pss_cons (ps_set (i := 4) scLBig.nd rfl (.inl rfl) (pe_op op_add (pe_op op_add (pe_op op_add (pe_op op_mod (pe_callB call_abs (by rfl) ma (by decide +kernel) (pa_cons (pv 0) pa_nil)) pe_int) (pe_op op_mul pe_int (pv 1))) (pe_op op_mul pe_int (pv 3))) pe_int))
        (pss_cons (ps_set (i := 4) scLBig.nd rfl (.inl rfl) (pe_op op_mod (pe_op op_mul (pv 4) (pe_op op_add (pe_op op_add pe_int (pe_op op_mul (pv 3) (pv 3))) (pv 1))) pe_int))
        (pss_one (ps_set (i := 2) scLBig.nd rfl (.inl rfl) (pe_op op_add (pe_op op_mul (pv 2) pe_int) (pe_op op_mod (pe_op op_mul (pv 4) pe_int) pe_int)))))))
      (pss_one (ps_ret (pv 2))))), ?_⟩
    refine ⟨_, rfl, _, rfl, _, _, rfl, rfl, ⟨by decide, by decide, by decide⟩, _, _, rfl, rfl, _, rfl, ?_⟩
    refine ite2 (fun _ => ?_) (fun _ => ?_)
    · exact ⟨_, rfl, q x⟩
    · refine ⟨9, rfl, by decide, by decide, for_range (n := 9) (fun _ σ H' => H' = H ∧ ∃ (n : Int) (j p : Option V), σ = [some (.int x), some (.int (k : Int)), some (.int n), j, p]) ⟨rfl, 0, none, none, rfl⟩ ?_ ?_⟩
      · rintro i σ H' hi ⟨rfl, n, j, p, rfl⟩
        refine ⟨_, rfl, _, rfl, _, _, rfl, rfl, (by show (0 : Int) < 2147483647; decide), ?_⟩
        generalize hy : (if x < 0 then -x else x) % 2147483647 = y
        have y0 : 0 ≤ y := by rw [← hy]; exact Int.emod_nonneg _ (by decide)
        have y1 : y < 2147483647 := by rw [← hy]; exact Int.emod_lt_of_pos _ (by decide)
        refine ⟨_, rfl, _, _, rfl, rfl, .inl ⟨by decide, by decide⟩, _, _, rfl, rfl, _, rfl, _, _, rfl, rfl, .inl ⟨by decide, by decide⟩, _, _, rfl, rfl, _, _, rfl, rfl, ?_⟩
        refine ⟨_, rfl, _, rfl, _, rfl, _, _, rfl, rfl, .inl ⟨by omega, by omega⟩, _, _, rfl, rfl, _, rfl, _, _, rfl, rfl, _, _, rfl, rfl, .inl ⟨by omega, by omega⟩, _, _, rfl, rfl, (by show (0 : Int) < 2147483647; decide), ?_⟩
        generalize hu : (y + 97 * (k : Int) + 131 * (0 + (i : Int)) + 13) * (16807 + (0 + (i : Int)) * (0 + (i : Int)) + (k : Int)) % 2147483647 = u
        have u0 : 0 ≤ u := by rw [← hu]; exact Int.emod_nonneg _ (by decide)
        have u1 : u < 2147483647 := by rw [← hu]; exact Int.emod_lt_of_pos _ (by decide)
        refine ⟨_, rfl, _, _, rfl, rfl, .inr ⟨by decide, by decide⟩, _, rfl, _, _, rfl, rfl, .inl ⟨by omega, by omega⟩, _, _, rfl, rfl, (by show (0 : Int) < 2147483647; decide), _, _, rfl, rfl, ?_⟩
        exact ⟨rfl, _, _, _, rfl⟩
      · rintro σ H' ⟨rfl, n, j, p, rfl⟩
        exact ⟨_, rfl, q n⟩
/-! ### the classes of a cell -/
def spClasses : Sp := fun vs H Q _ => ∃ x : Int, vs = [.int x] ∧ ∀ (H' : Hp) (a : Addr) (c : Wi), Same H H' → c.Ok → ClAt H' a c → Q (.ref a) H'
theorem ok_classes {f : Addr} {fd : FuncData} {k : Nat} (F : Fun K "_law_classes" "_law_classes" lClasses f fd) : FnOk P w K mg base CX0 (k + 1) f fd ["_law_cell"] spClasses := by
  refine F.ok scLClasses (fun vs H Q E h => ?_) (fun cdv A outer s H vs Q E hr h => ?_)
  · obtain ⟨a, rfl, _⟩ := h
    rfl
  · obtain ⟨x, rfl, q⟩ := h
    refine ⟨_, pss_cons (ps_set (i := 1) scLClasses.nd rfl (.inl rfl) (pe_lst (pa_cons (pe_op op_sub pe_int (pe_op op_mul pe_int (pe_op op_mod (pv 0) pe_int)))
        (pa_cons (pe_tup (pa_cons (pe_op op_mod (pe_op op_fdiv (pv 0) pe_int) pe_int) (pa_cons (pe_op op_add pe_int (pe_op op_mul pe_int (pe_op op_mod (pe_op op_fdiv (pv 0) pe_int) pe_int))) pa_nil))) pa_nil))))
      (pss_cons (ps_set (i := 2) scLClasses.nd rfl (.inl rfl) (pe_op op_fdiv (pv 0) pe_int))
      (pss_cons (ps_for PassesOwn.never rfl (pi_list (pe_lst (pa_cons pe_int (pa_cons pe_int (pa_cons pe_int (pa_cons pe_int (pa_cons pe_int pa_nil))))))) (pg_name (i := 3) scLClasses.nd rfl (.inl rfl))
        (pss_cons (ps_expr (pe_bm PySem.F.plainAttrs_list PySem.F.slot_list_append PySem.F.type_list_append mt_append (pv 1)
            (pa_cons (pe_tup (pa_cons (pe_op op_mod (pv 2) pe_int) (pa_cons (pe_op op_sub pe_int (pe_op op_mul pe_int (pe_op op_mod (pe_op op_fdiv (pv 2) pe_int) pe_int))) pa_nil))) pa_nil)))
        (pss_one (ps_set (i := 2) scLClasses.nd rfl (.inl rfl) (pe_op op_fdiv (pv 2) pe_int)))))
      (pss_one (ps_ret (pv 1))))), ?_⟩
    refine ⟨_, rfl, _, _, rfl, rfl, (by show (0 : Int) < 2; decide), _, _, rfl, rfl, .inl ⟨by decide, by decide⟩, _, _, rfl, rfl, ?_⟩
    refine ⟨_, rfl, _, _, rfl, rfl, ⟨by decide, by decide⟩, _, _, rfl, rfl, (by show (0 : Int) < 2; decide), ?_⟩
    refine ⟨_, rfl, _, _, rfl, rfl, ⟨by decide, by decide⟩, _, _, rfl, rfl, (by show (0 : Int) < 4; decide), _, _, rfl, rfl, .inl ⟨by decide, by decide⟩, _, _, rfl, rfl, ?_⟩
    refine ⟨(by show 2 ≤ sizeLine; decide), fun t ht => ?_⟩
    refine ⟨(by show 2 ≤ sizeLine; decide), fun a ha => ?_⟩
    refine ⟨_, rfl, _, _, rfl, rfl, ⟨by decide, by decide⟩, ?_⟩
    refine ⟨(by show 5 ≤ sizeLine; decide), fun l hl => ?_⟩
    have s1 : Same H (upd H t (.tup [.int (x / 2 % 2), .int (1 + 2 * (x / 4 % 4))])) := same_upd ht
    have nta : t ≠ a := fun e => by
      rw [← e, upd_same] at ha
      cases ha
    have na : H a = none := s1.free ha
    obtain ⟨sg, hsg⟩ : ∃ sg : Int, 1 - 2 * (x % 2) = sg := ⟨_, rfl⟩
    have hs : sg = 1 ∨ sg = -1 := by omega
    have nla : a ≠ l := fun e => by
      rw [← e, upd_same] at hl
      cases hl
    refine ⟨l, rfl, ⟨_, SqL.of upd_same⟩, for_list (K := K) (a := l) (xs := [.int 3, .int 5, .int 7, .int 11, .int 13])
      (fun i σ H' => Same H H' ∧ H' l = some (.lst [.int 3, .int 5, .int 7, .int 11, .int 13]) ∧ ∃ (n : Int) (p : Option V) (ts : List Addr) (zs : List (Int × Int)), σ = [some (.int x), some (.ref a), some (.int n), p] ∧
        H' a = some (.lst (.int sg :: ts.map V.ref)) ∧ TupsAt H' ts zs ∧ zs.length = i + 1 ∧ ∀ (j : Nat) (z : Int × Int), zs[j]? = some z → PairOk j z) ?_ (fun i σ H' _ h => SqL.of h.2.1) ?_ ?_⟩
    · have ntl : t ≠ l := fun e => by
        rw [← e, upd_ne nta, upd_same] at hl
        cases hl
      refine ⟨(s1.trans (same_upd ha)).trans (same_upd hl), upd_same, _, none, [t], [(x / 2 % 2, 1 + 2 * (x / 4 % 4))], rfl, ?_, ?_, rfl, fun j z hz => ?_⟩
      · rw [upd_ne nla, upd_same, ← hsg]
        rfl
      · refine .cons ?_ .nil
        rw [upd_ne ntl, upd_ne nta, upd_same]
      · match j with
        | 0 =>
          have e : (x / 2 % 2, 1 + 2 * (x / 4 % 4)) = z := Option.some.inj hz
          subst e
          exact ⟨by show x / 2 % 2 = 0 ∨ x / 2 % 2 = 1; omega, by show 1 + 2 * (x / 4 % 4) = 1 ∨ 1 + 2 * (x / 4 % 4) = 3 ∨ 1 + 2 * (x / 4 % 4) = 5 ∨ 1 + 2 * (x / 4 % 4) = 7; omega⟩
        | j + 1 => simp at hz
    · rintro i y σ H' hi ⟨sm, hl', n, p, ts, zs, rfl, ha', hT, hlen, hz⟩
      have hi5 : i < 5 := (List.getElem?_eq_some_iff.mp hi).1
      refine ⟨_, rfl, .inl ⟨rfl, _, SqL.of ha'⟩, ?_⟩
      refine ⟨_, rfl, _, _, rfl, rfl, (by show (0 : Int) < 2; decide), ?_⟩
      refine ⟨_, rfl, _, _, rfl, rfl, ⟨by decide, by decide⟩, _, _, rfl, rfl, (by show (0 : Int) < 2; decide), _, _, rfl, rfl, .inl ⟨by decide, by decide⟩, _, _, rfl, rfl, ?_⟩
      refine ⟨(by show 2 ≤ sizeLine; decide), fun u hu => ?_⟩
      have nua : u ≠ a := fun e => by
        rw [e, ha'] at hu
        cases hu
      have s2 : Same H' (upd H' u (.tup [.int (n % 2), .int (1 - 2 * (n / 2 % 2))])) := same_upd hu
      have nal : l ≠ a := nla.symm
      refine ⟨a, _, _, rfl, rfl, s2 _ _ ha', ?_, ?_⟩
      · rw [List.length_cons, List.length_map, hT.length, hlen]
        exact small1000 (by omega)
      · refine ⟨_, rfl, _, _, rfl, rfl, ⟨by decide, by decide⟩, ?_⟩
        refine ⟨fun b o e => ?_, ?_, _, _, ts ++ [u], zs ++ [(n % 2, 1 - 2 * (n / 2 % 2))], rfl, ?_, ?_, ?_, fun j z hj => ?_⟩
        · have nb : b ≠ a := fun z => by
            rw [z, na] at e
            cases e
          rw [upd_ne nb]
          exact s2 _ _ (sm _ _ e)
        · rw [upd_ne nal]
          exact s2 _ _ hl'
        · rw [upd_same, List.map_append]
          rfl
        · have up : ∀ (t : Addr) (xs : List V), H' t = some (.tup xs) → upd (upd H' u (.tup [.int (n % 2), .int (1 - 2 * (n / 2 % 2))])) a (.lst ((.int sg :: ts.map V.ref) ++ [.ref u])) t = some (.tup xs) := fun t xs e => by
            have nt : t ≠ a := fun z => by
              rw [z, ha'] at e
              cases e
            rw [upd_ne nt]
            exact s2 _ _ e
          refine TupsAt.snoc ?_ (hT.keep up)
          rw [upd_ne nua, upd_same]
        · rw [List.length_append, hlen]
          rfl
        · rcases Nat.lt_or_ge j zs.length with g | g
          · rw [List.getElem?_append_left g] at hj
            exact hz j z hj
          · rw [List.getElem?_append_right g] at hj
            have ej : j = i + 1 := by
              have := (List.getElem?_eq_some_iff.mp hj).1
              rw [List.length_singleton] at this
              omega
            subst ej
            rw [hlen, Nat.sub_self] at hj
            have e : (n % 2, 1 - 2 * (n / 2 % 2)) = z := Option.some.inj hj
            subst e
            exact pair_ok (by show n % 2 = 0 ∨ n % 2 = 1; omega) (by show 1 - 2 * (n / 2 % 2) = 1 ∨ 1 - 2 * (n / 2 % 2) = -1; omega)
    · rintro σ H' ⟨sm, hl', n, p, ts, zs, rfl, ha', hT, hlen, hz⟩
      obtain ⟨c, hc, e1, e2⟩ := wi_of hs hlen hz
      subst e1 e2
      exact ⟨_, rfl, q H' a c sm hc ⟨ts, ha', hT⟩⟩
end
end Wn

namespace Wn
open PySem PySem.Spec PyProof.Rows L2
/-! ### zip of a tuple and a list, walked -/
def Itm (K : PySem.W.Frag) (a b : Addr) : It where
  go := fun i H => ∃ (xs ys : List V) (x y : V), (SqT K H a xs ∧ SqL K H b ys) ∧ xs[i]? = some x ∧ ys[i]? = some y
  yld := fun i H v H' => ∃ (T : Addr) (x y : V), v = .ref T ∧ H T = none ∧ H' = upd H T (.tup [x, y]) ∧ (∀ xs : List V, SqT K H a xs → xs[i]? = some x) ∧ ∀ ys : List V, SqL K H b ys → ys[i]? = some y
  stop := fun i H => ∃ xs ys : List V, (SqT K H a xs ∧ SqL K H b ys) ∧ xs.length = ys.length ∧ i = xs.length
/-- the five cells of the zip object -/
structure Five (z TI TO i1 i2 a b : Addr) : Prop where
  all : ∀ (fa : a ≠ i1) (fb : b ≠ i2), ZipSep2 z TI TO i1 i2 [i1, a] [i2, b]
  fa : a ≠ i1
  fb : b ≠ i2
theorem five_at {N a b : Addr} (ha : a < N) (hb : b < N) : Five (N + 4) (N + 2) (N + 3) N (N + 1) a b where
  all := fun _ _ => zip_sep2 (fp1 := [a]) (fp2 := [b]) (fun c hc => by
    have e : c = a := by simpa using hc
    rw [e]
    exact ha) (fun c hc => by
    have e : c = b := by simpa using hc
    rw [e]
    exact hb)
  fa := Nat.ne_of_lt ha
  fb := Nat.ne_of_lt (Nat.lt_succ_of_lt hb)
theorem turn_mix {P : Program} {w : World} {K : PySem.W.Frag} {elts : List Expr} {kk : Nat} {tpos : Pos} {a b z TI TO i1 i2 : Addr} (D : Five z TI TO i1 i2 a b) :
    Turn P w K (.Tuple elts kk tpos) (Itm K a b) [z, TI, TO, i1, i2] z
      (fun i h => IsZip h z TI TO .none ∧ IsTupOf2 h TI (.ref i1) (.ref i2) ∧ (∃ x y, IsTupOf2 h TO x y) ∧ h.IsTupleIter i1 a i ∧ h.IsListIter i2 b i) where
  mem := List.mem_cons_self ..
  obj := by
    rintro i h ⟨hz, hTI, ⟨x, y, hTO⟩, ⟨o1, e1, _, d1⟩, ⟨o2, e2, _, d2⟩⟩ c hc
    simp only [List.mem_cons, List.not_mem_nil, or_false] at hc
    rcases hc with rfl | rfl | rfl | rfl | rfl
    · exact ⟨_, hz, fun v q => nomatch q⟩
    · exact ⟨_, hTI, fun v q => nomatch q⟩
    · exact ⟨_, hTO, fun v q => nomatch q⟩
    · exact ⟨o1, e1, fun v q => by rw [d1] at q; cases q⟩
    · exact ⟨o2, e2, fun v q => by rw [d2] at q; cases q⟩
  keep := by
    rintro i h h' ⟨hz, hTI, ⟨x, y, hTO⟩, h1, h2⟩ k
    refine ⟨k z (by simp) _ hz, k TI (by simp) _ hTI, ⟨x, y, ?_⟩, ?_, ?_⟩
    · exact k TO (by simp) _ hTO
    · exact h1.at (k i1 (by simp))
    · exact h2.at (k i2 (by simp))
  item := by
    rintro X rfl rfl rfl hc i pins s σ H E I hf st hg
    obtain ⟨hz, hTI, hTO, h1, h2⟩ := st
    obtain ⟨xs, ys, x, y, ⟨qx, qy⟩, hx, hy⟩ := hg
    obtain ⟨us, rv, p, _⟩ := I.tuple qx
    obtain ⟨ws, rw', p2, _⟩ := I.list qy
    have l1 := rv.length
    have l2 := rw'.length
    have lx : i < xs.length := (List.getElem?_eq_some_iff.mp hx).1
    have ly : i < ys.length := (List.getElem?_eq_some_iff.mp hy).1
    have hd := I.ok.hd hc
    have G := GoesN.zip2 (elts := elts) (x1 := kk) (pos := tpos) (D.all D.fa D.fb) (Draws.tuple (prog := X.prog) (w := X.w) (A := X.A.in1) hd i1 a D.fa us.toArray) (Draws.list (prog := X.prog) (w := X.w) (A := X.A.in1) hd i2 b D.fb ws.toArray)
    have hlt : i < min us.toArray.size ws.toArray.size := by
      simp only [List.size_toArray]
      omega
    refine wpAny_mono (G.goes i s (fun v s2 => ∃ x H', Inv X pins σ H' s2 ∧ RelV x v ∧ (Itm X.K a b).yld i H x H' ∧ (IsZip s2.heap z TI TO .none ∧ IsTupOf2 s2.heap TI (.ref i1) (.ref i2) ∧ (∃ x y, IsTupOf2 s2.heap TO x y) ∧ s2.heap.IsTupleIter i1 a (i + 1) ∧ s2.heap.IsListIter i2 b (i + 1)) ∧ ∀ c ∈ [z, TI, TO, i1, i2], H' c = none) E hlt
      ⟨hz, hTI, hTO, ⟨h1, show s.heap.IsTuple a us.toArray from p⟩, ⟨h2, p2.isList⟩⟩ fun v h' tk hY st' hk htk => ?_) (fun r s1 q => q) fun _ _ q => q
    obtain ⟨T, u, u2, rfl, hT, hu, hu2, hTup⟩ := hY
    obtain ⟨z', TI', TO', ⟨j1, _⟩, ⟨j2, _⟩⟩ := st'
    obtain ⟨v1, e1, r1⟩ := rv.get hx
    obtain ⟨v2, e2, r2⟩ := rw'.get hy
    have eu : v1 = u := Option.some.inj (e1.symm.trans (by simpa using hu))
    have eu2 : v2 = u2 := Option.some.inj (e2.symm.trans (by simpa using hu2))
    subst eu eu2
    have new : ObjOk X.prog X.w (upd H T (.tup [x, y])) h' T (.tup [x, y]) := ⟨(by show 2 ≤ sizeLine; decide), [v1, v2], .cons r1 (.cons r2 .nil), hTup⟩
    have I1 : Inv X pins σ (upd H T (.tup [x, y])) { s with heap := h', toks := tk } :=
      I.turnedNew (ch := [z, TI, TO, i1, i2]) (fun c o hb q => hk c o (fun m => hb (by simp at m; rcases m with e | e | e | e <;> simp [e])) q) hf hT new
    refine ⟨.ref T, _, I1, rfl, ⟨T, x, y, rfl, I.hok.fresh hT, rfl, fun l hl => by rw [I.tuple_inj hl qx]; exact hx, fun l hl => by rw [I.list_inj hl qy]; exact hy⟩, ⟨z', TI', TO', j1, j2⟩, fun c hcm => ?_⟩
    have hlt : c < s.heap.objs.size := by
      simp only [List.mem_cons, List.not_mem_nil, or_false] at hcm
      rcases hcm with rfl | rfl | rfl | rfl | rfl
      · exact Heap.lt_size hz
      · exact Heap.lt_size hTI
      · obtain ⟨_, _, e⟩ := hTO
        exact Heap.lt_size e
      · obtain ⟨_, e, _⟩ := h1
        exact Heap.lt_size e
      · obtain ⟨_, e, _⟩ := h2
        exact Heap.lt_size e
    rw [upd_ne (Nat.ne_of_lt (Nat.lt_of_lt_of_le hlt hT))]
    exact (hf c hcm).1
  done := by
    rintro X rfl rfl rfl hc i pins s σ H E I hf st hg
    obtain ⟨hz, hTI, hTO, h1, h2⟩ := st
    obtain ⟨xs, ys, ⟨qx, qy⟩, hl, hi⟩ := hg
    obtain ⟨us, rv, p, _⟩ := I.tuple qx
    obtain ⟨ws, rw', p2, _⟩ := I.list qy
    have l1 := rv.length
    have l2 := rw'.length
    have hd := I.ok.hd hc
    have G := GoesN.zip2 (elts := elts) (x1 := kk) (pos := tpos) (D.all D.fa D.fb) (Draws.tuple (prog := X.prog) (w := X.w) (A := X.A.in1) hd i1 a D.fa us.toArray) (Draws.list (prog := X.prog) (w := X.w) (A := X.A.in1) hd i2 b D.fb ws.toArray)
    have hn : i = min us.toArray.size ws.toArray.size := by
      simp only [List.size_toArray]
      omega
    subst hn
    exact G.stops s (fun s1 => Inv X pins σ H s1) E ⟨hz, hTI, hTO, ⟨h1, show s.heap.IsTuple a us.toArray from p⟩, ⟨h2, p2.isList⟩⟩ fun h' tk hk htk =>
      I.turnedL (ch := [z, TI, TO, i1, i2]) (fun c o hb q => hk c o (fun m => hb (by simp at m; rcases m with e | e | e | e <;> simp [e])) q) hf
  self := fun _ _ _ _ _ five fin => wpAny_pyIter_zip five.1 fin
def iMix (K : PySem.W.Frag) (ta : TA) : TI := fun σ H R => ta σ H fun vs H1 => ∃ (a b : Addr) (xs ys : List V), vs = [.ref a, .ref b] ∧ (SqT K H1 a xs ∧ SqL K H1 b ys) ∧ R (Itm K a b) H1
theorem pi_mix {X : Cx} {et el : Expr} {ta : TA} {p pos tpos : Pos} {elts : List Expr} {kk : Nat} (hg : Gl X "zip") (hm : X.mg "zip" = none) (ha : PA X [et, el] ta)
    (na : starEach [et, el] X.env = (false, eval et X.env) :: starEach [el] X.env := by rfl) (nb : (backTo pos (starEach [el] X.env)).any (·.1) = false := by rfl) :
    PI X (.Tuple elts kk tpos) (.Call (.Name "zip" p) [et, el] [] pos) (iMix X.K ta) := by
  constructor
  intro pins s σ H R I h
  refine Call_ (ld_blt I hg hm PyProof.Rows.boot_zip (PyProof.Rows.callWith_type1 (thn (ha.run pos pins s σ H _ I h) ?_) na nb))
  rintro us s1 ⟨vs, H1, I1, r1, a, b, xs, ys, rfl, ⟨qx, qy⟩, q⟩
  obtain ⟨u1, u2, rfl, ra, rb⟩ := vals2 r1
  obtain rfl : u1 = .ref a := ra
  obtain rfl : u2 = .ref b := rb
  obtain ⟨us, rv, p1, _⟩ := I1.tuple qx
  obtain ⟨ws, rw', p2, _⟩ := I1.list qy
  refine zip_begins2 (begins_tuple a us.toArray) (begins_list b ws.toArray) (show s1.heap.IsTuple a us.toArray from p1) p2.isList fun h' hz hTI hTO g1 g2 hsz hk => wpAny_pyIter_zip hz ?_
  generalize hN : s1.heap.objs.size = N at *
  refine ⟨N + 4, [N + 4, N + 2, N + 3, N, N + 1], _, _, H1, rfl, (I1.kept hk : Inv X pins σ H1 { s1 with heap := h', toks := s1.toks }), turn_mix (five_at (hN ▸ p1.lt) (hN ▸ p2.lt)),
    ⟨hz, hTI, ⟨_, _, hTO⟩, ⟨_, g1, rfl, rfl⟩, ⟨_, g2, rfl, rfl⟩⟩, fun c hcm => ?_, q⟩
  have old : N ≤ c := by
    simp only [List.mem_cons, List.not_mem_nil, or_false] at hcm
    rcases hcm with rfl | rfl | rfl | rfl | rfl
    · exact Nat.le_add_right _ _
    · exact Nat.le_add_right _ _
    · exact Nat.le_add_right _ _
    · exact Nat.le_refl _
    · exact Nat.le_add_right _ _
  rw [← hN] at old
  exact I1.fpOk old (I1.hok.fresh old)
/-- a loop over such a zip, both of one length -/
theorem for_mix {K : PySem.W.Frag} {a b : Addr} {xs ys : List V} {g : TG} {tb : TS} {D : Ends} {σ : L2.St} {H : Hp} (hl : xs.length = ys.length) (Pv : Nat → L2.St → Hp → Prop) (h0 : Pv 0 σ H) (hq : ∀ i σ H, Pv i σ H → SqT K H a xs ∧ SqL K H b ys)
    (hs : ∀ (i : Nat) (x y : V) (T : Addr) (σ : L2.St) (H : Hp), xs[i]? = some x → ys[i]? = some y → Pv i σ H → H T = none → g (.ref T) σ (upd H T (.tup [x, y])) fun σ2 H2 => tb { D with nx := Pv (i + 1), ct := Pv (i + 1), bk := D.nx } σ2 H2)
    (hd : ∀ σ H, Pv xs.length σ H → D.nx σ H) :
    ∃ W : Nat → Nat → L2.St → Hp → Prop,
      (∃ m, W 0 m σ H) ∧ ∀ i m σ H, W i m σ H →
      ((Itm K a b).stop i H ∧ D.nx σ H) ∨ ((Itm K a b).go i H ∧ ∃ N : L2.St → Hp → Prop, (∀ σ' H', N σ' H' → ∃ m', m' < m ∧ W (i + 1) m' σ' H') ∧ ∀ v H', (Itm K a b).yld i H v H' → g v σ H' fun σ2 H2 => tb { D with nx := N, ct := N, bk := D.nx } σ2 H2) := by
  refine ⟨fun i m σ H => i + m = xs.length ∧ Pv i σ H, ⟨xs.length, by omega, h0⟩, ?_⟩
  rintro i m σ H ⟨em, p⟩
  have qq := hq i σ H p
  cases m with
  | zero =>
    have e : i = xs.length := em
    subst e
    exact .inl ⟨⟨xs, ys, qq, hl, rfl⟩, hd σ H p⟩
  | succ m =>
    have l1 : i < xs.length := by omega
    have l2 : i < ys.length := by omega
    refine .inr ⟨⟨xs, ys, _, _, qq, List.getElem?_eq_getElem l1, List.getElem?_eq_getElem l2⟩, Pv (i + 1), fun σ' H' p' => ⟨m, Nat.lt_succ_self _, by omega, p'⟩, ?_⟩
    rintro v H' ⟨T, x, y, rfl, hT, rfl, f1, f2⟩
    exact hs i x y T σ H (f1 xs qq.1) (f2 ys qq.2) p hT

/-! ### list(range(a, b, c)) -/
def rgL (i c : Int) (n : Nat) : List V := (List.range n).map fun m : Nat => V.int (i + (m : Int) * c)
def tLstRg3 (ta : TA) : TE := fun σ H Q => ta σ H fun vs H1 => ∃ (i j c : Int) (n : Nat), vs = [.int i, .int j, .int c] ∧ RgC i j c n ∧ n ≤ 16777216 ∧ ∀ p, H1 p = none → Q (.ref p) (upd H1 p (.lst (rgL i c n)))
theorem pe_listRg3 {X : Cx} {a b c : Expr} {ta : TA} {p pos p' pos' : Pos} (hc : X.calm = true) (hgl : Gl X "list") (hml : X.mg "list" = none) (hg : Gl X "range") (hm : X.mg "range" = none) (ha : PA X [a, b, c] ta)
    (hs : starEach [a, b, c] X.env = (false, eval a X.env) :: starEach [b, c] X.env := by rfl) (hpl : (backTo pos (starEach [b, c] X.env)).any (·.1) = false := by rfl)
    (na : starEach [.Call (.Name "range" p) [a, b, c] [] pos] X.env = (false, eval (.Call (.Name "range" p) [a, b, c] [] pos) X.env) :: starEach [] X.env := by rfl) :
    PE X (.Call (.Name "list" p') [.Call (.Name "range" p) [a, b, c] [] pos] [] pos') (tLstRg3 ta) := by
  constructor
  intro pins s σ H Q I h
  refine Call_ (ld_blt I hgl hml boot_list (PyProof.Rows.callWith_type1 (args_cons ?_ na) na))
  refine Call_ (ld_blt I hg hm boot_range (PyProof.Rows.callWith_type1 (thn (ha.run pos pins s σ H _ I h) ?_) hs hpl))
  rintro us s1 ⟨vs, H1, I1, r1, i, j, k, n, rfl, ⟨c0, c1, c2, c3⟩, hn, q⟩
  obtain ⟨u1, u2, u3, rfl, ⟨t1, rfl⟩, ⟨t2, rfl⟩, ⟨t3, rfl⟩⟩ : ∃ u1 u2 u3, us = [u1, u2, u3] ∧ RelV (.int i) u1 ∧ RelV (.int j) u2 ∧ RelV (.int k) u3 := by
    cases r1 with
    | cons x1 y1 =>
      cases y1 with
      | cons x2 y2 =>
        cases y2 with
        | cons x3 y3 =>
          cases y3
          exact ⟨_, _, _, rfl, x1, x2, x3⟩
  refine call_range_3 (t := t1) c0 ?_ (.inl (PyProof.noPylong_small c1))
  refine args_nil ?_
  have I2 : Inv X pins σ H1 { s1 with heap := s1.heap.push { cls := .type "range", data := .fields #[.int i t1, .int j t2, .int k t3] } } := I1.kept (t' := s1.toks) fun b o e => Heap.get?_push_of_some _ e
  refine call_list_range (n := n) (I2.ok.hd hc) (IsRange.new ..) c2 c3 hn fun h' tk acc c' hk e' hi => ?_
  have hlen : acc.toList.length = n := by rw [Array.length_toList]; exact hi.1
  have hv : Vals (rgL i k n) acc.toList := by
    unfold rgL
    rw [← hlen]
    refine vals_of_get acc.toList (fun m : Nat => V.int (i + (m : Int) * k)) fun m u hm => ?_
    exact hi.2 m u (by rw [← hm, Array.getElem?_toList])
  refine ⟨.ref _, upd H1 _ (.lst (rgL i k n)), I2.laid (t' := tk) hk (Nat.le_refl _) ⟨?_, acc.toList, c', hv, ?_⟩, rfl, q _ (I2.hok.fresh (Nat.le_refl _))⟩
  · unfold rgL
    rw [List.length_map, List.length_range, sizeLine_eq]
    exact hn
  · rw [Array.toArray_toList]
    exact e'
/-- every second number from 17 on below j -/
theorem rgC_two {j : Int} (h1 : 17 < j) (h2 : j ≤ 100000) : RgC 17 j 2 ((j - 16) / 2).toNat := by
  have e : Builtin.Range.rangeSize 17 j 2 = (((j - 16) / 2).toNat : Int) := by
    rw [Builtin.Range.rangeSize]
    rw [if_pos (by decide), if_pos h1]
    omega
  refine ⟨by decide, by decide, ?_, e⟩
  unfold Builtin.Range.small
  rw [e]
  simp only [Builtin.Range.rangeFitsLong, Bool.and_eq_true, Bool.or_eq_true, decide_eq_true_eq, beq_iff_eq, show (2 : Int) > 0 by decide, if_true]
  omega
theorem rgC_none : RgC 17 17 2 0 := ⟨by decide, by decide, by decide, by decide⟩
end Wn

namespace Wn
open PySem PySem.Spec PyProof.Rows L2
/-! ### the known part, by turns -/
def smalls : List Int := [2, 3, 5, 7, 11, 13]
def Wi.kn (c : Wi) : Nat → Int
  | 0 => c.sg
  | i + 1 => match smalls[i]?, c.pairs[i]? with
    | some p, some z => tk (c.kn i) p z.1
    | _, _ => c.kn i
theorem Wi.kn_six (c : Wi) : c.kn 6 = c.known := rfl
theorem Wi.kn_succ {c : Wi} {i : Nat} {p : Int} {z : Int × Int} (hp : smalls[i]? = some p) (hz : c.pairs[i]? = some z) : c.kn (i + 1) = tk (c.kn i) p z.1 := by
  show (match smalls[i]?, c.pairs[i]? with | some p, some z => tk (c.kn i) p z.1 | _, _ => c.kn i) = _
  rw [hp, hz]
theorem int_get {l : List Int} {i : Nat} {x : V} (h : (l.map V.int)[i]? = some x) : ∃ n, x = .int n ∧ l[i]? = some n := by
  rw [List.getElem?_map] at h
  cases e : l[i]? with
  | none =>
    rw [e] at h
    cases h
  | some n =>
    rw [e] at h
    exact ⟨n, (Option.some.inj h).symm, rfl⟩
theorem ref_get {l : List Addr} {i : Nat} {x : V} (h : (l.map V.ref)[i]? = some x) : ∃ n, x = .ref n ∧ l[i]? = some n := by
  rw [List.getElem?_map] at h
  cases e : l[i]? with
  | none =>
    rw [e] at h
    cases h
  | some n =>
    rw [e] at h
    exact ⟨n, (Option.some.inj h).symm, rfl⟩
theorem smalls_ok : ∀ p ∈ smalls, 2 ≤ p ∧ p ≤ 13 := by decide
theorem odds_ok : ∀ p ∈ odds, 3 ≤ p ∧ p ≤ 13 := by decide
/-- the i-th tuple's pair -/
theorem TupsAt.at {H : Hp} {ts : List Addr} {zs : List (Int × Int)} {i : Nat} {t : Addr} (h : TupsAt H ts zs) (e : ts[i]? = some t) : ∃ z, zs[i]? = some z ∧ H t = some (.tup [.int z.1, .int z.2]) := by
  have l := h.length
  have hi : i < ts.length := (List.getElem?_eq_some_iff.mp e).1
  have hz : zs[i]? = some zs[i] := List.getElem?_eq_getElem (by omega)
  obtain ⟨t', e', h'⟩ := h.get hz
  rw [e] at e'
  cases e'
  exact ⟨_, hz, h'⟩
theorem cut_1 (x : V) (xs : List V) : cutV (x :: xs) (some 1) none = xs := by
  unfold cutV
  rw [show HT.sIx (x :: xs).length 0 (some 1) = min 1 (x :: xs).length from HT.sIx_nat (x :: xs).length 0 1, HT.sIx_none, List.length_cons, show min 1 (xs.length + 1) = 1 by omega]
  show xs.take (xs.length + 1 - 1) = xs
  rw [Nat.add_sub_cancel, List.take_length]
theorem cut_2 (x y : V) (xs : List V) : cutV (x :: y :: xs) (some 2) none = xs := by
  unfold cutV
  rw [show HT.sIx (x :: y :: xs).length 0 (some 2) = min 2 (x :: y :: xs).length from HT.sIx_nat (x :: y :: xs).length 0 2, HT.sIx_none, List.length_cons, List.length_cons, show min 2 (xs.length + 1 + 1) = 2 by omega]
  show xs.take (xs.length + 1 + 1 - 2) = xs
  rw [show xs.length + 1 + 1 - 2 = xs.length by omega, List.take_length]
/-- the module's two tuples of primes -/
structure Tups (K : PySem.W.Frag) (mg : Str → Option Value) (fS fO : Addr) : Prop where
  mS : mg "SMALL" = some (.ref fS)
  mO : mg "ODD" = some (.ref fO)
  tS : ∀ H : Hp, SqT K H fS (smalls.map V.int)
  tO : ∀ H : Hp, SqT K H fO (odds.map V.int)

section
variable {P : Program} {w : World} {K : PySem.W.Frag} {mg : Str → Option Value} {base : Heap}
/-! ### known_part -/
def spKnown : Sp := fun vs H Q _ => ∃ (a : Addr) (c : Wi), vs = [.ref a] ∧ c.Ok ∧ ClAt H a c ∧ ∀ H', Same H H' → Q (.int c.known) H'
theorem ok_known {f fS fO : Addr} {fd : FuncData} {k : Nat} (F : Fun K "known_part" "known_part" sKnown f fd) (T : Tups K mg fS fO) (mz : mg "zip" = none) : FnOk P w K mg base CX0 (k + 1) f fd ["classes"] spKnown := by
  refine F.ok scKnown (fun vs H Q E h => ?_) (fun cdv A outer s H vs Q E hr h => ?_)
  · obtain ⟨a, c, rfl, _⟩ := h
    rfl
  · obtain ⟨a, c, rfl, hc, ⟨ts, ha, hT⟩, q⟩ := h
    have l6 : ts.length = 6 := hT.length
    refine ⟨_, pss_cons (ps_set (i := 1) scKnown.nd rfl (.inl rfl) (pe_ix ix_list (pv 0) pe_int (fun _ _ => rfl)))
      (pss_cons (ps_for PassesOwn.never rfl (pi_mix (by rfl) mz (pa_cons (pe_glob (v := .ref fS) rfl T.mS rfl) (pa_cons (pe_slice sl_list (pv 0) (po_some pe_int) po_none) pa_nil)))
          (pg_tup rfl (pgs_cons (pg_name (i := 2) scKnown.nd rfl (.inl rfl)) (pgs_cons (pg_name (i := 3) scKnown.nd rfl (.inl rfl)) pgs_nil)))
        (pss_one (ps_if (pt_cmpR op_eq (pe_ix ix_tup (pv 3) pe_int (fun _ _ => rfl)) pe_int (nomark _)) (pss_one (ps_set (i := 1) scKnown.nd rfl (.inl rfl) (pe_op op_mul (pv 1) (pv 2)))) pss_nil)))
      (pss_one (ps_ret (pv 1)))), ?_⟩
    refine ⟨_, rfl, a, _, _, _, rfl, rfl, SqL.of ha, at_of (j := 0) rfl rfl, ?_⟩
    refine ⟨_, rfl, 1, rfl, a, _, rfl, SqL.of ha, fun l hl => ?_⟩
    rw [cut_1]
    have s1 : Same H (upd H l (.lst (ts.map V.ref))) := same_upd hl
    refine ⟨fS, l, _, _, rfl, ⟨T.tS _, SqL.of upd_same⟩, for_mix (by rw [List.length_map, List.length_map, l6]; rfl)
      (fun i σ H' => Same H H' ∧ H' l = some (.lst (ts.map V.ref)) ∧ ∃ p v : Option V, σ = [some (.ref a), some (.int (c.kn i)), p, v]) ⟨s1, upd_same, _, _, rfl⟩ (fun i σ H' h => ⟨T.tS _, SqL.of h.2.1⟩) ?_ ?_⟩
    · rintro i x y u σ H' hx hy ⟨sm, hl', p0, v0, rfl⟩ hu
      obtain ⟨p, rfl, hp⟩ := int_get hx
      obtain ⟨t, rfl, ht⟩ := ref_get hy
      obtain ⟨z, hz, hzt⟩ := hT.at ht
      have pb := smalls_ok p (List.mem_of_getElem? hp)
      have s2 : Same H' (upd H' u (.tup [.int p, .ref t])) := same_upd hu
      have htt := s2 _ _ (sm _ _ hzt)
      have s3 := sm.trans s2
      have hl2 := s2 _ _ hl'
      refine ⟨u, _, rfl, SqT.of upd_same, rfl, _, _, rfl, _, _, rfl, rfl, ?_⟩
      refine ⟨_, rfl, t, _, _, _, rfl, rfl, SqT.of htt, at_of (j := 0) rfl rfl, rfl, _, rfl, ?_⟩
      by_cases h1 : z.1 = 1
      · rw [decide_eq_true (congrArg V.int h1)]
        refine iteT ?_
        refine ⟨_, rfl, _, rfl, _, _, rfl, rfl, .inr ⟨by omega, by omega⟩, ?_⟩
        refine ⟨s3, hl2, some (.int p), some (.ref t), ?_⟩
        rw [Wi.kn_succ hp hz, tk, if_pos h1]
        rfl
      · rw [decide_eq_false (fun e => h1 (V.int.inj e))]
        refine iteF ?_
        refine ⟨s3, hl2, some (.int p), some (.ref t), ?_⟩
        rw [Wi.kn_succ hp hz, tk, if_neg h1]
        rfl
    · rintro σ H' ⟨sm, hl', p, v, rfl⟩
      exact ⟨_, rfl, q H' sm⟩
/-! ### wanted -/
def spWanted : Sp := fun vs H Q _ => ∃ (a : Addr) (c : Wi), vs = [.int c.known, .ref a] ∧ c.Ok ∧ ClAt H a c ∧ ∀ (H' : Hp) (t r : Addr), Same H H' → H' r = some (.lst (c.row.map V.int)) → H' t = some (.tup [.int c.first, .ref r]) → Q (.ref t) H'
theorem row_get {c : Wi} {i : Nat} {p : Int} {z : Int × Int} (hp : odds[i]? = some p) (hz : c.pairs[i + 1]? = some z) : c.row[i]? = some (rwV c p z.2) := by
  match i with
  | 0 => cases hp; cases hz; rfl
  | 1 => cases hp; cases hz; rfl
  | 2 => cases hp; cases hz; rfl
  | 3 => cases hp; cases hz; rfl
  | 4 => cases hp; cases hz; rfl
  | i + 5 => simp [odds] at hp
theorem pair_s {c : Wi} (h : c.Ok) {i : Nat} {z : Int × Int} (hz : c.pairs[i + 1]? = some z) : z.2 = 1 ∨ z.2 = -1 := by
  match i with
  | 0 => cases hz; exact h.s3
  | 1 => cases hz; exact h.s5
  | 2 => cases hz; exact h.s7
  | 3 => cases hz; exact h.s11
  | 4 => cases hz; exact h.s13
  | i + 5 => simp [Wi.pairs] at hz
theorem ok_wanted {f g h fS fO : Addr} {fd gd hd : FuncData} {k : Nat} (F : Fun K "wanted" "wanted" sWanted f fd) (T : Tups K mg fS fO) (mz : mg "zip" = none)
    (GL : FnOk P w K mg base CX0 k g gd ["number", "p"] spLeft) (gk : PySem.W.keepIn K (.ref g) = true) (gb : Binds K gd ["number", "p"] []) (gm : mg "left_of" = some (.ref g))
    (GS : FnOk P w K mg base CX0 k h hd ["k", "p"] spSquare) (hk : PySem.W.keepIn K (.ref h) = true) (hb : Binds K hd ["k", "p"] []) (hm : mg "square_by" = some (.ref h)) : FnOk P w K mg base CX0 (k + 1) f fd ["known", "classes"] spWanted := by
  refine F.ok scWanted (fun vs H Q E h => ?_) (fun cdv A outer s H vs Q E hr h => ?_)
  · obtain ⟨a, c, rfl, _⟩ := h
    rfl
  · obtain ⟨a, c, rfl, hc, ⟨ts, ha, hT⟩, q⟩ := h
    have l6 : ts.length = 6 := hT.length
    match ts, l6 with
    | t0 :: ts, l5 =>
    have l5 : ts.length = 5 := by simpa using l5
    obtain ⟨ht0, hT'⟩ : H t0 = some (.tup [.int c.v2, .int c.r2]) ∧ TupsAt H ts (c.pairs.drop 1) := by
      cases hT with
      | cons h r => exact ⟨h, r⟩
    refine ⟨_, pss_cons (ps_set (i := 2) scWanted.nd rfl (.inl rfl) (pe_op op_mod (pe_op op_mul (pe_ix ix_tup (pe_ix ix_list (pv 1) pe_int (fun _ _ => rfl)) pe_int (fun _ _ => rfl))
          (pe_call GL hr (by rfl) gm gk gb .nil pass0 (pa_cons (pv 0) (pa_cons pe_int pa_nil)))) pe_int))
      (pss_cons (ps_set (i := 3) scWanted.nd rfl (.inl rfl) (pe_lst pa_nil))
      (pss_cons (ps_for PassesOwn.never rfl (pi_mix (by rfl) mz (pa_cons (pe_glob (v := .ref fO) rfl T.mO rfl) (pa_cons (pe_slice sl_list (pv 1) (po_some pe_int) po_none) pa_nil)))
          (pg_tup rfl (pgs_cons (pg_name (i := 4) scWanted.nd rfl (.inl rfl)) (pgs_cons (pg_name (i := 5) scWanted.nd rfl (.inl rfl)) pgs_nil)))
        (pss_one (ps_expr (pe_bm PySem.F.plainAttrs_list PySem.F.slot_list_append PySem.F.type_list_append mt_append (pv 3)
          (pa_cons (pe_op op_mul (pe_ix ix_tup (pv 5) pe_int (fun _ _ => rfl)) (pe_call GS hr (by rfl) hm hk hb .nil pass0 (pa_cons (pe_call GL hr (by rfl) gm gk gb .nil pass0 (pa_cons (pv 0) (pa_cons (pv 4) pa_nil))) (pa_cons (pv 4) pa_nil)))) pa_nil)))))
      (pss_one (ps_ret (pe_tup (pa_cons (pv 2) (pa_cons (pv 3) pa_nil))))))), ?_⟩
    refine ⟨_, rfl, a, _, _, _, rfl, rfl, SqL.of ha, at_of (j := 1) rfl rfl, t0, _, _, _, rfl, rfl, SqT.of ht0, at_of (j := 1) rfl rfl, ?_⟩
    have hr2 := hc.r2
    refine ⟨_, rfl, _, _, rfl, by decide, by decide, _, _, rfl, rfl, .inl ⟨by omega, by omega⟩, _, _, rfl, rfl, (by show (0 : Int) < 8; decide), ?_⟩
    refine ⟨Nat.zero_le _, fun o ho => ?_⟩
    have s1 : Same H (upd H o (.lst [])) := same_upd ho
    refine ⟨_, rfl, 2, rfl, a, _, rfl, SqL.of (s1 _ _ ha), fun l hl => ?_⟩
    rw [List.map_cons, cut_2]
    have s2 : Same (upd H o (.lst [])) (upd (upd H o (.lst [])) l (.lst (ts.map V.ref))) := same_upd hl
    have nlo : l ≠ o := fun e => by
      rw [e, upd_same] at hl
      cases hl
    refine ⟨fO, l, _, _, rfl, ⟨T.tO _, SqL.of upd_same⟩, for_mix (by rw [List.length_map, List.length_map, l5]; rfl)
      (fun i σ H' => Same H H' ∧ H' l = some (.lst (ts.map V.ref)) ∧ H' o = some (.lst ((c.row.take i).map V.int)) ∧ ∃ p v : Option V, σ = [some (.int c.known), some (.ref a), some (.int c.first), some (.ref o), p, v])
      ⟨s1.trans s2, upd_same, by rw [upd_ne nlo.symm, upd_same]; rfl, _, _, rfl⟩ (fun i σ H' h => ⟨T.tO _, SqL.of h.2.1⟩) ?_ ?_⟩
    · rintro i x y u σ H' hx hy ⟨sm, hl', ho', p0, v0, rfl⟩ hu
      obtain ⟨p, rfl, hp⟩ := int_get hx
      obtain ⟨t, rfl, ht⟩ := ref_get hy
      obtain ⟨z, hz, hzt⟩ := hT'.at ht
      have hz1 : c.pairs[i + 1]? = some z := by
        rw [List.getElem?_drop, Nat.add_comm] at hz
        exact hz
      have hpm : p ∈ odds := List.mem_of_getElem? hp
      have pb := odds_ok p hpm
      have hs := pair_s hc hz1
      have hi : i < 5 := (List.getElem?_eq_some_iff.mp hp).1
      have s3 : Same H' (upd H' u (.tup [.int p, .ref t])) := same_upd hu
      have htt := s3 _ _ (sm _ _ hzt)
      have hl2 := s3 _ _ hl'
      have ho2 := s3 _ _ ho'
      refine ⟨u, _, rfl, SqT.of upd_same, rfl, _, _, rfl, _, _, rfl, rfl, ?_⟩
      refine ⟨_, rfl, .inl ⟨rfl, _, SqL.of ho2⟩, ?_⟩
      refine ⟨_, rfl, t, _, _, _, rfl, rfl, SqT.of htt, at_of (j := 1) rfl rfl, ?_⟩
      refine ⟨_, rfl, _, rfl, _, _, rfl, by omega, by omega, ?_⟩
      refine ⟨_, rfl, _, _, rfl, hpm, _, _, rfl, rfl, .inl ⟨by omega, by omega⟩, ?_⟩
      refine ⟨o, _, _, rfl, rfl, ho2, ?_, ?_⟩
      · rw [List.length_map, List.length_take]
        exact small1000 (by omega)
      · refine ⟨fun b x e => ?_, ?_, ?_, some (.int p), some (.ref t), rfl⟩
        · rw [upd_ne (ne_of_none e ho)]
          exact s3 _ _ (sm _ _ e)
        · rw [upd_ne nlo]
          exact hl2
        · rw [upd_same, List.take_add_one, row_get hp hz1, List.map_append]
          rfl
    · rintro σ H' ⟨sm, hl', ho', p, v, rfl⟩
      refine ⟨_, rfl, _, rfl, (by show 2 ≤ sizeLine; decide), fun t ht => ?_⟩
      have s4 : Same H' (upd H' t (.tup [.int c.first, .ref o])) := same_upd ht
      exact q _ t o (sm.trans s4) (s4 _ _ ho') upd_same
/-! ### fits -/
def spFits (K : PySem.W.Frag) : Sp := fun vs H Q _ => ∃ (q : Int) (t r : Addr) (f : Int) (row : List Int), vs = [.int q, .ref t] ∧ H t = some (.tup [.int f, .ref r]) ∧ H r = some (.lst (row.map V.int)) ∧ row.length = 5 ∧ ∀ H', Same H H' → Q (.bl (fitsB q f row)) H'
theorem zip_at {l : List Int} {i : Nat} {p x : Int} (hp : odds[i]? = some p) (hx : l[i]? = some x) : (odds.zip l)[i]? = some (p, x) := List.getElem?_zip_eq_some.mpr ⟨hp, hx⟩
theorem ok_fits {f h fS fO : Addr} {fd hd : FuncData} {k : Nat} (F : Fun K "fits" "fits" sFits f fd) (T : Tups K mg fS fO) (mz : mg "zip" = none)
    (GS : FnOk P w K mg base CX0 k h hd ["k", "p"] spSquare) (hk : PySem.W.keepIn K (.ref h) = true) (hb : Binds K hd ["k", "p"] []) (hm : mg "square_by" = some (.ref h)) : FnOk P w K mg base CX0 (k + 1) f fd ["q", "want"] (spFits K) := by
  refine F.ok scFits (fun vs H Q E h => ?_) (fun cdv A outer s H vs Q E hr h => ?_)
  · obtain ⟨n, t, r, f, row, rfl, _⟩ := h
    rfl
  · obtain ⟨n, t, r, f0, row, rfl, ht, hrw, l5, q⟩ := h
    refine ⟨_, pss_cons (ps_if (pt_cmpR op_ne (pe_op op_mod (pv 0) pe_int) (pe_ix ix_tup (pv 1) pe_int (fun _ _ => rfl)) (nomark _)) (pss_one (ps_ret pe_bl)) pss_nil)
      (pss_cons (ps_for PassesOwn.never rfl (pi_mix (by rfl) mz (pa_cons (pe_glob (v := .ref fO) rfl T.mO rfl) (pa_cons (pe_ix ix_tup (pv 1) pe_int (fun _ _ => rfl)) pa_nil)))
          (pg_tup rfl (pgs_cons (pg_name (i := 2) scFits.nd rfl (.inl rfl)) (pgs_cons (pg_name (i := 3) scFits.nd rfl (.inl rfl)) pgs_nil)))
        (pss_one (ps_if (pt_cmpR op_ne (pe_call GS hr (by rfl) hm hk hb .nil pass0 (pa_cons (pv 0) (pa_cons (pv 2) pa_nil))) (pv 3) (nomark _)) (pss_one (ps_ret pe_bl)) pss_nil)))
      (pss_one (ps_ret pe_bl))), ?_⟩
    refine ⟨_, rfl, _, _, rfl, rfl, (by show (0 : Int) < 8; decide), _, rfl, t, _, _, _, rfl, rfl, SqT.of ht, at_of (j := 0) rfl rfl, rfl, _, rfl, ?_⟩
    by_cases h8 : n % 8 = f0
    · rw [decide_eq_true (congrArg V.int h8)]
      refine iteF ?_
      refine ⟨_, rfl, t, _, _, _, rfl, rfl, SqT.of ht, at_of (j := 1) rfl rfl, ?_⟩
      refine ⟨fO, r, _, _, rfl, ⟨T.tO _, SqL.of hrw⟩, for_mix (by rw [List.length_map, List.length_map, l5]; rfl)
        (fun i σ H' => Same H H' ∧ (∀ (j : Nat) (z : Int × Int), j < i → (odds.zip row)[j]? = some z → sqv n z.1 = z.2) ∧ ∃ p v : Option V, σ = [some (.int n), some (.ref t), p, v])
        ⟨Same.refl _, fun j z hj => absurd hj (Nat.not_lt_zero _), _, _, rfl⟩ (fun i σ H' h => ⟨T.tO _, SqL.of (h.1 _ _ hrw)⟩) ?_ ?_⟩
      · rintro i x y u σ H' hx hy ⟨sm, hno, p0, v0, rfl⟩ hu
        obtain ⟨p, rfl, hp⟩ := int_get hx
        obtain ⟨z, rfl, hz⟩ := int_get hy
        have hpm : p ∈ odds := List.mem_of_getElem? hp
        have s3 : Same H' (upd H' u (.tup [.int p, .int z])) := same_upd hu
        refine ⟨u, _, rfl, SqT.of upd_same, rfl, _, _, rfl, _, _, rfl, rfl, ?_⟩
        refine ⟨_, rfl, _, rfl, _, _, rfl, hpm, _, rfl, rfl, _, rfl, ?_⟩
        by_cases hs : sqv n p = z
        · rw [decide_eq_true (congrArg V.int hs)]
          refine iteF ?_
          refine ⟨sm.trans s3, fun j y hj hjy => ?_, some (.int p), some (.int z), rfl⟩
          rcases Nat.lt_or_ge j i with a | a
          · exact hno j y a hjy
          · have e : j = i := by omega
            subst e
            rw [zip_at hp hz] at hjy
            cases hjy
            exact hs
        · rw [decide_eq_false (fun e => hs (V.int.inj e))]
          refine iteT ?_
          have e : fitsB n f0 row = false := by
            unfold fitsB
            rw [Bool.and_eq_false_iff]
            refine .inr ?_
            rw [List.all_eq_false]
            exact ⟨(p, z), List.mem_of_getElem? (zip_at hp hz), by simpa using hs⟩
          have := q _ (sm.trans s3)
          rw [e] at this
          exact this
      · rintro σ H' ⟨sm, hall, p, v, rfl⟩
        have e : fitsB n f0 row = true := by
          unfold fitsB
          rw [Bool.and_eq_true]
          refine ⟨beq_iff_eq.mpr h8, List.all_eq_true.mpr fun z hz => ?_⟩
          obtain ⟨j, hj⟩ := List.mem_iff_getElem?.mp hz
          have hj5 : j < odds.length := by
            have := (List.getElem?_eq_some_iff.mp hj).1
            rw [List.length_zip] at this
            omega
          exact beq_iff_eq.mpr (hall j z (by rw [List.length_map]; exact hj5) hj)
        have := q _ sm
        rw [e] at this
        exact this
    · rw [decide_eq_false (fun e => h8 (V.int.inj e))]
      refine iteT ?_
      have e : fitsB n f0 row = false := by
        unfold fitsB
        rw [Bool.and_eq_false_iff]
        exact .inl (beq_eq_false_iff_ne.mpr h8)
      have := q _ (Same.refl _)
      rw [e] at this
      exact this
end
end Wn

namespace Wn
open PySem PySem.Spec PyProof.Rows L2
section
variable {P : Program} {w : World} {K : PySem.W.Frag} {mg : Str → Option Value} {base : Heap}
/-- a def of the program, as it is called: its promise at a level, its place -/
structure Cal (P : Program) (w : World) (K : PySem.W.Frag) (mg : Str → Option Value) (base : Heap) (k : Nat) (x : Str) (ps : List Str) (sp : Sp) (f : Addr) (fd : FuncData) : Prop where
  ok : FnOk P w K mg base CX0 k f fd ps sp
  kp : (PySem.W.keepIn K (.ref f)) = true
  bd : Binds K fd ps []
  mg : mg x = some (.ref f)
theorem Cal.mono {k j : Nat} {x : Str} {ps : List Str} {sp : Sp} {f : Addr} {fd : FuncData} (c : Cal P w K mg base k x ps sp f fd) (h : k ≤ j) : Cal P w K mg base j x ps sp f fd := ⟨c.ok.mono h, c.kp, c.bd, c.mg⟩
/-! ### number_with_also, with the former prime and the sign 0 -/
def spAlso : Sp := fun vs H Q _ => ∃ (a : Addr) (c : Wi), vs = [.ref a, .int 0, .int 0] ∧ c.Ok ∧ ClAt H a c ∧ ∀ (H' : Hp) (q : Int), Same H H' → c.Best q → Q (.int (c.known * q)) H'
theorem ok_also {f f1 f2 f3 f4 f5 : Addr} {fd fd1 fd2 fd3 fd4 fd5 : FuncData} {k : Nat} (F : Fun K "number_with_also" "number_with_also" sAlso f fd)
    (C1 : Cal P w K mg base k "known_part" ["classes"] spKnown f1 fd1) (C2 : Cal P w K mg base k "wanted" ["known", "classes"] spWanted f2 fd2) (C3 : Cal P w K mg base k "fits" ["q", "want"] (spFits K) f3 fd3)
    (C4 : Cal P w K mg base k "is_prime" ["k"] spPrime f4 fd4) (C5 : Cal P w K mg base k "square_by" ["k", "p"] spSquare f5 fd5) : FnOk P w K mg base CX0 (k + 1) f fd ["classes", "former", "sign"] spAlso := by
  refine F.ok scAlso (fun vs H Q E h => ?_) (fun cdv A outer s H vs Q E hr h => ?_)
  · obtain ⟨a, c, rfl, _⟩ := h
    rfl
  · obtain ⟨a, c, rfl, hc, hA, q⟩ := h
    refine ⟨_, pss_cons (ps_set (i := 3) scAlso.nd rfl (.inl rfl) (pe_call C1.ok hr (by rfl) C1.mg C1.kp C1.bd .nil pass0 (pa_cons (pv 0) pa_nil)))
      (pss_cons (ps_set (i := 4) scAlso.nd rfl (.inl rfl) (pe_call C2.ok hr (by rfl) C2.mg C2.kp C2.bd .nil pass0 (pa_cons (pv 3) (pa_cons (pv 0) pa_nil))))
      (pss_cons (ps_set (i := 5) scAlso.nd rfl (.inl rfl) pe_int)
      (pss_one (ps_while PassesOwn.never (pt_val pe_bl)
        (pss_cons (ps_if (PW.pt (pw_and (pt_cmpR op_ne (pv 5) (pv 1) (nomark _)) (pw_and (pt_val (pe_call C3.ok hr (by rfl) C3.mg C3.kp C3.bd .nil pass0 (pa_cons (pv 5) (pa_cons (pv 4) pa_nil))))
            (pw_and1 (PW.pt (pw_or (pt_cmpR op_eq (pv 5) pe_int (nomark _)) (pw_or1 (pt_val (pe_call C4.ok hr (by rfl) C4.mg C4.kp C4.bd .nil pass0 (pa_cons (pv 5) pa_nil))))))))))
          (pss_one (ps_if (PW.pt (pw_or (pt_cmpR op_eq (pv 2) pe_int (nomark _)) (pw_or1 (pt_cmpR op_eq (pe_call C5.ok hr (by rfl) C5.mg C5.kp C5.bd .nil pass0 (pa_cons (pe_op op_mul (pv 3) (pv 5)) (pa_cons (pv 1) pa_nil))) (pv 2) (nomark _)))))
            (pss_one (ps_ret (pe_op op_mul (pv 3) (pv 5)))) pss_nil)) pss_nil)
        (pss_cons (ps_if (pt_cmpR op_eq (pv 5) pe_int (nomark _)) (pss_one (ps_set (i := 5) scAlso.nd rfl (.inl rfl) pe_int)) pss_nil)
        (pss_one (ps_aug (i := 5) scAlso.nd rfl (.inl rfl) pe_int ip_add)))))))), ?_⟩
    refine ⟨_, rfl, a, c, rfl, hc, hA, fun H1 s1 => ?_⟩
    refine ⟨_, rfl, _, rfl, a, c, rfl, hc, hA.same s1, fun H2 t r s2 hr2 ht2 => ?_⟩
    obtain ⟨⟨k1, k2, k3⟩, _⟩ := hc.kn
    refine ⟨fun m σ H' => Same H2 H' ∧ ∃ n : Int, σ = [some (.ref a), some (.int 0), some (.int 0), some (.int c.known), some (.ref t), some (.int n)] ∧ c.None n ∧ (m : Int) = 8200 - n,
      ⟨8199, Same.refl _, 1, rfl, none_one c, rfl⟩, ?_⟩
    rintro m σ H' ⟨sm, n, rfl, hn, hm⟩
    refine ⟨_, rfl, iteT ?_⟩
    have n1 : 1 ≤ n := by
      have := hn.1
      unfold Cand at this
      omega
    have n2 := hn.2.1
    refine ⟨fun σ' H'' => Same H2 H'' ∧ ∃ n' : Int, σ' = [some (.ref a), some (.int 0), some (.int 0), some (.int c.known), some (.ref t), some (.int n')] ∧ c.None n' ∧ n < n', ?_, ?_⟩
    · rintro σ' H'' ⟨sm', n', e, hn', hlt⟩
      exact ⟨(8200 - n').toNat, by have := hn'.2.1; omega, sm', n', e, hn', by have := hn'.2.1; omega⟩
    refine ⟨_, rfl, _, rfl, rfl, _, rfl, ?_⟩
    rw [decide_eq_false (show ¬ V.int n = V.int 0 from fun e => by have := V.int.inj e; omega)]
    refine iteT ?_
    refine ⟨_, rfl, _, rfl, n, t, r, c.first, c.row, rfl, sm _ _ ht2, sm _ _ hr2, rfl, fun H3 s3 => ⟨_, rfl, ?_⟩⟩
    have s23 : Same H2 H3 := sm.trans s3
    by_cases hf : fitsB n c.first c.row = true
    · rw [hf]
      refine iteT ?_
      refine ⟨_, rfl, rfl, _, rfl, ?_⟩
      by_cases h1 : n = 1
      · subst h1
        refine iteT (iteT ?_)
        refine ⟨_, rfl, rfl, _, rfl, ?_⟩
        refine iteT (iteT ?_)
        exact ⟨_, rfl, _, rfl, _, _, rfl, rfl, .inl ⟨by omega, by omega⟩, q H3 1 ((s1.trans s2).trans s23) (none_best hn ⟨.inl rfl, hf⟩)⟩
      · rw [decide_eq_false (show ¬ V.int n = V.int 1 from fun e => h1 (V.int.inj e))]
        refine iteF ?_
        have hcand : 17 ≤ n ∧ n % 2 = 1 := by
          have := hn.1
          unfold Cand at this
          omega
        refine ⟨_, rfl, n, rfl, by omega, by omega, fun b hb => ⟨b, rfl, ?_⟩⟩
        cases b with
        | true =>
          refine iteT ?_
          refine ⟨_, rfl, rfl, _, rfl, ?_⟩
          refine iteT (iteT ?_)
          exact ⟨_, rfl, _, rfl, _, _, rfl, rfl, .inl ⟨by omega, by omega⟩, q H3 n ((s1.trans s2).trans s23) (none_best hn ⟨.inr ⟨hcand.1, hcand.2, hb.mp rfl⟩, hf⟩)⟩
        | false =>
          refine iteF ?_
          refine ⟨_, rfl, rfl, _, rfl, ?_⟩
          rw [decide_eq_false (show ¬ V.int n = V.int 1 from fun e => h1 (V.int.inj e))]
          refine iteF ?_
          refine ⟨_, rfl, _, _, rfl, rfl, s23, n + 2, rfl, ?_, by omega⟩
          have hg : ¬ c.Good n := fun g => by
            rcases g.1 with e | ⟨_, _, e⟩
            · exact h1 e
            · exact nomatch hb.mpr e
          have := none_nxt hc hn hg
          unfold nxt at this
          rw [if_neg h1] at this
          exact this
    · have hff : fitsB n c.first c.row = false := by simpa using hf
      rw [hff]
      refine iteF (iteF ?_)
      have hg : ¬ c.Good n := fun g => hf g.2
      have hnx := none_nxt hc hn hg
      unfold nxt at hnx
      refine ⟨_, rfl, rfl, _, rfl, ?_⟩
      by_cases h1 : n = 1
      · subst h1
        refine iteT ?_
        exact ⟨_, rfl, _, _, rfl, rfl, s23, 17, rfl, hnx, by decide⟩
      · rw [decide_eq_false (show ¬ V.int n = V.int 1 from fun e => h1 (V.int.inj e))]
        refine iteF ?_
        rw [if_neg h1] at hnx
        exact ⟨_, rfl, _, _, rfl, rfl, s23, n + 2, rfl, hnx, by omega⟩
/-! ### number_with -/
def spNumber : Sp := fun vs H Q _ => ∃ (a : Addr) (c : Wi), vs = [.ref a] ∧ c.Ok ∧ ClAt H a c ∧ ∀ (H' : Hp) (q : Int), Same H H' → c.Best q → Q (.int (c.known * q)) H'
theorem ok_number {f f1 : Addr} {fd fd1 : FuncData} {k : Nat} (F : Fun K "number_with" "number_with" sNumber f fd) (C1 : Cal P w K mg base k "number_with_also" ["classes", "former", "sign"] spAlso f1 fd1) :
    FnOk P w K mg base CX0 (k + 1) f fd ["classes"] spNumber := by
  refine F.ok scNumber (fun vs H Q E h => ?_) (fun cdv A outer s H vs Q E hr h => ?_)
  · obtain ⟨a, c, rfl, _⟩ := h
    rfl
  · obtain ⟨a, c, rfl, hc, hA, q⟩ := h
    refine ⟨_, pss_one (ps_ret (pe_call C1.ok hr (by rfl) C1.mg C1.kp C1.bd .nil pass0 (pa_cons (pv 0) (pa_cons pe_int (pa_cons pe_int pa_nil))))), ?_⟩
    exact ⟨_, rfl, a, c, rfl, hc, hA, q⟩
end
end Wn

namespace Wn
open PySem PySem.Spec PyProof.Rows L2
theorem inV_int (n : Int) : ∀ l : List Int, inV (.int n) (l.map V.int) = l.contains n
  | [] => rfl
  | x :: l => by
    have ih := inV_int n l
    unfold inV at ih ⊢
    rw [List.map_cons, List.any_cons, ih, List.contains_cons]
    show ((x == n) || l.contains n) = ((n == x) || l.contains n)
    congr 1
    rw [Bool.eq_iff_iff]
    rw [beq_iff_eq, beq_iff_eq]
    exact eq_comm
theorem Wi.lfits_iff {c : Wi} {n : Int} : c.lfits n = true ↔ (lf n 2 % 8 = c.r2 ∧ ∀ (i : Nat) (p : Int) (z : Int × Int), odds[i]? = some p → c.pairs[i + 1]? = some z → lfit n p z.2 = true) := by
  unfold Wi.lfits
  simp only [beq_iff_eq, Bool.and_eq_true]
  constructor
  · rintro ⟨h2, h3, h5, h7, h11, h13⟩
    refine ⟨h2, fun i p z hp hz => ?_⟩
    match i with
    | 0 => cases hp; cases hz; exact h3
    | 1 => cases hp; cases hz; exact h5
    | 2 => cases hp; cases hz; exact h7
    | 3 => cases hp; cases hz; exact h11
    | 4 => cases hp; cases hz; exact h13
    | i + 5 => simp [odds] at hp
  · rintro ⟨h2, h⟩
    exact ⟨h2, h 0 _ _ rfl rfl, h 1 _ _ rfl rfl, h 2 _ _ rfl rfl, h 3 _ _ rfl rfl, h 4 _ _ rfl rfl⟩
theorem Wi.lfits_false {c : Wi} {n : Int} (h : ¬ c.lfits n = true) : c.lfits n = false := by simpa using h

section
variable {P : Program} {w : World} {K : PySem.W.Frag} {mg : Str → Option Value} {base : Heap}
/-! ### _law_known -/
def spLKnown : Sp := fun vs H Q _ => ∃ (a : Addr) (c : Wi), vs = [.ref a] ∧ c.Ok ∧ ClAt H a c ∧ ∀ H', Same H H' → Q (.int c.known) H'
theorem ok_lknown {f : Addr} {fd : FuncData} {k : Nat} (F : Fun K "_law_known" "_law_known" lKnown f fd) (mr : mg "range" = none) : FnOk P w K mg base CX0 (k + 1) f fd ["_law_classes_here"] spLKnown := by
  refine F.ok scLKnown (fun vs H Q E h => ?_) (fun cdv A outer s H vs Q E hr h => ?_)
  · obtain ⟨a, c, rfl, _⟩ := h
    rfl
  · obtain ⟨a, c, rfl, hc, hA, q⟩ := h
    obtain ⟨ts, ha, hT⟩ := id hA
    refine ⟨_, pss_cons (ps_set (i := 1) scLKnown.nd rfl (.inl rfl) (pe_ix ix_list (pv 0) pe_int (fun _ _ => rfl)))
      (pss_cons (ps_set (i := 2) scLKnown.nd rfl (.inl rfl) (pe_lst (pa_cons pe_int (pa_cons pe_int (pa_cons pe_int (pa_cons pe_int (pa_cons pe_int (pa_cons pe_int pa_nil))))))))
      (pss_cons (ps_for PassesOwn.never rfl (pi_range1 rfl mr (pa_cons pe_int pa_nil)) (pg_name (i := 3) scLKnown.nd rfl (.inl rfl))
        (pss_one (ps_if (pt_cmpR op_eq (pe_ix ix_tup (pe_ix ix_list (pv 0) (pe_op op_add (pv 3) pe_int) (fun _ _ => rfl)) pe_int (fun _ _ => rfl)) pe_int (nomark _))
          (pss_one (ps_set (i := 1) scLKnown.nd rfl (.inl rfl) (pe_op op_mul (pv 1) (pe_ix ix_list (pv 2) (pv 3) (fun _ _ => rfl))))) pss_nil)))
      (pss_one (ps_ret (pv 1))))), ?_⟩
    refine ⟨_, rfl, a, _, _, _, rfl, rfl, SqL.of ha, at_of (j := 0) rfl rfl, ?_⟩
    refine ⟨(by show 6 ≤ sizeLine; decide), fun l hl => ?_⟩
    have s1 : Same H (upd H l (.lst (smalls.map V.int))) := same_upd hl
    refine ⟨6, rfl, by decide, by decide, for_range (n := 6) (fun i σ H' => Same H H' ∧ H' l = some (.lst (smalls.map V.int)) ∧ ∃ v : Option V, σ = [some (.ref a), some (.int (c.kn i)), some (.ref l), v]) ⟨s1, upd_same, _, rfl⟩ ?_ ?_⟩
    · rintro i σ H' hi ⟨sm, hl', v, rfl⟩
      have hz : c.pairs[i]? = some c.pairs[i] := List.getElem?_eq_getElem hi
      have hp : smalls[i]? = some smalls[i] := List.getElem?_eq_getElem hi
      generalize c.pairs[i] = z at hz
      generalize smalls[i] = p at hp
      obtain ⟨xs, t, hx, hxt, ht⟩ := (hA.same sm).item hz
      have pb := smalls_ok p (List.mem_of_getElem? hp)
      have hpl : (smalls.map V.int)[i]? = some (.int p) := by
        rw [List.getElem?_map, hp]
        rfl
      refine ⟨_, rfl, _, rfl, _, _, rfl, rfl, a, _, _, _, rfl, rfl, SqL.of hx, at_of (j := i + 1) (by omega) hxt, t, _, _, _, rfl, rfl, SqT.of ht, at_of (j := 0) rfl rfl, rfl, _, rfl, ?_⟩
      by_cases h1 : z.1 = 1
      · rw [decide_eq_true (congrArg V.int h1)]
        refine iteT ?_
        refine ⟨_, rfl, _, rfl, _, rfl, l, _, _, _, rfl, rfl, SqL.of hl', at_of (j := i) (by omega) hpl, _, _, rfl, rfl, .inr ⟨by omega, by omega⟩, ?_⟩
        refine ⟨sm, hl', some (.int (0 + (i : Int))), ?_⟩
        rw [Wi.kn_succ hp hz, tk, if_pos h1]
        rfl
      · rw [decide_eq_false (fun e => h1 (V.int.inj e))]
        refine iteF ?_
        refine ⟨sm, hl', some (.int (0 + (i : Int))), ?_⟩
        rw [Wi.kn_succ hp hz, tk, if_neg h1]
        rfl
    · rintro σ H' ⟨sm, hl', v, rfl⟩
      exact ⟨_, rfl, q H' sm⟩
/-! ### _law_square -/
def spLSquare : Sp := fun vs H Q _ => ∃ n p : Int, vs = [.int n, .int p] ∧ p ∈ odds ∧ ∀ H', Same H H' → Q (.bl ((sqs p).contains (n % p))) H'
theorem ok_lsquare {f : Addr} {fd : FuncData} {k : Nat} (F : Fun K "_law_square" "_law_square" lSquare f fd) : FnOk P w K mg base CX0 (k + 1) f fd ["_law_k", "_law_p"] spLSquare := by
  refine F.ok scLSquare (fun vs H Q E h => ?_) (fun cdv A outer s H vs Q E hr h => ?_)
  · obtain ⟨n, p, rfl, _⟩ := h
    rfl
  · obtain ⟨n, p, rfl, hp, q⟩ := h
    refine ⟨_, pss_cons (ps_set (i := 2) scLSquare.nd rfl (.inl rfl) (pe_lst (pa_cons pe_int (pa_cons pe_int (pa_cons pe_int (pa_cons pe_int (pa_cons pe_int (pa_cons pe_int pa_nil))))))))
      (pss_cons (ps_if (pt_cmpR op_eq (pv 1) pe_int (nomark _)) (pss_one (ps_set (i := 2) scLSquare.nd rfl (.inl rfl) (pe_lst (pa_cons pe_int pa_nil)))) pss_nil)
      (pss_cons (ps_if (pt_cmpR op_eq (pv 1) pe_int (nomark _)) (pss_one (ps_set (i := 2) scLSquare.nd rfl (.inl rfl) (pe_lst (pa_cons pe_int (pa_cons pe_int pa_nil))))) pss_nil)
      (pss_cons (ps_if (pt_cmpR op_eq (pv 1) pe_int (nomark _)) (pss_one (ps_set (i := 2) scLSquare.nd rfl (.inl rfl) (pe_lst (pa_cons pe_int (pa_cons pe_int (pa_cons pe_int pa_nil)))))) pss_nil)
      (pss_cons (ps_if (pt_cmpR op_eq (pv 1) pe_int (nomark _)) (pss_one (ps_set (i := 2) scLSquare.nd rfl (.inl rfl) (pe_lst (pa_cons pe_int (pa_cons pe_int (pa_cons pe_int (pa_cons pe_int (pa_cons pe_int pa_nil)))))))) pss_nil)
      (pss_one (ps_ret (pe_cmpR op_in_seq (pe_op op_mod (pv 0) (pv 1)) (pv 2) (by rfl)))))))), ?_⟩
    refine ⟨(by show 6 ≤ sizeLine; decide), fun l hl => ?_⟩
    have s1 : Same H (upd H l (.lst (([1, 3, 4, 9, 10, 12] : List Int).map V.int))) := same_upd hl
    have two : ∀ (H1 : Hp) (m : Addr) (xs : List Int), Same H H1 → H1 m = none → Same H (upd H1 m (.lst (xs.map V.int))) := fun H1 m xs s hm => s.trans (same_upd hm)
    have fin : ∀ (xs : List Int), sqs p = xs → inV (.int (n % p)) (xs.map V.int) = (sqs p).contains (n % p) := fun xs e => by rw [inV_int, e]
    have hp0 : 0 < p := by have := odds_ok p hp; omega
    simp only [odds, List.mem_cons, List.not_mem_nil, or_false] at hp
    rcases hp with rfl | rfl | rfl | rfl | rfl
    · refine ⟨_, rfl, rfl, _, rfl, iteT ⟨(by show 1 ≤ sizeLine; decide), fun m hm => ?_⟩⟩
      refine ⟨_, rfl, rfl, _, rfl, iteF ⟨_, rfl, rfl, _, rfl, iteF ⟨_, rfl, rfl, _, rfl, iteF ?_⟩⟩⟩
      refine ⟨_, rfl, _, rfl, _, _, rfl, rfl, hp0, _, rfl, m, ([1] : List Int).map V.int, rfl, .inl (SqL.of upd_same), rfl, rfl, ?_⟩
      have := q _ (two _ m [1] s1 hm)
      rw [← fin [1] rfl] at this
      exact this
    · refine ⟨_, rfl, rfl, _, rfl, iteF ⟨_, rfl, rfl, _, rfl, iteT ⟨(by show 2 ≤ sizeLine; decide), fun m hm => ?_⟩⟩⟩
      refine ⟨_, rfl, rfl, _, rfl, iteF ⟨_, rfl, rfl, _, rfl, iteF ?_⟩⟩
      refine ⟨_, rfl, _, rfl, _, _, rfl, rfl, hp0, _, rfl, m, ([1, 4] : List Int).map V.int, rfl, .inl (SqL.of upd_same), rfl, rfl, ?_⟩
      have := q _ (two _ m [1, 4] s1 hm)
      rw [← fin [1, 4] rfl] at this
      exact this
    · refine ⟨_, rfl, rfl, _, rfl, iteF ⟨_, rfl, rfl, _, rfl, iteF ⟨_, rfl, rfl, _, rfl, iteT ⟨(by show 3 ≤ sizeLine; decide), fun m hm => ?_⟩⟩⟩⟩
      refine ⟨_, rfl, rfl, _, rfl, iteF ?_⟩
      refine ⟨_, rfl, _, rfl, _, _, rfl, rfl, hp0, _, rfl, m, ([1, 2, 4] : List Int).map V.int, rfl, .inl (SqL.of upd_same), rfl, rfl, ?_⟩
      have := q _ (two _ m [1, 2, 4] s1 hm)
      rw [← fin [1, 2, 4] rfl] at this
      exact this
    · refine ⟨_, rfl, rfl, _, rfl, iteF ⟨_, rfl, rfl, _, rfl, iteF ⟨_, rfl, rfl, _, rfl, iteF ⟨_, rfl, rfl, _, rfl, iteT ⟨(by show 5 ≤ sizeLine; decide), fun m hm => ?_⟩⟩⟩⟩⟩
      refine ⟨_, rfl, _, rfl, _, _, rfl, rfl, hp0, _, rfl, m, ([1, 3, 4, 5, 9] : List Int).map V.int, rfl, .inl (SqL.of upd_same), rfl, rfl, ?_⟩
      have := q _ (two _ m [1, 3, 4, 5, 9] s1 hm)
      rw [← fin [1, 3, 4, 5, 9] rfl] at this
      exact this
    · refine ⟨_, rfl, rfl, _, rfl, iteF ⟨_, rfl, rfl, _, rfl, iteF ⟨_, rfl, rfl, _, rfl, iteF ⟨_, rfl, rfl, _, rfl, iteF ?_⟩⟩⟩⟩
      refine ⟨_, rfl, _, rfl, _, _, rfl, rfl, hp0, _, rfl, l, ([1, 3, 4, 9, 10, 12] : List Int).map V.int, rfl, .inl (SqL.of upd_same), rfl, rfl, ?_⟩
      have := q _ s1
      rw [← fin [1, 3, 4, 9, 10, 12] rfl] at this
      exact this
/-! ### _law_fits -/
/-- left, if p goes into it once less -/
theorem left_ok {D : Ends} {x0 x1 x3 x4 : Option V} {σ : L2.St} {H : Hp} {tp : TE} {n p : Int} (e : σ = [x0, x1, some (.int n), x3, x4]) (hp : ∀ Q : VK, Q (.int p) H → tp σ H Q) (p0 : 0 < p) (p1 : p < 100000)
    (h : D.nx [x0, x1, some (.int (lf n p)), x3, x4] H) :
    tIfS (tTest (tOp rEq (tOp (rI (fun _ j => 0 < j) fun i j => V.int (i % j)) (tVar 2) tp) (tC (.int 0)))) (tAsg (tOp (rI CDiv fun i j => V.int (i / j)) (tVar 2) tp) (gName 2)) tNext D σ H := by
  subst e
  refine ⟨_, rfl, hp _ ⟨_, _, rfl, rfl, p0, rfl, _, rfl, ?_⟩⟩
  unfold lf at h
  by_cases hz : n % p = 0
  · rw [decide_eq_true (show V.int (n % p) = V.int 0 by rw [hz])]
    rw [if_pos hz] at h
    exact iteT ⟨_, rfl, hp _ ⟨_, _, rfl, rfl, ⟨p0, by omega⟩, h⟩⟩
  · rw [decide_eq_false (fun e => hz (V.int.inj e))]
    rw [if_neg hz] at h
    exact iteF h
def spLFits : Sp := fun vs H Q _ => ∃ (n : Int) (a : Addr) (c : Wi), vs = [.int n, .ref a] ∧ c.Ok ∧ ClAt H a c ∧ ∀ H', Same H H' → Q (.bl (c.lfits n)) H'
theorem ok_lfits {f f1 : Addr} {fd fd1 : FuncData} {k : Nat} (F : Fun K "_law_fits" "_law_fits" lFits f fd) (mr : mg "range" = none) (C1 : Cal P w K mg base k "_law_square" ["_law_k", "_law_p"] spLSquare f1 fd1) :
    FnOk P w K mg base CX0 (k + 1) f fd ["_law_number", "_law_classes_here"] spLFits := by
  refine F.ok scLFits (fun vs H Q E h => ?_) (fun cdv A outer s H vs Q E hr h => ?_)
  · obtain ⟨n, a, c, rfl, _⟩ := h
    rfl
  · obtain ⟨n, a, c, rfl, hc, hA, q⟩ := h
    refine ⟨_, pss_cons (ps_set (i := 2) scLFits.nd rfl (.inl rfl) (pv 0))
      (pss_cons (ps_if (pt_cmpR op_eq (pe_op op_mod (pv 2) pe_int) pe_int (nomark _)) (pss_one (ps_set (i := 2) scLFits.nd rfl (.inl rfl) (pe_op op_fdiv (pv 2) pe_int))) pss_nil)
      (pss_cons (ps_if (pt_cmpR op_ne (pe_op op_mod (pv 2) pe_int) (pe_ix ix_tup (pe_ix ix_list (pv 1) pe_int (fun _ _ => rfl)) pe_int (fun _ _ => rfl)) (nomark _)) (pss_one (ps_ret pe_bl)) pss_nil)
      (pss_cons (ps_set (i := 3) scLFits.nd rfl (.inl rfl) (pe_lst (pa_cons pe_int (pa_cons pe_int (pa_cons pe_int (pa_cons pe_int (pa_cons pe_int pa_nil)))))))
      (pss_cons (ps_for PassesOwn.never rfl (pi_range1 rfl mr (pa_cons pe_int pa_nil)) (pg_name (i := 4) scLFits.nd rfl (.inl rfl))
        (pss_cons (ps_set (i := 2) scLFits.nd rfl (.inl rfl) (pv 0))
        (pss_cons (ps_if (pt_cmpR op_eq (pe_op op_mod (pv 2) (pe_ix ix_list (pv 3) (pv 4) (fun _ _ => rfl))) pe_int (nomark _)) (pss_one (ps_set (i := 2) scLFits.nd rfl (.inl rfl) (pe_op op_fdiv (pv 2) (pe_ix ix_list (pv 3) (pv 4) (fun _ _ => rfl))))) pss_nil)
        (pss_one (ps_if (pt_cmpR op_ne (pe_call C1.ok hr (by rfl) C1.mg C1.kp C1.bd .nil pass0 (pa_cons (pv 2) (pa_cons (pe_ix ix_list (pv 3) (pv 4) (fun _ _ => rfl)) pa_nil)))
            (pe_cmpR op_eq (pe_ix ix_tup (pe_ix ix_list (pv 1) (pe_op op_add (pv 4) pe_int) (fun _ _ => rfl)) pe_int (fun _ _ => rfl)) pe_int (nomark _)) (nomark _)) (pss_one (ps_ret pe_bl)) pss_nil)))))
      (pss_one (ps_ret pe_bl)))))), ?_⟩
    obtain ⟨xs, t0, hx, hxt, ht⟩ := hA.item (i := 0) (z := (c.v2, c.r2)) rfl
    refine ⟨_, rfl, ?_⟩
    refine left_ok rfl (fun Q h => h) (by decide) (by decide) ?_
    refine ⟨_, rfl, _, _, rfl, rfl, (by show (0 : Int) < 8; decide), _, rfl, a, _, _, _, rfl, rfl, SqL.of hx, at_of (j := 1) rfl hxt, t0, _, _, _, rfl, rfl, SqT.of ht, at_of (j := 1) rfl rfl, rfl, _, rfl, ?_⟩
    by_cases h2 : lf n 2 % 8 = c.r2
    · rw [decide_eq_true (congrArg V.int h2)]
      refine iteF ?_
      refine ⟨(by show 5 ≤ sizeLine; decide), fun l hl => ?_⟩
      have s1 : Same H (upd H l (.lst (odds.map V.int))) := same_upd hl
      refine ⟨5, rfl, by decide, by decide, for_range (n := 5) (fun i σ H' => Same H H' ∧ H' l = some (.lst (odds.map V.int)) ∧ (∀ (j : Nat) (p : Int) (z : Int × Int), j < i → odds[j]? = some p → c.pairs[j + 1]? = some z → lfit n p z.2 = true) ∧
          ∃ u v : Option V, σ = [some (.int n), some (.ref a), u, some (.ref l), v]) ⟨s1, upd_same, fun j p z hj => absurd hj (Nat.not_lt_zero _), _, _, rfl⟩ ?_ ?_⟩
      · rintro i σ H' hi ⟨sm, hl', hno, u, v, rfl⟩
        obtain ⟨z, hz⟩ : ∃ z, c.pairs[i + 1]? = some z := ⟨_, List.getElem?_eq_getElem (show i + 1 < 6 by omega)⟩
        obtain ⟨p, hp⟩ : ∃ p, odds[i]? = some p := ⟨_, List.getElem?_eq_getElem hi⟩
        obtain ⟨ys, t, hy, hyt, htt⟩ := (hA.same sm).item hz
        have hpm : p ∈ odds := List.mem_of_getElem? hp
        have pb := odds_ok p hpm
        have hpl : (odds.map V.int)[i]? = some (.int p) := by
          rw [List.getElem?_map, hp]
          rfl
        have hix : atI (odds.map V.int) (0 + (i : Int)) = some (.int p) := at_of (j := i) (by omega) hpl
        refine ⟨_, rfl, ?_⟩
        refine left_ok rfl (fun Q h => ⟨_, rfl, _, rfl, l, _, _, _, rfl, rfl, SqL.of hl', hix, h⟩) (by omega) (by omega) ?_
        refine ⟨_, rfl, _, rfl, _, rfl, l, _, _, _, rfl, rfl, SqL.of hl', hix, _, _, rfl, hpm, fun H3 s3 => ?_⟩
        have hy3 := s3 _ _ hy
        have ht3 := s3 _ _ htt
        refine ⟨_, rfl, _, rfl, _, _, rfl, rfl, a, _, _, _, rfl, rfl, SqL.of hy3, at_of (j := i + 1 + 1) (by omega) hyt, t, _, _, _, rfl, rfl, SqT.of ht3, at_of (j := 1) rfl rfl, rfl, rfl, _, rfl, ?_⟩
        have ed : decide (V.int z.2 = V.int 1) = (z.2 == 1) := dec_int
        rw [ed, dec_bl]
        by_cases hf : lfit n p z.2 = true
        · have hf' := hf
          unfold lfit at hf'
          rw [hf']
          refine iteF ?_
          refine ⟨sm.trans s3, s3 _ _ hl', fun j p' z' hj hp' hz' => ?_, _, _, rfl⟩
          rcases Nat.lt_or_ge j i with b | b
          · exact hno j p' z' b hp' hz'
          · have e : j = i := by omega
            subst e
            rw [hp] at hp'
            rw [hz] at hz'
            cases hp'
            cases hz'
            exact hf
        · have hf' : lfit n p z.2 = false := by simpa using hf
          unfold lfit at hf'
          rw [hf']
          refine iteT ?_
          have e : c.lfits n = false := Wi.lfits_false fun h => hf ((Wi.lfits_iff.mp h).2 i p z hp hz)
          have := q _ (sm.trans s3)
          rw [e] at this
          exact this
      · rintro σ H' ⟨sm, hl', hall, u, v, rfl⟩
        have e : c.lfits n = true := Wi.lfits_iff.mpr ⟨h2, fun i p z hp hz => hall i p z (List.getElem?_eq_some_iff.mp hp).1 hp hz⟩
        have := q _ sm
        rw [e] at this
        exact this
    · rw [decide_eq_false (fun e => h2 (V.int.inj e))]
      refine iteT ?_
      have e : c.lfits n = false := Wi.lfits_false fun h => h2 (Wi.lfits_iff.mp h).1
      have := q _ (Same.refl _)
      rw [e] at this
      exact this
end
end Wn

namespace Wn
open PySem PySem.Spec PyProof.Rows L2
/-! ### the classes as data -/
def pairD (z : Int × Int) : PyData := .tuple [.int z.1, .int z.2]
theorem tups_dp {K : PySem.W.Frag} {H : Hp} : ∀ {ts : List Addr} {zs : List (Int × Int)}, TupsAt H ts zs → DpAll K H (ts.map V.ref) (zs.map pairD)
  | _, _, .nil => .nil
  | _, _, .cons h r => .cons (.tup (SqT.of h) (.cons (.int _) (.cons (.int _) .nil))) (tups_dp r)
def Wi.data (c : Wi) : PyData := .list (.int c.sg :: c.pairs.map pairD)
theorem Wi.data_shaped (c : Wi) : SeqAt.shaped c.data = true := rfl
theorem Wi.data_eqv (c : Wi) : PyData.eqv c.data c.data = true := SeqAt.eqv_refl _ rfl
theorem rgC_any {j : Int} (h1 : 17 ≤ j) (h2 : j ≤ 100000) : RgC 17 j 2 ((j - 16) / 2).toNat := by
  rcases le_or 17 j with a | a
  · exact rgC_two a h2
  · have e : j = 17 := by omega
    subst e
    exact rgC_none
/-- what the last loop goes through -/
theorem cand_at {j : Int} {i : Nat} {x : V} (h1 : 17 ≤ j) (h : (([.int 1] : List V) ++ rgL 17 2 ((j - 16) / 2).toNat)[i]? = some x) : ∃ n : Int, x = .int n ∧ Cand n ∧ n < j := by
  cases i with
  | zero =>
    have e : V.int 1 = x := Option.some.inj h
    exact ⟨1, e.symm, .inl rfl, by omega⟩
  | succ i =>
    have h' : (rgL 17 2 ((j - 16) / 2).toNat)[i]? = some x := h
    unfold rgL at h'
    rw [List.getElem?_map] at h'
    have hi : i < ((j - 16) / 2).toNat := by
      rcases Nat.lt_or_ge i ((j - 16) / 2).toNat with a | a
      · exact a
      · rw [List.getElem?_eq_none (by rw [List.length_range]; exact a)] at h'
        cases h'
    rw [List.getElem?_range hi] at h'
    have e : V.int (17 + (i : Int) * 2) = x := Option.some.inj h'
    exact ⟨_, e.symm, .inr ⟨by omega, by omega⟩, by omega⟩

section
variable {P : Program} {w : World} {K : PySem.W.Frag} {mg : Str → Option Value} {base : Heap}
/-! ### _law_held -/
def spHeld : Sp := fun vs H Q _ => ∃ (a : Addr) (c : Wi), vs = [.ref a] ∧ c.Ok ∧ ClAt H a c ∧ ∀ H', Same H H' → Q (.bl true) H'
theorem ok_held {f f1 f2 f3 f4 : Addr} {fd fd1 fd2 fd3 fd4 : FuncData} {k : Nat} (F : Fun K "_law_held" "_law_held" lHeld f fd) (mr : mg "range" = none) (mi : mg "isinstance" = none) (mint : mg "int" = none) (mb : mg "bool" = none) (ml : mg "list" = none)
    (C1 : Cal P w K mg base k "number_with" ["classes"] spNumber f1 fd1) (C2 : Cal P w K mg base k "_law_known" ["_law_classes_here"] spLKnown f2 fd2)
    (C3 : Cal P w K mg base k "_law_fits" ["_law_number", "_law_classes_here"] spLFits f3 fd3) (C4 : Cal P w K mg base k "_law_prime" ["_law_k"] spLp f4 fd4) : FnOk P w K mg base CX0 (k + 1) f fd ["_law_classes_here"] spHeld := by
  refine F.ok scLHeld (fun vs H Q E h => ?_) (fun cdv A outer s H vs Q E hr h => ?_)
  · obtain ⟨a, c, rfl, _⟩ := h
    rfl
  · obtain ⟨a, c, rfl, hc, hA, q⟩ := h
    refine ⟨_, pss_cons (ps_set (i := 1) scLHeld.nd rfl (.inl rfl) (pe_callTy call_list_of (by rfl) ml boot_list (pa_cons (pv 0) pa_nil)))
      (pss_cons (ps_set (i := 2) scLHeld.nd rfl (.inl rfl) (pe_call C1.ok hr (by rfl) C1.mg C1.kp C1.bd .nil pass0 (pa_cons (pv 1) pa_nil)))
      (pss_cons (ps_set (i := 3) scLHeld.nd rfl (.inl rfl) (pe_call C2.ok hr (by rfl) C2.mg C2.kp C2.bd .nil pass0 (pa_cons (pv 0) pa_nil)))
      (pss_cons (ps_if (PW.pt (pw_or (pt_not (pt_val (pe_callB call_isi (by rfl) mi boot_isinstance (pa_cons (pv 2) (pa_cons (pe_bltn (v := .ty "int") (by rfl) mint boot_int rfl) pa_nil)))))
          (pw_or (pt_val (pe_callB call_isi (by rfl) mi boot_isinstance (pa_cons (pv 2) (pa_cons (pe_bltn (v := .ty "bool") (by rfl) mb boot_bool rfl) pa_nil))))
          (pw_or (pt_cmpR (op_neD hr.units) (pv 1) (pv 0) (nomark _))
          (pw_or1 (pt_cmpR op_ne (pe_op op_modN (pv 2) (pv 3)) pe_int (nomark _))))))) (pss_one (ps_ret pe_bl)) pss_nil)
      (pss_cons (ps_set (i := 4) scLHeld.nd rfl (.inl rfl) (pe_op op_fdivN (pv 2) (pv 3)))
      (pss_cons (ps_if (PW.pt (pw_or (PW.pt (pw_and (pt_cmpR op_ne (pv 4) pe_int (nomark _))
            (pw_and1 (PW.pt (pw_or (pt_cmpR op_lt (pv 4) pe_int (nomark _)) (pw_or (pt_cmpR op_gt (pv 4) pe_int (nomark _))
              (pw_or1 (pt_not (pt_val (pe_call C4.ok hr (by rfl) C4.mg C4.kp C4.bd .nil pass0 (pa_cons (pv 4) pa_nil)))))))))))
          (pw_or1 (pt_not (pt_val (pe_call C3.ok hr (by rfl) C3.mg C3.kp C3.bd .nil pass0 (pa_cons (pv 2) (pa_cons (pv 0) pa_nil)))))))) (pss_one (ps_ret pe_bl)) pss_nil)
      (pss_cons (ps_if (pt_cmpR op_eq (pv 4) pe_int (nomark _)) (pss_one (ps_ret pe_bl)) pss_nil)
      (pss_cons (ps_for PassesOwn.never rfl (pi_list (pe_op op_cat (pe_lst (pa_cons pe_int pa_nil)) (pe_listRg3 rfl (by rfl) ml (by rfl) mr (pa_cons pe_int (pa_cons (pv 4) (pa_cons pe_int pa_nil)))))) (pg_name (i := 5) scLHeld.nd rfl (.inl rfl))
        (pss_one (ps_if (PW.pt (pw_and (pt_val (pe_call C3.ok hr (by rfl) C3.mg C3.kp C3.bd .nil pass0 (pa_cons (pe_op op_mul (pv 3) (pv 5)) (pa_cons (pv 0) pa_nil))))
            (pw_and1 (pt_val (pe_call C4.ok hr (by rfl) C4.mg C4.kp C4.bd .nil pass0 (pa_cons (pv 5) pa_nil)))))) (pss_one (ps_ret pe_bl)) pss_nil)))
      (pss_one (ps_ret pe_bl))))))))), ?_⟩
    obtain ⟨ts, ha, hT⟩ := id hA
    refine ⟨_, rfl, a, _, rfl, .inl (SqL.of ha), fun l hl => ?_⟩
    have s1 : Same H (upd H l (.lst (.int c.sg :: ts.map V.ref))) := same_upd hl
    have hL : ClAt (upd H l (.lst (.int c.sg :: ts.map V.ref))) l c := ⟨ts, upd_same, hT.same s1⟩
    refine ⟨_, rfl, l, c, rfl, hc, hL, fun H2 n s2 hb => ?_⟩
    refine ⟨_, rfl, a, c, rfl, hc, (hA.same s1).same s2, fun H3 s3 => ?_⟩
    have s13 : Same H H3 := (s1.trans s2).trans s3
    obtain ⟨⟨k1, k2, k3⟩, _⟩ := hc.kn
    have hA3 : ClAt H3 a c := hA.same s13
    -- isinstance, isinstance, !=, %
    refine ⟨_, rfl, _, _, _, _, _, rfl, .ty "int", .base (.int _), kit_ty (r := true) (by decide +kernel), _, rfl, ?_⟩
    refine iteF ?_
    refine ⟨_, rfl, _, _, _, _, _, rfl, .ty "bool", .base (.int _), kit_ty (r := false) (by decide +kernel), _, rfl, ?_⟩
    refine iteF ?_
    have d1 : Dp K H3 (.ref l) c.data := .lst (SqL.of (s3 _ _ (s2 _ _ upd_same))) (.cons (.int _) (tups_dp (hT.same s13)))
    have d2 : Dp K H3 (.ref a) c.data := .lst (SqL.of (s13 _ _ ha)) (.cons (.int _) (tups_dp (hT.same s13)))
    refine ⟨_, rfl, _, rfl, c.data, c.data, d1, d2, c.data_shaped, c.data_shaped, _, rfl, ?_⟩
    rw [c.data_eqv]
    refine iteF ?_
    refine ⟨_, rfl, _, rfl, _, _, rfl, rfl, k3, rfl, _, rfl, ?_⟩
    have em : (c.known * n).fmod c.known = 0 := Int.mul_fmod_right _ _
    rw [decide_eq_true (show V.int ((c.known * n).fmod c.known) = V.int 0 by rw [em])]
    refine iteF ?_
    -- what is left of it
    refine ⟨_, rfl, _, rfl, _, _, rfl, rfl, ⟨k3, by omega⟩, ?_⟩
    have ed : (c.known * n).fdiv c.known = n := Int.mul_fdiv_cancel_left _ k3
    rw [show (fun i j : Int => V.int (i.fdiv j)) (c.known * n) c.known = V.int n from congrArg V.int ed]
    have hlp := best_lp hb
    have hfit := best_fits hc hb
    -- the second test: nothing of it is true
    refine ⟨_, rfl, rfl, _, rfl, ?_⟩
    by_cases h1 : n = 1
    · subst h1
      refine iteF (iteF ?_)
      refine ⟨_, rfl, _, rfl, _, a, c, rfl, hc, hA3, fun H4 s4 => ⟨_, rfl, ?_⟩⟩
      rw [hfit]
      refine iteF ?_
      refine ⟨_, rfl, rfl, _, rfl, ?_⟩
      exact iteT (q H4 (s13.trans s4))
    · obtain ⟨n17, n8, nodd, nlp⟩ : 17 ≤ n ∧ n ≤ 8099 ∧ n % 2 = 1 ∧ Lp n := by
        rcases hlp with e | e
        · exact absurd e h1
        · exact e
      rw [decide_eq_false (show ¬ V.int n = V.int 1 from fun e => h1 (V.int.inj e))]
      refine iteT ?_
      refine ⟨_, rfl, _, _, rfl, rfl, _, rfl, ?_⟩
      rw [decide_eq_false (show ¬ n < 17 by omega)]
      refine iteF ?_
      refine ⟨_, rfl, _, _, rfl, rfl, _, rfl, ?_⟩
      rw [decide_eq_false (show ¬ 8099 < n by omega)]
      refine iteF ?_
      refine ⟨_, rfl, n, rfl, by omega, by omega, fun b hbb => ⟨b, rfl, ?_⟩⟩
      have eb : b = true := hbb.mpr nlp
      subst eb
      refine iteF ?_
      refine ⟨_, rfl, _, rfl, _, a, c, rfl, hc, hA3, fun H4 s4 => ⟨_, rfl, ?_⟩⟩
      rw [hfit]
      refine iteF ?_
      have s14 : Same H H4 := s13.trans s4
      refine ⟨_, rfl, rfl, _, rfl, ?_⟩
      rw [decide_eq_false (show ¬ V.int n = V.int 1 from fun e => h1 (V.int.inj e))]
      refine iteF ?_
      refine ⟨(by show 1 ≤ sizeLine; decide), fun u hu => ?_⟩
      refine ⟨_, rfl, _, _, _, _, rfl, rgC_any n17 (by omega), by omega, fun v hv => ?_⟩
      have nvu : u ≠ v := fun e => by
        rw [← e, upd_same] at hv
        cases hv
      refine ⟨u, v, _, _, rfl, rfl, (upd_ne nvu).trans upd_same, upd_same, ?_, fun p hp => ?_⟩
      · have hs : sizeLine = 16777216 := sizeLine_eq
        have e1 : ([V.int 1] : List V).length = 1 := rfl
        have e2 : (rgL 17 2 ((n - 16) / 2).toNat).length = ((n - 16) / 2).toNat := by
          unfold rgL
          simp
        rw [e1, e2, hs]
        omega
      · have s4u : Same H4 (upd H4 u (.lst [.int 1])) := same_upd hu
        have suv := same_upd (o := .lst (rgL 17 2 ((n - 16) / 2).toNat)) hv
        have svp := same_upd (o := .lst ([.int 1] ++ rgL 17 2 ((n - 16) / 2).toNat)) hp
        refine ⟨p, rfl, ⟨_, SqL.of upd_same⟩, for_list (K := K) (a := p) (xs := [.int 1] ++ rgL 17 2 ((n - 16) / 2).toNat)
          (fun i σ H' => Same H H' ∧ H' p = some (.lst ([.int 1] ++ rgL 17 2 ((n - 16) / 2).toNat)) ∧ ∃ y : Option V, σ = [some (.ref a), some (.ref l), some (.int (c.known * n)), some (.int c.known), some (.int n), y])
          ⟨((s14.trans s4u).trans suv).trans svp, upd_same, none, rfl⟩ (fun i σ H' _ h => SqL.of h.2.1) ?_ ?_⟩
        · rintro i x σ H' hx ⟨sm, hp', y, rfl⟩
          obtain ⟨m, rfl, hm, hlt⟩ := cand_at n17 hx
          have m1 : 1 ≤ m := by
            unfold Cand at hm
            omega
          refine ⟨_, rfl, _, rfl, _, _, rfl, rfl, .inl ⟨by omega, by omega⟩, _, rfl, _, a, c, rfl, hc, hA.same sm, fun H5 s5 => ⟨_, rfl, ?_⟩⟩
          by_cases hf : c.lfits (c.known * m) = true
          · rw [hf]
            refine iteT ?_
            refine ⟨_, rfl, m, rfl, m1, by omega, fun b hbb => ⟨b, rfl, ?_⟩⟩
            cases b with
            | true => exact (best_none hc hb hm hlt hf (hbb.mp rfl)).elim
            | false => exact iteF ⟨sm.trans s5, s5 _ _ hp', _, rfl⟩
          · rw [Wi.lfits_false hf]
            refine iteF (iteF ?_)
            exact ⟨sm.trans s5, s5 _ _ hp', _, rfl⟩
        · rintro σ H' ⟨sm, hp', y, rfl⟩
          exact q H' sm
/-! ### the law -/
def spLaw (K : PySem.W.Frag) : Sp := fun vs H Q _ => ∃ (a : Addr) (ns : List Int), vs = [.ref a] ∧ SqL K H a (ns.map V.int) ∧ ns.length ≤ 63 ∧ ∀ H', Q (.bl true) H'
theorem ok_law {f f1 f2 f3 f4 : Addr} {fd fd1 fd2 fd3 fd4 : FuncData} {k : Nat} (F : Fun K "law" "law" lLaw f fd) (mr : mg "range" = none) (mm : mg "min" = none) (ml : mg "len" = none)
    (C1 : Cal P w K mg base k "_law_cell_at" ["_law_script", "_law_k"] (spCell K) f1 fd1) (C2 : Cal P w K mg base k "_law_big" ["_law_cell", "_law_k"] spBig f2 fd2)
    (C3 : Cal P w K mg base k "_law_classes" ["_law_cell"] spClasses f3 fd3) (C4 : Cal P w K mg base k "_law_held" ["_law_classes_here"] spHeld f4 fd4) : FnOk P w K mg base CX0 (k + 1) f fd ["_law_script"] (spLaw K) := by
  refine F.ok scLLaw (fun vs H Q E h => ?_) (fun cdv A outer s H vs Q E hr h => ?_)
  · obtain ⟨a, ns, rfl, _⟩ := h
    rfl
  · obtain ⟨a, ns, rfl, hS, hlen, q⟩ := h
    refine ⟨_, pss_cons (ps_for PassesOwn.never rfl (pi_range1 rfl mr (pa_cons (pe_op op_add (pe_callB (call_min2 rfl) (by rfl) mm PyProof.Rows.boot_min (pa_cons pe_int (pa_cons (pe_callB call_len_seq (by rfl) ml PySem.boot_len (pa_cons (pv 0) pa_nil)) pa_nil))) pe_int) pa_nil)) (pg_name (i := 1) scLLaw.nd rfl (.inl rfl))
        (pss_one (ps_if (pt_not (pt_val (pe_call C4.ok hr (by rfl) C4.mg C4.kp C4.bd .nil pass0 (pa_cons (pe_call C3.ok hr (by rfl) C3.mg C3.kp C3.bd .nil pass0 (pa_cons (pe_call C2.ok hr (by rfl) C2.mg C2.kp C2.bd .nil pass0
            (pa_cons (pe_call C1.ok hr (by rfl) C1.mg C1.kp C1.bd .nil pass0 (pa_cons (pv 0) (pa_cons (pv 1) pa_nil))) (pa_cons (pv 1) pa_nil))) pa_nil)) pa_nil)))) (pss_one (ps_ret pe_bl)) pss_nil)))
      (pss_one (ps_ret pe_bl)), ?_⟩
    refine ⟨_, rfl, a, _, rfl, .inl hS, _, _, rfl, _, _, rfl, rfl, ?_⟩
    have ll : (ns.map V.int).length ≤ 63 := by rw [List.length_map]; exact hlen
    obtain ⟨j, hj⟩ : ∃ j : Int, (if (((ns.map V.int).length : Nat) : Int) < 4 then (((ns.map V.int).length : Nat) : Int) else 4) + 1 = j := ⟨_, rfl⟩
    have j0 : 0 ≤ j ∧ j ≤ 5 := by
      rw [← hj]
      split <;> omega
    refine ⟨j, congrArg (fun t => [V.int t]) hj, by omega, by omega, for_range (n := j.toNat) (fun i σ H' => Same H H' ∧ ∃ y : Option V, σ = [some (.ref a), y]) ⟨Same.refl _, none, rfl⟩ ?_ ?_⟩
    · rintro i σ H' hi ⟨sm, y, rfl⟩
      have e0 : (0 : Int) + (i : Int) = ((i : Nat) : Int) := by omega
      refine ⟨_, rfl, _, rfl, a, ns, i, by rw [e0]; rfl, sm.seq hS, by omega, fun x => ?_⟩
      refine ⟨_, rfl, x, i, by rw [e0]; rfl, by omega, fun z => ?_⟩
      refine ⟨z, rfl, fun H1 b c s1 hc hA => ?_⟩
      refine ⟨b, c, rfl, hc, hA, fun H2 s2 => ⟨_, rfl, ?_⟩⟩
      exact iteF ⟨(sm.trans s1).trans s2, _, rfl⟩
    · rintro σ H' ⟨sm, y, rfl⟩
      exact q H'
end
end Wn

namespace Wn
open PySem PySem.Spec PyProof.Rows L2
/-! ### what the top has written -/
theorem tup_in {K : PySem.W.Frag} {f : Addr} {its : List Value} {xs : List Int} {n : Nat} {d : Option Addr} {sl : Array (Option Value)} (h : K.lookup f = some ⟨.type "tuple", d, .seq its.toArray n, sl⟩) (hl : its.length ≤ 1000) (hv : Vals (xs.map V.int) its) (H : Hp) : SqT K H f (xs.map V.int) :=
  .inr ⟨_, its.toArray, n, h, rfl, rfl, by rw [List.size_toArray, sizeLine_eq]; omega, by simpa using hv⟩
theorem all_mk {l : PySem.W.OpenLaw} {w : World} {K : PySem.W.Frag} {h : Heap} {mg : Str → Option Value} {fa fS fO : Addr} (X : K.In h) (G : h.Ns mainGlobals mg) (hfa : mg "law" = some (.ref fa))
    {f_p f_w f_s f_k f_l f_n f_f f_a f_m f_lc f_lb f_ls f_lk f_lq f_lf f_lp f_lh f_la : Addr}
    {od_p an_p od_w an_w od_s an_s od_k an_k od_l an_l od_n an_n od_f an_f od_a an_a od_m an_m od_lc an_lc od_lb an_lb od_ls an_ls od_lk an_lk od_lq an_lq od_lf an_lf od_lp an_lp od_lh an_lh od_la an_la dS dO : Option Addr}
    {sl_p sl_w sl_s sl_k sl_l sl_n sl_f sl_a sl_m sl_lc sl_lb sl_ls sl_lk sl_lq sl_lf sl_lp sl_lh sl_la slS slO : Array (Option Value)} {nS nO : Nat}
    {oc_p kV_p dc_p pm_p cd_p ct_p oc_w kV_w dc_w pm_w cd_w ct_w oc_s kV_s dc_s pm_s cd_s ct_s oc_k kV_k dc_k pm_k cd_k ct_k oc_l kV_l dc_l pm_l cd_l ct_l oc_n kV_n dc_n pm_n cd_n ct_n oc_f kV_f dc_f pm_f cd_f ct_f oc_a kV_a dc_a pm_a cd_a ct_a oc_m kV_m dc_m pm_m cd_m ct_m oc_lc kV_lc dc_lc pm_lc cd_lc ct_lc oc_lb kV_lb dc_lb pm_lb cd_lb ct_lb oc_ls kV_ls dc_ls pm_ls cd_ls ct_ls oc_lk kV_lk dc_lk pm_lk cd_lk ct_lk oc_lq kV_lq dc_lq pm_lq cd_lq ct_lq oc_lf kV_lf dc_lf pm_lf cd_lf ct_lf oc_lp kV_lp dc_lp pm_lp cd_lp ct_lp oc_lh kV_lh dc_lh pm_lh cd_lh ct_lh oc_la kV_la dc_la pm_la cd_la ct_la : Value}
    {u1 u2 u3 u4 u5 u6 v1 v2 v3 v4 v5 : Tok}
    (a_p : PySem.W.nsIn K mainGlobals "is_prime" = some (some (.ref f_p))) (l_p : K.lookup f_p = some ⟨oc_p, od_p, .func (PySem.W.fnOf "is_prime" "is_prime" (defArgs sPrime) (defBody sPrime) (defScope sPrime) .none kV_p dc_p pm_p an_p cd_p ct_p), sl_p⟩) (c_p : PySem.W.codeIn K cd_p "is_prime" = true) (k_p : PySem.W.keepIn K (.ref f_p) = true)
    (a_w : PySem.W.nsIn K mainGlobals "power_by" = some (some (.ref f_w))) (l_w : K.lookup f_w = some ⟨oc_w, od_w, .func (PySem.W.fnOf "power_by" "power_by" (defArgs sPower) (defBody sPower) (defScope sPower) .none kV_w dc_w pm_w an_w cd_w ct_w), sl_w⟩) (c_w : PySem.W.codeIn K cd_w "power_by" = true) (k_w : PySem.W.keepIn K (.ref f_w) = true)
    (a_s : PySem.W.nsIn K mainGlobals "square_by" = some (some (.ref f_s))) (l_s : K.lookup f_s = some ⟨oc_s, od_s, .func (PySem.W.fnOf "square_by" "square_by" (defArgs sSquare) (defBody sSquare) (defScope sSquare) .none kV_s dc_s pm_s an_s cd_s ct_s), sl_s⟩) (c_s : PySem.W.codeIn K cd_s "square_by" = true) (k_s : PySem.W.keepIn K (.ref f_s) = true)
    (a_k : PySem.W.nsIn K mainGlobals "known_part" = some (some (.ref f_k))) (l_k : K.lookup f_k = some ⟨oc_k, od_k, .func (PySem.W.fnOf "known_part" "known_part" (defArgs sKnown) (defBody sKnown) (defScope sKnown) .none kV_k dc_k pm_k an_k cd_k ct_k), sl_k⟩) (c_k : PySem.W.codeIn K cd_k "known_part" = true) (k_k : PySem.W.keepIn K (.ref f_k) = true)
    (a_l : PySem.W.nsIn K mainGlobals "left_of" = some (some (.ref f_l))) (l_l : K.lookup f_l = some ⟨oc_l, od_l, .func (PySem.W.fnOf "left_of" "left_of" (defArgs sLeft) (defBody sLeft) (defScope sLeft) .none kV_l dc_l pm_l an_l cd_l ct_l), sl_l⟩) (c_l : PySem.W.codeIn K cd_l "left_of" = true) (k_l : PySem.W.keepIn K (.ref f_l) = true)
    (a_n : PySem.W.nsIn K mainGlobals "wanted" = some (some (.ref f_n))) (l_n : K.lookup f_n = some ⟨oc_n, od_n, .func (PySem.W.fnOf "wanted" "wanted" (defArgs sWanted) (defBody sWanted) (defScope sWanted) .none kV_n dc_n pm_n an_n cd_n ct_n), sl_n⟩) (c_n : PySem.W.codeIn K cd_n "wanted" = true) (k_n : PySem.W.keepIn K (.ref f_n) = true)
    (a_f : PySem.W.nsIn K mainGlobals "fits" = some (some (.ref f_f))) (l_f : K.lookup f_f = some ⟨oc_f, od_f, .func (PySem.W.fnOf "fits" "fits" (defArgs sFits) (defBody sFits) (defScope sFits) .none kV_f dc_f pm_f an_f cd_f ct_f), sl_f⟩) (c_f : PySem.W.codeIn K cd_f "fits" = true) (k_f : PySem.W.keepIn K (.ref f_f) = true)
    (a_a : PySem.W.nsIn K mainGlobals "number_with_also" = some (some (.ref f_a))) (l_a : K.lookup f_a = some ⟨oc_a, od_a, .func (PySem.W.fnOf "number_with_also" "number_with_also" (defArgs sAlso) (defBody sAlso) (defScope sAlso) .none kV_a dc_a pm_a an_a cd_a ct_a), sl_a⟩) (c_a : PySem.W.codeIn K cd_a "number_with_also" = true) (k_a : PySem.W.keepIn K (.ref f_a) = true)
    (a_m : PySem.W.nsIn K mainGlobals "number_with" = some (some (.ref f_m))) (l_m : K.lookup f_m = some ⟨oc_m, od_m, .func (PySem.W.fnOf "number_with" "number_with" (defArgs sNumber) (defBody sNumber) (defScope sNumber) .none kV_m dc_m pm_m an_m cd_m ct_m), sl_m⟩) (c_m : PySem.W.codeIn K cd_m "number_with" = true) (k_m : PySem.W.keepIn K (.ref f_m) = true)
    (a_lc : PySem.W.nsIn K mainGlobals "_law_cell_at" = some (some (.ref f_lc))) (l_lc : K.lookup f_lc = some ⟨oc_lc, od_lc, .func (PySem.W.fnOf "_law_cell_at" "_law_cell_at" (defArgs lCell) (defBody lCell) (defScope lCell) .none kV_lc dc_lc pm_lc an_lc cd_lc ct_lc), sl_lc⟩) (c_lc : PySem.W.codeIn K cd_lc "_law_cell_at" = true) (k_lc : PySem.W.keepIn K (.ref f_lc) = true)
    (a_lb : PySem.W.nsIn K mainGlobals "_law_big" = some (some (.ref f_lb))) (l_lb : K.lookup f_lb = some ⟨oc_lb, od_lb, .func (PySem.W.fnOf "_law_big" "_law_big" (defArgs lBig) (defBody lBig) (defScope lBig) .none kV_lb dc_lb pm_lb an_lb cd_lb ct_lb), sl_lb⟩) (c_lb : PySem.W.codeIn K cd_lb "_law_big" = true) (k_lb : PySem.W.keepIn K (.ref f_lb) = true)
    (a_ls : PySem.W.nsIn K mainGlobals "_law_classes" = some (some (.ref f_ls))) (l_ls : K.lookup f_ls = some ⟨oc_ls, od_ls, .func (PySem.W.fnOf "_law_classes" "_law_classes" (defArgs lClasses) (defBody lClasses) (defScope lClasses) .none kV_ls dc_ls pm_ls an_ls cd_ls ct_ls), sl_ls⟩) (c_ls : PySem.W.codeIn K cd_ls "_law_classes" = true) (k_ls : PySem.W.keepIn K (.ref f_ls) = true)
    (a_lk : PySem.W.nsIn K mainGlobals "_law_known" = some (some (.ref f_lk))) (l_lk : K.lookup f_lk = some ⟨oc_lk, od_lk, .func (PySem.W.fnOf "_law_known" "_law_known" (defArgs lKnown) (defBody lKnown) (defScope lKnown) .none kV_lk dc_lk pm_lk an_lk cd_lk ct_lk), sl_lk⟩) (c_lk : PySem.W.codeIn K cd_lk "_law_known" = true) (k_lk : PySem.W.keepIn K (.ref f_lk) = true)
    (a_lq : PySem.W.nsIn K mainGlobals "_law_square" = some (some (.ref f_lq))) (l_lq : K.lookup f_lq = some ⟨oc_lq, od_lq, .func (PySem.W.fnOf "_law_square" "_law_square" (defArgs lSquare) (defBody lSquare) (defScope lSquare) .none kV_lq dc_lq pm_lq an_lq cd_lq ct_lq), sl_lq⟩) (c_lq : PySem.W.codeIn K cd_lq "_law_square" = true) (k_lq : PySem.W.keepIn K (.ref f_lq) = true)
    (a_lf : PySem.W.nsIn K mainGlobals "_law_fits" = some (some (.ref f_lf))) (l_lf : K.lookup f_lf = some ⟨oc_lf, od_lf, .func (PySem.W.fnOf "_law_fits" "_law_fits" (defArgs lFits) (defBody lFits) (defScope lFits) .none kV_lf dc_lf pm_lf an_lf cd_lf ct_lf), sl_lf⟩) (c_lf : PySem.W.codeIn K cd_lf "_law_fits" = true) (k_lf : PySem.W.keepIn K (.ref f_lf) = true)
    (a_lp : PySem.W.nsIn K mainGlobals "_law_prime" = some (some (.ref f_lp))) (l_lp : K.lookup f_lp = some ⟨oc_lp, od_lp, .func (PySem.W.fnOf "_law_prime" "_law_prime" (defArgs lPrime) (defBody lPrime) (defScope lPrime) .none kV_lp dc_lp pm_lp an_lp cd_lp ct_lp), sl_lp⟩) (c_lp : PySem.W.codeIn K cd_lp "_law_prime" = true) (k_lp : PySem.W.keepIn K (.ref f_lp) = true)
    (a_lh : PySem.W.nsIn K mainGlobals "_law_held" = some (some (.ref f_lh))) (l_lh : K.lookup f_lh = some ⟨oc_lh, od_lh, .func (PySem.W.fnOf "_law_held" "_law_held" (defArgs lHeld) (defBody lHeld) (defScope lHeld) .none kV_lh dc_lh pm_lh an_lh cd_lh ct_lh), sl_lh⟩) (c_lh : PySem.W.codeIn K cd_lh "_law_held" = true) (k_lh : PySem.W.keepIn K (.ref f_lh) = true)
    (a_la : PySem.W.nsIn K mainGlobals "law" = some (some (.ref f_la))) (l_la : K.lookup f_la = some ⟨oc_la, od_la, .func (PySem.W.fnOf "law" "law" (defArgs lLaw) (defBody lLaw) (defScope lLaw) .none kV_la dc_la pm_la an_la cd_la ct_la), sl_la⟩) (c_la : PySem.W.codeIn K cd_la "law" = true) (k_la : PySem.W.keepIn K (.ref f_la) = true)
    (aS : PySem.W.nsIn K mainGlobals "SMALL" = some (some (.ref fS))) (lS : K.lookup fS = some ⟨.type "tuple", dS, .seq #[.int 2 u1, .int 3 u2, .int 5 u3, .int 7 u4, .int 11 u5, .int 13 u6] nS, slS⟩)
    (aO : PySem.W.nsIn K mainGlobals "ODD" = some (some (.ref fO))) (lO : K.lookup fO = some ⟨.type "tuple", dO, .seq #[.int 3 v1, .int 5 v2, .int 7 v3, .int 11 v4, .int 13 v5] nO, slO⟩)
    (z_len : PySem.W.nsIn K mainGlobals "len" = some none) (z_zip : PySem.W.nsIn K mainGlobals "zip" = some none) (z_range : PySem.W.nsIn K mainGlobals "range" = some none) (z_min : PySem.W.nsIn K mainGlobals "min" = some none) (z_abs : PySem.W.nsIn K mainGlobals "abs" = some none) (z_isinstance : PySem.W.nsIn K mainGlobals "isinstance" = some none) (z_int : PySem.W.nsIn K mainGlobals "int" = some none) (z_bool : PySem.W.nsIn K mainGlobals "bool" = some none) (z_list : PySem.W.nsIn K mainGlobals "list" = some none) :
    ∃ fd : FuncData, (∀ (s : Shared) (v : Value), BindsTo s fd ⟨[v], []⟩ [("_law_script", v)]) ∧ ∀ base : Heap, K.In base → base.Ns mainGlobals mg → FnOk l.prog w K mg base CX0 7 fa fd ["_law_script"] (spLaw K) := by
  have e := hfa.symm.trans (PySem.W.mg_of X G a_la)
  cases e
  have F_p := fun_mk (st := sPrime) l_p c_p k_p
  have F_w := fun_mk (st := sPower) l_w c_w k_w
  have F_s := fun_mk (st := sSquare) l_s c_s k_s
  have F_k := fun_mk (st := sKnown) l_k c_k k_k
  have F_l := fun_mk (st := sLeft) l_l c_l k_l
  have F_n := fun_mk (st := sWanted) l_n c_n k_n
  have F_f := fun_mk (st := sFits) l_f c_f k_f
  have F_a := fun_mk (st := sAlso) l_a c_a k_a
  have F_m := fun_mk (st := sNumber) l_m c_m k_m
  have F_lc := fun_mk (st := lCell) l_lc c_lc k_lc
  have F_lb := fun_mk (st := lBig) l_lb c_lb k_lb
  have F_ls := fun_mk (st := lClasses) l_ls c_ls k_ls
  have F_lk := fun_mk (st := lKnown) l_lk c_lk k_lk
  have F_lq := fun_mk (st := lSquare) l_lq c_lq k_lq
  have F_lf := fun_mk (st := lFits) l_lf c_lf k_lf
  have F_lp := fun_mk (st := lPrime) l_lp c_lp k_lp
  have F_lh := fun_mk (st := lHeld) l_lh c_lh k_lh
  have F_la := fun_mk (st := lLaw) l_la c_la k_la
  have b_p := F_p.binds (ps := ["k"]) fun _ _ _ _ _ _ us hl => match us, hl with | [_], _ => rfl
  have b_w := F_w.binds (ps := ["k", "often", "m"]) fun _ _ _ _ _ _ us hl => match us, hl with | [_, _, _], _ => rfl
  have b_s := F_s.binds (ps := ["k", "p"]) fun _ _ _ _ _ _ us hl => match us, hl with | [_, _], _ => rfl
  have b_k := F_k.binds (ps := ["classes"]) fun _ _ _ _ _ _ us hl => match us, hl with | [_], _ => rfl
  have b_l := F_l.binds (ps := ["number", "p"]) fun _ _ _ _ _ _ us hl => match us, hl with | [_, _], _ => rfl
  have b_n := F_n.binds (ps := ["known", "classes"]) fun _ _ _ _ _ _ us hl => match us, hl with | [_, _], _ => rfl
  have b_f := F_f.binds (ps := ["q", "want"]) fun _ _ _ _ _ _ us hl => match us, hl with | [_, _], _ => rfl
  have b_a := F_a.binds (ps := ["classes", "former", "sign"]) fun _ _ _ _ _ _ us hl => match us, hl with | [_, _, _], _ => rfl
  have b_m := F_m.binds (ps := ["classes"]) fun _ _ _ _ _ _ us hl => match us, hl with | [_], _ => rfl
  have b_lc := F_lc.binds (ps := ["_law_script", "_law_k"]) fun _ _ _ _ _ _ us hl => match us, hl with | [_, _], _ => rfl
  have b_lb := F_lb.binds (ps := ["_law_cell", "_law_k"]) fun _ _ _ _ _ _ us hl => match us, hl with | [_, _], _ => rfl
  have b_ls := F_ls.binds (ps := ["_law_cell"]) fun _ _ _ _ _ _ us hl => match us, hl with | [_], _ => rfl
  have b_lk := F_lk.binds (ps := ["_law_classes_here"]) fun _ _ _ _ _ _ us hl => match us, hl with | [_], _ => rfl
  have b_lq := F_lq.binds (ps := ["_law_k", "_law_p"]) fun _ _ _ _ _ _ us hl => match us, hl with | [_, _], _ => rfl
  have b_lf := F_lf.binds (ps := ["_law_number", "_law_classes_here"]) fun _ _ _ _ _ _ us hl => match us, hl with | [_, _], _ => rfl
  have b_lp := F_lp.binds (ps := ["_law_k"]) fun _ _ _ _ _ _ us hl => match us, hl with | [_], _ => rfl
  have b_lh := F_lh.binds (ps := ["_law_classes_here"]) fun _ _ _ _ _ _ us hl => match us, hl with | [_], _ => rfl
  have m_len := PySem.W.mg_none_of X G z_len
  have m_zip := PySem.W.mg_none_of X G z_zip
  have m_range := PySem.W.mg_none_of X G z_range
  have m_min := PySem.W.mg_none_of X G z_min
  have m_abs := PySem.W.mg_none_of X G z_abs
  have m_isinstance := PySem.W.mg_none_of X G z_isinstance
  have m_int := PySem.W.mg_none_of X G z_int
  have m_bool := PySem.W.mg_none_of X G z_bool
  have m_list := PySem.W.mg_none_of X G z_list
  have T : Tups K mg fS fO := ⟨PySem.W.mg_of X G aS, PySem.W.mg_of X G aO,
    fun H => tup_in (its := [.int 2 u1, .int 3 u2, .int 5 u3, .int 7 u4, .int 11 u5, .int 13 u6]) (xs := smalls) lS (by show 6 ≤ 1000; decide) (.cons ⟨_, rfl⟩ (.cons ⟨_, rfl⟩ (.cons ⟨_, rfl⟩ (.cons ⟨_, rfl⟩ (.cons ⟨_, rfl⟩ (.cons ⟨_, rfl⟩ .nil)))))) H,
    fun H => tup_in (its := [.int 3 v1, .int 5 v2, .int 7 v3, .int 11 v4, .int 13 v5]) (xs := odds) lO (by show 5 ≤ 1000; decide) (.cons ⟨_, rfl⟩ (.cons ⟨_, rfl⟩ (.cons ⟨_, rfl⟩ (.cons ⟨_, rfl⟩ (.cons ⟨_, rfl⟩ .nil))))) H⟩
  refine ⟨PySem.W.fnOf "law" "law" (defArgs lLaw) (defBody lLaw) (defScope lLaw) .none kV_la dc_la pm_la an_la cd_la ct_la, fun s v => .of_eq rfl, fun base _ _ => ?_⟩
  have C_p : Cal l.prog w K mg base 1 "is_prime" ["k"] spPrime f_p _ := ⟨ok_prime F_p, k_p, b_p, PySem.W.mg_of X G a_p⟩
  have C_s : Cal l.prog w K mg base 2 "square_by" ["k", "p"] spSquare f_s _ := ⟨ok_square F_s F_w b_w (PySem.W.mg_of X G a_w), k_s, b_s, PySem.W.mg_of X G a_s⟩
  have C_l : Cal l.prog w K mg base 1 "left_of" ["number", "p"] spLeft f_l _ := ⟨ok_left F_l, k_l, b_l, PySem.W.mg_of X G a_l⟩
  have C_k : Cal l.prog w K mg base 1 "known_part" ["classes"] spKnown f_k _ := ⟨ok_known F_k T m_zip, k_k, b_k, PySem.W.mg_of X G a_k⟩
  have L2' := C_l.mono (show 1 ≤ 2 by decide)
  have C_n : Cal l.prog w K mg base 3 "wanted" ["known", "classes"] spWanted f_n _ := ⟨ok_wanted F_n T m_zip L2'.ok L2'.kp L2'.bd L2'.mg C_s.ok C_s.kp C_s.bd C_s.mg, k_n, b_n, PySem.W.mg_of X G a_n⟩
  have C_f : Cal l.prog w K mg base 3 "fits" ["q", "want"] (spFits K) f_f _ := ⟨ok_fits F_f T m_zip C_s.ok C_s.kp C_s.bd C_s.mg, k_f, b_f, PySem.W.mg_of X G a_f⟩
  have C_a : Cal l.prog w K mg base 4 "number_with_also" ["classes", "former", "sign"] spAlso f_a _ := ⟨ok_also F_a (C_k.mono (by decide)) C_n C_f (C_p.mono (by decide)) (C_s.mono (by decide)), k_a, b_a, PySem.W.mg_of X G a_a⟩
  have C_m : Cal l.prog w K mg base 5 "number_with" ["classes"] spNumber f_m _ := ⟨ok_number F_m C_a, k_m, b_m, PySem.W.mg_of X G a_m⟩
  have C_lc : Cal l.prog w K mg base 1 "_law_cell_at" ["_law_script", "_law_k"] (spCell K) f_lc _ := ⟨ok_cell F_lc m_len, k_lc, b_lc, PySem.W.mg_of X G a_lc⟩
  have C_lb : Cal l.prog w K mg base 1 "_law_big" ["_law_cell", "_law_k"] spBig f_lb _ := ⟨ok_big F_lb m_abs m_range, k_lb, b_lb, PySem.W.mg_of X G a_lb⟩
  have C_ls : Cal l.prog w K mg base 1 "_law_classes" ["_law_cell"] spClasses f_ls _ := ⟨ok_classes F_ls, k_ls, b_ls, PySem.W.mg_of X G a_ls⟩
  have C_lk : Cal l.prog w K mg base 1 "_law_known" ["_law_classes_here"] spLKnown f_lk _ := ⟨ok_lknown F_lk m_range, k_lk, b_lk, PySem.W.mg_of X G a_lk⟩
  have C_lq : Cal l.prog w K mg base 1 "_law_square" ["_law_k", "_law_p"] spLSquare f_lq _ := ⟨ok_lsquare F_lq, k_lq, b_lq, PySem.W.mg_of X G a_lq⟩
  have C_lf : Cal l.prog w K mg base 2 "_law_fits" ["_law_number", "_law_classes_here"] spLFits f_lf _ := ⟨ok_lfits F_lf m_range C_lq, k_lf, b_lf, PySem.W.mg_of X G a_lf⟩
  have C_lp : Cal l.prog w K mg base 1 "_law_prime" ["_law_k"] spLp f_lp _ := ⟨ok_lp F_lp, k_lp, b_lp, PySem.W.mg_of X G a_lp⟩
  have C_lh : Cal l.prog w K mg base 6 "_law_held" ["_law_classes_here"] spHeld f_lh _ := ⟨ok_held F_lh m_range m_isinstance m_int m_bool m_list C_m (C_lk.mono (by decide)) (C_lf.mono (by decide)) (C_lp.mono (by decide)), k_lh, b_lh, PySem.W.mg_of X G a_lh⟩
  exact ok_law F_la m_range m_min m_len (C_lc.mono (by decide)) (C_lb.mono (by decide)) (C_ls.mono (by decide)) C_lh
end Wn
open PySem PySem.W PyProof.Rows
set_option maxRecDepth 100000 in
set_option maxHeartbeats 0 in
theorem PySem.Challenge.cw_everyplace_k45_whole_wished_numbers_holds : PySem.Challenge.rw_everyplace_k45_whole_wished_numbers.Holds := by
  w_on; o_law; k_head; (case hw => w_witness2)
  k_fill
  refine L2.walk_of (l := PySem.Challenge.rw_everyplace_k45_whole_wished_numbers) (n := 63) (k := 7) (x := "_law_script") (CX := fun _ => L2.CX0) (sp := fun w => Wn.spLaw _) rfl (by decide) rfl ⟨rfl, by decide, by decide⟩ (fun w h Y => PySem.W.kIn_of Y) ?F (fun _ _ a ns hl _ hS => ⟨a, ns, rfl, hS, hl, fun _ => rfl⟩) (fun _ _ _ _ _ h => h)
  case F =>
    intro w mg fa h KX G hmg
    refine' Wn.all_mk KX G hmg ?a_p ?l_p ?c_p ?k_p ?a_w ?l_w ?c_w ?k_w ?a_s ?l_s ?c_s ?k_s ?a_k ?l_k ?c_k ?k_k ?a_l ?l_l ?c_l ?k_l ?a_n ?l_n ?c_n ?k_n ?a_f ?l_f ?c_f ?k_f ?a_a ?l_a ?c_a ?k_a ?a_m ?l_m ?c_m ?k_m ?a_lc ?l_lc ?c_lc ?k_lc ?a_lb ?l_lb ?c_lb ?k_lb ?a_ls ?l_ls ?c_ls ?k_ls ?a_lk ?l_lk ?c_lk ?k_lk ?a_lq ?l_lq ?c_lq ?k_lq ?a_lf ?l_lf ?c_lf ?k_lf ?a_lp ?l_lp ?c_lp ?k_lp ?a_lh ?l_lh ?c_lh ?k_lh ?a_la ?l_la ?c_la ?k_la ?aS ?lS ?aO ?lO ?z_len ?z_zip ?z_range ?z_min ?z_abs ?z_isinstance ?z_int ?z_bool ?z_list
    (case a_p => k_is)
    (case l_p => k_is)
    (case c_p => k_is)
    (case k_p => k_is)
    (case a_w => k_is)
    (case l_w => k_is)
    (case c_w => k_is)
    (case k_w => k_is)
    (case a_s => k_is)
    (case l_s => k_is)
    (case c_s => k_is)
    (case k_s => k_is)
    (case a_k => k_is)
    (case l_k => k_is)
    (case c_k => k_is)
    (case k_k => k_is)
    (case a_l => k_is)
    (case l_l => k_is)
    (case c_l => k_is)
    (case k_l => k_is)
    (case a_n => k_is)
    (case l_n => k_is)
    (case c_n => k_is)
    (case k_n => k_is)
    (case a_f => k_is)
    (case l_f => k_is)
    (case c_f => k_is)
    (case k_f => k_is)
    (case a_a => k_is)
    (case l_a => k_is)
    (case c_a => k_is)
    (case k_a => k_is)
    (case a_m => k_is)
    (case l_m => k_is)
    (case c_m => k_is)
    (case k_m => k_is)
    (case a_lc => k_is)
    (case l_lc => k_is)
    (case c_lc => k_is)
    (case k_lc => k_is)
    (case a_lb => k_is)
    (case l_lb => k_is)
    (case c_lb => k_is)
    (case k_lb => k_is)
    (case a_ls => k_is)
    (case l_ls => k_is)
    (case c_ls => k_is)
    (case k_ls => k_is)
    (case a_lk => k_is)
    (case l_lk => k_is)
    (case c_lk => k_is)
    (case k_lk => k_is)
    (case a_lq => k_is)
    (case l_lq => k_is)
    (case c_lq => k_is)
    (case k_lq => k_is)
    (case a_lf => k_is)
    (case l_lf => k_is)
    (case c_lf => k_is)
    (case k_lf => k_is)
    (case a_lp => k_is)
    (case l_lp => k_is)
    (case c_lp => k_is)
    (case k_lp => k_is)
    (case a_lh => k_is)
    (case l_lh => k_is)
    (case c_lh => k_is)
    (case k_lh => k_is)
    (case a_la => k_is)
    (case l_la => k_is)
    (case c_la => k_is)
    (case k_la => k_is)
    (case aS => k_is)
    (case lS => k_is)
    (case aO => k_is)
    (case lO => k_is)
    (case z_len => k_is)
    (case z_zip => k_is)
    (case z_range => k_is)
    (case z_min => k_is)
    (case z_abs => k_is)
    (case z_isinstance => k_is)
    (case z_int => k_is)
    (case z_bool => k_is)
    (case z_list => k_is)
