/- For every bound and every mean: Means holds the mean if its range meets the bound, and no smaller bound does. -/
import Derived.Test.YtjibamedpdpofaaQQuantaMeansFitx22
import Derived.OpenShut
import Derived.Laws.Bits64
import Derived.Laws.BitsAllLaws
import Derived.Laws.BitsLemmas
namespace Go.Proofs.Ytjibamedpdpofaa.Pure
open Go.RowKit Go.Proofs.Ytjibamedpdpofaa.QQuantaMeansFit Go.Proofs.YtjibamedpdpofaaW.PrintWords Go.Proofs.YtjibamedpdpofaaW.PrintLast Go.Proofs.YtjibamedpdpofaaW.PrintMore
set_option linter.unusedVariables false
set_option linter.unusedSimpArgs false
theorem wid {x : Int} (h : -9223372036854775808 ≤ x) (h' : x ≤ 9223372036854775807) : wrap64 x = x := by unfold wrap64; omega
theorem wuid {x : Int} (h : 0 ≤ x) (h' : x ≤ 18446744073709551615) : IntKind.u64.wrap x = x := by rw [IntKind.wrap_u64]; omega
theorem mul_bd {a b A B : Int} (h1 : -A ≤ a) (h2 : a ≤ A) (h3 : -B ≤ b) (h4 : b ≤ B) : -(A * B) ≤ a * b ∧ a * b ≤ A * B := by
  have e : (a * b).natAbs = a.natAbs * b.natAbs := Int.natAbs_mul a b
  have l : a.natAbs * b.natAbs ≤ A.toNat * B.toNat := Nat.mul_le_mul (by omega) (by omega)
  have f : ((A.toNat * B.toNat : Nat) : Int) = A * B := by rw [Int.natCast_mul]; congr 1 <;> omega
  omega
theorem mul_nn {a b : Int} (h1 : 0 ≤ a) (h2 : 0 ≤ b) : 0 ≤ a * b := Int.mul_nonneg h1 h2
theorem mul_le {a b A B : Int} (h1 : 0 ≤ a) (h2 : a ≤ A) (h3 : 0 ≤ b) (h4 : b ≤ B) : 0 ≤ a * b ∧ a * b ≤ A * B :=
  ⟨Int.mul_nonneg h1 h3, Int.mul_le_mul h2 h4 h3 (by omega)⟩
/-- Squares tell which of two numbers is greater. -/
theorem sq_le {a b : Int} (h : a ≤ b) (ha : 0 ≤ a) : a * a ≤ b * b := Int.mul_le_mul h h ha (by omega)
theorem sq_lt {a b : Int} (ha : 0 ≤ a) (hb : 0 ≤ b) (h : a * a < b * b) : a < b := by
  rcases Int.lt_or_le a b with g | g
  · exact g
  · have := sq_le g hb; omega
theorem mxv (a b : Int) : mx a b = if a ≤ b then b else a := by unfold mx; split <;> omega
theorem tdiv_nn {a b : Int} (h : 0 ≤ a) : Int.tdiv a b = a / b := Int.tdiv_eq_ediv_of_nonneg h
theorem tmod_nn {a b : Int} (h : 0 ≤ a) : Int.tmod a b = a % b := Int.tmod_eq_emod_of_nonneg h
theorem i64_and_low (x : Int) (i : Nat) (hi : i ≤ 62) : Go.bits .and .i64 x ((2 ^ i - 1 : Nat) : Int) = (((x % 18446744073709551616).toNat % 2 ^ i : Nat) : Int) := by
  have hp : 2 ^ i ≤ 2 ^ 62 := Nat.pow_le_pow_right (by decide) hi
  have hpos : 0 < 2 ^ i := Nat.two_pow_pos i
  have e1 : (BitVec.ofInt 64 x).toNat = (x % 18446744073709551616).toNat := by simp [BitVec.toNat_ofInt]
  have hb : (2 ^ i - 1) % 2 ^ IntKind.i64.bits = 2 ^ i - 1 := Nat.mod_eq_of_lt (by show 2 ^ i - 1 < 2 ^ 64; omega)
  simp only [Go.bits, BitVec.ofInt_natCast, BitVec.toNat_and, BitVec.toNat_ofNat, hb]
  rw [show (BitVec.ofInt IntKind.i64.bits x).toNat = (x % 18446744073709551616).toNat from e1, Nat.and_two_pow_sub_one_eq_mod]
  have := Nat.mod_lt (x % 18446744073709551616).toNat hpos
  rw [IntKind.wrap_i64]
  omega
theorem u64_and32 (x : Int) (h0 : 0 ≤ x) (h1 : x < 18446744073709551616) : Go.bits .and .u64 x 4294967295 = x % 4294967296 := by
  rw [Go.u64_and x 4294967295 h0 h1 (by decide) (by decide)]
  have : x.toNat &&& (4294967295 : Int).toNat = x.toNat % 4294967296 := Nat.and_two_pow_sub_one_eq_mod x.toNat 32
  rw [this]
  omega
theorem mul64_eq (a b : Int) (ha : 0 ≤ a) (ha' : a < 18446744073709551616) (hb : 0 ≤ b) (hb' : b < 18446744073709551616) :
    bits_Mul64.f a b = some (a * b / 18446744073709551616, a * b % 18446744073709551616) := by
  unfold bits_Mul64.f
  rw [u64_and32 a ha ha', u64_and32 b hb hb']
  have h1 := mul_le (a := a / 4294967296) (b := b / 4294967296) (A := 4294967295) (B := 4294967295) (by omega) (by omega) (by omega) (by omega)
  have h2 := mul_le (a := a / 4294967296) (b := b % 4294967296) (A := 4294967295) (B := 4294967295) (by omega) (by omega) (by omega) (by omega)
  have h3 := mul_le (a := a % 4294967296) (b := b / 4294967296) (A := 4294967295) (B := 4294967295) (by omega) (by omega) (by omega) (by omega)
  have h4 := mul_le (a := a % 4294967296) (b := b % 4294967296) (A := 4294967295) (B := 4294967295) (by omega) (by omega) (by omega) (by omega)
  have e : a * b = (a / 4294967296) * (b / 4294967296) * 18446744073709551616 + ((a / 4294967296) * (b % 4294967296) + (a % 4294967296) * (b / 4294967296)) * 4294967296 + (a % 4294967296) * (b % 4294967296) := by
    have ea : a = a / 4294967296 * 4294967296 + a % 4294967296 := by omega
    have eb : b = b / 4294967296 * 4294967296 + b % 4294967296 := by omega
    generalize a / 4294967296 = x1 at *
    generalize a % 4294967296 = x0 at *
    generalize b / 4294967296 = y1 at *
    generalize b % 4294967296 = y0 at *
    subst ea eb
    grind
  rw [IntKind.wrap_u64 (a * b), e]
  generalize (a / 4294967296) * (b / 4294967296) = p at *
  generalize (a / 4294967296) * (b % 4294967296) = q at *
  generalize (a % 4294967296) * (b / 4294967296) = r at *
  generalize (a % 4294967296) * (b % 4294967296) = s at *
  rw [wuid (x := s) (by omega) (by omega), wuid (x := p) (by omega) (by omega), wuid (x := q) (by omega) (by omega), wuid (x := r) (by omega) (by omega)]
  rw [wuid (x := q + s / 4294967296) (by omega) (by omega)]
  rw [u64_and32 (q + s / 4294967296) (by omega) (by omega)]
  rw [wuid (x := p + (q + s / 4294967296) / 4294967296) (by omega) (by omega)]
  rw [wuid (x := (q + s / 4294967296) % 4294967296 + r) (by omega) (by omega)]
  rw [wuid (by omega) (by omega)]
  have e1 : p + (q + s / 4294967296) / 4294967296 + ((q + s / 4294967296) % 4294967296 + r) / 4294967296 = (p * 18446744073709551616 + (q + r) * 4294967296 + s) / 18446744073709551616 := by omega
  rw [e1]
theorem or_bit (r : Int) (j : Nat) (hr : 0 ≤ r) (hm : r % 2 ^ (j + 1) = 0) (h : r + 2 ^ j < 18446744073709551616) (hj : j ≤ 62) : Go.bits .or .u64 r (2 ^ j) = r + 2 ^ j := by
  have hp : (0 : Int) < 2 ^ j := Int.pow_pos (by decide)
  have hlt : (2 : Int) ^ j < 2 ^ (j + 1) := by rw [Int.pow_succ]; omega
  exact Go.bits_join .u64 64 (by decide) (fun n h0 h1 => by have h2 : n < 18446744073709551616 := h1; rw [IntKind.wrap_u64]; omega) (j + 1) r (2 ^ j) hr hm (by show r < 18446744073709551616; omega) (by omega) hlt (by show (2 : Int) ^ j < 18446744073709551616; omega)

theorem sqrt_end (k : Nat) (u v r : Int) (hk : 0 < k) : num_SqrtMul.l0 k u v r 0 = some (wrap64 r) := by
  obtain ⟨k, rfl⟩ : ∃ m, k = m + 1 := ⟨k - 1, by omega⟩
  simp only [num_SqrtMul.l0]
  rw [if_neg (by decide)]
theorem sqrt_loop (P : Int) (hP : 0 ≤ P) (hP' : P < 85070591730234615865843651857942052864) (j : Nat) : ∀ (r : Int) (k : Nat), j ≤ 62 → 0 ≤ r → r % 2 ^ (j + 1) = 0 → r + 2 ^ (j + 1) ≤ 9223372036854775808 → r * r ≤ P → P < (r + 2 ^ (j + 1)) * (r + 2 ^ (j + 1)) → j + 1 < k →
    ∃ s, num_SqrtMul.l0 k (P / 18446744073709551616) (P % 18446744073709551616) r (2 ^ j) = some s ∧ 0 ≤ s ∧ s ≤ 9223372036854775807 ∧ s * s ≤ P ∧ P < (s + 1) * (s + 1) := by
  induction j with
  | zero =>
    intro r k _ h0 hm hb hlo hhi hk
    obtain ⟨k, rfl⟩ : ∃ m, k = m + 1 := ⟨k - 1, by omega⟩
    simp only [num_SqrtMul.l0]
    have hor := or_bit r 0 h0 hm (by omega) (by omega)
    have hsq := mul_le (a := r + 1) (b := r + 1) (A := 9223372036854775807) (B := 9223372036854775807) (by omega) (by omega) (by omega) (by omega)
    rw [if_pos (by decide), hor, show (2 : Int) ^ 0 = 1 by rfl, mul64_eq (r + 1) (r + 1) (by omega) (by omega) (by omega) (by omega)]
    simp only [Option.bind_some]
    have e2 : (1 : Int) / 2 = 0 := by decide
    have hhi2 : P < (r + 2) * (r + 2) := hhi
    rw [e2, sqrt_end k _ _ (r + 1) (by omega), sqrt_end k _ _ r (by omega)]
    by_cases c : (r + 1) * (r + 1) ≤ P
    · refine ⟨r + 1, ?_, by omega, by omega, c, ?_⟩
      · generalize (r + 1) * (r + 1) = Q at *
        rw [wid (x := r + 1) (by omega) (by omega)]
        by_cases c1 : Q / 18446744073709551616 < P / 18446744073709551616
        · rw [if_pos c1]
        · rw [if_neg c1, if_pos (by omega), if_pos (by omega)]
      · rw [show r + 1 + 1 = r + 2 by omega]; exact hhi2
    · refine ⟨r, ?_, by omega, by omega, hlo, by omega⟩
      generalize (r + 1) * (r + 1) = Q at *
      rw [wid (x := r) (by omega) (by omega), if_neg (by omega)]
      by_cases c1 : Q / 18446744073709551616 = P / 18446744073709551616
      · rw [if_pos c1, if_neg (by omega)]
      · rw [if_neg c1]
  | succ j ih =>
    intro r k hj h0 hm hb hlo hhi hk
    obtain ⟨k, rfl⟩ : ∃ m, k = m + 1 := ⟨k - 1, by omega⟩
    have hp : (0 : Int) < 2 ^ j := Int.pow_pos (by decide)
    have hp1 : (2 : Int) ^ (j + 1) = 2 * 2 ^ j := by rw [Int.pow_succ]; omega
    have hp2 : (2 : Int) ^ (j + 1 + 1) = 4 * 2 ^ j := by rw [Int.pow_succ, hp1]; omega
    have hor := or_bit r (j + 1) h0 hm (by omega) (by omega)
    have hm1 : r % 2 ^ (j + 1) = 0 := by
      have hd : ((2 : Int) ^ (j + 1)) ∣ 2 ^ (j + 1 + 1) := ⟨2, by rw [Int.pow_succ]⟩
      exact Int.emod_eq_zero_of_dvd (Int.dvd_trans hd (Int.dvd_of_emod_eq_zero hm))
    have hm2 : (r + 2 ^ (j + 1)) % 2 ^ (j + 1) = 0 := by rw [Int.add_emod_right]; exact hm1
    have hdiv : (2 : Int) ^ (j + 1) / 2 = 2 ^ j := by omega
    have hsq := mul_le (a := r + 2 ^ (j + 1)) (b := r + 2 ^ (j + 1)) (A := 9223372036854775807) (B := 9223372036854775807) (by omega) (by omega) (by omega) (by omega)
    simp only [num_SqrtMul.l0]
    rw [if_pos (by omega), hor, mul64_eq _ _ (by omega) (by omega) (by omega) (by omega)]
    simp only [Option.bind_some]
    rw [hdiv]
    by_cases c : (r + 2 ^ (j + 1)) * (r + 2 ^ (j + 1)) ≤ P
    · obtain ⟨s, e, hs⟩ := ih (r + 2 ^ (j + 1)) k (by omega) (by omega) hm2 (by omega) c (by rw [show r + 2 ^ (j + 1) + 2 ^ (j + 1) = r + 2 ^ (j + 1 + 1) by omega]; exact hhi) (by omega)
      refine ⟨s, ?_, hs⟩
      rw [e]
      generalize (r + 2 ^ (j + 1)) * (r + 2 ^ (j + 1)) = Q at *
      by_cases c1 : Q / 18446744073709551616 < P / 18446744073709551616
      · rw [if_pos c1]
      · rw [if_neg c1, if_pos (by omega), if_pos (by omega)]
    · obtain ⟨s, e, hs⟩ := ih r k (by omega) h0 hm1 (by omega) hlo (by omega) (by omega)
      refine ⟨s, ?_, hs⟩
      rw [e]
      generalize (r + 2 ^ (j + 1)) * (r + 2 ^ (j + 1)) = Q at *
      rw [if_neg (by omega)]
      by_cases c1 : Q / 18446744073709551616 = P / 18446744073709551616
      · rw [if_pos c1, if_neg (by omega)]
      · rw [if_neg c1]

theorem sqrtmul_ex (a b : Int) (ha : 0 ≤ a) (ha' : a ≤ 9223372036854775807) (hb : 0 ≤ b) (hb' : b ≤ 9223372036854775807) :
    ∃ s, (∀ k, 70 ≤ k → num_SqrtMul.f k a b = some s) ∧ 0 ≤ s ∧ s ≤ 9223372036854775807 ∧ s * s ≤ a * b ∧ a * b < (s + 1) * (s + 1) := by
  have hP := mul_le ha ha' hb hb'
  obtain ⟨s, e, hs⟩ := sqrt_loop (a * b) hP.1 (by omega) 62 0 65 (by omega) (by omega) (by decide) (by decide) (by omega) (by
    show a * b < 9223372036854775808 * 9223372036854775808
    omega) (by omega)
  refine ⟨s, ?_, hs⟩
  intro k hk
  have hp : (2 : Int) ^ 62 = 4611686018427387904 := by decide
  rw [hp] at e
  obtain ⟨k, rfl⟩ : ∃ m, k = m + 1 := ⟨k - 1, by omega⟩
  unfold num_SqrtMul.f
  rw [if_neg (by omega), show decide (b < 0) = false by simp; omega]
  simp only [num_SqrtMul.j0]
  rw [if_neg (by decide), wuid ha (by omega), wuid hb (by omega), mul64_eq a b ha (by omega) hb (by omega)]
  simp only [Option.bind_some]
  exact at_rounds (g := fun k => num_SqrtMul.l0 k (a * b / 18446744073709551616) (a * b % 18446744073709551616) 0 4611686018427387904) (fun k => (num_SqrtMul.mono_l k).2 _ _ _ _) (by omega : 65 ≤ k) e
/-- The square root of a number, rounded down. -/
noncomputable def isq (n : Int) : Int := (num_Sqrt.f 70 n).getD 0
theorem isq_all (n : Int) (h : 0 ≤ n) (h' : n ≤ 9223372036854775807) : (∀ k, 70 ≤ k → num_Sqrt.f k n = some (isq n)) ∧ 0 ≤ isq n ∧ isq n ≤ 9223372036854775807 ∧ isq n * isq n ≤ n ∧ n < (isq n + 1) * (isq n + 1) := by
  obtain ⟨s, e, h0, h1, h2, h3⟩ := sqrtmul_ex n 1 h h' (by omega) (by omega)
  have hs : ∀ k, 70 ≤ k → num_Sqrt.f k n = some s := by
    intro k hk
    unfold num_Sqrt.f
    rw [e k hk]; rfl
  have hi : isq n = s := by unfold isq; rw [hs 70 (Nat.le_refl _)]; rfl
  rw [hi]
  rw [Int.mul_one] at h2 h3
  exact ⟨hs, h0, h1, h2, h3⟩
theorem isq_mono {a b : Int} (h0 : 0 ≤ a) (h : a ≤ b) (h' : b ≤ 9223372036854775807) : isq a ≤ isq b := by
  obtain ⟨_, a0, _, a2, a3⟩ := isq_all a h0 (by omega)
  obtain ⟨_, b0, _, b2, b3⟩ := isq_all b (by omega) h'
  have : isq a < isq b + 1 := sq_lt a0 (by omega) (by omega)
  omega
/-- Which number is the root. -/
theorem isq_is {n r : Int} (h0 : 0 ≤ n) (h' : n ≤ 9223372036854775807) (hr : 0 ≤ r) (h1 : r * r ≤ n) (h2 : n < (r + 1) * (r + 1)) : isq n = r := by
  obtain ⟨_, a0, _, a2, a3⟩ := isq_all n h0 h'
  have l1 : isq n < r + 1 := sq_lt a0 (by omega) (by omega)
  have l2 : r < isq n + 1 := sq_lt hr (by omega) (by omega)
  omega
/-- A valid bound. -/
def Val (lo hi : Int) (u : Bool) : Prop := (u = true → lo = 0 ∧ hi = 0) ∧ -1152921504606846976 ≤ lo ∧ hi ≤ 1152921504606846976 ∧ lo ≤ hi
theorem val_of {lo hi : Int} (h0 : -1152921504606846976 ≤ lo) (h1 : hi ≤ 1152921504606846976) (h : lo ≤ hi) : Val lo hi false := ⟨fun z => (by cases z), h0, h1, h⟩
theorem check_Quanta (k : Nat) (lo hi : Int) (u : Bool) (hk : 3 ≤ k) : ∃ e, bound_Check_Quanta.f k lo hi u = some e ∧ (e = 0 ↔ Val lo hi u) := by
  obtain ⟨k, rfl⟩ : ∃ m, k = m + 2 := ⟨k - 2, by omega⟩
  have j1 : ∀ x, ∃ e, bound_Check_Quanta.j1 (k + 1) x lo hi u = some e ∧ (e = 0 ↔ x = false ∧ lo ≤ hi) := by
    intro x
    simp only [bound_Check_Quanta.j1]
    cases x
    · by_cases h : lo > hi
      · exact ⟨11, by rw [if_neg (by decide), if_pos h], by omega⟩
      · exact ⟨0, by rw [if_neg (by decide), if_neg h], by simp; omega⟩
    · exact ⟨4, by rw [if_pos rfl], by simp⟩
  have j0 : ∀ x, ∃ e, bound_Check_Quanta.j0 (k + 2) x lo hi u = some e ∧ (e = 0 ↔ x = false ∧ -1152921504606846976 ≤ lo ∧ hi ≤ 1152921504606846976 ∧ lo ≤ hi) := by
    intro x
    rw [bound_Check_Quanta.j0]
    have hmn : mn lo hi = if lo ≤ hi then lo else hi := by unfold mn; split <;> omega
    have hmx := mxv lo hi
    cases x
    · rw [if_neg (by decide)]
      by_cases h : mn lo hi < -1152921504606846976
      · obtain ⟨e, e1, e2⟩ := j1 true
        refine ⟨e, by rw [if_pos h]; exact e1, e2.trans ⟨fun z => by simp at z, fun z => ?_⟩⟩
        rw [hmn] at h
        exfalso
        split at h <;> omega
      · obtain ⟨e, e1, e2⟩ := j1 (decide (mx lo hi > 1152921504606846976))
        refine ⟨e, by rw [if_neg h]; exact e1, e2.trans ?_⟩
        rw [hmn] at h
        rw [hmx]
        by_cases c : lo ≤ hi
        · rw [if_pos c] at h ⊢
          simp
          omega
        · constructor
          · intro z; exact absurd z.2 c
          · intro z; exact absurd z.2.2.2 c
    · exact ⟨3, by rw [if_pos rfl], by simp⟩
  unfold bound_Check_Quanta.f Val
  cases u
  · obtain ⟨e, e1, e2⟩ := j0 false
    exact ⟨e, by rw [if_neg (by decide)]; exact e1, e2.trans (by simp)⟩
  · rw [if_pos rfl]
    by_cases h : lo = 0
    · obtain ⟨e, e1, e2⟩ := j0 (hi != 0)
      refine ⟨e, by rw [if_pos h]; exact e1, e2.trans ?_⟩
      constructor
      · rintro ⟨z1, z2⟩
        exact ⟨fun _ => ⟨h, by simpa using z1⟩, z2⟩
      · rintro ⟨z1, z2⟩
        exact ⟨by simp [(z1 rfl).2], z2⟩
    · obtain ⟨e, e1, e2⟩ := j0 true
      refine ⟨e, by rw [if_neg h]; exact e1, e2.trans ?_⟩
      constructor
      · intro z; simp at z
      · intro z; exact absurd (z.1 rfl).1 h
theorem norm_Quanta (k : Nat) (lo hi : Int) (u : Bool) (hk : 3 ≤ k) (h : Val lo hi u) : bound_Norm_Quanta.f k lo hi u = some (lo, hi, u) := by
  obtain ⟨e, e1, e2⟩ := check_Quanta k lo hi u hk
  unfold bound_Norm_Quanta.f
  rw [e1]; simp only [Option.bind_some]
  rw [if_pos (e2.mpr h)]
theorem normno_Quanta (k : Nat) (lo hi : Int) (u : Bool) (hk : 3 ≤ k) (h : ¬ Val lo hi u) : bound_Norm_Quanta.f k lo hi u = some (0, 0, true) := by
  obtain ⟨e, e1, e2⟩ := check_Quanta k lo hi u hk
  unfold bound_Norm_Quanta.f
  rw [e1]; simp only [Option.bind_some]
  rw [if_neg (fun z => h (e2.mp z))]
  rfl
theorem root_eq (k : Nat) (n : Int) (h : 0 ≤ n) (h' : n ≤ 9223372036854775807) (hk : 70 ≤ k) : quanta_root.f k n = some (isq n) := by
  unfold quanta_root.f
  rw [(isq_all n h h').1 k hk]; rfl
/-- The root of what is at most 2^38 is at most 2^19. -/
theorem isq_small {n : Int} (h : 0 ≤ n) (h' : n ≤ 274877906944) : 0 ≤ isq n ∧ isq n ≤ 524288 := by
  obtain ⟨_, a0, _, a2, a3⟩ := isq_all n h (by omega)
  refine ⟨a0, ?_⟩
  have : isq n < 524289 := sq_lt a0 (by omega) (by omega)
  omega
theorem least_loop (q : Int) (hq : q ≤ 34359738368) (n : Nat) : ∀ (k : Nat) (lo hi : Int), 0 ≤ lo → lo ≤ hi → hi ≤ 34359738368 → hi - lo < 2 ^ n → n + 71 < k → q ≤ hi + 1 + 3 * isq hi → (∀ w, 0 ≤ w → w < lo → w + 1 + 3 * isq w < q) →
    ∃ l, quanta_least.l0 k q lo hi = some l ∧ 0 ≤ l ∧ l ≤ hi ∧ q ≤ l + 1 + 3 * isq l ∧ ∀ w, 0 ≤ w → w < l → w + 1 + 3 * isq w < q := by
  induction n with
  | zero =>
    intro k lo hi h0 h1 h2 hd hk hh hl
    obtain ⟨k, rfl⟩ : ∃ m, k = m + 1 := ⟨k - 1, by omega⟩
    have : lo = hi := by simp at hd; omega
    subst this
    refine ⟨lo, ?_, h0, Int.le_refl _, hh, hl⟩
    rw [quanta_least.l0, if_neg (by omega)]
  | succ n ih =>
    intro k lo hi h0 h1 h2 hd hk hh hl
    obtain ⟨k, rfl⟩ : ∃ m, k = m + 1 := ⟨k - 1, by omega⟩
    by_cases c : lo < hi
    · have hp : (2 : Int) ^ (n + 1) = 2 * 2 ^ n := by rw [Int.pow_succ]; omega
      have r1 := isq_small (n := (lo + hi) / 2) (by omega) (by omega)
      rw [quanta_least.l0, if_pos c, wid (x := lo + hi) (by omega) (by omega), tdiv_nn (by omega), wid (x := (lo + hi) / 2) (by omega) (by omega), root_eq k ((lo + hi) / 2) (by omega) (by omega) (by omega)]
      simp only [Option.bind_some]
      rw [wid (x := (lo + hi) / 2 + 1) (by omega) (by omega), wid (x := 3 * isq ((lo + hi) / 2)) (by omega) (by omega), wid (x := (lo + hi) / 2 + 1 + 3 * isq ((lo + hi) / 2)) (by omega) (by omega)]
      by_cases c2 : (lo + hi) / 2 + 1 + 3 * isq ((lo + hi) / 2) ≥ q
      · rw [if_pos c2]
        obtain ⟨l, e, l0, l1, l2, l3⟩ := ih k lo ((lo + hi) / 2) h0 (by omega) (by omega) (by omega) (by omega) c2 hl
        exact ⟨l, e, l0, by omega, l2, l3⟩
      · rw [if_neg c2]
        refine ih k ((lo + hi) / 2 + 1) hi (by omega) (by omega) h2 (by omega) (by omega) hh ?_
        intro w w0 w1
        have := isq_mono w0 (show w ≤ (lo + hi) / 2 by omega) (by omega)
        omega
    · have : lo = hi := by omega
      subst this
      refine ⟨lo, ?_, h0, Int.le_refl _, hh, hl⟩
      rw [quanta_least.l0, if_neg (by omega)]
/-- The least whole number w with w + 1 + 3 * root >= q. -/
theorem least_ex (q : Int) (hq0 : -1152921504606846976 ≤ q) (hq : q ≤ 34359738368) : ∃ l, (∀ k, 120 ≤ k → quanta_least.f k q = some l) ∧ 0 ≤ l ∧ l ≤ 34359738368 ∧ q ≤ l + 1 + 3 * isq l ∧ ∀ w, 0 ≤ w → w < l → w + 1 + 3 * isq w < q := by
  have hm := mxv 0 q
  have hm2 : 0 ≤ mx 0 q ∧ q ≤ mx 0 q ∧ mx 0 q ≤ 34359738368 := by rw [hm]; split <;> omega
  have r := isq_small (n := mx 0 q) hm2.1 (by omega)
  obtain ⟨l, e, l0, l1, l2, l3⟩ := least_loop q hq 36 110 0 (mx 0 q) (by omega) hm2.1 hm2.2.2 (by show mx 0 q - 0 < 68719476736; omega) (by omega) (by omega) (fun w w0 w1 => by omega)
  refine ⟨l, fun k hk => ?_, l0, by omega, l2, l3⟩
  unfold quanta_least.f
  exact at_rounds (g := fun k => quanta_least.l0 k q 0 (mx 0 q)) (fun k => quanta_least.mono_l k _ _ _) (by omega : 110 ≤ k) e
/-- One more than the greatest whole number w with w - 3 * root <= q. -/
theorem most_ex (q : Int) (hq0 : 0 ≤ q) (hq : q ≤ 34359738368) : ∃ W, (∀ k, 71 ≤ k → quanta_most.f k q = some (W + 1)) ∧ 0 ≤ W ∧ W ≤ 34361311233 ∧ q ≤ W + 1 + 3 * isq W ∧ W - 3 * isq W ≤ q ∧ ∀ w, 0 ≤ w → w ≤ 1152921504606846976 → w - 3 * isq w ≤ q → w ≤ W := by
  obtain ⟨se, s0, _, s2, s3⟩ := isq_all (9 + 4 * q) (by omega) (by omega)
  have sb := isq_small (n := 9 + 4 * q) (by omega) (by omega)
  have s3' : 3 ≤ isq (9 + 4 * q) := by
    have : (2 : Int) < isq (9 + 4 * q) := by
      have := sq_lt (a := 3) (b := isq (9 + 4 * q) + 1) (by omega) (by omega) (by omega)
      omega
    omega
  generalize hs : isq (9 + 4 * q) = s at *
  obtain ⟨r, hr⟩ : ∃ r, r = (3 + s) / 2 := ⟨_, rfl⟩
  have hr1 : 2 * r ≤ 3 + s ∧ s + 2 ≤ 2 * r := by omega
  have hA : r * r ≤ q + 3 * r := by
    have := sq_le (a := 2 * r - 3) (b := s) (by omega) (by omega)
    have e : (2 * r - 3) * (2 * r - 3) = 4 * (r * r) - 12 * r + 9 := by grind
    omega
  have hB : q + 3 * (r + 1) < (r + 1) * (r + 1) := by
    have := sq_le (a := s + 1) (b := 2 * r - 1) (by omega) (by omega)
    have e : (2 * r - 1) * (2 * r - 1) = 4 * (r * r) - 4 * r + 1 := by grind
    have e2 : (r + 1) * (r + 1) = r * r + 2 * r + 1 := by grind
    omega
  have hrr := mul_le (a := r) (b := r) (A := 262145) (B := 262145) (by omega) (by omega) (by omega) (by omega)
  have e2 : (r + 1) * (r + 1) = r * r + 2 * r + 1 := by grind
  have hW : ∃ W, W = mn (r * r + 2 * r) (q + 3 * r) := ⟨_, rfl⟩
  obtain ⟨W, hW⟩ := hW
  have hW2 : W ≤ r * r + 2 * r ∧ W ≤ q + 3 * r ∧ (W = r * r + 2 * r ∨ W = q + 3 * r) := by rw [hW]; unfold mn; split <;> omega
  have hri : isq W = r := isq_is (by omega) (by omega) (by omega) (by omega) (by omega)
  refine ⟨W, fun k hk => ?_, by omega, by omega, by rw [hri]; omega, by rw [hri]; omega, ?_⟩
  · unfold quanta_most.f
    rw [wid (x := 4 * q) (by omega) (by omega), wid (x := 9 + 4 * q) (by omega) (by omega)]
    unfold quanta_root.f
    rw [se k (by omega)]
    simp only [Option.bind_some]
    rw [wid (x := 3 + s) (by omega) (by omega), tdiv_nn (by omega), ← hr, wid (x := r) (by omega) (by omega), wid (x := r * r) (by omega) (by omega), wid (x := 2 * r) (by omega) (by omega), wid (x := 3 * r) (by omega) (by omega), wid (x := r * r + 2 * r) (by omega) (by omega), wid (x := q + 3 * r) (by omega) (by omega), ← hW, wid (by omega) (by omega)]
  · intro w w0 w1 hw
    obtain ⟨_, t0, _, t2, t3⟩ := isq_all w w0 (by omega)
    generalize isq w = t at *
    have e3 : (t + 1) * (t + 1) = t * t + 2 * t + 1 := by grind
    by_cases c : t ≤ r
    · by_cases c2 : t = r
      · subst c2; omega
      · have := sq_le (a := t + 1) (b := r) (by omega) (by omega)
        omega
    · exfalso
      have h5 := mul_le (a := r + 1) (A := t) (b := r + 1 - 3) (B := t - 3) (by omega) (by omega) (by omega) (by omega)
      have e4 : (r + 1) * (r + 1 - 3) = (r + 1) * (r + 1) - 3 * (r + 1) := by rw [Int.mul_sub]; omega
      have e5 : t * (t - 3) = t * t - 3 * t := by rw [Int.mul_sub]; omega
      omega
theorem valid_eq (m : Int) (h : 0 ≤ m) (h' : m ≤ 1152921504606846976) : quanta_valid.f m = some true := by
  unfold quanta_valid.f
  rw [if_pos h]
  simp; omega
theorem spread_eq (k : Nat) (m : Int) (h : 0 ≤ m) (h' : m ≤ 1152921504606846976) (hk : 70 ≤ k) : quanta_Spread.f k m = some (3 * isq (m / 16777216)) := by
  have r := isq_small (n := m / 16777216) (by omega) (by omega)
  unfold quanta_Spread.f
  rw [valid_eq m h h']
  simp only [Option.bind_some, if_true]
  unfold quanta_whole.f
  simp only [Option.bind_some]
  rw [root_eq k _ (by omega) (by omega) hk]
  simp only [Option.bind_some]
  rw [wid (by omega) (by omega)]
/-- Whole quanta, rounded up. -/
def up (m : Int) : Int := if m % 16777216 > 0 then m / 16777216 + 1 else m / 16777216
theorem range_eq (k : Nat) (m : Int) (h : 0 ≤ m) (h' : m ≤ 1152921504606846976) (hk : 70 ≤ k) : quanta_Range.f k m = some (mx 0 (m / 16777216 - 3 * isq (m / 16777216)), up m + 3 * isq (m / 16777216), false, 0) := by
  have r := isq_small (n := m / 16777216) (by omega) (by omega)
  unfold quanta_Range.f
  rw [valid_eq m h h', spread_eq k m h h' hk]
  simp only [Option.bind_some, if_true]
  unfold quanta_whole.f up
  simp only [Option.bind_some]
  rw [tmod_nn h]
  by_cases c : m % 16777216 > 0
  · rw [if_pos c, if_pos c, wid (x := m / 16777216 - 3 * isq (m / 16777216)) (by omega) (by omega), wid (x := m / 16777216 + 1) (by omega) (by omega), wid (by omega) (by omega)]
  · rw [if_neg c, if_neg c, wid (x := m / 16777216 - 3 * isq (m / 16777216)) (by omega) (by omega), wid (by omega) (by omega)]
theorem drawn_true : spykeep3_drawn.f 80 = some true := by decide +kernel
theorem drawn_eq (k : Nat) (hk : 80 ≤ k) : spykeep3_drawn.f k = some true := at_rounds spykeep3_drawn.mono hk drawn_true
theorem mean_eq (m : Int) (s : Bool) : ∃ v, spykeep3_mean.f m s = some v ∧ 0 ≤ v ∧ v < 1152921504606846976 := by
  unfold spykeep3_mean.f
  have hb : Go.bits .and .i64 m 1152921504606846975 = (((m % 18446744073709551616).toNat % 2 ^ 60 : Nat) : Int) := i64_and_low m 60 (by decide)
  have hb2 : 0 ≤ Go.bits .and .i64 m 1152921504606846975 ∧ Go.bits .and .i64 m 1152921504606846975 < 1152921504606846976 := by rw [hb]; omega
  generalize Go.bits .and .i64 m 1152921504606846975 = x at *
  by_cases c : s = true
  · rw [if_pos c, tmod_nn hb2.1]
    exact ⟨_, rfl, by omega, by omega⟩
  · rw [if_neg c]
    exact ⟨_, rfl, hb2.1, hb2.2⟩
/-- Does the range of a mean meet the bound from lo to hi? -/
noncomputable def mt (lo hi m : Int) : Bool := decide (mx 0 (m / 16777216 - 3 * isq (m / 16777216)) ≤ hi ∧ lo ≤ up m + 3 * isq (m / 16777216))
theorem meets_eq (k : Nat) (m lo hi : Int) (u : Bool) (h : 0 ≤ m) (h' : m ≤ 1152921504606846976) (hk : 70 ≤ k) : spykeep3_QuantaMeansFit_1.f k m lo hi u = some (mt lo hi m, lo, hi, u) := by
  unfold spykeep3_QuantaMeansFit_1.f mt
  rw [range_eq k m h h' hk, Option.bind_some]
  dsimp only
  rw [if_pos rfl]
  by_cases c : mx 0 (m / 16777216 - 3 * isq (m / 16777216)) ≤ hi
  · rw [if_pos c]
    simp [c]
  · rw [if_neg c]
    simp [c]
theorem mx0 (x : Int) : 0 ≤ mx 0 x ∧ x ≤ mx 0 x ∧ (mx 0 x = 0 ∨ mx 0 x = x) := by rw [mxv]; split <;> omega
theorem QuantaMeansFit : spykeep3_QuantaMeansFit.Pure := by
  intro lo hi u m0 sm _ _ _
  obtain ⟨m, em, m0, m1⟩ := mean_eq m0 sm
  refine ⟨200, ?_⟩
  generalize hK : (200 : Nat) = K
  have hK' : 200 ≤ K := by omega
  clear hK
  obtain ⟨K, rfl⟩ : ∃ m, K = m + 2 := ⟨K - 2, by omega⟩
  unfold spykeep3_QuantaMeansFit.f
  rw [em, Option.bind_some, drawn_eq (K + 2) (by omega)]
  have none_ : ∀ b a1 a2 a3, b = true → quanta_Means.j0 (K + 2) b a1 a2 a3 = some (0, 0, true) := by
    intro b a1 a2 a3 h
    rw [h, quanta_Means.j0, if_pos rfl]
    rfl
  have yes_ : ∀ b a1 a2 a3, b = true → spykeep3_QuantaMeansFit.j0 (K + 2) m b a1 a2 a3 0 0 true = some true := by
    intro b a1 a2 a3 h
    rw [h, spykeep3_QuantaMeansFit.j0, if_pos rfl]
    rfl
  by_cases hv : Val lo hi u ∧ u = false ∧ 0 ≤ hi ∧ hi ≤ 34359738368
  · obtain ⟨hv, rfl, hh0, hh1⟩ := hv
    have hn := norm_Quanta (K + 2) lo hi false (by omega) hv
    obtain ⟨_, v1, v2, v3⟩ := hv
    have hMf : quanta_Means.f (K + 2) lo hi false = quanta_Means.j0 (K + 2) false lo hi false := by
      unfold quanta_Means.f
      rw [hn, Option.bind_some]
      dsimp only
      rw [if_neg (by decide), if_neg (by omega), show decide (hi > 34359738368) = false by simp; omega]
    obtain ⟨l, el, l0, l1, l2, l3⟩ := least_ex lo v1 (by omega)
    obtain ⟨W, eW, W0, W1, W2, W3, W4⟩ := most_ex hi hh0 hh1
    rw [hMf, quanta_Means.j0, if_neg (by decide), el (K + 1) (by omega), Option.bind_some, eW (K + 1) (by omega), Option.bind_some, Option.bind_some, Option.bind_some, if_pos rfl, hn, Option.bind_some]
    dsimp only
    rw [if_neg (by decide), if_neg (by omega), show decide (hi > 34359738368) = false by simp; omega]
    have isl := isq_small l0 (show l ≤ 274877906944 by omega)
    have isW := isq_small W0 (show W ≤ 274877906944 by omega)
    -- the ends
    have low1 : mt lo hi (l * 16777216 + 1) = true := by
      unfold mt up
      rw [show (l * 16777216 + 1) / 16777216 = l by omega, if_pos (by omega)]
      have := mx0 (l - 3 * isq l)
      have hl : l = 0 ∨ l ≤ hi := by
        by_cases z : l = 0
        · exact Or.inl z
        · have := l3 (l - 1) (by omega) (by omega)
          have := isq_small (show 0 ≤ l - 1 by omega) (by omega)
          exact Or.inr (by omega)
      simp
      omega
    have high1 : mt lo hi ((W + 1) * 16777216 - 1) = true := by
      unfold mt up
      rw [show ((W + 1) * 16777216 - 1) / 16777216 = W by omega, if_pos (by omega)]
      have := mx0 (W - 3 * isq W)
      simp
      omega
    have high : mt lo hi ((W + 1) * 16777216) = false := by
      unfold mt
      rw [show (W + 1) * 16777216 / 16777216 = W + 1 by omega]
      have := mx0 (W + 1 - 3 * isq (W + 1))
      have := W4 (W + 1) (by omega) (by omega)
      simp
      omega
    have fin : spykeep3_QuantaMeansFit.j1 (K + 1) false lo hi false l (W + 1) false = some true := by
      rw [spykeep3_QuantaMeansFit.j1, if_neg (by decide), wid (x := l * 16777216) (by omega) (by omega), wid (x := (W + 1) * 16777216) (by omega) (by omega), wid (x := (W + 1) * 16777216 - 1) (by omega) (by omega), wid (x := l * 16777216 + 1) (by omega) (by omega),
        meets_eq K (l * 16777216) lo hi false (by omega) (by omega) (by omega), Option.bind_some]
      dsimp only
      rw [meets_eq K ((W + 1) * 16777216 - 1) lo hi false (by omega) (by omega) (by omega), Option.bind_some, meets_eq K (l * 16777216 + 1) lo hi false (by omega) (by omega) (by omega), Option.bind_some]
      dsimp only
      rw [meets_eq K ((W + 1) * 16777216 - 1) lo hi false (by omega) (by omega) (by omega), Option.bind_some]
      dsimp only
      rw [meets_eq K ((W + 1) * 16777216) lo hi false (by omega) (by omega) (by omega), Option.bind_some, low1, high1, high]
      dsimp only
      rw [if_pos rfl, if_pos rfl]
      split <;> rfl
    rw [spykeep3_QuantaMeansFit.j0, if_neg (by decide), if_neg (by decide), meets_eq (K + 1) m lo hi false m0 (by omega) (by omega), Option.bind_some]
    dsimp only
    by_cases c : mt lo hi m = true
    · have c' := c
      unfold mt at c'
      have ism := isq_small (n := m / 16777216) (by omega) (by omega)
      have hup : m / 16777216 ≤ up m ∧ up m ≤ m / 16777216 + 1 := by unfold up; split <;> omega
      have hx := mx0 (m / 16777216 - 3 * isq (m / 16777216))
      simp only [decide_eq_true_eq] at c'
      have hw := W4 (m / 16777216) (by omega) (by omega) (by omega)
      have hl : l ≤ m / 16777216 := by
        rcases Int.lt_or_le (m / 16777216) l with g | g
        · have := l3 (m / 16777216) (by omega) g; omega
        · exact g
      rw [if_pos c, wid (x := l * 16777216) (by omega) (by omega), if_neg (by omega), wid (x := (W + 1) * 16777216) (by omega) (by omega), show decide (m > (W + 1) * 16777216) = false by simp; omega]
      exact fin
    · rw [if_neg c]
      exact fin
  · -- what is no bound, or beyond the limits
    by_cases hv2 : Val lo hi u
    · have hn := norm_Quanta (K + 2) lo hi u (by omega) hv2
      cases u
      · have hh : hi < 0 ∨ 34359738368 < hi := by
          rcases Int.lt_or_le hi 0 with g | g
          · exact Or.inl g
          · rcases Int.lt_or_le 34359738368 hi with g2 | g2
            · exact Or.inr g2
            · exact absurd ⟨hv2, rfl, g, g2⟩ hv
        have hMf : quanta_Means.f (K + 2) lo hi false = some (0, 0, true) := by
          unfold quanta_Means.f
          rw [hn, Option.bind_some]
          dsimp only
          rw [if_neg (by decide)]
          by_cases g : hi < 0
          · rw [if_pos g]; exact none_ _ _ _ _ rfl
          · rw [if_neg g]; exact none_ _ _ _ _ (by simp; omega)
        rw [hMf, Option.bind_some, Option.bind_some, if_pos rfl, hn, Option.bind_some]
        dsimp only
        rw [if_neg (by decide)]
        by_cases g : hi < 0
        · rw [if_pos g]; exact yes_ _ _ _ _ rfl
        · rw [if_neg g]; exact yes_ _ _ _ _ (by simp; omega)
      · have hMf : quanta_Means.f (K + 2) lo hi true = some (0, 0, true) := by
          unfold quanta_Means.f
          rw [hn, Option.bind_some]
          dsimp only
          rw [if_pos rfl]
          exact none_ _ _ _ _ rfl
        rw [hMf, Option.bind_some, Option.bind_some, if_pos rfl, hn, Option.bind_some]
        dsimp only
        rw [if_pos rfl]
        exact yes_ _ _ _ _ rfl
    · have hn := normno_Quanta (K + 2) lo hi u (by omega) hv2
      have hMf : quanta_Means.f (K + 2) lo hi u = some (0, 0, true) := by
        unfold quanta_Means.f
        rw [hn, Option.bind_some]
        dsimp only
        rw [if_pos rfl]
        exact none_ _ _ _ _ rfl
      rw [hMf, Option.bind_some, Option.bind_some, if_pos rfl, hn, Option.bind_some]
      dsimp only
      rw [if_pos rfl]
      exact yes_ _ _ _ _ rfl

end Go.Proofs.Ytjibamedpdpofaa.Pure
