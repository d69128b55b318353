/- For all places was and here: a step backward undoes a step, and the pull at the opposite place is the opposite one. -/
import Derived.Test.YtaddopcbneggiaaQSkyReversesx18
import Derived.OpenShut
import Derived.Laws.Bits64
import Derived.Laws.BitsAllLaws
import Derived.Laws.BitsLemmas
namespace Go.Proofs.Ytaddopcbneggiaa.Pure
open Go.RowKit Go.Proofs.Ytaddopcbneggiaa.QSkyReverses Go.Proofs.YtaddopcbneggiaaW.PrintWords Go.Proofs.YtaddopcbneggiaaW.PrintLast Go.Proofs.YtaddopcbneggiaaW.PrintMore
set_option linter.unusedVariables false
set_option linter.unusedSimpArgs false
theorem wid {x : Int} (h : -9223372036854775808 ≤ x) (h' : x ≤ 9223372036854775807) : wrap64 x = x := by unfold wrap64; omega
theorem wuid {x : Int} (h : 0 ≤ x) (h' : x ≤ 18446744073709551615) : IntKind.u64.wrap x = x := by rw [IntKind.wrap_u64]; omega
theorem mul_bd {a b A B : Int} (h1 : -A ≤ a) (h2 : a ≤ A) (h3 : -B ≤ b) (h4 : b ≤ B) : -(A * B) ≤ a * b ∧ a * b ≤ A * B := by
  have e : (a * b).natAbs = a.natAbs * b.natAbs := Int.natAbs_mul a b
  have l : a.natAbs * b.natAbs ≤ A.toNat * B.toNat := Nat.mul_le_mul (by omega) (by omega)
  have f : ((A.toNat * B.toNat : Nat) : Int) = A * B := by rw [Int.natCast_mul]; congr 1 <;> omega
  omega
theorem mul_nn {a b : Int} (h1 : 0 ≤ a) (h2 : 0 ≤ b) : 0 ≤ a * b := Int.mul_nonneg h1 h2
theorem mul_le {a b A B : Int} (h1 : 0 ≤ a) (h2 : a ≤ A) (h3 : 0 ≤ b) (h4 : b ≤ B) : 0 ≤ a * b ∧ a * b ≤ A * B :=
  ⟨Int.mul_nonneg h1 h3, Int.mul_le_mul h2 h4 h3 (by omega)⟩
/-- Squares tell which of two numbers is greater. -/
theorem sq_le {a b : Int} (h : a ≤ b) (ha : 0 ≤ a) : a * a ≤ b * b := Int.mul_le_mul h h ha (by omega)
theorem sq_lt {a b : Int} (ha : 0 ≤ a) (hb : 0 ≤ b) (h : a * a < b * b) : a < b := by
  rcases Int.lt_or_le a b with g | g
  · exact g
  · have := sq_le g hb; omega
theorem mxv (a b : Int) : mx a b = if a ≤ b then b else a := by unfold mx; split <;> omega
theorem tdiv_nn {a b : Int} (h : 0 ≤ a) : Int.tdiv a b = a / b := Int.tdiv_eq_ediv_of_nonneg h
theorem tmod_nn {a b : Int} (h : 0 ≤ a) : Int.tmod a b = a % b := Int.tmod_eq_emod_of_nonneg h
theorem i64_and_low (x : Int) (i : Nat) (hi : i ≤ 62) : Go.bits .and .i64 x ((2 ^ i - 1 : Nat) : Int) = (((x % 18446744073709551616).toNat % 2 ^ i : Nat) : Int) := by
  have hp : 2 ^ i ≤ 2 ^ 62 := Nat.pow_le_pow_right (by decide) hi
  have hpos : 0 < 2 ^ i := Nat.two_pow_pos i
  have e1 : (BitVec.ofInt 64 x).toNat = (x % 18446744073709551616).toNat := by simp [BitVec.toNat_ofInt]
  have hb : (2 ^ i - 1) % 2 ^ IntKind.i64.bits = 2 ^ i - 1 := Nat.mod_eq_of_lt (by show 2 ^ i - 1 < 2 ^ 64; omega)
  simp only [Go.bits, BitVec.ofInt_natCast, BitVec.toNat_and, BitVec.toNat_ofNat, hb]
  rw [show (BitVec.ofInt IntKind.i64.bits x).toNat = (x % 18446744073709551616).toNat from e1, Nat.and_two_pow_sub_one_eq_mod]
  have := Nat.mod_lt (x % 18446744073709551616).toNat hpos
  rw [IntKind.wrap_i64]
  omega
theorem u64_and32 (x : Int) (h0 : 0 ≤ x) (h1 : x < 18446744073709551616) : Go.bits .and .u64 x 4294967295 = x % 4294967296 := by
  rw [Go.u64_and x 4294967295 h0 h1 (by decide) (by decide)]
  have : x.toNat &&& (4294967295 : Int).toNat = x.toNat % 4294967296 := Nat.and_two_pow_sub_one_eq_mod x.toNat 32
  rw [this]
  omega
theorem mul64_eq (a b : Int) (ha : 0 ≤ a) (ha' : a < 18446744073709551616) (hb : 0 ≤ b) (hb' : b < 18446744073709551616) :
    bits_Mul64.f a b = some (a * b / 18446744073709551616, a * b % 18446744073709551616) := by
  unfold bits_Mul64.f
  rw [u64_and32 a ha ha', u64_and32 b hb hb']
  have h1 := mul_le (a := a / 4294967296) (b := b / 4294967296) (A := 4294967295) (B := 4294967295) (by omega) (by omega) (by omega) (by omega)
  have h2 := mul_le (a := a / 4294967296) (b := b % 4294967296) (A := 4294967295) (B := 4294967295) (by omega) (by omega) (by omega) (by omega)
  have h3 := mul_le (a := a % 4294967296) (b := b / 4294967296) (A := 4294967295) (B := 4294967295) (by omega) (by omega) (by omega) (by omega)
  have h4 := mul_le (a := a % 4294967296) (b := b % 4294967296) (A := 4294967295) (B := 4294967295) (by omega) (by omega) (by omega) (by omega)
  have e : a * b = (a / 4294967296) * (b / 4294967296) * 18446744073709551616 + ((a / 4294967296) * (b % 4294967296) + (a % 4294967296) * (b / 4294967296)) * 4294967296 + (a % 4294967296) * (b % 4294967296) := by
    have ea : a = a / 4294967296 * 4294967296 + a % 4294967296 := by omega
    have eb : b = b / 4294967296 * 4294967296 + b % 4294967296 := by omega
    generalize a / 4294967296 = x1 at *
    generalize a % 4294967296 = x0 at *
    generalize b / 4294967296 = y1 at *
    generalize b % 4294967296 = y0 at *
    subst ea eb
    grind
  rw [IntKind.wrap_u64 (a * b), e]
  generalize (a / 4294967296) * (b / 4294967296) = p at *
  generalize (a / 4294967296) * (b % 4294967296) = q at *
  generalize (a % 4294967296) * (b / 4294967296) = r at *
  generalize (a % 4294967296) * (b % 4294967296) = s at *
  rw [wuid (x := s) (by omega) (by omega), wuid (x := p) (by omega) (by omega), wuid (x := q) (by omega) (by omega), wuid (x := r) (by omega) (by omega)]
  rw [wuid (x := q + s / 4294967296) (by omega) (by omega)]
  rw [u64_and32 (q + s / 4294967296) (by omega) (by omega)]
  rw [wuid (x := p + (q + s / 4294967296) / 4294967296) (by omega) (by omega)]
  rw [wuid (x := (q + s / 4294967296) % 4294967296 + r) (by omega) (by omega)]
  rw [wuid (by omega) (by omega)]
  have e1 : p + (q + s / 4294967296) / 4294967296 + ((q + s / 4294967296) % 4294967296 + r) / 4294967296 = (p * 18446744073709551616 + (q + r) * 4294967296 + s) / 18446744073709551616 := by omega
  rw [e1]
theorem or_bit (r : Int) (j : Nat) (hr : 0 ≤ r) (hm : r % 2 ^ (j + 1) = 0) (h : r + 2 ^ j < 18446744073709551616) (hj : j ≤ 62) : Go.bits .or .u64 r (2 ^ j) = r + 2 ^ j := by
  have hp : (0 : Int) < 2 ^ j := Int.pow_pos (by decide)
  have hlt : (2 : Int) ^ j < 2 ^ (j + 1) := by rw [Int.pow_succ]; omega
  exact Go.bits_join .u64 64 (by decide) (fun n h0 h1 => by have h2 : n < 18446744073709551616 := h1; rw [IntKind.wrap_u64]; omega) (j + 1) r (2 ^ j) hr hm (by show r < 18446744073709551616; omega) (by omega) hlt (by show (2 : Int) ^ j < 18446744073709551616; omega)

theorem sqrt_end (k : Nat) (u v r : Int) (hk : 0 < k) : num_SqrtMul.l0 k u v r 0 = some (wrap64 r) := by
  obtain ⟨k, rfl⟩ : ∃ m, k = m + 1 := ⟨k - 1, by omega⟩
  simp only [num_SqrtMul.l0]
  rw [if_neg (by decide)]
theorem sqrt_loop (P : Int) (hP : 0 ≤ P) (hP' : P < 85070591730234615865843651857942052864) (j : Nat) : ∀ (r : Int) (k : Nat), j ≤ 62 → 0 ≤ r → r % 2 ^ (j + 1) = 0 → r + 2 ^ (j + 1) ≤ 9223372036854775808 → r * r ≤ P → P < (r + 2 ^ (j + 1)) * (r + 2 ^ (j + 1)) → j + 1 < k →
    ∃ s, num_SqrtMul.l0 k (P / 18446744073709551616) (P % 18446744073709551616) r (2 ^ j) = some s ∧ 0 ≤ s ∧ s ≤ 9223372036854775807 ∧ s * s ≤ P ∧ P < (s + 1) * (s + 1) := by
  induction j with
  | zero =>
    intro r k _ h0 hm hb hlo hhi hk
    obtain ⟨k, rfl⟩ : ∃ m, k = m + 1 := ⟨k - 1, by omega⟩
    simp only [num_SqrtMul.l0]
    have hor := or_bit r 0 h0 hm (by omega) (by omega)
    have hsq := mul_le (a := r + 1) (b := r + 1) (A := 9223372036854775807) (B := 9223372036854775807) (by omega) (by omega) (by omega) (by omega)
    rw [if_pos (by decide), hor, show (2 : Int) ^ 0 = 1 by rfl, mul64_eq (r + 1) (r + 1) (by omega) (by omega) (by omega) (by omega)]
    simp only [Option.bind_some]
    have e2 : (1 : Int) / 2 = 0 := by decide
    have hhi2 : P < (r + 2) * (r + 2) := hhi
    rw [e2, sqrt_end k _ _ (r + 1) (by omega), sqrt_end k _ _ r (by omega)]
    by_cases c : (r + 1) * (r + 1) ≤ P
    · refine ⟨r + 1, ?_, by omega, by omega, c, ?_⟩
      · generalize (r + 1) * (r + 1) = Q at *
        rw [wid (x := r + 1) (by omega) (by omega)]
        by_cases c1 : Q / 18446744073709551616 < P / 18446744073709551616
        · rw [if_pos c1]
        · rw [if_neg c1, if_pos (by omega), if_pos (by omega)]
      · rw [show r + 1 + 1 = r + 2 by omega]; exact hhi2
    · refine ⟨r, ?_, by omega, by omega, hlo, by omega⟩
      generalize (r + 1) * (r + 1) = Q at *
      rw [wid (x := r) (by omega) (by omega), if_neg (by omega)]
      by_cases c1 : Q / 18446744073709551616 = P / 18446744073709551616
      · rw [if_pos c1, if_neg (by omega)]
      · rw [if_neg c1]
  | succ j ih =>
    intro r k hj h0 hm hb hlo hhi hk
    obtain ⟨k, rfl⟩ : ∃ m, k = m + 1 := ⟨k - 1, by omega⟩
    have hp : (0 : Int) < 2 ^ j := Int.pow_pos (by decide)
    have hp1 : (2 : Int) ^ (j + 1) = 2 * 2 ^ j := by rw [Int.pow_succ]; omega
    have hp2 : (2 : Int) ^ (j + 1 + 1) = 4 * 2 ^ j := by rw [Int.pow_succ, hp1]; omega
    have hor := or_bit r (j + 1) h0 hm (by omega) (by omega)
    have hm1 : r % 2 ^ (j + 1) = 0 := by
      have hd : ((2 : Int) ^ (j + 1)) ∣ 2 ^ (j + 1 + 1) := ⟨2, by rw [Int.pow_succ]⟩
      exact Int.emod_eq_zero_of_dvd (Int.dvd_trans hd (Int.dvd_of_emod_eq_zero hm))
    have hm2 : (r + 2 ^ (j + 1)) % 2 ^ (j + 1) = 0 := by rw [Int.add_emod_right]; exact hm1
    have hdiv : (2 : Int) ^ (j + 1) / 2 = 2 ^ j := by omega
    have hsq := mul_le (a := r + 2 ^ (j + 1)) (b := r + 2 ^ (j + 1)) (A := 9223372036854775807) (B := 9223372036854775807) (by omega) (by omega) (by omega) (by omega)
    simp only [num_SqrtMul.l0]
    rw [if_pos (by omega), hor, mul64_eq _ _ (by omega) (by omega) (by omega) (by omega)]
    simp only [Option.bind_some]
    rw [hdiv]
    by_cases c : (r + 2 ^ (j + 1)) * (r + 2 ^ (j + 1)) ≤ P
    · obtain ⟨s, e, hs⟩ := ih (r + 2 ^ (j + 1)) k (by omega) (by omega) hm2 (by omega) c (by rw [show r + 2 ^ (j + 1) + 2 ^ (j + 1) = r + 2 ^ (j + 1 + 1) by omega]; exact hhi) (by omega)
      refine ⟨s, ?_, hs⟩
      rw [e]
      generalize (r + 2 ^ (j + 1)) * (r + 2 ^ (j + 1)) = Q at *
      by_cases c1 : Q / 18446744073709551616 < P / 18446744073709551616
      · rw [if_pos c1]
      · rw [if_neg c1, if_pos (by omega), if_pos (by omega)]
    · obtain ⟨s, e, hs⟩ := ih r k (by omega) h0 hm1 (by omega) hlo (by omega) (by omega)
      refine ⟨s, ?_, hs⟩
      rw [e]
      generalize (r + 2 ^ (j + 1)) * (r + 2 ^ (j + 1)) = Q at *
      rw [if_neg (by omega)]
      by_cases c1 : Q / 18446744073709551616 = P / 18446744073709551616
      · rw [if_pos c1, if_neg (by omega)]
      · rw [if_neg c1]

theorem sqrtmul_ex (a b : Int) (ha : 0 ≤ a) (ha' : a ≤ 9223372036854775807) (hb : 0 ≤ b) (hb' : b ≤ 9223372036854775807) :
    ∃ s, (∀ k, 70 ≤ k → num_SqrtMul.f k a b = some s) ∧ 0 ≤ s ∧ s ≤ 9223372036854775807 ∧ s * s ≤ a * b ∧ a * b < (s + 1) * (s + 1) := by
  have hP := mul_le ha ha' hb hb'
  obtain ⟨s, e, hs⟩ := sqrt_loop (a * b) hP.1 (by omega) 62 0 65 (by omega) (by omega) (by decide) (by decide) (by omega) (by
    show a * b < 9223372036854775808 * 9223372036854775808
    omega) (by omega)
  refine ⟨s, ?_, hs⟩
  intro k hk
  have hp : (2 : Int) ^ 62 = 4611686018427387904 := by decide
  rw [hp] at e
  obtain ⟨k, rfl⟩ : ∃ m, k = m + 1 := ⟨k - 1, by omega⟩
  unfold num_SqrtMul.f
  rw [if_neg (by omega), show decide (b < 0) = false by simp; omega]
  simp only [num_SqrtMul.j0]
  rw [if_neg (by decide), wuid ha (by omega), wuid hb (by omega), mul64_eq a b ha (by omega) hb (by omega)]
  simp only [Option.bind_some]
  exact at_rounds (g := fun k => num_SqrtMul.l0 k (a * b / 18446744073709551616) (a * b % 18446744073709551616) 0 4611686018427387904) (fun k => (num_SqrtMul.mono_l k).2 _ _ _ _) (by omega : 65 ≤ k) e
/-- The square root of a number, rounded down. -/
noncomputable def isq (n : Int) : Int := (num_Sqrt.f 70 n).getD 0
theorem isq_all (n : Int) (h : 0 ≤ n) (h' : n ≤ 9223372036854775807) : (∀ k, 70 ≤ k → num_Sqrt.f k n = some (isq n)) ∧ 0 ≤ isq n ∧ isq n ≤ 9223372036854775807 ∧ isq n * isq n ≤ n ∧ n < (isq n + 1) * (isq n + 1) := by
  obtain ⟨s, e, h0, h1, h2, h3⟩ := sqrtmul_ex n 1 h h' (by omega) (by omega)
  have hs : ∀ k, 70 ≤ k → num_Sqrt.f k n = some s := by
    intro k hk
    unfold num_Sqrt.f
    rw [e k hk]; rfl
  have hi : isq n = s := by unfold isq; rw [hs 70 (Nat.le_refl _)]; rfl
  rw [hi]
  rw [Int.mul_one] at h2 h3
  exact ⟨hs, h0, h1, h2, h3⟩
theorem isq_mono {a b : Int} (h0 : 0 ≤ a) (h : a ≤ b) (h' : b ≤ 9223372036854775807) : isq a ≤ isq b := by
  obtain ⟨_, a0, _, a2, a3⟩ := isq_all a h0 (by omega)
  obtain ⟨_, b0, _, b2, b3⟩ := isq_all b (by omega) h'
  have : isq a < isq b + 1 := sq_lt a0 (by omega) (by omega)
  omega
/-- Which number is the root. -/
theorem isq_is {n r : Int} (h0 : 0 ≤ n) (h' : n ≤ 9223372036854775807) (hr : 0 ≤ r) (h1 : r * r ≤ n) (h2 : n < (r + 1) * (r + 1)) : isq n = r := by
  obtain ⟨_, a0, _, a2, a3⟩ := isq_all n h0 h'
  have l1 : isq n < r + 1 := sq_lt a0 (by omega) (by omega)
  have l2 : r < isq n + 1 := sq_lt hr (by omega) (by omega)
  omega
theorem len_tab : ∃ T : ByteArray, (∀ k x0 x2, bits_Len64.j0 (k + 1) x0 x2 = if x0 ≥ 65536 then (if (x0 / 65536) ≥ 256 then (if 0 ≤ (((x0 / 65536) / 256) % 256) then (if (((x0 / 65536) / 256) % 256) < 256 then (some (wrap64 ((wrap64 ((wrap64 (x2 + 16)) + 8)) + (wrap64 (bt T (((x0 / 65536) / 256) % 256)))))) else (none)) else (none)) else (if 0 ≤ ((x0 / 65536) % 256) then (if ((x0 / 65536) % 256) < 256 then (some (wrap64 ((wrap64 (x2 + 16)) + (wrap64 (bt T ((x0 / 65536) % 256)))))) else (none)) else (none))) else (if x0 ≥ 256 then (if 0 ≤ ((x0 / 256) % 256) then (if ((x0 / 256) % 256) < 256 then (some (wrap64 ((wrap64 (x2 + 8)) + (wrap64 (bt T ((x0 / 256) % 256)))))) else (none)) else (none)) else (if 0 ≤ ((x0) % 256) then (if ((x0) % 256) < 256 then (some (wrap64 (x2 + (wrap64 (bt T ((x0) % 256)))))) else (none)) else (none)))) ∧
    (∀ i : Fin 256, 0 < i.val → ∃ t ∈ [1, 2, 3, 4, 5, 6, 7, 8], bt T (i.val : Int) = ((t : Nat) : Int) ∧ 2 ^ (t - 1) ≤ i.val ∧ i.val < 2 ^ t) := by
  apply Exists.intro
  refine ⟨?a, ?b⟩
  case a => intro k x0 x2; rw [bits_Len64.j0]
  case b => decide +kernel
theorem len_idx {T : ByteArray} (h : ∀ i : Fin 256, 0 < i.val → ∃ t ∈ [1, 2, 3, 4, 5, 6, 7, 8], bt T (i.val : Int) = ((t : Nat) : Int) ∧ 2 ^ (t - 1) ≤ i.val ∧ i.val < 2 ^ t) (i : Int) (h0 : 1 ≤ i) (h1 : i ≤ 255) :
    ∃ t : Nat, bt T i = t ∧ 1 ≤ t ∧ t ≤ 8 ∧ (2 : Int) ^ (t - 1) ≤ i ∧ i < 2 ^ t := by
  obtain ⟨t, ht, e, l, u⟩ := h ⟨i.toNat, by omega⟩ (by show 0 < i.toNat; omega)
  have ei : ((i.toNat : Nat) : Int) = i := by omega
  simp only [ei] at e
  have ht2 : 1 ≤ t ∧ t ≤ 8 := by simp at ht; omega
  refine ⟨t, e, ht2.1, ht2.2, ?_, ?_⟩
  · have : ((2 ^ (t - 1) : Nat) : Int) ≤ ((i.toNat : Nat) : Int) := Int.ofNat_le.mpr l
    rw [ei, Int.natCast_pow] at this; exact this
  · have : ((i.toNat : Nat) : Int) < ((2 ^ t : Nat) : Int) := Int.ofNat_lt.mpr u
    rw [ei, Int.natCast_pow] at this; exact this
theorem pow_shift (x i : Int) (m t : Nat) (h1 : 1 ≤ t) (hi : i = x / 2 ^ m) (hl : (2 : Int) ^ (t - 1) ≤ i) (hu : i < 2 ^ t) : (2 : Int) ^ (m + t - 1) ≤ x ∧ x < 2 ^ (m + t) := by
  have hp : (0 : Int) < 2 ^ m := Int.pow_pos (by decide)
  have e1 : (2 : Int) ^ (m + t - 1) = 2 ^ (t - 1) * 2 ^ m := by rw [show m + t - 1 = (t - 1) + m by omega, Int.pow_add]
  have e2 : (2 : Int) ^ (m + t) = 2 ^ t * 2 ^ m := by rw [show m + t = t + m by omega, Int.pow_add]
  constructor
  · rw [e1]
    exact (Int.le_ediv_iff_mul_le hp).mp (hi ▸ hl)
  · rw [e2]
    exact (Int.ediv_lt_iff_lt_mul hp).mp (hi ▸ hu)
/-- The number of bits of a number. -/
theorem len64_ex (x : Int) (h0 : 1 ≤ x) (h1 : x < 18446744073709551616) : ∃ L : Nat, (∀ k, 1 ≤ k → bits_Len64.f k x = some (L : Int)) ∧ 1 ≤ L ∧ L ≤ 64 ∧ (2 : Int) ^ (L - 1) ≤ x ∧ x < 2 ^ L := by
  obtain ⟨T, hT, hF⟩ := len_tab
  have key : ∀ (y : Int) (n : Nat), 1 ≤ y → y < 4294967296 → n ≤ 32 → ∃ m t : Nat, (∀ k, bits_Len64.j0 (k + 1) y (n : Int) = some (((n + m + t : Nat) : Int))) ∧ 1 ≤ t ∧ m + t ≤ 32 ∧ (2 : Int) ^ (m + t - 1) ≤ y ∧ y < 2 ^ (m + t) := by
    intro y n y0 y1 hn
    by_cases a : y ≥ 65536
    · by_cases b : y / 65536 ≥ 256
      · obtain ⟨t, e, t1, t8, l, u⟩ := len_idx hF (y / 65536 / 256 % 256) (by omega) (by omega)
        obtain ⟨p, q⟩ := pow_shift y (y / 65536 / 256 % 256) 24 t t1 (by show _ = y / 16777216; omega) l u
        refine ⟨24, t, fun k => ?_, t1, by omega, p, q⟩
        rw [hT, if_pos a, if_pos b, if_pos (by omega), if_pos (by omega), e, wid (x := (n : Int) + 16) (by omega) (by omega), wid (x := (n : Int) + 16 + 8) (by omega) (by omega), wid (x := (t : Int)) (by omega) (by omega), wid (by omega) (by omega)]
        congr 1
      · obtain ⟨t, e, t1, t8, l, u⟩ := len_idx hF (y / 65536 % 256) (by omega) (by omega)
        obtain ⟨p, q⟩ := pow_shift y (y / 65536 % 256) 16 t t1 (by show _ = y / 65536; omega) l u
        refine ⟨16, t, fun k => ?_, t1, by omega, p, q⟩
        rw [hT, if_pos a, if_neg b, if_pos (by omega), if_pos (by omega), e, wid (x := (n : Int) + 16) (by omega) (by omega), wid (x := (t : Int)) (by omega) (by omega), wid (by omega) (by omega)]
        congr 1
    · by_cases b : y ≥ 256
      · obtain ⟨t, e, t1, t8, l, u⟩ := len_idx hF (y / 256 % 256) (by omega) (by omega)
        obtain ⟨p, q⟩ := pow_shift y (y / 256 % 256) 8 t t1 (by show _ = y / 256; omega) l u
        refine ⟨8, t, fun k => ?_, t1, by omega, p, q⟩
        rw [hT, if_neg a, if_pos b, if_pos (by omega), if_pos (by omega), e, wid (x := (n : Int) + 8) (by omega) (by omega), wid (x := (t : Int)) (by omega) (by omega), wid (by omega) (by omega)]
        congr 1
      · obtain ⟨t, e, t1, t8, l, u⟩ := len_idx hF (y % 256) (by omega) (by omega)
        obtain ⟨p, q⟩ := pow_shift y (y % 256) 0 t t1 (by show _ = y / 1; omega) l u
        refine ⟨0, t, fun k => ?_, t1, by omega, p, q⟩
        rw [hT, if_neg a, if_neg b, if_pos (by omega), if_pos (by omega), e, wid (x := (t : Int)) (by omega) (by omega), wid (by omega) (by omega)]
        congr 1
  by_cases c : x ≥ 4294967296
  · obtain ⟨m, t, e, t1, tm, l, u⟩ := key (x / 4294967296) 32 (by omega) (by omega) (by omega)
    obtain ⟨p, q⟩ := pow_shift x (x / 4294967296) 32 (m + t) (by omega) rfl l u
    refine ⟨32 + m + t, fun k hk => ?_, by omega, by omega, by rw [show 32 + m + t = 32 + (m + t) by omega]; exact p, by rw [show 32 + m + t = 32 + (m + t) by omega]; exact q⟩
    obtain ⟨k, rfl⟩ : ∃ j, k = j + 1 := ⟨k - 1, by omega⟩
    unfold bits_Len64.f
    rw [if_pos c]
    exact e k
  · obtain ⟨m, t, e, t1, tm, l, u⟩ := key x 0 (by omega) (by omega) (by omega)
    refine ⟨0 + m + t, fun k hk => ?_, by omega, by omega, by rw [show 0 + m + t = m + t by omega]; exact l, by rw [show 0 + m + t = m + t by omega]; exact u⟩
    obtain ⟨k, rfl⟩ : ∃ j, k = j + 1 := ⟨k - 1, by omega⟩
    unfold bits_Len64.f
    rw [if_neg c]
    exact e k
/-- One step of the division of two words by one: what is known of a guess q of the quotient Q. -/
theorem kn (y a b u n q r Q : Int) (ha : 2147483648 ≤ a) (ha' : a < 4294967296) (hb : 0 ≤ b) (hb' : b < 4294967296) (hy : y = a * 4294967296 + b) (hu : 0 ≤ u) (hu' : u < y) (hn : 0 ≤ n) (hn' : n < 4294967296)
    (hr : 0 ≤ r) (hqr : q * a + r = u) (hQ : Q = (u * 4294967296 + n) / y) (hQq : Q ≤ q) :
    q ≤ 4294967297 ∧ 0 ≤ Q ∧ Q < 4294967296 ∧ 0 ≤ u * 4294967296 + n - Q * y ∧ u * 4294967296 + n - Q * y < y ∧ (q * b > 4294967296 * r + n ↔ Q < q) ∧ (4294967296 ≤ r → q = Q) := by
  have hypos : 0 < y := by omega
  have q1 : Q * y ≤ u * 4294967296 + n := by rw [hQ]; exact Int.ediv_mul_le _ (by omega)
  have q2 : u * 4294967296 + n < Q * y + y := by
    have := Int.lt_ediv_add_one_mul_self (u * 4294967296 + n) hypos
    rw [← hQ, Int.add_mul] at this
    omega
  have q3 : 0 ≤ Q := by rw [hQ]; exact Int.ediv_nonneg (by omega) (by omega)
  have q4 : Q < 4294967296 := by
    rcases Int.lt_or_le Q 4294967296 with g | g
    · exact g
    · have : 4294967296 * y ≤ Q * y := Int.mul_le_mul_of_nonneg_right g (by omega)
      omega
  have q5 : q ≤ 4294967297 := by
    rcases Int.lt_or_le 4294967297 q with g | g
    · have h1 : 4294967298 * a ≤ q * a := Int.mul_le_mul_of_nonneg_right (by omega) (by omega)
      omega
    · exact g
  have e : q * y = q * a * 4294967296 + q * b := by rw [hy]; grind
  have lt1 : Q < q → u * 4294967296 + n < q * y := by
    intro g
    have : (Q + 1) * y ≤ q * y := Int.mul_le_mul_of_nonneg_right (by omega) (by omega)
    rw [Int.add_mul] at this
    omega
  have lt2 : ¬ Q < q → q * y ≤ u * 4294967296 + n := by
    intro g
    have : q = Q := by omega
    rw [this]; exact q1
  refine ⟨q5, q3, q4, by omega, by omega, ⟨fun g => ?_, fun g => ?_⟩, fun g => ?_⟩
  · rcases Int.lt_or_le Q q with h | h
    · exact h
    · have := lt2 (by omega); omega
  · have := lt1 g; omega
  · rcases Int.lt_or_le Q q with h | h
    · have h1 := lt1 h
      have h2 : q * b ≤ 4294967297 * 4294967295 := Int.mul_le_mul q5 (by omega) hb (by omega)
      omega
    · omega
theorem wsub (q : Int) (h : 1 ≤ q) (h' : q ≤ 18446744073709551615) : IntKind.u64.wrap (q - 1) = q - 1 := wuid (by omega) (by omega)
/-- The flag of a round: is the guess too great? -/
theorem div_flag (y a b u n q r Q : Int) (ha : 2147483648 ≤ a) (ha' : a < 4294967296) (hb : 0 ≤ b) (hb' : b < 4294967296) (hy : y = a * 4294967296 + b) (hu : 0 ≤ u) (hu' : u < y) (hn : 0 ≤ n) (hn' : n < 4294967296)
    (hr : 0 ≤ r) (hr' : r < 4294967296) (hqr : q * a + r = u) (hQ : Q = (u * 4294967296 + n) / y) (hQq : Q ≤ q) (h : ¬ q ≥ 4294967296) :
    decide (IntKind.u64.wrap (q * b) > IntKind.u64.wrap (IntKind.u64.wrap (4294967296 * r) + n)) = decide (Q < q) := by
  obtain ⟨k1, k2, k3, k4, k5, k6, k7⟩ := kn y a b u n q r Q ha ha' hb hb' hy hu hu' hn hn' hr hqr hQ hQq
  have hm := mul_le (a := q) (b := b) (A := 4294967295) (B := 4294967295) (by omega) (by omega) hb (by omega)
  rw [wuid (x := q * b) (by omega) (by omega), wuid (x := 4294967296 * r) (by omega) (by omega), wuid (x := 4294967296 * r + n) (by omega) (by omega)]
  exact decide_eq_decide.mpr k6
theorem div_l0 (y s a b u n m Q : Int) (ha : 2147483648 ≤ a) (ha' : a < 4294967296) (hb : 0 ≤ b) (hb' : b < 4294967296) (hy : y = a * 4294967296 + b) (hu : 0 ≤ u) (hu' : u < y) (hn : 0 ≤ n) (hn' : n < 4294967296)
    (hQ : Q = (u * 4294967296 + n) / y) (K : Nat) (res : Int × Int) (hres : ∀ k, K ≤ k → bits_Div64.j2 k y s a b u n m Q = some res) (d : Nat) :
    ∀ (k : Nat) (q r : Int), 4294967296 ≤ r + d * 2147483648 → 0 ≤ r → r < 4294967296 → q * a + r = u → Q ≤ q → K + 2 * d + 2 ≤ k → bits_Div64.l0 k y s a b u n m q r = some res := by
  induction d with
  | zero => intro k q r h1 h2 h3; simp at h1; omega
  | succ d ih =>
    intro k q r h1 h2 h3 hqr hQq hk
    obtain ⟨k, rfl⟩ : ∃ j, k = j + 2 := ⟨k - 2, by omega⟩
    have hk' := kn y a b u n q r Q ha ha' hb hb' hy hu hu' hn hn' h2 hqr hQ hQq
    obtain ⟨k1, k2, k3, k4, k5, k6, k7⟩ := hk'
    have flag : bits_Div64.l0 (k + 2) y s a b u n m q r = bits_Div64.j1 (k + 1) y s a b u n m q r (decide (Q < q)) := by
      rw [bits_Div64.l0]
      by_cases c : q ≥ 4294967296
      · rw [if_pos c, show decide (Q < q) = true by simp; omega]
      · rw [if_neg c, div_flag y a b u n q r Q ha ha' hb hb' hy hu hu' hn hn' h2 h3 hqr hQ hQq c]
    rw [flag, bits_Div64.j1]
    by_cases c : Q < q
    · rw [if_pos (by simpa using c), wuid (x := r + a) (by omega) (by omega), wsub q (by omega) (by omega)]
      have hqr' : (q - 1) * a + (r + a) = u := by rw [Int.sub_mul]; omega
      by_cases c2 : r + a ≥ 4294967296
      · rw [if_pos c2]
        obtain ⟨_, _, _, _, _, _, k7'⟩ := kn y a b u n (q - 1) (r + a) Q ha ha' hb hb' hy hu hu' hn hn' (by omega) hqr' hQ (by omega)
        rw [k7' c2]
        exact hres k (by omega)
      · rw [if_neg c2]
        exact ih k (q - 1) (r + a) (by omega) (by omega) (by omega) hqr' (by omega) (by omega)
    · rw [if_neg (by simpa using c), show q = Q by omega]
      exact hres k (by omega)
theorem div_l1 (y s a b u n q1 Q : Int) (ha : 2147483648 ≤ a) (ha' : a < 4294967296) (hb : 0 ≤ b) (hb' : b < 4294967296) (hy : y = a * 4294967296 + b) (hu : 0 ≤ u) (hu' : u < y) (hn : 0 ≤ n) (hn' : n < 4294967296) (hs : 0 ≤ s)
    (hQ : Q = (u * 4294967296 + n) / y) (hq1 : 0 ≤ q1) (hq1' : q1 < 4294967296) (d : Nat) :
    ∀ (k : Nat) (q r : Int), 4294967296 ≤ r + d * 2147483648 → 0 ≤ r → r < 4294967296 → q * a + r = u → Q ≤ q → 2 * d + 2 ≤ k →
    bits_Div64.l1 k y s a b n q1 r u q = some (q1 * 4294967296 + Q, shr .u64 (u * 4294967296 + n - Q * y) s) := by
  induction d with
  | zero => intro k q r h1 h2 h3; simp at h1; omega
  | succ d ih =>
    intro k q r h1 h2 h3 hqr hQq hk
    obtain ⟨k, rfl⟩ : ∃ j, k = j + 2 := ⟨k - 2, by omega⟩
    have hk' := kn y a b u n q r Q ha ha' hb hb' hy hu hu' hn hn' h2 hqr hQ hQq
    obtain ⟨k1, k2, k3, k4, k5, k6, k7⟩ := hk'
    have fin : (some (IntKind.u64.wrap ((IntKind.u64.wrap (q1 * 4294967296)) + Q), shr .u64 (IntKind.u64.wrap ((IntKind.u64.wrap ((IntKind.u64.wrap (u * 4294967296)) + n)) - (IntKind.u64.wrap (Q * y)))) s) : Option (Int × Int)) = some (q1 * 4294967296 + Q, shr .u64 (u * 4294967296 + n - Q * y) s) := by
      have e : IntKind.u64.wrap ((IntKind.u64.wrap ((IntKind.u64.wrap (u * 4294967296)) + n)) - (IntKind.u64.wrap (Q * y))) = u * 4294967296 + n - Q * y := by
        generalize Q * y = Z at *
        simp only [IntKind.wrap_u64]
        omega
      rw [e, wuid (x := q1 * 4294967296) (by omega) (by omega), wuid (x := q1 * 4294967296 + Q) (by omega) (by omega)]
    have flag : bits_Div64.l1 (k + 2) y s a b n q1 r u q = bits_Div64.j4 (k + 1) y s a b n q1 r u q (decide (Q < q)) := by
      rw [bits_Div64.l1]
      by_cases c : q ≥ 4294967296
      · rw [if_pos c, show decide (Q < q) = true by simp; omega]
      · rw [if_neg c, div_flag y a b u n q r Q ha ha' hb hb' hy hu hu' hn hn' h2 h3 hqr hQ hQq c]
    rw [flag, bits_Div64.j4]
    by_cases c : Q < q
    · rw [if_pos (by simpa using c), wuid (x := r + a) (by omega) (by omega), wsub q (by omega) (by omega)]
      have hqr' : (q - 1) * a + (r + a) = u := by rw [Int.sub_mul]; omega
      by_cases c2 : r + a ≥ 4294967296
      · rw [if_pos c2, if_pos hs]
        obtain ⟨_, _, _, _, _, _, k7'⟩ := kn y a b u n (q - 1) (r + a) Q ha ha' hb hb' hy hu hu' hn hn' (by omega) hqr' hQ (by omega)
        rw [k7' c2]
        exact fin
      · rw [if_neg c2]
        exact ih k (q - 1) (r + a) (by omega) (by omega) (by omega) hqr' (by omega) (by omega)
    · rw [if_neg (by simpa using c), if_pos hs, show q = Q by omega]
      exact fin
theorem shl_w (x : Int) (s : Nat) (hs : s ≤ 64) : shl .u64 x (s : Int) = (x * 2 ^ s) % 18446744073709551616 := by
  unfold shl
  rw [IntKind.wrap_u64, show min ((s : Int)).toNat IntKind.u64.bits = s by show min ((s : Int)).toNat 64 = s; omega]
theorem shr_w (x : Int) (s : Nat) (hs : s ≤ 64) : shr .u64 x (s : Int) = x / 2 ^ s := by
  unfold shr
  rw [show min ((s : Int)).toNat IntKind.u64.bits = s by show min ((s : Int)).toNat 64 = s; omega]
theorem u64_join (x y : Int) (s : Nat) (hs : s ≤ 64) (hx0 : 0 ≤ x) (hx : x < 18446744073709551616) (hm : x % 2 ^ s = 0) (hy0 : 0 ≤ y) (hy : y < 2 ^ s) (hy' : y < 18446744073709551616) : Go.bits .or .u64 x y = x + y :=
  Go.bits_join .u64 64 (by decide) (fun n h0 h1 => by have h2 : n < 18446744073709551616 := h1; rw [IntKind.wrap_u64]; omega) s x y hx0 hm hx hy0 hy hy'
/-- Two words divided by one. -/
theorem div64_eq (k : Nat) (hi lo y : Int) (h0 : 0 ≤ hi) (h1 : hi < y) (l0 : 0 ≤ lo) (l1 : lo < 18446744073709551616) (hy : y < 18446744073709551616) (hk : 20 ≤ k) :
    bits_Div64.f k hi lo y = some ((hi * 18446744073709551616 + lo) / y, (hi * 18446744073709551616 + lo) % y) := by
  unfold bits_Div64.f
  rw [if_neg (by omega), if_neg (by omega)]
  by_cases c : hi = 0
  · subst c
    have hd : 0 ≤ lo / y := Int.ediv_nonneg l0 (by omega)
    have hd2 : lo / y ≤ lo := Int.ediv_le_self _ l0
    rw [if_pos rfl, tdiv_nn l0, tmod_nn l0, wuid hd (by omega)]
    simp
  · rw [if_neg c]
    obtain ⟨L, hL, L1, L64, Ll, Lu⟩ := len64_ex y (by omega) hy
    obtain ⟨s, hs⟩ : ∃ s : Nat, s = 64 - L := ⟨_, rfl⟩
    have hs64 : s ≤ 63 := by omega
    have hlz : bits_LeadingZeros64.f k y = some (s : Int) := by
      unfold bits_LeadingZeros64.f
      rw [hL k (by omega), Option.bind_some, wid (by omega) (by omega)]
      congr 1; omega
    rw [hlz, Option.bind_some, wuid (x := (s : Int)) (by omega) (by omega), if_pos (by omega), wuid (x := 64 - (s : Int)) (by omega) (by omega), if_pos (by omega)]
    have e64 : (64 : Int) - (s : Int) = ((64 - s : Nat) : Int) := by omega
    rw [e64, shl_w y s (by omega), shl_w hi s (by omega), shl_w lo s (by omega), shr_w lo (64 - s) (by omega)]
    have hps : (0 : Int) < 2 ^ s := Int.pow_pos (by decide)
    have hpc : (0 : Int) < 2 ^ (64 - s) := Int.pow_pos (by decide)
    have hpp : (2 : Int) ^ s * 2 ^ (64 - s) = 18446744073709551616 := by rw [← Int.pow_add, show s + (64 - s) = 64 by omega]; rfl
    have hpl : (2 : Int) ^ (L - 1) * 2 ^ s = 9223372036854775808 := by rw [← Int.pow_add, show L - 1 + s = 63 by omega]; rfl
    have hpL : (2 : Int) ^ L * 2 ^ s = 18446744073709551616 := by rw [← Int.pow_add, show L + s = 64 by omega]; rfl
    have y1 : 9223372036854775808 ≤ y * 2 ^ s := by rw [← hpl]; exact Int.mul_le_mul_of_nonneg_right Ll (by omega)
    have y2 : y * 2 ^ s < 18446744073709551616 := by rw [← hpL]; exact Int.mul_lt_mul_of_pos_right Lu hps
    have x1 : hi * 2 ^ s + 2 ^ s ≤ y * 2 ^ s := by
      have : (hi + 1) * 2 ^ s ≤ y * 2 ^ s := Int.mul_le_mul_of_nonneg_right (by omega) (by omega)
      rw [Int.add_mul] at this; omega
    have x0 : 0 ≤ hi * 2 ^ s := Int.mul_nonneg h0 (by omega)
    have d0 : 0 ≤ lo / 2 ^ (64 - s) := Int.ediv_nonneg l0 (by omega)
    have d1 : lo / 2 ^ (64 - s) < 2 ^ s := Int.ediv_lt_of_lt_mul hpc (by rw [hpp]; exact l1)
    have hlo : lo * 2 ^ s / 18446744073709551616 = lo / 2 ^ (64 - s) := by
      rw [← hpp, Int.mul_comm (2 ^ s) (2 ^ (64 - s))]
      exact Int.mul_ediv_mul_of_pos_left _ _ hps
    have hlm := Int.mul_ediv_add_emod (lo * 2 ^ s) 18446744073709551616
    have hl0 : 0 ≤ lo * 2 ^ s := Int.mul_nonneg l0 (by omega)
    rw [hlo] at hlm
    have em : hi * 2 ^ s % 2 ^ s = 0 := Int.mul_emod_left _ _
    rw [Int.emod_eq_of_lt (a := y * 2 ^ s) (by omega) y2, Int.emod_eq_of_lt (a := hi * 2 ^ s) x0 (by omega), u64_join (hi * 2 ^ s) (lo / 2 ^ (64 - s)) s (by omega) x0 (by omega) em d0 d1 (by omega)]
    -- the words of the normalized numbers
    have big : (hi * 2 ^ s + lo / 2 ^ (64 - s)) * 18446744073709551616 + lo * 2 ^ s % 18446744073709551616 = (hi * 18446744073709551616 + lo) * 2 ^ s := by
      have : (hi * 18446744073709551616 + lo) * 2 ^ s = hi * 2 ^ s * 18446744073709551616 + lo * 2 ^ s := by grind
      rw [this]; omega
    have hu' : hi * 2 ^ s + lo / 2 ^ (64 - s) < y * 2 ^ s := by omega
    have m0 := Int.emod_nonneg (lo * 2 ^ s) (show (18446744073709551616 : Int) ≠ 0 by decide)
    have m1 := Int.emod_lt_of_pos (lo * 2 ^ s) (show (0 : Int) < 18446744073709551616 by decide)
    generalize hU : hi * 2 ^ s + lo / 2 ^ (64 - s) = u at *
    generalize hM : lo * 2 ^ s % 18446744073709551616 = m at *
    generalize hY : y * 2 ^ s = Y at *
    rw [u64_and32 Y (by omega) (by omega), u64_and32 m (by omega) (by omega), if_neg (by omega), tdiv_nn (by omega)]
    have hu0 : 0 ≤ u := by omega
    have ha : 2147483648 ≤ Y / 4294967296 := by omega
    have ha' : Y / 4294967296 < 4294967296 := by omega
    have hYe : Y = Y / 4294967296 * 4294967296 + Y % 4294967296 := by omega
    have qe := Int.mul_ediv_add_emod u (Y / 4294967296)
    have qm0 := Int.emod_nonneg u (show Y / 4294967296 ≠ 0 by omega)
    have qm1 := Int.emod_lt_of_pos u (show 0 < Y / 4294967296 by omega)
    have qd0 : 0 ≤ u / (Y / 4294967296) := Int.ediv_nonneg hu0 (by omega)
    have qd1 : u / (Y / 4294967296) ≤ u := Int.ediv_le_self _ hu0
    have hmul : u / (Y / 4294967296) * (Y / 4294967296) = u - u % (Y / 4294967296) := by rw [Int.mul_comm]; omega
    have hmn : 0 ≤ u / (Y / 4294967296) * (Y / 4294967296) := Int.mul_nonneg qd0 (by omega)
    have guess : ∀ (v n : Int), 0 ≤ v → v < Y → 0 ≤ n → n < 4294967296 → (v * 4294967296 + n) / Y ≤ v / (Y / 4294967296) := by
      intro v n hv hv' hn hn'
      rw [Int.le_ediv_iff_mul_le (by omega)]
      have a1 := Int.ediv_mul_le (v * 4294967296 + n) (show Y ≠ 0 by omega)
      have a2 : (v * 4294967296 + n) / Y * Y = (v * 4294967296 + n) / Y * (Y / 4294967296) * 4294967296 + (v * 4294967296 + n) / Y * (Y % 4294967296) := by
        conv => lhs; rhs; rw [hYe]
        grind
      have a3 : 0 ≤ (v * 4294967296 + n) / Y := Int.ediv_nonneg (by omega) (by omega)
      have a4 : 0 ≤ (v * 4294967296 + n) / Y * (Y % 4294967296) := Int.mul_nonneg a3 (by omega)
      omega
    have wq : IntKind.u64.wrap (u / (Y / 4294967296)) = u / (Y / 4294967296) := wuid qd0 (by omega)
    rw [wq, hmul, wuid (x := u - u % (Y / 4294967296)) (by omega) (by omega), show u - (u - u % (Y / 4294967296)) = u % (Y / 4294967296) by omega, wuid (x := u % (Y / 4294967296)) (by omega) (by omega)]
    -- the first digit
    obtain ⟨Q, hQ⟩ : ∃ Q, Q = (u * 4294967296 + m / 4294967296) / Y := ⟨_, rfl⟩
    have g1 := guess u (m / 4294967296) hu0 hu' (by omega) (by omega)
    rw [← hQ] at g1
    obtain ⟨_, k2, k3, k4, k5, _, _⟩ := kn Y (Y / 4294967296) (Y % 4294967296) u (m / 4294967296) (u / (Y / 4294967296)) (u % (Y / 4294967296)) Q ha ha' (by omega) (by omega) hYe hu0 hu' (by omega) (by omega) qm0 (by rw [hmul]; omega) hQ g1
    refine div_l0 Y s (Y / 4294967296) (Y % 4294967296) u (m / 4294967296) (m % 4294967296) Q ha ha' (by omega) (by omega) hYe hu0 hu' (by omega) (by omega) hQ 10 _ ?_ 2 k _ _ (by omega) qm0 (by omega) (by rw [hmul]; omega) g1 (by omega)
    -- the second digit
    intro k' hk'
    obtain ⟨k', rfl⟩ : ∃ j, k' = j + 1 := ⟨k' - 1, by omega⟩
    obtain ⟨R, hR⟩ : ∃ R, R = u * 4294967296 + m / 4294967296 - Q * Y := ⟨_, rfl⟩
    have eR : IntKind.u64.wrap (IntKind.u64.wrap (IntKind.u64.wrap (u * 4294967296) + m / 4294967296) - IntKind.u64.wrap (Q * Y)) = R := by
      rw [hR]
      generalize Q * Y = Z at *
      simp only [IntKind.wrap_u64]
      omega
    have hR0 : 0 ≤ R := by omega
    have hR1 : R < Y := by omega
    have rm0 := Int.emod_nonneg R (show Y / 4294967296 ≠ 0 by omega)
    have rm1 := Int.emod_lt_of_pos R (show 0 < Y / 4294967296 by omega)
    have re := Int.mul_ediv_add_emod R (Y / 4294967296)
    have rd0 : 0 ≤ R / (Y / 4294967296) := Int.ediv_nonneg hR0 (by omega)
    have rd1 : R / (Y / 4294967296) ≤ R := Int.ediv_le_self _ hR0
    have rmul : R / (Y / 4294967296) * (Y / 4294967296) = R - R % (Y / 4294967296) := by rw [Int.mul_comm]; omega
    have rmn : 0 ≤ R / (Y / 4294967296) * (Y / 4294967296) := Int.mul_nonneg rd0 (by omega)
    rw [bits_Div64.j2, if_neg (by omega), eR, tdiv_nn hR0, wuid (x := R / (Y / 4294967296)) (by omega) (by omega), rmul, wuid (x := R - R % (Y / 4294967296)) (by omega) (by omega), show R - (R - R % (Y / 4294967296)) = R % (Y / 4294967296) by omega, wuid (x := R % (Y / 4294967296)) (by omega) (by omega)]
    have g2 := guess R (m % 4294967296) hR0 hR1 (by omega) (by omega)
    rw [div_l1 Y s (Y / 4294967296) (Y % 4294967296) R (m % 4294967296) Q ((R * 4294967296 + m % 4294967296) / Y) ha ha' (by omega) (by omega) hYe hR0 hR1 (by omega) (by omega) (by omega) rfl k2 k3 2 k' (R / (Y / 4294967296)) (R % (Y / 4294967296)) (by omega) rm0 (by omega) (by rw [rmul]; omega) g2 (by omega), shr_w _ s (by omega)]
    -- together
    have hYpos : 0 < Y := by omega
    obtain ⟨P, hP⟩ : ∃ P, P = (R * 4294967296 + m % 4294967296) / Y := ⟨_, rfl⟩
    have p1 := Int.mul_ediv_add_emod (R * 4294967296 + m % 4294967296) Y
    have p2 := Int.emod_nonneg (R * 4294967296 + m % 4294967296) (show Y ≠ 0 by omega)
    have p3 := Int.emod_lt_of_pos (R * 4294967296 + m % 4294967296) hYpos
    rw [← hP] at p1 ⊢
    have p4 : Y * P = P * Y := Int.mul_comm _ _
    have tot : (hi * 18446744073709551616 + lo) * 2 ^ s = (Q * 4294967296 + P) * Y + (R * 4294967296 + m % 4294967296 - P * Y) := by
      rw [← big, Int.add_mul, Int.mul_right_comm Q 4294967296 Y]
      generalize Q * Y = Z at *
      generalize P * Y = Z2 at *
      omega
    have hq : (hi * 18446744073709551616 + lo) * 2 ^ s / Y = Q * 4294967296 + P ∧ (hi * 18446744073709551616 + lo) * 2 ^ s % Y = R * 4294967296 + m % 4294967296 - P * Y := by
      refine (Int.ediv_emod_unique hYpos).mpr ⟨?_, by omega, by omega⟩
      rw [tot, Int.mul_comm Y]; omega
    have hq1 : (hi * 18446744073709551616 + lo) / y = Q * 4294967296 + P := by
      rw [← hq.1, ← hY]
      exact (Int.mul_ediv_mul_of_pos_left _ _ hps).symm
    have hq2 : (hi * 18446744073709551616 + lo) % y = (R * 4294967296 + m % 4294967296 - P * Y) / 2 ^ s := by
      rw [← hq.2, ← hY, Int.mul_comm _ (2 ^ s), Int.mul_comm y (2 ^ s), Int.mul_emod_mul_of_pos _ _ hps]
      exact (Int.mul_ediv_cancel_left _ (by omega)).symm
    rw [hq1, hq2]
theorem size_eq (a : Int) (h0 : -9223372036854775808 ≤ a) (h1 : a ≤ 9223372036854775807) : num_size.f a = some (if a < 0 then -a else a) := by
  unfold num_size.f
  by_cases c : a < 0
  · rw [if_pos c, if_pos c]
    congr 1
    simp only [IntKind.wrap_u64]
    omega
  · rw [if_neg c, if_neg c, wuid (by omega) (by omega)]
/-- The low and the high word of a number of two words. -/
theorem product_eq (a b : Int) (ha : -9223372036854775808 ≤ a) (ha' : a ≤ 9223372036854775807) (hb : -9223372036854775808 ≤ b) (hb' : b ≤ 9223372036854775807) :
    num_Product.f a b = some (a * b / 18446744073709551616, a * b % 18446744073709551616) := by
  unfold num_Product.f
  rw [size_eq a ha ha', Option.bind_some, size_eq b hb hb', Option.bind_some]
  have mA : ∃ A, A = if a < 0 then -a else a := ⟨_, rfl⟩
  have mB : ∃ B, B = if b < 0 then -b else b := ⟨_, rfl⟩
  obtain ⟨A, hA⟩ := mA
  obtain ⟨B, hB⟩ := mB
  rw [← hA, ← hB]
  have A0 : 0 ≤ A ∧ A ≤ 9223372036854775808 := by rw [hA]; split <;> omega
  have B0 : 0 ≤ B ∧ B ≤ 9223372036854775808 := by rw [hB]; split <;> omega
  rw [mul64_eq A B (by omega) (by omega) (by omega) (by omega), Option.bind_some]
  have hAB := mul_le A0.1 A0.2 B0.1 B0.2
  by_cases ca : a < 0
  · rw [if_pos ca] at hA
    by_cases cb : b < 0
    · rw [if_pos cb] at hB
      have e : A * B = a * b := by rw [hA, hB, Int.neg_mul_neg]
      rw [show (decide (a < 0) != decide (b < 0)) = false by simp [ca, cb], if_neg (by decide), e, wid (by omega) (by omega)]
    · rw [if_neg cb] at hB
      have e : A * B = -(a * b) := by rw [hA, hB, Int.neg_mul]
      rw [show (decide (a < 0) != decide (b < 0)) = true by simp [ca, cb], if_pos rfl]
      dsimp only
      rw [e] at hAB ⊢
      generalize a * b = P at *
      rw [wid (x := -P / 18446744073709551616) (by omega) (by omega)]
      unfold num_Wide_Neg.f
      rw [if_pos (by omega), Option.bind_some]
      simp only [IntKind.wrap_u64, wrap64]
      congr 1
      refine Prod.ext ?_ ?_ <;> (dsimp only; omega)
  · rw [if_neg ca] at hA
    by_cases cb : b < 0
    · rw [if_pos cb] at hB
      have e : A * B = -(a * b) := by rw [hA, hB, Int.mul_neg]
      rw [show (decide (a < 0) != decide (b < 0)) = true by simp [ca, cb], if_pos rfl]
      dsimp only
      rw [e] at hAB ⊢
      generalize a * b = P at *
      rw [wid (x := -P / 18446744073709551616) (by omega) (by omega)]
      unfold num_Wide_Neg.f
      rw [if_pos (by omega), Option.bind_some]
      simp only [IntKind.wrap_u64, wrap64]
      congr 1
      refine Prod.ext ?_ ?_ <;> (dsimp only; omega)
    · rw [if_neg cb] at hB
      have e : A * B = a * b := by rw [hA, hB]
      rw [show (decide (a < 0) != decide (b < 0)) = false by simp [ca, cb], if_neg (by decide), e, wid (by omega) (by omega)]
/-- A product that isn't negative, divided. -/
theorem muldiv_nn (k : Nat) (a b c : Int) (ha : 0 ≤ a) (ha' : a ≤ 9223372036854775807) (hb : 0 ≤ b) (hb' : b ≤ 9223372036854775807) (hc : 1 ≤ c) (hc' : c ≤ 9223372036854775807) (hlt : a * b / 18446744073709551616 < c) (hq : a * b / c ≤ 9223372036854775807) (hk : 30 ≤ k) :
    num_MulDiv.f k a b c = some (a * b / c, 0) := by
  obtain ⟨k, rfl⟩ : ∃ j, k = j + 2 := ⟨k - 2, by omega⟩
  have hP : 0 ≤ a * b := Int.mul_nonneg ha hb
  have hAB := mul_le ha ha' hb hb'
  have hq0 : 0 ≤ a * b / c := Int.ediv_nonneg hP (by omega)
  unfold num_MulDiv.f
  rw [product_eq a b (by omega) ha' (by omega) hb', Option.bind_some]
  generalize a * b = P at *
  have e : P / 18446744073709551616 * 18446744073709551616 + P % 18446744073709551616 = P := by omega
  unfold num_Wide_Div.f
  dsimp only
  rw [if_neg (by omega), if_neg (by omega), num_Wide_Div.j0, wuid (x := P / 18446744073709551616) (by omega) (by omega), wuid (x := c) (by omega) (by omega), if_neg (by omega), div64_eq (k + 1) _ _ _ (by omega) hlt (by omega) (by omega) (by omega) (by omega), Option.bind_some, if_neg (by omega), e]
  rw [num_Wide_Div.j1, if_neg (by omega), if_pos (by omega), wid (by omega) (by omega), Option.bind_some]
theorem within_eq (x y z m : Int) (hm : 0 ≤ m) (hm' : m ≤ 4611686018427387904) : sky_within.f x y z m = some (decide (-m ≤ x ∧ x ≤ m ∧ -m ≤ y ∧ y ≤ m ∧ -m ≤ z ∧ z ≤ m)) := by
  unfold sky_within.f
  rw [wid (x := -m) (by omega) (by omega)]
  congr 1
  rw [Bool.eq_iff_iff]
  simp
  omega
/-- A place whose components are at most 2^22. -/
def In (x y z : Int) : Prop := -4194304 ≤ x ∧ x ≤ 4194304 ∧ -4194304 ≤ y ∧ y ≤ 4194304 ∧ -4194304 ≤ z ∧ z ≤ 4194304
instance (x y z : Int) : Decidable (In x y z) := by unfold In; infer_instance
theorem within_in (x y z : Int) : sky_within.f x y z 4194304 = some (decide (In x y z)) := within_eq x y z 4194304 (by decide) (by decide)
/-- The root of the square of the distance. -/
noncomputable def dist (x y z : Int) : Int := isq (x * x + y * y + z * z)
theorem dist_eq (k : Nat) (x y z : Int) (h : In x y z) (hk : 70 ≤ k) : num_Sqrt.f k (wrap64 (wrap64 (wrap64 (x * x) + wrap64 (y * y)) + wrap64 (z * z))) = some (dist x y z) ∧ 0 ≤ dist x y z ∧ dist x y z ≤ 8388608 ∧ dist x y z * dist x y z ≤ x * x + y * y + z * z ∧ x * x + y * y + z * z < (dist x y z + 1) * (dist x y z + 1) := by
  obtain ⟨h1, h2, h3, h4, h5, h6⟩ := h
  have a := mul_bd (a := x) (b := x) (A := 4194304) (B := 4194304) (by omega) (by omega) (by omega) (by omega)
  have b := mul_bd (a := y) (b := y) (A := 4194304) (B := 4194304) (by omega) (by omega) (by omega) (by omega)
  have c := mul_bd (a := z) (b := z) (A := 4194304) (B := 4194304) (by omega) (by omega) (by omega) (by omega)
  have sq : ∀ v : Int, 0 ≤ v * v := fun v => by
    rcases Int.le_total 0 v with g | g
    · exact Int.mul_nonneg g g
    · have := Int.mul_nonneg (show 0 ≤ -v by omega) (show 0 ≤ -v by omega); rw [Int.neg_mul_neg] at this; exact this
  have a0 := sq x
  have b0 := sq y
  have c0 := sq z
  unfold dist
  generalize x * x = X at *
  generalize y * y = Y at *
  generalize z * z = Z at *
  rw [wid (x := X) (by omega) (by omega), wid (x := Y) (by omega) (by omega), wid (x := Z) (by omega) (by omega), wid (x := X + Y) (by omega) (by omega), wid (x := X + Y + Z) (by omega) (by omega)]
  obtain ⟨e, r0, r1, r2, r3⟩ := isq_all (X + Y + Z) (by omega) (by omega)
  have : isq (X + Y + Z) < 8388609 := sq_lt r0 (by omega) (by omega)
  exact ⟨e k hk, r0, by omega, r2, r3⟩
/-- The size of the pull along an axis. -/
def pl (x r : Int) : Int := 9007199254740992 * (if x < 0 then -x else x) / r / (r * r)
theorem pl_bd (x r : Int) (hx : -4194304 ≤ x) (hx' : x ≤ 4194304) (hr : 65536 ≤ r) (hr' : r ≤ 8388608) : 0 ≤ pl x r ∧ pl x r ≤ 576460752303423488 := by
  unfold pl
  have m : ∃ m, m = (if x < 0 then -x else x) := ⟨_, rfl⟩
  obtain ⟨m, hm⟩ := m
  have m2 : 0 ≤ m ∧ m ≤ 4194304 := by rw [hm]; split <;> omega
  rw [← hm]
  have hrr := mul_le (a := r) (b := r) (A := 8388608) (B := 8388608) (by omega) hr' (by omega) hr'
  have h65 : 65536 * 65536 ≤ r * r := Int.mul_le_mul hr hr (by omega) (by omega)
  have q0 : 0 ≤ 9007199254740992 * m / r := Int.ediv_nonneg (by omega) (by omega)
  have q1 : 9007199254740992 * m / r ≤ 576460752303423488 := by
    apply Int.ediv_le_of_le_mul (by omega)
    have : 576460752303423488 * 65536 ≤ 576460752303423488 * r := Int.mul_le_mul_of_nonneg_left hr (by omega)
    omega
  exact ⟨Int.ediv_nonneg q0 (by omega), Int.le_trans (Int.ediv_le_self _ q0) q1⟩
theorem part_eq (k : Nat) (x r : Int) (hx : -4194304 ≤ x) (hx' : x ≤ 4194304) (hr : 65536 ≤ r) (hr' : r ≤ 8388608) (hk : 30 ≤ k) : sky_Pull.part k x r = some (if x > 0 then -(pl x r) else pl x r) := by
  unfold sky_Pull.part
  have hb := pl_bd x r hx hx' hr hr'
  have hm : mx x (wrap64 (-x)) = if x < 0 then -x else x := by rw [wid (x := -x) (by omega) (by omega), mxv]; split <;> split <;> omega
  unfold pl at hb ⊢
  rw [hm]
  have m : ∃ m, m = (if x < 0 then -x else x) := ⟨_, rfl⟩
  obtain ⟨m, hm2⟩ := m
  have m2 : 0 ≤ m ∧ m ≤ 4194304 := by rw [hm2]; split <;> omega
  rw [← hm2] at hb ⊢
  have hrr := mul_le (a := r) (b := r) (A := 8388608) (B := 8388608) (by omega) hr' (by omega) hr'
  have h65 : 65536 * 65536 ≤ r * r := Int.mul_le_mul hr hr (by omega) (by omega)
  have q0 : 0 ≤ 9007199254740992 * m / r := Int.ediv_nonneg (by omega) (by omega)
  have q1 : 9007199254740992 * m / r ≤ 576460752303423488 := by
    apply Int.ediv_le_of_le_mul (by omega)
    have : 576460752303423488 * 65536 ≤ 576460752303423488 * r := Int.mul_le_mul_of_nonneg_left hr (by omega)
    omega
  rw [muldiv_nn k 9007199254740992 m r (by omega) (by omega) (by omega) (by omega) (by omega) (by omega) (by omega) (by omega) hk, Option.bind_some]
  dsimp only
  rw [wid (x := r * r) (by omega) (by omega), if_neg (by omega), tdiv_nn q0]
  rw [wid (x := 9007199254740992 * m / r / (r * r)) (by omega) (by omega)]
  by_cases c : x > 0
  · rw [if_pos c, if_pos c, wid (by omega) (by omega)]
  · rw [if_neg c, if_neg c]
/-- What a component of the pull is. -/
noncomputable def pu (x d : Int) : Int := if d < 65536 then 0 else if x > 0 then -(pl x d) else pl x d
theorem pull_eq (k : Nat) (x y z : Int) (h : In x y z) (hk : 70 ≤ k) : sky_Pull.f k x y z = some (pu x (dist x y z), pu y (dist x y z), pu z (dist x y z)) := by
  unfold sky_Pull.f
  obtain ⟨e, d0, d1, _, _⟩ := dist_eq k x y z h hk
  rw [within_in, Option.bind_some, if_pos (by simpa using h), e, Option.bind_some]
  unfold pu
  by_cases c : dist x y z < 65536
  · rw [if_pos c, if_pos c, if_pos c, if_pos c]
  · obtain ⟨h1, h2, h3, h4, h5, h6⟩ := h
    rw [if_neg c, if_neg c, if_neg c, if_neg c, part_eq k x _ (by omega) (by omega) (by omega) (by omega) (by omega), Option.bind_some, part_eq k y _ (by omega) (by omega) (by omega) (by omega) (by omega), Option.bind_some, part_eq k z _ (by omega) (by omega) (by omega) (by omega) (by omega), Option.bind_some]
theorem pu_bd (x y z c : Int) (h : In x y z) (hc : c = x ∨ c = y ∨ c = z) : -576460752303423488 ≤ pu c (dist x y z) ∧ pu c (dist x y z) ≤ 576460752303423488 := by
  obtain ⟨_, d0, d1, _, _⟩ := dist_eq 70 x y z h (by omega)
  obtain ⟨h1, h2, h3, h4, h5, h6⟩ := h
  unfold pu
  by_cases g : dist x y z < 65536
  · rw [if_pos g]; omega
  · have := pl_bd c (dist x y z) (by omega) (by omega) (by omega) (by omega)
    rw [if_neg g]
    split <;> omega
/-- The next place along an axis. -/
noncomputable def nx (w h d : Int) : Int := 2 * h - w + pu h d
theorem step_eq (k : Nat) (wx wy wz x y z : Int) (hk : 80 ≤ k) : sky_Step.f k wx wy wz x y z =
    if In wx wy wz ∧ In x y z then (if In (nx wx x (dist x y z)) (nx wy y (dist x y z)) (nx wz z (dist x y z)) then some (nx wx x (dist x y z), nx wy y (dist x y z), nx wz z (dist x y z), 0) else some (0, 0, 0, 18)) else some (0, 0, 0, 4) := by
  obtain ⟨k, rfl⟩ : ∃ j, k = j + 1 := ⟨k - 1, by omega⟩
  have j0 : ∀ b, sky_Step.j0 (k + 1) b wx wy wz x y z = if b = true then some (0, 0, 0, 4) else sky_Step.j0 (k + 1) false wx wy wz x y z := by
    intro b; cases b
    · rw [if_neg (by decide)]
    · rw [if_pos rfl, sky_Step.j0, if_pos rfl]
  unfold sky_Step.f
  rw [within_in, Option.bind_some]
  by_cases c1 : In wx wy wz
  · rw [if_pos (by simpa using c1), within_in, Option.bind_some]
    by_cases c2 : In x y z
    · rw [show (!decide (In x y z)) = false by simp [c2], if_pos ⟨c1, c2⟩, sky_Step.j0, if_neg (by decide), pull_eq k x y z c2 (by omega), Option.bind_some]
      have px := pu_bd x y z x c2 (by simp)
      have py := pu_bd x y z y c2 (by simp)
      have pz := pu_bd x y z z c2 (by simp)
      unfold nx
      have c2' := c2
      obtain ⟨h1, h2, h3, h4, h5, h6⟩ := c2'
      obtain ⟨g1, g2, g3, g4, g5, g6⟩ := c1
      dsimp only
      generalize pu x (dist x y z) = p at *
      generalize pu y (dist x y z) = q at *
      generalize pu z (dist x y z) = r at *
      rw [wid (x := 2 * x) (by omega) (by omega), wid (x := 2 * y) (by omega) (by omega), wid (x := 2 * z) (by omega) (by omega), wid (x := 2 * x - wx) (by omega) (by omega), wid (x := 2 * y - wy) (by omega) (by omega), wid (x := 2 * z - wz) (by omega) (by omega), wid (x := 2 * x - wx + p) (by omega) (by omega), wid (x := 2 * y - wy + q) (by omega) (by omega), wid (x := 2 * z - wz + r) (by omega) (by omega), within_in, Option.bind_some]
      by_cases c3 : In (2 * x - wx + p) (2 * y - wy + q) (2 * z - wz + r)
      · rw [if_pos (by simpa using c3), if_pos c3]
      · rw [if_neg (by simpa using c3), if_neg c3]
    · rw [show (!decide (In x y z)) = true by simp [c2], j0, if_pos rfl, if_neg (fun z => c2 z.2)]
  · rw [if_neg (by simpa using c1), j0, if_pos rfl, if_neg (fun z => c1 z.1)]
theorem pulls_eq (k : Nat) (hk : 80 ≤ k) : spykeep3_pulls.f k = some true := by
  have h : In 1048576 0 0 := by decide
  have hd : dist 1048576 0 0 = 1048576 := isq_is (by decide) (by decide) (by decide) (by decide) (by decide)
  have e : sky_Step.f k 1048576 0 0 1048576 0 0 = some (1040384, 0, 0, 0) := by
    rw [step_eq k _ _ _ _ _ _ hk, hd, if_pos ⟨h, h⟩]
    have n0 : nx 1048576 1048576 1048576 = 1040384 := by decide
    have n1 : nx 0 0 1048576 = 0 := by decide
    rw [n0, n1, if_pos (by decide)]
  unfold spykeep3_pulls.f
  rw [e, Option.bind_some]
  rfl
theorem dist_neg (x y z : Int) : dist (-x) (-y) (-z) = dist x y z := by
  unfold dist
  rw [Int.neg_mul_neg, Int.neg_mul_neg, Int.neg_mul_neg]
theorem pl_neg (x r : Int) : pl (-x) r = pl x r := by
  unfold pl
  have : (if -x < 0 then - -x else -x) = (if x < 0 then -x else x) := by split <;> split <;> omega
  rw [this]
theorem pu_neg (x r : Int) : pu (-x) r = -(pu x r) := by
  unfold pu
  by_cases c : r < 65536
  · rw [if_pos c, if_pos c]; rfl
  · rw [if_neg c, if_neg c, pl_neg]
    by_cases h : x = 0
    · subst h
      have : pl 0 r = 0 := by unfold pl; simp
      rw [this]; simp
    · split <;> split <;> omega
theorem SkyReverses : spykeep3_SkyReverses.Pure := by
  intro wx wy wz x y z _ _ _ _ _ _
  refine ⟨80, ?_⟩
  generalize hK : (80 : Nat) = K
  have hK' : 80 ≤ K := by omega
  clear hK
  unfold spykeep3_SkyReverses.f
  rw [pulls_eq K hK', step_eq K _ _ _ _ _ _ hK']
  by_cases c : In wx wy wz ∧ In x y z
  · rw [if_pos c]
    by_cases d : In (nx wx x (dist x y z)) (nx wy y (dist x y z)) (nx wz z (dist x y z))
    · rw [if_pos d, Option.bind_some, Option.bind_some, if_pos rfl]
      dsimp only
      rw [if_pos rfl, step_eq K _ _ _ _ _ _ hK', if_pos ⟨d, c.2⟩]
      have e1 : ∀ w h v, nx (nx w h v) h v = w := by intro w h v; unfold nx; omega
      rw [e1, e1, e1, if_pos c.1, Option.bind_some]
      dsimp only
      rw [if_pos rfl, if_pos (by simp)]
      unfold spykeep3_minus.f
      obtain ⟨h1, h2, h3, h4, h5, h6⟩ := c.2
      rw [wid (x := -x) (by omega) (by omega), wid (x := -y) (by omega) (by omega), wid (x := -z) (by omega) (by omega), Option.bind_some]
      dsimp only
      rw [pull_eq K (-x) (-y) (-z) ⟨by omega, by omega, by omega, by omega, by omega, by omega⟩ (by omega), pull_eq K x y z c.2 (by omega), Option.bind_some, Option.bind_some]
      dsimp only
      have px := pu_bd x y z x c.2 (by simp)
      have py := pu_bd x y z y c.2 (by simp)
      have pz := pu_bd x y z z c.2 (by simp)
      rw [dist_neg, pu_neg, pu_neg, pu_neg, wid (x := -(pu x (dist x y z))) (by omega) (by omega), wid (x := -(pu y (dist x y z))) (by omega) (by omega), wid (x := -(pu z (dist x y z))) (by omega) (by omega), Option.bind_some]
      simp
    · rw [if_neg d, Option.bind_some, Option.bind_some, if_pos rfl]
      dsimp only
      rw [if_neg (by decide)]
      rfl
  · rw [if_neg c, Option.bind_some, Option.bind_some, if_pos rfl]
    dsimp only
    rw [if_neg (by decide)]
    rfl

end Go.Proofs.Ytaddopcbneggiaa.Pure
