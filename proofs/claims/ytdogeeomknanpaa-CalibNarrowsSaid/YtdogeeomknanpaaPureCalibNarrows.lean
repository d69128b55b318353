import Derived.Test.YtdogeeomknanpaaFC5
import Derived.KernelRfl
import Derived.Laws.BitsLemmas
import Derived.Laws.Bits64
import Derived.Laws.BitsAllLaws
import Derived.Laws.BitsLemmas
import Derived.Laws.Bits64
import Derived.Laws.BitsAllLaws
namespace Go.Sp.C5
open Go Go.Sp
set_option linter.unusedVariables false
theorem bnd {α β : Type} {x : Option α} {g : α → Option β} {v : α} (h : x = some v) : x.bind g = g v := by rw [h]; rfl
theorem ifp {α : Type} {c : Prop} [Decidable c] {x y : α} (h : c) : (if c then x else y) = x := if_pos h
theorem ifn {α : Type} {c : Prop} [Decidable c] {x y : α} (h : ¬ c) : (if c then x else y) = y := if_neg h
theorem rd_mem {α : Type} [Inhabited α] {l : List α} {i : Int} (h0 : 0 ≤ i) (h1 : i < (l.length : Int)) : rd l i ∈ l := by
  obtain ⟨h, e⟩ := rd_lt h0 h1
  rw [e]; exact List.getElem_mem h
theorem wid {x : Int} (h : -9223372036854775808 ≤ x) (h' : x ≤ 9223372036854775807) : w64 x = x := w64_of h h'
theorem wuid {x : Int} (h : 0 ≤ x) (h' : x ≤ 18446744073709551615) : u64 x = x := u64_of h h'
theorem mul_le {a b A B : Int} (h1 : 0 ≤ a) (h2 : a ≤ A) (h3 : 0 ≤ b) (h4 : b ≤ B) : 0 ≤ a * b ∧ a * b ≤ A * B :=
  ⟨Int.mul_nonneg h1 h3, Int.mul_le_mul h2 h4 h3 (by omega)⟩
theorem tdiv_nn {a b : Int} (h : 0 ≤ a) : Int.tdiv a b = a / b := Int.tdiv_eq_ediv_of_nonneg h
theorem tmod_nn {a b : Int} (h : 0 ≤ a) : Int.tmod a b = a % b := Int.tmod_eq_emod_of_nonneg h
def AllIn (l : List Int) (lo hi : Int) : Prop := ∀ x, x ∈ l → lo ≤ x ∧ x ≤ hi
theorem AllIn.nil {lo hi : Int} : AllIn [] lo hi := fun x h => by cases h
theorem AllIn.push {l : List Int} {lo hi x : Int} (h : AllIn l lo hi) (h0 : lo ≤ x) (h1 : x ≤ hi) : AllIn (l ++ [x]) lo hi := by
  intro y hy
  rcases List.mem_append.mp hy with hy | hy
  · exact h y hy
  · simp only [List.mem_singleton] at hy; subst hy; exact ⟨h0, h1⟩
theorem AllIn.rd {l : List Int} {lo hi i : Int} (h : AllIn l lo hi) (h0 : 0 ≤ i) (h1 : i < (l.length : Int)) : lo ≤ rd l i ∧ rd l i ≤ hi := h _ (rd_mem h0 h1)
theorem AllIn.mono {l : List Int} {lo hi lo' hi' : Int} (h : AllIn l lo hi) (h0 : lo' ≤ lo) (h1 : hi ≤ hi') : AllIn l lo' hi' := fun x hx => by have := h x hx; omega
theorem rd_set_eq (l : List Int) (i x : Int) (h0 : 0 ≤ i) (h1 : i < (l.length : Int)) : rd (l.set i.toNat x) i = x := by
  obtain ⟨h, e⟩ := rd_lt (xs := l.set i.toNat x) h0 (by simp; omega)
  rw [e]; simp
theorem rd_set_ne (l : List Int) (i j x : Int) (h0 : 0 ≤ i) (hj : 0 ≤ j) (h1 : j < (l.length : Int)) (hne : j ≠ i) : rd (l.set i.toNat x) j = rd l j := by
  obtain ⟨h, e⟩ := rd_lt (xs := l.set i.toNat x) hj (by simp; omega)
  obtain ⟨h', e'⟩ := rd_lt (xs := l) hj h1
  rw [e, e', List.getElem_set, if_neg (by omega)]
theorem rd_push_old (l : List Int) (x i : Int) (h0 : 0 ≤ i) (h1 : i < (l.length : Int)) : rd (l ++ [x]) i = rd l i := by
  obtain ⟨h, e⟩ := rd_lt (xs := l ++ [x]) h0 (by simp; omega)
  obtain ⟨h', e'⟩ := rd_lt (xs := l) h0 h1
  rw [e, e', List.getElem_append_left h']
theorem rd_push_new (l : List Int) (x i : Int) (h1 : i = (l.length : Int)) : rd (l ++ [x]) i = x := by
  obtain ⟨h, e⟩ := rd_lt (xs := l ++ [x]) (i := i) (by omega) (by simp; omega)
  rw [e, List.getElem_append_right (by omega)]
  simp
theorem u64_and32 (x : Int) (h0 : 0 ≤ x) (h1 : x < 18446744073709551616) : Go.bits .and .u64 x 4294967295 = x % 4294967296 := by
  rw [Go.u64_and x 4294967295 h0 h1 (by decide) (by decide)]
  have : x.toNat &&& (4294967295 : Int).toNat = x.toNat % 4294967296 := Nat.and_two_pow_sub_one_eq_mod x.toNat 32
  rw [this]
  omega
theorem shr32 (x : Int) : shr x 32 = x / 4294967296 := shr_def x 32
theorem mul64_eq (k : Nat) (a b : Int) (ha : 0 ≤ a) (ha' : a < 18446744073709551616) (hb : 0 ≤ b) (hb' : b < 18446744073709551616) :
    bits_Mul64 k a b = some (a * b / 18446744073709551616, a * b % 18446744073709551616) := by
  unfold bits_Mul64
  rw [u64_and32 a ha ha', u64_and32 b hb hb', shr32 a, shr32 b]
  have h1 := mul_le (a := a / 4294967296) (b := b / 4294967296) (A := 4294967295) (B := 4294967295) (by omega) (by omega) (by omega) (by omega)
  have h2 := mul_le (a := a / 4294967296) (b := b % 4294967296) (A := 4294967295) (B := 4294967295) (by omega) (by omega) (by omega) (by omega)
  have h3 := mul_le (a := a % 4294967296) (b := b / 4294967296) (A := 4294967295) (B := 4294967295) (by omega) (by omega) (by omega) (by omega)
  have h4 := mul_le (a := a % 4294967296) (b := b % 4294967296) (A := 4294967295) (B := 4294967295) (by omega) (by omega) (by omega) (by omega)
  have e : a * b = (a / 4294967296) * (b / 4294967296) * 18446744073709551616 + ((a / 4294967296) * (b % 4294967296) + (a % 4294967296) * (b / 4294967296)) * 4294967296 + (a % 4294967296) * (b % 4294967296) := by
    have ea : a = a / 4294967296 * 4294967296 + a % 4294967296 := by omega
    have eb : b = b / 4294967296 * 4294967296 + b % 4294967296 := by omega
    generalize a / 4294967296 = x1 at *
    generalize a % 4294967296 = x0 at *
    generalize b / 4294967296 = y1 at *
    generalize b % 4294967296 = y0 at *
    subst ea eb
    grind
  rw [u64_def (a * b), e]
  generalize (a / 4294967296) * (b / 4294967296) = p at *
  generalize (a / 4294967296) * (b % 4294967296) = q at *
  generalize (a % 4294967296) * (b / 4294967296) = r at *
  generalize (a % 4294967296) * (b % 4294967296) = s at *
  rw [wuid (x := s) (by omega) (by omega), wuid (x := p) (by omega) (by omega), wuid (x := q) (by omega) (by omega), wuid (x := r) (by omega) (by omega)]
  rw [shr32 s, wuid (x := q + s / 4294967296) (by omega) (by omega)]
  rw [u64_and32 (q + s / 4294967296) (by omega) (by omega), shr32 (q + s / 4294967296)]
  rw [wuid (x := p + (q + s / 4294967296) / 4294967296) (by omega) (by omega)]
  rw [wuid (x := (q + s / 4294967296) % 4294967296 + r) (by omega) (by omega), shr32]
  rw [wuid (by omega) (by omega)]
  have e1 : p + (q + s / 4294967296) / 4294967296 + ((q + s / 4294967296) % 4294967296 + r) / 4294967296 = (p * 18446744073709551616 + (q + r) * 4294967296 + s) / 18446744073709551616 := by omega
  rw [e1]
theorem i64_and_low (x : Int) (i : Nat) (hi : i ≤ 62) : Go.bits .and .i64 x ((2 ^ i - 1 : Nat) : Int) = (((x % 18446744073709551616).toNat % 2 ^ i : Nat) : Int) := by
  have hp : 2 ^ i ≤ 2 ^ 62 := Nat.pow_le_pow_right (by decide) hi
  have hpos : 0 < 2 ^ i := Nat.two_pow_pos i
  have e1 : (BitVec.ofInt 64 x).toNat = (x % 18446744073709551616).toNat := by simp [BitVec.toNat_ofInt]
  have hb : (2 ^ i - 1) % 2 ^ IntKind.i64.bits = 2 ^ i - 1 := Nat.mod_eq_of_lt (by show 2 ^ i - 1 < 2 ^ 64; omega)
  simp only [Go.bits, BitVec.ofInt_natCast, BitVec.toNat_and, BitVec.toNat_ofNat, hb]
  rw [show (BitVec.ofInt IntKind.i64.bits x).toNat = (x % 18446744073709551616).toNat from e1, Nat.and_two_pow_sub_one_eq_mod]
  have := Nat.mod_lt (x % 18446744073709551616).toNat hpos
  rw [IntKind.wrap_i64]
  omega
theorem i64_and_in (x : Int) (i : Nat) (m : Int) (hi : i ≤ 62) (hm : m = ((2 ^ i - 1 : Nat) : Int)) : 0 ≤ Go.bits .and .i64 x m ∧ Go.bits .and .i64 x m ≤ m := by
  subst hm
  rw [i64_and_low x i hi]
  have := Nat.mod_lt (x % 18446744073709551616).toNat (Nat.two_pow_pos i)
  omega
theorem sq_le {a b : Int} (h : a ≤ b) (ha : 0 ≤ a) : a * a ≤ b * b := Int.mul_le_mul h h ha (by omega)
theorem sq_lt {a b : Int} (ha : 0 ≤ a) (hb : 0 ≤ b) (h : a * a < b * b) : a < b := by
  rcases Int.lt_or_le a b with g | g
  · exact g
  · have := sq_le g hb; omega
theorem or_bit (r : Int) (j : Nat) (hr : 0 ≤ r) (hm : r % 2 ^ (j + 1) = 0) (h : r + 2 ^ j < 18446744073709551616) (hj : j ≤ 62) : Go.bits .or .u64 r (2 ^ j) = r + 2 ^ j := by
  have hp : (0 : Int) < 2 ^ j := Int.pow_pos (by decide)
  have hlt : (2 : Int) ^ j < 2 ^ (j + 1) := by rw [Int.pow_succ]; omega
  exact Go.bits_join .u64 64 (by decide) (fun n h0 h1 => by have h2 : n < 18446744073709551616 := h1; rw [IntKind.wrap_u64]; omega) (j + 1) r (2 ^ j) hr hm (by show r < 18446744073709551616; omega) (by omega) hlt (by show (2 : Int) ^ j < 18446744073709551616; omega)
theorem shr1 (x : Int) : shr x 1 = x / 2 := shr_def x 1
theorem sqrt_end (k n : Nat) (u v r : Int) (hk : 0 < n) : num_SqrtMul.l0 k u v n r 0 = some r := by
  obtain ⟨n, rfl⟩ : ∃ m, n = m + 1 := ⟨n - 1, by omega⟩
  rw [num_SqrtMul.l0, ifn (by decide)]
theorem sqrt_loop (k : Nat) (P : Int) (hP : 0 ≤ P) (hP' : P < 85070591730234615865843651857942052864) (j : Nat) : ∀ (r : Int) (n : Nat), j ≤ 62 → 0 ≤ r → r % 2 ^ (j + 1) = 0 → r + 2 ^ (j + 1) ≤ 9223372036854775808 → r * r ≤ P → P < (r + 2 ^ (j + 1)) * (r + 2 ^ (j + 1)) → j + 1 < n →
    ∃ s, num_SqrtMul.l0 k (P / 18446744073709551616) (P % 18446744073709551616) n r (2 ^ j) = some s ∧ 0 ≤ s ∧ s ≤ 9223372036854775807 ∧ s * s ≤ P ∧ P < (s + 1) * (s + 1) := by
  induction j with
  | zero =>
    intro r n _ h0 hm hb hlo hhi hk
    obtain ⟨n, rfl⟩ : ∃ m, n = m + 1 := ⟨n - 1, by omega⟩
    have hor := or_bit r 0 h0 hm (by omega) (by omega)
    have hsq := mul_le (a := r + 1) (b := r + 1) (A := 9223372036854775807) (B := 9223372036854775807) (by omega) (by omega) (by omega) (by omega)
    rw [num_SqrtMul.l0, ifp (by decide), hor, show (2 : Int) ^ 0 = 1 by rfl, bnd (mul64_eq k (r + 1) (r + 1) (by omega) (by omega) (by omega) (by omega))]
    dsimp only
    have e2 : (1 : Int) / 2 = 0 := by decide
    have hhi2 : P < (r + 2) * (r + 2) := hhi
    rw [shr1, e2, sqrt_end k n _ _ (r + 1) (by omega), sqrt_end k n _ _ r (by omega)]
    by_cases c : (r + 1) * (r + 1) ≤ P
    · refine ⟨r + 1, ?_, by omega, by omega, c, ?_⟩
      · generalize (r + 1) * (r + 1) = Q at *
        by_cases c1 : Q / 18446744073709551616 < P / 18446744073709551616
        · rw [ifp c1]
        · rw [ifn c1, ifp (by omega), ifp (by omega)]
      · rw [show r + 1 + 1 = r + 2 by omega]; exact hhi2
    · refine ⟨r, ?_, by omega, by omega, hlo, by omega⟩
      generalize (r + 1) * (r + 1) = Q at *
      rw [ifn (by omega)]
      by_cases c1 : Q / 18446744073709551616 = P / 18446744073709551616
      · rw [ifp c1, ifn (by omega)]
      · rw [ifn c1]
  | succ j ih =>
    intro r n hj h0 hm hb hlo hhi hk
    obtain ⟨n, rfl⟩ : ∃ m, n = m + 1 := ⟨n - 1, by omega⟩
    have hp : (0 : Int) < 2 ^ j := Int.pow_pos (by decide)
    have hp1 : (2 : Int) ^ (j + 1) = 2 * 2 ^ j := by rw [Int.pow_succ]; omega
    have hp2 : (2 : Int) ^ (j + 1 + 1) = 4 * 2 ^ j := by rw [Int.pow_succ, hp1]; omega
    have hor := or_bit r (j + 1) h0 hm (by omega) (by omega)
    have hm1 : r % 2 ^ (j + 1) = 0 := by
      have hd : ((2 : Int) ^ (j + 1)) ∣ 2 ^ (j + 1 + 1) := ⟨2, by rw [Int.pow_succ]⟩
      exact Int.emod_eq_zero_of_dvd (Int.dvd_trans hd (Int.dvd_of_emod_eq_zero hm))
    have hm2 : (r + 2 ^ (j + 1)) % 2 ^ (j + 1) = 0 := by rw [Int.add_emod_right]; exact hm1
    have hdiv : (2 : Int) ^ (j + 1) / 2 = 2 ^ j := by omega
    have hsq := mul_le (a := r + 2 ^ (j + 1)) (b := r + 2 ^ (j + 1)) (A := 9223372036854775807) (B := 9223372036854775807) (by omega) (by omega) (by omega) (by omega)
    rw [num_SqrtMul.l0, ifp (by omega), hor, bnd (mul64_eq k _ _ (by omega) (by omega) (by omega) (by omega))]
    dsimp only
    rw [shr1, hdiv]
    by_cases c : (r + 2 ^ (j + 1)) * (r + 2 ^ (j + 1)) ≤ P
    · obtain ⟨s, e, hs⟩ := ih (r + 2 ^ (j + 1)) n (by omega) (by omega) hm2 (by omega) c (by rw [show r + 2 ^ (j + 1) + 2 ^ (j + 1) = r + 2 ^ (j + 1 + 1) by omega]; exact hhi) (by omega)
      refine ⟨s, ?_, hs⟩
      rw [e]
      generalize (r + 2 ^ (j + 1)) * (r + 2 ^ (j + 1)) = Q at *
      by_cases c1 : Q / 18446744073709551616 < P / 18446744073709551616
      · rw [ifp c1]
      · rw [ifn c1, ifp (by omega), ifp (by omega)]
    · obtain ⟨s, e, hs⟩ := ih r n (by omega) h0 hm1 (by omega) hlo (by omega) (by omega)
      refine ⟨s, ?_, hs⟩
      rw [e]
      generalize (r + 2 ^ (j + 1)) * (r + 2 ^ (j + 1)) = Q at *
      rw [ifn (by omega)]
      by_cases c1 : Q / 18446744073709551616 = P / 18446744073709551616
      · rw [ifp c1, ifn (by omega)]
      · rw [ifn c1]
theorem sqrtmul_ex (k : Nat) (a b : Int) (ha : 0 ≤ a) (ha' : a ≤ 9223372036854775807) (hb : 0 ≤ b) (hb' : b ≤ 9223372036854775807) (hk : 70 ≤ k) :
    ∃ s, num_SqrtMul k a b = some s ∧ 0 ≤ s ∧ s ≤ 9223372036854775807 ∧ s * s ≤ a * b ∧ a * b < (s + 1) * (s + 1) := by
  have hP := mul_le ha ha' hb hb'
  obtain ⟨s, e, hs⟩ := sqrt_loop k (a * b) hP.1 (by omega) 62 0 k (by omega) (by omega) (by decide) (by decide) (by omega) (by
    show a * b < 9223372036854775808 * 9223372036854775808
    omega) (by omega)
  refine ⟨s, ?_, hs⟩
  have hp : (2 : Int) ^ 62 = 4611686018427387904 := by decide
  rw [hp] at e
  unfold num_SqrtMul
  rw [ifn (by omega), ifn (by omega), wuid ha (by omega), wuid hb (by omega), bnd (mul64_eq k a b ha (by omega) hb (by omega))]
  dsimp only
  rw [bnd e, wid (by omega) (by omega)]
/-- The square root of a number, rounded down. -/
noncomputable def isq (n : Int) : Int := (num_Sqrt 70 n).getD 0
theorem root_unique {n r s : Int} (hr : 0 ≤ r) (hs : 0 ≤ s) (h1 : r * r ≤ n) (h2 : n < (r + 1) * (r + 1)) (h3 : s * s ≤ n) (h4 : n < (s + 1) * (s + 1)) : r = s := by
  have l1 : r < s + 1 := sq_lt hr (by omega) (by omega)
  have l2 : s < r + 1 := sq_lt hs (by omega) (by omega)
  omega
theorem isq_all (n : Int) (h : 0 ≤ n) (h' : n ≤ 9223372036854775807) : (∀ k, 70 ≤ k → num_Sqrt k n = some (isq n)) ∧ 0 ≤ isq n ∧ isq n ≤ 9223372036854775807 ∧ isq n * isq n ≤ n ∧ n < (isq n + 1) * (isq n + 1) := by
  obtain ⟨s, e, h0, h1, h2, h3⟩ := sqrtmul_ex 70 n 1 h h' (by omega) (by omega) (by omega)
  rw [Int.mul_one] at h2 h3
  have hs : ∀ k, 70 ≤ k → num_Sqrt k n = some s := by
    intro k hk
    obtain ⟨s', e', g0, g1, g2, g3⟩ := sqrtmul_ex k n 1 h h' (by omega) (by omega) hk
    rw [Int.mul_one] at g2 g3
    unfold num_Sqrt
    rw [bnd e', root_unique g0 h0 g2 g3 h2 h3]
  have hi : isq n = s := by unfold isq; rw [hs 70 (Nat.le_refl _)]; rfl
  rw [hi]
  exact ⟨hs, h0, h1, h2, h3⟩
theorem isq_mono {a b : Int} (h0 : 0 ≤ a) (h : a ≤ b) (h' : b ≤ 9223372036854775807) : isq a ≤ isq b := by
  obtain ⟨_, a0, _, a2, a3⟩ := isq_all a h0 (by omega)
  obtain ⟨_, b0, _, b2, b3⟩ := isq_all b (by omega) h'
  have : isq a < isq b + 1 := sq_lt a0 (by omega) (by omega)
  omega
/-- Which number is the root. -/
theorem isq_is {n r : Int} (h0 : 0 ≤ n) (h' : n ≤ 9223372036854775807) (hr : 0 ≤ r) (h1 : r * r ≤ n) (h2 : n < (r + 1) * (r + 1)) : isq n = r := by
  obtain ⟨_, a0, _, a2, a3⟩ := isq_all n h0 h'
  exact root_unique a0 hr a2 a3 h1 h2
theorem root_eq (k : Nat) (n : Int) (h : 0 ≤ n) (h' : n ≤ 9223372036854775807) (hk : 70 ≤ k) : quanta_root k n = some (isq n) := by
  unfold quanta_root
  rw [bnd ((isq_all n h h').1 k hk)]
theorem isq_small {n : Int} (h : 0 ≤ n) (h' : n ≤ 274877906944) : 0 ≤ isq n ∧ isq n ≤ 524288 := by
  obtain ⟨_, a0, _, a2, a3⟩ := isq_all n h (by omega)
  refine ⟨a0, ?_⟩
  have : isq n < 524289 := sq_lt a0 (by omega) (by omega)
  omega
theorem least_loop (q : Int) (hq : q ≤ 34359738368) (k : Nat) (hk : 70 ≤ k) (d : Nat) : ∀ (n : Nat) (lo hi : Int), 0 ≤ lo → lo ≤ hi → hi ≤ 34359738368 → hi - lo < 2 ^ d → d < n → q ≤ hi + 1 + 3 * isq hi → (∀ w, 0 ≤ w → w < lo → w + 1 + 3 * isq w < q) →
    ∃ l, quanta_least.l0 k q n lo hi = some l ∧ 0 ≤ l ∧ l ≤ hi ∧ q ≤ l + 1 + 3 * isq l ∧ ∀ w, 0 ≤ w → w < l → w + 1 + 3 * isq w < q := by
  induction d with
  | zero =>
    intro n lo hi h0 h1 h2 hd hk hh hl
    obtain ⟨n, rfl⟩ : ∃ m, n = m + 1 := ⟨n - 1, by omega⟩
    have : lo = hi := by simp at hd; omega
    subst this
    refine ⟨lo, ?_, h0, Int.le_refl _, hh, hl⟩
    rw [quanta_least.l0, ifn (by omega)]
  | succ d ih =>
    intro n lo hi h0 h1 h2 hd hn hh hl
    obtain ⟨n, rfl⟩ : ∃ m, n = m + 1 := ⟨n - 1, by omega⟩
    by_cases c : lo < hi
    · have hp : (2 : Int) ^ (d + 1) = 2 * 2 ^ d := by rw [Int.pow_succ]; omega
      have r1 := isq_small (n := (lo + hi) / 2) (by omega) (by omega)
      rw [quanta_least.l0, ifp c, wid (x := lo + hi) (by omega) (by omega), tdiv_nn (by omega), wid (x := (lo + hi) / 2) (by omega) (by omega), bnd (root_eq k ((lo + hi) / 2) (by omega) (by omega) hk)]
      rw [wid (x := (lo + hi) / 2 + 1) (by omega) (by omega), wid (x := 3 * isq ((lo + hi) / 2)) (by omega) (by omega), wid (x := (lo + hi) / 2 + 1 + 3 * isq ((lo + hi) / 2)) (by omega) (by omega)]
      by_cases c2 : (lo + hi) / 2 + 1 + 3 * isq ((lo + hi) / 2) ≥ q
      · rw [ifp c2]
        obtain ⟨l, e, l0, l1, l2, l3⟩ := ih n lo ((lo + hi) / 2) h0 (by omega) (by omega) (by omega) (by omega) c2 hl
        exact ⟨l, e, l0, by omega, l2, l3⟩
      · rw [ifn c2]
        refine ih n ((lo + hi) / 2 + 1) hi (by omega) (by omega) h2 (by omega) (by omega) hh ?_
        intro w w0 w1
        have := isq_mono w0 (show w ≤ (lo + hi) / 2 by omega) (by omega)
        omega
    · have : lo = hi := by omega
      subst this
      refine ⟨lo, ?_, h0, Int.le_refl _, hh, hl⟩
      rw [quanta_least.l0, ifn (by omega)]
/-- The least whole number w with w + 1 + 3 * root >= q. -/
theorem least_ex (k : Nat) (q : Int) (hq0 : -1152921504606846976 ≤ q) (hq : q ≤ 34359738368) (hk : 120 ≤ k) : ∃ l, quanta_least k q = some l ∧ 0 ≤ l ∧ l ≤ 34359738368 ∧ q ≤ l + 1 + 3 * isq l ∧ ∀ w, 0 ≤ w → w < l → w + 1 + 3 * isq w < q := by
  have hm2 : 0 ≤ mx 0 q ∧ q ≤ mx 0 q ∧ mx 0 q ≤ 34359738368 := by rw [mx_def]; omega
  have r := isq_small (n := mx 0 q) hm2.1 (by omega)
  obtain ⟨l, e, l0, l1, l2, l3⟩ := least_loop q hq k (by omega) 36 k 0 (mx 0 q) (by omega) hm2.1 hm2.2.2 (by show mx 0 q - 0 < 68719476736; omega) (by omega) (by omega) (fun w w0 w1 => by omega)
  refine ⟨l, ?_, l0, by omega, l2, l3⟩
  unfold quanta_least
  rw [bnd e]
/-- One more than the greatest whole number w with w - 3 * root <= q. -/
theorem most_ex (k : Nat) (q : Int) (hq0 : 0 ≤ q) (hq : q ≤ 34359738368) (hk : 71 ≤ k) : ∃ W, quanta_most k q = some (W + 1) ∧ 0 ≤ W ∧ W ≤ 34361311233 ∧ q ≤ W + 1 + 3 * isq W ∧ W - 3 * isq W ≤ q ∧ ∀ w, 0 ≤ w → w ≤ 1152921504606846976 → w - 3 * isq w ≤ q → w ≤ W := by
  obtain ⟨se, s0, _, s2, s3⟩ := isq_all (9 + 4 * q) (by omega) (by omega)
  have sb := isq_small (n := 9 + 4 * q) (by omega) (by omega)
  have s3' : 3 ≤ isq (9 + 4 * q) := by
    have : (2 : Int) < isq (9 + 4 * q) := by
      have := sq_lt (a := 3) (b := isq (9 + 4 * q) + 1) (by omega) (by omega) (by omega)
      omega
    omega
  generalize hs : isq (9 + 4 * q) = s at *
  obtain ⟨r, hr⟩ : ∃ r, r = (3 + s) / 2 := ⟨_, rfl⟩
  have hr1 : 2 * r ≤ 3 + s ∧ s + 2 ≤ 2 * r := by omega
  have hA : r * r ≤ q + 3 * r := by
    have := sq_le (a := 2 * r - 3) (b := s) (by omega) (by omega)
    have e : (2 * r - 3) * (2 * r - 3) = 4 * (r * r) - 12 * r + 9 := by grind
    omega
  have hB : q + 3 * (r + 1) < (r + 1) * (r + 1) := by
    have := sq_le (a := s + 1) (b := 2 * r - 1) (by omega) (by omega)
    have e : (2 * r - 1) * (2 * r - 1) = 4 * (r * r) - 4 * r + 1 := by grind
    have e2 : (r + 1) * (r + 1) = r * r + 2 * r + 1 := by grind
    omega
  have hrr := mul_le (a := r) (b := r) (A := 262145) (B := 262145) (by omega) (by omega) (by omega) (by omega)
  have e2 : (r + 1) * (r + 1) = r * r + 2 * r + 1 := by grind
  have hW : ∃ W, W = mn (r * r + 2 * r) (q + 3 * r) := ⟨_, rfl⟩
  obtain ⟨W, hW⟩ := hW
  have hW2 : W ≤ r * r + 2 * r ∧ W ≤ q + 3 * r ∧ (W = r * r + 2 * r ∨ W = q + 3 * r) := by rw [hW, mn_def]; omega
  have hri : isq W = r := isq_is (by omega) (by omega) (by omega) (by omega) (by omega)
  refine ⟨W, ?_, by omega, by omega, by rw [hri]; omega, by rw [hri]; omega, ?_⟩
  · unfold quanta_most
    rw [wid (x := 4 * q) (by omega) (by omega), wid (x := 9 + 4 * q) (by omega) (by omega)]
    unfold quanta_root
    rw [se k (by omega)]
    dsimp only [Option.bind_some]
    rw [wid (x := 3 + s) (by omega) (by omega), tdiv_nn (by omega), ← hr, wid (x := r) (by omega) (by omega), wid (x := r * r) (by omega) (by omega), wid (x := 2 * r) (by omega) (by omega), wid (x := 3 * r) (by omega) (by omega), wid (x := r * r + 2 * r) (by omega) (by omega), wid (x := q + 3 * r) (by omega) (by omega), ← hW, wid (by omega) (by omega)]
  · intro w w0 w1 hw
    obtain ⟨_, t0, _, t2, t3⟩ := isq_all w w0 (by omega)
    generalize isq w = t at *
    have e3 : (t + 1) * (t + 1) = t * t + 2 * t + 1 := by grind
    by_cases c : t ≤ r
    · by_cases c2 : t = r
      · subst c2; omega
      · have := sq_le (a := t + 1) (b := r) (by omega) (by omega)
        omega
    · exfalso
      have h5 := mul_le (a := r + 1) (A := t) (b := r + 1 - 3) (B := t - 3) (by omega) (by omega) (by omega) (by omega)
      have e4 : (r + 1) * (r + 1 - 3) = (r + 1) * (r + 1) - 3 * (r + 1) := by rw [Int.mul_sub]; omega
      have e5 : t * (t - 3) = t * t - 3 * t := by rw [Int.mul_sub]; omega
      omega
theorem size_nn (k : Nat) (a : Int) (h0 : 0 ≤ a) (h1 : a ≤ 9223372036854775807) : num_size k a = some a := by
  unfold num_size
  rw [ifn (by omega), wuid h0 (by omega)]
/-- A small product, divided. -/
theorem muldiv_small (k : Nat) (a b c : Int) (ha : 0 ≤ a) (ha' : a ≤ 4611686018427387904) (hb : 0 ≤ b) (hb' : b ≤ 4611686018427387904) (hc : 1 ≤ c) (hc' : c ≤ 4611686018427387904) (hP : a * b ≤ 9223372036854775807) :
    num_MulDiv k a b c = some (a * b / c, 0) := by
  have hP0 : 0 ≤ a * b := Int.mul_nonneg ha hb
  have hq0 : 0 ≤ a * b / c := Int.ediv_nonneg hP0 (by omega)
  have hq1 : a * b / c ≤ a * b := Int.ediv_le_self _ hP0
  have hp : num_Product k a b = some ⟨0, a * b⟩ := by
    unfold num_Product
    rw [bnd (size_nn k a ha (by omega)), bnd (size_nn k b hb (by omega)), bnd (mul64_eq k a b ha (by omega) hb (by omega))]
    dsimp only
    rw [show (decide (a < 0) != decide (b < 0)) = false by rw [decide_eq_false (by omega), decide_eq_false (by omega)]; rfl, ifn (by decide)]
    rw [Int.ediv_eq_zero_of_lt hP0 (by omega), Int.emod_eq_of_lt hP0 (by omega)]
    rfl
  have hd : bits_Div64 k 0 (a * b) c = some (a * b / c, a * b % c) := by
    unfold bits_Div64
    rw [ifn (by omega), ifn (by omega), ifp rfl, ifp (by omega)]
    rw [tdiv_nn hP0, tmod_nn hP0, wuid hq0 (by omega)]
  unfold num_MulDiv
  rw [bnd hp]
  have hw : num_Wide_Div k ⟨0, a * b⟩ c = some (a * b / c, 0) := by
    unfold num_Wide_Div
    dsimp only
    rw [ifn (by omega), ifn (by decide)]
    dsimp only [Option.bind_some]
    rw [wuid (x := 0) (by decide) (by decide), wuid (x := c) (by omega) (by omega), ifn (by omega), bnd hd]
    dsimp only
    rw [ifn (by decide)]
    dsimp only [Option.bind_some]
    rw [ifn (by omega), ifp (by decide), wid (by omega) (by omega)]
  rw [bnd hw]
theorem product_small (k : Nat) (a b : Int) (ha : 0 ≤ a) (ha' : a ≤ 4611686018427387904) (hb : 0 ≤ b) (hb' : b ≤ 4611686018427387904) (hP : a * b ≤ 9223372036854775807) : num_Product k a b = some ⟨0, a * b⟩ := by
  have hP0 : 0 ≤ a * b := Int.mul_nonneg ha hb
  unfold num_Product
  rw [bnd (size_nn k a ha (by omega)), bnd (size_nn k b hb (by omega)), bnd (mul64_eq k a b ha (by omega) hb (by omega))]
  dsimp only
  rw [show (decide (a < 0) != decide (b < 0)) = false by rw [decide_eq_false (by omega), decide_eq_false (by omega)]; rfl, ifn (by decide)]
  rw [Int.ediv_eq_zero_of_lt hP0 (by omega), Int.emod_eq_of_lt hP0 (by omega)]
  rfl
theorem div64_small (k : Nat) (P c : Int) (h0 : 0 ≤ P) (h1 : P ≤ 9223372036854775807) (hc : 1 ≤ c) (hc' : c ≤ 4611686018427387904) : bits_Div64 k 0 P c = some (P / c, P % c) := by
  have hq0 : 0 ≤ P / c := Int.ediv_nonneg h0 (by omega)
  have hq1 : P / c ≤ P := Int.ediv_le_self _ h0
  unfold bits_Div64
  rw [ifn (by omega), ifn (by omega), ifp rfl, ifp (by omega)]
  rw [tdiv_nn h0, tmod_nn h0, wuid hq0 (by omega)]
theorem wdiv_small (k : Nat) (P c : Int) (h0 : 0 ≤ P) (h1 : P ≤ 9223372036854775807) (hc : 1 ≤ c) (hc' : c ≤ 4611686018427387904) : num_Wide_Div k ⟨0, P⟩ c = some (P / c, 0) := by
  have hq0 : 0 ≤ P / c := Int.ediv_nonneg h0 (by omega)
  have hq1 : P / c ≤ P := Int.ediv_le_self _ h0
  unfold num_Wide_Div
  dsimp only
  rw [ifn (by omega), ifn (by decide)]
  dsimp only [Option.bind_some]
  rw [wuid (x := 0) (by decide) (by decide), wuid (x := c) (by omega) (by omega), ifn (by omega), bnd (div64_small k P c h0 h1 hc hc')]
  dsimp only
  rw [ifn (by decide)]
  dsimp only [Option.bind_some]
  rw [ifn (by omega), ifp (by decide), wid (by omega) (by omega)]
theorem wmod_small (k : Nat) (P c : Int) (h0 : 0 ≤ P) (h1 : P ≤ 9223372036854775807) (hc : 1 ≤ c) (hc' : c ≤ 4611686018427387904) : num_Wide_Mod k ⟨0, P⟩ c = some (P % c) := by
  have hq0 : 0 ≤ P % c := Int.emod_nonneg _ (by omega)
  have hq1 : P % c < c := Int.emod_lt_of_pos _ (by omega)
  unfold num_Wide_Mod
  dsimp only
  rw [ifn (by omega), ifn (by decide)]
  dsimp only [Option.bind_some]
  rw [wuid (x := 0) (by decide) (by decide), wuid (x := c) (by omega) (by omega), ifp (by omega), Int.zero_tmod, bnd (div64_small k P c h0 h1 hc hc')]
  dsimp only
  rw [ifn (by decide), wid (by omega) (by omega)]
theorem muldivup_small (k : Nat) (a b c : Int) (ha : 0 ≤ a) (ha' : a ≤ 4611686018427387904) (hb : 0 ≤ b) (hb' : b ≤ 4611686018427387904) (hc : 1 ≤ c) (hc' : c ≤ 4611686018427387904) (hP : a * b ≤ 4611686018427387904) :
    ∃ q, num_MulDivUp k a b c = some (q, 0) ∧ a * b ≤ q * c ∧ q * c < a * b + c ∧ 0 ≤ q ∧ q ≤ a * b := by
  have hP0 : 0 ≤ a * b := Int.mul_nonneg ha hb
  have hq0 : 0 ≤ a * b / c := Int.ediv_nonneg hP0 (by omega)
  have hq1 : a * b / c ≤ a * b := Int.ediv_le_self _ hP0
  have hm0 : 0 ≤ a * b % c := Int.emod_nonneg _ (by omega)
  have hm1 : a * b % c < c := Int.emod_lt_of_pos _ (by omega)
  have he := Int.mul_ediv_add_emod (a * b) c
  have hcomm : c * (a * b / c) = a * b / c * c := Int.mul_comm _ _
  unfold num_MulDivUp
  rw [bnd (product_small k a b ha ha' hb hb' (by omega)), bnd (wdiv_small k (a * b) c hP0 (by omega) hc hc')]
  dsimp only
  rw [ifn (by decide), bnd (wmod_small k (a * b) c hP0 (by omega) hc hc')]
  by_cases g : a * b % c = 0
  · rw [ifp g]
    exact ⟨_, rfl, by omega, by omega, hq0, hq1⟩
  · have h1 : (a * b / c + 1) * c = a * b / c * c + c := by rw [Int.add_mul, Int.one_mul]
    have h2 : a * b / c + 1 ≤ a * b := by
      rcases Int.lt_or_le (a * b / c) (a * b) with z | z
      · omega
      · have : a * b / c = a * b := by omega
        have h3 : a * b * 1 ≤ a * b * c := Int.mul_le_mul_of_nonneg_left hc hP0
        rw [this] at he
        have h4 : c * (a * b) = a * b * c := Int.mul_comm _ _
        omega
    rw [ifn g, ifn (by omega), wid (by omega) (by omega)]
    exact ⟨_, rfl, by omega, by omega, by omega, h2⟩
theorem size_eq (k : Nat) (a : Int) (h0 : -9223372036854775808 ≤ a) (h1 : a ≤ 9223372036854775807) : num_size k a = some (if a < 0 then -a else a) := by
  unfold num_size
  by_cases c : a < 0
  · rw [ifp c, ifp c]
    congr 1
    simp only [u64_def]
    omega
  · rw [ifn c, ifn c, wuid (by omega) (by omega)]
theorem xor_max (x : Int) (h0 : 0 ≤ x) (h1 : x < 18446744073709551616) : Go.bits .xor .u64 IntKind.u64.max x = 18446744073709551615 - x := by
  have hm : IntKind.u64.max = 18446744073709551615 := by decide
  rw [hm, Go.u64_xor _ _ (by decide) (by decide) h0 h1]
  have hb : (BitVec.allOnes 64 ^^^ BitVec.ofNat 64 x.toNat).toNat = 18446744073709551615 - x.toNat := by
    rw [BitVec.allOnes_xor, BitVec.toNat_not, BitVec.toNat_ofNat, Nat.mod_eq_of_lt (by omega)]
  have hb2 : (BitVec.allOnes 64 ^^^ BitVec.ofNat 64 x.toNat).toNat = 18446744073709551615 ^^^ x.toNat := by
    rw [BitVec.toNat_xor, BitVec.toNat_ofNat, Nat.mod_eq_of_lt (by omega)]; rfl
  rw [hb2] at hb
  rw [show (18446744073709551615 : Int).toNat = 18446744073709551615 from rfl, hb]
  omega
theorem neg_eq (k : Nat) (P : Int) (h0 : 0 < P) (h1 : P ≤ 85070591730234615865843651857942052864) : num_Wide_Neg k ⟨w64 (P / 18446744073709551616), P % 18446744073709551616⟩ = some ⟨-P / 18446744073709551616, -P % 18446744073709551616⟩ := by
  have e1 : u64 (w64 (P / 18446744073709551616)) = P / 18446744073709551616 := by rw [wid (by omega) (by omega), wuid (by omega) (by omega)]
  unfold num_Wide_Neg
  dsimp only
  rw [e1, xor_max (P % 18446744073709551616) (by omega) (by omega), xor_max (P / 18446744073709551616) (by omega) (by omega), ifp (by omega), ifp (by omega), ifp (by omega), ifp (by omega)]
  congr 2
  · rw [w64_def]; omega
  · omega
/-- The low and the high word of a product. -/
theorem product_eq (k : Nat) (a b : Int) (ha : -9223372036854775808 ≤ a) (ha' : a ≤ 9223372036854775807) (hb : -9223372036854775808 ≤ b) (hb' : b ≤ 9223372036854775807) :
    num_Product k a b = some ⟨a * b / 18446744073709551616, a * b % 18446744073709551616⟩ := by
  unfold num_Product
  rw [bnd (size_eq k a ha ha'), bnd (size_eq k b hb hb')]
  obtain ⟨A, hA⟩ : ∃ A, A = if a < 0 then -a else a := ⟨_, rfl⟩
  obtain ⟨B, hB⟩ : ∃ B, B = if b < 0 then -b else b := ⟨_, rfl⟩
  rw [← hA, ← hB]
  have A0 : 0 ≤ A ∧ A ≤ 9223372036854775808 := by rw [hA]; split <;> omega
  have B0 : 0 ≤ B ∧ B ≤ 9223372036854775808 := by rw [hB]; split <;> omega
  rw [bnd (mul64_eq k A B (by omega) (by omega) (by omega) (by omega))]
  dsimp only
  have hAB := mul_le A0.1 A0.2 B0.1 B0.2
  have neg : A * B = -(a * b) → (num_Wide_Neg k ⟨w64 (A * B / 18446744073709551616), A * B % 18446744073709551616⟩).bind (fun v => some v) = some ⟨a * b / 18446744073709551616, a * b % 18446744073709551616⟩ := by
    intro e
    by_cases z : a * b = 0
    · have ez : A * B = 0 := by omega
      rw [ez, z]
      have : num_Wide_Neg k ⟨w64 (0 / 18446744073709551616), 0 % 18446744073709551616⟩ = some ⟨0, 0⟩ := by kernel_rfl
      rw [this]; rfl
    · rw [neg_eq k (A * B) (by omega) (by omega), e, Int.neg_neg]; rfl
  by_cases ca : a < 0
  · rw [if_pos ca] at hA
    by_cases cb : b < 0
    · rw [if_pos cb] at hB
      have e : A * B = a * b := by rw [hA, hB, Int.neg_mul_neg]
      rw [show (decide (a < 0) != decide (b < 0)) = false by simp [ca, cb], ifn (by decide), e, wid (by omega) (by omega)]
    · rw [if_neg cb] at hB
      rw [show (decide (a < 0) != decide (b < 0)) = true by simp [ca, cb], ifp rfl]
      exact neg (by rw [hA, hB, Int.neg_mul])
  · rw [if_neg ca] at hA
    by_cases cb : b < 0
    · rw [if_pos cb] at hB
      rw [show (decide (a < 0) != decide (b < 0)) = true by simp [ca, cb], ifp rfl]
      exact neg (by rw [hA, hB, Int.mul_neg])
    · rw [if_neg cb] at hB
      have e : A * B = a * b := by rw [hA, hB]
      rw [show (decide (a < 0) != decide (b < 0)) = false by simp [ca, cb], ifn (by decide), e, wid (by omega) (by omega)]
theorem neg_neg_eq (k : Nat) (P : Int) (h0 : P < 0) (h1 : -4611686018427387904 ≤ P) : num_Wide_Neg k ⟨-1, P + 18446744073709551616⟩ = some ⟨0, -P⟩ := by
  have e1 : u64 (-1) = 18446744073709551615 := by decide
  unfold num_Wide_Neg
  dsimp only
  rw [e1, xor_max (P + 18446744073709551616) (by omega) (by omega), xor_max 18446744073709551615 (by decide) (by decide), ifp (by omega), ifp (by omega), ifp (by omega), ifp (by omega)]
  congr 2
  · rw [w64_def]; omega
  · omega
theorem wdiv1 (k : Nat) (P : Int) (h0 : -4611686018427387904 ≤ P) (h1 : P ≤ 4611686018427387904) : num_Wide_Div k ⟨P / 18446744073709551616, P % 18446744073709551616⟩ 1 = some (P, 0) := by
  by_cases c : 0 ≤ P
  · rw [show P / 18446744073709551616 = 0 by omega, show P % 18446744073709551616 = P by omega, wdiv_small k P 1 c (by omega) (by decide) (by decide), Int.ediv_one]
  · rw [show P / 18446744073709551616 = -1 by omega, show P % 18446744073709551616 = P + 18446744073709551616 by omega]
    unfold num_Wide_Div
    dsimp only
    rw [ifn (by decide), ifp (by decide), bnd (neg_neg_eq k P (by omega) h0)]
    dsimp only [Option.bind_some]
    rw [wuid (x := 0) (by decide) (by decide), wuid (x := 1) (by decide) (by decide), ifn (by decide), bnd (div64_small k (-P) 1 (by omega) (by omega) (by decide) (by decide))]
    dsimp only
    rw [Int.ediv_one, Int.emod_one, ifp (by decide), ifn (by decide)]
    dsimp only [Option.bind_some]
    rw [ifn (by omega), ifn (by decide), ifn (by decide)]
    have : w64 (u64 (0 - -P)) = P := by rw [u64_def, w64_def]; omega
    rw [this]
theorem wmod1 (k : Nat) (P : Int) (h0 : -4611686018427387904 ≤ P) (h1 : P ≤ 4611686018427387904) : num_Wide_Mod k ⟨P / 18446744073709551616, P % 18446744073709551616⟩ 1 = some 0 := by
  by_cases c : 0 ≤ P
  · rw [show P / 18446744073709551616 = 0 by omega, show P % 18446744073709551616 = P by omega, wmod_small k P 1 c (by omega) (by decide) (by decide), Int.emod_one]
  · rw [show P / 18446744073709551616 = -1 by omega, show P % 18446744073709551616 = P + 18446744073709551616 by omega]
    unfold num_Wide_Mod
    dsimp only
    rw [ifn (by decide), ifp (by decide), bnd (neg_neg_eq k P (by omega) h0)]
    dsimp only [Option.bind_some]
    rw [wuid (x := 0) (by decide) (by decide), wuid (x := 1) (by decide) (by decide), ifp (by decide), Int.zero_tmod, bnd (div64_small k (-P) 1 (by omega) (by omega) (by decide) (by decide))]
    dsimp only
    rw [Int.emod_one, ifp (by decide), ifn (by decide)]
    rfl
theorem muldiv1 (k : Nat) (x n : Int) (hx : -9223372036854775808 ≤ x) (hx' : x ≤ 9223372036854775807) (hn : -9223372036854775808 ≤ n) (hn' : n ≤ 9223372036854775807) (h0 : -4611686018427387904 ≤ x * n) (h1 : x * n ≤ 4611686018427387904) : num_MulDiv k x n 1 = some (x * n, 0) := by
  unfold num_MulDiv
  rw [bnd (product_eq k x n hx hx' hn hn'), bnd (wdiv1 k _ h0 h1)]
theorem muldivup1 (k : Nat) (x n : Int) (hx : -9223372036854775808 ≤ x) (hx' : x ≤ 9223372036854775807) (hn : -9223372036854775808 ≤ n) (hn' : n ≤ 9223372036854775807) (h0 : -4611686018427387904 ≤ x * n) (h1 : x * n ≤ 4611686018427387904) : num_MulDivUp k x n 1 = some (x * n, 0) := by
  unfold num_MulDivUp
  rw [bnd (product_eq k x n hx hx' hn hn'), bnd (wdiv1 k _ h0 h1)]
  dsimp only
  rw [ifn (by decide), bnd (wmod1 k _ h0 h1), ifp rfl]
/-- A valid bound. -/
def Val (b : S_Bound) : Prop := (b.Unknown = true → b.Lo = 0 ∧ b.Hi = 0) ∧ -1152921504606846976 ≤ b.Lo ∧ b.Hi ≤ 1152921504606846976 ∧ b.Lo ≤ b.Hi
instance (b : S_Bound) : Decidable (Val b) := by unfold Val; infer_instance
theorem val_of {lo hi : Int} (h0 : -1152921504606846976 ≤ lo) (h1 : hi ≤ 1152921504606846976) (h : lo ≤ hi) : Val ⟨lo, hi, false⟩ := ⟨fun z => (by cases z), h0, h1, h⟩
theorem val_no : Val ⟨0, 0, true⟩ := by decide
theorem check_Light (k : Nat) (b : S_Bound) : ∃ e, bound_Check_Light k b = some e ∧ (e = 0 ↔ Val b) := by
  obtain ⟨lo, hi, u⟩ := b
  unfold bound_Check_Light Val
  dsimp only
  have tail : ∃ e, (if mn lo hi < (-1152921504606846976) then (some 4) else (if mx lo hi > 1152921504606846976 then (some 4) else (if lo > hi then (some 11) else (some 0))) : Option Int) = some e ∧ (e = 0 ↔ -1152921504606846976 ≤ lo ∧ hi ≤ 1152921504606846976 ∧ lo ≤ hi) := by
    rw [mn_def, mx_def]
    by_cases c1 : min lo hi < -1152921504606846976
    · exact ⟨4, ifp c1, by omega⟩
    · rw [ifn c1]
      by_cases c2 : max lo hi > 1152921504606846976
      · exact ⟨4, ifp c2, by omega⟩
      · rw [ifn c2]
        by_cases c3 : lo > hi
        · exact ⟨11, ifp c3, by omega⟩
        · exact ⟨0, ifn c3, by omega⟩
  obtain ⟨e, he, hv⟩ := tail
  cases u
  · rw [ifn (by decide)]
    exact ⟨e, he, hv.trans ⟨fun z => ⟨fun q => (by cases q), z⟩, fun z => z.2⟩⟩
  · rw [ifp rfl]
    by_cases c1 : lo ≠ 0
    · exact ⟨3, ifp c1, ⟨fun z => by omega, fun z => absurd (z.1 rfl).1 c1⟩⟩
    · rw [ifn c1]
      by_cases c2 : hi ≠ 0
      · exact ⟨3, ifp c2, ⟨fun z => by omega, fun z => absurd (z.1 rfl).2 c2⟩⟩
      · rw [ifn c2]
        exact ⟨e, he, hv.trans ⟨fun z => ⟨fun _ => ⟨by omega, by omega⟩, z⟩, fun z => z.2⟩⟩
theorem norm_Light (k : Nat) (b : S_Bound) : bound_Norm_Light k b = some (if Val b then b else ⟨0, 0, true⟩) := by
  obtain ⟨e, e1, e2⟩ := check_Light k b
  unfold bound_Norm_Light
  rw [bnd e1]
  by_cases c : Val b
  · rw [if_pos c, ifn (by have := e2.mpr c; omega)]
  · rw [if_neg c, ifp (show e ≠ 0 from fun z => c (e2.mp z))]; rfl
theorem of_Light (k : Nat) (lo hi : Int) : bound_Of_Light k lo hi = some (if Val ⟨lo, hi, false⟩ then ⟨lo, hi, false⟩ else ⟨0, 0, true⟩) := by
  unfold bound_Of_Light
  rw [bnd (norm_Light k _)]
theorem of_ok_Light (k : Nat) (lo hi : Int) (h0 : -1152921504606846976 ≤ lo) (h1 : hi ≤ 1152921504606846976) (h : lo ≤ hi) : bound_Of_Light k lo hi = some ⟨lo, hi, false⟩ := by
  rw [of_Light, if_pos (val_of h0 h1 h)]
theorem norm_ok_Light (k : Nat) (b : S_Bound) (h : Val b) : bound_Norm_Light k b = some b := by rw [norm_Light, if_pos h]
theorem exact_Light (k : Nat) (v : Int) (h0 : -1152921504606846976 ≤ v) (h1 : v ≤ 1152921504606846976) : bound_Exact_Light k v = some ⟨v, v, false⟩ := by
  unfold bound_Exact_Light
  rw [bnd (of_ok_Light k v v h0 h1 (Int.le_refl v))]
theorem vague_no_Light (k : Nat) (a b : S_Bound) (ha : Val a) (hb : Val b) (ua : a.Unknown = false) (ub : b.Unknown = false) : bound_vague_Light k a b = some false := by
  unfold bound_vague_Light
  rw [bnd (norm_ok_Light k a ha), ua, ifn (by decide), bnd (norm_ok_Light k b hb), ub]
theorem rd0 (a b : Int) : rd ([a, b] : List Int) 0 = a := rfl
theorem rd1 (a b : Int) : rd ([a, b] : List Int) 1 = b := rfl
theorem len2 (a b : Int) : (([a, b] : List Int).length : Int) = 2 := rfl
theorem min8 (k : Nat) (x y : Int) (hk : 20 ≤ k) : slices_Min_Light k ([] ++ [x, x] ++ [x, x] ++ [y, y] ++ [y, y]) = some (min x y) := by
  obtain ⟨k, rfl⟩ : ∃ j, k = j + 20 := ⟨k - 20, by omega⟩
  have : slices_Min_Light (k + 20) ([] ++ [x, x] ++ [x, x] ++ [y, y] ++ [y, y]) = some (mn (mn (mn (mn (mn (mn (mn x x) x) x) y) y) y) y) := by kernel_rfl
  rw [this]
  simp only [mn_def]
  congr 1
  omega
theorem max8 (k : Nat) (x y : Int) (hk : 20 ≤ k) : slices_Max_Light k ([] ++ [x, x] ++ [x, x] ++ [y, y] ++ [y, y]) = some (max x y) := by
  obtain ⟨k, rfl⟩ : ∃ j, k = j + 20 := ⟨k - 20, by omega⟩
  have : slices_Max_Light (k + 20) ([] ++ [x, x] ++ [x, x] ++ [y, y] ++ [y, y]) = some (mx (mx (mx (mx (mx (mx (mx x x) x) x) y) y) y) y) := by kernel_rfl
  rw [this]
  simp only [mx_def]
  congr 1
  omega
/-- A bound, times a number. -/
theorem scale_any (k : Nat) (lo hi n : Int) (h0 : -1152921504606846976 ≤ lo) (h : lo ≤ hi) (h1 : hi ≤ 1152921504606846976) (n0 : 0 ≤ n) (n1 : n ≤ 1152921504606846976) (hl0 : -1152921504606846976 ≤ lo * n) (hP : hi * n ≤ 1152921504606846976) (hk : 20 ≤ k) :
    bound_Scale_Light k ⟨lo, hi, false⟩ n 1 = some ⟨lo * n, hi * n, false⟩ := by
  have hlo : lo * n ≤ hi * n := Int.mul_le_mul_of_nonneg_right h n0
  obtain ⟨k, rfl⟩ : ∃ j, k = j + 20 := ⟨k - 20, by omega⟩
  unfold bound_Scale_Light
  rw [bnd (exact_Light _ n (by omega) n1)]
  unfold bound_Mul_Light
  rw [bnd (vague_no_Light _ ⟨lo, hi, false⟩ ⟨n, n, false⟩ (val_of (by omega) h1 h) (val_of (by omega) n1 (Int.le_refl n)) rfl rfl), ifn (by decide), ifn (by decide)]
  have d1 : ∀ K x, lo ≤ x → x ≤ hi → bound_Mul_Light_1 K 1 x n = some (x * n, 0) := by
    intro K x x0 x1
    have hx : x * n ≤ hi * n := Int.mul_le_mul_of_nonneg_right x1 n0
    have hx0 : lo * n ≤ x * n := Int.mul_le_mul_of_nonneg_right x0 n0
    unfold bound_Mul_Light_1
    rw [bnd (muldiv1 K x n (by omega) (by omega) (by omega) (by omega) (by omega) (by omega))]
  have d2 : ∀ K x, lo ≤ x → x ≤ hi → bound_Mul_Light_2 K 1 x n = some (x * n, 0) := by
    intro K x x0 x1
    have hx : x * n ≤ hi * n := Int.mul_le_mul_of_nonneg_right x1 n0
    have hx0 : lo * n ≤ x * n := Int.mul_le_mul_of_nonneg_right x0 n0
    unfold bound_Mul_Light_2
    rw [bnd (muldivup1 K x n (by omega) (by omega) (by omega) (by omega) (by omega) (by omega))]
  have inner : ∀ (x53 v : Int) (l : List Int), rd ([lo, hi] : List Int) x53 = v → lo ≤ v → v ≤ hi → l.length ≤ 20 →
      bound_corners_Light__bound_Mul_Light_1__bound_Mul_Light_2.l1 (k + 20) ⟨n, n, false⟩ 1 ⟨lo, hi, false⟩ x53 (k + 20) l 0 = some (Sum.inr (l ++ [v * n, v * n] ++ [v * n, v * n])) := by
    intro x53 v l hv v0 v1 hl
    rw [bound_corners_Light__bound_Mul_Light_1__bound_Mul_Light_2.l1]
    dsimp only
    rw [hv, rd0, len2, ifp (by decide), ifp (by decide), bnd (d1 _ v v0 v1)]
    dsimp only
    rw [bnd (d2 _ v v0 v1)]
    dsimp only
    rw [ifn (by decide), ifn (by decide), ifp (by omega), wid (by decide) (by decide), show (0 : Int) + 1 = 1 by rfl]
    rw [bound_corners_Light__bound_Mul_Light_1__bound_Mul_Light_2.l1]
    dsimp only
    rw [hv, rd1, len2, ifp (by decide), ifp (by decide), bnd (d1 _ v v0 v1)]
    dsimp only
    rw [bnd (d2 _ v v0 v1)]
    dsimp only
    rw [ifn (by decide), ifn (by decide), ifp (by simp; omega), wid (by decide) (by decide), show (1 : Int) + 1 = 2 by rfl]
    rw [bound_corners_Light__bound_Mul_Light_1__bound_Mul_Light_2.l1]
    dsimp only
    rw [len2, ifn (by decide)]
  unfold bound_corners_Light__bound_Mul_Light_1__bound_Mul_Light_2
  rw [bound_corners_Light__bound_Mul_Light_1__bound_Mul_Light_2.l0]
  dsimp only
  rw [len2, ifp (by decide), ifp (by decide), bnd (inner 0 lo [] (rd0 lo hi) (Int.le_refl lo) h (by decide))]
  dsimp only [Sum.elim_inr]
  rw [wid (by decide) (by decide), show (0 : Int) + 1 = 1 by rfl]
  rw [bound_corners_Light__bound_Mul_Light_1__bound_Mul_Light_2.l0]
  dsimp only
  rw [len2, ifp (by decide), ifp (by decide), bnd (inner 1 hi _ (rd1 lo hi) h (Int.le_refl hi) (by simp))]
  dsimp only [Sum.elim_inr]
  rw [wid (by decide) (by decide), show (1 : Int) + 1 = 2 by rfl]
  rw [bound_corners_Light__bound_Mul_Light_1__bound_Mul_Light_2.l0]
  dsimp only
  rw [len2, ifn (by decide)]
  dsimp only [Option.bind_some, Sum.elim_inr]
  rw [bnd (min8 _ (lo * n) (hi * n) (by omega)), bnd (max8 _ (lo * n) (hi * n) (by omega)), Int.min_eq_left hlo, Int.max_eq_right hlo, bnd (of_ok_Light _ _ _ (by omega) (by omega) hlo)]
  rfl
theorem check_Quanta (k : Nat) (b : S_Bound) : ∃ e, bound_Check_Quanta k b = some e ∧ (e = 0 ↔ Val b) := by
  obtain ⟨lo, hi, u⟩ := b
  unfold bound_Check_Quanta Val
  dsimp only
  have tail : ∃ e, (if mn lo hi < (-1152921504606846976) then (some 4) else (if mx lo hi > 1152921504606846976 then (some 4) else (if lo > hi then (some 11) else (some 0))) : Option Int) = some e ∧ (e = 0 ↔ -1152921504606846976 ≤ lo ∧ hi ≤ 1152921504606846976 ∧ lo ≤ hi) := by
    rw [mn_def, mx_def]
    by_cases c1 : min lo hi < -1152921504606846976
    · exact ⟨4, ifp c1, by omega⟩
    · rw [ifn c1]
      by_cases c2 : max lo hi > 1152921504606846976
      · exact ⟨4, ifp c2, by omega⟩
      · rw [ifn c2]
        by_cases c3 : lo > hi
        · exact ⟨11, ifp c3, by omega⟩
        · exact ⟨0, ifn c3, by omega⟩
  obtain ⟨e, he, hv⟩ := tail
  cases u
  · rw [ifn (by decide)]
    exact ⟨e, he, hv.trans ⟨fun z => ⟨fun q => (by cases q), z⟩, fun z => z.2⟩⟩
  · rw [ifp rfl]
    by_cases c1 : lo ≠ 0
    · exact ⟨3, ifp c1, ⟨fun z => by omega, fun z => absurd (z.1 rfl).1 c1⟩⟩
    · rw [ifn c1]
      by_cases c2 : hi ≠ 0
      · exact ⟨3, ifp c2, ⟨fun z => by omega, fun z => absurd (z.1 rfl).2 c2⟩⟩
      · rw [ifn c2]
        exact ⟨e, he, hv.trans ⟨fun z => ⟨fun _ => ⟨by omega, by omega⟩, z⟩, fun z => z.2⟩⟩
theorem norm_Quanta (k : Nat) (b : S_Bound) : bound_Norm_Quanta k b = some (if Val b then b else ⟨0, 0, true⟩) := by
  obtain ⟨e, e1, e2⟩ := check_Quanta k b
  unfold bound_Norm_Quanta
  rw [bnd e1]
  by_cases c : Val b
  · rw [if_pos c, ifn (by have := e2.mpr c; omega)]
  · rw [if_neg c, ifp (show e ≠ 0 from fun z => c (e2.mp z))]; rfl
theorem of_Quanta (k : Nat) (lo hi : Int) : bound_Of_Quanta k lo hi = some (if Val ⟨lo, hi, false⟩ then ⟨lo, hi, false⟩ else ⟨0, 0, true⟩) := by
  unfold bound_Of_Quanta
  rw [bnd (norm_Quanta k _)]
theorem of_ok_Quanta (k : Nat) (lo hi : Int) (h0 : -1152921504606846976 ≤ lo) (h1 : hi ≤ 1152921504606846976) (h : lo ≤ hi) : bound_Of_Quanta k lo hi = some ⟨lo, hi, false⟩ := by
  rw [of_Quanta, if_pos (val_of h0 h1 h)]
theorem norm_ok_Quanta (k : Nat) (b : S_Bound) (h : Val b) : bound_Norm_Quanta k b = some b := by rw [norm_Quanta, if_pos h]
theorem exact_Quanta (k : Nat) (v : Int) (h0 : -1152921504606846976 ≤ v) (h1 : v ≤ 1152921504606846976) : bound_Exact_Quanta k v = some ⟨v, v, false⟩ := by
  unfold bound_Exact_Quanta
  rw [bnd (of_ok_Quanta k v v h0 h1 (Int.le_refl v))]
theorem check_Part (k : Nat) (b : S_Bound) : ∃ e, bound_Check_Part k b = some e ∧ (e = 0 ↔ Val b) := by
  obtain ⟨lo, hi, u⟩ := b
  unfold bound_Check_Part Val
  dsimp only
  have tail : ∃ e, (if mn lo hi < (-1152921504606846976) then (some 4) else (if mx lo hi > 1152921504606846976 then (some 4) else (if lo > hi then (some 11) else (some 0))) : Option Int) = some e ∧ (e = 0 ↔ -1152921504606846976 ≤ lo ∧ hi ≤ 1152921504606846976 ∧ lo ≤ hi) := by
    rw [mn_def, mx_def]
    by_cases c1 : min lo hi < -1152921504606846976
    · exact ⟨4, ifp c1, by omega⟩
    · rw [ifn c1]
      by_cases c2 : max lo hi > 1152921504606846976
      · exact ⟨4, ifp c2, by omega⟩
      · rw [ifn c2]
        by_cases c3 : lo > hi
        · exact ⟨11, ifp c3, by omega⟩
        · exact ⟨0, ifn c3, by omega⟩
  obtain ⟨e, he, hv⟩ := tail
  cases u
  · rw [ifn (by decide)]
    exact ⟨e, he, hv.trans ⟨fun z => ⟨fun q => (by cases q), z⟩, fun z => z.2⟩⟩
  · rw [ifp rfl]
    by_cases c1 : lo ≠ 0
    · exact ⟨3, ifp c1, ⟨fun z => by omega, fun z => absurd (z.1 rfl).1 c1⟩⟩
    · rw [ifn c1]
      by_cases c2 : hi ≠ 0
      · exact ⟨3, ifp c2, ⟨fun z => by omega, fun z => absurd (z.1 rfl).2 c2⟩⟩
      · rw [ifn c2]
        exact ⟨e, he, hv.trans ⟨fun z => ⟨fun _ => ⟨by omega, by omega⟩, z⟩, fun z => z.2⟩⟩
theorem norm_Part (k : Nat) (b : S_Bound) : bound_Norm_Part k b = some (if Val b then b else ⟨0, 0, true⟩) := by
  obtain ⟨e, e1, e2⟩ := check_Part k b
  unfold bound_Norm_Part
  rw [bnd e1]
  by_cases c : Val b
  · rw [if_pos c, ifn (by have := e2.mpr c; omega)]
  · rw [if_neg c, ifp (show e ≠ 0 from fun z => c (e2.mp z))]; rfl
theorem of_Part (k : Nat) (lo hi : Int) : bound_Of_Part k lo hi = some (if Val ⟨lo, hi, false⟩ then ⟨lo, hi, false⟩ else ⟨0, 0, true⟩) := by
  unfold bound_Of_Part
  rw [bnd (norm_Part k _)]
theorem of_ok_Part (k : Nat) (lo hi : Int) (h0 : -1152921504606846976 ≤ lo) (h1 : hi ≤ 1152921504606846976) (h : lo ≤ hi) : bound_Of_Part k lo hi = some ⟨lo, hi, false⟩ := by
  rw [of_Part, if_pos (val_of h0 h1 h)]
theorem norm_ok_Part (k : Nat) (b : S_Bound) (h : Val b) : bound_Norm_Part k b = some b := by rw [norm_Part, if_pos h]
theorem exact_Part (k : Nat) (v : Int) (h0 : -1152921504606846976 ≤ v) (h1 : v ≤ 1152921504606846976) : bound_Exact_Part k v = some ⟨v, v, false⟩ := by
  unfold bound_Exact_Part
  rw [bnd (of_ok_Part k v v h0 h1 (Int.le_refl v))]
theorem below_ex (k : Nat) (x n : Int) (h1 : 1 ≤ n) (h2 : n ≤ 4611686018427387904) : ∃ v, spymake_Below k x n = some v ∧ 0 ≤ v ∧ v < n := by
  have e1 := Int.tmod_lt_of_pos x (show 0 < n by omega)
  have e2 := Int.lt_tmod_of_pos x (show 0 < n by omega)
  unfold spymake_Below
  rw [ifn (by omega), ifp (by omega)]
  by_cases c : Int.tmod x n < 0
  · rw [ifp c]
    refine ⟨_, rfl, ?_, ?_⟩ <;> rw [wid (by omega) (by omega)] <;> omega
  · rw [ifn c]
    exact ⟨_, rfl, by omega, by omega⟩
theorem next_ex (k : Nat) (L : List Int) (a n : Int) (h1 : 1 ≤ n) (h2 : n ≤ 4611686018427387904) (a0 : 0 ≤ a) (a1 : a ≤ 4611686018427387904) :
    ∃ v, spymake_Stream_Next k ⟨L, a⟩ n = some (v, a + 1) ∧ 0 ≤ v ∧ v < n := by
  unfold spymake_Stream_Next
  dsimp only
  rw [wid (x := a + 1) (by omega) (by omega)]
  by_cases c : (L.length : Int) = 0
  · rw [ifp c]
    obtain ⟨v, hv, v0, v1⟩ := below_ex k (w64 ((a + 1) * 7919)) n h1 h2
    rw [bnd hv]
    exact ⟨v, rfl, v0, v1⟩
  · rw [ifn c, ifp c, show a + 1 - 1 = a by omega, wid (x := a) (by omega) (by omega)]
    have e1 := Int.tmod_lt_of_pos a (show 0 < (L.length : Int) by omega)
    have e2 : 0 ≤ Int.tmod a (L.length : Int) := Int.tmod_nonneg _ a0
    rw [ifp e2, ifp e1]
    obtain ⟨u, hu, _⟩ := below_ex k (rd L (Int.tmod a (L.length : Int))) 1073741824 (by decide) (by decide)
    rw [bnd hu]
    obtain ⟨v, hv, v0, v1⟩ := below_ex k (w64 (u + (w64 ((w64 (Int.tdiv a (L.length : Int))) * (w64 (7919 + (Int.tmod a (L.length : Int)))))))) n h1 h2
    rw [bnd hv]
    exact ⟨v, rfl, v0, v1⟩
theorem range_ex (k : Nat) (L : List Int) (a lo hi : Int) (h1 : lo ≤ hi) (h2 : hi - lo ≤ 1073741824) (h3 : -4611686018427387904 ≤ lo) (h4 : hi ≤ 4611686018427387904) (a0 : 0 ≤ a) (a1 : a ≤ 4611686018427387904) :
    ∃ v, spymake_Stream_Range k ⟨L, a⟩ lo hi = some (v, a + 1) ∧ lo ≤ v ∧ v ≤ hi := by
  unfold spymake_Stream_Range
  rw [ifn (by omega), wid (x := hi - lo) (by omega) (by omega), wid (x := hi - lo + 1) (by omega) (by omega)]
  obtain ⟨v, hv, v0, v1⟩ := next_ex k L a (hi - lo + 1) (by omega) (by omega) a0 a1
  rw [bnd hv]
  dsimp only
  rw [wid (by omega) (by omega)]
  exact ⟨_, rfl, by omega, by omega⟩
theorem calibrated_eq (k : Nat) (h : 120 ≤ k) : spykeep3_calibrated k = some true := by
  obtain ⟨k, rfl⟩ : ∃ j, k = j + 120 := ⟨k - 120, by omega⟩
  kernel_rfl
theorem vague_Quanta (k : Nat) (a b : S_Bound) (ha : Val a) (hb : Val b) (ua : a.Unknown = false) (ub : b.Unknown = false) : bound_vague_Quanta k a b = some false := by
  unfold bound_vague_Quanta
  rw [bnd (norm_ok_Quanta k a ha), ua, ifn (by decide), bnd (norm_ok_Quanta k b hb), ub]
/-- What Light answers. -/
structure Ans (qlo qhi dlo dhi flo fhi n l W lo hi : Int) : Prop where
  l0 : 0 ≤ l
  l2 : qlo ≤ l + 1 + 3 * isq l
  l3 : ∀ w, 0 ≤ w → w < l → w + 1 + 3 * isq w < qlo
  W0 : 0 ≤ W
  Ws : W < 4194304
  lW : l ≤ W
  W3 : W - 3 * isq W ≤ qhi
  W4 : ∀ w, 0 ≤ w → w ≤ 1152921504606846976 → w - 3 * isq w ≤ qhi → w ≤ W
  lo_eq : lo = max 0 (l * 16777216 - dhi * n) * 4096 / (fhi * 16777216)
  hi0 : 0 ≤ hi
  hi1 : ((W + 1) * 16777216 - dlo * n) * 4096 ≤ hi * (flo * 16777216)
  hi2 : hi * (flo * 16777216) < ((W + 1) * 16777216 - dlo * n) * 4096 + flo * 16777216
  lohi : lo ≤ hi
  lo0 : 0 ≤ lo
  his : hi ≤ 1152921504606846976
theorem calib_val (k : Nat) (qlo qhi dlo dhi flo fhi n : Int) (q0 : -100 ≤ qlo) (q1 : qlo ≤ qhi) (q1' : 0 ≤ qhi) (q2 : qhi ≤ 5000) (d0 : -2000 ≤ dlo) (d1 : dlo ≤ dhi) (d2 : dhi ≤ 100000000) (f0 : 1 ≤ flo) (f1 : flo ≤ fhi) (f2 : fhi ≤ 4096) (n0 : 0 ≤ n) (n1 : n ≤ 16) (hk : 300 ≤ k) :
    ∃ l W lo hi, ((W + 1) * 16777216 - dlo * n < 0 ∧ 0 ≤ W ∧ (∀ w, 0 ≤ w → w ≤ 1152921504606846976 → w - 3 * isq w ≤ qhi → w ≤ W) ∧ calib_Light k ⟨qlo, qhi, false⟩ ⟨dlo, dhi, false⟩ ⟨flo, fhi, false⟩ n = some ⟨0, 0, true⟩) ∨
      (0 ≤ (W + 1) * 16777216 - dlo * n ∧ Ans qlo qhi dlo dhi flo fhi n l W lo hi ∧ calib_Light k ⟨qlo, qhi, false⟩ ⟨dlo, dhi, false⟩ ⟨flo, fhi, false⟩ n = some ⟨lo, hi, false⟩) := by
  obtain ⟨l, el, l0, l1, l2, l3⟩ := least_ex k qlo (by omega) (by omega) (by omega)
  obtain ⟨W, eW, W0, W1, W2, W3, W4⟩ := most_ex k qhi q1' (by omega) (by omega)
  have hWs : W < 4194304 := by
    rcases Int.lt_or_le W 4194304 with g | g
    · exact g
    · obtain ⟨_, a0, _, a2, a3⟩ := isq_all W (by omega) (by omega)
      have hr : 2048 < isq W + 1 := sq_lt (by decide) (by omega) (by omega)
      have := Int.mul_le_mul_of_nonneg_right (show 2048 ≤ isq W by omega) a0
      omega
  have rW := isq_small (n := W) (by omega) (by omega)
  have hlW : l ≤ W := by
    rcases Int.lt_or_le W l with g | g
    · have h1 := l3 W W0 g
      omega
    · exact g
  -- the dark light
  have db : -32000 ≤ dlo * n ∧ dlo * n ≤ dhi * n ∧ dhi * n ≤ 1600000000 := by
    have h1 : -2000 * n ≤ dlo * n := Int.mul_le_mul_of_nonneg_right d0 n0
    have h2 : dlo * n ≤ dhi * n := Int.mul_le_mul_of_nonneg_right d1 n0
    have h3 : dhi * n ≤ 100000000 * n := Int.mul_le_mul_of_nonneg_right d2 n0
    omega
  unfold calib_Light
  rw [bnd (norm_ok_Quanta k ⟨qlo, qhi, false⟩ (val_of (by omega) (by omega) q1))]
  have hmeans : quanta_Means k ⟨qlo, qhi, false⟩ = some ⟨l, W + 1, false⟩ := by
    unfold quanta_Means
    rw [bnd (norm_ok_Quanta k ⟨qlo, qhi, false⟩ (val_of (by omega) (by omega) q1))]
    dsimp only
    rw [ifn (by decide), ifn (by omega), ifn (by omega), bnd el, bnd eW]
  rw [bnd hmeans]
  unfold bound_As_Light_Quanta
  rw [bnd (norm_ok_Quanta k ⟨l, W + 1, false⟩ (val_of (by omega) (by omega) (by omega)))]
  dsimp only [Option.bind_some]
  rw [bnd (scale_any k l (W + 1) 16777216 (by omega) (by omega) (by omega) (by decide) (by decide) (by omega) (by omega) (by omega))]
  rw [bnd (norm_ok_Part k ⟨flo, fhi, false⟩ (val_of (by omega) (by omega) f1))]
  dsimp only
  rw [ifn (by omega), ifn (by omega), ifn (by decide), ifn (by omega), ifn (by omega)]
  rw [bnd (scale_any k dlo dhi n (by omega) d1 (by omega) n0 (by omega) (by omega) (by omega) (by omega))]
  obtain ⟨A, hA⟩ : ∃ x, x = dlo * n := ⟨_, rfl⟩
  obtain ⟨B, hB⟩ : ∃ x, x = dhi * n := ⟨_, rfl⟩
  rw [← hA, ← hB] at db ⊢
  have hsub : bound_Sub_Light k ⟨l * 16777216, (W + 1) * 16777216, false⟩ ⟨A, B, false⟩ = some ⟨l * 16777216 - B, (W + 1) * 16777216 - A, false⟩ := by
    unfold bound_Sub_Light bound_Neg_Light
    rw [bnd (norm_ok_Light k ⟨A, B, false⟩ (val_of (by omega) (by omega) (by omega)))]
    dsimp only [Option.bind_some]
    rw [wid (x := 0 - A) (by omega) (by omega), wid (x := 0 - B) (by omega) (by omega)]
    unfold bound_Add_Light
    rw [bnd (vague_no_Light k _ _ (val_of (by omega) (by omega) (by omega)) (val_of (by omega) (by omega) (by omega)) rfl rfl), ifn (by decide)]
    dsimp only
    rw [wid (x := l * 16777216 + (0 - B)) (by omega) (by omega), wid (x := (W + 1) * 16777216 + (0 - A)) (by omega) (by omega), bnd (of_ok_Light k _ _ (by omega) (by omega) (by omega))]
    rw [show l * 16777216 + (0 - B) = l * 16777216 - B by omega, show (W + 1) * 16777216 + (0 - A) = (W + 1) * 16777216 - A by omega]
    rfl
  rw [bnd hsub]
  dsimp only
  rw [ifn (by decide)]
  by_cases c : (W + 1) * 16777216 - A < 0
  · rw [ifp c]
    exact ⟨l, W, 0, 0, .inl ⟨c, W0, W4, rfl⟩⟩
  rw [ifn c]
  obtain ⟨X, hX⟩ : ∃ x, x = max 0 (l * 16777216 - B) := ⟨_, rfl⟩
  have hX2 : 0 ≤ X ∧ X ≤ (W + 1) * 16777216 - A := by omega
  rw [mx_def, ← hX, wid (x := fhi * 16777216) (by omega) (by omega), wid (x := flo * 16777216) (by omega) (by omega)]
  rw [bnd (muldiv_small k X 4096 (fhi * 16777216) (by omega) (by omega) (by decide) (by decide) (by omega) (by omega) (by omega))]
  dsimp only
  obtain ⟨hi, ehi, g1, g2, g3, g4⟩ := muldivup_small k ((W + 1) * 16777216 - A) 4096 (flo * 16777216) (by omega) (by omega) (by decide) (by decide) (by omega) (by omega) (by omega)
  rw [bnd ehi]
  dsimp only
  obtain ⟨lo, hlo⟩ : ∃ x, x = X * 4096 / (fhi * 16777216) := ⟨_, rfl⟩
  rw [← hlo]
  have b0 : 0 ≤ lo := by rw [hlo]; exact Int.ediv_nonneg (by omega) (by omega)
  have b1 : lo * (fhi * 16777216) ≤ X * 4096 := by rw [hlo]; exact Int.ediv_mul_le _ (by omega)
  have b2 : lo ≤ hi := by
    rcases Int.lt_or_le hi lo with g | g
    · exfalso
      have h1 : hi * (flo * 16777216) ≤ (lo - 1) * (flo * 16777216) := Int.mul_le_mul_of_nonneg_right (by omega) (by omega)
      have h2 : (lo - 1) * (flo * 16777216) ≤ (lo - 1) * (fhi * 16777216) := Int.mul_le_mul_of_nonneg_left (by omega) (by omega)
      have h3 : (lo - 1) * (fhi * 16777216) = lo * (fhi * 16777216) - fhi * 16777216 := by rw [Int.sub_mul, Int.one_mul]
      omega
    · exact g
  rw [bnd (of_ok_Quanta k lo hi (by omega) (by omega) b2)]
  refine ⟨l, W, lo, hi, .inr ⟨by omega, ⟨l0, l2, l3, W0, hWs, hlW, W3, W4, by rw [← hB, ← hX]; exact hlo, g3, by rw [← hA]; exact g1, by rw [← hA]; exact g2, b2, b0, by omega⟩, rfl⟩⟩
theorem law (k : Nat) (L : List Int) (beats : Int) (hk : 300 ≤ k) : spykeep3_CalibNarrows k L beats = some true := by
  unfold spykeep3_CalibNarrows
  obtain ⟨n, h0, n0, n1⟩ := below_ex k beats 17 (by decide) (by decide)
  rw [bnd h0]
  obtain ⟨a, h1, a0, a1⟩ := next_ex k L 0 3000 (by decide) (by decide) (by decide) (by decide)
  rw [bnd h1]; dsimp only
  obtain ⟨b, h2, b0, b1⟩ := next_ex k L (0 + 1) 3000 (by decide) (by decide) (by decide) (by decide)
  rw [bnd h2]; dsimp only
  rw [mn_def, mx_def]
  obtain ⟨lo, hlo⟩ : ∃ x, x = min a b := ⟨_, rfl⟩
  obtain ⟨hi, hhi⟩ : ∃ x, x = max a b := ⟨_, rfl⟩
  rw [← hlo, ← hhi, bnd (of_ok_Quanta k lo hi (by omega) (by omega) (by omega))]
  obtain ⟨s, h3, s0, s1⟩ := next_ex k L (0 + 1 + 1) 30 (by decide) (by decide) (by decide) (by decide)
  rw [bnd h3]; dsimp only
  obtain ⟨t, h4, t0, t1⟩ := next_ex k L (0 + 1 + 1 + 1) 30 (by decide) (by decide) (by decide) (by decide)
  rw [bnd h4]; dsimp only
  rw [wid (x := lo - s) (by omega) (by omega), wid (x := hi + t) (by omega) (by omega), bnd (of_ok_Quanta k (lo - s) (hi + t) (by omega) (by omega) (by omega))]
  obtain ⟨d, h5, d0, d1⟩ := next_ex k L (0 + 1 + 1 + 1 + 1) 33554432 (by decide) (by decide) (by decide) (by decide)
  rw [bnd h5]; dsimp only
  obtain ⟨e, h6, e0, e1⟩ := next_ex k L (0 + 1 + 1 + 1 + 1 + 1) 33554432 (by decide) (by decide) (by decide) (by decide)
  rw [bnd h6]; dsimp only
  rw [wid (x := 33554432 + e) (by omega) (by omega), bnd (of_ok_Light k d (33554432 + e) (by omega) (by omega) (by omega))]
  obtain ⟨u, h7, u0, u1⟩ := next_ex k L (0 + 1 + 1 + 1 + 1 + 1 + 1) 1000 (by decide) (by decide) (by decide) (by decide)
  rw [bnd h7]; dsimp only
  obtain ⟨v, h8, v0, v1⟩ := next_ex k L (0 + 1 + 1 + 1 + 1 + 1 + 1 + 1) 1000 (by decide) (by decide) (by decide) (by decide)
  rw [bnd h8]; dsimp only
  rw [wid (x := d - u) (by omega) (by omega), wid (x := 33554432 + e + v) (by omega) (by omega), bnd (of_ok_Light k (d - u) (33554432 + e + v) (by omega) (by omega) (by omega))]
  obtain ⟨f, h9, f0, f1⟩ := range_ex k L (0 + 1 + 1 + 1 + 1 + 1 + 1 + 1 + 1) 2 2000 (by decide) (by decide) (by decide) (by decide) (by decide) (by decide)
  rw [bnd h9]; dsimp only
  obtain ⟨g, h10, g0, g1⟩ := range_ex k L (0 + 1 + 1 + 1 + 1 + 1 + 1 + 1 + 1 + 1) 2000 4000 (by decide) (by decide) (by decide) (by decide) (by decide) (by decide)
  rw [bnd h10]; dsimp only
  rw [bnd (of_ok_Part k f g (by omega) (by omega) (by omega))]
  obtain ⟨z, h11, z0, z1⟩ := next_ex k L (0 + 1 + 1 + 1 + 1 + 1 + 1 + 1 + 1 + 1 + 1) 90 (by decide) (by decide) (by decide) (by decide)
  rw [bnd h11]; dsimp only
  rw [wid (x := f - 1) (by omega) (by omega), wid (x := g + z) (by omega) (by omega), bnd (of_ok_Part k (f - 1) (g + z) (by omega) (by omega) (by omega))]
  obtain ⟨lA, WA, loA, hiA, hA⟩ := calib_val k lo hi d (33554432 + e) f g n (by omega) (by omega) (by omega) (by omega) (by omega) (by omega) (by omega) (by omega) (by omega) (by omega) n0 (by omega) hk
  obtain ⟨lB, WB, loB, hiB, hB⟩ := calib_val k (lo - s) (hi + t) (d - u) (33554432 + e + v) (f - 1) (g + z) n (by omega) (by omega) (by omega) (by omega) (by omega) (by omega) (by omega) (by omega) (by omega) (by omega) n0 (by omega) hk
  have m1 : (d - u) * n ≤ d * n := Int.mul_le_mul_of_nonneg_right (by omega) n0
  have m2 : (33554432 + e) * n ≤ (33554432 + e + v) * n := Int.mul_le_mul_of_nonneg_right (by omega) n0
  rcases hA with ⟨_, _, _, eA⟩ | ⟨cA, A, eA⟩
  · rw [bnd eA]
    rcases hB with ⟨_, _, _, eB⟩ | ⟨_, _, eB⟩ <;> (rw [bnd eB, bnd (calibrated_eq k (by omega)), ifp rfl, ifp rfl])
  have aw := A.Ws
  have aw0 := A.W0
  have aw3 := A.W3
  rcases hB with ⟨cB, WB0, B4, eB⟩ | ⟨cB, B, eB⟩
  · exfalso
    have := B4 WA aw0 (by omega) (by omega)
    omega
  rw [bnd eA, bnd eB, bnd (calibrated_eq k (by omega)), ifp rfl, ifn (by exact Bool.false_ne_true)]
  have hW := B.W4 WA aw0 (by omega) (by omega)
  have hl : lB ≤ lA := by
    rcases Int.lt_or_le lA lB with y | y
    · have p1 := B.l3 lA A.l0 y
      have p2 := A.l2
      omega
    · exact y
  have a1 := A.lo0
  have a2 := A.lohi
  have a3 := A.his
  have b1' := B.lo0
  have b2 := B.lohi
  have b3 := B.his
  have cl : loB ≤ loA := by
    obtain ⟨X, hX⟩ : ∃ x, x = max 0 (lA * 16777216 - (33554432 + e) * n) := ⟨_, rfl⟩
    obtain ⟨Y, hY⟩ : ∃ x, x = max 0 (lB * 16777216 - (33554432 + e + v) * n) := ⟨_, rfl⟩
    have eqA := A.lo_eq
    have eqB := B.lo_eq
    rw [← hX] at eqA
    rw [← hY] at eqB
    have hYX : Y ≤ X := by omega
    have q1 : loB * ((g + z) * 16777216) ≤ Y * 4096 := by rw [eqB]; exact Int.ediv_mul_le _ (by omega)
    have q2 : loB * (g * 16777216) ≤ loB * ((g + z) * 16777216) := Int.mul_le_mul_of_nonneg_left (by omega) b1'
    rw [eqA]
    exact (Int.le_ediv_iff_mul_le (by omega)).mpr (by omega)
  have ch : hiA ≤ hiB := by
    have p1 := A.hi2
    have p2 := B.hi1
    have p3 := B.hi0
    rcases Int.lt_or_le hiB hiA with y | y
    · exfalso
      have q1 : hiB * ((f - 1) * 16777216) ≤ hiB * (f * 16777216) := Int.mul_le_mul_of_nonneg_left (by omega) p3
      have q2 : hiB * (f * 16777216) ≤ (hiA - 1) * (f * 16777216) := Int.mul_le_mul_of_nonneg_right (by omega) (by omega)
      have q3 : (hiA - 1) * (f * 16777216) = hiA * (f * 16777216) - f * 16777216 := by rw [Int.sub_mul, Int.one_mul]
      omega
    · exact y
  have vA : Val ⟨loA, hiA, false⟩ := val_of (by omega) a3 a2
  have vB : Val ⟨loB, hiB, false⟩ := val_of (by omega) b3 b2
  unfold bound_Inside_Quanta
  rw [bnd (vague_Quanta k _ _ vB vB rfl rfl), ifn (by decide), bnd (vague_Quanta k _ _ vA vA rfl rfl), ifp (by decide)]
  dsimp only
  rw [ifp cl, decide_eq_true ch]
  rfl
theorem law_ex (l : List Int) (beats : Int) (_ : (Lit.int .i64 beats).wf = true) : ∃ k, spykeep3_CalibNarrows k l beats = some true := ⟨300, law 300 l beats (by decide)⟩

end Go.Sp.C5
