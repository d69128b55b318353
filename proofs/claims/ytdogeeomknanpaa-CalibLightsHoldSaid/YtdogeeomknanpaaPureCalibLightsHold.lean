import Derived.Test.YtdogeeomknanpaaFZ6
import Derived.KernelRfl
import Derived.Laws.BitsLemmas
import Derived.Laws.Bits64
import Derived.Laws.BitsAllLaws
import Derived.Laws.BitsLemmas
import Derived.Laws.Bits64
import Derived.Laws.BitsAllLaws
namespace Go.Sp.Z6
open Go Go.Sp
set_option linter.unusedVariables false
theorem bnd {α β : Type} {x : Option α} {g : α → Option β} {v : α} (h : x = some v) : x.bind g = g v := by rw [h]; rfl
theorem ifp {α : Type} {c : Prop} [Decidable c] {x y : α} (h : c) : (if c then x else y) = x := if_pos h
theorem ifn {α : Type} {c : Prop} [Decidable c] {x y : α} (h : ¬ c) : (if c then x else y) = y := if_neg h
theorem rd_mem {α : Type} [Inhabited α] {l : List α} {i : Int} (h0 : 0 ≤ i) (h1 : i < (l.length : Int)) : rd l i ∈ l := by
  obtain ⟨h, e⟩ := rd_lt h0 h1
  rw [e]; exact List.getElem_mem h
theorem wid {x : Int} (h : -9223372036854775808 ≤ x) (h' : x ≤ 9223372036854775807) : w64 x = x := w64_of h h'
theorem wuid {x : Int} (h : 0 ≤ x) (h' : x ≤ 18446744073709551615) : u64 x = x := u64_of h h'
theorem mul_le {a b A B : Int} (h1 : 0 ≤ a) (h2 : a ≤ A) (h3 : 0 ≤ b) (h4 : b ≤ B) : 0 ≤ a * b ∧ a * b ≤ A * B :=
  ⟨Int.mul_nonneg h1 h3, Int.mul_le_mul h2 h4 h3 (by omega)⟩
theorem tdiv_nn {a b : Int} (h : 0 ≤ a) : Int.tdiv a b = a / b := Int.tdiv_eq_ediv_of_nonneg h
theorem tmod_nn {a b : Int} (h : 0 ≤ a) : Int.tmod a b = a % b := Int.tmod_eq_emod_of_nonneg h
def AllIn (l : List Int) (lo hi : Int) : Prop := ∀ x, x ∈ l → lo ≤ x ∧ x ≤ hi
theorem AllIn.nil {lo hi : Int} : AllIn [] lo hi := fun x h => by cases h
theorem AllIn.push {l : List Int} {lo hi x : Int} (h : AllIn l lo hi) (h0 : lo ≤ x) (h1 : x ≤ hi) : AllIn (l ++ [x]) lo hi := by
  intro y hy
  rcases List.mem_append.mp hy with hy | hy
  · exact h y hy
  · simp only [List.mem_singleton] at hy; subst hy; exact ⟨h0, h1⟩
theorem AllIn.rd {l : List Int} {lo hi i : Int} (h : AllIn l lo hi) (h0 : 0 ≤ i) (h1 : i < (l.length : Int)) : lo ≤ rd l i ∧ rd l i ≤ hi := h _ (rd_mem h0 h1)
theorem AllIn.mono {l : List Int} {lo hi lo' hi' : Int} (h : AllIn l lo hi) (h0 : lo' ≤ lo) (h1 : hi ≤ hi') : AllIn l lo' hi' := fun x hx => by have := h x hx; omega
theorem rd_set_eq (l : List Int) (i x : Int) (h0 : 0 ≤ i) (h1 : i < (l.length : Int)) : rd (l.set i.toNat x) i = x := by
  obtain ⟨h, e⟩ := rd_lt (xs := l.set i.toNat x) h0 (by simp; omega)
  rw [e]; simp
theorem rd_set_ne (l : List Int) (i j x : Int) (h0 : 0 ≤ i) (hj : 0 ≤ j) (h1 : j < (l.length : Int)) (hne : j ≠ i) : rd (l.set i.toNat x) j = rd l j := by
  obtain ⟨h, e⟩ := rd_lt (xs := l.set i.toNat x) hj (by simp; omega)
  obtain ⟨h', e'⟩ := rd_lt (xs := l) hj h1
  rw [e, e', List.getElem_set, if_neg (by omega)]
theorem rd_push_old (l : List Int) (x i : Int) (h0 : 0 ≤ i) (h1 : i < (l.length : Int)) : rd (l ++ [x]) i = rd l i := by
  obtain ⟨h, e⟩ := rd_lt (xs := l ++ [x]) h0 (by simp; omega)
  obtain ⟨h', e'⟩ := rd_lt (xs := l) h0 h1
  rw [e, e', List.getElem_append_left h']
theorem rd_push_new (l : List Int) (x i : Int) (h1 : i = (l.length : Int)) : rd (l ++ [x]) i = x := by
  obtain ⟨h, e⟩ := rd_lt (xs := l ++ [x]) (i := i) (by omega) (by simp; omega)
  rw [e, List.getElem_append_right (by omega)]
  simp
theorem u64_and32 (x : Int) (h0 : 0 ≤ x) (h1 : x < 18446744073709551616) : Go.bits .and .u64 x 4294967295 = x % 4294967296 := by
  rw [Go.u64_and x 4294967295 h0 h1 (by decide) (by decide)]
  have : x.toNat &&& (4294967295 : Int).toNat = x.toNat % 4294967296 := Nat.and_two_pow_sub_one_eq_mod x.toNat 32
  rw [this]
  omega
theorem shr32 (x : Int) : shr x 32 = x / 4294967296 := shr_def x 32
theorem mul64_eq (k : Nat) (a b : Int) (ha : 0 ≤ a) (ha' : a < 18446744073709551616) (hb : 0 ≤ b) (hb' : b < 18446744073709551616) :
    bits_Mul64 k a b = some (a * b / 18446744073709551616, a * b % 18446744073709551616) := by
  unfold bits_Mul64
  rw [u64_and32 a ha ha', u64_and32 b hb hb', shr32 a, shr32 b]
  have h1 := mul_le (a := a / 4294967296) (b := b / 4294967296) (A := 4294967295) (B := 4294967295) (by omega) (by omega) (by omega) (by omega)
  have h2 := mul_le (a := a / 4294967296) (b := b % 4294967296) (A := 4294967295) (B := 4294967295) (by omega) (by omega) (by omega) (by omega)
  have h3 := mul_le (a := a % 4294967296) (b := b / 4294967296) (A := 4294967295) (B := 4294967295) (by omega) (by omega) (by omega) (by omega)
  have h4 := mul_le (a := a % 4294967296) (b := b % 4294967296) (A := 4294967295) (B := 4294967295) (by omega) (by omega) (by omega) (by omega)
  have e : a * b = (a / 4294967296) * (b / 4294967296) * 18446744073709551616 + ((a / 4294967296) * (b % 4294967296) + (a % 4294967296) * (b / 4294967296)) * 4294967296 + (a % 4294967296) * (b % 4294967296) := by
    have ea : a = a / 4294967296 * 4294967296 + a % 4294967296 := by omega
    have eb : b = b / 4294967296 * 4294967296 + b % 4294967296 := by omega
    generalize a / 4294967296 = x1 at *
    generalize a % 4294967296 = x0 at *
    generalize b / 4294967296 = y1 at *
    generalize b % 4294967296 = y0 at *
    subst ea eb
    grind
  rw [u64_def (a * b), e]
  generalize (a / 4294967296) * (b / 4294967296) = p at *
  generalize (a / 4294967296) * (b % 4294967296) = q at *
  generalize (a % 4294967296) * (b / 4294967296) = r at *
  generalize (a % 4294967296) * (b % 4294967296) = s at *
  rw [wuid (x := s) (by omega) (by omega), wuid (x := p) (by omega) (by omega), wuid (x := q) (by omega) (by omega), wuid (x := r) (by omega) (by omega)]
  rw [shr32 s, wuid (x := q + s / 4294967296) (by omega) (by omega)]
  rw [u64_and32 (q + s / 4294967296) (by omega) (by omega), shr32 (q + s / 4294967296)]
  rw [wuid (x := p + (q + s / 4294967296) / 4294967296) (by omega) (by omega)]
  rw [wuid (x := (q + s / 4294967296) % 4294967296 + r) (by omega) (by omega), shr32]
  rw [wuid (by omega) (by omega)]
  have e1 : p + (q + s / 4294967296) / 4294967296 + ((q + s / 4294967296) % 4294967296 + r) / 4294967296 = (p * 18446744073709551616 + (q + r) * 4294967296 + s) / 18446744073709551616 := by omega
  rw [e1]
theorem i64_and_low (x : Int) (i : Nat) (hi : i ≤ 62) : Go.bits .and .i64 x ((2 ^ i - 1 : Nat) : Int) = (((x % 18446744073709551616).toNat % 2 ^ i : Nat) : Int) := by
  have hp : 2 ^ i ≤ 2 ^ 62 := Nat.pow_le_pow_right (by decide) hi
  have hpos : 0 < 2 ^ i := Nat.two_pow_pos i
  have e1 : (BitVec.ofInt 64 x).toNat = (x % 18446744073709551616).toNat := by simp [BitVec.toNat_ofInt]
  have hb : (2 ^ i - 1) % 2 ^ IntKind.i64.bits = 2 ^ i - 1 := Nat.mod_eq_of_lt (by show 2 ^ i - 1 < 2 ^ 64; omega)
  simp only [Go.bits, BitVec.ofInt_natCast, BitVec.toNat_and, BitVec.toNat_ofNat, hb]
  rw [show (BitVec.ofInt IntKind.i64.bits x).toNat = (x % 18446744073709551616).toNat from e1, Nat.and_two_pow_sub_one_eq_mod]
  have := Nat.mod_lt (x % 18446744073709551616).toNat hpos
  rw [IntKind.wrap_i64]
  omega
theorem i64_and_in (x : Int) (i : Nat) (m : Int) (hi : i ≤ 62) (hm : m = ((2 ^ i - 1 : Nat) : Int)) : 0 ≤ Go.bits .and .i64 x m ∧ Go.bits .and .i64 x m ≤ m := by
  subst hm
  rw [i64_and_low x i hi]
  have := Nat.mod_lt (x % 18446744073709551616).toNat (Nat.two_pow_pos i)
  omega
theorem sq_le {a b : Int} (h : a ≤ b) (ha : 0 ≤ a) : a * a ≤ b * b := Int.mul_le_mul h h ha (by omega)
theorem sq_lt {a b : Int} (ha : 0 ≤ a) (hb : 0 ≤ b) (h : a * a < b * b) : a < b := by
  rcases Int.lt_or_le a b with g | g
  · exact g
  · have := sq_le g hb; omega
theorem or_bit (r : Int) (j : Nat) (hr : 0 ≤ r) (hm : r % 2 ^ (j + 1) = 0) (h : r + 2 ^ j < 18446744073709551616) (hj : j ≤ 62) : Go.bits .or .u64 r (2 ^ j) = r + 2 ^ j := by
  have hp : (0 : Int) < 2 ^ j := Int.pow_pos (by decide)
  have hlt : (2 : Int) ^ j < 2 ^ (j + 1) := by rw [Int.pow_succ]; omega
  exact Go.bits_join .u64 64 (by decide) (fun n h0 h1 => by have h2 : n < 18446744073709551616 := h1; rw [IntKind.wrap_u64]; omega) (j + 1) r (2 ^ j) hr hm (by show r < 18446744073709551616; omega) (by omega) hlt (by show (2 : Int) ^ j < 18446744073709551616; omega)
theorem shr1 (x : Int) : shr x 1 = x / 2 := shr_def x 1
theorem sqrt_end (k n : Nat) (u v r : Int) (hk : 0 < n) : num_SqrtMul.l0 k u v n r 0 = some r := by
  obtain ⟨n, rfl⟩ : ∃ m, n = m + 1 := ⟨n - 1, by omega⟩
  rw [num_SqrtMul.l0, ifn (by decide)]
theorem sqrt_loop (k : Nat) (P : Int) (hP : 0 ≤ P) (hP' : P < 85070591730234615865843651857942052864) (j : Nat) : ∀ (r : Int) (n : Nat), j ≤ 62 → 0 ≤ r → r % 2 ^ (j + 1) = 0 → r + 2 ^ (j + 1) ≤ 9223372036854775808 → r * r ≤ P → P < (r + 2 ^ (j + 1)) * (r + 2 ^ (j + 1)) → j + 1 < n →
    ∃ s, num_SqrtMul.l0 k (P / 18446744073709551616) (P % 18446744073709551616) n r (2 ^ j) = some s ∧ 0 ≤ s ∧ s ≤ 9223372036854775807 ∧ s * s ≤ P ∧ P < (s + 1) * (s + 1) := by
  induction j with
  | zero =>
    intro r n _ h0 hm hb hlo hhi hk
    obtain ⟨n, rfl⟩ : ∃ m, n = m + 1 := ⟨n - 1, by omega⟩
    have hor := or_bit r 0 h0 hm (by omega) (by omega)
    have hsq := mul_le (a := r + 1) (b := r + 1) (A := 9223372036854775807) (B := 9223372036854775807) (by omega) (by omega) (by omega) (by omega)
    rw [num_SqrtMul.l0, ifp (by decide), hor, show (2 : Int) ^ 0 = 1 by rfl, bnd (mul64_eq k (r + 1) (r + 1) (by omega) (by omega) (by omega) (by omega))]
    dsimp only
    have e2 : (1 : Int) / 2 = 0 := by decide
    have hhi2 : P < (r + 2) * (r + 2) := hhi
    rw [shr1, e2, sqrt_end k n _ _ (r + 1) (by omega), sqrt_end k n _ _ r (by omega)]
    by_cases c : (r + 1) * (r + 1) ≤ P
    · refine ⟨r + 1, ?_, by omega, by omega, c, ?_⟩
      · generalize (r + 1) * (r + 1) = Q at *
        by_cases c1 : Q / 18446744073709551616 < P / 18446744073709551616
        · rw [ifp c1]
        · rw [ifn c1, ifp (by omega), ifp (by omega)]
      · rw [show r + 1 + 1 = r + 2 by omega]; exact hhi2
    · refine ⟨r, ?_, by omega, by omega, hlo, by omega⟩
      generalize (r + 1) * (r + 1) = Q at *
      rw [ifn (by omega)]
      by_cases c1 : Q / 18446744073709551616 = P / 18446744073709551616
      · rw [ifp c1, ifn (by omega)]
      · rw [ifn c1]
  | succ j ih =>
    intro r n hj h0 hm hb hlo hhi hk
    obtain ⟨n, rfl⟩ : ∃ m, n = m + 1 := ⟨n - 1, by omega⟩
    have hp : (0 : Int) < 2 ^ j := Int.pow_pos (by decide)
    have hp1 : (2 : Int) ^ (j + 1) = 2 * 2 ^ j := by rw [Int.pow_succ]; omega
    have hp2 : (2 : Int) ^ (j + 1 + 1) = 4 * 2 ^ j := by rw [Int.pow_succ, hp1]; omega
    have hor := or_bit r (j + 1) h0 hm (by omega) (by omega)
    have hm1 : r % 2 ^ (j + 1) = 0 := by
      have hd : ((2 : Int) ^ (j + 1)) ∣ 2 ^ (j + 1 + 1) := ⟨2, by rw [Int.pow_succ]⟩
      exact Int.emod_eq_zero_of_dvd (Int.dvd_trans hd (Int.dvd_of_emod_eq_zero hm))
    have hm2 : (r + 2 ^ (j + 1)) % 2 ^ (j + 1) = 0 := by rw [Int.add_emod_right]; exact hm1
    have hdiv : (2 : Int) ^ (j + 1) / 2 = 2 ^ j := by omega
    have hsq := mul_le (a := r + 2 ^ (j + 1)) (b := r + 2 ^ (j + 1)) (A := 9223372036854775807) (B := 9223372036854775807) (by omega) (by omega) (by omega) (by omega)
    rw [num_SqrtMul.l0, ifp (by omega), hor, bnd (mul64_eq k _ _ (by omega) (by omega) (by omega) (by omega))]
    dsimp only
    rw [shr1, hdiv]
    by_cases c : (r + 2 ^ (j + 1)) * (r + 2 ^ (j + 1)) ≤ P
    · obtain ⟨s, e, hs⟩ := ih (r + 2 ^ (j + 1)) n (by omega) (by omega) hm2 (by omega) c (by rw [show r + 2 ^ (j + 1) + 2 ^ (j + 1) = r + 2 ^ (j + 1 + 1) by omega]; exact hhi) (by omega)
      refine ⟨s, ?_, hs⟩
      rw [e]
      generalize (r + 2 ^ (j + 1)) * (r + 2 ^ (j + 1)) = Q at *
      by_cases c1 : Q / 18446744073709551616 < P / 18446744073709551616
      · rw [ifp c1]
      · rw [ifn c1, ifp (by omega), ifp (by omega)]
    · obtain ⟨s, e, hs⟩ := ih r n (by omega) h0 hm1 (by omega) hlo (by omega) (by omega)
      refine ⟨s, ?_, hs⟩
      rw [e]
      generalize (r + 2 ^ (j + 1)) * (r + 2 ^ (j + 1)) = Q at *
      rw [ifn (by omega)]
      by_cases c1 : Q / 18446744073709551616 = P / 18446744073709551616
      · rw [ifp c1, ifn (by omega)]
      · rw [ifn c1]
theorem sqrtmul_ex (k : Nat) (a b : Int) (ha : 0 ≤ a) (ha' : a ≤ 9223372036854775807) (hb : 0 ≤ b) (hb' : b ≤ 9223372036854775807) (hk : 70 ≤ k) :
    ∃ s, num_SqrtMul k a b = some s ∧ 0 ≤ s ∧ s ≤ 9223372036854775807 ∧ s * s ≤ a * b ∧ a * b < (s + 1) * (s + 1) := by
  have hP := mul_le ha ha' hb hb'
  obtain ⟨s, e, hs⟩ := sqrt_loop k (a * b) hP.1 (by omega) 62 0 k (by omega) (by omega) (by decide) (by decide) (by omega) (by
    show a * b < 9223372036854775808 * 9223372036854775808
    omega) (by omega)
  refine ⟨s, ?_, hs⟩
  have hp : (2 : Int) ^ 62 = 4611686018427387904 := by decide
  rw [hp] at e
  unfold num_SqrtMul
  rw [ifn (by omega), ifn (by omega), wuid ha (by omega), wuid hb (by omega), bnd (mul64_eq k a b ha (by omega) hb (by omega))]
  dsimp only
  rw [bnd e, wid (by omega) (by omega)]
/-- The square root of a number, rounded down. -/
noncomputable def isq (n : Int) : Int := (num_Sqrt 70 n).getD 0
theorem root_unique {n r s : Int} (hr : 0 ≤ r) (hs : 0 ≤ s) (h1 : r * r ≤ n) (h2 : n < (r + 1) * (r + 1)) (h3 : s * s ≤ n) (h4 : n < (s + 1) * (s + 1)) : r = s := by
  have l1 : r < s + 1 := sq_lt hr (by omega) (by omega)
  have l2 : s < r + 1 := sq_lt hs (by omega) (by omega)
  omega
theorem isq_all (n : Int) (h : 0 ≤ n) (h' : n ≤ 9223372036854775807) : (∀ k, 70 ≤ k → num_Sqrt k n = some (isq n)) ∧ 0 ≤ isq n ∧ isq n ≤ 9223372036854775807 ∧ isq n * isq n ≤ n ∧ n < (isq n + 1) * (isq n + 1) := by
  obtain ⟨s, e, h0, h1, h2, h3⟩ := sqrtmul_ex 70 n 1 h h' (by omega) (by omega) (by omega)
  rw [Int.mul_one] at h2 h3
  have hs : ∀ k, 70 ≤ k → num_Sqrt k n = some s := by
    intro k hk
    obtain ⟨s', e', g0, g1, g2, g3⟩ := sqrtmul_ex k n 1 h h' (by omega) (by omega) hk
    rw [Int.mul_one] at g2 g3
    unfold num_Sqrt
    rw [bnd e', root_unique g0 h0 g2 g3 h2 h3]
  have hi : isq n = s := by unfold isq; rw [hs 70 (Nat.le_refl _)]; rfl
  rw [hi]
  exact ⟨hs, h0, h1, h2, h3⟩
theorem isq_mono {a b : Int} (h0 : 0 ≤ a) (h : a ≤ b) (h' : b ≤ 9223372036854775807) : isq a ≤ isq b := by
  obtain ⟨_, a0, _, a2, a3⟩ := isq_all a h0 (by omega)
  obtain ⟨_, b0, _, b2, b3⟩ := isq_all b (by omega) h'
  have : isq a < isq b + 1 := sq_lt a0 (by omega) (by omega)
  omega
/-- Which number is the root. -/
theorem isq_is {n r : Int} (h0 : 0 ≤ n) (h' : n ≤ 9223372036854775807) (hr : 0 ≤ r) (h1 : r * r ≤ n) (h2 : n < (r + 1) * (r + 1)) : isq n = r := by
  obtain ⟨_, a0, _, a2, a3⟩ := isq_all n h0 h'
  exact root_unique a0 hr a2 a3 h1 h2
theorem root_eq (k : Nat) (n : Int) (h : 0 ≤ n) (h' : n ≤ 9223372036854775807) (hk : 70 ≤ k) : quanta_root k n = some (isq n) := by
  unfold quanta_root
  rw [bnd ((isq_all n h h').1 k hk)]
theorem isq_small {n : Int} (h : 0 ≤ n) (h' : n ≤ 274877906944) : 0 ≤ isq n ∧ isq n ≤ 524288 := by
  obtain ⟨_, a0, _, a2, a3⟩ := isq_all n h (by omega)
  refine ⟨a0, ?_⟩
  have : isq n < 524289 := sq_lt a0 (by omega) (by omega)
  omega
theorem least_loop (q : Int) (hq : q ≤ 34359738368) (k : Nat) (hk : 70 ≤ k) (d : Nat) : ∀ (n : Nat) (lo hi : Int), 0 ≤ lo → lo ≤ hi → hi ≤ 34359738368 → hi - lo < 2 ^ d → d < n → q ≤ hi + 1 + 3 * isq hi → (∀ w, 0 ≤ w → w < lo → w + 1 + 3 * isq w < q) →
    ∃ l, quanta_least.l0 k q n lo hi = some l ∧ 0 ≤ l ∧ l ≤ hi ∧ q ≤ l + 1 + 3 * isq l ∧ ∀ w, 0 ≤ w → w < l → w + 1 + 3 * isq w < q := by
  induction d with
  | zero =>
    intro n lo hi h0 h1 h2 hd hk hh hl
    obtain ⟨n, rfl⟩ : ∃ m, n = m + 1 := ⟨n - 1, by omega⟩
    have : lo = hi := by simp at hd; omega
    subst this
    refine ⟨lo, ?_, h0, Int.le_refl _, hh, hl⟩
    rw [quanta_least.l0, ifn (by omega)]
  | succ d ih =>
    intro n lo hi h0 h1 h2 hd hn hh hl
    obtain ⟨n, rfl⟩ : ∃ m, n = m + 1 := ⟨n - 1, by omega⟩
    by_cases c : lo < hi
    · have hp : (2 : Int) ^ (d + 1) = 2 * 2 ^ d := by rw [Int.pow_succ]; omega
      have r1 := isq_small (n := (lo + hi) / 2) (by omega) (by omega)
      rw [quanta_least.l0, ifp c, wid (x := lo + hi) (by omega) (by omega), tdiv_nn (by omega), wid (x := (lo + hi) / 2) (by omega) (by omega), bnd (root_eq k ((lo + hi) / 2) (by omega) (by omega) hk)]
      rw [wid (x := (lo + hi) / 2 + 1) (by omega) (by omega), wid (x := 3 * isq ((lo + hi) / 2)) (by omega) (by omega), wid (x := (lo + hi) / 2 + 1 + 3 * isq ((lo + hi) / 2)) (by omega) (by omega)]
      by_cases c2 : (lo + hi) / 2 + 1 + 3 * isq ((lo + hi) / 2) ≥ q
      · rw [ifp c2]
        obtain ⟨l, e, l0, l1, l2, l3⟩ := ih n lo ((lo + hi) / 2) h0 (by omega) (by omega) (by omega) (by omega) c2 hl
        exact ⟨l, e, l0, by omega, l2, l3⟩
      · rw [ifn c2]
        refine ih n ((lo + hi) / 2 + 1) hi (by omega) (by omega) h2 (by omega) (by omega) hh ?_
        intro w w0 w1
        have := isq_mono w0 (show w ≤ (lo + hi) / 2 by omega) (by omega)
        omega
    · have : lo = hi := by omega
      subst this
      refine ⟨lo, ?_, h0, Int.le_refl _, hh, hl⟩
      rw [quanta_least.l0, ifn (by omega)]
/-- The least whole number w with w + 1 + 3 * root >= q. -/
theorem least_ex (k : Nat) (q : Int) (hq0 : -1152921504606846976 ≤ q) (hq : q ≤ 34359738368) (hk : 120 ≤ k) : ∃ l, quanta_least k q = some l ∧ 0 ≤ l ∧ l ≤ 34359738368 ∧ q ≤ l + 1 + 3 * isq l ∧ ∀ w, 0 ≤ w → w < l → w + 1 + 3 * isq w < q := by
  have hm2 : 0 ≤ mx 0 q ∧ q ≤ mx 0 q ∧ mx 0 q ≤ 34359738368 := by rw [mx_def]; omega
  have r := isq_small (n := mx 0 q) hm2.1 (by omega)
  obtain ⟨l, e, l0, l1, l2, l3⟩ := least_loop q hq k (by omega) 36 k 0 (mx 0 q) (by omega) hm2.1 hm2.2.2 (by show mx 0 q - 0 < 68719476736; omega) (by omega) (by omega) (fun w w0 w1 => by omega)
  refine ⟨l, ?_, l0, by omega, l2, l3⟩
  unfold quanta_least
  rw [bnd e]
/-- One more than the greatest whole number w with w - 3 * root <= q. -/
theorem most_ex (k : Nat) (q : Int) (hq0 : 0 ≤ q) (hq : q ≤ 34359738368) (hk : 71 ≤ k) : ∃ W, quanta_most k q = some (W + 1) ∧ 0 ≤ W ∧ W ≤ 34361311233 ∧ q ≤ W + 1 + 3 * isq W ∧ W - 3 * isq W ≤ q ∧ ∀ w, 0 ≤ w → w ≤ 1152921504606846976 → w - 3 * isq w ≤ q → w ≤ W := by
  obtain ⟨se, s0, _, s2, s3⟩ := isq_all (9 + 4 * q) (by omega) (by omega)
  have sb := isq_small (n := 9 + 4 * q) (by omega) (by omega)
  have s3' : 3 ≤ isq (9 + 4 * q) := by
    have : (2 : Int) < isq (9 + 4 * q) := by
      have := sq_lt (a := 3) (b := isq (9 + 4 * q) + 1) (by omega) (by omega) (by omega)
      omega
    omega
  generalize hs : isq (9 + 4 * q) = s at *
  obtain ⟨r, hr⟩ : ∃ r, r = (3 + s) / 2 := ⟨_, rfl⟩
  have hr1 : 2 * r ≤ 3 + s ∧ s + 2 ≤ 2 * r := by omega
  have hA : r * r ≤ q + 3 * r := by
    have := sq_le (a := 2 * r - 3) (b := s) (by omega) (by omega)
    have e : (2 * r - 3) * (2 * r - 3) = 4 * (r * r) - 12 * r + 9 := by grind
    omega
  have hB : q + 3 * (r + 1) < (r + 1) * (r + 1) := by
    have := sq_le (a := s + 1) (b := 2 * r - 1) (by omega) (by omega)
    have e : (2 * r - 1) * (2 * r - 1) = 4 * (r * r) - 4 * r + 1 := by grind
    have e2 : (r + 1) * (r + 1) = r * r + 2 * r + 1 := by grind
    omega
  have hrr := mul_le (a := r) (b := r) (A := 262145) (B := 262145) (by omega) (by omega) (by omega) (by omega)
  have e2 : (r + 1) * (r + 1) = r * r + 2 * r + 1 := by grind
  have hW : ∃ W, W = mn (r * r + 2 * r) (q + 3 * r) := ⟨_, rfl⟩
  obtain ⟨W, hW⟩ := hW
  have hW2 : W ≤ r * r + 2 * r ∧ W ≤ q + 3 * r ∧ (W = r * r + 2 * r ∨ W = q + 3 * r) := by rw [hW, mn_def]; omega
  have hri : isq W = r := isq_is (by omega) (by omega) (by omega) (by omega) (by omega)
  refine ⟨W, ?_, by omega, by omega, by rw [hri]; omega, by rw [hri]; omega, ?_⟩
  · unfold quanta_most
    rw [wid (x := 4 * q) (by omega) (by omega), wid (x := 9 + 4 * q) (by omega) (by omega)]
    unfold quanta_root
    rw [se k (by omega)]
    dsimp only [Option.bind_some]
    rw [wid (x := 3 + s) (by omega) (by omega), tdiv_nn (by omega), ← hr, wid (x := r) (by omega) (by omega), wid (x := r * r) (by omega) (by omega), wid (x := 2 * r) (by omega) (by omega), wid (x := 3 * r) (by omega) (by omega), wid (x := r * r + 2 * r) (by omega) (by omega), wid (x := q + 3 * r) (by omega) (by omega), ← hW, wid (by omega) (by omega)]
  · intro w w0 w1 hw
    obtain ⟨_, t0, _, t2, t3⟩ := isq_all w w0 (by omega)
    generalize isq w = t at *
    have e3 : (t + 1) * (t + 1) = t * t + 2 * t + 1 := by grind
    by_cases c : t ≤ r
    · by_cases c2 : t = r
      · subst c2; omega
      · have := sq_le (a := t + 1) (b := r) (by omega) (by omega)
        omega
    · exfalso
      have h5 := mul_le (a := r + 1) (A := t) (b := r + 1 - 3) (B := t - 3) (by omega) (by omega) (by omega) (by omega)
      have e4 : (r + 1) * (r + 1 - 3) = (r + 1) * (r + 1) - 3 * (r + 1) := by rw [Int.mul_sub]; omega
      have e5 : t * (t - 3) = t * t - 3 * t := by rw [Int.mul_sub]; omega
      omega
/-- Whole quanta, rounded up. -/
def up (m : Int) : Int := if m % 16777216 > 0 then m / 16777216 + 1 else m / 16777216
theorem bits_u64 (op : Go.BinOp) (x y : Int) : 0 ≤ Go.bits op .u64 x y ∧ Go.bits op .u64 x y ≤ 18446744073709551615 := by
  unfold Go.bits
  rw [IntKind.wrap_u64]
  omega
theorem qbelow_ex (k : Nat) (x n : Int) (hx0 : 0 ≤ x) (hx : x ≤ 18446744073709551615) (hn : 1 ≤ n) (hn' : n ≤ 4611686018427387904) : ∃ t, quanta_Below k x n = some t ∧ 0 ≤ t ∧ t < n := by
  unfold quanta_Below
  have hb := mul_le (a := x) (b := n) (A := 18446744073709551615) (B := n) hx0 hx (by omega) (Int.le_refl _)
  rw [ifn (by omega), wuid (x := n) (by omega) (by omega), bnd (mul64_eq k x n hx0 (by omega) (by omega) (by omega))]
  dsimp only
  rw [wid (by omega) (by omega)]
  exact ⟨_, rfl, by omega, by omega⟩
theorem mix_ex (k : Nat) (s n : Int) : ∃ x, quanta_Mix k s n = some x ∧ 0 ≤ x ∧ x ≤ 18446744073709551615 := by
  unfold quanta_Mix
  exact ⟨_, rfl, bits_u64 _ _ _⟩
theorem shr24 (x : Int) : shr x 24 = x / 16777216 := shr_def x 24
theorem valid_eq (k : Nat) (m : Int) (h : 0 ≤ m) (h' : m ≤ 1152921504606846976) : quanta_valid k m = some true := by
  unfold quanta_valid
  rw [ifp h, decide_eq_true h']
theorem draw_loop (k : Nat) (s n r : Int) (hr : 0 ≤ r) (hr' : r ≤ 524288) (d : Nat) : ∀ (j : Nat) (q i : Int), i + d = 4 → 1 ≤ i → -4000000 ≤ q → q ≤ 68723476736 + 600000 * i → -600000 * i ≤ q → d < j →
    ∃ t, quanta_Draw.l0 k s n r j q i = some t ∧ q - d * r ≤ t ∧ t ≤ q + d * r := by
  induction d with
  | zero =>
    intro j q i hi h1 _ _ _ hk
    obtain ⟨j, rfl⟩ : ∃ m, j = m + 1 := ⟨j - 1, by omega⟩
    refine ⟨q, ?_, by simp, by simp⟩
    rw [quanta_Draw.l0, ifn (by omega)]
  | succ d ih =>
    intro j q i hi h1 h2 h3 h4 hk
    obtain ⟨j, rfl⟩ : ∃ m, j = m + 1 := ⟨j - 1, by omega⟩
    rw [quanta_Draw.l0, ifp (by omega)]
    obtain ⟨x, ex, x0, x1⟩ := mix_ex k s (w64 (w64 (4 * n) + i))
    rw [bnd ex]
    rw [wid (x := 2 * r) (by omega) (by omega), wid (x := 2 * r + 1) (by omega) (by omega)]
    obtain ⟨t, et, t0, t1⟩ := qbelow_ex k x (2 * r + 1) x0 x1 (by omega) (by omega)
    rw [bnd et]
    clear ex et
    rw [wid (x := t - r) (by omega) (by omega), wid (x := q + (t - r)) (by omega) (by omega), wid (x := i + 1) (by omega) (by omega)]
    obtain ⟨v, ev, v0, v1⟩ := ih j (q + (t - r)) (i + 1) (by omega) (by omega) (by omega) (by omega) (by omega) (by omega)
    have : ((d + 1 : Nat) : Int) * r = d * r + r := by rw [Int.natCast_add, Int.add_mul]; simp
    exact ⟨v, ev, by omega, by omega⟩
theorem draw_ex (k : Nat) (s n m : Int) (h : 0 ≤ m) (h' : m ≤ 1152921504606846976) (hk : 80 ≤ k) : ∃ t, quanta_Draw k s n m = some (mx 0 t, 0) ∧ m / 16777216 - 3 * isq (m / 16777216) ≤ t ∧ t ≤ up m + 3 * isq (m / 16777216) := by
  have r := isq_small (n := m / 16777216) (by omega) (by omega)
  unfold quanta_Draw
  rw [bnd (valid_eq k m h h'), ifn (by decide)]
  unfold quanta_whole
  dsimp only [Option.bind_some]
  rw [shr24, bnd (root_eq k _ (by omega) (by omega) (by omega))]
  obtain ⟨x, ex, x0, x1⟩ := mix_ex k s (w64 (4 * n))
  rw [bnd ex]
  obtain ⟨b, eb, b0, b1⟩ := qbelow_ex k x 16777216 x0 x1 (by omega) (by omega)
  rw [bnd eb]
  rw [tmod_nn h]
  clear ex eb
  unfold up
  by_cases c : b < m % 16777216
  · rw [ifp c, wid (x := m / 16777216 + 1) (by omega) (by omega)]
    obtain ⟨t, et, t0, t1⟩ := draw_loop k s n (isq (m / 16777216)) r.1 r.2 3 k (m / 16777216 + 1) 1 (by omega) (by omega) (by omega) (by omega) (by omega) (by omega)
    dsimp only [Option.bind_some]
    rw [bnd et]
    exact ⟨t, rfl, by omega, by rw [if_pos (by omega)]; omega⟩
  · rw [ifn c]
    obtain ⟨t, et, t0, t1⟩ := draw_loop k s n (isq (m / 16777216)) r.1 r.2 3 k (m / 16777216) 1 (by omega) (by omega) (by omega) (by omega) (by omega) (by omega)
    dsimp only [Option.bind_some]
    rw [bnd et]
    exact ⟨t, rfl, by omega, by split <;> omega⟩
theorem size_nn (k : Nat) (a : Int) (h0 : 0 ≤ a) (h1 : a ≤ 9223372036854775807) : num_size k a = some a := by
  unfold num_size
  rw [ifn (by omega), wuid h0 (by omega)]
/-- A small product, divided. -/
theorem muldiv_small (k : Nat) (a b c : Int) (ha : 0 ≤ a) (ha' : a ≤ 4611686018427387904) (hb : 0 ≤ b) (hb' : b ≤ 4611686018427387904) (hc : 1 ≤ c) (hc' : c ≤ 4611686018427387904) (hP : a * b ≤ 9223372036854775807) :
    num_MulDiv k a b c = some (a * b / c, 0) := by
  have hP0 : 0 ≤ a * b := Int.mul_nonneg ha hb
  have hq0 : 0 ≤ a * b / c := Int.ediv_nonneg hP0 (by omega)
  have hq1 : a * b / c ≤ a * b := Int.ediv_le_self _ hP0
  have hp : num_Product k a b = some ⟨0, a * b⟩ := by
    unfold num_Product
    rw [bnd (size_nn k a ha (by omega)), bnd (size_nn k b hb (by omega)), bnd (mul64_eq k a b ha (by omega) hb (by omega))]
    dsimp only
    rw [show (decide (a < 0) != decide (b < 0)) = false by rw [decide_eq_false (by omega), decide_eq_false (by omega)]; rfl, ifn (by decide)]
    rw [Int.ediv_eq_zero_of_lt hP0 (by omega), Int.emod_eq_of_lt hP0 (by omega)]
    rfl
  have hd : bits_Div64 k 0 (a * b) c = some (a * b / c, a * b % c) := by
    unfold bits_Div64
    rw [ifn (by omega), ifn (by omega), ifp rfl, ifp (by omega)]
    rw [tdiv_nn hP0, tmod_nn hP0, wuid hq0 (by omega)]
  unfold num_MulDiv
  rw [bnd hp]
  have hw : num_Wide_Div k ⟨0, a * b⟩ c = some (a * b / c, 0) := by
    unfold num_Wide_Div
    dsimp only
    rw [ifn (by omega), ifn (by decide)]
    dsimp only [Option.bind_some]
    rw [wuid (x := 0) (by decide) (by decide), wuid (x := c) (by omega) (by omega), ifn (by omega), bnd hd]
    dsimp only
    rw [ifn (by decide)]
    dsimp only [Option.bind_some]
    rw [ifn (by omega), ifp (by decide), wid (by omega) (by omega)]
  rw [bnd hw]
theorem product_small (k : Nat) (a b : Int) (ha : 0 ≤ a) (ha' : a ≤ 4611686018427387904) (hb : 0 ≤ b) (hb' : b ≤ 4611686018427387904) (hP : a * b ≤ 9223372036854775807) : num_Product k a b = some ⟨0, a * b⟩ := by
  have hP0 : 0 ≤ a * b := Int.mul_nonneg ha hb
  unfold num_Product
  rw [bnd (size_nn k a ha (by omega)), bnd (size_nn k b hb (by omega)), bnd (mul64_eq k a b ha (by omega) hb (by omega))]
  dsimp only
  rw [show (decide (a < 0) != decide (b < 0)) = false by rw [decide_eq_false (by omega), decide_eq_false (by omega)]; rfl, ifn (by decide)]
  rw [Int.ediv_eq_zero_of_lt hP0 (by omega), Int.emod_eq_of_lt hP0 (by omega)]
  rfl
theorem div64_small (k : Nat) (P c : Int) (h0 : 0 ≤ P) (h1 : P ≤ 9223372036854775807) (hc : 1 ≤ c) (hc' : c ≤ 4611686018427387904) : bits_Div64 k 0 P c = some (P / c, P % c) := by
  have hq0 : 0 ≤ P / c := Int.ediv_nonneg h0 (by omega)
  have hq1 : P / c ≤ P := Int.ediv_le_self _ h0
  unfold bits_Div64
  rw [ifn (by omega), ifn (by omega), ifp rfl, ifp (by omega)]
  rw [tdiv_nn h0, tmod_nn h0, wuid hq0 (by omega)]
theorem wdiv_small (k : Nat) (P c : Int) (h0 : 0 ≤ P) (h1 : P ≤ 9223372036854775807) (hc : 1 ≤ c) (hc' : c ≤ 4611686018427387904) : num_Wide_Div k ⟨0, P⟩ c = some (P / c, 0) := by
  have hq0 : 0 ≤ P / c := Int.ediv_nonneg h0 (by omega)
  have hq1 : P / c ≤ P := Int.ediv_le_self _ h0
  unfold num_Wide_Div
  dsimp only
  rw [ifn (by omega), ifn (by decide)]
  dsimp only [Option.bind_some]
  rw [wuid (x := 0) (by decide) (by decide), wuid (x := c) (by omega) (by omega), ifn (by omega), bnd (div64_small k P c h0 h1 hc hc')]
  dsimp only
  rw [ifn (by decide)]
  dsimp only [Option.bind_some]
  rw [ifn (by omega), ifp (by decide), wid (by omega) (by omega)]
theorem wmod_small (k : Nat) (P c : Int) (h0 : 0 ≤ P) (h1 : P ≤ 9223372036854775807) (hc : 1 ≤ c) (hc' : c ≤ 4611686018427387904) : num_Wide_Mod k ⟨0, P⟩ c = some (P % c) := by
  have hq0 : 0 ≤ P % c := Int.emod_nonneg _ (by omega)
  have hq1 : P % c < c := Int.emod_lt_of_pos _ (by omega)
  unfold num_Wide_Mod
  dsimp only
  rw [ifn (by omega), ifn (by decide)]
  dsimp only [Option.bind_some]
  rw [wuid (x := 0) (by decide) (by decide), wuid (x := c) (by omega) (by omega), ifp (by omega), Int.zero_tmod, bnd (div64_small k P c h0 h1 hc hc')]
  dsimp only
  rw [ifn (by decide), wid (by omega) (by omega)]
theorem muldivup_small (k : Nat) (a b c : Int) (ha : 0 ≤ a) (ha' : a ≤ 4611686018427387904) (hb : 0 ≤ b) (hb' : b ≤ 4611686018427387904) (hc : 1 ≤ c) (hc' : c ≤ 4611686018427387904) (hP : a * b ≤ 4611686018427387904) :
    ∃ q, num_MulDivUp k a b c = some (q, 0) ∧ a * b ≤ q * c ∧ q * c < a * b + c ∧ 0 ≤ q ∧ q ≤ a * b := by
  have hP0 : 0 ≤ a * b := Int.mul_nonneg ha hb
  have hq0 : 0 ≤ a * b / c := Int.ediv_nonneg hP0 (by omega)
  have hq1 : a * b / c ≤ a * b := Int.ediv_le_self _ hP0
  have hm0 : 0 ≤ a * b % c := Int.emod_nonneg _ (by omega)
  have hm1 : a * b % c < c := Int.emod_lt_of_pos _ (by omega)
  have he := Int.mul_ediv_add_emod (a * b) c
  have hcomm : c * (a * b / c) = a * b / c * c := Int.mul_comm _ _
  unfold num_MulDivUp
  rw [bnd (product_small k a b ha ha' hb hb' (by omega)), bnd (wdiv_small k (a * b) c hP0 (by omega) hc hc')]
  dsimp only
  rw [ifn (by decide), bnd (wmod_small k (a * b) c hP0 (by omega) hc hc')]
  by_cases g : a * b % c = 0
  · rw [ifp g]
    exact ⟨_, rfl, by omega, by omega, hq0, hq1⟩
  · have h1 : (a * b / c + 1) * c = a * b / c * c + c := by rw [Int.add_mul, Int.one_mul]
    have h2 : a * b / c + 1 ≤ a * b := by
      rcases Int.lt_or_le (a * b / c) (a * b) with z | z
      · omega
      · have : a * b / c = a * b := by omega
        have h3 : a * b * 1 ≤ a * b * c := Int.mul_le_mul_of_nonneg_left hc hP0
        rw [this] at he
        have h4 : c * (a * b) = a * b * c := Int.mul_comm _ _
        omega
    rw [ifn g, ifn (by omega), wid (by omega) (by omega)]
    exact ⟨_, rfl, by omega, by omega, by omega, h2⟩
/-- A valid bound. -/
def Val (b : S_Bound) : Prop := (b.Unknown = true → b.Lo = 0 ∧ b.Hi = 0) ∧ -1152921504606846976 ≤ b.Lo ∧ b.Hi ≤ 1152921504606846976 ∧ b.Lo ≤ b.Hi
instance (b : S_Bound) : Decidable (Val b) := by unfold Val; infer_instance
theorem val_of {lo hi : Int} (h0 : -1152921504606846976 ≤ lo) (h1 : hi ≤ 1152921504606846976) (h : lo ≤ hi) : Val ⟨lo, hi, false⟩ := ⟨fun z => (by cases z), h0, h1, h⟩
theorem val_no : Val ⟨0, 0, true⟩ := by decide
theorem check_Light (k : Nat) (b : S_Bound) : ∃ e, bound_Check_Light k b = some e ∧ (e = 0 ↔ Val b) := by
  obtain ⟨lo, hi, u⟩ := b
  unfold bound_Check_Light Val
  dsimp only
  have tail : ∃ e, (if mn lo hi < (-1152921504606846976) then (some 4) else (if mx lo hi > 1152921504606846976 then (some 4) else (if lo > hi then (some 11) else (some 0))) : Option Int) = some e ∧ (e = 0 ↔ -1152921504606846976 ≤ lo ∧ hi ≤ 1152921504606846976 ∧ lo ≤ hi) := by
    rw [mn_def, mx_def]
    by_cases c1 : min lo hi < -1152921504606846976
    · exact ⟨4, ifp c1, by omega⟩
    · rw [ifn c1]
      by_cases c2 : max lo hi > 1152921504606846976
      · exact ⟨4, ifp c2, by omega⟩
      · rw [ifn c2]
        by_cases c3 : lo > hi
        · exact ⟨11, ifp c3, by omega⟩
        · exact ⟨0, ifn c3, by omega⟩
  obtain ⟨e, he, hv⟩ := tail
  cases u
  · rw [ifn (by decide)]
    exact ⟨e, he, hv.trans ⟨fun z => ⟨fun q => (by cases q), z⟩, fun z => z.2⟩⟩
  · rw [ifp rfl]
    by_cases c1 : lo ≠ 0
    · exact ⟨3, ifp c1, ⟨fun z => by omega, fun z => absurd (z.1 rfl).1 c1⟩⟩
    · rw [ifn c1]
      by_cases c2 : hi ≠ 0
      · exact ⟨3, ifp c2, ⟨fun z => by omega, fun z => absurd (z.1 rfl).2 c2⟩⟩
      · rw [ifn c2]
        exact ⟨e, he, hv.trans ⟨fun z => ⟨fun _ => ⟨by omega, by omega⟩, z⟩, fun z => z.2⟩⟩
theorem norm_Light (k : Nat) (b : S_Bound) : bound_Norm_Light k b = some (if Val b then b else ⟨0, 0, true⟩) := by
  obtain ⟨e, e1, e2⟩ := check_Light k b
  unfold bound_Norm_Light
  rw [bnd e1]
  by_cases c : Val b
  · rw [if_pos c, ifn (by have := e2.mpr c; omega)]
  · rw [if_neg c, ifp (show e ≠ 0 from fun z => c (e2.mp z))]; rfl
theorem of_Light (k : Nat) (lo hi : Int) : bound_Of_Light k lo hi = some (if Val ⟨lo, hi, false⟩ then ⟨lo, hi, false⟩ else ⟨0, 0, true⟩) := by
  unfold bound_Of_Light
  rw [bnd (norm_Light k _)]
theorem of_ok_Light (k : Nat) (lo hi : Int) (h0 : -1152921504606846976 ≤ lo) (h1 : hi ≤ 1152921504606846976) (h : lo ≤ hi) : bound_Of_Light k lo hi = some ⟨lo, hi, false⟩ := by
  rw [of_Light, if_pos (val_of h0 h1 h)]
theorem norm_ok_Light (k : Nat) (b : S_Bound) (h : Val b) : bound_Norm_Light k b = some b := by rw [norm_Light, if_pos h]
theorem exact_Light (k : Nat) (v : Int) (h0 : -1152921504606846976 ≤ v) (h1 : v ≤ 1152921504606846976) : bound_Exact_Light k v = some ⟨v, v, false⟩ := by
  unfold bound_Exact_Light
  rw [bnd (of_ok_Light k v v h0 h1 (Int.le_refl v))]
theorem vague_no_Light (k : Nat) (a b : S_Bound) (ha : Val a) (hb : Val b) (ua : a.Unknown = false) (ub : b.Unknown = false) : bound_vague_Light k a b = some false := by
  unfold bound_vague_Light
  rw [bnd (norm_ok_Light k a ha), ua, ifn (by decide), bnd (norm_ok_Light k b hb), ub]
theorem rd0 (a b : Int) : rd ([a, b] : List Int) 0 = a := rfl
theorem rd1 (a b : Int) : rd ([a, b] : List Int) 1 = b := rfl
theorem len2 (a b : Int) : (([a, b] : List Int).length : Int) = 2 := rfl
theorem min8 (k : Nat) (x y : Int) (hk : 20 ≤ k) : slices_Min_Light k ([] ++ [x, x] ++ [x, x] ++ [y, y] ++ [y, y]) = some (min x y) := by
  obtain ⟨k, rfl⟩ : ∃ j, k = j + 20 := ⟨k - 20, by omega⟩
  have : slices_Min_Light (k + 20) ([] ++ [x, x] ++ [x, x] ++ [y, y] ++ [y, y]) = some (mn (mn (mn (mn (mn (mn (mn x x) x) x) y) y) y) y) := by kernel_rfl
  rw [this]
  simp only [mn_def]
  congr 1
  omega
theorem max8 (k : Nat) (x y : Int) (hk : 20 ≤ k) : slices_Max_Light k ([] ++ [x, x] ++ [x, x] ++ [y, y] ++ [y, y]) = some (max x y) := by
  obtain ⟨k, rfl⟩ : ∃ j, k = j + 20 := ⟨k - 20, by omega⟩
  have : slices_Max_Light (k + 20) ([] ++ [x, x] ++ [x, x] ++ [y, y] ++ [y, y]) = some (mx (mx (mx (mx (mx (mx (mx x x) x) x) y) y) y) y) := by kernel_rfl
  rw [this]
  simp only [mx_def]
  congr 1
  omega
theorem up1 (k : Nat) (a b : Int) (ha : 0 ≤ a) (ha' : a ≤ 4611686018427387904) (hb : 0 ≤ b) (hb' : b ≤ 4611686018427387904) (hP : a * b ≤ 4611686018427387904) : num_MulDivUp k a b 1 = some (a * b, 0) := by
  obtain ⟨q, e, q1, q2, _, _⟩ := muldivup_small k a b 1 ha ha' hb hb' (by decide) (by decide) hP
  rw [e, show q = a * b by omega]
/-- A bound that isn't negative, times a number. -/
theorem scale_Light (k : Nat) (lo hi n : Int) (h0 : 0 ≤ lo) (h : lo ≤ hi) (h1 : hi ≤ 1152921504606846976) (n0 : 0 ≤ n) (n1 : n ≤ 1152921504606846976) (hP : hi * n ≤ 1152921504606846976) (hk : 20 ≤ k) :
    bound_Scale_Light k ⟨lo, hi, false⟩ n 1 = some ⟨lo * n, hi * n, false⟩ := by
  have hlo : lo * n ≤ hi * n := Int.mul_le_mul_of_nonneg_right h n0
  have hl0 : 0 ≤ lo * n := Int.mul_nonneg h0 n0
  obtain ⟨k, rfl⟩ : ∃ j, k = j + 20 := ⟨k - 20, by omega⟩
  unfold bound_Scale_Light
  rw [bnd (exact_Light _ n (by omega) n1)]
  unfold bound_Mul_Light
  rw [bnd (vague_no_Light _ ⟨lo, hi, false⟩ ⟨n, n, false⟩ (val_of (by omega) h1 h) (val_of (by omega) n1 (Int.le_refl n)) rfl rfl), ifn (by decide), ifn (by decide)]
  have d1 : ∀ K x, 0 ≤ x → x ≤ hi → bound_Mul_Light_1 K 1 x n = some (x * n, 0) := by
    intro K x x0 x1
    have hx : x * n ≤ hi * n := Int.mul_le_mul_of_nonneg_right x1 n0
    unfold bound_Mul_Light_1
    rw [bnd (muldiv_small K x n 1 x0 (by omega) n0 (by omega) (by decide) (by decide) (by omega)), Int.ediv_one]
  have d2 : ∀ K x, 0 ≤ x → x ≤ hi → bound_Mul_Light_2 K 1 x n = some (x * n, 0) := by
    intro K x x0 x1
    have hx : x * n ≤ hi * n := Int.mul_le_mul_of_nonneg_right x1 n0
    unfold bound_Mul_Light_2
    rw [bnd (up1 K x n x0 (by omega) n0 (by omega) (by omega))]
  have inner : ∀ (x53 v : Int) (l : List Int), rd ([lo, hi] : List Int) x53 = v → 0 ≤ v → v ≤ hi → l.length ≤ 20 →
      bound_corners_Light__bound_Mul_Light_1__bound_Mul_Light_2.l1 (k + 20) ⟨n, n, false⟩ 1 ⟨lo, hi, false⟩ x53 (k + 20) l 0 = some (Sum.inr (l ++ [v * n, v * n] ++ [v * n, v * n])) := by
    intro x53 v l hv v0 v1 hl
    rw [bound_corners_Light__bound_Mul_Light_1__bound_Mul_Light_2.l1]
    dsimp only
    rw [hv, rd0, len2, ifp (by decide), ifp (by decide), bnd (d1 _ v v0 v1)]
    dsimp only
    rw [bnd (d2 _ v v0 v1)]
    dsimp only
    rw [ifn (by decide), ifn (by decide), ifp (by omega), wid (by decide) (by decide), show (0 : Int) + 1 = 1 by rfl]
    rw [bound_corners_Light__bound_Mul_Light_1__bound_Mul_Light_2.l1]
    dsimp only
    rw [hv, rd1, len2, ifp (by decide), ifp (by decide), bnd (d1 _ v v0 v1)]
    dsimp only
    rw [bnd (d2 _ v v0 v1)]
    dsimp only
    rw [ifn (by decide), ifn (by decide), ifp (by simp; omega), wid (by decide) (by decide), show (1 : Int) + 1 = 2 by rfl]
    rw [bound_corners_Light__bound_Mul_Light_1__bound_Mul_Light_2.l1]
    dsimp only
    rw [len2, ifn (by decide)]
  unfold bound_corners_Light__bound_Mul_Light_1__bound_Mul_Light_2
  rw [bound_corners_Light__bound_Mul_Light_1__bound_Mul_Light_2.l0]
  dsimp only
  rw [len2, ifp (by decide), ifp (by decide), bnd (inner 0 lo [] (rd0 lo hi) h0 h (by decide))]
  dsimp only [Sum.elim_inr]
  rw [wid (by decide) (by decide), show (0 : Int) + 1 = 1 by rfl]
  rw [bound_corners_Light__bound_Mul_Light_1__bound_Mul_Light_2.l0]
  dsimp only
  rw [len2, ifp (by decide), ifp (by decide), bnd (inner 1 hi _ (rd1 lo hi) (by omega) (Int.le_refl hi) (by simp))]
  dsimp only [Sum.elim_inr]
  rw [wid (by decide) (by decide), show (1 : Int) + 1 = 2 by rfl]
  rw [bound_corners_Light__bound_Mul_Light_1__bound_Mul_Light_2.l0]
  dsimp only
  rw [len2, ifn (by decide)]
  dsimp only [Option.bind_some, Sum.elim_inr]
  rw [bnd (min8 _ (lo * n) (hi * n) (by omega)), bnd (max8 _ (lo * n) (hi * n) (by omega)), Int.min_eq_left hlo, Int.max_eq_right hlo, bnd (of_ok_Light _ _ _ (by omega) (by omega) hlo)]
  rfl
theorem check_Quanta (k : Nat) (b : S_Bound) : ∃ e, bound_Check_Quanta k b = some e ∧ (e = 0 ↔ Val b) := by
  obtain ⟨lo, hi, u⟩ := b
  unfold bound_Check_Quanta Val
  dsimp only
  have tail : ∃ e, (if mn lo hi < (-1152921504606846976) then (some 4) else (if mx lo hi > 1152921504606846976 then (some 4) else (if lo > hi then (some 11) else (some 0))) : Option Int) = some e ∧ (e = 0 ↔ -1152921504606846976 ≤ lo ∧ hi ≤ 1152921504606846976 ∧ lo ≤ hi) := by
    rw [mn_def, mx_def]
    by_cases c1 : min lo hi < -1152921504606846976
    · exact ⟨4, ifp c1, by omega⟩
    · rw [ifn c1]
      by_cases c2 : max lo hi > 1152921504606846976
      · exact ⟨4, ifp c2, by omega⟩
      · rw [ifn c2]
        by_cases c3 : lo > hi
        · exact ⟨11, ifp c3, by omega⟩
        · exact ⟨0, ifn c3, by omega⟩
  obtain ⟨e, he, hv⟩ := tail
  cases u
  · rw [ifn (by decide)]
    exact ⟨e, he, hv.trans ⟨fun z => ⟨fun q => (by cases q), z⟩, fun z => z.2⟩⟩
  · rw [ifp rfl]
    by_cases c1 : lo ≠ 0
    · exact ⟨3, ifp c1, ⟨fun z => by omega, fun z => absurd (z.1 rfl).1 c1⟩⟩
    · rw [ifn c1]
      by_cases c2 : hi ≠ 0
      · exact ⟨3, ifp c2, ⟨fun z => by omega, fun z => absurd (z.1 rfl).2 c2⟩⟩
      · rw [ifn c2]
        exact ⟨e, he, hv.trans ⟨fun z => ⟨fun _ => ⟨by omega, by omega⟩, z⟩, fun z => z.2⟩⟩
theorem norm_Quanta (k : Nat) (b : S_Bound) : bound_Norm_Quanta k b = some (if Val b then b else ⟨0, 0, true⟩) := by
  obtain ⟨e, e1, e2⟩ := check_Quanta k b
  unfold bound_Norm_Quanta
  rw [bnd e1]
  by_cases c : Val b
  · rw [if_pos c, ifn (by have := e2.mpr c; omega)]
  · rw [if_neg c, ifp (show e ≠ 0 from fun z => c (e2.mp z))]; rfl
theorem of_Quanta (k : Nat) (lo hi : Int) : bound_Of_Quanta k lo hi = some (if Val ⟨lo, hi, false⟩ then ⟨lo, hi, false⟩ else ⟨0, 0, true⟩) := by
  unfold bound_Of_Quanta
  rw [bnd (norm_Quanta k _)]
theorem of_ok_Quanta (k : Nat) (lo hi : Int) (h0 : -1152921504606846976 ≤ lo) (h1 : hi ≤ 1152921504606846976) (h : lo ≤ hi) : bound_Of_Quanta k lo hi = some ⟨lo, hi, false⟩ := by
  rw [of_Quanta, if_pos (val_of h0 h1 h)]
theorem norm_ok_Quanta (k : Nat) (b : S_Bound) (h : Val b) : bound_Norm_Quanta k b = some b := by rw [norm_Quanta, if_pos h]
theorem exact_Quanta (k : Nat) (v : Int) (h0 : -1152921504606846976 ≤ v) (h1 : v ≤ 1152921504606846976) : bound_Exact_Quanta k v = some ⟨v, v, false⟩ := by
  unfold bound_Exact_Quanta
  rw [bnd (of_ok_Quanta k v v h0 h1 (Int.le_refl v))]
theorem check_Part (k : Nat) (b : S_Bound) : ∃ e, bound_Check_Part k b = some e ∧ (e = 0 ↔ Val b) := by
  obtain ⟨lo, hi, u⟩ := b
  unfold bound_Check_Part Val
  dsimp only
  have tail : ∃ e, (if mn lo hi < (-1152921504606846976) then (some 4) else (if mx lo hi > 1152921504606846976 then (some 4) else (if lo > hi then (some 11) else (some 0))) : Option Int) = some e ∧ (e = 0 ↔ -1152921504606846976 ≤ lo ∧ hi ≤ 1152921504606846976 ∧ lo ≤ hi) := by
    rw [mn_def, mx_def]
    by_cases c1 : min lo hi < -1152921504606846976
    · exact ⟨4, ifp c1, by omega⟩
    · rw [ifn c1]
      by_cases c2 : max lo hi > 1152921504606846976
      · exact ⟨4, ifp c2, by omega⟩
      · rw [ifn c2]
        by_cases c3 : lo > hi
        · exact ⟨11, ifp c3, by omega⟩
        · exact ⟨0, ifn c3, by omega⟩
  obtain ⟨e, he, hv⟩ := tail
  cases u
  · rw [ifn (by decide)]
    exact ⟨e, he, hv.trans ⟨fun z => ⟨fun q => (by cases q), z⟩, fun z => z.2⟩⟩
  · rw [ifp rfl]
    by_cases c1 : lo ≠ 0
    · exact ⟨3, ifp c1, ⟨fun z => by omega, fun z => absurd (z.1 rfl).1 c1⟩⟩
    · rw [ifn c1]
      by_cases c2 : hi ≠ 0
      · exact ⟨3, ifp c2, ⟨fun z => by omega, fun z => absurd (z.1 rfl).2 c2⟩⟩
      · rw [ifn c2]
        exact ⟨e, he, hv.trans ⟨fun z => ⟨fun _ => ⟨by omega, by omega⟩, z⟩, fun z => z.2⟩⟩
theorem norm_Part (k : Nat) (b : S_Bound) : bound_Norm_Part k b = some (if Val b then b else ⟨0, 0, true⟩) := by
  obtain ⟨e, e1, e2⟩ := check_Part k b
  unfold bound_Norm_Part
  rw [bnd e1]
  by_cases c : Val b
  · rw [if_pos c, ifn (by have := e2.mpr c; omega)]
  · rw [if_neg c, ifp (show e ≠ 0 from fun z => c (e2.mp z))]; rfl
theorem of_Part (k : Nat) (lo hi : Int) : bound_Of_Part k lo hi = some (if Val ⟨lo, hi, false⟩ then ⟨lo, hi, false⟩ else ⟨0, 0, true⟩) := by
  unfold bound_Of_Part
  rw [bnd (norm_Part k _)]
theorem of_ok_Part (k : Nat) (lo hi : Int) (h0 : -1152921504606846976 ≤ lo) (h1 : hi ≤ 1152921504606846976) (h : lo ≤ hi) : bound_Of_Part k lo hi = some ⟨lo, hi, false⟩ := by
  rw [of_Part, if_pos (val_of h0 h1 h)]
theorem norm_ok_Part (k : Nat) (b : S_Bound) (h : Val b) : bound_Norm_Part k b = some b := by rw [norm_Part, if_pos h]
theorem exact_Part (k : Nat) (v : Int) (h0 : -1152921504606846976 ≤ v) (h1 : v ≤ 1152921504606846976) : bound_Exact_Part k v = some ⟨v, v, false⟩ := by
  unfold bound_Exact_Part
  rw [bnd (of_ok_Part k v v h0 h1 (Int.le_refl v))]
theorem below_ex (k : Nat) (x n : Int) (h1 : 1 ≤ n) (h2 : n ≤ 4611686018427387904) : ∃ v, spymake_Below k x n = some v ∧ 0 ≤ v ∧ v < n := by
  have e1 := Int.tmod_lt_of_pos x (show 0 < n by omega)
  have e2 := Int.lt_tmod_of_pos x (show 0 < n by omega)
  unfold spymake_Below
  rw [ifn (by omega), ifp (by omega)]
  by_cases c : Int.tmod x n < 0
  · rw [ifp c]
    refine ⟨_, rfl, ?_, ?_⟩ <;> rw [wid (by omega) (by omega)] <;> omega
  · rw [ifn c]
    exact ⟨_, rfl, by omega, by omega⟩
theorem idx_l0_int (l : List Int) (most : Int) (hl : AllIn l 0 most) (hb : l.length < 4611686018427387904) (k : Nat) : ∀ (d n : Nat) (i : Int), i + d = l.length → 0 ≤ i → d < n →
    slices_IndexFunc_int__sensor_outside_int_1.l0 k l most n i = some (Sum.inr ()) := by
  intro d
  induction d with
  | zero =>
    intro n i hi i0 hd
    obtain ⟨n, rfl⟩ : ∃ j, n = j + 1 := ⟨n - 1, by omega⟩
    rw [slices_IndexFunc_int__sensor_outside_int_1.l0, ifn (by omega)]
  | succ d ih =>
    intro n i hi i0 hd
    obtain ⟨n, rfl⟩ : ∃ j, n = j + 1 := ⟨n - 1, by omega⟩
    have hr := hl.rd i0 (show i < (l.length : Int) by omega)
    have hf : sensor_outside_int_1 k most (rd l i) = some false := by
      unfold sensor_outside_int_1
      rw [ifn (by omega)]
      congr 1
      exact decide_eq_false (by omega)
    rw [slices_IndexFunc_int__sensor_outside_int_1.l0, ifp (by omega), ifp i0, bnd hf, ifn (by decide), wid (by omega) (by omega)]
    exact ih n (i + 1) (by omega) (by omega) (by omega)
theorem outside_int (k : Nat) (l : List Int) (most : Int) (hl : AllIn l 0 most) (hb : l.length < 4611686018427387904) (hk : l.length < k) : sensor_outside_int k l most = some false := by
  have h1 : slices_IndexFunc_int__sensor_outside_int_1 k most l = some (-1) := by
    unfold slices_IndexFunc_int__sensor_outside_int_1
    rw [bnd (idx_l0_int l most hl hb k l.length k 0 (by omega) (by omega) hk)]
    rfl
  have h2 : slices_ContainsFunc_int__sensor_outside_int_1 k most l = some false := by
    unfold slices_ContainsFunc_int__sensor_outside_int_1
    rw [bnd h1]
    rfl
  unfold sensor_outside_int
  rw [bnd h2]
theorem idx_l0_Light (l : List Int) (most : Int) (hl : AllIn l 0 most) (hb : l.length < 4611686018427387904) (k : Nat) : ∀ (d n : Nat) (i : Int), i + d = l.length → 0 ≤ i → d < n →
    slices_IndexFunc_Light__sensor_outside_Light_1.l0 k l most n i = some (Sum.inr ()) := by
  intro d
  induction d with
  | zero =>
    intro n i hi i0 hd
    obtain ⟨n, rfl⟩ : ∃ j, n = j + 1 := ⟨n - 1, by omega⟩
    rw [slices_IndexFunc_Light__sensor_outside_Light_1.l0, ifn (by omega)]
  | succ d ih =>
    intro n i hi i0 hd
    obtain ⟨n, rfl⟩ : ∃ j, n = j + 1 := ⟨n - 1, by omega⟩
    have hr := hl.rd i0 (show i < (l.length : Int) by omega)
    have hf : sensor_outside_Light_1 k most (rd l i) = some false := by
      unfold sensor_outside_Light_1
      rw [ifn (by omega)]
      congr 1
      exact decide_eq_false (by omega)
    rw [slices_IndexFunc_Light__sensor_outside_Light_1.l0, ifp (by omega), ifp i0, bnd hf, ifn (by decide), wid (by omega) (by omega)]
    exact ih n (i + 1) (by omega) (by omega) (by omega)
theorem outside_Light (k : Nat) (l : List Int) (most : Int) (hl : AllIn l 0 most) (hb : l.length < 4611686018427387904) (hk : l.length < k) : sensor_outside_Light k l most = some false := by
  have h1 : slices_IndexFunc_Light__sensor_outside_Light_1 k most l = some (-1) := by
    unfold slices_IndexFunc_Light__sensor_outside_Light_1
    rw [bnd (idx_l0_Light l most hl hb k l.length k 0 (by omega) (by omega) hk)]
    rfl
  have h2 : slices_ContainsFunc_Light__sensor_outside_Light_1 k most l = some false := by
    unfold slices_ContainsFunc_Light__sensor_outside_Light_1
    rw [bnd h1]
    rfl
  unfold sensor_outside_Light
  rw [bnd h2]
theorem calibrated_eq (k : Nat) (h : 120 ≤ k) : spykeep3_calibrated k = some true := by
  obtain ⟨k, rfl⟩ : ∃ j, k = j + 120 := ⟨k - 120, by omega⟩
  kernel_rfl
theorem all1 {x lo hi : Int} (h0 : lo ≤ x) (h1 : x ≤ hi) : AllIn [x] lo hi := fun y hy => by
  simp only [List.mem_singleton] at hy; subst hy; exact ⟨h0, h1⟩
theorem rdone (x : Int) : rd ([x] : List Int) 0 = x := rfl
theorem sized1 (k : Nat) (D F : Int) (D0 : 0 ≤ D) (D1 : D ≤ 1073741823) (F0 : 0 ≤ F) (F1 : F ≤ 4096) (hk : 20 ≤ k) : sensor_sized k (⟨1, 1, [0], [D], [F], 1, 1, 0⟩ : S_Sensor) 1 = some 0 := by
  have hc : sensor_Check k (⟨1, 1, [0], [D], [F], 1, 1, 0⟩ : S_Sensor) = some 0 := by
    unfold sensor_Check
    dsimp only
    rw [ifn (by decide), ifn (by decide), ifn (by decide), ifn (by exact fun h => h rfl), ifn (by exact fun h => h rfl),
      bnd (outside_int k [0] 4096 (all1 (by decide) (by decide)) (by decide) (by simp; omega)), ifn (by decide),
      bnd (outside_Light k [D] 17592186044416 (all1 D0 (by omega)) (by simp) (by simp; omega)), ifn (by decide),
      bnd (outside_int k [F] 4096 (all1 F0 F1) (by simp) (by simp; omega)), ifn (by decide), ifn (by decide), ifn (by decide), ifn (by decide), ifn (by decide), ifn (by decide), ifn (by decide)]
  unfold sensor_sized
  rw [bnd hc, ifn (by decide), ifn (by exact fun h => h rfl)]
theorem expect1 (k : Nat) (D F L n : Int) (D0 : 0 ≤ D) (D1 : D ≤ 1073741823) (F0 : 0 ≤ F) (F1 : F ≤ 4096) (L0 : 0 ≤ L) (L1 : L ≤ 17592186044415) (n0 : 0 ≤ n) (n1 : n ≤ 16) (hk : 20 ≤ k) :
    sensor_Expect k (⟨1, 1, [0], [D], [F], 1, 1, 0⟩ : S_Sensor) [L] n = some ([L * F / 4096 + D * n], 0) := by
  have hLF := mul_le L0 L1 F0 F1
  have hDn := mul_le D0 D1 n0 n1
  have e1 : (([L] : List Int).length : Int) = 1 := rfl
  obtain ⟨k, rfl⟩ : ∃ j, k = j + 20 := ⟨k - 20, by omega⟩
  unfold sensor_Expect
  rw [e1, bnd (sized1 _ D F D0 D1 F0 F1 (by omega)), ifn (by decide), ifn (by omega), ifn (by omega), bnd (outside_Light _ [L] 72057594037927936 (all1 L0 (by omega)) (by simp) (by simp)), ifn (by decide), ifp (by decide), ifp (by decide)]
  rw [sensor_Expect.l0]
  dsimp only
  rw [e1, ifp (by decide), ifp (by decide), ifp (by simp), rdone, rdone, rdone, bnd (muldiv_small _ L F 4096 L0 (by omega) F0 (by omega) (by decide) (by decide) (by omega))]
  dsimp only
  rw [ifp (by simp), ifp (by simp), wid (x := D * n) (by omega) (by omega), wid (x := L * F / 4096 + D * n) (by omega) (by omega), wid (by decide) (by decide), show (0 : Int) + 1 = 1 by rfl]
  rw [sensor_Expect.l0]
  rw [e1, ifn (by decide)]
  rfl
theorem law (k : Nat) (light dark flat beats seed : Int) (hk : 300 ≤ k) : spykeep3_CalibLightsHold k light dark flat beats seed = some true := by
  unfold spykeep3_CalibLightsHold
  obtain ⟨n, h1, n0, n1⟩ := below_ex k beats 16 (by decide) (by decide)
  rw [bnd h1]
  obtain ⟨F, h2, F0, F1⟩ := below_ex k flat 4096 (by decide) (by decide)
  rw [bnd h2]
  obtain ⟨L0, L1⟩ := i64_and_in light 44 17592186044415 (by decide) (by decide)
  obtain ⟨D0, D1⟩ := i64_and_in dark 30 1073741823 (by decide) (by decide)
  generalize Go.bits .and .i64 light 17592186044415 = L at *
  generalize Go.bits .and .i64 dark 1073741823 = D at *
  rw [wid (x := F + 1) (by omega) (by omega), wid (x := n + 1) (by omega) (by omega), wid (x := F + 1 - 2) (by omega) (by omega), wid (x := F + 1 + 1) (by omega) (by omega)]
  obtain ⟨F', hF'⟩ : ∃ x, x = F + 1 := ⟨_, rfl⟩
  obtain ⟨n', hn'⟩ : ∃ x, x = n + 1 := ⟨_, rfl⟩
  rw [← hF', ← hn']
  rw [bnd (expect1 k D F' L n' D0 D1 (by omega) (by omega) L0 L1 (by omega) (by omega) (by omega))]
  dsimp only
  rw [bnd (calibrated_eq k (by omega)), ifn (by decide), ifn (by decide), ifn (by exact fun h => h rfl), ifp (by simp), rdone]
  have hLF := mul_le (a := L) (A := 17592186044415) (b := F') (B := 4096) L0 L1 (by omega) (by omega)
  have hDn := mul_le (a := D) (A := 1073741823) (b := n') (B := 16) D0 D1 (by omega) (by omega)
  -- the bounds of the response
  obtain ⟨G, hG⟩ : ∃ x, x = mx 1 (F' - 2) := ⟨_, rfl⟩
  obtain ⟨E, hE⟩ : ∃ x, x = mn 4096 (F' + 1) := ⟨_, rfl⟩
  have hG2 : 1 ≤ G ∧ G ≤ F' ∧ G ≤ 4096 := by rw [hG, mx_def]; omega
  have hE2 : F' ≤ E ∧ E ≤ 4096 ∧ 1 ≤ E := by rw [hE, mn_def]; omega
  rw [← hG, ← hE]
  have hLG : L * G ≤ L * F' := Int.mul_le_mul_of_nonneg_left hG2.2.1 L0
  have hLE : L * F' ≤ L * E := Int.mul_le_mul_of_nonneg_left hE2.1 L0
  generalize hP : L * F' = P at *
  generalize hQ : D * n' = Q at *
  have hPd : P / 4096 * 4096 ≤ P := Int.ediv_mul_le _ (by decide)
  obtain ⟨M, hM⟩ : ∃ x, x = P / 4096 + Q := ⟨_, rfl⟩
  rw [← hM]
  obtain ⟨t, ht, t0, t1⟩ := draw_ex k seed 3 M (by omega) (by omega) (by omega)
  rw [bnd ht]
  dsimp only
  have r := isq_small (n := M / 16777216) (by omega) (by omega)
  have hsm : isq (M / 16777216) ≤ 2000 := by
    obtain ⟨_, a0, _, a2, a3⟩ := isq_all (M / 16777216) (by omega) (by omega)
    have : isq (M / 16777216) < 2001 := sq_lt a0 (by omega) (by omega)
    omega
  have hup : M / 16777216 ≤ up M ∧ up M ≤ M / 16777216 + 1 := by unfold up; split <;> omega
  obtain ⟨q, hq⟩ : ∃ q, q = mx 0 t := ⟨_, rfl⟩
  have hq2 : 0 ≤ q ∧ t ≤ q ∧ (q = 0 ∨ q = t) := by rw [hq, mx_def]; omega
  rw [← hq, bnd (exact_Quanta k q (by omega) (by omega)), bnd (exact_Light k D (by omega) (by omega)), bnd (of_ok_Part k G E (by omega) (by omega) (by omega))]
  -- what the draw tells of the mean
  obtain ⟨l, el, l0, l1, l2, l3⟩ := least_ex k q (by omega) (by omega) (by omega)
  obtain ⟨W, eW, W0, W1, W2, W3, W4⟩ := most_ex k q (by omega) (by omega) (by omega)
  have hw := W4 (M / 16777216) (by omega) (by omega) (by omega)
  have hl : l ≤ M / 16777216 := by
    rcases Int.lt_or_le (M / 16777216) l with g | g
    · have := l3 (M / 16777216) (by omega) g; omega
    · exact g
  have hWs : W < 4194304 := by
    rcases Int.lt_or_le W 4194304 with g | g
    · exact g
    · obtain ⟨_, a0, _, a2, a3⟩ := isq_all W (by omega) (by omega)
      have hr : 2048 < isq W + 1 := sq_lt (by decide) (by omega) (by omega)
      have := Int.mul_le_mul_of_nonneg_right (show 2048 ≤ isq W by omega) a0
      omega
  unfold calib_Light
  rw [bnd (norm_ok_Quanta k ⟨q, q, false⟩ (val_of (by omega) (by omega) (Int.le_refl q)))]
  have hmeans : quanta_Means k ⟨q, q, false⟩ = some ⟨l, W + 1, false⟩ := by
    unfold quanta_Means
    rw [bnd (norm_ok_Quanta k ⟨q, q, false⟩ (val_of (by omega) (by omega) (Int.le_refl q)))]
    dsimp only
    rw [ifn (by decide), ifn (by omega), ifn (by omega), bnd el, bnd eW]
  rw [bnd hmeans]
  unfold bound_As_Light_Quanta
  rw [bnd (norm_ok_Quanta k ⟨l, W + 1, false⟩ (val_of (by omega) (by omega) (by omega)))]
  dsimp only [Option.bind_some]
  rw [bnd (scale_Light k l (W + 1) 16777216 l0 (by omega) (by omega) (by decide) (by decide) (by omega) (by omega))]
  rw [bnd (norm_ok_Part k ⟨G, E, false⟩ (val_of (by omega) (by omega) (by omega)))]
  dsimp only
  rw [ifn (by omega), ifn (by omega), ifn (by decide), ifn (by omega), ifn (by omega)]
  rw [bnd (scale_Light k D D n' D0 (Int.le_refl D) (by omega) (by omega) (by omega) (by omega) (by omega)), hQ]
  have hsub : bound_Sub_Light k ⟨l * 16777216, (W + 1) * 16777216, false⟩ ⟨Q, Q, false⟩ = some ⟨l * 16777216 - Q, (W + 1) * 16777216 - Q, false⟩ := by
    unfold bound_Sub_Light bound_Neg_Light
    rw [bnd (norm_ok_Light k ⟨Q, Q, false⟩ (val_of (by omega) (by omega) (Int.le_refl Q)))]
    dsimp only [Option.bind_some]
    rw [wid (x := 0 - Q) (by omega) (by omega)]
    unfold bound_Add_Light
    rw [bnd (vague_no_Light k _ _ (val_of (by omega) (by omega) (by omega)) (val_of (by omega) (by omega) (Int.le_refl _)) rfl rfl), ifn (by decide)]
    dsimp only
    rw [wid (x := l * 16777216 + (0 - Q)) (by omega) (by omega), wid (x := (W + 1) * 16777216 + (0 - Q)) (by omega) (by omega), bnd (of_ok_Light k _ _ (by omega) (by omega) (by omega))]
    rw [show l * 16777216 + (0 - Q) = l * 16777216 - Q by omega, show (W + 1) * 16777216 + (0 - Q) = (W + 1) * 16777216 - Q by omega]
    rfl
  rw [bnd hsub]
  dsimp only
  rw [ifn (by decide), ifn (by omega)]
  obtain ⟨X, hX⟩ : ∃ x, x = mx 0 (l * 16777216 - Q) := ⟨_, rfl⟩
  have hX2 : 0 ≤ X ∧ X ≤ P / 4096 := by rw [hX, mx_def]; omega
  obtain ⟨Y, hY⟩ : ∃ x, x = (W + 1) * 16777216 - Q := ⟨_, rfl⟩
  have hY2 : P / 4096 + 1 ≤ Y ∧ Y ≤ 70368744177664 := by omega
  rw [← hX, ← hY, wid (x := E * 16777216) (by omega) (by omega), wid (x := G * 16777216) (by omega) (by omega)]
  rw [bnd (muldiv_small k X 4096 (E * 16777216) (by omega) (by omega) (by decide) (by decide) (by omega) (by omega) (by omega))]
  dsimp only
  obtain ⟨hi, ehi, g1, g2, g3, g4⟩ := muldivup_small k Y 4096 (G * 16777216) (by omega) (by omega) (by decide) (by decide) (by omega) (by omega) (by omega)
  rw [bnd ehi]
  dsimp only
  obtain ⟨lo, hlo⟩ : ∃ x, x = X * 4096 / (E * 16777216) := ⟨_, rfl⟩
  rw [← hlo]
  have b0 : 0 ≤ lo := by rw [hlo]; exact Int.ediv_nonneg (by omega) (by omega)
  have b1 : lo * (E * 16777216) ≤ X * 4096 := by rw [hlo]; exact Int.ediv_mul_le _ (by omega)
  have c1 : lo * 16777216 ≤ L := by
    have h3 : E * (lo * 16777216) ≤ E * L := by
      rw [show E * (lo * 16777216) = lo * (E * 16777216) by rw [← Int.mul_assoc, Int.mul_comm E lo, Int.mul_assoc], Int.mul_comm E L]; omega
    exact Int.le_of_mul_le_mul_left h3 (by omega)
  have c2 : L ≤ hi * 16777216 := by
    have h3 : G * L ≤ G * (hi * 16777216) := by
      rw [show G * (hi * 16777216) = hi * (G * 16777216) by rw [← Int.mul_assoc, Int.mul_comm G hi, Int.mul_assoc], Int.mul_comm G L]; omega
    exact Int.le_of_mul_le_mul_left h3 (by omega)
  have c3 : hi ≤ 17179877376 := by
    have h3 : hi * 16777216 ≤ hi * (G * 16777216) := Int.mul_le_mul_of_nonneg_left (by omega) g3
    have h4 : hi * (G * 16777216) = hi * G * 16777216 := by rw [Int.mul_assoc]
    omega
  rw [bnd (of_ok_Quanta k lo hi (by omega) (by omega) (by omega))]
  dsimp only [Option.bind_some]
  rw [ifp rfl, ifp (by decide), wid (x := lo * 16777216) (by omega) (by omega), wid (x := hi * 16777216) (by omega) (by omega), ifp c1, decide_eq_true c2]
theorem law_ex (light dark flat beats seed : Int) (_ : (Lit.int .i64 light).wf = true) (_ : (Lit.int .i64 dark).wf = true) (_ : (Lit.int .i64 flat).wf = true) (_ : (Lit.int .i64 beats).wf = true) (_ : (Lit.int .u64 seed).wf = true) :
    ∃ k, spykeep3_CalibLightsHold k light dark flat beats seed = some true := ⟨300, law 300 light dark flat beats seed (by decide)⟩

end Go.Sp.Z6
