import Derived.Test.YtaddopcbneggiaaFP6
import Derived.KernelRfl
import Derived.Laws.BitsLemmas
import Derived.Laws.Bits64
import Derived.Laws.BitsAllLaws
import Derived.Laws.BitsLemmas
import Derived.Laws.Bits64
import Derived.Laws.BitsAllLaws
namespace Go.Sp.P6
open Go Go.Sp
set_option linter.unusedVariables false
theorem bnd {α β : Type} {x : Option α} {g : α → Option β} {v : α} (h : x = some v) : x.bind g = g v := by rw [h]; rfl
theorem ifp {α : Type} {c : Prop} [Decidable c] {x y : α} (h : c) : (if c then x else y) = x := if_pos h
theorem ifn {α : Type} {c : Prop} [Decidable c] {x y : α} (h : ¬ c) : (if c then x else y) = y := if_neg h
theorem rd_mem {α : Type} [Inhabited α] {l : List α} {i : Int} (h0 : 0 ≤ i) (h1 : i < (l.length : Int)) : rd l i ∈ l := by
  obtain ⟨h, e⟩ := rd_lt h0 h1
  rw [e]; exact List.getElem_mem h
theorem wid {x : Int} (h : -9223372036854775808 ≤ x) (h' : x ≤ 9223372036854775807) : w64 x = x := w64_of h h'
theorem wuid {x : Int} (h : 0 ≤ x) (h' : x ≤ 18446744073709551615) : u64 x = x := u64_of h h'
theorem mul_le {a b A B : Int} (h1 : 0 ≤ a) (h2 : a ≤ A) (h3 : 0 ≤ b) (h4 : b ≤ B) : 0 ≤ a * b ∧ a * b ≤ A * B :=
  ⟨Int.mul_nonneg h1 h3, Int.mul_le_mul h2 h4 h3 (by omega)⟩
theorem tdiv_nn {a b : Int} (h : 0 ≤ a) : Int.tdiv a b = a / b := Int.tdiv_eq_ediv_of_nonneg h
theorem tmod_nn {a b : Int} (h : 0 ≤ a) : Int.tmod a b = a % b := Int.tmod_eq_emod_of_nonneg h
def AllIn (l : List Int) (lo hi : Int) : Prop := ∀ x, x ∈ l → lo ≤ x ∧ x ≤ hi
theorem AllIn.nil {lo hi : Int} : AllIn [] lo hi := fun x h => by cases h
theorem AllIn.push {l : List Int} {lo hi x : Int} (h : AllIn l lo hi) (h0 : lo ≤ x) (h1 : x ≤ hi) : AllIn (l ++ [x]) lo hi := by
  intro y hy
  rcases List.mem_append.mp hy with hy | hy
  · exact h y hy
  · simp only [List.mem_singleton] at hy; subst hy; exact ⟨h0, h1⟩
theorem AllIn.rd {l : List Int} {lo hi i : Int} (h : AllIn l lo hi) (h0 : 0 ≤ i) (h1 : i < (l.length : Int)) : lo ≤ rd l i ∧ rd l i ≤ hi := h _ (rd_mem h0 h1)
theorem AllIn.mono {l : List Int} {lo hi lo' hi' : Int} (h : AllIn l lo hi) (h0 : lo' ≤ lo) (h1 : hi ≤ hi') : AllIn l lo' hi' := fun x hx => by have := h x hx; omega
theorem rd_set_eq (l : List Int) (i x : Int) (h0 : 0 ≤ i) (h1 : i < (l.length : Int)) : rd (l.set i.toNat x) i = x := by
  obtain ⟨h, e⟩ := rd_lt (xs := l.set i.toNat x) h0 (by simp; omega)
  rw [e]; simp
theorem rd_set_ne (l : List Int) (i j x : Int) (h0 : 0 ≤ i) (hj : 0 ≤ j) (h1 : j < (l.length : Int)) (hne : j ≠ i) : rd (l.set i.toNat x) j = rd l j := by
  obtain ⟨h, e⟩ := rd_lt (xs := l.set i.toNat x) hj (by simp; omega)
  obtain ⟨h', e'⟩ := rd_lt (xs := l) hj h1
  rw [e, e', List.getElem_set, if_neg (by omega)]
theorem rd_push_old (l : List Int) (x i : Int) (h0 : 0 ≤ i) (h1 : i < (l.length : Int)) : rd (l ++ [x]) i = rd l i := by
  obtain ⟨h, e⟩ := rd_lt (xs := l ++ [x]) h0 (by simp; omega)
  obtain ⟨h', e'⟩ := rd_lt (xs := l) h0 h1
  rw [e, e', List.getElem_append_left h']
theorem rd_push_new (l : List Int) (x i : Int) (h1 : i = (l.length : Int)) : rd (l ++ [x]) i = x := by
  obtain ⟨h, e⟩ := rd_lt (xs := l ++ [x]) (i := i) (by omega) (by simp; omega)
  rw [e, List.getElem_append_right (by omega)]
  simp
theorem u64_and32 (x : Int) (h0 : 0 ≤ x) (h1 : x < 18446744073709551616) : Go.bits .and .u64 x 4294967295 = x % 4294967296 := by
  rw [Go.u64_and x 4294967295 h0 h1 (by decide) (by decide)]
  have : x.toNat &&& (4294967295 : Int).toNat = x.toNat % 4294967296 := Nat.and_two_pow_sub_one_eq_mod x.toNat 32
  rw [this]
  omega
theorem shr32 (x : Int) : shr x 32 = x / 4294967296 := shr_def x 32
theorem mul64_eq (k : Nat) (a b : Int) (ha : 0 ≤ a) (ha' : a < 18446744073709551616) (hb : 0 ≤ b) (hb' : b < 18446744073709551616) :
    bits_Mul64 k a b = some (a * b / 18446744073709551616, a * b % 18446744073709551616) := by
  unfold bits_Mul64
  rw [u64_and32 a ha ha', u64_and32 b hb hb', shr32 a, shr32 b]
  have h1 := mul_le (a := a / 4294967296) (b := b / 4294967296) (A := 4294967295) (B := 4294967295) (by omega) (by omega) (by omega) (by omega)
  have h2 := mul_le (a := a / 4294967296) (b := b % 4294967296) (A := 4294967295) (B := 4294967295) (by omega) (by omega) (by omega) (by omega)
  have h3 := mul_le (a := a % 4294967296) (b := b / 4294967296) (A := 4294967295) (B := 4294967295) (by omega) (by omega) (by omega) (by omega)
  have h4 := mul_le (a := a % 4294967296) (b := b % 4294967296) (A := 4294967295) (B := 4294967295) (by omega) (by omega) (by omega) (by omega)
  have e : a * b = (a / 4294967296) * (b / 4294967296) * 18446744073709551616 + ((a / 4294967296) * (b % 4294967296) + (a % 4294967296) * (b / 4294967296)) * 4294967296 + (a % 4294967296) * (b % 4294967296) := by
    have ea : a = a / 4294967296 * 4294967296 + a % 4294967296 := by omega
    have eb : b = b / 4294967296 * 4294967296 + b % 4294967296 := by omega
    generalize a / 4294967296 = x1 at *
    generalize a % 4294967296 = x0 at *
    generalize b / 4294967296 = y1 at *
    generalize b % 4294967296 = y0 at *
    subst ea eb
    grind
  rw [u64_def (a * b), e]
  generalize (a / 4294967296) * (b / 4294967296) = p at *
  generalize (a / 4294967296) * (b % 4294967296) = q at *
  generalize (a % 4294967296) * (b / 4294967296) = r at *
  generalize (a % 4294967296) * (b % 4294967296) = s at *
  rw [wuid (x := s) (by omega) (by omega), wuid (x := p) (by omega) (by omega), wuid (x := q) (by omega) (by omega), wuid (x := r) (by omega) (by omega)]
  rw [shr32 s, wuid (x := q + s / 4294967296) (by omega) (by omega)]
  rw [u64_and32 (q + s / 4294967296) (by omega) (by omega), shr32 (q + s / 4294967296)]
  rw [wuid (x := p + (q + s / 4294967296) / 4294967296) (by omega) (by omega)]
  rw [wuid (x := (q + s / 4294967296) % 4294967296 + r) (by omega) (by omega), shr32]
  rw [wuid (by omega) (by omega)]
  have e1 : p + (q + s / 4294967296) / 4294967296 + ((q + s / 4294967296) % 4294967296 + r) / 4294967296 = (p * 18446744073709551616 + (q + r) * 4294967296 + s) / 18446744073709551616 := by omega
  rw [e1]
theorem i64_and_low (x : Int) (i : Nat) (hi : i ≤ 62) : Go.bits .and .i64 x ((2 ^ i - 1 : Nat) : Int) = (((x % 18446744073709551616).toNat % 2 ^ i : Nat) : Int) := by
  have hp : 2 ^ i ≤ 2 ^ 62 := Nat.pow_le_pow_right (by decide) hi
  have hpos : 0 < 2 ^ i := Nat.two_pow_pos i
  have e1 : (BitVec.ofInt 64 x).toNat = (x % 18446744073709551616).toNat := by simp [BitVec.toNat_ofInt]
  have hb : (2 ^ i - 1) % 2 ^ IntKind.i64.bits = 2 ^ i - 1 := Nat.mod_eq_of_lt (by show 2 ^ i - 1 < 2 ^ 64; omega)
  simp only [Go.bits, BitVec.ofInt_natCast, BitVec.toNat_and, BitVec.toNat_ofNat, hb]
  rw [show (BitVec.ofInt IntKind.i64.bits x).toNat = (x % 18446744073709551616).toNat from e1, Nat.and_two_pow_sub_one_eq_mod]
  have := Nat.mod_lt (x % 18446744073709551616).toNat hpos
  rw [IntKind.wrap_i64]
  omega
theorem i64_and_in (x : Int) (i : Nat) (m : Int) (hi : i ≤ 62) (hm : m = ((2 ^ i - 1 : Nat) : Int)) : 0 ≤ Go.bits .and .i64 x m ∧ Go.bits .and .i64 x m ≤ m := by
  subst hm
  rw [i64_and_low x i hi]
  have := Nat.mod_lt (x % 18446744073709551616).toNat (Nat.two_pow_pos i)
  omega
theorem sq_le {a b : Int} (h : a ≤ b) (ha : 0 ≤ a) : a * a ≤ b * b := Int.mul_le_mul h h ha (by omega)
theorem sq_lt {a b : Int} (ha : 0 ≤ a) (hb : 0 ≤ b) (h : a * a < b * b) : a < b := by
  rcases Int.lt_or_le a b with g | g
  · exact g
  · have := sq_le g hb; omega
theorem or_bit (r : Int) (j : Nat) (hr : 0 ≤ r) (hm : r % 2 ^ (j + 1) = 0) (h : r + 2 ^ j < 18446744073709551616) (hj : j ≤ 62) : Go.bits .or .u64 r (2 ^ j) = r + 2 ^ j := by
  have hp : (0 : Int) < 2 ^ j := Int.pow_pos (by decide)
  have hlt : (2 : Int) ^ j < 2 ^ (j + 1) := by rw [Int.pow_succ]; omega
  exact Go.bits_join .u64 64 (by decide) (fun n h0 h1 => by have h2 : n < 18446744073709551616 := h1; rw [IntKind.wrap_u64]; omega) (j + 1) r (2 ^ j) hr hm (by show r < 18446744073709551616; omega) (by omega) hlt (by show (2 : Int) ^ j < 18446744073709551616; omega)
theorem shr1 (x : Int) : shr x 1 = x / 2 := shr_def x 1
theorem sqrt_end (k n : Nat) (u v r : Int) (hk : 0 < n) : num_SqrtMul.l0 k u v n r 0 = some r := by
  obtain ⟨n, rfl⟩ : ∃ m, n = m + 1 := ⟨n - 1, by omega⟩
  rw [num_SqrtMul.l0, ifn (by decide)]
theorem sqrt_loop (k : Nat) (P : Int) (hP : 0 ≤ P) (hP' : P < 85070591730234615865843651857942052864) (j : Nat) : ∀ (r : Int) (n : Nat), j ≤ 62 → 0 ≤ r → r % 2 ^ (j + 1) = 0 → r + 2 ^ (j + 1) ≤ 9223372036854775808 → r * r ≤ P → P < (r + 2 ^ (j + 1)) * (r + 2 ^ (j + 1)) → j + 1 < n →
    ∃ s, num_SqrtMul.l0 k (P / 18446744073709551616) (P % 18446744073709551616) n r (2 ^ j) = some s ∧ 0 ≤ s ∧ s ≤ 9223372036854775807 ∧ s * s ≤ P ∧ P < (s + 1) * (s + 1) := by
  induction j with
  | zero =>
    intro r n _ h0 hm hb hlo hhi hk
    obtain ⟨n, rfl⟩ : ∃ m, n = m + 1 := ⟨n - 1, by omega⟩
    have hor := or_bit r 0 h0 hm (by omega) (by omega)
    have hsq := mul_le (a := r + 1) (b := r + 1) (A := 9223372036854775807) (B := 9223372036854775807) (by omega) (by omega) (by omega) (by omega)
    rw [num_SqrtMul.l0, ifp (by decide), hor, show (2 : Int) ^ 0 = 1 by rfl, bnd (mul64_eq k (r + 1) (r + 1) (by omega) (by omega) (by omega) (by omega))]
    dsimp only
    have e2 : (1 : Int) / 2 = 0 := by decide
    have hhi2 : P < (r + 2) * (r + 2) := hhi
    rw [shr1, e2, sqrt_end k n _ _ (r + 1) (by omega), sqrt_end k n _ _ r (by omega)]
    by_cases c : (r + 1) * (r + 1) ≤ P
    · refine ⟨r + 1, ?_, by omega, by omega, c, ?_⟩
      · generalize (r + 1) * (r + 1) = Q at *
        by_cases c1 : Q / 18446744073709551616 < P / 18446744073709551616
        · rw [ifp c1]
        · rw [ifn c1, ifp (by omega), ifp (by omega)]
      · rw [show r + 1 + 1 = r + 2 by omega]; exact hhi2
    · refine ⟨r, ?_, by omega, by omega, hlo, by omega⟩
      generalize (r + 1) * (r + 1) = Q at *
      rw [ifn (by omega)]
      by_cases c1 : Q / 18446744073709551616 = P / 18446744073709551616
      · rw [ifp c1, ifn (by omega)]
      · rw [ifn c1]
  | succ j ih =>
    intro r n hj h0 hm hb hlo hhi hk
    obtain ⟨n, rfl⟩ : ∃ m, n = m + 1 := ⟨n - 1, by omega⟩
    have hp : (0 : Int) < 2 ^ j := Int.pow_pos (by decide)
    have hp1 : (2 : Int) ^ (j + 1) = 2 * 2 ^ j := by rw [Int.pow_succ]; omega
    have hp2 : (2 : Int) ^ (j + 1 + 1) = 4 * 2 ^ j := by rw [Int.pow_succ, hp1]; omega
    have hor := or_bit r (j + 1) h0 hm (by omega) (by omega)
    have hm1 : r % 2 ^ (j + 1) = 0 := by
      have hd : ((2 : Int) ^ (j + 1)) ∣ 2 ^ (j + 1 + 1) := ⟨2, by rw [Int.pow_succ]⟩
      exact Int.emod_eq_zero_of_dvd (Int.dvd_trans hd (Int.dvd_of_emod_eq_zero hm))
    have hm2 : (r + 2 ^ (j + 1)) % 2 ^ (j + 1) = 0 := by rw [Int.add_emod_right]; exact hm1
    have hdiv : (2 : Int) ^ (j + 1) / 2 = 2 ^ j := by omega
    have hsq := mul_le (a := r + 2 ^ (j + 1)) (b := r + 2 ^ (j + 1)) (A := 9223372036854775807) (B := 9223372036854775807) (by omega) (by omega) (by omega) (by omega)
    rw [num_SqrtMul.l0, ifp (by omega), hor, bnd (mul64_eq k _ _ (by omega) (by omega) (by omega) (by omega))]
    dsimp only
    rw [shr1, hdiv]
    by_cases c : (r + 2 ^ (j + 1)) * (r + 2 ^ (j + 1)) ≤ P
    · obtain ⟨s, e, hs⟩ := ih (r + 2 ^ (j + 1)) n (by omega) (by omega) hm2 (by omega) c (by rw [show r + 2 ^ (j + 1) + 2 ^ (j + 1) = r + 2 ^ (j + 1 + 1) by omega]; exact hhi) (by omega)
      refine ⟨s, ?_, hs⟩
      rw [e]
      generalize (r + 2 ^ (j + 1)) * (r + 2 ^ (j + 1)) = Q at *
      by_cases c1 : Q / 18446744073709551616 < P / 18446744073709551616
      · rw [ifp c1]
      · rw [ifn c1, ifp (by omega), ifp (by omega)]
    · obtain ⟨s, e, hs⟩ := ih r n (by omega) h0 hm1 (by omega) hlo (by omega) (by omega)
      refine ⟨s, ?_, hs⟩
      rw [e]
      generalize (r + 2 ^ (j + 1)) * (r + 2 ^ (j + 1)) = Q at *
      rw [ifn (by omega)]
      by_cases c1 : Q / 18446744073709551616 = P / 18446744073709551616
      · rw [ifp c1, ifn (by omega)]
      · rw [ifn c1]
theorem sqrtmul_ex (k : Nat) (a b : Int) (ha : 0 ≤ a) (ha' : a ≤ 9223372036854775807) (hb : 0 ≤ b) (hb' : b ≤ 9223372036854775807) (hk : 70 ≤ k) :
    ∃ s, num_SqrtMul k a b = some s ∧ 0 ≤ s ∧ s ≤ 9223372036854775807 ∧ s * s ≤ a * b ∧ a * b < (s + 1) * (s + 1) := by
  have hP := mul_le ha ha' hb hb'
  obtain ⟨s, e, hs⟩ := sqrt_loop k (a * b) hP.1 (by omega) 62 0 k (by omega) (by omega) (by decide) (by decide) (by omega) (by
    show a * b < 9223372036854775808 * 9223372036854775808
    omega) (by omega)
  refine ⟨s, ?_, hs⟩
  have hp : (2 : Int) ^ 62 = 4611686018427387904 := by decide
  rw [hp] at e
  unfold num_SqrtMul
  rw [ifn (by omega), ifn (by omega), wuid ha (by omega), wuid hb (by omega), bnd (mul64_eq k a b ha (by omega) hb (by omega))]
  dsimp only
  rw [bnd e, wid (by omega) (by omega)]
/-- The square root of a number, rounded down. -/
noncomputable def isq (n : Int) : Int := (num_Sqrt 70 n).getD 0
theorem root_unique {n r s : Int} (hr : 0 ≤ r) (hs : 0 ≤ s) (h1 : r * r ≤ n) (h2 : n < (r + 1) * (r + 1)) (h3 : s * s ≤ n) (h4 : n < (s + 1) * (s + 1)) : r = s := by
  have l1 : r < s + 1 := sq_lt hr (by omega) (by omega)
  have l2 : s < r + 1 := sq_lt hs (by omega) (by omega)
  omega
theorem isq_all (n : Int) (h : 0 ≤ n) (h' : n ≤ 9223372036854775807) : (∀ k, 70 ≤ k → num_Sqrt k n = some (isq n)) ∧ 0 ≤ isq n ∧ isq n ≤ 9223372036854775807 ∧ isq n * isq n ≤ n ∧ n < (isq n + 1) * (isq n + 1) := by
  obtain ⟨s, e, h0, h1, h2, h3⟩ := sqrtmul_ex 70 n 1 h h' (by omega) (by omega) (by omega)
  rw [Int.mul_one] at h2 h3
  have hs : ∀ k, 70 ≤ k → num_Sqrt k n = some s := by
    intro k hk
    obtain ⟨s', e', g0, g1, g2, g3⟩ := sqrtmul_ex k n 1 h h' (by omega) (by omega) hk
    rw [Int.mul_one] at g2 g3
    unfold num_Sqrt
    rw [bnd e', root_unique g0 h0 g2 g3 h2 h3]
  have hi : isq n = s := by unfold isq; rw [hs 70 (Nat.le_refl _)]; rfl
  rw [hi]
  exact ⟨hs, h0, h1, h2, h3⟩
theorem isq_mono {a b : Int} (h0 : 0 ≤ a) (h : a ≤ b) (h' : b ≤ 9223372036854775807) : isq a ≤ isq b := by
  obtain ⟨_, a0, _, a2, a3⟩ := isq_all a h0 (by omega)
  obtain ⟨_, b0, _, b2, b3⟩ := isq_all b (by omega) h'
  have : isq a < isq b + 1 := sq_lt a0 (by omega) (by omega)
  omega
/-- Which number is the root. -/
theorem isq_is {n r : Int} (h0 : 0 ≤ n) (h' : n ≤ 9223372036854775807) (hr : 0 ≤ r) (h1 : r * r ≤ n) (h2 : n < (r + 1) * (r + 1)) : isq n = r := by
  obtain ⟨_, a0, _, a2, a3⟩ := isq_all n h0 h'
  exact root_unique a0 hr a2 a3 h1 h2
theorem shr8 (x : Int) : shr x 8 = x / 256 := shr_def x 8
theorem shr16 (x : Int) : shr x 16 = x / 65536 := shr_def x 16
theorem u8_eq (n : Int) : u8 n = n % 256 := u8_def n
theorem len_size : (str0.size : Int) = 256 := by decide +kernel
theorem len_tab : ∀ i : Fin 256, 0 < i.val → ∃ t ∈ [1, 2, 3, 4, 5, 6, 7, 8], bt str0 (i.val : Int) = ((t : Nat) : Int) ∧ 2 ^ (t - 1) ≤ i.val ∧ i.val < 2 ^ t := by decide +kernel
theorem len_idx (i : Int) (h0 : 1 ≤ i) (h1 : i ≤ 255) : ∃ t : Nat, bt str0 i = t ∧ 1 ≤ t ∧ t ≤ 8 ∧ (2 : Int) ^ (t - 1) ≤ i ∧ i < 2 ^ t := by
  obtain ⟨t, ht, e, l, u⟩ := len_tab ⟨i.toNat, by omega⟩ (by show 0 < i.toNat; omega)
  have ei : ((i.toNat : Nat) : Int) = i := by omega
  simp only [ei] at e
  have ht2 : 1 ≤ t ∧ t ≤ 8 := by simp at ht; omega
  refine ⟨t, e, ht2.1, ht2.2, ?_, ?_⟩
  · have : ((2 ^ (t - 1) : Nat) : Int) ≤ ((i.toNat : Nat) : Int) := Int.ofNat_le.mpr l
    rw [ei, Int.natCast_pow] at this; exact this
  · have : ((i.toNat : Nat) : Int) < ((2 ^ t : Nat) : Int) := Int.ofNat_lt.mpr u
    rw [ei, Int.natCast_pow] at this; exact this
theorem pow_shift (x i : Int) (m t : Nat) (h1 : 1 ≤ t) (hi : i = x / 2 ^ m) (hl : (2 : Int) ^ (t - 1) ≤ i) (hu : i < 2 ^ t) : (2 : Int) ^ (m + t - 1) ≤ x ∧ x < 2 ^ (m + t) := by
  have hp : (0 : Int) < 2 ^ m := Int.pow_pos (by decide)
  have e1 : (2 : Int) ^ (m + t - 1) = 2 ^ (t - 1) * 2 ^ m := by rw [show m + t - 1 = (t - 1) + m by omega, Int.pow_add]
  have e2 : (2 : Int) ^ (m + t) = 2 ^ t * 2 ^ m := by rw [show m + t = t + m by omega, Int.pow_add]
  constructor
  · rw [e1]
    exact (Int.le_ediv_iff_mul_le hp).mp (hi ▸ hl)
  · rw [e2]
    exact (Int.ediv_lt_iff_lt_mul hp).mp (hi ▸ hu)
/-- The number of bits of a number. -/
theorem len64_ex (k : Nat) (x : Int) (h0 : 1 ≤ x) (h1 : x < 18446744073709551616) : ∃ L : Nat, bits_Len64 k x = some (L : Int) ∧ 1 ≤ L ∧ L ≤ 64 ∧ (2 : Int) ^ (L - 1) ≤ x ∧ x < 2 ^ L := by
  have last : ∀ (z : Int) (n : Int), 1 ≤ z → z < 65536 → 0 ≤ n → n ≤ 56 → ∃ m t : Nat, (if z ≥ 256 then (if 0 ≤ (u8 (shr z 8)) then (if (u8 (shr z 8)) < (str0.size : Int) then (some (w64 ((w64 (n + 8)) + (w64 ((bt str0 (u8 (shr z 8)))))))) else none) else none) else (if 0 ≤ (u8 (z)) then (if (u8 (z)) < (str0.size : Int) then (some (w64 (n + (w64 ((bt str0 (u8 (z)))))))) else none) else none) : Option Int) = some (n + ((m + t : Nat) : Int)) ∧ 1 ≤ t ∧ m + t ≤ 16 ∧ (2 : Int) ^ (m + t - 1) ≤ z ∧ z < 2 ^ (m + t) := by
    intro z n z0 z1 n0 n1
    rw [len_size, shr8, u8_eq, u8_eq]
    by_cases b : z ≥ 256
    · obtain ⟨t, e, t1, t8, l, u⟩ := len_idx (z / 256 % 256) (by omega) (by omega)
      obtain ⟨p, q⟩ := pow_shift z (z / 256 % 256) 8 t t1 (by show _ = z / 256; omega) l u
      refine ⟨8, t, ?_, t1, by omega, p, q⟩
      rw [ifp b, ifp (by omega), ifp (by omega), e, wid (x := n + 8) (by omega) (by omega), wid (x := (t : Int)) (by omega) (by omega), wid (by omega) (by omega)]
      congr 1; omega
    · obtain ⟨t, e, t1, t8, l, u⟩ := len_idx (z % 256) (by omega) (by omega)
      obtain ⟨p, q⟩ := pow_shift z (z % 256) 0 t t1 (by show _ = z / 1; omega) l u
      refine ⟨0, t, ?_, t1, by omega, p, q⟩
      rw [ifn b, ifp (by omega), ifp (by omega), e, wid (x := (t : Int)) (by omega) (by omega), wid (by omega) (by omega)]
      congr 1; omega
  have key : ∀ (y : Int) (n : Int), 1 ≤ y → y < 4294967296 → 0 ≤ n → n ≤ 32 → ∃ m : Nat, (((if y ≥ 65536 then (some ((shr y 16), (w64 (n + 16)))) else (some (y, n)) : Option (Int × Int))).bind fun (z, n) => (if z ≥ 256 then (if 0 ≤ (u8 (shr z 8)) then (if (u8 (shr z 8)) < (str0.size : Int) then (some (w64 ((w64 (n + 8)) + (w64 ((bt str0 (u8 (shr z 8)))))))) else none) else none) else (if 0 ≤ (u8 (z)) then (if (u8 (z)) < (str0.size : Int) then (some (w64 (n + (w64 ((bt str0 (u8 (z)))))))) else none) else none))) = some (n + (m : Int)) ∧ 1 ≤ m ∧ m ≤ 32 ∧ (2 : Int) ^ (m - 1) ≤ y ∧ y < 2 ^ m := by
    intro y n y0 y1 n0 n1
    by_cases a : y ≥ 65536
    · rw [ifp a, shr16, wid (x := n + 16) (by omega) (by omega)]
      obtain ⟨m, t, e, t1, mt, l, u⟩ := last (y / 65536) (n + 16) (by omega) (by omega) (by omega) (by omega)
      obtain ⟨p, q⟩ := pow_shift y (y / 65536) 16 (m + t) (by omega) (by rfl) l u
      refine ⟨16 + (m + t), ?_, by omega, by omega, p, q⟩
      dsimp only [Option.bind_some]
      rw [e]; congr 1; omega
    · rw [ifn a]
      obtain ⟨m, t, e, t1, mt, l, u⟩ := last y n y0 (by omega) n0 (by omega)
      exact ⟨m + t, e, by omega, by omega, l, u⟩
  unfold bits_Len64
  by_cases c : x ≥ 4294967296
  · rw [ifp c, shr32]
    obtain ⟨m, e, m1, m2, l, u⟩ := key (x / 4294967296) 32 (by omega) (by omega) (by decide) (by decide)
    obtain ⟨p, q⟩ := pow_shift x (x / 4294967296) 32 m m1 rfl l u
    refine ⟨32 + m, ?_, by omega, by omega, p, q⟩
    dsimp only [Option.bind_some]
    refine Eq.trans e ?_
    congr 1
  · rw [ifn c]
    obtain ⟨m, e, m1, m2, l, u⟩ := key x 0 (by omega) (by omega) (by decide) (by decide)
    refine ⟨m, ?_, by omega, by omega, l, u⟩
    dsimp only [Option.bind_some]
    refine Eq.trans e ?_
    congr 1
    omega
/-- One step of the division of two words by one: what is known of a guess q of the quotient Q. -/
theorem kn (y a b u n q r Q : Int) (ha : 2147483648 ≤ a) (ha' : a < 4294967296) (hb : 0 ≤ b) (hb' : b < 4294967296) (hy : y = a * 4294967296 + b) (hu : 0 ≤ u) (hu' : u < y) (hn : 0 ≤ n) (hn' : n < 4294967296)
    (hr : 0 ≤ r) (hqr : q * a + r = u) (hQ : Q = (u * 4294967296 + n) / y) (hQq : Q ≤ q) :
    q ≤ 4294967297 ∧ 0 ≤ Q ∧ Q < 4294967296 ∧ 0 ≤ u * 4294967296 + n - Q * y ∧ u * 4294967296 + n - Q * y < y ∧ (q * b > 4294967296 * r + n ↔ Q < q) ∧ (4294967296 ≤ r → q = Q) := by
  have hypos : 0 < y := by omega
  have q1 : Q * y ≤ u * 4294967296 + n := by rw [hQ]; exact Int.ediv_mul_le _ (by omega)
  have q2 : u * 4294967296 + n < Q * y + y := by
    have := Int.lt_ediv_add_one_mul_self (u * 4294967296 + n) hypos
    rw [← hQ, Int.add_mul] at this
    omega
  have q3 : 0 ≤ Q := by rw [hQ]; exact Int.ediv_nonneg (by omega) (by omega)
  have q4 : Q < 4294967296 := by
    rcases Int.lt_or_le Q 4294967296 with g | g
    · exact g
    · have : 4294967296 * y ≤ Q * y := Int.mul_le_mul_of_nonneg_right g (by omega)
      omega
  have q5 : q ≤ 4294967297 := by
    rcases Int.lt_or_le 4294967297 q with g | g
    · have h1 : 4294967298 * a ≤ q * a := Int.mul_le_mul_of_nonneg_right (by omega) (by omega)
      omega
    · exact g
  have e : q * y = q * a * 4294967296 + q * b := by rw [hy]; grind
  have lt1 : Q < q → u * 4294967296 + n < q * y := by
    intro g
    have : (Q + 1) * y ≤ q * y := Int.mul_le_mul_of_nonneg_right (by omega) (by omega)
    rw [Int.add_mul] at this
    omega
  have lt2 : ¬ Q < q → q * y ≤ u * 4294967296 + n := by
    intro g
    have : q = Q := by omega
    rw [this]; exact q1
  refine ⟨q5, q3, q4, by omega, by omega, ⟨fun g => ?_, fun g => ?_⟩, fun g => ?_⟩
  · rcases Int.lt_or_le Q q with h | h
    · exact h
    · have := lt2 (by omega); omega
  · have := lt1 g; omega
  · rcases Int.lt_or_le Q q with h | h
    · have h1 := lt1 h
      have h2 : q * b ≤ 4294967297 * 4294967295 := Int.mul_le_mul q5 (by omega) hb (by omega)
      omega
    · omega
theorem wsub (q : Int) (h : 1 ≤ q) (h' : q ≤ 18446744073709551615) : u64 (q - 1) = q - 1 := wuid (by omega) (by omega)
/-- The test of a round: is the guess too great? -/
theorem div_flag (y a b u n q r Q : Int) (ha : 2147483648 ≤ a) (ha' : a < 4294967296) (hb : 0 ≤ b) (hb' : b < 4294967296) (hy : y = a * 4294967296 + b) (hu : 0 ≤ u) (hu' : u < y) (hn : 0 ≤ n) (hn' : n < 4294967296)
    (hr : 0 ≤ r) (hr' : r < 4294967296) (hqr : q * a + r = u) (hQ : Q = (u * 4294967296 + n) / y) (hQq : Q ≤ q) (h : ¬ q ≥ 4294967296) :
    u64 (q * b) > u64 (u64 (4294967296 * r) + n) ↔ Q < q := by
  obtain ⟨k1, k2, k3, k4, k5, k6, k7⟩ := kn y a b u n q r Q ha ha' hb hb' hy hu hu' hn hn' hr hqr hQ hQq
  have hm := mul_le (a := q) (b := b) (A := 4294967295) (B := 4294967295) (by omega) (by omega) hb (by omega)
  rw [wuid (x := q * b) (by omega) (by omega), wuid (x := 4294967296 * r) (by omega) (by omega), wuid (x := 4294967296 * r + n) (by omega) (by omega)]
  exact k6
theorem div_l0 (k : Nat) (y0 lo0 s y a b u n m Q : Int) (hY : u64 (y0 * 2 ^ (min (u64 s).toNat 64)) = y) (hM : u64 (lo0 * 2 ^ (min (u64 s).toNat 64)) = m) (hm : m / 4294967296 = n) (hya : y / 4294967296 = a) (hyb : Go.bits .and .u64 y 4294967295 = b)
    (ha : 2147483648 ≤ a) (ha' : a < 4294967296) (hb : 0 ≤ b) (hb' : b < 4294967296) (hy : y = a * 4294967296 + b) (hu : 0 ≤ u) (hu' : u < y) (hn : 0 ≤ n) (hn' : n < 4294967296)
    (hQ : Q = (u * 4294967296 + n) / y) (d : Nat) :
    ∀ (j : Nat) (q r : Int), 4294967296 ≤ r + d * 2147483648 → 0 ≤ r → r < 4294967296 → q * a + r = u → Q ≤ q → d + 1 ≤ j → bits_Div64.l0 k y0 s lo0 j q r = some Q := by
  induction d with
  | zero => intro j q r h1 h2 h3; simp at h1; omega
  | succ d ih =>
    intro j q r h1 h2 h3 hqr hQq hk
    obtain ⟨j, rfl⟩ : ∃ i, j = i + 1 := ⟨j - 1, by omega⟩
    have hk' := kn y a b u n q r Q ha ha' hb hb' hy hu hu' hn hn' h2 hqr hQ hQq
    obtain ⟨k1, k2, k3, k4, k5, k6, k7⟩ := hk'
    rw [bits_Div64.l0, hY, hM, shr32, shr32, hm, hya, hyb]
    have big : Q < q → (if u64 (r + a) ≥ 4294967296 then some (u64 (q - 1)) else bits_Div64.l0 k y0 s lo0 j (u64 (q - 1)) (u64 (r + a))) = some Q := by
      intro c
      rw [wuid (x := r + a) (by omega) (by omega), wsub q (by omega) (by omega)]
      have hqr' : (q - 1) * a + (r + a) = u := by rw [Int.sub_mul]; omega
      by_cases c2 : r + a ≥ 4294967296
      · rw [ifp c2]
        obtain ⟨_, _, _, _, _, _, k7'⟩ := kn y a b u n (q - 1) (r + a) Q ha ha' hb hb' hy hu hu' hn hn' (by omega) hqr' hQ (by omega)
        rw [k7' c2]
      · rw [ifn c2]
        exact ih j (q - 1) (r + a) (by omega) (by omega) (by omega) hqr' (by omega) (by omega)
    by_cases c : q ≥ 4294967296
    · rw [ifp c]; exact big (by omega)
    · have fl := div_flag y a b u n q r Q ha ha' hb hb' hy hu hu' hn hn' h2 h3 hqr hQ hQq c
      rw [ifn c]
      by_cases g : Q < q
      · rw [ifp (fl.mpr g)]; exact big g
      · rw [ifn (fun z => g (fl.mp z)), show q = Q by omega]
theorem div_l1 (k : Nat) (y0 lo0 s y a b u n m Q : Int) (hY : u64 (y0 * 2 ^ (min (u64 s).toNat 64)) = y) (hM : u64 (lo0 * 2 ^ (min (u64 s).toNat 64)) = m) (hm : Go.bits .and .u64 m 4294967295 = n) (hya : y / 4294967296 = a) (hyb : Go.bits .and .u64 y 4294967295 = b)
    (ha : 2147483648 ≤ a) (ha' : a < 4294967296) (hb : 0 ≤ b) (hb' : b < 4294967296) (hy : y = a * 4294967296 + b) (hu : 0 ≤ u) (hu' : u < y) (hn : 0 ≤ n) (hn' : n < 4294967296)
    (hQ : Q = (u * 4294967296 + n) / y) (d : Nat) :
    ∀ (j : Nat) (q r : Int), 4294967296 ≤ r + d * 2147483648 → 0 ≤ r → r < 4294967296 → q * a + r = u → Q ≤ q → d + 1 ≤ j → bits_Div64.l1 k y0 s lo0 j r q = some Q := by
  induction d with
  | zero => intro j q r h1 h2 h3; simp at h1; omega
  | succ d ih =>
    intro j q r h1 h2 h3 hqr hQq hk
    obtain ⟨j, rfl⟩ : ∃ i, j = i + 1 := ⟨j - 1, by omega⟩
    have hk' := kn y a b u n q r Q ha ha' hb hb' hy hu hu' hn hn' h2 hqr hQ hQq
    obtain ⟨k1, k2, k3, k4, k5, k6, k7⟩ := hk'
    rw [bits_Div64.l1, hY, hM, shr32, hm, hya, hyb]
    have big : Q < q → (if u64 (r + a) ≥ 4294967296 then some (u64 (q - 1)) else bits_Div64.l1 k y0 s lo0 j (u64 (r + a)) (u64 (q - 1))) = some Q := by
      intro c
      rw [wuid (x := r + a) (by omega) (by omega), wsub q (by omega) (by omega)]
      have hqr' : (q - 1) * a + (r + a) = u := by rw [Int.sub_mul]; omega
      by_cases c2 : r + a ≥ 4294967296
      · rw [ifp c2]
        obtain ⟨_, _, _, _, _, _, k7'⟩ := kn y a b u n (q - 1) (r + a) Q ha ha' hb hb' hy hu hu' hn hn' (by omega) hqr' hQ (by omega)
        rw [k7' c2]
      · rw [ifn c2]
        exact ih j (q - 1) (r + a) (by omega) (by omega) (by omega) hqr' (by omega) (by omega)
    by_cases c : q ≥ 4294967296
    · rw [ifp c]; exact big (by omega)
    · have fl := div_flag y a b u n q r Q ha ha' hb hb' hy hu hu' hn hn' h2 h3 hqr hQ hQq c
      rw [ifn c]
      by_cases g : Q < q
      · rw [ifp (fl.mpr g)]; exact big g
      · rw [ifn (fun z => g (fl.mp z)), show q = Q by omega]
theorem u64_join (x y : Int) (s : Nat) (hs : s ≤ 64) (hx0 : 0 ≤ x) (hx : x < 18446744073709551616) (hm : x % 2 ^ s = 0) (hy0 : 0 ≤ y) (hy : y < 2 ^ s) (hy' : y < 18446744073709551616) : Go.bits .or .u64 x y = x + y :=
  Go.bits_join .u64 64 (by decide) (fun n h0 h1 => by have h2 : n < 18446744073709551616 := h1; rw [IntKind.wrap_u64]; omega) s x y hx0 hm hx hy0 hy hy'
/-- Two words divided by one. -/
theorem div64_eq (k : Nat) (hi lo y : Int) (h0 : 0 ≤ hi) (h1 : hi < y) (l0 : 0 ≤ lo) (l1 : lo < 18446744073709551616) (hy : y < 18446744073709551616) (hk : 20 ≤ k) :
    bits_Div64 k hi lo y = some ((hi * 18446744073709551616 + lo) / y, (hi * 18446744073709551616 + lo) % y) := by
  unfold bits_Div64
  rw [ifn (by omega), ifn (by omega)]
  by_cases c : hi = 0
  · subst c
    have hd : 0 ≤ lo / y := Int.ediv_nonneg l0 (by omega)
    have hd2 : lo / y ≤ lo := Int.ediv_le_self _ l0
    rw [ifp rfl, ifp (by omega), tdiv_nn l0, tmod_nn l0, wuid hd (by omega)]
    simp
  · rw [ifn c]
    obtain ⟨L, hL, L1, L64, Ll, Lu⟩ := len64_ex k y (by omega) hy
    obtain ⟨s, hs⟩ : ∃ s : Nat, s = 64 - L := ⟨_, rfl⟩
    have hs64 : s ≤ 63 := by omega
    have hlz : bits_LeadingZeros64 k y = some (s : Int) := by
      unfold bits_LeadingZeros64
      rw [bnd hL, wid (by omega) (by omega)]
      congr 1; omega
    rw [bnd hlz]
    have hS : u64 ((s : Nat) : Int) = (s : Int) := wuid (by omega) (by omega)
    have hSm : min (u64 ((s : Nat) : Int)).toNat 64 = s := by rw [hS]; omega
    have hps : (0 : Int) < 2 ^ s := Int.pow_pos (by decide)
    have hpc : (0 : Int) < 2 ^ (64 - s) := Int.pow_pos (by decide)
    have hpp : (2 : Int) ^ s * 2 ^ (64 - s) = 18446744073709551616 := by rw [← Int.pow_add, show s + (64 - s) = 64 by omega]; rfl
    have hpl : (2 : Int) ^ (L - 1) * 2 ^ s = 9223372036854775808 := by rw [← Int.pow_add, show L - 1 + s = 63 by omega]; rfl
    have hpL : (2 : Int) ^ L * 2 ^ s = 18446744073709551616 := by rw [← Int.pow_add, show L + s = 64 by omega]; rfl
    have y1 : 9223372036854775808 ≤ y * 2 ^ s := by rw [← hpl]; exact Int.mul_le_mul_of_nonneg_right Ll (by omega)
    have y2 : y * 2 ^ s < 18446744073709551616 := by rw [← hpL]; exact Int.mul_lt_mul_of_pos_right Lu hps
    have x1 : hi * 2 ^ s + 2 ^ s ≤ y * 2 ^ s := by
      have : (hi + 1) * 2 ^ s ≤ y * 2 ^ s := Int.mul_le_mul_of_nonneg_right (by omega) (by omega)
      rw [Int.add_mul] at this; omega
    have x0 : 0 ≤ hi * 2 ^ s := Int.mul_nonneg h0 (by omega)
    have d0 : 0 ≤ lo / 2 ^ (64 - s) := Int.ediv_nonneg l0 (by omega)
    have d1 : lo / 2 ^ (64 - s) < 2 ^ s := Int.ediv_lt_of_lt_mul hpc (by rw [hpp]; exact l1)
    have hlo : lo * 2 ^ s / 18446744073709551616 = lo / 2 ^ (64 - s) := by
      rw [← hpp, Int.mul_comm (2 ^ s) (2 ^ (64 - s))]
      exact Int.mul_ediv_mul_of_pos_left _ _ hps
    have hlm := Int.mul_ediv_add_emod (lo * 2 ^ s) 18446744073709551616
    have hl0 : 0 ≤ lo * 2 ^ s := Int.mul_nonneg l0 (by omega)
    rw [hlo] at hlm
    have em : hi * 2 ^ s % 2 ^ s = 0 := Int.mul_emod_left _ _
    have hY1 : u64 (y * 2 ^ (min (u64 ((s : Nat) : Int)).toNat 64)) = y * 2 ^ s := by rw [hSm]; exact wuid (by omega) (by omega)
    have hX1 : u64 (hi * 2 ^ (min (u64 ((s : Nat) : Int)).toNat 64)) = hi * 2 ^ s := by rw [hSm]; exact wuid (by omega) (by omega)
    have hM1 : u64 (lo * 2 ^ (min (u64 ((s : Nat) : Int)).toNat 64)) = lo * 2 ^ s % 18446744073709551616 := by rw [hSm, u64_def]
    have hD1 : shr lo (min (u64 (64 - u64 ((s : Nat) : Int))).toNat 64) = lo / 2 ^ (64 - s) := by
      rw [hS, wuid (x := 64 - (s : Int)) (by omega) (by omega), shr_def]
      congr 2
      omega
    rw [hY1, hX1, hM1, hD1]
    rw [ifp (by rw [hS]; omega), ifp (by rw [hS, wuid (x := 64 - (s : Int)) (by omega) (by omega)]; omega)]
    rw [u64_join (hi * 2 ^ s) (lo / 2 ^ (64 - s)) s (by omega) x0 (by omega) em d0 d1 (by omega)]
    -- the words of the normalized numbers
    have big : (hi * 2 ^ s + lo / 2 ^ (64 - s)) * 18446744073709551616 + lo * 2 ^ s % 18446744073709551616 = (hi * 18446744073709551616 + lo) * 2 ^ s := by
      have : (hi * 18446744073709551616 + lo) * 2 ^ s = hi * 2 ^ s * 18446744073709551616 + lo * 2 ^ s := by grind
      rw [this]; omega
    have hu' : hi * 2 ^ s + lo / 2 ^ (64 - s) < y * 2 ^ s := by omega
    have m0 := Int.emod_nonneg (lo * 2 ^ s) (show (18446744073709551616 : Int) ≠ 0 by decide)
    have m1 := Int.emod_lt_of_pos (lo * 2 ^ s) (show (0 : Int) < 18446744073709551616 by decide)
    generalize hU : hi * 2 ^ s + lo / 2 ^ (64 - s) = u at *
    generalize hM : lo * 2 ^ s % 18446744073709551616 = m at *
    generalize hY : y * 2 ^ s = Y at *
    have hyb : Go.bits .and .u64 Y 4294967295 = Y % 4294967296 := u64_and32 Y (by omega) (by omega)
    have hmb : Go.bits .and .u64 m 4294967295 = m % 4294967296 := u64_and32 m (by omega) (by omega)
    rw [shr32 Y, shr32 m, hmb, ifp (by omega), tdiv_nn (by omega)]
    have hu0 : 0 ≤ u := by omega
    have ha : 2147483648 ≤ Y / 4294967296 := by omega
    have ha' : Y / 4294967296 < 4294967296 := by omega
    have hYe : Y = Y / 4294967296 * 4294967296 + Y % 4294967296 := by omega
    have qe := Int.mul_ediv_add_emod u (Y / 4294967296)
    have qm0 := Int.emod_nonneg u (show Y / 4294967296 ≠ 0 by omega)
    have qm1 := Int.emod_lt_of_pos u (show 0 < Y / 4294967296 by omega)
    have qd0 : 0 ≤ u / (Y / 4294967296) := Int.ediv_nonneg hu0 (by omega)
    have qd1 : u / (Y / 4294967296) ≤ u := Int.ediv_le_self _ hu0
    have hmul : u / (Y / 4294967296) * (Y / 4294967296) = u - u % (Y / 4294967296) := by rw [Int.mul_comm]; omega
    have hmn : 0 ≤ u / (Y / 4294967296) * (Y / 4294967296) := Int.mul_nonneg qd0 (by omega)
    have guess : ∀ (v n : Int), 0 ≤ v → v < Y → 0 ≤ n → n < 4294967296 → (v * 4294967296 + n) / Y ≤ v / (Y / 4294967296) := by
      intro v n hv hv' hn hn'
      rw [Int.le_ediv_iff_mul_le (by omega)]
      have a1 := Int.ediv_mul_le (v * 4294967296 + n) (show Y ≠ 0 by omega)
      have a2 : (v * 4294967296 + n) / Y * Y = (v * 4294967296 + n) / Y * (Y / 4294967296) * 4294967296 + (v * 4294967296 + n) / Y * (Y % 4294967296) := by
        conv => lhs; rhs; rw [hYe]
        grind
      have a3 : 0 ≤ (v * 4294967296 + n) / Y := Int.ediv_nonneg (by omega) (by omega)
      have a4 : 0 ≤ (v * 4294967296 + n) / Y * (Y % 4294967296) := Int.mul_nonneg a3 (by omega)
      omega
    have wq : u64 (u / (Y / 4294967296)) = u / (Y / 4294967296) := wuid qd0 (by omega)
    rw [wq, hmul, wuid (x := u - u % (Y / 4294967296)) (by omega) (by omega), show u - (u - u % (Y / 4294967296)) = u % (Y / 4294967296) by omega, wuid (x := u % (Y / 4294967296)) (by omega) (by omega)]
    -- the first digit
    obtain ⟨Q, hQ⟩ : ∃ Q, Q = (u * 4294967296 + m / 4294967296) / Y := ⟨_, rfl⟩
    have g1 := guess u (m / 4294967296) hu0 hu' (by omega) (by omega)
    rw [← hQ] at g1
    obtain ⟨_, k2, k3, k4, k5, _, _⟩ := kn Y (Y / 4294967296) (Y % 4294967296) u (m / 4294967296) (u / (Y / 4294967296)) (u % (Y / 4294967296)) Q ha ha' (by omega) (by omega) hYe hu0 hu' (by omega) (by omega) qm0 (by rw [hmul]; omega) hQ g1
    rw [bnd (div_l0 k y lo s Y (Y / 4294967296) (Y % 4294967296) u (m / 4294967296) m Q hY1 hM1 rfl rfl hyb ha ha' (by omega) (by omega) hYe hu0 hu' (by omega) (by omega) hQ 2 k _ _ (by omega) qm0 (by omega) (by rw [hmul]; omega) g1 (by omega))]
    -- the second digit
    obtain ⟨R, hR⟩ : ∃ R, R = u * 4294967296 + m / 4294967296 - Q * Y := ⟨_, rfl⟩
    have eR : u64 (u64 (u64 (u * 4294967296) + m / 4294967296) - u64 (Q * Y)) = R := by
      rw [hR]
      generalize Q * Y = Z at *
      simp only [u64_def]
      omega
    have hR0 : 0 ≤ R := by omega
    have hR1 : R < Y := by omega
    have rm0 := Int.emod_nonneg R (show Y / 4294967296 ≠ 0 by omega)
    have rm1 := Int.emod_lt_of_pos R (show 0 < Y / 4294967296 by omega)
    have re := Int.mul_ediv_add_emod R (Y / 4294967296)
    have rd0 : 0 ≤ R / (Y / 4294967296) := Int.ediv_nonneg hR0 (by omega)
    have rd1 : R / (Y / 4294967296) ≤ R := Int.ediv_le_self _ hR0
    have rmul : R / (Y / 4294967296) * (Y / 4294967296) = R - R % (Y / 4294967296) := by rw [Int.mul_comm]; omega
    have rmn : 0 ≤ R / (Y / 4294967296) * (Y / 4294967296) := Int.mul_nonneg rd0 (by omega)
    rw [eR, tdiv_nn hR0, wuid (x := R / (Y / 4294967296)) (by omega) (by omega), rmul, wuid (x := R - R % (Y / 4294967296)) (by omega) (by omega), show R - (R - R % (Y / 4294967296)) = R % (Y / 4294967296) by omega, wuid (x := R % (Y / 4294967296)) (by omega) (by omega)]
    have g2 := guess R (m % 4294967296) hR0 hR1 (by omega) (by omega)
    obtain ⟨P, hP⟩ : ∃ P, P = (R * 4294967296 + m % 4294967296) / Y := ⟨_, rfl⟩
    rw [← hP] at g2
    rw [bnd (div_l1 k y lo s Y (Y / 4294967296) (Y % 4294967296) R (m % 4294967296) m P hY1 hM1 hmb rfl hyb ha ha' (by omega) (by omega) hYe hR0 hR1 (by omega) (by omega) hP 2 k (R / (Y / 4294967296)) (R % (Y / 4294967296)) (by omega) rm0 (by omega) (by rw [rmul]; omega) g2 (by omega))]
    -- together
    have hYpos : 0 < Y := by omega
    have p1 := Int.mul_ediv_add_emod (R * 4294967296 + m % 4294967296) Y
    have p2 := Int.emod_nonneg (R * 4294967296 + m % 4294967296) (show Y ≠ 0 by omega)
    have p3 := Int.emod_lt_of_pos (R * 4294967296 + m % 4294967296) hYpos
    rw [← hP] at p1
    have p4 : Y * P = P * Y := Int.mul_comm _ _
    have p5 : P < 4294967296 := by
      rcases Int.lt_or_le P 4294967296 with g | g
      · exact g
      · have : 4294967296 * Y ≤ P * Y := Int.mul_le_mul_of_nonneg_right g (by omega)
        omega
    have p6 : 0 ≤ P := by rw [hP]; exact Int.ediv_nonneg (by omega) (by omega)
    have fin : u64 (u64 (u64 (R * 4294967296) + m % 4294967296) - u64 (P * Y)) = R * 4294967296 + m % 4294967296 - P * Y := by
      generalize P * Y = Z at *
      simp only [u64_def]
      omega
    rw [fin, hSm, shr_def, wuid (x := Q * 4294967296) (by omega) (by omega), wuid (x := Q * 4294967296 + P) (by omega) (by omega)]
    have tot : (hi * 18446744073709551616 + lo) * 2 ^ s = (Q * 4294967296 + P) * Y + (R * 4294967296 + m % 4294967296 - P * Y) := by
      rw [← big, Int.add_mul, Int.mul_right_comm Q 4294967296 Y]
      generalize Q * Y = Z at *
      generalize P * Y = Z2 at *
      omega
    have hq : (hi * 18446744073709551616 + lo) * 2 ^ s / Y = Q * 4294967296 + P ∧ (hi * 18446744073709551616 + lo) * 2 ^ s % Y = R * 4294967296 + m % 4294967296 - P * Y := by
      refine (Int.ediv_emod_unique hYpos).mpr ⟨?_, by omega, by omega⟩
      rw [tot, Int.mul_comm Y]; omega
    have hq1 : (hi * 18446744073709551616 + lo) / y = Q * 4294967296 + P := by
      rw [← hq.1, ← hY]
      exact (Int.mul_ediv_mul_of_pos_left _ _ hps).symm
    have hq2 : (hi * 18446744073709551616 + lo) % y = (R * 4294967296 + m % 4294967296 - P * Y) / 2 ^ s := by
      rw [← hq.2, ← hY, Int.mul_comm _ (2 ^ s), Int.mul_comm y (2 ^ s), Int.mul_emod_mul_of_pos _ _ hps]
      exact (Int.mul_ediv_cancel_left _ (by omega)).symm
    rw [hq1, hq2]
theorem size_nn (k : Nat) (a : Int) (h0 : 0 ≤ a) (h1 : a ≤ 9223372036854775807) : num_size k a = some a := by
  unfold num_size
  rw [ifn (by omega), wuid h0 (by omega)]
/-- A small product, divided. -/
theorem muldiv_small (k : Nat) (a b c : Int) (ha : 0 ≤ a) (ha' : a ≤ 4611686018427387904) (hb : 0 ≤ b) (hb' : b ≤ 4611686018427387904) (hc : 1 ≤ c) (hc' : c ≤ 4611686018427387904) (hP : a * b ≤ 9223372036854775807) :
    num_MulDiv k a b c = some (a * b / c, 0) := by
  have hP0 : 0 ≤ a * b := Int.mul_nonneg ha hb
  have hq0 : 0 ≤ a * b / c := Int.ediv_nonneg hP0 (by omega)
  have hq1 : a * b / c ≤ a * b := Int.ediv_le_self _ hP0
  have hp : num_Product k a b = some ⟨0, a * b⟩ := by
    unfold num_Product
    rw [bnd (size_nn k a ha (by omega)), bnd (size_nn k b hb (by omega)), bnd (mul64_eq k a b ha (by omega) hb (by omega))]
    dsimp only
    rw [show (decide (a < 0) != decide (b < 0)) = false by rw [decide_eq_false (by omega), decide_eq_false (by omega)]; rfl, ifn (by decide)]
    rw [Int.ediv_eq_zero_of_lt hP0 (by omega), Int.emod_eq_of_lt hP0 (by omega)]
    rfl
  have hd : bits_Div64 k 0 (a * b) c = some (a * b / c, a * b % c) := by
    unfold bits_Div64
    rw [ifn (by omega), ifn (by omega), ifp rfl, ifp (by omega)]
    rw [tdiv_nn hP0, tmod_nn hP0, wuid hq0 (by omega)]
  unfold num_MulDiv
  rw [bnd hp]
  have hw : num_Wide_Div k ⟨0, a * b⟩ c = some (a * b / c, 0) := by
    unfold num_Wide_Div
    dsimp only
    rw [ifn (by omega), ifn (by decide)]
    dsimp only [Option.bind_some]
    rw [wuid (x := 0) (by decide) (by decide), wuid (x := c) (by omega) (by omega), ifn (by omega), bnd hd]
    dsimp only
    rw [ifn (by decide)]
    dsimp only [Option.bind_some]
    rw [ifn (by omega), ifp (by decide), wid (by omega) (by omega)]
  rw [bnd hw]
theorem product_nn (k : Nat) (a b : Int) (ha : 0 ≤ a) (ha' : a ≤ 9223372036854775807) (hb : 0 ≤ b) (hb' : b ≤ 9223372036854775807) : num_Product k a b = some ⟨a * b / 18446744073709551616, a * b % 18446744073709551616⟩ := by
  have hAB := mul_le ha ha' hb hb'
  unfold num_Product
  rw [bnd (size_nn k a ha (by omega)), bnd (size_nn k b hb (by omega)), bnd (mul64_eq k a b ha (by omega) hb (by omega))]
  dsimp only
  rw [show (decide (a < 0) != decide (b < 0)) = false by rw [decide_eq_false (by omega), decide_eq_false (by omega)]; rfl, ifn (by decide), wid (by omega) (by omega)]
/-- A product that isn't negative, divided. -/
theorem muldiv_nn (k : Nat) (a b c : Int) (ha : 0 ≤ a) (ha' : a ≤ 9223372036854775807) (hb : 0 ≤ b) (hb' : b ≤ 9223372036854775807) (hc : 1 ≤ c) (hc' : c ≤ 9223372036854775807) (hlt : a * b / 18446744073709551616 < c) (hq : a * b / c ≤ 9223372036854775807) (hk : 20 ≤ k) :
    num_MulDiv k a b c = some (a * b / c, 0) := by
  have hP : 0 ≤ a * b := Int.mul_nonneg ha hb
  have hAB := mul_le ha ha' hb hb'
  have hq0 : 0 ≤ a * b / c := Int.ediv_nonneg hP (by omega)
  unfold num_MulDiv
  rw [bnd (product_nn k a b ha ha' hb hb')]
  generalize a * b = P at *
  have e : P / 18446744073709551616 * 18446744073709551616 + P % 18446744073709551616 = P := by omega
  have hw : num_Wide_Div k ⟨P / 18446744073709551616, P % 18446744073709551616⟩ c = some (P / c, 0) := by
    unfold num_Wide_Div
    dsimp only
    rw [ifn (by omega), ifn (by omega)]
    dsimp only [Option.bind_some]
    rw [wuid (x := P / 18446744073709551616) (by omega) (by omega), wuid (x := c) (by omega) (by omega), ifn (by omega), bnd (div64_eq k _ _ _ (by omega) hlt (by omega) (by omega) (by omega) hk), e]
    dsimp only
    rw [ifn (by omega)]
    dsimp only [Option.bind_some]
    rw [ifn (by omega), ifp (by omega), wid (by omega) (by omega)]
  rw [bnd hw]
/-- A place whose components are at most 2^22. -/
def In (v : S_Vec) : Prop := -4194304 ≤ v.X ∧ v.X ≤ 4194304 ∧ -4194304 ≤ v.Y ∧ v.Y ≤ 4194304 ∧ -4194304 ≤ v.Z ∧ v.Z ≤ 4194304
instance (v : S_Vec) : Decidable (In v) := by unfold In; infer_instance
theorem within_in (k : Nat) (v : S_Vec) (hk : 5 ≤ k) : sky_within k v 4194304 = some (decide (In v)) := by
  obtain ⟨k, rfl⟩ : ∃ j, k = j + 5 := ⟨k - 5, by omega⟩
  obtain ⟨x, y, z⟩ := v
  have r0 : rd [x, y, z] 0 = x := rfl
  have r1 : rd [x, y, z] 1 = y := rfl
  have r2 : rd [x, y, z] 2 = z := rfl
  have F : ¬ (-4194304 ≤ x ∧ x ≤ 4194304 ∧ -4194304 ≤ y ∧ y ≤ 4194304 ∧ -4194304 ≤ z ∧ z ≤ 4194304) → decide (In ⟨x, y, z⟩) = false := fun h => decide_eq_false h
  have T : (-4194304 ≤ x ∧ x ≤ 4194304 ∧ -4194304 ≤ y ∧ y ≤ 4194304 ∧ -4194304 ≤ z ∧ z ≤ 4194304) → decide (In ⟨x, y, z⟩) = true := fun h => decide_eq_true h
  unfold sky_within
  rw [sky_within.l0]
  dsimp only
  rw [ifp (by decide), ifp (by decide), r0, wid (x := 0 - 4194304) (by decide) (by decide), wid (x := 0 + 1) (by decide) (by decide), show (0 : Int) + 1 = 1 by rfl, show (0 : Int) - 4194304 = -4194304 by rfl]
  by_cases c1 : x < -4194304
  · rw [ifp c1]; dsimp only [Option.bind_some, Sum.elim_inl]; rw [F (by omega)]
  rw [ifn c1]
  by_cases c2 : x > 4194304
  · rw [ifp c2]; dsimp only [Option.bind_some, Sum.elim_inl]; rw [F (by omega)]
  rw [ifn c2, sky_within.l0]
  dsimp only
  rw [ifp (by decide), ifp (by decide), r1, wid (x := 0 - 4194304) (by decide) (by decide), wid (x := 1 + 1) (by decide) (by decide), show (1 : Int) + 1 = 2 by rfl, show (0 : Int) - 4194304 = -4194304 by rfl]
  by_cases c3 : y < -4194304
  · rw [ifp c3]; dsimp only [Option.bind_some, Sum.elim_inl]; rw [F (by omega)]
  rw [ifn c3]
  by_cases c4 : y > 4194304
  · rw [ifp c4]; dsimp only [Option.bind_some, Sum.elim_inl]; rw [F (by omega)]
  rw [ifn c4, sky_within.l0]
  dsimp only
  rw [ifp (by decide), ifp (by decide), r2, wid (x := 0 - 4194304) (by decide) (by decide), wid (x := 2 + 1) (by decide) (by decide), show (2 : Int) + 1 = 3 by rfl, show (0 : Int) - 4194304 = -4194304 by rfl]
  by_cases c5 : z < -4194304
  · rw [ifp c5]; dsimp only [Option.bind_some, Sum.elim_inl]; rw [F (by omega)]
  rw [ifn c5]
  by_cases c6 : z > 4194304
  · rw [ifp c6]; dsimp only [Option.bind_some, Sum.elim_inl]; rw [F (by omega)]
  rw [ifn c6, sky_within.l0]
  dsimp only
  rw [ifn (by decide)]
  dsimp only [Option.bind_some, Sum.elim_inr]
  rw [T (by omega)]
theorem mul_bd {a b A B : Int} (h1 : -A ≤ a) (h2 : a ≤ A) (h3 : -B ≤ b) (h4 : b ≤ B) : -(A * B) ≤ a * b ∧ a * b ≤ A * B := by
  have e : (a * b).natAbs = a.natAbs * b.natAbs := Int.natAbs_mul a b
  have l : a.natAbs * b.natAbs ≤ A.toNat * B.toNat := Nat.mul_le_mul (by omega) (by omega)
  have f : ((A.toNat * B.toNat : Nat) : Int) = A * B := by rw [Int.natCast_mul]; congr 1 <;> omega
  omega
theorem sq_nn (v : Int) : 0 ≤ v * v := by
  rcases Int.le_total 0 v with g | g
  · exact Int.mul_nonneg g g
  · have := Int.mul_nonneg (show 0 ≤ -v by omega) (show 0 ≤ -v by omega); rw [Int.neg_mul_neg] at this; exact this
theorem sq_le22 (v : Int) (h : -4194304 ≤ v) (h' : v ≤ 4194304) : 0 ≤ v * v ∧ v * v ≤ 17592186044416 := by
  have := mul_bd (a := v) (b := v) (A := 4194304) (B := 4194304) h h' h h'
  have := sq_nn v
  omega
/-- The root of the square of the distance. -/
noncomputable def dist (v : S_Vec) : Int := isq (v.X * v.X + v.Y * v.Y + v.Z * v.Z)
theorem dist_eq (k : Nat) (v : S_Vec) (h : In v) (hk : 70 ≤ k) : num_Sqrt k (w64 (w64 (w64 (v.X * v.X) + w64 (v.Y * v.Y)) + w64 (v.Z * v.Z))) = some (dist v) ∧ 0 ≤ dist v ∧ dist v ≤ 8388608 ∧ dist v * dist v ≤ v.X * v.X + v.Y * v.Y + v.Z * v.Z ∧ v.X * v.X + v.Y * v.Y + v.Z * v.Z < (dist v + 1) * (dist v + 1) := by
  obtain ⟨h1, h2, h3, h4, h5, h6⟩ := h
  obtain ⟨a0, a⟩ := sq_le22 v.X h1 h2
  obtain ⟨b0, b⟩ := sq_le22 v.Y h3 h4
  obtain ⟨c0, c⟩ := sq_le22 v.Z h5 h6
  unfold dist
  generalize v.X * v.X = X at *
  generalize v.Y * v.Y = Y at *
  generalize v.Z * v.Z = Z at *
  rw [wid (x := X) (by omega) (by omega), wid (x := Y) (by omega) (by omega), wid (x := Z) (by omega) (by omega), wid (x := X + Y) (by omega) (by omega), wid (x := X + Y + Z) (by omega) (by omega)]
  obtain ⟨e, r0, r1, r2, r3⟩ := isq_all (X + Y + Z) (by omega) (by omega)
  have : isq (X + Y + Z) < 8388609 := sq_lt r0 (by omega) (by omega)
  exact ⟨e k hk, r0, by omega, r2, r3⟩
/-- The size of the pull along an axis. -/
def pl (x r : Int) : Int := 9007199254740992 * (if x < 0 then -x else x) / r / (r * r)
theorem pl_bd (x r : Int) (hx : -4194304 ≤ x) (hx' : x ≤ 4194304) (hr : 65536 ≤ r) (hr' : r ≤ 8388608) : 0 ≤ pl x r ∧ pl x r ≤ 576460752303423488 := by
  unfold pl
  have m : ∃ m, m = (if x < 0 then -x else x) := ⟨_, rfl⟩
  obtain ⟨m, hm⟩ := m
  have m2 : 0 ≤ m ∧ m ≤ 4194304 := by rw [hm]; split <;> omega
  rw [← hm]
  have hrr := mul_le (a := r) (b := r) (A := 8388608) (B := 8388608) (by omega) hr' (by omega) hr'
  have h65 : 65536 * 65536 ≤ r * r := Int.mul_le_mul hr hr (by omega) (by omega)
  have q0 : 0 ≤ 9007199254740992 * m / r := Int.ediv_nonneg (by omega) (by omega)
  have q1 : 9007199254740992 * m / r ≤ 576460752303423488 := by
    apply Int.ediv_le_of_le_mul (by omega)
    have : 576460752303423488 * 65536 ≤ 576460752303423488 * r := Int.mul_le_mul_of_nonneg_left hr (by omega)
    omega
  exact ⟨Int.ediv_nonneg q0 (by omega), Int.le_trans (Int.ediv_le_self _ q0) q1⟩
theorem part_eq (k : Nat) (x r : Int) (hx : -4194304 ≤ x) (hx' : x ≤ 4194304) (hr : 65536 ≤ r) (hr' : r ≤ 8388608) (hk : 30 ≤ k) : sky_Pull_1 k r x = some (if x > 0 then -(pl x r) else pl x r) := by
  unfold sky_Pull_1
  have hb := pl_bd x r hx hx' hr hr'
  have hm : mx x (w64 (0 - x)) = if x < 0 then -x else x := by rw [wid (x := 0 - x) (by omega) (by omega), mx_def]; split <;> omega
  unfold pl at hb ⊢
  rw [hm]
  have m : ∃ m, m = (if x < 0 then -x else x) := ⟨_, rfl⟩
  obtain ⟨m, hm2⟩ := m
  have m2 : 0 ≤ m ∧ m ≤ 4194304 := by rw [hm2]; split <;> omega
  rw [← hm2] at hb ⊢
  have hrr := mul_le (a := r) (b := r) (A := 8388608) (B := 8388608) (by omega) hr' (by omega) hr'
  have h65 : 65536 * 65536 ≤ r * r := Int.mul_le_mul hr hr (by omega) (by omega)
  have q0 : 0 ≤ 9007199254740992 * m / r := Int.ediv_nonneg (by omega) (by omega)
  have q1 : 9007199254740992 * m / r ≤ 576460752303423488 := by
    apply Int.ediv_le_of_le_mul (by omega)
    have : 576460752303423488 * 65536 ≤ 576460752303423488 * r := Int.mul_le_mul_of_nonneg_left hr (by omega)
    omega
  rw [bnd (muldiv_nn k 9007199254740992 m r (by omega) (by omega) (by omega) (by omega) (by omega) (by omega) (by omega) (by omega) (by omega))]
  dsimp only
  rw [wid (x := r * r) (by omega) (by omega), ifp (by omega), tdiv_nn q0]
  rw [wid (x := 9007199254740992 * m / r / (r * r)) (by omega) (by omega)]
  by_cases c : x > 0
  · rw [ifp c, ifp c, wid (by omega) (by omega)]
    congr 1; omega
  · rw [ifn c, ifn c]
/-- What a component of the pull is. -/
noncomputable def pu (x d : Int) : Int := if d < 65536 then 0 else if x > 0 then -(pl x d) else pl x d
noncomputable def pullV (v : S_Vec) : S_Vec := ⟨pu v.X (dist v), pu v.Y (dist v), pu v.Z (dist v)⟩
theorem pull_eq (k : Nat) (v : S_Vec) (h : In v) (hk : 70 ≤ k) : sky_Pull k v = some (pullV v) := by
  unfold sky_Pull
  obtain ⟨e, d0, d1, _, _⟩ := dist_eq k v h hk
  rw [bnd (within_in k v (by omega)), ifn (by simpa using h), bnd e]
  unfold pullV pu
  by_cases c : dist v < 65536
  · rw [ifp c, if_pos c, if_pos c, if_pos c]
  · obtain ⟨h1, h2, h3, h4, h5, h6⟩ := h
    rw [ifn c, if_neg c, if_neg c, if_neg c, bnd (part_eq k v.X _ (by omega) (by omega) (by omega) (by omega) (by omega)), bnd (part_eq k v.Y _ (by omega) (by omega) (by omega) (by omega) (by omega)), bnd (part_eq k v.Z _ (by omega) (by omega) (by omega) (by omega) (by omega))]
theorem pu_bd (v : S_Vec) (c : Int) (h : In v) (hc : -4194304 ≤ c ∧ c ≤ 4194304) : -576460752303423488 ≤ pu c (dist v) ∧ pu c (dist v) ≤ 576460752303423488 := by
  obtain ⟨_, d0, d1, _, _⟩ := dist_eq 70 v h (by omega)
  unfold pu
  by_cases g : dist v < 65536
  · rw [if_pos g]; omega
  · have := pl_bd c (dist v) (by omega) (by omega) (by omega) (by omega)
    rw [if_neg g]
    split <;> omega
/-- The next place. -/
noncomputable def nxt (w h : S_Vec) : S_Vec := ⟨2 * h.X - w.X + (pullV h).X, 2 * h.Y - w.Y + (pullV h).Y, 2 * h.Z - w.Z + (pullV h).Z⟩
noncomputable def stepV (w h : S_Vec) : S_Vec × Int := if In w ∧ In h then (if In (nxt w h) then (nxt w h, 0) else (⟨0, 0, 0⟩, 18)) else (⟨0, 0, 0⟩, 4)
theorem step_eq (k : Nat) (w h : S_Vec) (hk : 80 ≤ k) : sky_Step k w h = some (stepV w h) := by
  unfold sky_Step stepV
  rw [bnd (within_in k w (by omega))]
  by_cases c1 : In w
  · rw [ifn (by simpa using c1), bnd (within_in k h (by omega))]
    by_cases c2 : In h
    · rw [ifn (by simpa using c2), if_pos ⟨c1, c2⟩, bnd (pull_eq k h c2 (by omega))]
      have px := pu_bd h h.X c2 ⟨c2.1, c2.2.1⟩
      have py := pu_bd h h.Y c2 ⟨c2.2.2.1, c2.2.2.2.1⟩
      have pz := pu_bd h h.Z c2 ⟨c2.2.2.2.2.1, c2.2.2.2.2.2⟩
      obtain ⟨h1, h2, h3, h4, h5, h6⟩ := c2
      obtain ⟨g1, g2, g3, g4, g5, g6⟩ := c1
      unfold nxt pullV
      dsimp only
      generalize pu h.X (dist h) = p at *
      generalize pu h.Y (dist h) = q at *
      generalize pu h.Z (dist h) = r at *
      rw [wid (x := 2 * h.X) (by omega) (by omega), wid (x := 2 * h.Y) (by omega) (by omega), wid (x := 2 * h.Z) (by omega) (by omega), wid (x := 2 * h.X - w.X) (by omega) (by omega), wid (x := 2 * h.Y - w.Y) (by omega) (by omega), wid (x := 2 * h.Z - w.Z) (by omega) (by omega), wid (x := 2 * h.X - w.X + p) (by omega) (by omega), wid (x := 2 * h.Y - w.Y + q) (by omega) (by omega), wid (x := 2 * h.Z - w.Z + r) (by omega) (by omega), bnd (within_in k _ (by omega))]
      by_cases c3 : In ⟨2 * h.X - w.X + p, 2 * h.Y - w.Y + q, 2 * h.Z - w.Z + r⟩
      · rw [ifn (by simpa using c3), if_pos c3]
      · rw [ifp (by simpa using c3), if_neg c3]
    · rw [ifp (by simpa using c2), if_neg (fun z => c2 z.2)]
  · rw [ifp (by simpa using c1), if_neg (fun z => c1 z.1)]
theorem step_ok {w h v : S_Vec} (e : stepV w h = (v, 0)) : In w ∧ In h ∧ In v ∧ v = nxt w h := by
  unfold stepV at e
  split at e
  · rename_i c
    split at e
    · rename_i c2
      injection e with e1 e2
      subst e1
      exact ⟨c.1, c.2, c2, rfl⟩
    · injection e with e1 e2; cases e2
  · injection e with e1 e2; cases e2
/-- A step backward undoes a step. -/
theorem step_back {w h v : S_Vec} (e : stepV w h = (v, 0)) : stepV v h = (w, 0) := by
  obtain ⟨a, b, c, d⟩ := step_ok e
  have hn : nxt v h = w := by
    rw [d]
    unfold nxt
    dsimp only
    obtain ⟨x, y, z⟩ := w
    dsimp only
    congr 1 <;> omega
  unfold stepV
  rw [if_pos ⟨c, b⟩, hn, if_pos a]
theorem pulls_eq (k : Nat) (h : 100 ≤ k) : spykeep3_pulls k = some true := by
  obtain ⟨k, rfl⟩ : ∃ j, k = j + 100 := ⟨k - 100, by omega⟩
  kernel_rfl
/-- What digits stand for, the lowest first. -/
def val : List Int → Int
  | [] => 0
  | d :: l => d + 4294967296 * val l
theorem val_append (a b : List Int) : val (a ++ b) = val a + 4294967296 ^ a.length * val b := by
  induction a with
  | nil => simp [val]
  | cons d a ih =>
    rw [List.cons_append, val, val, ih, List.length_cons, Int.pow_succ, Int.mul_add]
    have : (4294967296 : Int) * (4294967296 ^ a.length * val b) = 4294967296 ^ a.length * 4294967296 * val b := by rw [← Int.mul_assoc, Int.mul_comm 4294967296 (4294967296 ^ a.length)]
    omega
def Dig (l : List Int) : Prop := AllIn l 0 4294967295
theorem val_bd {l : List Int} (h : Dig l) : 0 ≤ val l ∧ val l < 4294967296 ^ l.length := by
  induction l with
  | nil => simp [val]
  | cons d l ih =>
    have hd := h d (by simp)
    have := ih (fun x hx => h x (by simp [hx]))
    rw [val, List.length_cons, Int.pow_succ]
    omega
theorem val_set (l : List Int) : ∀ (p : Nat) (hp : p < l.length) (x : Int), val (l.set p x) = val l + (x - l[p]) * 4294967296 ^ p := by
  induction l with
  | nil => intro p hp; simp at hp
  | cons d l ih =>
    intro p hp x
    cases p with
    | zero => simp [val]; omega
    | succ p =>
      rw [List.set_cons_succ, val, val, ih p (by simpa using hp), List.getElem_cons_succ, Int.pow_succ]
      grind
theorem val_rdset (l : List Int) (i x : Int) (h0 : 0 ≤ i) (h1 : i < (l.length : Int)) : val (l.set i.toNat x) = val l + (x - rd l i) * 4294967296 ^ i.toNat := by
  obtain ⟨h, e⟩ := rd_lt (xs := l) h0 h1
  rw [val_set l i.toNat h x, e]
theorem val_drop (l : List Int) (i : Int) (h0 : 0 ≤ i) (h1 : i < (l.length : Int)) : val (l.drop i.toNat) = rd l i + 4294967296 * val (l.drop (i + 1).toNat) := by
  obtain ⟨h, e⟩ := rd_lt (xs := l) h0 h1
  rw [List.drop_eq_getElem_cons h, val, ← e, show (i + 1).toNat = i.toNat + 1 by omega]
theorem Dig.set {l : List Int} (h : Dig l) (p : Nat) {x : Int} (h0 : 0 ≤ x) (h1 : x ≤ 4294967295) : Dig (l.set p x) := by
  intro y hy
  rcases List.mem_or_eq_of_mem_set hy with h2 | rfl
  · exact h y h2
  · exact ⟨h0, h1⟩
theorem u32_eq (n : Int) : u32 n = n % 4294967296 := by
  unfold u32 IntKind.wrap
  simp [IntKind.bits, IntKind.signed]
structure Big (x : S_Int) (n : Int) (B : Nat) : Prop where
  neg : x.neg = false
  dig : Dig x.mag
  nrm : x.mag = [] ∨ rd x.mag ((x.mag.length : Int) - 1) ≠ 0
  val : val x.mag = n
  len : x.mag.length ≤ B
theorem snoc {l : List Int} {d : Nat} (h : l.length = d + 1) : l = l.take d ++ [rd l (d : Int)] := by
  obtain ⟨h1, e⟩ := rd_lt (xs := l) (i := (d : Int)) (by omega) (by omega)
  have hd : l.drop d = [rd l (d : Int)] := by
    rw [List.drop_eq_getElem_cons (by omega), List.drop_of_length_le (by omega), e]
    rfl
  rw [← hd, List.take_append_drop]
theorem trim_l0 (k : Nat) (d : Nat) : ∀ (n : Nat) (m : List Int), m.length = d → d < n → d ≤ 1000 → Dig m → ∃ m', big_trim.l0 k n m = some m' ∧ val m' = val m ∧ Dig m' ∧ (m' = [] ∨ rd m' ((m'.length : Int) - 1) ≠ 0) ∧ m'.length ≤ d := by
  induction d with
  | zero =>
    intro n m hm hn _ hd
    obtain ⟨n, rfl⟩ : ∃ j, n = j + 1 := ⟨n - 1, by omega⟩
    rw [big_trim.l0, ifn (by omega)]
    exact ⟨m, rfl, rfl, hd, .inl (List.eq_nil_of_length_eq_zero hm), by omega⟩
  | succ d ih =>
    intro n m hm hn hb hd
    obtain ⟨n, rfl⟩ : ∃ j, n = j + 1 := ⟨n - 1, by omega⟩
    rw [big_trim.l0, ifp (by omega), wid (x := (m.length : Int) - 1) (by omega) (by omega), ifp (by omega), ifp (by omega)]
    by_cases c : rd m ((m.length : Int) - 1) = 0
    · rw [ifp c, ifp (by omega), show ((m.length : Int) - 1).toNat = d by omega]
      obtain ⟨m', e, h1, h2, h3, h4⟩ := ih n (m.take d) (by rw [List.length_take]; omega) (by omega) (by omega) (fun x hx => hd x (List.mem_of_mem_take hx))
      refine ⟨m', e, ?_, h2, h3, by omega⟩
      rw [h1]
      conv => rhs; rw [snoc hm]
      rw [val_append, show ((d : Nat) : Int) = (m.length : Int) - 1 by omega, c]
      simp [val]
    · rw [ifn c]
      exact ⟨m, rfl, rfl, hd, .inr c, by omega⟩
theorem made_ok (k : Nat) (m : List Int) (h : Dig m) (hl : m.length ≤ 1000) (hk : 1100 ≤ k) : ∃ X, big_made k false m = some X ∧ Big X (val m) m.length := by
  obtain ⟨m', e, h1, h2, h3, h4⟩ := trim_l0 k m.length k m rfl (by omega) hl h
  have ht : big_trim k m = some m' := by unfold big_trim; rw [bnd e]
  unfold big_made
  rw [bnd ht, ifn (by decide)]
  exact ⟨_, rfl, ⟨rfl, h2, h3, h1, h4⟩⟩
theorem of_ok (k : Nat) (x : Int) (h0 : 0 ≤ x) (h1 : x ≤ 9223372036854775807) (hk : 1100 ≤ k) : ∃ X, big_Of k x = some X ∧ Big X x 2 := by
  unfold big_Of
  rw [ifn (by omega), decide_eq_false (show ¬ x < 0 by omega), wuid h0 (by omega), shr32, u32_eq, u32_eq]
  obtain ⟨X, e, hX⟩ := made_ok k [x % 4294967296, x / 4294967296 % 4294967296] (by
    intro y hy
    simp only [List.mem_cons, List.not_mem_nil, or_false] at hy
    omega) (by simp) hk
  rw [bnd e]
  refine ⟨X, rfl, hX.neg, hX.dig, hX.nrm, ?_, hX.len⟩
  rw [hX.val]
  simp only [val]
  omega
theorem len_tab8 : ∀ i : Fin 256, 0 ≤ bt str0 (i.val : Int) ∧ bt str0 (i.val : Int) ≤ 8 := by decide +kernel
theorem bt8 (i : Int) (h0 : 0 ≤ i) (h1 : i < 256) : 0 ≤ bt str0 i ∧ bt str0 i ≤ 8 := by
  have := len_tab8 ⟨i.toNat, by omega⟩
  rw [show ((⟨i.toNat, by omega⟩ : Fin 256).val : Int) = i by show ((i.toNat : Nat) : Int) = i; omega] at this
  exact this
theorem len32_ex (k : Nat) (x : Int) (h0 : 0 ≤ x) (h1 : x < 4294967296) : ∃ L, bits_Len32 k x = some L ∧ 0 ≤ L ∧ L ≤ 32 := by
  have last : ∀ (z n : Int), 0 ≤ z → z < 65536 → 0 ≤ n → n ≤ 16 → ∃ L, (if z ≥ 256 then (if 0 ≤ (u8 (shr z 8)) then (if (u8 (shr z 8)) < (str0.size : Int) then (some (w64 ((w64 (n + 8)) + (w64 ((bt str0 (u8 (shr z 8)))))))) else none) else none) else (if 0 ≤ (u8 (z)) then (if (u8 (z)) < (str0.size : Int) then (some (w64 (n + (w64 ((bt str0 (u8 (z)))))))) else none) else none) : Option Int) = some L ∧ 0 ≤ L ∧ L ≤ 32 := by
    intro z n z0 z1 n0 n1
    rw [len_size, shr8, u8_eq, u8_eq]
    by_cases b : z ≥ 256
    · have := bt8 (z / 256 % 256) (by omega) (by omega)
      rw [ifp b, ifp (by omega), ifp (by omega), wid (x := n + 8) (by omega) (by omega), wid (x := bt str0 (z / 256 % 256)) (by omega) (by omega), wid (by omega) (by omega)]
      exact ⟨_, rfl, by omega, by omega⟩
    · have := bt8 (z % 256) (by omega) (by omega)
      rw [ifn b, ifp (by omega), ifp (by omega), wid (x := bt str0 (z % 256)) (by omega) (by omega), wid (by omega) (by omega)]
      exact ⟨_, rfl, by omega, by omega⟩
  unfold bits_Len32
  by_cases c : x ≥ 65536
  · rw [ifp c, shr16]
    exact last (x / 65536) 16 (by omega) (by omega) (by decide) (by decide)
  · rw [ifn c]
    exact last x 0 h0 (by omega) (by decide) (by decide)
theorem bits_ex (k : Nat) (X : S_Int) (h : Dig X.mag) (hl : X.mag.length ≤ 200) : ∃ L, big_Bits k X = some L ∧ 0 ≤ L ∧ L ≤ 6400 := by
  unfold big_Bits
  by_cases c : (X.mag.length : Int) = 0
  · rw [ifp c]; exact ⟨0, rfl, by decide, by decide⟩
  · rw [ifn c, wid (x := (X.mag.length : Int) - 1) (by omega) (by omega), ifp (by omega), ifp (by omega)]
    have hr := h.rd (i := (X.mag.length : Int) - 1) (by omega) (by omega)
    obtain ⟨L, e, L0, L1⟩ := len32_ex k _ hr.1 (by omega)
    rw [bnd e, wid (x := 32 * ((X.mag.length : Int) - 1)) (by omega) (by omega), wid (by omega) (by omega)]
    exact ⟨_, rfl, by omega, by omega⟩
theorem mul_l1 (k : Nat) (X Y : S_Int) (i : Int) (i0 : 0 ≤ i) (i1 : i < (X.mag.length : Int)) (hX : Dig X.mag) (hY : Dig Y.mag) (lX : X.mag.length ≤ 100) (lY : Y.mag.length ≤ 100) : ∀ (d n : Nat) (out : List Int) (c j : Int), j + d = (Y.mag.length : Int) → 0 ≤ j → d < n → out.length = X.mag.length + Y.mag.length → Dig out → 0 ≤ c → c < 4294967296 → (∀ p, i + Y.mag.length ≤ p → p < (out.length : Int) → rd out p = 0) →
    ∃ out' c', big_Mul.l1 k Y i X n out c j = some (out', c') ∧ out'.length = out.length ∧ Dig out' ∧ 0 ≤ c' ∧ c' < 4294967296 ∧ (∀ p, i + Y.mag.length ≤ p → p < (out'.length : Int) → rd out' p = 0) ∧
      val out' + c' * 4294967296 ^ (i + Y.mag.length).toNat = val out + c * 4294967296 ^ (i + j).toNat + rd X.mag i * val (Y.mag.drop j.toNat) * 4294967296 ^ (i + j).toNat := by
  intro d
  induction d with
  | zero =>
    intro n out c j hj j0 hn ho hd c0 c1 hz
    obtain ⟨n, rfl⟩ : ∃ m, n = m + 1 := ⟨n - 1, by omega⟩
    rw [big_Mul.l1, ifn (by omega)]
    refine ⟨out, c, rfl, rfl, hd, c0, c1, hz, ?_⟩
    rw [List.drop_of_length_le (by omega), val, show i + j = i + (Y.mag.length : Int) by omega]
    simp
  | succ d ih =>
    intro n out c j hj j0 hn ho hd c0 c1 hz
    obtain ⟨n, rfl⟩ : ∃ m, n = m + 1 := ⟨n - 1, by omega⟩
    have hx := hX.rd i0 i1
    have hy := hY.rd j0 (show j < (Y.mag.length : Int) by omega)
    have hr := hd.rd (i := i + j) (by omega) (by omega)
    have hxy := mul_le hx.1 hx.2 hy.1 hy.2
    rw [big_Mul.l1, ifp (by omega), ifp j0, wid (x := i + j) (by omega) (by omega), ifp (by omega), ifp (by omega), wuid (x := rd X.mag i) (by omega) (by omega), wuid (x := rd Y.mag j) (by omega) (by omega), wuid (x := rd out (i + j)) (by omega) (by omega), wuid (x := rd X.mag i * rd Y.mag j) (by omega) (by omega), wuid (x := rd X.mag i * rd Y.mag j + rd out (i + j)) (by omega) (by omega), wuid (x := c + (rd X.mag i * rd Y.mag j + rd out (i + j))) (by omega) (by omega), u32_eq, shr32, wid (x := j + 1) (by omega) (by omega)]
    obtain ⟨s, hs⟩ : ∃ s, s = c + (rd X.mag i * rd Y.mag j + rd out (i + j)) := ⟨_, rfl⟩
    rw [← hs]
    obtain ⟨out', c', e, g1, g2, g3, g4, g5, g6⟩ := ih n (out.set (i + j).toNat (s % 4294967296)) (s / 4294967296) (j + 1) (by omega) (by omega) (by omega) (by rw [List.length_set]; exact ho) (hd.set _ (by omega) (by omega)) (by omega) (by omega) (by
      intro p p0 p1
      rw [List.length_set] at p1
      rw [rd_set_ne _ _ _ _ (by omega) (by omega) p1 (by omega)]
      exact hz p p0 p1)
    refine ⟨out', c', e, by rw [g1, List.length_set], g2, g3, g4, g5, ?_⟩
    rw [g6, val_rdset out (i + j) _ (by omega) (by omega), val_drop Y.mag j j0 (by omega), show (i + (j + 1)).toNat = (i + j).toNat + 1 by omega, Int.pow_succ]
    have hse : s = s / 4294967296 * 4294967296 + s % 4294967296 := by omega
    generalize rd X.mag i = x at *
    generalize rd Y.mag j = y at *
    generalize rd out (i + j) = o at *
    generalize val (List.drop (j + 1).toNat Y.mag) = V at *
    generalize (4294967296 : Int) ^ (i + j).toNat = P at *
    generalize s / 4294967296 = sh at *
    generalize s % 4294967296 = sl at *
    generalize val out = vo at *
    grind
theorem mul_l0 (k : Nat) (X Y : S_Int) (hX : Dig X.mag) (hY : Dig Y.mag) (lX : X.mag.length ≤ 100) (lY : Y.mag.length ≤ 100) (hk : 200 ≤ k) : ∀ (d n : Nat) (out : List Int) (i : Int), i + d = (X.mag.length : Int) → 0 ≤ i → d < n → out.length = X.mag.length + Y.mag.length → Dig out → (∀ p, i + Y.mag.length ≤ p → p < (out.length : Int) → rd out p = 0) →
    ∃ out', big_Mul.l0 k X Y n out i = some out' ∧ out'.length = out.length ∧ Dig out' ∧ val out' = val out + val (X.mag.drop i.toNat) * val Y.mag * 4294967296 ^ i.toNat := by
  intro d
  induction d with
  | zero =>
    intro n out i hi i0 hn ho hd hz
    obtain ⟨n, rfl⟩ : ∃ m, n = m + 1 := ⟨n - 1, by omega⟩
    rw [big_Mul.l0, ifn (by omega)]
    refine ⟨out, rfl, rfl, hd, ?_⟩
    rw [List.drop_of_length_le (by omega), val]
    simp
  | succ d ih =>
    intro n out i hi i0 hn ho hd hz
    obtain ⟨n, rfl⟩ : ∃ m, n = m + 1 := ⟨n - 1, by omega⟩
    obtain ⟨o1, c1, e, g1, g2, g3, g4, g5, g6⟩ := mul_l1 k X Y i i0 (by omega) hX hY lX lY Y.mag.length k out 0 0 (by omega) (by decide) (by omega) ho hd (by decide) (by decide) hz
    rw [big_Mul.l0, ifp (by omega), ifp i0, bnd e]
    dsimp only
    rw [wid (x := i + (Y.mag.length : Int)) (by omega) (by omega), ifp (by omega), ifp (by omega), u32_eq, Int.emod_eq_of_lt g3 g4, wid (x := i + 1) (by omega) (by omega)]
    obtain ⟨out', e', f1, f2, f3⟩ := ih n (o1.set (i + (Y.mag.length : Int)).toNat c1) (i + 1) (by omega) (by omega) (by omega) (by rw [List.length_set]; omega) (g2.set _ g3 (by omega)) (by
      intro p p0 p1
      rw [List.length_set] at p1
      rw [rd_set_ne _ _ _ _ (by omega) (by omega) p1 (by omega)]
      exact g5 p (by omega) p1)
    refine ⟨out', e', by rw [f1, List.length_set, g1], f2, ?_⟩
    rw [f3, val_rdset o1 _ _ (by omega) (by omega), g5 _ (by omega) (by omega), val_drop X.mag i i0 (by omega), show (i + 1).toNat = i.toNat + 1 by omega, Int.pow_succ]
    rw [show (0 : Int).toNat = 0 from rfl, List.drop_zero, Int.add_zero] at g6
    generalize (4294967296 : Int) ^ (i + (Y.mag.length : Int)).toNat = Q at *
    generalize (4294967296 : Int) ^ i.toNat = P at *
    generalize rd X.mag i = x at *
    generalize val (List.drop (i.toNat + 1) X.mag) = V at *
    generalize val Y.mag = vy at *
    generalize val out = vo at *
    generalize val o1 = v1 at *
    grind
theorem val_zeros (n : Nat) : val (List.replicate n 0) = 0 := by
  induction n with
  | zero => rfl
  | succ n ih => rw [List.replicate_succ, val, ih]; rfl
theorem rd_zeros (n : Nat) (p : Int) (h0 : 0 ≤ p) (h1 : p < (n : Int)) : rd (List.replicate n (0 : Int)) p = 0 := by
  obtain ⟨h, e⟩ := rd_lt (xs := List.replicate n (0 : Int)) h0 (by simp; exact h1)
  rw [e]; simp
theorem times_ok (k : Nat) (X Y : S_Int) (a b : Int) (B C : Nat) (hX : Big X a B) (hY : Big Y b C) (hB : B ≤ 90) (hC : C ≤ 90) (hk : 1100 ≤ k) : ∃ Z, spykeep3_times k X Y = some Z ∧ Big Z (a * b) (B + C) := by
  have lX := hX.len
  have lY := hY.len
  obtain ⟨p, ep, p0, p1⟩ := bits_ex k X hX.dig (by omega)
  obtain ⟨q, eq, q0, q1⟩ := bits_ex k Y hY.dig (by omega)
  obtain ⟨out, eo, o1, o2, o3⟩ := mul_l0 k X Y hX.dig hY.dig (by omega) (by omega) (by omega) X.mag.length k (List.replicate ((X.mag.length : Int) + (Y.mag.length : Int)).toNat (0 : Int)) 0 (by omega) (by decide) (by omega) (by simp; omega) (fun x hx => by have := (List.mem_replicate.mp hx).2; omega) (fun p p0 p1 => by
    rw [List.length_replicate] at p1
    exact rd_zeros _ p (by omega) p1)
  rw [List.length_replicate] at o1
  rw [val_zeros, show (0 : Int).toNat = 0 from rfl, List.drop_zero, hX.val, hY.val, Int.pow_zero, Int.mul_one, Int.zero_add] at o3
  obtain ⟨Z, eZ, hZ⟩ := made_ok k out o2 (by omega) hk
  have lZ := hZ.len
  obtain ⟨r, er, r0, r1⟩ := bits_ex k Z hZ.dig (by omega)
  refine ⟨Z, ?_, hZ.neg, hZ.dig, hZ.nrm, by rw [hZ.val, o3], by omega⟩
  unfold spykeep3_times big_Mul
  rw [bnd ep, bnd eq, wid (x := p + q) (by omega) (by omega), ifn (by omega), wid (x := (X.mag.length : Int) + (Y.mag.length : Int)) (by omega) (by omega), ifp (by omega), ifp (by omega), bnd eo]
  unfold big_limited
  rw [show (X.neg != Y.neg) = false by rw [hX.neg, hY.neg]; rfl, bnd eZ, bnd er, ifn (by omega)]
  rfl
theorem compare_int (k : Nat) (x y : Int) : cmp_Compare_int k x y = some (if x < y then -1 else if x > y then 1 else 0) := by
  unfold cmp_Compare_int cmp_isNaN_int
  dsimp only [Option.bind_some]
  rw [show (x != x) = false by simp, ifn (by decide), ifn (by simp)]
  by_cases c : x < y
  · rw [ifp c, if_pos c]
  · rw [ifn c, if_neg c]
    by_cases d : x > y
    · rw [ifp d, if_pos d]
    · rw [ifn d, if_neg d]
theorem compare_u32 (k : Nat) (x y : Int) : cmp_Compare_uint32 k x y = some (if x < y then -1 else if x > y then 1 else 0) := compare_int k x y
theorem cmp_l0 (k : Nat) (a b : List Int) (ha : Dig a) (hb : Dig b) (hl : a.length = b.length) (hs : a.length ≤ 1000) : ∀ (d n : Nat), d ≤ a.length → d < n → ∃ r, big_cmpMag.l0 k a b n ((d : Int) - 1) = some r ∧
    (r = Sum.inr () → val (a.take d) = val (b.take d)) ∧ (∀ c, r = Sum.inl c → (c = -1 ∧ val (a.take d) < val (b.take d)) ∨ (c = 1 ∧ val (b.take d) < val (a.take d))) := by
  intro d
  induction d with
  | zero =>
    intro n _ hn
    obtain ⟨n, rfl⟩ : ∃ m, n = m + 1 := ⟨n - 1, by omega⟩
    rw [big_cmpMag.l0, ifn (by omega)]
    refine ⟨_, rfl, fun _ => ?_, fun c hc => by cases hc⟩
    rw [List.take_zero, List.take_zero]
  | succ d ih =>
    intro n hd hn
    obtain ⟨n, rfl⟩ : ∃ m, n = m + 1 := ⟨n - 1, by omega⟩
    have la : (a.take (d + 1)).length = d + 1 := by rw [List.length_take]; omega
    have lb : (b.take (d + 1)).length = d + 1 := by rw [List.length_take]; omega
    have ea : rd (a.take (d + 1)) (d : Int) = rd a (d : Int) := by
      obtain ⟨h1, e1⟩ := rd_lt (xs := a.take (d + 1)) (i := (d : Int)) (by omega) (by omega)
      obtain ⟨h2, e2⟩ := rd_lt (xs := a) (i := (d : Int)) (by omega) (by omega)
      rw [e1, e2, List.getElem_take]
    have eb : rd (b.take (d + 1)) (d : Int) = rd b (d : Int) := by
      obtain ⟨h1, e1⟩ := rd_lt (xs := b.take (d + 1)) (i := (d : Int)) (by omega) (by omega)
      obtain ⟨h2, e2⟩ := rd_lt (xs := b) (i := (d : Int)) (by omega) (by omega)
      rw [e1, e2, List.getElem_take]
    have va : val (a.take (d + 1)) = val (a.take d) + 4294967296 ^ d * rd a (d : Int) := by
      rw [snoc la, val_append, ea, List.take_take, List.length_take, Nat.min_eq_left (by omega), Nat.min_eq_left (by omega)]
      simp [val]
    have vb : val (b.take (d + 1)) = val (b.take d) + 4294967296 ^ d * rd b (d : Int) := by
      rw [snoc lb, val_append, eb, List.take_take, List.length_take, Nat.min_eq_left (by omega), Nat.min_eq_left (by omega)]
      simp [val]
    have ba := val_bd (l := a.take d) (fun x hx => ha x (List.mem_of_mem_take hx))
    have bb := val_bd (l := b.take d) (fun x hx => hb x (List.mem_of_mem_take hx))
    rw [List.length_take, Nat.min_eq_left (by omega)] at ba bb
    rw [big_cmpMag.l0, ifp (by omega), ifp (by omega), ifp (by omega), ifp (by omega), show ((d + 1 : Nat) : Int) - 1 = (d : Int) by omega]
    by_cases c : rd a (d : Int) ≠ rd b (d : Int)
    · rw [ifp c, bnd (compare_u32 k _ _)]
      refine ⟨_, rfl, fun hc => (by cases hc), fun z hz => ?_⟩
      injection hz with hz
      have key : ∀ (x y A B P : Int), x < y → 0 ≤ A → A < P → 0 ≤ B → A + P * x < B + P * y := by
        intro x y A B P hxy hA hA' hB
        have : P * (x + 1) ≤ P * y := Int.mul_le_mul_of_nonneg_left (by omega) (by omega)
        rw [Int.mul_add] at this
        omega
      by_cases c1 : rd a (d : Int) < rd b (d : Int)
      · rw [if_pos c1] at hz
        exact .inl ⟨hz.symm, by rw [va, vb]; exact key _ _ _ _ _ c1 ba.1 ba.2 bb.1⟩
      · rw [if_neg c1, if_pos (by omega)] at hz
        exact .inr ⟨hz.symm, by rw [va, vb]; exact key _ _ _ _ _ (by omega) bb.1 bb.2 ba.1⟩
    · rw [ifn c, wid (x := (d : Int) - 1) (by omega) (by omega)]
      have c' : rd a (d : Int) = rd b (d : Int) := Decidable.of_not_not c
      obtain ⟨r, e, h1, h2⟩ := ih n (by omega) (by omega)
      refine ⟨r, e, fun hr => by rw [va, vb, h1 hr, c'], fun z hz => ?_⟩
      rw [va, vb, c']
      rcases h2 z hz with g | g
      · exact .inl ⟨g.1, by omega⟩
      · exact .inr ⟨g.1, by omega⟩
theorem pow_mono {m n : Nat} (h : m ≤ n) : (4294967296 : Int) ^ m ≤ 4294967296 ^ n := by
  obtain ⟨d, rfl⟩ : ∃ d, n = m + d := ⟨n - m, by omega⟩
  clear h
  induction d with
  | zero => exact Int.le_refl _
  | succ d ih =>
    have hp : (0 : Int) < 4294967296 ^ (m + d) := Int.pow_pos (by decide)
    rw [← Nat.add_assoc, Int.pow_succ]
    omega
theorem cmp_ok (k : Nat) (X Y : S_Int) (a b : Int) (B C : Nat) (hX : Big X a B) (hY : Big Y b C) (hB : B ≤ 900) (hC : C ≤ 900) (hk : 1100 ≤ k) : ∃ c, big_Cmp k X Y = some c ∧ (c ≤ 0 ↔ a ≤ b) ∧ (c ≥ 0 ↔ b ≤ a) := by
  have lX := hX.len
  have lY := hY.len
  have ba := val_bd hX.dig
  have bb := val_bd hY.dig
  have low : ∀ (Z : S_Int) (z : Int) (D : Nat), Big Z z D → 0 < Z.mag.length → 4294967296 ^ (Z.mag.length - 1) ≤ z := by
    intro Z z D hZ hl
    rcases hZ.nrm with h | h
    · rw [h] at hl; simp at hl
    · obtain ⟨d, hd⟩ : ∃ d, Z.mag.length = d + 1 := ⟨Z.mag.length - 1, by omega⟩
      have hr := hZ.dig.rd (i := (d : Int)) (by omega) (by omega)
      have hne : rd Z.mag (d : Int) ≠ 0 := by rw [show (d : Int) = (Z.mag.length : Int) - 1 by omega]; exact h
      have e := hZ.val
      rw [snoc hd, val_append, List.length_take, Nat.min_eq_left (by omega)] at e
      have b0 := val_bd (l := Z.mag.take d) (fun x hx => hZ.dig x (List.mem_of_mem_take hx))
      have p0 : (0 : Int) ≤ 4294967296 ^ d := Int.pow_nonneg (by decide)
      have : (4294967296 : Int) ^ d * 1 ≤ 4294967296 ^ d * rd Z.mag (d : Int) := Int.mul_le_mul_of_nonneg_left (by omega) p0
      simp only [val, Int.mul_zero, Int.add_zero] at e
      rw [hd, Nat.add_sub_cancel]
      omega
  rw [hX.val] at ba
  rw [hY.val] at bb
  have hmag : ∃ c, big_cmpMag k X.mag Y.mag = some c ∧ (c ≤ 0 ↔ a ≤ b) ∧ (c ≥ 0 ↔ b ≤ a) := by
    unfold big_cmpMag
    by_cases hl : (X.mag.length : Int) ≠ (Y.mag.length : Int)
    · rw [ifp hl, bnd (compare_int k _ _)]
      refine ⟨_, rfl, ?_⟩
      by_cases c : (X.mag.length : Int) < (Y.mag.length : Int)
      · have h1 := low Y b C hY (by omega)
        have h2 : (4294967296 : Int) ^ X.mag.length ≤ 4294967296 ^ (Y.mag.length - 1) := by
          exact pow_mono (by omega)
        rw [if_pos c]
        constructor <;> constructor <;> intro <;> omega
      · have h1 := low X a B hX (by omega)
        have h2 : (4294967296 : Int) ^ Y.mag.length ≤ 4294967296 ^ (X.mag.length - 1) := by
          exact pow_mono (by omega)
        rw [if_neg c, if_pos (by omega)]
        constructor <;> constructor <;> intro <;> omega
    · rw [ifn hl, wid (x := (X.mag.length : Int) - 1) (by omega) (by omega)]
      obtain ⟨r, e, h1, h2⟩ := cmp_l0 k X.mag Y.mag hX.dig hY.dig (by omega) (by omega) X.mag.length k (Nat.le_refl _) (by omega)
      rw [bnd e]
      rw [List.take_of_length_le (Nat.le_refl _), List.take_of_length_le (show Y.mag.length ≤ X.mag.length by omega), hX.val, hY.val] at h1 h2
      cases r with
      | inr u =>
        have := h1 rfl
        exact ⟨0, rfl, by omega, by omega⟩
      | inl c =>
        refine ⟨c, rfl, ?_⟩
        rcases h2 c rfl with g | g <;> (constructor <;> constructor <;> intro <;> omega)
  obtain ⟨c, e, h⟩ := hmag
  refine ⟨c, ?_, h⟩
  unfold big_Cmp
  rw [ifn (by rw [hX.neg, hY.neg]; decide), ifn (by rw [hX.neg]; decide), bnd e]
theorem pull_no (k : Nat) (v : S_Vec) (h : ¬ In v) (hk : 5 ≤ k) : sky_Pull k v = some ⟨0, 0, 0⟩ := by
  unfold sky_Pull
  rw [bnd (within_in k v hk), ifp (by simpa using h)]
theorem zero_ok : ((⟨0, 0, 0⟩ : S_Vec).X == 0 && ((⟨0, 0, 0⟩ : S_Vec).Y == 0 && ((⟨0, 0, 0⟩ : S_Vec).Z == 0 && true))) = true := rfl
/-- The first loop: is the place within range? -/
theorem range_l0 (k : Nat) (v : S_Vec) (hk : 10 ≤ k) : spykeep3_SkyPullNears.l0 k v k 0 = if In v then some (Sum.inr ()) else some (Sum.inl true) := by
  obtain ⟨k, rfl⟩ : ∃ j, k = j + 10 := ⟨k - 10, by omega⟩
  obtain ⟨x, y, z⟩ := v
  have r0 : rd [x, y, z] 0 = x := rfl
  have r1 : rd [x, y, z] 1 = y := rfl
  have r2 : rd [x, y, z] 2 = z := rfl
  have no : ¬ In ⟨x, y, z⟩ → (if In ⟨x, y, z⟩ then some (Sum.inr ()) else some (Sum.inl true) : Option (Sum Bool Unit)) = some (Sum.inl true) := fun h => if_neg h
  have out : ¬ In ⟨x, y, z⟩ → ((sky_Pull (k + 10) ⟨x, y, z⟩).bind fun vt65 => (some (Sum.inl ((vt65.X == 0) && ((vt65.Y == 0) && ((vt65.Z == 0) && true)))) : Option (Sum Bool Unit))) = some (Sum.inl true) := fun h => by
    rw [bnd (pull_no _ _ h (by omega))]; rfl
  have F : ¬ (-4194304 ≤ x ∧ x ≤ 4194304 ∧ -4194304 ≤ y ∧ y ≤ 4194304 ∧ -4194304 ≤ z ∧ z ≤ 4194304) → ¬ In ⟨x, y, z⟩ := fun h => h
  have T : (-4194304 ≤ x ∧ x ≤ 4194304 ∧ -4194304 ≤ y ∧ y ≤ 4194304 ∧ -4194304 ≤ z ∧ z ≤ 4194304) → In ⟨x, y, z⟩ := fun h => h
  rw [spykeep3_SkyPullNears.l0]
  dsimp only
  rw [ifp (by decide), ifp (by decide), r0, wid (x := 0 + 1) (by decide) (by decide), show (0 : Int) + 1 = 1 by rfl]
  by_cases c1 : x < -4194304
  · rw [ifp c1, out (F (by omega)), no (F (by omega))]
  rw [ifn c1]
  by_cases c2 : x > 4194304
  · rw [ifp c2, out (F (by omega)), no (F (by omega))]
  rw [ifn c2, spykeep3_SkyPullNears.l0]
  dsimp only
  rw [ifp (by decide), ifp (by decide), r1, wid (x := 1 + 1) (by decide) (by decide), show (1 : Int) + 1 = 2 by rfl]
  by_cases c3 : y < -4194304
  · rw [ifp c3, out (F (by omega)), no (F (by omega))]
  rw [ifn c3]
  by_cases c4 : y > 4194304
  · rw [ifp c4, out (F (by omega)), no (F (by omega))]
  rw [ifn c4, spykeep3_SkyPullNears.l0]
  dsimp only
  rw [ifp (by decide), ifp (by decide), r2, wid (x := 2 + 1) (by decide) (by decide), show (2 : Int) + 1 = 3 by rfl]
  by_cases c5 : z < -4194304
  · rw [ifp c5, out (F (by omega)), no (F (by omega))]
  rw [ifn c5]
  by_cases c6 : z > 4194304
  · rw [ifp c6, out (F (by omega)), no (F (by omega))]
  rw [ifn c6, spykeep3_SkyPullNears.l0]
  dsimp only
  rw [ifn (by decide), if_pos (T (by omega))]
theorem mul_lt_sq {a b : Int} (ha : 0 ≤ a) (h : a < b) : a * a < b * b := by
  have h1 : a * a ≤ a * b := Int.mul_le_mul_of_nonneg_left (by omega) ha
  have h2 : a * b < b * b := Int.mul_lt_mul_of_pos_right h (by omega)
  omega
/-- How near the pull is, by squares. -/
theorem near (c r n off : Int) (c0 : 0 ≤ c) (c1 : c ≤ r) (r0 : 65536 ≤ r) (n0 : r * r ≤ n) (n1 : n < (r + 1) * (r + 1)) (ho : 98 ≤ off ∨ (2 ≤ off ∧ 524288 ≤ r)) :
    (9007199254740992 * c) * (9007199254740992 * c) < ((9007199254740992 * c / r / (r * r)) + off) * ((9007199254740992 * c / r / (r * r)) + off) * (n * n * n) ∧
    (0 < (9007199254740992 * c / r / (r * r)) - off → ((9007199254740992 * c / r / (r * r)) - off) * ((9007199254740992 * c / r / (r * r)) - off) * (n * n * n) < (9007199254740992 * c) * (9007199254740992 * c)) := by
  obtain ⟨T, hT⟩ : ∃ T, T = 9007199254740992 * c := ⟨_, rfl⟩
  rw [← hT]
  have rr : 0 < r * r := Int.mul_pos (by omega) (by omega)
  have r3 : 0 < r * (r * r) := Int.mul_pos (by omega) rr
  rw [Int.ediv_ediv, if_neg (by omega), Int.sub_zero]
  obtain ⟨Q, hQ⟩ : ∃ Q, Q = T / (r * (r * r)) := ⟨_, rfl⟩
  rw [← hQ]
  have T0 : 0 ≤ T := by omega
  have Q0 : 0 ≤ Q := by rw [hQ]; exact Int.ediv_nonneg T0 (by omega)
  have q1 : Q * (r * (r * r)) ≤ T := by rw [hQ]; exact Int.ediv_mul_le _ (by omega)
  have q2 : T < (Q + 1) * (r * (r * r)) := by rw [hQ]; exact Int.lt_ediv_add_one_mul_self T r3
  have nn : 0 ≤ n := by omega
  constructor
  · -- above
    have hn3 : (r * (r * r)) * (r * (r * r)) ≤ n * n * n := by
      have h1 : (r * r) * (r * r) ≤ n * n := sq_le n0 (by omega)
      have h2 : (r * r) * (r * r) * (r * r) ≤ n * n * n := Int.mul_le_mul h1 n0 (by omega) (Int.mul_nonneg nn nn)
      have e : (r * (r * r)) * (r * (r * r)) = (r * r) * (r * r) * (r * r) := by grind
      omega
    have h1 := mul_lt_sq T0 q2
    have e1 : ((Q + 1) * (r * (r * r))) * ((Q + 1) * (r * (r * r))) = (Q + 1) * (Q + 1) * ((r * (r * r)) * (r * (r * r))) := by grind
    have h2 : (Q + 1) * (Q + 1) ≤ (Q + off) * (Q + off) := sq_le (by omega) (by omega)
    have h3 : (Q + 1) * (Q + 1) * ((r * (r * r)) * (r * (r * r))) ≤ (Q + off) * (Q + off) * (n * n * n) :=
      Int.mul_le_mul h2 hn3 (Int.mul_nonneg (by omega) (by omega)) (sq_nn _)
    omega
  · intro hpos
    obtain ⟨s, hs⟩ : ∃ s, s = r + 1 := ⟨_, rfl⟩
    rw [← hs] at n1
    have ss : 0 < s * s := Int.mul_pos (by omega) (by omega)
    -- 3 Q <= off * s
    have hQr : Q * (r * r) ≤ 9007199254740992 := by
      have h1 : Q * (r * (r * r)) ≤ 9007199254740992 * r := by omega
      have e : Q * (r * (r * r)) = r * (Q * (r * r)) := by grind
      have h2 : r * (Q * (r * r)) ≤ r * 9007199254740992 := by omega
      exact Int.le_of_mul_le_mul_left h2 (by omega)
    have h3Q : 3 * Q ≤ off * s := by
      rcases ho with h | ⟨h, hr⟩
      · have a1 : 65536 * 65536 ≤ r * r := sq_le r0 (by decide)
        have a2 : Q * 4294967296 ≤ Q * (r * r) := Int.mul_le_mul_of_nonneg_left (by omega) Q0
        have a3 : 98 * s ≤ off * s := Int.mul_le_mul_of_nonneg_right h (by omega)
        omega
      · have a1 : 524288 * 524288 ≤ r * r := sq_le hr (by decide)
        have a2 : Q * 274877906944 ≤ Q * (r * r) := Int.mul_le_mul_of_nonneg_left (by omega) Q0
        have a3 : 2 * s ≤ off * s := Int.mul_le_mul_of_nonneg_right h (by omega)
        omega
    have key : (Q - off) * (s * (s * s)) ≤ T := by
      have e1 : (Q - off) * (s * (s * s)) = Q * (r * (r * r)) + Q * (3 * (r * r) + 3 * r + 1) - off * s * (s * s) := by rw [hs]; grind
      have e5 : s * s = r * r + 2 * r + 1 := by rw [hs]; grind
      have e2 : Q * (3 * (r * r) + 3 * r + 1) ≤ Q * (3 * (s * s)) := Int.mul_le_mul_of_nonneg_left (by omega) Q0
      have e3 : Q * (3 * (s * s)) = 3 * Q * (s * s) := by grind
      have e4 : 3 * Q * (s * s) ≤ off * s * (s * s) := Int.mul_le_mul_of_nonneg_right h3Q (by omega)
      omega
    have hn3 : n * n * n < (s * (s * s)) * (s * (s * s)) := by
      have h1 : n * n ≤ (s * s) * (s * s) := sq_le (by omega) nn
      have h2 : n * n * n ≤ (s * s) * (s * s) * n := Int.mul_le_mul_of_nonneg_right h1 nn
      have h3 : (s * s) * (s * s) * n < (s * s) * (s * s) * (s * s) := Int.mul_lt_mul_of_pos_left n1 (Int.mul_pos ss ss)
      have e : (s * (s * s)) * (s * (s * s)) = (s * s) * (s * s) * (s * s) := by grind
      omega
    have hq2 : 0 < (Q - off) * (Q - off) := Int.mul_pos hpos hpos
    have h1 : (Q - off) * (Q - off) * (n * n * n) < (Q - off) * (Q - off) * ((s * (s * s)) * (s * (s * s))) := Int.mul_lt_mul_of_pos_left hn3 hq2
    have e : (Q - off) * (Q - off) * ((s * (s * s)) * (s * (s * s))) = ((Q - off) * (s * (s * s))) * ((Q - off) * (s * (s * s))) := by grind
    have h2 : ((Q - off) * (s * (s * s))) * ((Q - off) * (s * (s * s))) ≤ T * T := sq_le key (Int.mul_nonneg (by omega) (Int.mul_nonneg (by omega) (by omega)))
    omega
/-- One component. -/
theorem comp (k : Nat) (x r n off : Int) (cube : S_Int) (D : Nat) (x0 : -4194304 ≤ x) (x1 : x ≤ 4194304) (xr : x ≤ r) (xr' : -r ≤ x) (r0 : 65536 ≤ r) (r1 : r ≤ 8388608) (n0 : r * r ≤ n) (n1 : n < (r + 1) * (r + 1)) (ho : off = 98 ∨ (off = 2 ∧ 524288 ≤ r)) (hc : Big cube (n * n * n) D) (hD : D ≤ 20) (hk : 1100 ≤ k) {α : Type} (K : Option α) (F : Option α) :
    (((if x < 0 then (some ((w64 (0 - x)), (w64 (0 - (pu x r))))) else (some (x, (pu x r))) : Option (Int × Int))).bind fun (c247, q248) => (if q248 > 0 then F else ((big_Of k 9007199254740992).bind fun vt262 => ((big_Of k c247).bind fun vt271 => ((spykeep3_times k vt262 vt271).bind fun vt280 => ((big_Of k 9007199254740992).bind fun vt289 => ((big_Of k c247).bind fun vt298 => ((spykeep3_times k vt289 vt298).bind fun vt307 => ((spykeep3_times k vt280 vt307).bind fun vt316 => ((big_Of k (w64 ((w64 (0 - q248)) + off))).bind fun vt337 => ((big_Of k (w64 ((w64 (0 - q248)) + off))).bind fun vt346 => ((spykeep3_times k vt337 vt346).bind fun vt355 => ((spykeep3_times k vt355 cube).bind fun vt364 => ((big_Cmp k vt364 vt316).bind fun vt373 => (if vt373 ≤ 0 then F else (if (mx 0 (w64 ((w64 (0 - q248)) - off))) > 0 then ((big_Of k (mx 0 (w64 ((w64 (0 - q248)) - off)))).bind fun vt383 => ((big_Of k (mx 0 (w64 ((w64 (0 - q248)) - off)))).bind fun vt392 => ((spykeep3_times k vt383 vt392).bind fun vt401 => ((spykeep3_times k vt401 cube).bind fun vt410 => ((big_Cmp k vt410 vt316).bind fun vt419 => (if vt419 ≥ 0 then F else K)))))) else K)))))))))))))))) = K := by
  have hpb := pl_bd x r x0 x1 r0 r1
  obtain ⟨c, hcx⟩ : ∃ c, c = if x < 0 then -x else x := ⟨_, rfl⟩
  have hc2 : 0 ≤ c ∧ c ≤ 4194304 ∧ c ≤ r := by rw [hcx]; split <;> omega
  obtain ⟨Q, hQ⟩ : ∃ Q, Q = pl x r := ⟨_, rfl⟩
  have hQc : Q = 9007199254740992 * c / r / (r * r) := by rw [hQ, hcx]; rfl
  rw [← hQ] at hpb
  have hz : x = 0 → Q = 0 := by
    intro h
    rw [hQc, hcx, h]; simp
  have hfirst : (if x < 0 then (some ((w64 (0 - x)), (w64 (0 - (pu x r))))) else (some (x, (pu x r))) : Option (Int × Int)) = some (c, -Q) := by
    have hpu : pu x r = if x > 0 then -Q else Q := by unfold pu; rw [if_neg (show ¬ r < 65536 by omega), ← hQ]
    rw [hpu, hcx]
    by_cases g : x < 0
    · rw [ifp g, if_pos g, if_neg (show ¬ x > 0 by omega), wid (x := 0 - x) (by omega) (by omega), wid (x := 0 - Q) (by omega) (by omega), show 0 - x = -x by omega, show 0 - Q = -Q by omega]
    · rw [ifn g, if_neg g]
      by_cases g2 : x > 0
      · rw [if_pos g2]
      · rw [if_neg g2]
        have := hz (by omega)
        rw [this]; rfl
  rw [bnd hfirst]
  dsimp only
  have hoff : 2 ≤ off ∧ off ≤ 98 := by omega
  rw [ifn (by omega), wid (x := 0 - -Q) (by omega) (by omega), show 0 - -Q = Q by omega, wid (x := Q + off) (by omega) (by omega), wid (x := Q - off) (by omega) (by omega), mx_def]
  obtain ⟨P, eP, hP⟩ := of_ok k 9007199254740992 (by decide) (by decide) hk
  obtain ⟨C, eC, hC⟩ := of_ok k c (by omega) (by omega) hk
  rw [bnd eP, bnd eC]
  obtain ⟨PC, ePC, hPC⟩ := times_ok k P C _ _ 2 2 hP hC (by decide) (by decide) hk
  rw [bnd ePC, bnd eP, bnd eC, bnd ePC]
  obtain ⟨Wn, eW, hW⟩ := times_ok k PC PC _ _ 4 4 hPC hPC (by decide) (by decide) hk
  rw [bnd eW]
  obtain ⟨Hi, eH, hH⟩ := of_ok k (Q + off) (by omega) (by omega) hk
  rw [bnd eH, bnd eH]
  obtain ⟨HH, eHH, hHH⟩ := times_ok k Hi Hi _ _ 2 2 hH hH (by decide) (by decide) hk
  rw [bnd eHH]
  obtain ⟨Hc, eHc, hHc⟩ := times_ok k HH cube _ _ 4 D hHH hc (by decide) (by omega) hk
  rw [bnd eHc]
  obtain ⟨z, ez, z1, z2⟩ := cmp_ok k Hc Wn _ _ (4 + D) 8 hHc hW (by omega) (by decide) hk
  obtain ⟨n1', n2'⟩ := near c r n off hc2.1 hc2.2.2 r0 n0 n1 (by omega)
  rw [← hQc] at n1' n2'
  rw [bnd ez, ifn (fun h => by have := z1.mp h; omega)]
  by_cases g : max 0 (Q - off) > 0
  · have eg : max 0 (Q - off) = Q - off := by omega
    rw [ifp g, eg]
    obtain ⟨Lo, eL, hL⟩ := of_ok k (Q - off) (by omega) (by omega) hk
    rw [bnd eL, bnd eL]
    obtain ⟨LL, eLL, hLL⟩ := times_ok k Lo Lo _ _ 2 2 hL hL (by decide) (by decide) hk
    rw [bnd eLL]
    obtain ⟨Lc, eLc, hLc⟩ := times_ok k LL cube _ _ 4 D hLL hc (by decide) (by omega) hk
    rw [bnd eLc]
    obtain ⟨y, ey, y1, y2⟩ := cmp_ok k Lc Wn _ _ (4 + D) 8 hLc hW (by omega) (by decide) hk
    have := n2' (by omega)
    rw [bnd ey, ifn (fun h => by have := y2.mp h; omega)]
  · rw [ifn g]
theorem law (k : Nat) (v : S_Vec) (hk : 1100 ≤ k) : spykeep3_SkyPullNears k v = some true := by
  unfold spykeep3_SkyPullNears
  rw [bnd (pulls_eq k (by omega)), ifn (by decide), range_l0 k v (by omega)]
  by_cases c' : ¬ In v
  · rw [if_neg c']; rfl
  have c : In v := Decidable.of_not_not c'
  rw [if_pos c]
  dsimp only [Option.bind_some, Sum.elim_inr]
  have hd := dist_eq 70 v c (by decide)
  obtain ⟨_, d0, d1, d2, d3⟩ := hd
  obtain ⟨h1, h2, h3, h4, h5, h6⟩ := id c
  obtain ⟨a0, a1⟩ := sq_le22 v.X h1 h2
  obtain ⟨b0, b1⟩ := sq_le22 v.Y h3 h4
  obtain ⟨c0, c1⟩ := sq_le22 v.Z h5 h6
  rw [wid (x := v.X * v.X) (by omega) (by omega), wid (x := v.Y * v.Y) (by omega) (by omega), wid (x := v.Z * v.Z) (by omega) (by omega), wid (x := v.X * v.X + v.Y * v.Y) (by omega) (by omega), wid (x := v.X * v.X + v.Y * v.Y + v.Z * v.Z) (by omega) (by omega)]
  obtain ⟨n, hn⟩ : ∃ n, n = v.X * v.X + v.Y * v.Y + v.Z * v.Z := ⟨_, rfl⟩
  rw [← hn] at d2 d3 ⊢
  obtain ⟨r, hr⟩ : ∃ r, r = dist v := ⟨_, rfl⟩
  rw [← hr] at d0 d1 d2 d3
  rw [bnd (pull_eq k v c (by omega))]
  by_cases g : n < 4294967296
  · rw [ifp g]
    have : r < 65536 := by
      rcases Int.lt_or_le r 65536 with z | z
      · exact z
      · have := sq_le z (by decide); omega
    unfold pullV pu
    rw [← hr, if_pos this, if_pos this, if_pos this]
    rfl
  rw [ifn g, bnd (pull_eq k v c (by omega))]
  have r0 : 65536 ≤ r := by
    have : 65536 < r + 1 := sq_lt (by decide) (by omega) (by omega)
    omega
  have hx : ∀ x : Int, x * x ≤ n → x ≤ r ∧ -r ≤ x := by
    intro x h
    constructor
    · rcases Int.lt_or_le r x with z | z
      · have := sq_le (a := r + 1) (b := x) (by omega) (by omega); omega
      · exact z
    · rcases Int.lt_or_le x (-r) with z | z
      · have := sq_le (a := r + 1) (b := -x) (by omega) (by omega)
        rw [Int.neg_mul_neg] at this; omega
      · exact z
  have hoff : ∃ off, (if n ≥ 274877906944 then (some 2) else (some 98) : Option Int) = some off ∧ (off = 98 ∨ (off = 2 ∧ 524288 ≤ r)) := by
    by_cases z : n ≥ 274877906944
    · refine ⟨2, ifp z, .inr ⟨rfl, ?_⟩⟩
      have : 524288 < r + 1 := sq_lt (by decide) (by omega) (by omega)
      omega
    · exact ⟨98, ifn z, .inl rfl⟩
  obtain ⟨off, eo, ho⟩ := hoff
  rw [bnd eo]
  obtain ⟨N, eN, hN⟩ := of_ok k n (by omega) (by omega) hk
  rw [bnd eN, bnd eN]
  obtain ⟨NN, eNN, hNN⟩ := times_ok k N N _ _ 2 2 hN hN (by decide) (by decide) hk
  rw [bnd eNN, bnd eN]
  obtain ⟨cube, ec, hcu⟩ := times_ok k NN N _ _ 4 2 hNN hN (by decide) (by decide) hk
  rw [bnd ec]
  have hl : ∀ K, 10 ≤ K → spykeep3_SkyPullNears.l1 k v (pullV v) off cube K 0 = some (Sum.inr ()) := by
    intro K hK
    obtain ⟨K, rfl⟩ : ∃ j, K = j + 10 := ⟨K - 10, by omega⟩
    have r0_ : rd [[v.X, (pullV v).X], [v.Y, (pullV v).Y], [v.Z, (pullV v).Z]] 0 = [v.X, pu v.X r] := by rw [hr]; rfl
    have r1_ : rd [[v.X, (pullV v).X], [v.Y, (pullV v).Y], [v.Z, (pullV v).Z]] 1 = [v.Y, pu v.Y r] := by rw [hr]; rfl
    have r2_ : rd [[v.X, (pullV v).X], [v.Y, (pullV v).Y], [v.Z, (pullV v).Z]] 2 = [v.Z, pu v.Z r] := by rw [hr]; rfl
    have g0 : ∀ a b : Int, [a, b].getD 0 default = a := fun _ _ => rfl
    have g1 : ∀ a b : Int, [a, b].getD 1 default = b := fun _ _ => rfl
    have hX := hx v.X (by omega)
    have hY := hx v.Y (by omega)
    have hZ := hx v.Z (by omega)
    rw [spykeep3_SkyPullNears.l1, ifp (by decide), ifp (by decide), r0_, g0, g1, comp k v.X r n off cube 6 h1 h2 hX.1 hX.2 r0 d1 d2 d3 ho hcu (by decide) hk, wid (x := 0 + 1) (by decide) (by decide), show (0 : Int) + 1 = 1 by rfl]
    rw [spykeep3_SkyPullNears.l1, ifp (by decide), ifp (by decide), r1_, g0, g1, comp k v.Y r n off cube 6 h3 h4 hY.1 hY.2 r0 d1 d2 d3 ho hcu (by decide) hk, wid (x := 1 + 1) (by decide) (by decide), show (1 : Int) + 1 = 2 by rfl]
    rw [spykeep3_SkyPullNears.l1, ifp (by decide), ifp (by decide), r2_, g0, g1, comp k v.Z r n off cube 6 h5 h6 hZ.1 hZ.2 r0 d1 d2 d3 ho hcu (by decide) hk, wid (x := 2 + 1) (by decide) (by decide), show (2 : Int) + 1 = 3 by rfl]
    rw [spykeep3_SkyPullNears.l1, ifn (by decide)]
  rw [bnd (hl k (by omega))]
  rfl
theorem law_ex (v : S_Vec) (_ : (Lit.int .i64 v.X).wf = true) (_ : (Lit.int .i64 v.Y).wf = true) (_ : (Lit.int .i64 v.Z).wf = true) : ∃ k, spykeep3_SkyPullNears k v = some true := ⟨1100, law 1100 v (by decide)⟩

end Go.Sp.P6
