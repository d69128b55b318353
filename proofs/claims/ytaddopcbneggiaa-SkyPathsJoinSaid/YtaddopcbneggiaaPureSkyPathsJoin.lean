import Derived.Test.YtaddopcbneggiaaFW4
import Derived.KernelRfl
import Derived.Laws.BitsLemmas
import Derived.Laws.Bits64
import Derived.Laws.BitsAllLaws
import Derived.Laws.BitsLemmas
import Derived.Laws.Bits64
import Derived.Laws.BitsAllLaws
namespace Go.Sp.W4
open Go Go.Sp
set_option linter.unusedVariables false
theorem bnd {α β : Type} {x : Option α} {g : α → Option β} {v : α} (h : x = some v) : x.bind g = g v := by rw [h]; rfl
theorem ifp {α : Type} {c : Prop} [Decidable c] {x y : α} (h : c) : (if c then x else y) = x := if_pos h
theorem ifn {α : Type} {c : Prop} [Decidable c] {x y : α} (h : ¬ c) : (if c then x else y) = y := if_neg h
theorem rd_mem {α : Type} [Inhabited α] {l : List α} {i : Int} (h0 : 0 ≤ i) (h1 : i < (l.length : Int)) : rd l i ∈ l := by
  obtain ⟨h, e⟩ := rd_lt h0 h1
  rw [e]; exact List.getElem_mem h
theorem wid {x : Int} (h : -9223372036854775808 ≤ x) (h' : x ≤ 9223372036854775807) : w64 x = x := w64_of h h'
theorem wuid {x : Int} (h : 0 ≤ x) (h' : x ≤ 18446744073709551615) : u64 x = x := u64_of h h'
theorem mul_le {a b A B : Int} (h1 : 0 ≤ a) (h2 : a ≤ A) (h3 : 0 ≤ b) (h4 : b ≤ B) : 0 ≤ a * b ∧ a * b ≤ A * B :=
  ⟨Int.mul_nonneg h1 h3, Int.mul_le_mul h2 h4 h3 (by omega)⟩
theorem tdiv_nn {a b : Int} (h : 0 ≤ a) : Int.tdiv a b = a / b := Int.tdiv_eq_ediv_of_nonneg h
theorem tmod_nn {a b : Int} (h : 0 ≤ a) : Int.tmod a b = a % b := Int.tmod_eq_emod_of_nonneg h
def AllIn (l : List Int) (lo hi : Int) : Prop := ∀ x, x ∈ l → lo ≤ x ∧ x ≤ hi
theorem AllIn.nil {lo hi : Int} : AllIn [] lo hi := fun x h => by cases h
theorem AllIn.push {l : List Int} {lo hi x : Int} (h : AllIn l lo hi) (h0 : lo ≤ x) (h1 : x ≤ hi) : AllIn (l ++ [x]) lo hi := by
  intro y hy
  rcases List.mem_append.mp hy with hy | hy
  · exact h y hy
  · simp only [List.mem_singleton] at hy; subst hy; exact ⟨h0, h1⟩
theorem AllIn.rd {l : List Int} {lo hi i : Int} (h : AllIn l lo hi) (h0 : 0 ≤ i) (h1 : i < (l.length : Int)) : lo ≤ rd l i ∧ rd l i ≤ hi := h _ (rd_mem h0 h1)
theorem AllIn.mono {l : List Int} {lo hi lo' hi' : Int} (h : AllIn l lo hi) (h0 : lo' ≤ lo) (h1 : hi ≤ hi') : AllIn l lo' hi' := fun x hx => by have := h x hx; omega
theorem rd_set_eq (l : List Int) (i x : Int) (h0 : 0 ≤ i) (h1 : i < (l.length : Int)) : rd (l.set i.toNat x) i = x := by
  obtain ⟨h, e⟩ := rd_lt (xs := l.set i.toNat x) h0 (by simp; omega)
  rw [e]; simp
theorem rd_set_ne (l : List Int) (i j x : Int) (h0 : 0 ≤ i) (hj : 0 ≤ j) (h1 : j < (l.length : Int)) (hne : j ≠ i) : rd (l.set i.toNat x) j = rd l j := by
  obtain ⟨h, e⟩ := rd_lt (xs := l.set i.toNat x) hj (by simp; omega)
  obtain ⟨h', e'⟩ := rd_lt (xs := l) hj h1
  rw [e, e', List.getElem_set, if_neg (by omega)]
theorem rd_push_old (l : List Int) (x i : Int) (h0 : 0 ≤ i) (h1 : i < (l.length : Int)) : rd (l ++ [x]) i = rd l i := by
  obtain ⟨h, e⟩ := rd_lt (xs := l ++ [x]) h0 (by simp; omega)
  obtain ⟨h', e'⟩ := rd_lt (xs := l) h0 h1
  rw [e, e', List.getElem_append_left h']
theorem rd_push_new (l : List Int) (x i : Int) (h1 : i = (l.length : Int)) : rd (l ++ [x]) i = x := by
  obtain ⟨h, e⟩ := rd_lt (xs := l ++ [x]) (i := i) (by omega) (by simp; omega)
  rw [e, List.getElem_append_right (by omega)]
  simp
theorem u64_and32 (x : Int) (h0 : 0 ≤ x) (h1 : x < 18446744073709551616) : Go.bits .and .u64 x 4294967295 = x % 4294967296 := by
  rw [Go.u64_and x 4294967295 h0 h1 (by decide) (by decide)]
  have : x.toNat &&& (4294967295 : Int).toNat = x.toNat % 4294967296 := Nat.and_two_pow_sub_one_eq_mod x.toNat 32
  rw [this]
  omega
theorem shr32 (x : Int) : shr x 32 = x / 4294967296 := shr_def x 32
theorem mul64_eq (k : Nat) (a b : Int) (ha : 0 ≤ a) (ha' : a < 18446744073709551616) (hb : 0 ≤ b) (hb' : b < 18446744073709551616) :
    bits_Mul64 k a b = some (a * b / 18446744073709551616, a * b % 18446744073709551616) := by
  unfold bits_Mul64
  rw [u64_and32 a ha ha', u64_and32 b hb hb', shr32 a, shr32 b]
  have h1 := mul_le (a := a / 4294967296) (b := b / 4294967296) (A := 4294967295) (B := 4294967295) (by omega) (by omega) (by omega) (by omega)
  have h2 := mul_le (a := a / 4294967296) (b := b % 4294967296) (A := 4294967295) (B := 4294967295) (by omega) (by omega) (by omega) (by omega)
  have h3 := mul_le (a := a % 4294967296) (b := b / 4294967296) (A := 4294967295) (B := 4294967295) (by omega) (by omega) (by omega) (by omega)
  have h4 := mul_le (a := a % 4294967296) (b := b % 4294967296) (A := 4294967295) (B := 4294967295) (by omega) (by omega) (by omega) (by omega)
  have e : a * b = (a / 4294967296) * (b / 4294967296) * 18446744073709551616 + ((a / 4294967296) * (b % 4294967296) + (a % 4294967296) * (b / 4294967296)) * 4294967296 + (a % 4294967296) * (b % 4294967296) := by
    have ea : a = a / 4294967296 * 4294967296 + a % 4294967296 := by omega
    have eb : b = b / 4294967296 * 4294967296 + b % 4294967296 := by omega
    generalize a / 4294967296 = x1 at *
    generalize a % 4294967296 = x0 at *
    generalize b / 4294967296 = y1 at *
    generalize b % 4294967296 = y0 at *
    subst ea eb
    grind
  rw [u64_def (a * b), e]
  generalize (a / 4294967296) * (b / 4294967296) = p at *
  generalize (a / 4294967296) * (b % 4294967296) = q at *
  generalize (a % 4294967296) * (b / 4294967296) = r at *
  generalize (a % 4294967296) * (b % 4294967296) = s at *
  rw [wuid (x := s) (by omega) (by omega), wuid (x := p) (by omega) (by omega), wuid (x := q) (by omega) (by omega), wuid (x := r) (by omega) (by omega)]
  rw [shr32 s, wuid (x := q + s / 4294967296) (by omega) (by omega)]
  rw [u64_and32 (q + s / 4294967296) (by omega) (by omega), shr32 (q + s / 4294967296)]
  rw [wuid (x := p + (q + s / 4294967296) / 4294967296) (by omega) (by omega)]
  rw [wuid (x := (q + s / 4294967296) % 4294967296 + r) (by omega) (by omega), shr32]
  rw [wuid (by omega) (by omega)]
  have e1 : p + (q + s / 4294967296) / 4294967296 + ((q + s / 4294967296) % 4294967296 + r) / 4294967296 = (p * 18446744073709551616 + (q + r) * 4294967296 + s) / 18446744073709551616 := by omega
  rw [e1]
theorem i64_and_low (x : Int) (i : Nat) (hi : i ≤ 62) : Go.bits .and .i64 x ((2 ^ i - 1 : Nat) : Int) = (((x % 18446744073709551616).toNat % 2 ^ i : Nat) : Int) := by
  have hp : 2 ^ i ≤ 2 ^ 62 := Nat.pow_le_pow_right (by decide) hi
  have hpos : 0 < 2 ^ i := Nat.two_pow_pos i
  have e1 : (BitVec.ofInt 64 x).toNat = (x % 18446744073709551616).toNat := by simp [BitVec.toNat_ofInt]
  have hb : (2 ^ i - 1) % 2 ^ IntKind.i64.bits = 2 ^ i - 1 := Nat.mod_eq_of_lt (by show 2 ^ i - 1 < 2 ^ 64; omega)
  simp only [Go.bits, BitVec.ofInt_natCast, BitVec.toNat_and, BitVec.toNat_ofNat, hb]
  rw [show (BitVec.ofInt IntKind.i64.bits x).toNat = (x % 18446744073709551616).toNat from e1, Nat.and_two_pow_sub_one_eq_mod]
  have := Nat.mod_lt (x % 18446744073709551616).toNat hpos
  rw [IntKind.wrap_i64]
  omega
theorem i64_and_in (x : Int) (i : Nat) (m : Int) (hi : i ≤ 62) (hm : m = ((2 ^ i - 1 : Nat) : Int)) : 0 ≤ Go.bits .and .i64 x m ∧ Go.bits .and .i64 x m ≤ m := by
  subst hm
  rw [i64_and_low x i hi]
  have := Nat.mod_lt (x % 18446744073709551616).toNat (Nat.two_pow_pos i)
  omega
theorem sq_le {a b : Int} (h : a ≤ b) (ha : 0 ≤ a) : a * a ≤ b * b := Int.mul_le_mul h h ha (by omega)
theorem sq_lt {a b : Int} (ha : 0 ≤ a) (hb : 0 ≤ b) (h : a * a < b * b) : a < b := by
  rcases Int.lt_or_le a b with g | g
  · exact g
  · have := sq_le g hb; omega
theorem or_bit (r : Int) (j : Nat) (hr : 0 ≤ r) (hm : r % 2 ^ (j + 1) = 0) (h : r + 2 ^ j < 18446744073709551616) (hj : j ≤ 62) : Go.bits .or .u64 r (2 ^ j) = r + 2 ^ j := by
  have hp : (0 : Int) < 2 ^ j := Int.pow_pos (by decide)
  have hlt : (2 : Int) ^ j < 2 ^ (j + 1) := by rw [Int.pow_succ]; omega
  exact Go.bits_join .u64 64 (by decide) (fun n h0 h1 => by have h2 : n < 18446744073709551616 := h1; rw [IntKind.wrap_u64]; omega) (j + 1) r (2 ^ j) hr hm (by show r < 18446744073709551616; omega) (by omega) hlt (by show (2 : Int) ^ j < 18446744073709551616; omega)
theorem shr1 (x : Int) : shr x 1 = x / 2 := shr_def x 1
theorem sqrt_end (k n : Nat) (u v r : Int) (hk : 0 < n) : num_SqrtMul.l0 k u v n r 0 = some r := by
  obtain ⟨n, rfl⟩ : ∃ m, n = m + 1 := ⟨n - 1, by omega⟩
  rw [num_SqrtMul.l0, ifn (by decide)]
theorem sqrt_loop (k : Nat) (P : Int) (hP : 0 ≤ P) (hP' : P < 85070591730234615865843651857942052864) (j : Nat) : ∀ (r : Int) (n : Nat), j ≤ 62 → 0 ≤ r → r % 2 ^ (j + 1) = 0 → r + 2 ^ (j + 1) ≤ 9223372036854775808 → r * r ≤ P → P < (r + 2 ^ (j + 1)) * (r + 2 ^ (j + 1)) → j + 1 < n →
    ∃ s, num_SqrtMul.l0 k (P / 18446744073709551616) (P % 18446744073709551616) n r (2 ^ j) = some s ∧ 0 ≤ s ∧ s ≤ 9223372036854775807 ∧ s * s ≤ P ∧ P < (s + 1) * (s + 1) := by
  induction j with
  | zero =>
    intro r n _ h0 hm hb hlo hhi hk
    obtain ⟨n, rfl⟩ : ∃ m, n = m + 1 := ⟨n - 1, by omega⟩
    have hor := or_bit r 0 h0 hm (by omega) (by omega)
    have hsq := mul_le (a := r + 1) (b := r + 1) (A := 9223372036854775807) (B := 9223372036854775807) (by omega) (by omega) (by omega) (by omega)
    rw [num_SqrtMul.l0, ifp (by decide), hor, show (2 : Int) ^ 0 = 1 by rfl, bnd (mul64_eq k (r + 1) (r + 1) (by omega) (by omega) (by omega) (by omega))]
    dsimp only
    have e2 : (1 : Int) / 2 = 0 := by decide
    have hhi2 : P < (r + 2) * (r + 2) := hhi
    rw [shr1, e2, sqrt_end k n _ _ (r + 1) (by omega), sqrt_end k n _ _ r (by omega)]
    by_cases c : (r + 1) * (r + 1) ≤ P
    · refine ⟨r + 1, ?_, by omega, by omega, c, ?_⟩
      · generalize (r + 1) * (r + 1) = Q at *
        by_cases c1 : Q / 18446744073709551616 < P / 18446744073709551616
        · rw [ifp c1]
        · rw [ifn c1, ifp (by omega), ifp (by omega)]
      · rw [show r + 1 + 1 = r + 2 by omega]; exact hhi2
    · refine ⟨r, ?_, by omega, by omega, hlo, by omega⟩
      generalize (r + 1) * (r + 1) = Q at *
      rw [ifn (by omega)]
      by_cases c1 : Q / 18446744073709551616 = P / 18446744073709551616
      · rw [ifp c1, ifn (by omega)]
      · rw [ifn c1]
  | succ j ih =>
    intro r n hj h0 hm hb hlo hhi hk
    obtain ⟨n, rfl⟩ : ∃ m, n = m + 1 := ⟨n - 1, by omega⟩
    have hp : (0 : Int) < 2 ^ j := Int.pow_pos (by decide)
    have hp1 : (2 : Int) ^ (j + 1) = 2 * 2 ^ j := by rw [Int.pow_succ]; omega
    have hp2 : (2 : Int) ^ (j + 1 + 1) = 4 * 2 ^ j := by rw [Int.pow_succ, hp1]; omega
    have hor := or_bit r (j + 1) h0 hm (by omega) (by omega)
    have hm1 : r % 2 ^ (j + 1) = 0 := by
      have hd : ((2 : Int) ^ (j + 1)) ∣ 2 ^ (j + 1 + 1) := ⟨2, by rw [Int.pow_succ]⟩
      exact Int.emod_eq_zero_of_dvd (Int.dvd_trans hd (Int.dvd_of_emod_eq_zero hm))
    have hm2 : (r + 2 ^ (j + 1)) % 2 ^ (j + 1) = 0 := by rw [Int.add_emod_right]; exact hm1
    have hdiv : (2 : Int) ^ (j + 1) / 2 = 2 ^ j := by omega
    have hsq := mul_le (a := r + 2 ^ (j + 1)) (b := r + 2 ^ (j + 1)) (A := 9223372036854775807) (B := 9223372036854775807) (by omega) (by omega) (by omega) (by omega)
    rw [num_SqrtMul.l0, ifp (by omega), hor, bnd (mul64_eq k _ _ (by omega) (by omega) (by omega) (by omega))]
    dsimp only
    rw [shr1, hdiv]
    by_cases c : (r + 2 ^ (j + 1)) * (r + 2 ^ (j + 1)) ≤ P
    · obtain ⟨s, e, hs⟩ := ih (r + 2 ^ (j + 1)) n (by omega) (by omega) hm2 (by omega) c (by rw [show r + 2 ^ (j + 1) + 2 ^ (j + 1) = r + 2 ^ (j + 1 + 1) by omega]; exact hhi) (by omega)
      refine ⟨s, ?_, hs⟩
      rw [e]
      generalize (r + 2 ^ (j + 1)) * (r + 2 ^ (j + 1)) = Q at *
      by_cases c1 : Q / 18446744073709551616 < P / 18446744073709551616
      · rw [ifp c1]
      · rw [ifn c1, ifp (by omega), ifp (by omega)]
    · obtain ⟨s, e, hs⟩ := ih r n (by omega) h0 hm1 (by omega) hlo (by omega) (by omega)
      refine ⟨s, ?_, hs⟩
      rw [e]
      generalize (r + 2 ^ (j + 1)) * (r + 2 ^ (j + 1)) = Q at *
      rw [ifn (by omega)]
      by_cases c1 : Q / 18446744073709551616 = P / 18446744073709551616
      · rw [ifp c1, ifn (by omega)]
      · rw [ifn c1]
theorem sqrtmul_ex (k : Nat) (a b : Int) (ha : 0 ≤ a) (ha' : a ≤ 9223372036854775807) (hb : 0 ≤ b) (hb' : b ≤ 9223372036854775807) (hk : 70 ≤ k) :
    ∃ s, num_SqrtMul k a b = some s ∧ 0 ≤ s ∧ s ≤ 9223372036854775807 ∧ s * s ≤ a * b ∧ a * b < (s + 1) * (s + 1) := by
  have hP := mul_le ha ha' hb hb'
  obtain ⟨s, e, hs⟩ := sqrt_loop k (a * b) hP.1 (by omega) 62 0 k (by omega) (by omega) (by decide) (by decide) (by omega) (by
    show a * b < 9223372036854775808 * 9223372036854775808
    omega) (by omega)
  refine ⟨s, ?_, hs⟩
  have hp : (2 : Int) ^ 62 = 4611686018427387904 := by decide
  rw [hp] at e
  unfold num_SqrtMul
  rw [ifn (by omega), ifn (by omega), wuid ha (by omega), wuid hb (by omega), bnd (mul64_eq k a b ha (by omega) hb (by omega))]
  dsimp only
  rw [bnd e, wid (by omega) (by omega)]
/-- The square root of a number, rounded down. -/
noncomputable def isq (n : Int) : Int := (num_Sqrt 70 n).getD 0
theorem root_unique {n r s : Int} (hr : 0 ≤ r) (hs : 0 ≤ s) (h1 : r * r ≤ n) (h2 : n < (r + 1) * (r + 1)) (h3 : s * s ≤ n) (h4 : n < (s + 1) * (s + 1)) : r = s := by
  have l1 : r < s + 1 := sq_lt hr (by omega) (by omega)
  have l2 : s < r + 1 := sq_lt hs (by omega) (by omega)
  omega
theorem isq_all (n : Int) (h : 0 ≤ n) (h' : n ≤ 9223372036854775807) : (∀ k, 70 ≤ k → num_Sqrt k n = some (isq n)) ∧ 0 ≤ isq n ∧ isq n ≤ 9223372036854775807 ∧ isq n * isq n ≤ n ∧ n < (isq n + 1) * (isq n + 1) := by
  obtain ⟨s, e, h0, h1, h2, h3⟩ := sqrtmul_ex 70 n 1 h h' (by omega) (by omega) (by omega)
  rw [Int.mul_one] at h2 h3
  have hs : ∀ k, 70 ≤ k → num_Sqrt k n = some s := by
    intro k hk
    obtain ⟨s', e', g0, g1, g2, g3⟩ := sqrtmul_ex k n 1 h h' (by omega) (by omega) hk
    rw [Int.mul_one] at g2 g3
    unfold num_Sqrt
    rw [bnd e', root_unique g0 h0 g2 g3 h2 h3]
  have hi : isq n = s := by unfold isq; rw [hs 70 (Nat.le_refl _)]; rfl
  rw [hi]
  exact ⟨hs, h0, h1, h2, h3⟩
theorem isq_mono {a b : Int} (h0 : 0 ≤ a) (h : a ≤ b) (h' : b ≤ 9223372036854775807) : isq a ≤ isq b := by
  obtain ⟨_, a0, _, a2, a3⟩ := isq_all a h0 (by omega)
  obtain ⟨_, b0, _, b2, b3⟩ := isq_all b (by omega) h'
  have : isq a < isq b + 1 := sq_lt a0 (by omega) (by omega)
  omega
/-- Which number is the root. -/
theorem isq_is {n r : Int} (h0 : 0 ≤ n) (h' : n ≤ 9223372036854775807) (hr : 0 ≤ r) (h1 : r * r ≤ n) (h2 : n < (r + 1) * (r + 1)) : isq n = r := by
  obtain ⟨_, a0, _, a2, a3⟩ := isq_all n h0 h'
  exact root_unique a0 hr a2 a3 h1 h2
theorem shr8 (x : Int) : shr x 8 = x / 256 := shr_def x 8
theorem shr16 (x : Int) : shr x 16 = x / 65536 := shr_def x 16
theorem u8_eq (n : Int) : u8 n = n % 256 := u8_def n
theorem len_size : (str0.size : Int) = 256 := by decide +kernel
theorem len_tab : ∀ i : Fin 256, 0 < i.val → ∃ t ∈ [1, 2, 3, 4, 5, 6, 7, 8], bt str0 (i.val : Int) = ((t : Nat) : Int) ∧ 2 ^ (t - 1) ≤ i.val ∧ i.val < 2 ^ t := by decide +kernel
theorem len_idx (i : Int) (h0 : 1 ≤ i) (h1 : i ≤ 255) : ∃ t : Nat, bt str0 i = t ∧ 1 ≤ t ∧ t ≤ 8 ∧ (2 : Int) ^ (t - 1) ≤ i ∧ i < 2 ^ t := by
  obtain ⟨t, ht, e, l, u⟩ := len_tab ⟨i.toNat, by omega⟩ (by show 0 < i.toNat; omega)
  have ei : ((i.toNat : Nat) : Int) = i := by omega
  simp only [ei] at e
  have ht2 : 1 ≤ t ∧ t ≤ 8 := by simp at ht; omega
  refine ⟨t, e, ht2.1, ht2.2, ?_, ?_⟩
  · have : ((2 ^ (t - 1) : Nat) : Int) ≤ ((i.toNat : Nat) : Int) := Int.ofNat_le.mpr l
    rw [ei, Int.natCast_pow] at this; exact this
  · have : ((i.toNat : Nat) : Int) < ((2 ^ t : Nat) : Int) := Int.ofNat_lt.mpr u
    rw [ei, Int.natCast_pow] at this; exact this
theorem pow_shift (x i : Int) (m t : Nat) (h1 : 1 ≤ t) (hi : i = x / 2 ^ m) (hl : (2 : Int) ^ (t - 1) ≤ i) (hu : i < 2 ^ t) : (2 : Int) ^ (m + t - 1) ≤ x ∧ x < 2 ^ (m + t) := by
  have hp : (0 : Int) < 2 ^ m := Int.pow_pos (by decide)
  have e1 : (2 : Int) ^ (m + t - 1) = 2 ^ (t - 1) * 2 ^ m := by rw [show m + t - 1 = (t - 1) + m by omega, Int.pow_add]
  have e2 : (2 : Int) ^ (m + t) = 2 ^ t * 2 ^ m := by rw [show m + t = t + m by omega, Int.pow_add]
  constructor
  · rw [e1]
    exact (Int.le_ediv_iff_mul_le hp).mp (hi ▸ hl)
  · rw [e2]
    exact (Int.ediv_lt_iff_lt_mul hp).mp (hi ▸ hu)
/-- The number of bits of a number. -/
theorem len64_ex (k : Nat) (x : Int) (h0 : 1 ≤ x) (h1 : x < 18446744073709551616) : ∃ L : Nat, bits_Len64 k x = some (L : Int) ∧ 1 ≤ L ∧ L ≤ 64 ∧ (2 : Int) ^ (L - 1) ≤ x ∧ x < 2 ^ L := by
  have last : ∀ (z : Int) (n : Int), 1 ≤ z → z < 65536 → 0 ≤ n → n ≤ 56 → ∃ m t : Nat, (if z ≥ 256 then (if 0 ≤ (u8 (shr z 8)) then (if (u8 (shr z 8)) < (str0.size : Int) then (some (w64 ((w64 (n + 8)) + (w64 ((bt str0 (u8 (shr z 8)))))))) else none) else none) else (if 0 ≤ (u8 (z)) then (if (u8 (z)) < (str0.size : Int) then (some (w64 (n + (w64 ((bt str0 (u8 (z)))))))) else none) else none) : Option Int) = some (n + ((m + t : Nat) : Int)) ∧ 1 ≤ t ∧ m + t ≤ 16 ∧ (2 : Int) ^ (m + t - 1) ≤ z ∧ z < 2 ^ (m + t) := by
    intro z n z0 z1 n0 n1
    rw [len_size, shr8, u8_eq, u8_eq]
    by_cases b : z ≥ 256
    · obtain ⟨t, e, t1, t8, l, u⟩ := len_idx (z / 256 % 256) (by omega) (by omega)
      obtain ⟨p, q⟩ := pow_shift z (z / 256 % 256) 8 t t1 (by show _ = z / 256; omega) l u
      refine ⟨8, t, ?_, t1, by omega, p, q⟩
      rw [ifp b, ifp (by omega), ifp (by omega), e, wid (x := n + 8) (by omega) (by omega), wid (x := (t : Int)) (by omega) (by omega), wid (by omega) (by omega)]
      congr 1; omega
    · obtain ⟨t, e, t1, t8, l, u⟩ := len_idx (z % 256) (by omega) (by omega)
      obtain ⟨p, q⟩ := pow_shift z (z % 256) 0 t t1 (by show _ = z / 1; omega) l u
      refine ⟨0, t, ?_, t1, by omega, p, q⟩
      rw [ifn b, ifp (by omega), ifp (by omega), e, wid (x := (t : Int)) (by omega) (by omega), wid (by omega) (by omega)]
      congr 1; omega
  have key : ∀ (y : Int) (n : Int), 1 ≤ y → y < 4294967296 → 0 ≤ n → n ≤ 32 → ∃ m : Nat, (((if y ≥ 65536 then (some ((shr y 16), (w64 (n + 16)))) else (some (y, n)) : Option (Int × Int))).bind fun (z, n) => (if z ≥ 256 then (if 0 ≤ (u8 (shr z 8)) then (if (u8 (shr z 8)) < (str0.size : Int) then (some (w64 ((w64 (n + 8)) + (w64 ((bt str0 (u8 (shr z 8)))))))) else none) else none) else (if 0 ≤ (u8 (z)) then (if (u8 (z)) < (str0.size : Int) then (some (w64 (n + (w64 ((bt str0 (u8 (z)))))))) else none) else none))) = some (n + (m : Int)) ∧ 1 ≤ m ∧ m ≤ 32 ∧ (2 : Int) ^ (m - 1) ≤ y ∧ y < 2 ^ m := by
    intro y n y0 y1 n0 n1
    by_cases a : y ≥ 65536
    · rw [ifp a, shr16, wid (x := n + 16) (by omega) (by omega)]
      obtain ⟨m, t, e, t1, mt, l, u⟩ := last (y / 65536) (n + 16) (by omega) (by omega) (by omega) (by omega)
      obtain ⟨p, q⟩ := pow_shift y (y / 65536) 16 (m + t) (by omega) (by rfl) l u
      refine ⟨16 + (m + t), ?_, by omega, by omega, p, q⟩
      dsimp only [Option.bind_some]
      rw [e]; congr 1; omega
    · rw [ifn a]
      obtain ⟨m, t, e, t1, mt, l, u⟩ := last y n y0 (by omega) n0 (by omega)
      exact ⟨m + t, e, by omega, by omega, l, u⟩
  unfold bits_Len64
  by_cases c : x ≥ 4294967296
  · rw [ifp c, shr32]
    obtain ⟨m, e, m1, m2, l, u⟩ := key (x / 4294967296) 32 (by omega) (by omega) (by decide) (by decide)
    obtain ⟨p, q⟩ := pow_shift x (x / 4294967296) 32 m m1 rfl l u
    refine ⟨32 + m, ?_, by omega, by omega, p, q⟩
    dsimp only [Option.bind_some]
    refine Eq.trans e ?_
    congr 1
  · rw [ifn c]
    obtain ⟨m, e, m1, m2, l, u⟩ := key x 0 (by omega) (by omega) (by decide) (by decide)
    refine ⟨m, ?_, by omega, by omega, l, u⟩
    dsimp only [Option.bind_some]
    refine Eq.trans e ?_
    congr 1
    omega
/-- One step of the division of two words by one: what is known of a guess q of the quotient Q. -/
theorem kn (y a b u n q r Q : Int) (ha : 2147483648 ≤ a) (ha' : a < 4294967296) (hb : 0 ≤ b) (hb' : b < 4294967296) (hy : y = a * 4294967296 + b) (hu : 0 ≤ u) (hu' : u < y) (hn : 0 ≤ n) (hn' : n < 4294967296)
    (hr : 0 ≤ r) (hqr : q * a + r = u) (hQ : Q = (u * 4294967296 + n) / y) (hQq : Q ≤ q) :
    q ≤ 4294967297 ∧ 0 ≤ Q ∧ Q < 4294967296 ∧ 0 ≤ u * 4294967296 + n - Q * y ∧ u * 4294967296 + n - Q * y < y ∧ (q * b > 4294967296 * r + n ↔ Q < q) ∧ (4294967296 ≤ r → q = Q) := by
  have hypos : 0 < y := by omega
  have q1 : Q * y ≤ u * 4294967296 + n := by rw [hQ]; exact Int.ediv_mul_le _ (by omega)
  have q2 : u * 4294967296 + n < Q * y + y := by
    have := Int.lt_ediv_add_one_mul_self (u * 4294967296 + n) hypos
    rw [← hQ, Int.add_mul] at this
    omega
  have q3 : 0 ≤ Q := by rw [hQ]; exact Int.ediv_nonneg (by omega) (by omega)
  have q4 : Q < 4294967296 := by
    rcases Int.lt_or_le Q 4294967296 with g | g
    · exact g
    · have : 4294967296 * y ≤ Q * y := Int.mul_le_mul_of_nonneg_right g (by omega)
      omega
  have q5 : q ≤ 4294967297 := by
    rcases Int.lt_or_le 4294967297 q with g | g
    · have h1 : 4294967298 * a ≤ q * a := Int.mul_le_mul_of_nonneg_right (by omega) (by omega)
      omega
    · exact g
  have e : q * y = q * a * 4294967296 + q * b := by rw [hy]; grind
  have lt1 : Q < q → u * 4294967296 + n < q * y := by
    intro g
    have : (Q + 1) * y ≤ q * y := Int.mul_le_mul_of_nonneg_right (by omega) (by omega)
    rw [Int.add_mul] at this
    omega
  have lt2 : ¬ Q < q → q * y ≤ u * 4294967296 + n := by
    intro g
    have : q = Q := by omega
    rw [this]; exact q1
  refine ⟨q5, q3, q4, by omega, by omega, ⟨fun g => ?_, fun g => ?_⟩, fun g => ?_⟩
  · rcases Int.lt_or_le Q q with h | h
    · exact h
    · have := lt2 (by omega); omega
  · have := lt1 g; omega
  · rcases Int.lt_or_le Q q with h | h
    · have h1 := lt1 h
      have h2 : q * b ≤ 4294967297 * 4294967295 := Int.mul_le_mul q5 (by omega) hb (by omega)
      omega
    · omega
theorem wsub (q : Int) (h : 1 ≤ q) (h' : q ≤ 18446744073709551615) : u64 (q - 1) = q - 1 := wuid (by omega) (by omega)
/-- The test of a round: is the guess too great? -/
theorem div_flag (y a b u n q r Q : Int) (ha : 2147483648 ≤ a) (ha' : a < 4294967296) (hb : 0 ≤ b) (hb' : b < 4294967296) (hy : y = a * 4294967296 + b) (hu : 0 ≤ u) (hu' : u < y) (hn : 0 ≤ n) (hn' : n < 4294967296)
    (hr : 0 ≤ r) (hr' : r < 4294967296) (hqr : q * a + r = u) (hQ : Q = (u * 4294967296 + n) / y) (hQq : Q ≤ q) (h : ¬ q ≥ 4294967296) :
    u64 (q * b) > u64 (u64 (4294967296 * r) + n) ↔ Q < q := by
  obtain ⟨k1, k2, k3, k4, k5, k6, k7⟩ := kn y a b u n q r Q ha ha' hb hb' hy hu hu' hn hn' hr hqr hQ hQq
  have hm := mul_le (a := q) (b := b) (A := 4294967295) (B := 4294967295) (by omega) (by omega) hb (by omega)
  rw [wuid (x := q * b) (by omega) (by omega), wuid (x := 4294967296 * r) (by omega) (by omega), wuid (x := 4294967296 * r + n) (by omega) (by omega)]
  exact k6
theorem div_l0 (k : Nat) (y0 lo0 s y a b u n m Q : Int) (hY : u64 (y0 * 2 ^ (min (u64 s).toNat 64)) = y) (hM : u64 (lo0 * 2 ^ (min (u64 s).toNat 64)) = m) (hm : m / 4294967296 = n) (hya : y / 4294967296 = a) (hyb : Go.bits .and .u64 y 4294967295 = b)
    (ha : 2147483648 ≤ a) (ha' : a < 4294967296) (hb : 0 ≤ b) (hb' : b < 4294967296) (hy : y = a * 4294967296 + b) (hu : 0 ≤ u) (hu' : u < y) (hn : 0 ≤ n) (hn' : n < 4294967296)
    (hQ : Q = (u * 4294967296 + n) / y) (d : Nat) :
    ∀ (j : Nat) (q r : Int), 4294967296 ≤ r + d * 2147483648 → 0 ≤ r → r < 4294967296 → q * a + r = u → Q ≤ q → d + 1 ≤ j → bits_Div64.l0 k y0 s lo0 j q r = some Q := by
  induction d with
  | zero => intro j q r h1 h2 h3; simp at h1; omega
  | succ d ih =>
    intro j q r h1 h2 h3 hqr hQq hk
    obtain ⟨j, rfl⟩ : ∃ i, j = i + 1 := ⟨j - 1, by omega⟩
    have hk' := kn y a b u n q r Q ha ha' hb hb' hy hu hu' hn hn' h2 hqr hQ hQq
    obtain ⟨k1, k2, k3, k4, k5, k6, k7⟩ := hk'
    rw [bits_Div64.l0, hY, hM, shr32, shr32, hm, hya, hyb]
    have big : Q < q → (if u64 (r + a) ≥ 4294967296 then some (u64 (q - 1)) else bits_Div64.l0 k y0 s lo0 j (u64 (q - 1)) (u64 (r + a))) = some Q := by
      intro c
      rw [wuid (x := r + a) (by omega) (by omega), wsub q (by omega) (by omega)]
      have hqr' : (q - 1) * a + (r + a) = u := by rw [Int.sub_mul]; omega
      by_cases c2 : r + a ≥ 4294967296
      · rw [ifp c2]
        obtain ⟨_, _, _, _, _, _, k7'⟩ := kn y a b u n (q - 1) (r + a) Q ha ha' hb hb' hy hu hu' hn hn' (by omega) hqr' hQ (by omega)
        rw [k7' c2]
      · rw [ifn c2]
        exact ih j (q - 1) (r + a) (by omega) (by omega) (by omega) hqr' (by omega) (by omega)
    by_cases c : q ≥ 4294967296
    · rw [ifp c]; exact big (by omega)
    · have fl := div_flag y a b u n q r Q ha ha' hb hb' hy hu hu' hn hn' h2 h3 hqr hQ hQq c
      rw [ifn c]
      by_cases g : Q < q
      · rw [ifp (fl.mpr g)]; exact big g
      · rw [ifn (fun z => g (fl.mp z)), show q = Q by omega]
theorem div_l1 (k : Nat) (y0 lo0 s y a b u n m Q : Int) (hY : u64 (y0 * 2 ^ (min (u64 s).toNat 64)) = y) (hM : u64 (lo0 * 2 ^ (min (u64 s).toNat 64)) = m) (hm : Go.bits .and .u64 m 4294967295 = n) (hya : y / 4294967296 = a) (hyb : Go.bits .and .u64 y 4294967295 = b)
    (ha : 2147483648 ≤ a) (ha' : a < 4294967296) (hb : 0 ≤ b) (hb' : b < 4294967296) (hy : y = a * 4294967296 + b) (hu : 0 ≤ u) (hu' : u < y) (hn : 0 ≤ n) (hn' : n < 4294967296)
    (hQ : Q = (u * 4294967296 + n) / y) (d : Nat) :
    ∀ (j : Nat) (q r : Int), 4294967296 ≤ r + d * 2147483648 → 0 ≤ r → r < 4294967296 → q * a + r = u → Q ≤ q → d + 1 ≤ j → bits_Div64.l1 k y0 s lo0 j r q = some Q := by
  induction d with
  | zero => intro j q r h1 h2 h3; simp at h1; omega
  | succ d ih =>
    intro j q r h1 h2 h3 hqr hQq hk
    obtain ⟨j, rfl⟩ : ∃ i, j = i + 1 := ⟨j - 1, by omega⟩
    have hk' := kn y a b u n q r Q ha ha' hb hb' hy hu hu' hn hn' h2 hqr hQ hQq
    obtain ⟨k1, k2, k3, k4, k5, k6, k7⟩ := hk'
    rw [bits_Div64.l1, hY, hM, shr32, hm, hya, hyb]
    have big : Q < q → (if u64 (r + a) ≥ 4294967296 then some (u64 (q - 1)) else bits_Div64.l1 k y0 s lo0 j (u64 (r + a)) (u64 (q - 1))) = some Q := by
      intro c
      rw [wuid (x := r + a) (by omega) (by omega), wsub q (by omega) (by omega)]
      have hqr' : (q - 1) * a + (r + a) = u := by rw [Int.sub_mul]; omega
      by_cases c2 : r + a ≥ 4294967296
      · rw [ifp c2]
        obtain ⟨_, _, _, _, _, _, k7'⟩ := kn y a b u n (q - 1) (r + a) Q ha ha' hb hb' hy hu hu' hn hn' (by omega) hqr' hQ (by omega)
        rw [k7' c2]
      · rw [ifn c2]
        exact ih j (q - 1) (r + a) (by omega) (by omega) (by omega) hqr' (by omega) (by omega)
    by_cases c : q ≥ 4294967296
    · rw [ifp c]; exact big (by omega)
    · have fl := div_flag y a b u n q r Q ha ha' hb hb' hy hu hu' hn hn' h2 h3 hqr hQ hQq c
      rw [ifn c]
      by_cases g : Q < q
      · rw [ifp (fl.mpr g)]; exact big g
      · rw [ifn (fun z => g (fl.mp z)), show q = Q by omega]
theorem u64_join (x y : Int) (s : Nat) (hs : s ≤ 64) (hx0 : 0 ≤ x) (hx : x < 18446744073709551616) (hm : x % 2 ^ s = 0) (hy0 : 0 ≤ y) (hy : y < 2 ^ s) (hy' : y < 18446744073709551616) : Go.bits .or .u64 x y = x + y :=
  Go.bits_join .u64 64 (by decide) (fun n h0 h1 => by have h2 : n < 18446744073709551616 := h1; rw [IntKind.wrap_u64]; omega) s x y hx0 hm hx hy0 hy hy'
/-- Two words divided by one. -/
theorem div64_eq (k : Nat) (hi lo y : Int) (h0 : 0 ≤ hi) (h1 : hi < y) (l0 : 0 ≤ lo) (l1 : lo < 18446744073709551616) (hy : y < 18446744073709551616) (hk : 20 ≤ k) :
    bits_Div64 k hi lo y = some ((hi * 18446744073709551616 + lo) / y, (hi * 18446744073709551616 + lo) % y) := by
  unfold bits_Div64
  rw [ifn (by omega), ifn (by omega)]
  by_cases c : hi = 0
  · subst c
    have hd : 0 ≤ lo / y := Int.ediv_nonneg l0 (by omega)
    have hd2 : lo / y ≤ lo := Int.ediv_le_self _ l0
    rw [ifp rfl, ifp (by omega), tdiv_nn l0, tmod_nn l0, wuid hd (by omega)]
    simp
  · rw [ifn c]
    obtain ⟨L, hL, L1, L64, Ll, Lu⟩ := len64_ex k y (by omega) hy
    obtain ⟨s, hs⟩ : ∃ s : Nat, s = 64 - L := ⟨_, rfl⟩
    have hs64 : s ≤ 63 := by omega
    have hlz : bits_LeadingZeros64 k y = some (s : Int) := by
      unfold bits_LeadingZeros64
      rw [bnd hL, wid (by omega) (by omega)]
      congr 1; omega
    rw [bnd hlz]
    have hS : u64 ((s : Nat) : Int) = (s : Int) := wuid (by omega) (by omega)
    have hSm : min (u64 ((s : Nat) : Int)).toNat 64 = s := by rw [hS]; omega
    have hps : (0 : Int) < 2 ^ s := Int.pow_pos (by decide)
    have hpc : (0 : Int) < 2 ^ (64 - s) := Int.pow_pos (by decide)
    have hpp : (2 : Int) ^ s * 2 ^ (64 - s) = 18446744073709551616 := by rw [← Int.pow_add, show s + (64 - s) = 64 by omega]; rfl
    have hpl : (2 : Int) ^ (L - 1) * 2 ^ s = 9223372036854775808 := by rw [← Int.pow_add, show L - 1 + s = 63 by omega]; rfl
    have hpL : (2 : Int) ^ L * 2 ^ s = 18446744073709551616 := by rw [← Int.pow_add, show L + s = 64 by omega]; rfl
    have y1 : 9223372036854775808 ≤ y * 2 ^ s := by rw [← hpl]; exact Int.mul_le_mul_of_nonneg_right Ll (by omega)
    have y2 : y * 2 ^ s < 18446744073709551616 := by rw [← hpL]; exact Int.mul_lt_mul_of_pos_right Lu hps
    have x1 : hi * 2 ^ s + 2 ^ s ≤ y * 2 ^ s := by
      have : (hi + 1) * 2 ^ s ≤ y * 2 ^ s := Int.mul_le_mul_of_nonneg_right (by omega) (by omega)
      rw [Int.add_mul] at this; omega
    have x0 : 0 ≤ hi * 2 ^ s := Int.mul_nonneg h0 (by omega)
    have d0 : 0 ≤ lo / 2 ^ (64 - s) := Int.ediv_nonneg l0 (by omega)
    have d1 : lo / 2 ^ (64 - s) < 2 ^ s := Int.ediv_lt_of_lt_mul hpc (by rw [hpp]; exact l1)
    have hlo : lo * 2 ^ s / 18446744073709551616 = lo / 2 ^ (64 - s) := by
      rw [← hpp, Int.mul_comm (2 ^ s) (2 ^ (64 - s))]
      exact Int.mul_ediv_mul_of_pos_left _ _ hps
    have hlm := Int.mul_ediv_add_emod (lo * 2 ^ s) 18446744073709551616
    have hl0 : 0 ≤ lo * 2 ^ s := Int.mul_nonneg l0 (by omega)
    rw [hlo] at hlm
    have em : hi * 2 ^ s % 2 ^ s = 0 := Int.mul_emod_left _ _
    have hY1 : u64 (y * 2 ^ (min (u64 ((s : Nat) : Int)).toNat 64)) = y * 2 ^ s := by rw [hSm]; exact wuid (by omega) (by omega)
    have hX1 : u64 (hi * 2 ^ (min (u64 ((s : Nat) : Int)).toNat 64)) = hi * 2 ^ s := by rw [hSm]; exact wuid (by omega) (by omega)
    have hM1 : u64 (lo * 2 ^ (min (u64 ((s : Nat) : Int)).toNat 64)) = lo * 2 ^ s % 18446744073709551616 := by rw [hSm, u64_def]
    have hD1 : shr lo (min (u64 (64 - u64 ((s : Nat) : Int))).toNat 64) = lo / 2 ^ (64 - s) := by
      rw [hS, wuid (x := 64 - (s : Int)) (by omega) (by omega), shr_def]
      congr 2
      omega
    rw [hY1, hX1, hM1, hD1]
    rw [ifp (by rw [hS]; omega), ifp (by rw [hS, wuid (x := 64 - (s : Int)) (by omega) (by omega)]; omega)]
    rw [u64_join (hi * 2 ^ s) (lo / 2 ^ (64 - s)) s (by omega) x0 (by omega) em d0 d1 (by omega)]
    -- the words of the normalized numbers
    have big : (hi * 2 ^ s + lo / 2 ^ (64 - s)) * 18446744073709551616 + lo * 2 ^ s % 18446744073709551616 = (hi * 18446744073709551616 + lo) * 2 ^ s := by
      have : (hi * 18446744073709551616 + lo) * 2 ^ s = hi * 2 ^ s * 18446744073709551616 + lo * 2 ^ s := by grind
      rw [this]; omega
    have hu' : hi * 2 ^ s + lo / 2 ^ (64 - s) < y * 2 ^ s := by omega
    have m0 := Int.emod_nonneg (lo * 2 ^ s) (show (18446744073709551616 : Int) ≠ 0 by decide)
    have m1 := Int.emod_lt_of_pos (lo * 2 ^ s) (show (0 : Int) < 18446744073709551616 by decide)
    generalize hU : hi * 2 ^ s + lo / 2 ^ (64 - s) = u at *
    generalize hM : lo * 2 ^ s % 18446744073709551616 = m at *
    generalize hY : y * 2 ^ s = Y at *
    have hyb : Go.bits .and .u64 Y 4294967295 = Y % 4294967296 := u64_and32 Y (by omega) (by omega)
    have hmb : Go.bits .and .u64 m 4294967295 = m % 4294967296 := u64_and32 m (by omega) (by omega)
    rw [shr32 Y, shr32 m, hmb, ifp (by omega), tdiv_nn (by omega)]
    have hu0 : 0 ≤ u := by omega
    have ha : 2147483648 ≤ Y / 4294967296 := by omega
    have ha' : Y / 4294967296 < 4294967296 := by omega
    have hYe : Y = Y / 4294967296 * 4294967296 + Y % 4294967296 := by omega
    have qe := Int.mul_ediv_add_emod u (Y / 4294967296)
    have qm0 := Int.emod_nonneg u (show Y / 4294967296 ≠ 0 by omega)
    have qm1 := Int.emod_lt_of_pos u (show 0 < Y / 4294967296 by omega)
    have qd0 : 0 ≤ u / (Y / 4294967296) := Int.ediv_nonneg hu0 (by omega)
    have qd1 : u / (Y / 4294967296) ≤ u := Int.ediv_le_self _ hu0
    have hmul : u / (Y / 4294967296) * (Y / 4294967296) = u - u % (Y / 4294967296) := by rw [Int.mul_comm]; omega
    have hmn : 0 ≤ u / (Y / 4294967296) * (Y / 4294967296) := Int.mul_nonneg qd0 (by omega)
    have guess : ∀ (v n : Int), 0 ≤ v → v < Y → 0 ≤ n → n < 4294967296 → (v * 4294967296 + n) / Y ≤ v / (Y / 4294967296) := by
      intro v n hv hv' hn hn'
      rw [Int.le_ediv_iff_mul_le (by omega)]
      have a1 := Int.ediv_mul_le (v * 4294967296 + n) (show Y ≠ 0 by omega)
      have a2 : (v * 4294967296 + n) / Y * Y = (v * 4294967296 + n) / Y * (Y / 4294967296) * 4294967296 + (v * 4294967296 + n) / Y * (Y % 4294967296) := by
        conv => lhs; rhs; rw [hYe]
        grind
      have a3 : 0 ≤ (v * 4294967296 + n) / Y := Int.ediv_nonneg (by omega) (by omega)
      have a4 : 0 ≤ (v * 4294967296 + n) / Y * (Y % 4294967296) := Int.mul_nonneg a3 (by omega)
      omega
    have wq : u64 (u / (Y / 4294967296)) = u / (Y / 4294967296) := wuid qd0 (by omega)
    rw [wq, hmul, wuid (x := u - u % (Y / 4294967296)) (by omega) (by omega), show u - (u - u % (Y / 4294967296)) = u % (Y / 4294967296) by omega, wuid (x := u % (Y / 4294967296)) (by omega) (by omega)]
    -- the first digit
    obtain ⟨Q, hQ⟩ : ∃ Q, Q = (u * 4294967296 + m / 4294967296) / Y := ⟨_, rfl⟩
    have g1 := guess u (m / 4294967296) hu0 hu' (by omega) (by omega)
    rw [← hQ] at g1
    obtain ⟨_, k2, k3, k4, k5, _, _⟩ := kn Y (Y / 4294967296) (Y % 4294967296) u (m / 4294967296) (u / (Y / 4294967296)) (u % (Y / 4294967296)) Q ha ha' (by omega) (by omega) hYe hu0 hu' (by omega) (by omega) qm0 (by rw [hmul]; omega) hQ g1
    rw [bnd (div_l0 k y lo s Y (Y / 4294967296) (Y % 4294967296) u (m / 4294967296) m Q hY1 hM1 rfl rfl hyb ha ha' (by omega) (by omega) hYe hu0 hu' (by omega) (by omega) hQ 2 k _ _ (by omega) qm0 (by omega) (by rw [hmul]; omega) g1 (by omega))]
    -- the second digit
    obtain ⟨R, hR⟩ : ∃ R, R = u * 4294967296 + m / 4294967296 - Q * Y := ⟨_, rfl⟩
    have eR : u64 (u64 (u64 (u * 4294967296) + m / 4294967296) - u64 (Q * Y)) = R := by
      rw [hR]
      generalize Q * Y = Z at *
      simp only [u64_def]
      omega
    have hR0 : 0 ≤ R := by omega
    have hR1 : R < Y := by omega
    have rm0 := Int.emod_nonneg R (show Y / 4294967296 ≠ 0 by omega)
    have rm1 := Int.emod_lt_of_pos R (show 0 < Y / 4294967296 by omega)
    have re := Int.mul_ediv_add_emod R (Y / 4294967296)
    have rd0 : 0 ≤ R / (Y / 4294967296) := Int.ediv_nonneg hR0 (by omega)
    have rd1 : R / (Y / 4294967296) ≤ R := Int.ediv_le_self _ hR0
    have rmul : R / (Y / 4294967296) * (Y / 4294967296) = R - R % (Y / 4294967296) := by rw [Int.mul_comm]; omega
    have rmn : 0 ≤ R / (Y / 4294967296) * (Y / 4294967296) := Int.mul_nonneg rd0 (by omega)
    rw [eR, tdiv_nn hR0, wuid (x := R / (Y / 4294967296)) (by omega) (by omega), rmul, wuid (x := R - R % (Y / 4294967296)) (by omega) (by omega), show R - (R - R % (Y / 4294967296)) = R % (Y / 4294967296) by omega, wuid (x := R % (Y / 4294967296)) (by omega) (by omega)]
    have g2 := guess R (m % 4294967296) hR0 hR1 (by omega) (by omega)
    obtain ⟨P, hP⟩ : ∃ P, P = (R * 4294967296 + m % 4294967296) / Y := ⟨_, rfl⟩
    rw [← hP] at g2
    rw [bnd (div_l1 k y lo s Y (Y / 4294967296) (Y % 4294967296) R (m % 4294967296) m P hY1 hM1 hmb rfl hyb ha ha' (by omega) (by omega) hYe hR0 hR1 (by omega) (by omega) hP 2 k (R / (Y / 4294967296)) (R % (Y / 4294967296)) (by omega) rm0 (by omega) (by rw [rmul]; omega) g2 (by omega))]
    -- together
    have hYpos : 0 < Y := by omega
    have p1 := Int.mul_ediv_add_emod (R * 4294967296 + m % 4294967296) Y
    have p2 := Int.emod_nonneg (R * 4294967296 + m % 4294967296) (show Y ≠ 0 by omega)
    have p3 := Int.emod_lt_of_pos (R * 4294967296 + m % 4294967296) hYpos
    rw [← hP] at p1
    have p4 : Y * P = P * Y := Int.mul_comm _ _
    have p5 : P < 4294967296 := by
      rcases Int.lt_or_le P 4294967296 with g | g
      · exact g
      · have : 4294967296 * Y ≤ P * Y := Int.mul_le_mul_of_nonneg_right g (by omega)
        omega
    have p6 : 0 ≤ P := by rw [hP]; exact Int.ediv_nonneg (by omega) (by omega)
    have fin : u64 (u64 (u64 (R * 4294967296) + m % 4294967296) - u64 (P * Y)) = R * 4294967296 + m % 4294967296 - P * Y := by
      generalize P * Y = Z at *
      simp only [u64_def]
      omega
    rw [fin, hSm, shr_def, wuid (x := Q * 4294967296) (by omega) (by omega), wuid (x := Q * 4294967296 + P) (by omega) (by omega)]
    have tot : (hi * 18446744073709551616 + lo) * 2 ^ s = (Q * 4294967296 + P) * Y + (R * 4294967296 + m % 4294967296 - P * Y) := by
      rw [← big, Int.add_mul, Int.mul_right_comm Q 4294967296 Y]
      generalize Q * Y = Z at *
      generalize P * Y = Z2 at *
      omega
    have hq : (hi * 18446744073709551616 + lo) * 2 ^ s / Y = Q * 4294967296 + P ∧ (hi * 18446744073709551616 + lo) * 2 ^ s % Y = R * 4294967296 + m % 4294967296 - P * Y := by
      refine (Int.ediv_emod_unique hYpos).mpr ⟨?_, by omega, by omega⟩
      rw [tot, Int.mul_comm Y]; omega
    have hq1 : (hi * 18446744073709551616 + lo) / y = Q * 4294967296 + P := by
      rw [← hq.1, ← hY]
      exact (Int.mul_ediv_mul_of_pos_left _ _ hps).symm
    have hq2 : (hi * 18446744073709551616 + lo) % y = (R * 4294967296 + m % 4294967296 - P * Y) / 2 ^ s := by
      rw [← hq.2, ← hY, Int.mul_comm _ (2 ^ s), Int.mul_comm y (2 ^ s), Int.mul_emod_mul_of_pos _ _ hps]
      exact (Int.mul_ediv_cancel_left _ (by omega)).symm
    rw [hq1, hq2]
theorem size_nn (k : Nat) (a : Int) (h0 : 0 ≤ a) (h1 : a ≤ 9223372036854775807) : num_size k a = some a := by
  unfold num_size
  rw [ifn (by omega), wuid h0 (by omega)]
/-- A small product, divided. -/
theorem muldiv_small (k : Nat) (a b c : Int) (ha : 0 ≤ a) (ha' : a ≤ 4611686018427387904) (hb : 0 ≤ b) (hb' : b ≤ 4611686018427387904) (hc : 1 ≤ c) (hc' : c ≤ 4611686018427387904) (hP : a * b ≤ 9223372036854775807) :
    num_MulDiv k a b c = some (a * b / c, 0) := by
  have hP0 : 0 ≤ a * b := Int.mul_nonneg ha hb
  have hq0 : 0 ≤ a * b / c := Int.ediv_nonneg hP0 (by omega)
  have hq1 : a * b / c ≤ a * b := Int.ediv_le_self _ hP0
  have hp : num_Product k a b = some ⟨0, a * b⟩ := by
    unfold num_Product
    rw [bnd (size_nn k a ha (by omega)), bnd (size_nn k b hb (by omega)), bnd (mul64_eq k a b ha (by omega) hb (by omega))]
    dsimp only
    rw [show (decide (a < 0) != decide (b < 0)) = false by rw [decide_eq_false (by omega), decide_eq_false (by omega)]; rfl, ifn (by decide)]
    rw [Int.ediv_eq_zero_of_lt hP0 (by omega), Int.emod_eq_of_lt hP0 (by omega)]
    rfl
  have hd : bits_Div64 k 0 (a * b) c = some (a * b / c, a * b % c) := by
    unfold bits_Div64
    rw [ifn (by omega), ifn (by omega), ifp rfl, ifp (by omega)]
    rw [tdiv_nn hP0, tmod_nn hP0, wuid hq0 (by omega)]
  unfold num_MulDiv
  rw [bnd hp]
  have hw : num_Wide_Div k ⟨0, a * b⟩ c = some (a * b / c, 0) := by
    unfold num_Wide_Div
    dsimp only
    rw [ifn (by omega), ifn (by decide)]
    dsimp only [Option.bind_some]
    rw [wuid (x := 0) (by decide) (by decide), wuid (x := c) (by omega) (by omega), ifn (by omega), bnd hd]
    dsimp only
    rw [ifn (by decide)]
    dsimp only [Option.bind_some]
    rw [ifn (by omega), ifp (by decide), wid (by omega) (by omega)]
  rw [bnd hw]
theorem product_nn (k : Nat) (a b : Int) (ha : 0 ≤ a) (ha' : a ≤ 9223372036854775807) (hb : 0 ≤ b) (hb' : b ≤ 9223372036854775807) : num_Product k a b = some ⟨a * b / 18446744073709551616, a * b % 18446744073709551616⟩ := by
  have hAB := mul_le ha ha' hb hb'
  unfold num_Product
  rw [bnd (size_nn k a ha (by omega)), bnd (size_nn k b hb (by omega)), bnd (mul64_eq k a b ha (by omega) hb (by omega))]
  dsimp only
  rw [show (decide (a < 0) != decide (b < 0)) = false by rw [decide_eq_false (by omega), decide_eq_false (by omega)]; rfl, ifn (by decide), wid (by omega) (by omega)]
/-- A product that isn't negative, divided. -/
theorem muldiv_nn (k : Nat) (a b c : Int) (ha : 0 ≤ a) (ha' : a ≤ 9223372036854775807) (hb : 0 ≤ b) (hb' : b ≤ 9223372036854775807) (hc : 1 ≤ c) (hc' : c ≤ 9223372036854775807) (hlt : a * b / 18446744073709551616 < c) (hq : a * b / c ≤ 9223372036854775807) (hk : 20 ≤ k) :
    num_MulDiv k a b c = some (a * b / c, 0) := by
  have hP : 0 ≤ a * b := Int.mul_nonneg ha hb
  have hAB := mul_le ha ha' hb hb'
  have hq0 : 0 ≤ a * b / c := Int.ediv_nonneg hP (by omega)
  unfold num_MulDiv
  rw [bnd (product_nn k a b ha ha' hb hb')]
  generalize a * b = P at *
  have e : P / 18446744073709551616 * 18446744073709551616 + P % 18446744073709551616 = P := by omega
  have hw : num_Wide_Div k ⟨P / 18446744073709551616, P % 18446744073709551616⟩ c = some (P / c, 0) := by
    unfold num_Wide_Div
    dsimp only
    rw [ifn (by omega), ifn (by omega)]
    dsimp only [Option.bind_some]
    rw [wuid (x := P / 18446744073709551616) (by omega) (by omega), wuid (x := c) (by omega) (by omega), ifn (by omega), bnd (div64_eq k _ _ _ (by omega) hlt (by omega) (by omega) (by omega) hk), e]
    dsimp only
    rw [ifn (by omega)]
    dsimp only [Option.bind_some]
    rw [ifn (by omega), ifp (by omega), wid (by omega) (by omega)]
  rw [bnd hw]
/-- A place whose components are at most 2^22. -/
def In (v : S_Vec) : Prop := -4194304 ≤ v.X ∧ v.X ≤ 4194304 ∧ -4194304 ≤ v.Y ∧ v.Y ≤ 4194304 ∧ -4194304 ≤ v.Z ∧ v.Z ≤ 4194304
instance (v : S_Vec) : Decidable (In v) := by unfold In; infer_instance
theorem within_in (k : Nat) (v : S_Vec) (hk : 5 ≤ k) : sky_within k v 4194304 = some (decide (In v)) := by
  obtain ⟨k, rfl⟩ : ∃ j, k = j + 5 := ⟨k - 5, by omega⟩
  obtain ⟨x, y, z⟩ := v
  have r0 : rd [x, y, z] 0 = x := rfl
  have r1 : rd [x, y, z] 1 = y := rfl
  have r2 : rd [x, y, z] 2 = z := rfl
  have F : ¬ (-4194304 ≤ x ∧ x ≤ 4194304 ∧ -4194304 ≤ y ∧ y ≤ 4194304 ∧ -4194304 ≤ z ∧ z ≤ 4194304) → decide (In ⟨x, y, z⟩) = false := fun h => decide_eq_false h
  have T : (-4194304 ≤ x ∧ x ≤ 4194304 ∧ -4194304 ≤ y ∧ y ≤ 4194304 ∧ -4194304 ≤ z ∧ z ≤ 4194304) → decide (In ⟨x, y, z⟩) = true := fun h => decide_eq_true h
  unfold sky_within
  rw [sky_within.l0]
  dsimp only
  rw [ifp (by decide), ifp (by decide), r0, wid (x := 0 - 4194304) (by decide) (by decide), wid (x := 0 + 1) (by decide) (by decide), show (0 : Int) + 1 = 1 by rfl, show (0 : Int) - 4194304 = -4194304 by rfl]
  by_cases c1 : x < -4194304
  · rw [ifp c1]; dsimp only [Option.bind_some, Sum.elim_inl]; rw [F (by omega)]
  rw [ifn c1]
  by_cases c2 : x > 4194304
  · rw [ifp c2]; dsimp only [Option.bind_some, Sum.elim_inl]; rw [F (by omega)]
  rw [ifn c2, sky_within.l0]
  dsimp only
  rw [ifp (by decide), ifp (by decide), r1, wid (x := 0 - 4194304) (by decide) (by decide), wid (x := 1 + 1) (by decide) (by decide), show (1 : Int) + 1 = 2 by rfl, show (0 : Int) - 4194304 = -4194304 by rfl]
  by_cases c3 : y < -4194304
  · rw [ifp c3]; dsimp only [Option.bind_some, Sum.elim_inl]; rw [F (by omega)]
  rw [ifn c3]
  by_cases c4 : y > 4194304
  · rw [ifp c4]; dsimp only [Option.bind_some, Sum.elim_inl]; rw [F (by omega)]
  rw [ifn c4, sky_within.l0]
  dsimp only
  rw [ifp (by decide), ifp (by decide), r2, wid (x := 0 - 4194304) (by decide) (by decide), wid (x := 2 + 1) (by decide) (by decide), show (2 : Int) + 1 = 3 by rfl, show (0 : Int) - 4194304 = -4194304 by rfl]
  by_cases c5 : z < -4194304
  · rw [ifp c5]; dsimp only [Option.bind_some, Sum.elim_inl]; rw [F (by omega)]
  rw [ifn c5]
  by_cases c6 : z > 4194304
  · rw [ifp c6]; dsimp only [Option.bind_some, Sum.elim_inl]; rw [F (by omega)]
  rw [ifn c6, sky_within.l0]
  dsimp only
  rw [ifn (by decide)]
  dsimp only [Option.bind_some, Sum.elim_inr]
  rw [T (by omega)]
theorem mul_bd {a b A B : Int} (h1 : -A ≤ a) (h2 : a ≤ A) (h3 : -B ≤ b) (h4 : b ≤ B) : -(A * B) ≤ a * b ∧ a * b ≤ A * B := by
  have e : (a * b).natAbs = a.natAbs * b.natAbs := Int.natAbs_mul a b
  have l : a.natAbs * b.natAbs ≤ A.toNat * B.toNat := Nat.mul_le_mul (by omega) (by omega)
  have f : ((A.toNat * B.toNat : Nat) : Int) = A * B := by rw [Int.natCast_mul]; congr 1 <;> omega
  omega
theorem sq_nn (v : Int) : 0 ≤ v * v := by
  rcases Int.le_total 0 v with g | g
  · exact Int.mul_nonneg g g
  · have := Int.mul_nonneg (show 0 ≤ -v by omega) (show 0 ≤ -v by omega); rw [Int.neg_mul_neg] at this; exact this
theorem sq_le22 (v : Int) (h : -4194304 ≤ v) (h' : v ≤ 4194304) : 0 ≤ v * v ∧ v * v ≤ 17592186044416 := by
  have := mul_bd (a := v) (b := v) (A := 4194304) (B := 4194304) h h' h h'
  have := sq_nn v
  omega
/-- The root of the square of the distance. -/
noncomputable def dist (v : S_Vec) : Int := isq (v.X * v.X + v.Y * v.Y + v.Z * v.Z)
theorem dist_eq (k : Nat) (v : S_Vec) (h : In v) (hk : 70 ≤ k) : num_Sqrt k (w64 (w64 (w64 (v.X * v.X) + w64 (v.Y * v.Y)) + w64 (v.Z * v.Z))) = some (dist v) ∧ 0 ≤ dist v ∧ dist v ≤ 8388608 ∧ dist v * dist v ≤ v.X * v.X + v.Y * v.Y + v.Z * v.Z ∧ v.X * v.X + v.Y * v.Y + v.Z * v.Z < (dist v + 1) * (dist v + 1) := by
  obtain ⟨h1, h2, h3, h4, h5, h6⟩ := h
  obtain ⟨a0, a⟩ := sq_le22 v.X h1 h2
  obtain ⟨b0, b⟩ := sq_le22 v.Y h3 h4
  obtain ⟨c0, c⟩ := sq_le22 v.Z h5 h6
  unfold dist
  generalize v.X * v.X = X at *
  generalize v.Y * v.Y = Y at *
  generalize v.Z * v.Z = Z at *
  rw [wid (x := X) (by omega) (by omega), wid (x := Y) (by omega) (by omega), wid (x := Z) (by omega) (by omega), wid (x := X + Y) (by omega) (by omega), wid (x := X + Y + Z) (by omega) (by omega)]
  obtain ⟨e, r0, r1, r2, r3⟩ := isq_all (X + Y + Z) (by omega) (by omega)
  have : isq (X + Y + Z) < 8388609 := sq_lt r0 (by omega) (by omega)
  exact ⟨e k hk, r0, by omega, r2, r3⟩
/-- The size of the pull along an axis. -/
def pl (x r : Int) : Int := 9007199254740992 * (if x < 0 then -x else x) / r / (r * r)
theorem pl_bd (x r : Int) (hx : -4194304 ≤ x) (hx' : x ≤ 4194304) (hr : 65536 ≤ r) (hr' : r ≤ 8388608) : 0 ≤ pl x r ∧ pl x r ≤ 576460752303423488 := by
  unfold pl
  have m : ∃ m, m = (if x < 0 then -x else x) := ⟨_, rfl⟩
  obtain ⟨m, hm⟩ := m
  have m2 : 0 ≤ m ∧ m ≤ 4194304 := by rw [hm]; split <;> omega
  rw [← hm]
  have hrr := mul_le (a := r) (b := r) (A := 8388608) (B := 8388608) (by omega) hr' (by omega) hr'
  have h65 : 65536 * 65536 ≤ r * r := Int.mul_le_mul hr hr (by omega) (by omega)
  have q0 : 0 ≤ 9007199254740992 * m / r := Int.ediv_nonneg (by omega) (by omega)
  have q1 : 9007199254740992 * m / r ≤ 576460752303423488 := by
    apply Int.ediv_le_of_le_mul (by omega)
    have : 576460752303423488 * 65536 ≤ 576460752303423488 * r := Int.mul_le_mul_of_nonneg_left hr (by omega)
    omega
  exact ⟨Int.ediv_nonneg q0 (by omega), Int.le_trans (Int.ediv_le_self _ q0) q1⟩
theorem part_eq (k : Nat) (x r : Int) (hx : -4194304 ≤ x) (hx' : x ≤ 4194304) (hr : 65536 ≤ r) (hr' : r ≤ 8388608) (hk : 30 ≤ k) : sky_Pull_1 k r x = some (if x > 0 then -(pl x r) else pl x r) := by
  unfold sky_Pull_1
  have hb := pl_bd x r hx hx' hr hr'
  have hm : mx x (w64 (0 - x)) = if x < 0 then -x else x := by rw [wid (x := 0 - x) (by omega) (by omega), mx_def]; split <;> omega
  unfold pl at hb ⊢
  rw [hm]
  have m : ∃ m, m = (if x < 0 then -x else x) := ⟨_, rfl⟩
  obtain ⟨m, hm2⟩ := m
  have m2 : 0 ≤ m ∧ m ≤ 4194304 := by rw [hm2]; split <;> omega
  rw [← hm2] at hb ⊢
  have hrr := mul_le (a := r) (b := r) (A := 8388608) (B := 8388608) (by omega) hr' (by omega) hr'
  have h65 : 65536 * 65536 ≤ r * r := Int.mul_le_mul hr hr (by omega) (by omega)
  have q0 : 0 ≤ 9007199254740992 * m / r := Int.ediv_nonneg (by omega) (by omega)
  have q1 : 9007199254740992 * m / r ≤ 576460752303423488 := by
    apply Int.ediv_le_of_le_mul (by omega)
    have : 576460752303423488 * 65536 ≤ 576460752303423488 * r := Int.mul_le_mul_of_nonneg_left hr (by omega)
    omega
  rw [bnd (muldiv_nn k 9007199254740992 m r (by omega) (by omega) (by omega) (by omega) (by omega) (by omega) (by omega) (by omega) (by omega))]
  dsimp only
  rw [wid (x := r * r) (by omega) (by omega), ifp (by omega), tdiv_nn q0]
  rw [wid (x := 9007199254740992 * m / r / (r * r)) (by omega) (by omega)]
  by_cases c : x > 0
  · rw [ifp c, ifp c, wid (by omega) (by omega)]
    congr 1; omega
  · rw [ifn c, ifn c]
/-- What a component of the pull is. -/
noncomputable def pu (x d : Int) : Int := if d < 65536 then 0 else if x > 0 then -(pl x d) else pl x d
noncomputable def pullV (v : S_Vec) : S_Vec := ⟨pu v.X (dist v), pu v.Y (dist v), pu v.Z (dist v)⟩
theorem pull_eq (k : Nat) (v : S_Vec) (h : In v) (hk : 70 ≤ k) : sky_Pull k v = some (pullV v) := by
  unfold sky_Pull
  obtain ⟨e, d0, d1, _, _⟩ := dist_eq k v h hk
  rw [bnd (within_in k v (by omega)), ifn (by simpa using h), bnd e]
  unfold pullV pu
  by_cases c : dist v < 65536
  · rw [ifp c, if_pos c, if_pos c, if_pos c]
  · obtain ⟨h1, h2, h3, h4, h5, h6⟩ := h
    rw [ifn c, if_neg c, if_neg c, if_neg c, bnd (part_eq k v.X _ (by omega) (by omega) (by omega) (by omega) (by omega)), bnd (part_eq k v.Y _ (by omega) (by omega) (by omega) (by omega) (by omega)), bnd (part_eq k v.Z _ (by omega) (by omega) (by omega) (by omega) (by omega))]
theorem pu_bd (v : S_Vec) (c : Int) (h : In v) (hc : -4194304 ≤ c ∧ c ≤ 4194304) : -576460752303423488 ≤ pu c (dist v) ∧ pu c (dist v) ≤ 576460752303423488 := by
  obtain ⟨_, d0, d1, _, _⟩ := dist_eq 70 v h (by omega)
  unfold pu
  by_cases g : dist v < 65536
  · rw [if_pos g]; omega
  · have := pl_bd c (dist v) (by omega) (by omega) (by omega) (by omega)
    rw [if_neg g]
    split <;> omega
/-- The next place. -/
noncomputable def nxt (w h : S_Vec) : S_Vec := ⟨2 * h.X - w.X + (pullV h).X, 2 * h.Y - w.Y + (pullV h).Y, 2 * h.Z - w.Z + (pullV h).Z⟩
noncomputable def stepV (w h : S_Vec) : S_Vec × Int := if In w ∧ In h then (if In (nxt w h) then (nxt w h, 0) else (⟨0, 0, 0⟩, 18)) else (⟨0, 0, 0⟩, 4)
theorem step_eq (k : Nat) (w h : S_Vec) (hk : 80 ≤ k) : sky_Step k w h = some (stepV w h) := by
  unfold sky_Step stepV
  rw [bnd (within_in k w (by omega))]
  by_cases c1 : In w
  · rw [ifn (by simpa using c1), bnd (within_in k h (by omega))]
    by_cases c2 : In h
    · rw [ifn (by simpa using c2), if_pos ⟨c1, c2⟩, bnd (pull_eq k h c2 (by omega))]
      have px := pu_bd h h.X c2 ⟨c2.1, c2.2.1⟩
      have py := pu_bd h h.Y c2 ⟨c2.2.2.1, c2.2.2.2.1⟩
      have pz := pu_bd h h.Z c2 ⟨c2.2.2.2.2.1, c2.2.2.2.2.2⟩
      obtain ⟨h1, h2, h3, h4, h5, h6⟩ := c2
      obtain ⟨g1, g2, g3, g4, g5, g6⟩ := c1
      unfold nxt pullV
      dsimp only
      generalize pu h.X (dist h) = p at *
      generalize pu h.Y (dist h) = q at *
      generalize pu h.Z (dist h) = r at *
      rw [wid (x := 2 * h.X) (by omega) (by omega), wid (x := 2 * h.Y) (by omega) (by omega), wid (x := 2 * h.Z) (by omega) (by omega), wid (x := 2 * h.X - w.X) (by omega) (by omega), wid (x := 2 * h.Y - w.Y) (by omega) (by omega), wid (x := 2 * h.Z - w.Z) (by omega) (by omega), wid (x := 2 * h.X - w.X + p) (by omega) (by omega), wid (x := 2 * h.Y - w.Y + q) (by omega) (by omega), wid (x := 2 * h.Z - w.Z + r) (by omega) (by omega), bnd (within_in k _ (by omega))]
      by_cases c3 : In ⟨2 * h.X - w.X + p, 2 * h.Y - w.Y + q, 2 * h.Z - w.Z + r⟩
      · rw [ifn (by simpa using c3), if_pos c3]
      · rw [ifp (by simpa using c3), if_neg c3]
    · rw [ifp (by simpa using c2), if_neg (fun z => c2 z.2)]
  · rw [ifp (by simpa using c1), if_neg (fun z => c1 z.1)]
theorem step_ok {w h v : S_Vec} (e : stepV w h = (v, 0)) : In w ∧ In h ∧ In v ∧ v = nxt w h := by
  unfold stepV at e
  split at e
  · rename_i c
    split at e
    · rename_i c2
      injection e with e1 e2
      subst e1
      exact ⟨c.1, c.2, c2, rfl⟩
    · injection e with e1 e2; cases e2
  · injection e with e1 e2; cases e2
/-- A step backward undoes a step. -/
theorem step_back {w h v : S_Vec} (e : stepV w h = (v, 0)) : stepV v h = (w, 0) := by
  obtain ⟨a, b, c, d⟩ := step_ok e
  have hn : nxt v h = w := by
    rw [d]
    unfold nxt
    dsimp only
    obtain ⟨x, y, z⟩ := w
    dsimp only
    congr 1 <;> omega
  unfold stepV
  rw [if_pos ⟨c, b⟩, hn, if_pos a]
theorem pulls_eq (k : Nat) (h : 100 ≤ k) : spykeep3_pulls k = some true := by
  obtain ⟨k, rfl⟩ : ∃ j, k = j + 100 := ⟨k - 100, by omega⟩
  kernel_rfl
theorem below_ex (k : Nat) (x n : Int) (h1 : 1 ≤ n) (h2 : n ≤ 4611686018427387904) : ∃ v, spymake_Below k x n = some v ∧ 0 ≤ v ∧ v < n := by
  have e1 := Int.tmod_lt_of_pos x (show 0 < n by omega)
  have e2 := Int.lt_tmod_of_pos x (show 0 < n by omega)
  unfold spymake_Below
  rw [ifn (by omega), ifp (by omega)]
  by_cases c : Int.tmod x n < 0
  · rw [ifp c]
    refine ⟨_, rfl, ?_, ?_⟩ <;> rw [wid (by omega) (by omega)] <;> omega
  · rw [ifn c]
    exact ⟨_, rfl, by omega, by omega⟩
theorem next_ex (k : Nat) (L : List Int) (a n : Int) (h1 : 1 ≤ n) (h2 : n ≤ 4611686018427387904) (a0 : 0 ≤ a) (a1 : a ≤ 4611686018427387904) :
    ∃ v, spymake_Stream_Next k ⟨L, a⟩ n = some (v, a + 1) ∧ 0 ≤ v ∧ v < n := by
  unfold spymake_Stream_Next
  dsimp only
  rw [wid (x := a + 1) (by omega) (by omega)]
  by_cases c : (L.length : Int) = 0
  · rw [ifp c]
    obtain ⟨v, hv, v0, v1⟩ := below_ex k (w64 ((a + 1) * 7919)) n h1 h2
    rw [bnd hv]
    exact ⟨v, rfl, v0, v1⟩
  · rw [ifn c, ifp c, show a + 1 - 1 = a by omega, wid (x := a) (by omega) (by omega)]
    have e1 := Int.tmod_lt_of_pos a (show 0 < (L.length : Int) by omega)
    have e2 : 0 ≤ Int.tmod a (L.length : Int) := Int.tmod_nonneg _ a0
    rw [ifp e2, ifp e1]
    obtain ⟨u, hu, _⟩ := below_ex k (rd L (Int.tmod a (L.length : Int))) 1073741824 (by decide) (by decide)
    rw [bnd hu]
    obtain ⟨v, hv, v0, v1⟩ := below_ex k (w64 (u + (w64 ((w64 (Int.tdiv a (L.length : Int))) * (w64 (7919 + (Int.tmod a (L.length : Int)))))))) n h1 h2
    rw [bnd hv]
    exact ⟨v, rfl, v0, v1⟩
theorem range_ex (k : Nat) (L : List Int) (a lo hi : Int) (h1 : lo ≤ hi) (h2 : hi - lo ≤ 1073741824) (h3 : -4611686018427387904 ≤ lo) (h4 : hi ≤ 4611686018427387904) (a0 : 0 ≤ a) (a1 : a ≤ 4611686018427387904) :
    ∃ v, spymake_Stream_Range k ⟨L, a⟩ lo hi = some (v, a + 1) ∧ lo ≤ v ∧ v ≤ hi := by
  unfold spymake_Stream_Range
  rw [ifn (by omega), wid (x := hi - lo) (by omega) (by omega), wid (x := hi - lo + 1) (by omega) (by omega)]
  obtain ⟨v, hv, v0, v1⟩ := next_ex k L a (hi - lo + 1) (by omega) (by omega) a0 a1
  rw [bnd hv]
  dsimp only
  rw [wid (by omega) (by omega)]
  exact ⟨_, rfl, by omega, by omega⟩
theorem rd_lo {l : List Int} {lo hi : Int} (h : AllIn l lo hi) {i : Int} (h0 : 0 ≤ i) (h1 : i < (l.length : Int)) : lo ≤ rd l i ∧ rd l i ≤ hi := h.rd h0 h1
theorem rate_ex (k : Nat) (L : List Int) (a : Int) (a0 : 0 ≤ a) (a1 : a ≤ 1000000000) : ∃ v a', spymake_Stream_rate k ⟨L, a⟩ = some (v, a') ∧ a ≤ a' ∧ a' ≤ a + 2 ∧ 0 ≤ v ∧ v ≤ 1048576 := by
  unfold spymake_Stream_rate
  obtain ⟨i, h1, i0, i1⟩ := next_ex k L a 6 (by decide) (by decide) (by omega) (by omega)
  rw [bnd h1]; dsimp only
  have hl : AllIn ([50, 500, 5000, 5000, 40000, 1048577] : List Int) 50 1048577 := by
    intro x hx; simp only [List.mem_cons, List.not_mem_nil, or_false] at hx; omega
  have len : (([50, 500, 5000, 5000, 40000, 1048577] : List Int).length : Int) = 6 := rfl
  have hv := hl.rd i0 (by rw [len]; omega)
  rw [ifp i0, ifp (by rw [len]; omega)]
  generalize rd ([50, 500, 5000, 5000, 40000, 1048577] : List Int) i = v at *
  obtain ⟨u, h2, u0, u1⟩ := next_ex k L (a + 1) v (by omega) (by omega) (by omega) (by omega)
  rw [bnd h2]; dsimp only
  exact ⟨_, _, rfl, by omega, by omega, u0, by omega⟩
theorem place_ex (k : Nat) (L : List Int) (a d : Int) (a0 : 0 ≤ a) (a1 : a ≤ 1000000000) (d0 : 0 ≤ d) (d1 : d ≤ 100) : ∃ v, spymake_Stream_Place k ⟨L, a⟩ d = some (v, a + 1 + 1 + 1) ∧ (-(d * 1048576) ≤ v.X ∧ v.X ≤ d * 1048576) ∧ (-(d * 1048576) ≤ v.Y ∧ v.Y ≤ d * 1048576) ∧ (-(d * 1048576) ≤ v.Z ∧ v.Z ≤ d * 1048576) := by
  unfold spymake_Stream_Place
  dsimp only
  rw [wid (x := d * 1048576) (by omega) (by omega), wid (x := 0 - d * 1048576) (by omega) (by omega)]
  obtain ⟨x, h1, x0, x1⟩ := range_ex k L a (0 - d * 1048576) (d * 1048576) (by omega) (by omega) (by omega) (by omega) (by omega) (by omega)
  rw [bnd h1]; dsimp only
  obtain ⟨y, h2, y0, y1⟩ := range_ex k L (a + 1) (0 - d * 1048576) (d * 1048576) (by omega) (by omega) (by omega) (by omega) (by omega) (by omega)
  rw [bnd h2]; dsimp only
  obtain ⟨z, h3, z0, z1⟩ := range_ex k L (a + 1 + 1) (0 - d * 1048576) (d * 1048576) (by omega) (by omega) (by omega) (by omega) (by omega) (by omega)
  rw [bnd h3]; dsimp only
  have t1 := Int.mul_tdiv_add_tmod z 4
  have t2 := Int.tmod_lt_of_pos z (show (0 : Int) < 4 by decide)
  have t3 := Int.lt_tmod_of_pos z (show (0 : Int) < 4 by decide)
  refine ⟨_, rfl, ⟨?_, ?_⟩, ⟨?_, ?_⟩, ?_, ?_⟩ <;> dsimp only <;> first | omega | (rw [wid (by omega) (by omega)]; omega)
theorem body_ex (k : Nat) (L : List Int) (a i : Int) (h : S_Vec) (a0 : 0 ≤ a) (a1 : a ≤ 100000000) : ∃ b a', spymake_Stream_Body k ⟨L, a⟩ i h = some (b, a') ∧ a ≤ a' ∧ a' ≤ a + 10 := by
  unfold spymake_Stream_Body
  dsimp only
  obtain ⟨j, h1, j0, j1⟩ := next_ex k L a 3 (by decide) (by decide) (by omega) (by omega)
  rw [bnd h1]; dsimp only
  have hl : AllIn ([1000, 90000, 150000] : List Int) 1000 150000 := by
    intro x hx; simp only [List.mem_cons, List.not_mem_nil, or_false] at hx; omega
  have len : (([1000, 90000, 150000] : List Int).length : Int) = 3 := rfl
  have hv := hl.rd j0 (by rw [len]; omega)
  rw [ifp j0, ifp (by rw [len]; omega)]
  generalize rd ([1000, 90000, 150000] : List Int) j = v at *
  rw [wid (x := 0 - v) (by omega) (by omega)]
  obtain ⟨x, h2, x0, x1⟩ := range_ex k L (a + 1) (0 - v) v (by omega) (by omega) (by omega) (by omega) (by omega) (by omega)
  rw [bnd h2]; dsimp only
  obtain ⟨y, h3, y0, y1⟩ := range_ex k L (a + 1 + 1) (0 - v) v (by omega) (by omega) (by omega) (by omega) (by omega) (by omega)
  rw [bnd h3]; dsimp only
  obtain ⟨z, h4, z0, z1⟩ := range_ex k L (a + 1 + 1 + 1) (0 - v) v (by omega) (by omega) (by omega) (by omega) (by omega) (by omega)
  rw [bnd h4]; dsimp only
  unfold spymake_within spymake_within_1
  dsimp only [Option.bind_some]
  obtain ⟨r, a', h5, r0, r1, _⟩ := rate_ex k L (a + 1 + 1 + 1 + 1) (by omega) (by omega)
  rw [bnd h5]
  exact ⟨_, _, rfl, by omega, by omega⟩
noncomputable def iter : Nat → S_Vec → S_Vec → S_Vec × S_Vec × Int
  | 0, w, h => (w, h, 0)
  | d + 1, w, h => if (stepV w h).2 = 0 then iter d h (stepV w h).1 else (h, (stepV w h).1, (stepV w h).2)
theorem iter_end (d : Nat) : ∀ (w h : S_Vec), iter (d + 1) w h = if (iter d w h).2.2 = 0 then ((iter d w h).2.1, (stepV (iter d w h).1 (iter d w h).2.1).1, (stepV (iter d w h).1 (iter d w h).2.1).2) else iter d w h := by
  induction d with
  | zero =>
    intro w h
    rw [iter, iter]
    dsimp only
    rw [if_pos rfl]
    by_cases c : (stepV w h).2 = 0
    · rw [if_pos c, iter, c]
    · rw [if_neg c]
  | succ d ih =>
    intro w h
    rw [iter]
    by_cases c : (stepV w h).2 = 0
    · rw [if_pos c, ih h (stepV w h).1]
      have e : iter (d + 1) w h = iter d h (stepV w h).1 := by rw [iter, if_pos c]
      rw [e]
    · rw [if_neg c]
      have e : iter (d + 1) w h = (h, (stepV w h).1, (stepV w h).2) := by rw [iter, if_neg c]
      rw [e, if_neg c]
theorem path_l0 (k : Nat) (hk : 80 ≤ k) (d : Nat) : ∀ (n : Nat) (w h : S_Vec), d < n → (d : Int) ≤ 1000 → sky_Path.l0 k n 0 d h.X h.Y h.Z w.X w.Y w.Z =
    some ((iter d w h).2.2, (iter d w h).2.1.X, (iter d w h).2.1.Y, (iter d w h).2.1.Z, (iter d w h).1.X, (iter d w h).1.Y, (iter d w h).1.Z) := by
  induction d with
  | zero =>
    intro n w h hn hd
    obtain ⟨n, rfl⟩ : ∃ m, n = m + 1 := ⟨n - 1, by omega⟩
    rw [sky_Path.l0, ifn (by decide), iter]
  | succ d ih =>
    intro n w h hn hd
    obtain ⟨n, rfl⟩ : ∃ m, n = m + 1 := ⟨n - 1, by omega⟩
    rw [sky_Path.l0, ifp (by omega), ifp rfl, bnd (step_eq k ⟨w.X, w.Y, w.Z⟩ ⟨h.X, h.Y, h.Z⟩ hk), iter]
    dsimp only
    rw [wid (by omega) (by omega), show ((d + 1 : Nat) : Int) - 1 = (d : Int) by omega]
    by_cases c : (stepV w h).2 = 0
    · have := ih n h (stepV w h).1 (by omega) (by omega)
      rw [if_pos c, show stepV ⟨w.X, w.Y, w.Z⟩ ⟨h.X, h.Y, h.Z⟩ = stepV w h from rfl, c]
      exact this
    · rw [if_neg c, show stepV ⟨w.X, w.Y, w.Z⟩ ⟨h.X, h.Y, h.Z⟩ = stepV w h from rfl]
      obtain ⟨n, rfl⟩ : ∃ m, n = m + 1 := ⟨n - 1, by omega⟩
      rw [sky_Path.l0]
      by_cases c2 : (d : Int) > 0
      · rw [ifp c2, ifn c]
      · rw [ifn c2]
theorem path_l0_no (k n : Nat) (day a b c d e f : Int) (hn : 0 < n) (hd : day ≤ 0) : sky_Path.l0 k n 0 day a b c d e f = some (0, a, b, c, d, e, f) := by
  obtain ⟨n, rfl⟩ : ∃ m, n = m + 1 := ⟨n - 1, by omega⟩
  rw [sky_Path.l0, ifn (by omega)]
theorem path_l1_no (k n : Nat) (E day a b c d e f : Int) (hn : 0 < n) (hd : 0 ≤ day) : sky_Path.l1 k n E day a b c d e f = some (E, a, b, c, d, e, f) := by
  obtain ⟨n, rfl⟩ : ∃ m, n = m + 1 := ⟨n - 1, by omega⟩
  rw [sky_Path.l1, ifn (by omega)]
/-- Backward: first the place here, then the one before it. -/
theorem path_l1 (k : Nat) (hk : 80 ≤ k) (d : Nat) : ∀ (n : Nat) (h w : S_Vec), d < n → (d : Int) ≤ 1000 → sky_Path.l1 k n 0 (-(d : Int)) h.X h.Y h.Z w.X w.Y w.Z =
    some ((iter d h w).2.2, (iter d h w).1.X, (iter d h w).1.Y, (iter d h w).1.Z, (iter d h w).2.1.X, (iter d h w).2.1.Y, (iter d h w).2.1.Z) := by
  induction d with
  | zero =>
    intro n h w hn hd
    obtain ⟨n, rfl⟩ : ∃ m, n = m + 1 := ⟨n - 1, by omega⟩
    rw [sky_Path.l1, ifn (by decide), iter]
  | succ d ih =>
    intro n h w hn hd
    obtain ⟨n, rfl⟩ : ∃ m, n = m + 1 := ⟨n - 1, by omega⟩
    rw [sky_Path.l1, ifp (by omega), ifp rfl, bnd (step_eq k ⟨h.X, h.Y, h.Z⟩ ⟨w.X, w.Y, w.Z⟩ hk), iter]
    dsimp only
    rw [wid (by omega) (by omega), show -((d + 1 : Nat) : Int) + 1 = -(d : Int) by omega]
    by_cases c : (stepV h w).2 = 0
    · have := ih n w (stepV h w).1 (by omega) (by omega)
      rw [if_pos c, show stepV ⟨h.X, h.Y, h.Z⟩ ⟨w.X, w.Y, w.Z⟩ = stepV h w from rfl, c]
      exact this
    · rw [if_neg c, show stepV ⟨h.X, h.Y, h.Z⟩ ⟨w.X, w.Y, w.Z⟩ = stepV h w from rfl]
      obtain ⟨n, rfl⟩ : ∃ m, n = m + 1 := ⟨n - 1, by omega⟩
      rw [sky_Path.l1]
      by_cases c2 : -(d : Int) < 0
      · rw [ifp c2, ifn c]
      · rw [ifn c2]
/-- The places of a body a day before a day, and on that day. -/
noncomputable def walk (b : S_Body) (day : Int) : S_Vec × S_Vec × Int :=
  if 0 ≤ day then iter day.toNat b.Was b.Here else ((iter (-day).toNat b.Here b.Was).2.1, (iter (-day).toNat b.Here b.Was).1, (iter (-day).toNat b.Here b.Was).2.2)
noncomputable def pathV (b : S_Body) (day : Int) : S_Vec × S_Vec × Int :=
  if In b.Was ∧ In b.Here then (if (walk b day).2.2 ≠ 0 then (⟨0, 0, 0⟩, ⟨0, 0, 0⟩, (walk b day).2.2) else walk b day) else (⟨0, 0, 0⟩, ⟨0, 0, 0⟩, 4)
theorem moves_eq (k : Nat) (b : S_Body) (hk : 5 ≤ k) : sky_moves k b = some (decide (In b.Was ∧ In b.Here)) := by
  unfold sky_moves
  rw [bnd (within_in k b.Was hk)]
  by_cases c : In b.Was
  · rw [ifp (by simpa using c), bnd (within_in k b.Here hk)]
    congr 1; simp [c]
  · rw [ifn (by simpa using c)]
    congr 1; simp [c]
theorem path_eq (k : Nat) (b : S_Body) (day : Int) (h0 : -400 ≤ day) (h1 : day ≤ 400) (hk : 500 ≤ k) : sky_Path k b day = some (pathV b day) := by
  unfold sky_Path pathV
  rw [ifn (by omega), ifn (by omega), bnd (moves_eq k b (by omega))]
  by_cases c : In b.Was ∧ In b.Here
  · rw [ifn (by simpa using c), if_pos c]
    unfold walk
    by_cases g : 0 ≤ day
    · rw [if_pos g]
      have e := path_l0 k (by omega) day.toNat k b.Was b.Here (by omega) (by omega)
      rw [show ((day.toNat : Nat) : Int) = day by omega] at e
      rw [bnd e]
      dsimp only
      rw [bnd (path_l1_no k k _ day _ _ _ _ _ _ (by omega) g)]
      dsimp only
      by_cases z : (iter day.toNat b.Was b.Here).2.2 ≠ 0
      · rw [ifp z, if_pos z]
      · rw [ifn z, if_neg z]
        have z' : (iter day.toNat b.Was b.Here).2.2 = 0 := by omega
        exact congrArg some (Prod.ext rfl (Prod.ext rfl z'.symm))
    · rw [if_neg g]
      dsimp only
      rw [bnd (path_l0_no k k day _ _ _ _ _ _ (by omega) (by omega))]
      dsimp only
      have e := path_l1 k (by omega) (-day).toNat k b.Here b.Was (by omega) (by omega)
      rw [show -(((-day).toNat : Nat) : Int) = day by omega] at e
      rw [bnd e]
      dsimp only
      by_cases z : (iter (-day).toNat b.Here b.Was).2.2 ≠ 0
      · rw [ifp z, if_pos z]
      · rw [ifn z, if_neg z]
        have z' : (iter (-day).toNat b.Here b.Was).2.2 = 0 := by omega
        exact congrArg some (Prod.ext rfl (Prod.ext rfl z'.symm))
  · rw [ifp (by simpa using c), if_neg c]
/-- Neighbouring days are joined by a step. -/
theorem path_next (b : S_Body) (day : Int) (h : (pathV b day).2.2 = 0) :
    In (pathV b day).1 ∧ In (pathV b day).2.1 ∧ ((stepV (pathV b day).1 (pathV b day).2.1).2 = 0 → pathV b (day + 1) = ((pathV b day).2.1, (stepV (pathV b day).1 (pathV b day).2.1).1, 0)) ∧ ((stepV (pathV b day).1 (pathV b day).2.1).2 ≠ 0 → (pathV b (day + 1)).2.2 ≠ 0) := by
  unfold pathV at h ⊢
  by_cases c : In b.Was ∧ In b.Here
  · have inn : ∀ (d : Nat) (w h : S_Vec), In w → In h → (iter d w h).2.2 = 0 → In (iter d w h).1 ∧ In (iter d w h).2.1 := by
      intro d
      induction d with
      | zero => intro w h hw hh _; rw [iter]; exact ⟨hw, hh⟩
      | succ d ih =>
        intro w h hw hh he
        rw [iter] at he ⊢
        by_cases z : (stepV w h).2 = 0
        · rw [if_pos z] at he ⊢
          exact ih h _ hh (step_ok (Prod.ext rfl z : stepV w h = ((stepV w h).1, 0))).2.2.1 he
        · rw [if_neg z] at he; exact absurd he z
    rw [if_pos c] at h
    simp only [if_pos c]
    by_cases z : (walk b day).2.2 ≠ 0
    · rw [if_pos z] at h; exact absurd h z
    simp only [if_neg z]
    have z' : (walk b day).2.2 = 0 := by omega
    have hin : In (walk b day).1 ∧ In (walk b day).2.1 := by
      unfold walk at z' ⊢
      by_cases g : 0 ≤ day
      · rw [if_pos g] at z' ⊢; exact inn _ _ _ c.1 c.2 z'
      · rw [if_neg g] at z' ⊢; have := inn _ _ _ c.2 c.1 z'; exact ⟨this.2, this.1⟩
    -- the walk of the next day
    have key : (walk b (day + 1)) = ((walk b day).2.1, (stepV (walk b day).1 (walk b day).2.1).1, (stepV (walk b day).1 (walk b day).2.1).2) := by
      unfold walk at z' ⊢
      by_cases g : 0 ≤ day
      · rw [if_pos g] at z' ⊢
        rw [if_pos (by omega), show (day + 1).toNat = day.toNat + 1 by omega, iter_end, if_pos z']
      · rw [if_neg g] at z' ⊢
        obtain ⟨d, hd⟩ : ∃ d, (-day).toNat = d + 1 := ⟨(-day).toNat - 1, by omega⟩
        rw [hd] at z' ⊢
        have hw : (if 0 ≤ day + 1 then iter (day + 1).toNat b.Was b.Here else ((iter (-(day + 1)).toNat b.Here b.Was).2.1, (iter (-(day + 1)).toNat b.Here b.Was).1, (iter (-(day + 1)).toNat b.Here b.Was).2.2)) = ((iter d b.Here b.Was).2.1, (iter d b.Here b.Was).1, (iter d b.Here b.Was).2.2) := by
          by_cases g2 : 0 ≤ day + 1
          · rw [if_pos g2, show (day + 1).toNat = 0 by omega, show d = 0 by omega, iter, iter]
          · rw [if_neg g2, show (-(day + 1)).toNat = d by omega]
        rw [hw]
        rw [iter_end] at z' ⊢
        by_cases y : (iter d b.Here b.Was).2.2 = 0
        · rw [if_pos y] at z' ⊢
          dsimp only at z' ⊢
          have sb := step_back (Prod.ext rfl z' : stepV (iter d b.Here b.Was).1 (iter d b.Here b.Was).2.1 = ((stepV (iter d b.Here b.Was).1 (iter d b.Here b.Was).2.1).1, 0))
          rw [sb, y]
        · rw [if_neg y] at z'; exact absurd z' y
    rw [key]
    dsimp only
    refine ⟨hin.1, hin.2, fun y => ?_, fun y => ?_⟩
    · rw [if_neg (fun q => q y), y]
    · rw [if_pos y]; exact y
  · rw [if_neg c] at h; cases h
theorem clampIn (x y z : Int) : In ⟨mx (-4194304) (mn 4194304 x), mx (-4194304) (mn 4194304 y), mx (-4194304) (mn 4194304 z)⟩ := by
  have h : ∀ c : Int, -4194304 ≤ mx (-4194304) (mn 4194304 c) ∧ mx (-4194304) (mn 4194304 c) ≤ 4194304 := fun c => by rw [mx_def, mn_def]; omega
  exact ⟨(h x).1, (h x).2, (h y).1, (h y).2, (h z).1, (h z).2⟩
theorem body_in (k : Nat) (L : List Int) (a i : Int) (h : S_Vec) (a0 : 0 ≤ a) (a1 : a ≤ 100000000) : ∃ b a', spymake_Stream_Body k ⟨L, a⟩ i h = some (b, a') ∧ In b.Was ∧ In b.Here := by
  unfold spymake_Stream_Body
  dsimp only
  obtain ⟨j, h1, j0, j1⟩ := next_ex k L a 3 (by decide) (by decide) (by omega) (by omega)
  rw [bnd h1]; dsimp only
  have hl : AllIn ([1000, 90000, 150000] : List Int) 1000 150000 := by
    intro x hx; simp only [List.mem_cons, List.not_mem_nil, or_false] at hx; omega
  have len : (([1000, 90000, 150000] : List Int).length : Int) = 3 := rfl
  have hv := hl.rd j0 (by rw [len]; omega)
  rw [ifp j0, ifp (by rw [len]; omega)]
  generalize rd ([1000, 90000, 150000] : List Int) j = v at *
  rw [wid (x := 0 - v) (by omega) (by omega)]
  obtain ⟨x, h2, x0, x1⟩ := range_ex k L (a + 1) (0 - v) v (by omega) (by omega) (by omega) (by omega) (by omega) (by omega)
  rw [bnd h2]; dsimp only
  obtain ⟨y, h3, y0, y1⟩ := range_ex k L (a + 1 + 1) (0 - v) v (by omega) (by omega) (by omega) (by omega) (by omega) (by omega)
  rw [bnd h3]; dsimp only
  obtain ⟨z, h4, z0, z1⟩ := range_ex k L (a + 1 + 1 + 1) (0 - v) v (by omega) (by omega) (by omega) (by omega) (by omega) (by omega)
  rw [bnd h4]; dsimp only
  unfold spymake_within spymake_within_1
  dsimp only [Option.bind_some]
  obtain ⟨r, a', h5, r0, r1, _⟩ := rate_ex k L (a + 1 + 1 + 1 + 1) (by omega) (by omega)
  rw [bnd h5]
  exact ⟨_, _, rfl, clampIn _ _ _, clampIn _ _ _⟩
/-- What a step, and a walk, answers: 0, or lost. -/
theorem step_err (w h : S_Vec) (a : In w) (b : In h) : (stepV w h).2 = 0 ∨ (stepV w h).2 = 18 := by
  unfold stepV
  rw [if_pos ⟨a, b⟩]
  split
  · exact .inl rfl
  · exact .inr rfl
theorem iter_err (d : Nat) : ∀ (w h : S_Vec), In w → In h → (iter d w h).2.2 = 0 ∨ (iter d w h).2.2 = 18 := by
  induction d with
  | zero => intro w h _ _; rw [iter]; exact .inl rfl
  | succ d ih =>
    intro w h a b
    rw [iter]
    by_cases c : (stepV w h).2 = 0
    · rw [if_pos c]
      exact ih _ _ b (step_ok (Prod.ext rfl c : stepV w h = ((stepV w h).1, 0))).2.2.1
    · rw [if_neg c]; exact step_err w h a b
theorem path_err (b : S_Body) (day : Int) (hw : In b.Was) (hh : In b.Here) : (pathV b day).2.2 = 0 ∨ (pathV b day).2.2 = 18 := by
  have hwk : (walk b day).2.2 = 0 ∨ (walk b day).2.2 = 18 := by
    unfold walk
    split
    · exact iter_err _ _ _ hw hh
    · exact iter_err _ _ _ hh hw
  unfold pathV
  rw [if_pos ⟨hw, hh⟩]
  split
  · exact hwk
  · exact hwk
theorem path_zero (b : S_Body) (hw : In b.Was) (hh : In b.Here) : pathV b 0 = (b.Was, b.Here, 0) := by
  unfold pathV
  rw [if_pos ⟨hw, hh⟩]
  have : walk b 0 = (b.Was, b.Here, 0) := by
    unfold walk
    rw [if_pos (by decide), show (0 : Int).toNat = 0 by rfl, iter]
  rw [this]
  exact if_neg (fun h => h rfl)
theorem eqV (v : S_Vec) : ((v.X == v.X) && ((v.Y == v.Y) && ((v.Z == v.Z) && true))) = true := by simp
/-- The first loop: neighbouring days. -/
theorem days_l0 (k : Nat) (b : S_Body) (D : Int) (hD : D < 60) (hw : In b.Was) (hh : In b.Here) (hk : 600 ≤ k) (m : Nat) : ∀ (n : Nat) (d : Int), m < n → -60 ≤ d → D - d ≤ m → spykeep3_SkyPathsJoin.l0 k D b n d = some (Sum.inr ()) := by
  induction m with
  | zero =>
    intro n d hn hd hm
    obtain ⟨n, rfl⟩ : ∃ m, n = m + 1 := ⟨n - 1, by omega⟩
    rw [spykeep3_SkyPathsJoin.l0, ifn (by omega)]
  | succ m ih =>
    intro n d hn hd hm
    obtain ⟨n, rfl⟩ : ∃ m, n = m + 1 := ⟨n - 1, by omega⟩
    rw [spykeep3_SkyPathsJoin.l0]
    by_cases c : ¬ d < D
    · rw [ifn c]
    have c := Decidable.of_not_not c
    rw [ifp c, bnd (path_eq k b d (by omega) (by omega) (by omega))]
    dsimp only
    rw [wid (x := d + 1) (by omega) (by omega), bnd (path_eq k b (d + 1) (by omega) (by omega) (by omega))]
    have go := ih n (d + 1) (by omega) (by omega) (by omega)
    have e1 : ¬ (pathV b d).2.2 = 0 → ¬ (pathV b d).2.2 ≠ 18 := fun h h' => by rcases path_err b d hw hh with e | e; exact h e; exact h' e
    have e2 : ¬ (pathV b (d + 1)).2.2 = 0 → ¬ (pathV b (d + 1)).2.2 ≠ 18 := fun h h' => by rcases path_err b (d + 1) hw hh with e | e; exact h e; exact h' e
    by_cases z : (pathV b d).2.2 = 0
    · rw [ifn (fun h => h z)]
      obtain ⟨i1, i2, n1, n2⟩ := path_next b d z
      by_cases y : (pathV b (d + 1)).2.2 = 0
      · rw [ifn (fun h => h y), bnd (step_eq k _ _ (by omega))]
        have s : (stepV (pathV b d).1 (pathV b d).2.1).2 = 0 := by
          by_cases s : (stepV (pathV b d).1 (pathV b d).2.1).2 = 0
          · exact s
          · exact absurd y (n2 s)
        have e := n1 s
        rw [ifn (fun h => h s), e]
        dsimp only
        rw [eqV, eqV, ifn (by decide), ifn (by decide), go]
      · rw [ifp y, ifn (e2 y), go]
    · rw [ifp z, ifn (e1 z)]
      by_cases y : (pathV b (d + 1)).2.2 = 0
      · rw [ifn (fun h => h y), go]
      · rw [ifp y, ifn (e2 y), go]
/-- What Days hands on, from a day on. -/
def Chain (b : S_Body) : Int → List (Int × S_Vec) → Prop
  | _, [] => True
  | i, x :: t => x.1 = i ∧ i ≤ 400 ∧ (pathV b i).2.2 = 0 ∧ x.2 = (pathV b i).2.1 ∧ Chain b (i + 1) t
theorem days_ok (k : Nat) (b : S_Body) (hk : 600 ≤ k) (m : Nat) : ∀ (n : Nat) (i : Int), m < n → 0 ≤ i → 401 - i ≤ m → i ≤ 401 → (pathV b i).2.2 = 0 →
    ∃ xs, sky_Days_1.l0 k n i (pathV b i).2.1.X (pathV b i).2.1.Y (pathV b i).2.1.Z (pathV b i).1.X (pathV b i).1.Y (pathV b i).1.Z = some xs ∧ Chain b i xs ∧ (i ≤ 400 → xs ≠ []) := by
  induction m with
  | zero =>
    intro n i hn hi hm hm2 hz
    obtain ⟨n, rfl⟩ : ∃ m, n = m + 1 := ⟨n - 1, by omega⟩
    rw [sky_Days_1.l0, ifn (by omega)]
    exact ⟨[], rfl, trivial, fun h => by omega⟩
  | succ m ih =>
    intro n i hn hi hm hm2 hz
    obtain ⟨n, rfl⟩ : ∃ m, n = m + 1 := ⟨n - 1, by omega⟩
    rw [sky_Days_1.l0]
    by_cases c : ¬ i ≤ 400
    · rw [ifn c]
      exact ⟨[], rfl, trivial, fun h => absurd h c⟩
    have c := Decidable.of_not_not c
    rw [ifp c, bnd (step_eq k _ _ (by omega))]
    obtain ⟨i1, i2, n1, n2⟩ := path_next b i hz
    have ew : (⟨(pathV b i).1.X, (pathV b i).1.Y, (pathV b i).1.Z⟩ : S_Vec) = (pathV b i).1 := rfl
    have eh : (⟨(pathV b i).2.1.X, (pathV b i).2.1.Y, (pathV b i).2.1.Z⟩ : S_Vec) = (pathV b i).2.1 := rfl
    rw [ew, eh]
    dsimp only
    by_cases s : (stepV (pathV b i).1 (pathV b i).2.1).2 = 0
    · rw [ifn (fun h => h s), wid (x := i + 1) (by omega) (by omega)]
      have e := n1 s
      obtain ⟨xs, hx, hc, _⟩ := ih n (i + 1) (by omega) (by omega) (by omega) (by omega) (by rw [e])
      rw [e] at hx
      dsimp only at hx
      rw [bnd hx]
      exact ⟨_, rfl, ⟨rfl, c, hz, rfl, hc⟩, fun _ h => by cases h⟩
    · rw [ifp s]
      exact ⟨_, rfl, ⟨rfl, c, hz, rfl, trivial⟩, fun _ h => by cases h⟩
/-- The range over them. -/
theorem range_ok (k : Nat) (b : S_Body) (D : Int) (hk : 600 ≤ k) : ∀ (xs : List (Int × S_Vec)) (c : Int), 0 ≤ c → Chain b c xs → ∃ x, spykeep3_SkyPathsJoin.g1 k b D xs c = some (Sum.inr x) ∧ c ≤ x ∧ (xs ≠ [] → c < x) := by
  intro xs
  induction xs with
  | nil =>
    intro c hc _
    rw [spykeep3_SkyPathsJoin.g1]
    exact ⟨c, rfl, by omega, fun h => absurd rfl h⟩
  | cons x t ih =>
    intro c hc hch
    obtain ⟨d, v⟩ := x
    obtain ⟨h1, h2, h3, h4, h5⟩ := hch
    dsimp only at h1 h4
    subst h1 h4
    rw [spykeep3_SkyPathsJoin.g1, bnd (path_eq k b d (by omega) (by omega) (by omega))]
    dsimp only
    rw [ifn (fun h => h h3), ifn (fun h => h rfl), eqV, ifn (by decide), wid (x := d + 1) (by omega) (by omega)]
    by_cases g : d + 1 > D
    · rw [ifp g]
      exact ⟨d + 1, rfl, by omega, fun _ => by omega⟩
    · rw [ifn g]
      obtain ⟨x, hx, hle, _⟩ := ih (d + 1) (by omega) h5
      exact ⟨x, hx, by omega, fun _ => by omega⟩
theorem law (k : Nat) (l : List Int) (day0 : Int) (hk : 600 ≤ k) : spykeep3_SkyPathsJoin k l day0 = some true := by
  unfold spykeep3_SkyPathsJoin
  rw [bnd (pulls_eq k (by omega)), ifn (by decide)]
  obtain ⟨d, h1, d0, d1⟩ := range_ex k l 0 1 3 (by decide) (by decide) (by decide) (by decide) (by decide) (by decide)
  rw [bnd h1]; dsimp only
  obtain ⟨p, h2, _⟩ := place_ex k l (0 + 1) d (by decide) (by decide) (by omega) (by omega)
  rw [bnd h2]; dsimp only
  obtain ⟨b, a', h3, hw, hh⟩ := body_in k l (0 + 1 + 1 + 1 + 1) 1 p (by decide) (by decide)
  rw [bnd h3]; dsimp only
  obtain ⟨D, h4, D0, D1⟩ := below_ex k day0 60 (by decide) (by decide)
  rw [bnd h4, wid (x := 0 - D) (by omega) (by omega), bnd (days_l0 k b D D1 hw hh hk 130 k (0 - D) (by omega) (by omega) (by omega))]
  dsimp only [Sum.elim_inr]
  have hd : sky_Days k b = some b := rfl
  rw [bnd hd]
  have hz := path_zero b hw hh
  obtain ⟨xs, hx, hc, hne⟩ := days_ok k b hk 500 k 0 (by omega) (by decide) (by decide) (by decide) (by rw [hz])
  rw [hz] at hx
  have hI : sky_Days_1 k b = some xs := by
    unfold sky_Days_1
    rw [bnd (moves_eq k b (by omega)), ifn (by simpa using ⟨hw, hh⟩)]
    exact hx
  rw [bnd hI]
  obtain ⟨x, hg, hle, hlt⟩ := range_ok k b D hk xs 0 (by decide) hc
  rw [bnd hg]
  dsimp only [Sum.elim_inr]
  rw [bnd (path_eq k b 0 (by decide) (by decide) (by omega)), hz]
  dsimp only
  rw [ifp (hlt (hne (by decide))), ifp rfl, eqV]
theorem law_ex (l : List Int) (day : Int) (_ : (Lit.int .i64 day).wf = true) : ∃ k, spykeep3_SkyPathsJoin k l day = some true := ⟨600, law 600 l day (by decide)⟩

end Go.Sp.W4
