import Derived.Test.YtfphahhebijhjaaDoorFE3
import Derived.KernelRfl
import Derived.Laws.BitsLemmas
import Derived.Laws.Bits64
import Derived.Laws.BitsAllLaws
namespace Go.Sp.E3
open Go Go.Sp
set_option linter.unusedVariables false
theorem bnd {α β : Type} {x : Option α} {g : α → Option β} {v : α} (h : x = some v) : x.bind g = g v := by rw [h]; rfl
theorem ifp {α : Type} {c : Prop} [Decidable c] {x y : α} (h : c) : (if c then x else y) = x := if_pos h
theorem ifn {α : Type} {c : Prop} [Decidable c] {x y : α} (h : ¬ c) : (if c then x else y) = y := if_neg h
theorem rd_mem {α : Type} [Inhabited α] {l : List α} {i : Int} (h0 : 0 ≤ i) (h1 : i < (l.length : Int)) : rd l i ∈ l := by
  obtain ⟨h, e⟩ := rd_lt h0 h1
  rw [e]; exact List.getElem_mem h
theorem wid {x : Int} (h : -9223372036854775808 ≤ x) (h' : x ≤ 9223372036854775807) : w64 x = x := w64_of h h'
theorem wuid {x : Int} (h : 0 ≤ x) (h' : x ≤ 18446744073709551615) : u64 x = x := u64_of h h'
theorem mul_le {a b A B : Int} (h1 : 0 ≤ a) (h2 : a ≤ A) (h3 : 0 ≤ b) (h4 : b ≤ B) : 0 ≤ a * b ∧ a * b ≤ A * B :=
  ⟨Int.mul_nonneg h1 h3, Int.mul_le_mul h2 h4 h3 (by omega)⟩
theorem tdiv_nn {a b : Int} (h : 0 ≤ a) : Int.tdiv a b = a / b := Int.tdiv_eq_ediv_of_nonneg h
theorem tmod_nn {a b : Int} (h : 0 ≤ a) : Int.tmod a b = a % b := Int.tmod_eq_emod_of_nonneg h
def AllIn (l : List Int) (lo hi : Int) : Prop := ∀ x, x ∈ l → lo ≤ x ∧ x ≤ hi
theorem AllIn.nil {lo hi : Int} : AllIn [] lo hi := fun x h => by cases h
theorem AllIn.push {l : List Int} {lo hi x : Int} (h : AllIn l lo hi) (h0 : lo ≤ x) (h1 : x ≤ hi) : AllIn (l ++ [x]) lo hi := by
  intro y hy
  rcases List.mem_append.mp hy with hy | hy
  · exact h y hy
  · simp only [List.mem_singleton] at hy; subst hy; exact ⟨h0, h1⟩
theorem AllIn.rd {l : List Int} {lo hi i : Int} (h : AllIn l lo hi) (h0 : 0 ≤ i) (h1 : i < (l.length : Int)) : lo ≤ rd l i ∧ rd l i ≤ hi := h _ (rd_mem h0 h1)
theorem AllIn.mono {l : List Int} {lo hi lo' hi' : Int} (h : AllIn l lo hi) (h0 : lo' ≤ lo) (h1 : hi ≤ hi') : AllIn l lo' hi' := fun x hx => by have := h x hx; omega
theorem rd_set_eq (l : List Int) (i x : Int) (h0 : 0 ≤ i) (h1 : i < (l.length : Int)) : rd (l.set i.toNat x) i = x := by
  obtain ⟨h, e⟩ := rd_lt (xs := l.set i.toNat x) h0 (by simp; omega)
  rw [e]; simp
theorem rd_set_ne (l : List Int) (i j x : Int) (h0 : 0 ≤ i) (hj : 0 ≤ j) (h1 : j < (l.length : Int)) (hne : j ≠ i) : rd (l.set i.toNat x) j = rd l j := by
  obtain ⟨h, e⟩ := rd_lt (xs := l.set i.toNat x) hj (by simp; omega)
  obtain ⟨h', e'⟩ := rd_lt (xs := l) hj h1
  rw [e, e', List.getElem_set, if_neg (by omega)]
theorem rd_push_old (l : List Int) (x i : Int) (h0 : 0 ≤ i) (h1 : i < (l.length : Int)) : rd (l ++ [x]) i = rd l i := by
  obtain ⟨h, e⟩ := rd_lt (xs := l ++ [x]) h0 (by simp; omega)
  obtain ⟨h', e'⟩ := rd_lt (xs := l) h0 h1
  rw [e, e', List.getElem_append_left h']
theorem rd_push_new (l : List Int) (x i : Int) (h1 : i = (l.length : Int)) : rd (l ++ [x]) i = x := by
  obtain ⟨h, e⟩ := rd_lt (xs := l ++ [x]) (i := i) (by omega) (by simp; omega)
  rw [e, List.getElem_append_right (by omega)]
  simp
theorem below_ex (k : Nat) (x n : Int) (h1 : 1 ≤ n) (h2 : n ≤ 4611686018427387904) : ∃ v, spymake_Below k x n = some v ∧ 0 ≤ v ∧ v < n := by
  have e1 := Int.tmod_lt_of_pos x (show 0 < n by omega)
  have e2 := Int.lt_tmod_of_pos x (show 0 < n by omega)
  unfold spymake_Below
  rw [ifn (by omega), ifp (by omega)]
  by_cases c : Int.tmod x n < 0
  · rw [ifp c]
    refine ⟨_, rfl, ?_, ?_⟩ <;> rw [wid (by omega) (by omega)] <;> omega
  · rw [ifn c]
    exact ⟨_, rfl, by omega, by omega⟩
theorem u64_and32 (x : Int) (h0 : 0 ≤ x) (h1 : x < 18446744073709551616) : Go.bits .and .u64 x 4294967295 = x % 4294967296 := by
  rw [Go.u64_and x 4294967295 h0 h1 (by decide) (by decide)]
  have : x.toNat &&& (4294967295 : Int).toNat = x.toNat % 4294967296 := Nat.and_two_pow_sub_one_eq_mod x.toNat 32
  rw [this]
  omega
theorem shr32 (x : Int) : shr x 32 = x / 4294967296 := shr_def x 32
theorem mul64_eq (k : Nat) (a b : Int) (ha : 0 ≤ a) (ha' : a < 18446744073709551616) (hb : 0 ≤ b) (hb' : b < 18446744073709551616) :
    bits_Mul64 k a b = some (a * b / 18446744073709551616, a * b % 18446744073709551616) := by
  unfold bits_Mul64
  rw [u64_and32 a ha ha', u64_and32 b hb hb', shr32 a, shr32 b]
  have h1 := mul_le (a := a / 4294967296) (b := b / 4294967296) (A := 4294967295) (B := 4294967295) (by omega) (by omega) (by omega) (by omega)
  have h2 := mul_le (a := a / 4294967296) (b := b % 4294967296) (A := 4294967295) (B := 4294967295) (by omega) (by omega) (by omega) (by omega)
  have h3 := mul_le (a := a % 4294967296) (b := b / 4294967296) (A := 4294967295) (B := 4294967295) (by omega) (by omega) (by omega) (by omega)
  have h4 := mul_le (a := a % 4294967296) (b := b % 4294967296) (A := 4294967295) (B := 4294967295) (by omega) (by omega) (by omega) (by omega)
  have e : a * b = (a / 4294967296) * (b / 4294967296) * 18446744073709551616 + ((a / 4294967296) * (b % 4294967296) + (a % 4294967296) * (b / 4294967296)) * 4294967296 + (a % 4294967296) * (b % 4294967296) := by
    have ea : a = a / 4294967296 * 4294967296 + a % 4294967296 := by omega
    have eb : b = b / 4294967296 * 4294967296 + b % 4294967296 := by omega
    generalize a / 4294967296 = x1 at *
    generalize a % 4294967296 = x0 at *
    generalize b / 4294967296 = y1 at *
    generalize b % 4294967296 = y0 at *
    subst ea eb
    grind
  rw [u64_def (a * b), e]
  generalize (a / 4294967296) * (b / 4294967296) = p at *
  generalize (a / 4294967296) * (b % 4294967296) = q at *
  generalize (a % 4294967296) * (b / 4294967296) = r at *
  generalize (a % 4294967296) * (b % 4294967296) = s at *
  rw [wuid (x := s) (by omega) (by omega), wuid (x := p) (by omega) (by omega), wuid (x := q) (by omega) (by omega), wuid (x := r) (by omega) (by omega)]
  rw [shr32 s, wuid (x := q + s / 4294967296) (by omega) (by omega)]
  rw [u64_and32 (q + s / 4294967296) (by omega) (by omega), shr32 (q + s / 4294967296)]
  rw [wuid (x := p + (q + s / 4294967296) / 4294967296) (by omega) (by omega)]
  rw [wuid (x := (q + s / 4294967296) % 4294967296 + r) (by omega) (by omega), shr32]
  rw [wuid (by omega) (by omega)]
  have e1 : p + (q + s / 4294967296) / 4294967296 + ((q + s / 4294967296) % 4294967296 + r) / 4294967296 = (p * 18446744073709551616 + (q + r) * 4294967296 + s) / 18446744073709551616 := by omega
  rw [e1]
theorem repl_rd (m : Nat) (a i : Int) (h0 : 0 ≤ i) (h1 : i < (m : Int)) : rd (List.replicate m a) i = a :=
  List.eq_of_mem_replicate (rd_mem (l := List.replicate m a) h0 (by rw [List.length_replicate]; exact h1))
theorem cpy_rep (m n : Nat) (a : Int) (hn : n ≤ m) : cpy (List.replicate n a ++ List.replicate (m - n) 0) n ((List.replicate n a ++ List.replicate (m - n) 0).take n) =
    List.replicate (n + min n (m - n)) a ++ List.replicate (m - (n + min n (m - n))) 0 := by
  have hl : (List.replicate n a ++ List.replicate (m - n) (0 : Int)).length = m := by simp; omega
  have ht : (List.replicate n a ++ List.replicate (m - n) (0 : Int)).take n = List.replicate n a := List.take_left' (by simp)
  unfold cpy
  rw [hl, ht, List.take_replicate, List.length_replicate]
  have hd : (List.replicate n a ++ List.replicate (m - n) (0 : Int)).drop (n + min n (m - n)) = List.replicate (m - (n + min n (m - n))) 0 := by
    rw [← List.drop_drop, List.drop_left' (by simp), List.drop_replicate]
    congr 1; omega
  rw [hd, ← List.replicate_append_replicate, Nat.min_comm (m - n) n]
theorem copies (k m : Nat) (a : Int) (hm : m ≤ 2000) (j : Nat) : ∀ (fuel n : Nat), 1 ≤ n → n ≤ m → m - n ≤ j → j < fuel →
    slices_Repeat_int.l0 k fuel (List.replicate n a ++ List.replicate (m - n) 0) (n : Int) = some (List.replicate m a) := by
  have stop : ∀ (fuel n : Nat), n = m → 0 < fuel → slices_Repeat_int.l0 k fuel (List.replicate n a ++ List.replicate (m - n) 0) (n : Int) = some (List.replicate m a) := by
    intro fuel n e hf
    obtain ⟨fuel, rfl⟩ : ∃ q, fuel = q + 1 := ⟨fuel - 1, by omega⟩
    subst e
    rw [slices_Repeat_int.l0, ifn (by simp), Nat.sub_self, List.replicate_zero, List.append_nil]
  induction j with
  | zero => intro fuel n h1 h2 h3 hf; exact stop fuel n (by omega) hf
  | succ j ih =>
    intro fuel n h1 h2 h3 hf
    by_cases c : n = m
    · exact stop fuel n c (by omega)
    obtain ⟨fuel, rfl⟩ : ∃ q, fuel = q + 1 := ⟨fuel - 1, by omega⟩
    have hl : (List.replicate n a ++ List.replicate (m - n) (0 : Int)).length = m := by simp; omega
    have ht : ((List.replicate n a ++ List.replicate (m - n) (0 : Int)).take n).length = n := by rw [List.length_take, hl]; omega
    rw [slices_Repeat_int.l0, hl, ifp (by omega), ifp (by omega), ifp (by omega), show ((n : Int)).toNat = n by omega, ht, cpy_rep m n a h2, wid (by omega) (by omega)]
    have := ih fuel (n + min n (m - n)) (by omega) (by omega) (by omega) (by omega)
    rw [show (n : Int) + ((min n (m - n) : Nat) : Int) = ((n + min n (m - n) : Nat) : Int) by omega]
    exact this
theorem repeat_eq (k m : Nat) (a : Int) (h1 : 1 ≤ m) (hm : m ≤ 2000) (hk : 3000 ≤ k) : slices_Repeat_int k [a] (m : Int) = some (List.replicate m a) := by
  unfold slices_Repeat_int
  have hmul : bits_Mul k (u64 (([a] : List Int).length : Int)) (u64 (m : Int)) = some (0, (m : Int)) := by
    unfold bits_Mul
    have e1 : u64 (([a] : List Int).length : Int) = 1 := wuid (by simp) (by simp)
    rw [e1, wuid (x := (m : Int)) (by omega) (by omega), bnd (mul64_eq k 1 m (by decide) (by decide) (by omega) (by omega))]
    dsimp only
    rw [Int.one_mul, Int.ediv_eq_zero_of_lt (by omega) (by omega), Int.emod_eq_of_lt (by omega) (by omega)]
  rw [ifn (by omega), bnd hmul]
  dsimp only
  rw [ifn (by decide), ifn (by omega), wid (x := (m : Int)) (by omega) (by omega), ifp (by omega), ifp (by omega), show ((m : Int)).toNat = m by omega]
  have hc : cpy (List.replicate m (0 : Int)) 0 [a] = List.replicate 1 a ++ List.replicate (m - 1) 0 := by
    unfold cpy
    simp only [List.take_zero, List.nil_append, List.length_replicate, Nat.sub_zero, List.length_cons, List.length_nil, Nat.zero_add, List.drop_replicate]
    rw [List.take_of_length_le (by simp; omega), show min 1 m = 1 by omega]
    rfl
  have hn : ((min ([a] : List Int).length ((List.replicate m (0 : Int)).length - 0) : Nat) : Int) = ((1 : Nat) : Int) := by
    simp only [List.length_replicate, List.length_cons, List.length_nil]; omega
  rw [hc, hn, bnd (copies k m a hm m k 1 (by decide) h1 (by omega) (by omega))]
/-! ### The check -/
theorem find_none (k : Nat) (s : List Int) (hs : AllIn s 0 65535) (hl : s.length ≤ 100000) (j : Nat) : ∀ (fuel : Nat) (i : Int), 0 ≤ i → (s.length : Int) - i ≤ j → j < fuel → slices_IndexFunc_int__frame_Check_1.l0 k s fuel i = some (Sum.inr ()) := by
  induction j with
  | zero =>
    intro fuel i h0 h1 hf
    obtain ⟨fuel, rfl⟩ : ∃ q, fuel = q + 1 := ⟨fuel - 1, by omega⟩
    rw [slices_IndexFunc_int__frame_Check_1.l0, ifn (by omega)]
  | succ j ih =>
    intro fuel i h0 h1 hf
    obtain ⟨fuel, rfl⟩ : ∃ q, fuel = q + 1 := ⟨fuel - 1, by omega⟩
    rw [slices_IndexFunc_int__frame_Check_1.l0]
    by_cases c : i < (s.length : Int)
    · have hx := hs.rd h0 c
      have hf1 : frame_Check_1 k (rd s i) = some false := by
        unfold frame_Check_1
        rw [ifn (by omega), decide_eq_false (by omega)]
      rw [ifp c, ifp h0, bnd hf1, ifn (by decide), wid (by omega) (by omega)]
      exact ih fuel (i + 1) (by omega) (by omega) (by omega)
    · rw [ifn c]
theorem check_ok (k : Nat) (w h : Int) (cs : List Int) (w0 : 1 ≤ w) (w1 : w ≤ 32) (h0 : 1 ≤ h) (h1 : h ≤ 32) (hl : (cs.length : Int) = w * h) (hs : AllIn cs 0 65535) (hk : 3000 ≤ k) : frame_Check k ⟨w, h, [], cs⟩ = some 0 := by
  have hp := mul_le (a := w) (b := h) (A := 32) (B := 32) (by omega) w1 (by omega) h1
  unfold frame_Check slices_ContainsFunc_int__frame_Check_1 slices_IndexFunc_int__frame_Check_1
  dsimp only
  rw [mn_def, mx_def, ifn (by omega), ifn (by omega), wid (by omega) (by omega), ifn (by omega), find_none k cs hs (by omega) 2000 k 0 (by decide) (by omega) (by omega)]
  rfl
/-! ### Parts of a row of equal numbers -/
theorem part_rep (N i j : Nat) (a : Int) (hij : i ≤ j) (hj : j ≤ N) : (((List.replicate N a).take j).drop i) = List.replicate (j - i) a := by
  rw [List.take_replicate, List.drop_replicate]; congr 1; omega
theorem rows_eq (k w h : Nat) (a : Int) (w0 : 1 ≤ w) (w1 : w ≤ 32) (h1 : h ≤ 32) (j : Nat) : ∀ (q fuel : Nat), q + j = h → j < fuel →
    slices_Chunk_int_1.l0 k (List.replicate (w * h) a) w fuel ((q * w : Nat) : Int) = some (List.replicate j (List.replicate w a)) := by
  have hN : w * h ≤ 32 * 32 := Nat.mul_le_mul w1 h1
  induction j with
  | zero =>
    intro q fuel e hf
    obtain ⟨fuel, rfl⟩ : ∃ q, fuel = q + 1 := ⟨fuel - 1, by omega⟩
    rw [slices_Chunk_int_1.l0, List.length_replicate, ifn (by rw [show q = h by omega, Nat.mul_comm]; omega)]
    rfl
  | succ j ih =>
    intro q fuel e hf
    obtain ⟨fuel, rfl⟩ : ∃ q, fuel = q + 1 := ⟨fuel - 1, by omega⟩
    have h2 : q * w + w ≤ w * h := by
      have := Nat.mul_le_mul_right w (show q + 1 ≤ h by omega)
      rw [Nat.add_mul, Nat.one_mul, Nat.mul_comm h w] at this
      exact this
    have next := ih (q + 1) fuel (by omega) (by omega)
    rw [Nat.add_mul, Nat.one_mul] at next
    generalize q * w = i at *
    generalize w * h = N at *
    rw [slices_Chunk_int_1.l0, List.length_replicate, List.drop_replicate, List.length_replicate, show ((i : Int)).toNat = i by omega, mn_def, show min (w : Int) ((N - i : Nat) : Int) = w by omega,
      wid (x := (i : Int) + w) (by omega) (by omega), ifp (by omega), ifp (by omega), ifp (by omega), ifp (by omega), ifp (by omega), show ((i : Int) + w).toNat = i + w by omega, part_rep N i (i + w) a (by omega) h2]
    rw [show (i : Int) + (w : Int) = ((i + w : Nat) : Int) by omega, bnd next, show i + w - i = w by omega]
    rfl
/-- Groups of noughts. -/
def Gs (gs : List (List Int)) : Prop := ∀ g, g ∈ gs → ∃ c : Nat, c ≤ 8 ∧ g = List.replicate c 0
def tot : List (List Int) → Int
  | [] => 0
  | g :: t => (g.length : Int) + tot t
theorem groups_eq (k m : Nat) (hm : m ≤ 31) (j : Nat) : ∀ (i fuel : Nat), m ≤ i + 8 * j → i ≤ 100 → j < fuel →
    ∃ gs, slices_Chunk_int_1.l0 k (List.replicate m (0 : Int)) 8 fuel (i : Int) = some gs ∧ Gs gs ∧ gs.length ≤ j ∧ 0 ≤ tot gs ∧ tot gs ≤ ((m - i : Nat) : Int) := by
  induction j with
  | zero =>
    intro i fuel h1 h2 hf
    obtain ⟨fuel, rfl⟩ : ∃ q, fuel = q + 1 := ⟨fuel - 1, by omega⟩
    rw [slices_Chunk_int_1.l0, List.length_replicate, ifn (by omega)]
    exact ⟨[], rfl, (fun g hg => (by cases hg)), Nat.le_refl _, by simp [tot], by simp [tot]⟩
  | succ j ih =>
    intro i fuel h1 h2 hf
    obtain ⟨fuel, rfl⟩ : ∃ q, fuel = q + 1 := ⟨fuel - 1, by omega⟩
    rw [slices_Chunk_int_1.l0, List.length_replicate, List.drop_replicate, List.length_replicate, show ((i : Int)).toNat = i by omega]
    by_cases c : (i : Int) < (m : Int)
    · obtain ⟨gs, e, hg, hl, ht0, ht⟩ := ih (i + 8) fuel (by omega) (by omega) (by omega)
      rw [mn_def, wid (x := (i : Int) + min 8 ((m - i : Nat) : Int)) (by omega) (by omega), wid (x := (i : Int) + 8) (by omega) (by omega), ifp c, ifp (by omega), ifp (by omega), ifp (by omega), ifp (by omega),
        show ((i : Int) + min 8 ((m - i : Nat) : Int)).toNat = i + min 8 (m - i) by omega, part_rep m i (i + min 8 (m - i)) 0 (by omega) (by omega), show (i : Int) + 8 = ((i + 8 : Nat) : Int) by omega, bnd e]
      refine ⟨_, rfl, ?_, by simp only [List.length_cons]; omega, ?_, ?_⟩
      · intro g hgm
        rcases List.mem_cons.mp hgm with rfl | hgm
        · exact ⟨i + min 8 (m - i) - i, by omega, rfl⟩
        · exact hg g hgm
      · simp only [tot, List.length_replicate]; omega
      · simp only [tot, List.length_replicate]; omega
    · rw [ifn c]
      exact ⟨[], rfl, (fun g hg => (by cases hg)), Nat.zero_le _, by simp [tot], by simp [tot]⟩
/-! ### Bits -/
/-- So many bits lie in so many bytes. -/
def Bits (out : List Int) (used : Int) : Prop := 0 ≤ used ∧ used ≤ 1000 ∧ (out.length : Int) = (used + 7) / 8
theorem put_l0 (k : Nat) (v : Int) (j : Nat) : ∀ (fuel : Nat) (n : Int) (out : List Int) (used : Int), Bits out used → used + n + 1 ≤ 1000 → -1 ≤ n → n + 1 ≤ j → n ≤ 50 → j < fuel →
    ∃ out', squeeze_writer_put.l0 k v fuel n out used = some (out', used + n + 1) ∧ Bits out' (used + n + 1) := by
  have stop : ∀ (fuel : Nat) (n : Int) (out : List Int) (used : Int), Bits out used → n = -1 → 0 < fuel → ∃ out', squeeze_writer_put.l0 k v fuel n out used = some (out', used + n + 1) ∧ Bits out' (used + n + 1) := by
    intro fuel n out used hb e hf
    obtain ⟨fuel, rfl⟩ : ∃ q, fuel = q + 1 := ⟨fuel - 1, by omega⟩
    rw [squeeze_writer_put.l0, ifn (by omega), show used + n + 1 = used by omega]
    exact ⟨out, rfl, hb⟩
  induction j with
  | zero => intro fuel n out used hb h1 h2 h3 h4 hf; exact stop fuel n out used hb (by omega) hf
  | succ j ih =>
    intro fuel n out used hb h1 h2 h3 h4 hf
    by_cases c : n = -1
    · exact stop fuel n out used hb c (by omega)
    obtain ⟨fuel, rfl⟩ : ∃ q, fuel = q + 1 := ⟨fuel - 1, by omega⟩
    obtain ⟨b0, b1, b2⟩ := hb
    have hm := tmod_nn (a := used) (b := 8) b0
    rw [squeeze_writer_put.l0, ifp (by omega), hm]
    by_cases d : used % 8 = 0
    · have hL : (((out ++ ([0] : List Int)).length : Nat) : Int) = (out.length : Int) + 1 := by simp
      rw [ifp d, ifp (by omega), hL, wid (x := (out.length : Int) + 1 - 1) (by omega) (by omega), ifp (by omega), ifp (by omega), ifp (by omega), wid (x := 7 - used % 8) (by omega) (by omega), ifp (by omega), wid (x := n - 1) (by omega) (by omega), wid (x := used + 1) (by omega) (by omega)]
      generalize hS : ((out ++ ([0] : List Int)).set _ _) = S
      have hSl : (S.length : Int) = (out.length : Int) + 1 := by rw [← hS, List.length_set, hL]
      obtain ⟨o, e, he⟩ := ih fuel (n - 1) S (used + 1) ⟨by omega, by omega, by omega⟩ (by omega) (by omega) (by omega) (by omega) (by omega)
      rw [show used + 1 + (n - 1) + 1 = used + n + 1 by omega] at e he
      exact ⟨o, e, he⟩
    · rw [ifn d, wid (x := (out.length : Int) - 1) (by omega) (by omega), ifp (by omega), ifp (by omega), ifp (by omega), wid (x := 7 - used % 8) (by omega) (by omega), ifp (by omega), wid (x := n - 1) (by omega) (by omega), wid (x := used + 1) (by omega) (by omega)]
      generalize hS : (out.set _ _) = S
      have hSl : (S.length : Int) = (out.length : Int) := by rw [← hS, List.length_set]
      obtain ⟨o, e, he⟩ := ih fuel (n - 1) S (used + 1) ⟨by omega, by omega, by omega⟩ (by omega) (by omega) (by omega) (by omega) (by omega)
      rw [show used + 1 + (n - 1) + 1 = used + n + 1 by omega] at e he
      exact ⟨o, e, he⟩
theorem put_ex (k : Nat) (v n : Int) (out : List Int) (used : Int) (hb : Bits out used) (h0 : 0 ≤ n) (h1 : n ≤ 20) (h2 : used + n ≤ 1000) (hk : 100 ≤ k) : ∃ out', squeeze_writer_put k ⟨out, used⟩ v n = some (out', used + n) ∧ Bits out' (used + n) := by
  unfold squeeze_writer_put
  dsimp only
  rw [wid (x := n - 1) (by omega) (by omega)]
  obtain ⟨o, e, he⟩ := put_l0 k v 30 k (n - 1) out used hb (by omega) (by omega) (by omega) (by omega) (by omega)
  rw [show used + (n - 1) + 1 = used + n by omega] at e he
  rw [bnd e]
  exact ⟨o, rfl, he⟩
/-! ### Costs -/
theorem shr0 (n : Nat) : shr 0 n = 0 := by rw [shr_def, Int.zero_ediv]
def unit (x : Int) : Int := if x = 15 then 17 else 1 + x
theorem cost_l0 (k g : Nat) (x : Int) (hg : g ≤ 8) (x0 : 0 ≤ x) (x1 : x ≤ 15) (j : Nat) : ∀ (fuel i : Nat) (n : Int), i + j = g → j < fuel → 0 ≤ n → n ≤ 17 * i →
    squeeze_cost.l0 k (List.replicate g 0) x fuel n (i : Int) = some (n + unit x * j) := by
  induction j with
  | zero =>
    intro fuel i n e hf n0 n1
    obtain ⟨fuel, rfl⟩ : ∃ q, fuel = q + 1 := ⟨fuel - 1, by omega⟩
    rw [squeeze_cost.l0, List.length_replicate, ifn (by omega), Int.natCast_zero, Int.mul_zero, Int.add_zero]
  | succ j ih =>
    intro fuel i n e hf n0 n1
    obtain ⟨fuel, rfl⟩ : ∃ q, fuel = q + 1 := ⟨fuel - 1, by omega⟩
    rw [squeeze_cost.l0, List.length_replicate, ifp (by omega), ifp (by omega), repl_rd g 0 i (by omega) (by omega), shr0]
    have hu : 1 ≤ unit x ∧ unit x ≤ 17 := by unfold unit; split <;> omega
    have last : ∀ n' : Int, n' = n + unit x → squeeze_cost.l0 k (List.replicate g 0) x fuel n' (w64 ((i : Int) + 1)) = some (n + unit x * ((j + 1 : Nat) : Int)) := by
      intro n' e'
      rw [wid (by omega) (by omega), show (i : Int) + 1 = ((i + 1 : Nat) : Int) by omega, ih fuel (i + 1) n' (by omega) (by omega) (by omega) (by omega), e']
      rw [show ((j + 1 : Nat) : Int) = (j : Int) + 1 by omega, Int.mul_add, Int.mul_one]
      congr 1; omega
    by_cases c : x = 15
    · rw [ifp c, wid (x := n + 17) (by omega) (by omega)]
      exact last _ (by unfold unit; rw [if_pos c])
    · rw [ifn c, ifp (by omega), wid (x := 0 + 1) (by omega) (by omega), wid (x := 0 + 1 + x) (by omega) (by omega), wid (x := n + (0 + 1 + x)) (by omega) (by omega)]
      exact last _ (by unfold unit; rw [if_neg c]; omega)
theorem cost_eq (k g : Nat) (x : Int) (hg : g ≤ 8) (x0 : 0 ≤ x) (x1 : x ≤ 15) (hk : 100 ≤ k) : squeeze_cost k (List.replicate g 0) x = some (unit x * g) := by
  unfold squeeze_cost
  have := cost_l0 k g x hg x0 x1 g k 0 0 (by omega) (by omega) (by decide) (by decide)
  rw [Int.zero_add, show ((0 : Nat) : Int) = 0 by rfl] at this
  rw [bnd this]
theorem best_l2 (k g : Nat) (hg : g ≤ 8) (hk : 100 ≤ k) (j : Nat) : ∀ (fuel : Nat) (x : Int), 0 ≤ x → 16 - x ≤ j → j < fuel → squeeze_row.l2 k (List.replicate g 0) fuel 0 x = some 0 := by
  induction j with
  | zero =>
    intro fuel x x0 h1 hf
    obtain ⟨fuel, rfl⟩ : ∃ q, fuel = q + 1 := ⟨fuel - 1, by omega⟩
    rw [squeeze_row.l2, ifn (by omega)]
  | succ j ih =>
    intro fuel x x0 h1 hf
    obtain ⟨fuel, rfl⟩ : ∃ q, fuel = q + 1 := ⟨fuel - 1, by omega⟩
    rw [squeeze_row.l2]
    by_cases c : x < 16
    · have hu : 1 ≤ unit x := by unfold unit; split <;> omega
      have h2 := Int.mul_le_mul_of_nonneg_right hu (show (0 : Int) ≤ (g : Int) by omega)
      have e0 : unit 0 = 1 := rfl
      rw [ifp c, bnd (cost_eq k g x hg x0 (by omega) hk), bnd (cost_eq k g 0 hg (by decide) (by decide) hk), e0, ifn (by omega), wid (by omega) (by omega)]
      exact ih fuel (x + 1) (by omega) (by omega) (by omega)
    · rw [ifn c]
theorem zs_l3 (k g : Nat) (hk : 100 ≤ k) (hg : g ≤ 8) (j : Nat) : ∀ (fuel i : Nat) (out : List Int) (used : Int), i + j = g → j < fuel → Bits out used → used + j ≤ 900 →
    ∃ out', squeeze_row.l3 k (List.replicate g 0) 0 fuel (i : Int) out used = some (out', used + j) ∧ Bits out' (used + j) := by
  induction j with
  | zero =>
    intro fuel i out used e hf hb _
    obtain ⟨fuel, rfl⟩ : ∃ q, fuel = q + 1 := ⟨fuel - 1, by omega⟩
    rw [squeeze_row.l3, List.length_replicate, ifn (by omega), show used + ((0 : Nat) : Int) = used by omega]
    exact ⟨out, rfl, hb⟩
  | succ j ih =>
    intro fuel i out used e hf hb hu
    obtain ⟨fuel, rfl⟩ : ∃ q, fuel = q + 1 := ⟨fuel - 1, by omega⟩
    have l4 : squeeze_row.l4 k (List.replicate g 0) (i : Int) 0 k 0 out used = some (out, used) := by
      obtain ⟨k', hk'⟩ : ∃ q, k = q + 1 := ⟨k - 1, by omega⟩
      generalize hkk : squeeze_row.l4 k (List.replicate g 0) (i : Int) 0 = L
      rw [hk', ← hkk, squeeze_row.l4, repl_rd g 0 i (by omega) (by omega), shr0, ifn (by decide)]
    obtain ⟨o1, e1, b1⟩ := put_ex k 0 1 out used hb (by decide) (by decide) (by omega) hk
    obtain ⟨o2, e2, b2⟩ := put_ex k 0 0 o1 (used + 1) b1 (by decide) (by decide) (by omega) hk
    rw [squeeze_row.l3, List.length_replicate, ifp (by omega), ifp (by omega), ifn (by decide), ifp (by decide), bnd l4]
    dsimp only
    rw [bnd e1]
    dsimp only
    rw [repl_rd g 0 i (by omega) (by omega), bnd e2]
    dsimp only
    rw [wid (x := (i : Int) + 1) (by omega) (by omega), show (i : Int) + 1 = ((i + 1 : Nat) : Int) by omega]
    rw [show used + 1 + 0 = used + 1 by omega] at b2 ⊢
    obtain ⟨o3, e3, b3⟩ := ih fuel (i + 1) o2 (used + 1) (by omega) (by omega) b2 (by omega)
    rw [show used + 1 + (j : Int) = used + ((j + 1 : Nat) : Int) by omega] at e3 b3
    exact ⟨o3, e3, b3⟩
theorem groups_g1 (k : Nat) (hk : 100 ≤ k) : ∀ (gs : List (List Int)) (out : List Int) (used : Int), Gs gs → Bits out used → used + 4 * gs.length + tot gs ≤ 800 →
    ∃ out', squeeze_row.g1 k gs out used = some (out', used + 4 * gs.length + tot gs) ∧ Bits out' (used + 4 * gs.length + tot gs) := by
  intro gs
  induction gs with
  | nil =>
    intro out used _ hb _
    rw [squeeze_row.g1, show used + 4 * (([] : List (List Int)).length : Int) + tot [] = used by simp [tot]]
    exact ⟨out, rfl, hb⟩
  | cons x t ih =>
    intro out used hg hb hu
    obtain ⟨c, hc, rfl⟩ := hg x (List.mem_cons_self ..)
    have hgt : Gs t := fun g hm => hg g (List.mem_cons_of_mem _ hm)
    have t0 : ∀ l : List (List Int), 0 ≤ tot l := by
      intro l; induction l with
      | nil => simp [tot]
      | cons y l ih => simp only [tot]; omega
    have ht := t0 t
    simp only [tot, List.length_cons, List.length_replicate] at hu ⊢
    obtain ⟨o1, e1, b1⟩ := put_ex k 0 4 out used hb (by decide) (by decide) (by omega) hk
    obtain ⟨o2, e2, b2⟩ := zs_l3 k c hk hc c k 0 o1 (used + 4) (by omega) (by omega) b1 (by omega)
    rw [squeeze_row.g1, bnd (best_l2 k c hc hk 20 k 0 (by decide) (by decide) (by omega)), bnd e1]
    dsimp only
    rw [show ((0 : Nat) : Int) = 0 by rfl] at e2
    rw [bnd e2]
    dsimp only
    obtain ⟨o3, e3, b3⟩ := ih o2 (used + 4 + c) hgt b2 (by omega)
    rw [show used + 4 + (c : Int) + 4 * (t.length : Int) + tot t = used + 4 * ((t.length + 1 : Nat) : Int) + ((c : Int) + tot t) by omega] at e3 b3
    exact ⟨o3, e3, b3⟩
theorem folds_l0 (k w : Nat) (a : Int) (w1 : w ≤ 32) (j : Nat) : ∀ (fuel i : Nat), 1 ≤ i → i + j = w → j < fuel → squeeze_row.l0 k (List.replicate w a) fuel (List.replicate (i - 1) 0) (i : Int) = some (List.replicate (w - 1) 0) := by
  induction j with
  | zero =>
    intro fuel i h1 e hf
    obtain ⟨fuel, rfl⟩ : ∃ q, fuel = q + 1 := ⟨fuel - 1, by omega⟩
    rw [squeeze_row.l0, List.length_replicate, ifn (by omega), show i = w by omega]
  | succ j ih =>
    intro fuel i h1 e hf
    obtain ⟨fuel, rfl⟩ : ∃ q, fuel = q + 1 := ⟨fuel - 1, by omega⟩
    have hf0 : squeeze_fold k 0 = some 0 := by
      unfold squeeze_fold
      rw [ifn (by decide)]
      rfl
    rw [squeeze_row.l0, List.length_replicate, List.length_replicate, wid (x := (i : Int) - 1) (by omega) (by omega), ifp (by omega), ifp (by omega), ifp (by omega), ifp (by omega), repl_rd w a i (by omega) (by omega), repl_rd w a ((i : Int) - 1) (by omega) (by omega),
      Int.sub_self, wid (x := 0) (by decide) (by decide), bnd hf0, ifp (by omega), wid (x := (i : Int) + 1) (by omega) (by omega)]
    have := ih fuel (i + 1) (by omega) (by omega) (by omega)
    rw [show i + 1 - 1 = (i - 1) + 1 by omega, List.replicate_succ'] at this
    exact this
theorem row_ex (k w : Nat) (a : Int) (w0 : 1 ≤ w) (w1 : w ≤ 32) (hk : 100 ≤ k) : ∃ r, squeeze_row k (List.replicate w a) = some r ∧ r.length ≤ 8 := by
  unfold squeeze_row
  rw [List.length_replicate, ifp (by omega)]
  obtain ⟨o1, e1, b1⟩ := put_ex k (rd (List.replicate w a) 0) 16 [] 0 ⟨by decide, by decide, by decide⟩ (by decide) (by decide) (by decide) hk
  rw [bnd e1]
  dsimp only
  have hf := folds_l0 k w a w1 (w - 1) k 1 (by decide) (by omega) (by omega)
  rw [show ((1 : Nat) : Int) = 1 by rfl, show (1 : Nat) - 1 = 0 by rfl, List.replicate_zero] at hf
  rw [bnd hf]
  have hc : slices_Chunk_int k (List.replicate (w - 1) (0 : Int)) 8 = some (List.replicate (w - 1) 0, 8) := by
    unfold slices_Chunk_int
    rw [ifn (by decide)]
  rw [bnd hc]
  dsimp only
  obtain ⟨gs, eg, hg, hl, t0, ht⟩ := groups_eq k (w - 1) (by omega) 4 0 k (by omega) (by decide) (by omega)
  have hI : slices_Chunk_int_1 k (List.replicate (w - 1) (0 : Int)) 8 = some gs := eg
  rw [bnd hI]
  obtain ⟨o2, e2, b2⟩ := groups_g1 k hk gs o1 (0 + 16) hg b1 (by omega)
  rw [bnd e2]
  dsimp only
  obtain ⟨_, _, b⟩ := b2
  exact ⟨o2, rfl, by omega⟩
theorem pack_g0 (k w : Nat) (a : Int) (w0 : 1 ≤ w) (w1 : w ≤ 32) (hk : 100 ≤ k) (j : Nat) : ∀ (out : List Int), out.length ≤ 2000 - 10 * j → 10 * j ≤ 1000 → ∃ out', squeeze_Pack.g0 k (List.replicate j (List.replicate w a)) out = some out' ∧ out'.length ≤ out.length + 10 * j := by
  induction j with
  | zero =>
    intro out _ _
    rw [List.replicate_zero, squeeze_Pack.g0]
    exact ⟨out, rfl, by omega⟩
  | succ j ih =>
    intro out ho hj
    obtain ⟨r, e, hr⟩ := row_ex k w a w0 w1 hk
    rw [List.replicate_succ, squeeze_Pack.g0, bnd e]
    have hl : (out ++ ([u8 (shr (r.length : Int) 8), u8 ((r.length : Int))] : List Int)).length = out.length + 2 := by simp
    rw [ifp (by omega), hl, ifp (by omega)]
    obtain ⟨o, eo, hlo⟩ := ih ((out ++ ([u8 (shr (r.length : Int) 8), u8 ((r.length : Int))] : List Int)) ++ r) (by rw [List.length_append, hl]; omega) (by omega)
    rw [List.length_append, hl] at hlo
    exact ⟨o, eo, by omega⟩
theorem pack_ex (k w h : Nat) (a : Int) (w0 : 1 ≤ w) (w1 : w ≤ 32) (h0 : 1 ≤ h) (h1 : h ≤ 32) (a0 : 0 ≤ a) (a1 : a ≤ 65535) (hk : 3000 ≤ k) : ∃ out, squeeze_Pack k w h (List.replicate (w * h) a) = some (out, 0) ∧ out.length ≤ 2 + 10 * h := by
  unfold squeeze_Pack
  have hs : AllIn (List.replicate (w * h) a) 0 65535 := fun x hx => by rw [List.eq_of_mem_replicate hx]; exact ⟨a0, a1⟩
  rw [bnd (check_ok k w h _ (by omega) (by omega) (by omega) (by omega) (by rw [List.length_replicate]; exact Int.natCast_mul w h) hs hk), ifn (fun c => c rfl)]
  have hc : slices_Chunk_int k (List.replicate (w * h) a) (w : Int) = some (List.replicate (w * h) a, (w : Int)) := by
    unfold slices_Chunk_int
    rw [ifn (by omega)]
  rw [bnd hc]
  dsimp only
  have hr := rows_eq k w h a w0 w1 h1 h 0 k (by omega) (by omega)
  have hI : slices_Chunk_int_1 k (List.replicate (w * h) a) (w : Int) = some (List.replicate h (List.replicate w a)) := by
    unfold slices_Chunk_int_1
    rw [Nat.zero_mul] at hr
    exact hr
  rw [bnd hI]
  obtain ⟨o, e, hl⟩ := pack_g0 k w a w0 w1 (by omega) h [u8 (w : Int), u8 (h : Int)] (by simp only [List.length_cons, List.length_nil]; omega) (by omega)
  rw [bnd e]
  exact ⟨o, rfl, by simp only [List.length_cons, List.length_nil] at hl; omega⟩
theorem squeezed_eq (k : Nat) (h : 100 ≤ k) : spykeep3_squeezed k = some true := by
  obtain ⟨k, rfl⟩ : ∃ j, k = j + 100 := ⟨k - 100, by omega⟩
  kernel_rfl
theorem law (k : Nat) (w h n : Int) (hk : 3000 ≤ k) : spykeep3_SqueezeEven k w h n = some true := by
  unfold spykeep3_SqueezeEven
  obtain ⟨W, e1, W0, W1⟩ := below_ex k w 32 (by decide) (by decide)
  obtain ⟨H, e2, H0, H1⟩ := below_ex k h 32 (by decide) (by decide)
  obtain ⟨N, e3, N0, N1⟩ := below_ex k n 65536 (by decide) (by decide)
  have hp := mul_le (a := W + 1) (b := H + 1) (A := 32) (B := 32) (by omega) (by omega) (by omega) (by omega)
  rw [bnd e1, bnd e2, bnd e3, wid (x := W + 1) (by omega) (by omega), wid (x := H + 1) (by omega) (by omega), wid (x := (W + 1) * (H + 1)) (by omega) (by omega)]
  obtain ⟨x, hx⟩ : ∃ x : Nat, W + 1 = x := ⟨(W + 1).toNat, by omega⟩
  obtain ⟨y, hy⟩ : ∃ y : Nat, H + 1 = y := ⟨(H + 1).toNat, by omega⟩
  rw [hx, hy] at hp ⊢
  have hxy : (x : Int) * (y : Int) = ((x * y : Nat) : Int) := (Int.natCast_mul x y).symm
  have h1 : 1 ≤ x * y := Nat.mul_pos (by omega) (by omega)
  rw [hxy] at hp ⊢
  rw [bnd (repeat_eq k (x * y) N h1 (by omega) hk)]
  obtain ⟨o, eo, hl⟩ := pack_ex k x y N (by omega) (by omega) (by omega) (by omega) N0 (by omega) hk
  rw [bnd eo]
  dsimp only
  rw [bnd (squeezed_eq k (by omega)), ifp rfl, ifp rfl, wid (x := 10 * (y : Int)) (by omega) (by omega), wid (by omega) (by omega)]
  exact congrArg some (decide_eq_true (by omega))
theorem law_ex (w h n : Int) (_ : (Lit.int .i64 w).wf = true) (_ : (Lit.int .i64 h).wf = true) (_ : (Lit.int .i64 n).wf = true) : ∃ k, spykeep3_SqueezeEven k w h n = some true := ⟨3000, law 3000 w h n (by decide)⟩

end Go.Sp.E3
