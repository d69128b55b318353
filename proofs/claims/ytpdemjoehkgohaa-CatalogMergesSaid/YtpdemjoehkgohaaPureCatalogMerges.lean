import Derived.Test.YtpdemjoehkgohaaFM4
import Derived.KernelRfl
namespace Go.Sp.M4
open Go Go.Sp
set_option linter.unusedVariables false
theorem bnd {α β : Type} {x : Option α} {g : α → Option β} {v : α} (h : x = some v) : x.bind g = g v := by rw [h]; rfl
theorem ifp {α : Type} {c : Prop} [Decidable c] {x y : α} (h : c) : (if c then x else y) = x := if_pos h
theorem ifn {α : Type} {c : Prop} [Decidable c] {x y : α} (h : ¬ c) : (if c then x else y) = y := if_neg h
theorem rd_mem {α : Type} [Inhabited α] {l : List α} {i : Int} (h0 : 0 ≤ i) (h1 : i < (l.length : Int)) : rd l i ∈ l := by
  obtain ⟨h, e⟩ := rd_lt h0 h1
  rw [e]; exact List.getElem_mem h
theorem wid {x : Int} (h : -9223372036854775808 ≤ x) (h' : x ≤ 9223372036854775807) : w64 x = x := w64_of h h'
theorem wuid {x : Int} (h : 0 ≤ x) (h' : x ≤ 18446744073709551615) : u64 x = x := u64_of h h'
theorem mul_le {a b A B : Int} (h1 : 0 ≤ a) (h2 : a ≤ A) (h3 : 0 ≤ b) (h4 : b ≤ B) : 0 ≤ a * b ∧ a * b ≤ A * B :=
  ⟨Int.mul_nonneg h1 h3, Int.mul_le_mul h2 h4 h3 (by omega)⟩
theorem tdiv_nn {a b : Int} (h : 0 ≤ a) : Int.tdiv a b = a / b := Int.tdiv_eq_ediv_of_nonneg h
theorem tmod_nn {a b : Int} (h : 0 ≤ a) : Int.tmod a b = a % b := Int.tmod_eq_emod_of_nonneg h
def AllIn (l : List Int) (lo hi : Int) : Prop := ∀ x, x ∈ l → lo ≤ x ∧ x ≤ hi
theorem AllIn.nil {lo hi : Int} : AllIn [] lo hi := fun x h => by cases h
theorem AllIn.push {l : List Int} {lo hi x : Int} (h : AllIn l lo hi) (h0 : lo ≤ x) (h1 : x ≤ hi) : AllIn (l ++ [x]) lo hi := by
  intro y hy
  rcases List.mem_append.mp hy with hy | hy
  · exact h y hy
  · simp only [List.mem_singleton] at hy; subst hy; exact ⟨h0, h1⟩
theorem AllIn.rd {l : List Int} {lo hi i : Int} (h : AllIn l lo hi) (h0 : 0 ≤ i) (h1 : i < (l.length : Int)) : lo ≤ rd l i ∧ rd l i ≤ hi := h _ (rd_mem h0 h1)
theorem AllIn.mono {l : List Int} {lo hi lo' hi' : Int} (h : AllIn l lo hi) (h0 : lo' ≤ lo) (h1 : hi ≤ hi') : AllIn l lo' hi' := fun x hx => by have := h x hx; omega
theorem rd_set_eq (l : List Int) (i x : Int) (h0 : 0 ≤ i) (h1 : i < (l.length : Int)) : rd (l.set i.toNat x) i = x := by
  obtain ⟨h, e⟩ := rd_lt (xs := l.set i.toNat x) h0 (by simp; omega)
  rw [e]; simp
theorem rd_set_ne (l : List Int) (i j x : Int) (h0 : 0 ≤ i) (hj : 0 ≤ j) (h1 : j < (l.length : Int)) (hne : j ≠ i) : rd (l.set i.toNat x) j = rd l j := by
  obtain ⟨h, e⟩ := rd_lt (xs := l.set i.toNat x) hj (by simp; omega)
  obtain ⟨h', e'⟩ := rd_lt (xs := l) hj h1
  rw [e, e', List.getElem_set, if_neg (by omega)]
theorem rd_push_old (l : List Int) (x i : Int) (h0 : 0 ≤ i) (h1 : i < (l.length : Int)) : rd (l ++ [x]) i = rd l i := by
  obtain ⟨h, e⟩ := rd_lt (xs := l ++ [x]) h0 (by simp; omega)
  obtain ⟨h', e'⟩ := rd_lt (xs := l) h0 h1
  rw [e, e', List.getElem_append_left h']
theorem rd_push_new (l : List Int) (x i : Int) (h1 : i = (l.length : Int)) : rd (l ++ [x]) i = x := by
  obtain ⟨h, e⟩ := rd_lt (xs := l ++ [x]) (i := i) (by omega) (by simp; omega)
  rw [e, List.getElem_append_right (by omega)]
  simp
theorem below_ex (k : Nat) (x n : Int) (h1 : 1 ≤ n) (h2 : n ≤ 4611686018427387904) : ∃ v, spymake_Below k x n = some v ∧ 0 ≤ v ∧ v < n := by
  have e1 := Int.tmod_lt_of_pos x (show 0 < n by omega)
  have e2 := Int.lt_tmod_of_pos x (show 0 < n by omega)
  unfold spymake_Below
  rw [ifn (by omega), ifp (by omega)]
  by_cases c : Int.tmod x n < 0
  · rw [ifp c]
    refine ⟨_, rfl, ?_, ?_⟩ <;> rw [wid (by omega) (by omega)] <;> omega
  · rw [ifn c]
    exact ⟨_, rfl, by omega, by omega⟩
theorem next_ex (k : Nat) (L : List Int) (a n : Int) (h1 : 1 ≤ n) (h2 : n ≤ 4611686018427387904) (a0 : 0 ≤ a) (a1 : a ≤ 4611686018427387904) :
    ∃ v, spymake_Stream_Next k ⟨L, a⟩ n = some (v, a + 1) ∧ 0 ≤ v ∧ v < n := by
  unfold spymake_Stream_Next
  dsimp only
  rw [wid (x := a + 1) (by omega) (by omega)]
  by_cases c : (L.length : Int) = 0
  · rw [ifp c]
    obtain ⟨v, hv, v0, v1⟩ := below_ex k (w64 ((a + 1) * 7919)) n h1 h2
    rw [bnd hv]
    exact ⟨v, rfl, v0, v1⟩
  · rw [ifn c, ifp c, show a + 1 - 1 = a by omega, wid (x := a) (by omega) (by omega)]
    have e1 := Int.tmod_lt_of_pos a (show 0 < (L.length : Int) by omega)
    have e2 : 0 ≤ Int.tmod a (L.length : Int) := Int.tmod_nonneg _ a0
    rw [ifp e2, ifp e1]
    obtain ⟨u, hu, _⟩ := below_ex k (rd L (Int.tmod a (L.length : Int))) 1073741824 (by decide) (by decide)
    rw [bnd hu]
    obtain ⟨v, hv, v0, v1⟩ := below_ex k (w64 (u + (w64 ((w64 (Int.tdiv a (L.length : Int))) * (w64 (7919 + (Int.tmod a (L.length : Int)))))))) n h1 h2
    rw [bnd hv]
    exact ⟨v, rfl, v0, v1⟩
theorem range_ex (k : Nat) (L : List Int) (a lo hi : Int) (h1 : lo ≤ hi) (h2 : hi - lo ≤ 1073741824) (h3 : -4611686018427387904 ≤ lo) (h4 : hi ≤ 4611686018427387904) (a0 : 0 ≤ a) (a1 : a ≤ 4611686018427387904) :
    ∃ v, spymake_Stream_Range k ⟨L, a⟩ lo hi = some (v, a + 1) ∧ lo ≤ v ∧ v ≤ hi := by
  unfold spymake_Stream_Range
  rw [ifn (by omega), wid (x := hi - lo) (by omega) (by omega), wid (x := hi - lo + 1) (by omega) (by omega)]
  obtain ⟨v, hv, v0, v1⟩ := next_ex k L a (hi - lo + 1) (by omega) (by omega) a0 a1
  rw [bnd hv]
  dsimp only
  rw [wid (by omega) (by omega)]
  exact ⟨_, rfl, by omega, by omega⟩
/-- A valid bound. -/
structure BOk (b : S_Bound) (M : Int) : Prop where
  un : b.Unknown = true → b.Lo = 0 ∧ b.Hi = 0
  lo : -M ≤ b.Lo
  hi : b.Hi ≤ M
  le : b.Lo ≤ b.Hi
theorem ends_Coord (k : Nat) (b : S_Bound) (M : Int) (h : BOk b M) (m0 : 0 ≤ M) (m1 : M ≤ 1152921504606846976) : catalog_ends_Coord k b M = some 0 := by
  have h1 := h.lo
  have h2 := h.hi
  have h3 := h.le
  have hc : bound_Check_Coord k b = some 0 := by
    unfold bound_Check_Coord
    by_cases c : b.Unknown = true
    · obtain ⟨u, v⟩ := h.un c
      rw [ifp c, ifn (by omega), ifn (by omega), ifn (by rw [mn_def]; omega), ifn (by rw [mx_def]; omega), ifn (by omega)]
    · rw [ifn c, ifn (by rw [mn_def]; omega), ifn (by rw [mx_def]; omega), ifn (by omega)]
  unfold catalog_ends_Coord
  rw [bnd hc, ifn (by decide), wid (by omega) (by omega), ifn (by omega), ifn (by omega)]
theorem ends_Quanta (k : Nat) (b : S_Bound) (M : Int) (h : BOk b M) (m0 : 0 ≤ M) (m1 : M ≤ 1152921504606846976) : catalog_ends_Quanta k b M = some 0 := by
  have h1 := h.lo
  have h2 := h.hi
  have h3 := h.le
  have hc : bound_Check_Quanta k b = some 0 := by
    unfold bound_Check_Quanta
    by_cases c : b.Unknown = true
    · obtain ⟨u, v⟩ := h.un c
      rw [ifp c, ifn (by omega), ifn (by omega), ifn (by rw [mn_def]; omega), ifn (by rw [mx_def]; omega), ifn (by omega)]
    · rw [ifn c, ifn (by rw [mn_def]; omega), ifn (by rw [mx_def]; omega), ifn (by omega)]
  unfold catalog_ends_Quanta
  rw [bnd hc, ifn (by decide), wid (by omega) (by omega), ifn (by omega), ifn (by omega)]
theorem ends_Tick (k : Nat) (b : S_Bound) (M : Int) (h : BOk b M) (m0 : 0 ≤ M) (m1 : M ≤ 1152921504606846976) : catalog_ends_Tick k b M = some 0 := by
  have h1 := h.lo
  have h2 := h.hi
  have h3 := h.le
  have hc : bound_Check_Tick k b = some 0 := by
    unfold bound_Check_Tick
    by_cases c : b.Unknown = true
    · obtain ⟨u, v⟩ := h.un c
      rw [ifp c, ifn (by omega), ifn (by omega), ifn (by rw [mn_def]; omega), ifn (by rw [mx_def]; omega), ifn (by omega)]
    · rw [ifn c, ifn (by rw [mn_def]; omega), ifn (by rw [mx_def]; omega), ifn (by omega)]
  unfold catalog_ends_Tick
  rw [bnd hc, ifn (by decide), wid (by omega) (by omega), ifn (by omega), ifn (by omega)]
theorem rd_at {α : Type} [Inhabited α] {l pre post : List α} {x : α} {i : Int} (hl : l = pre ++ x :: post) (hi : i = (pre.length : Int)) : rd l i = x := by
  subst hl hi
  obtain ⟨h, e⟩ := rd_lt (xs := pre ++ x :: post) (i := (pre.length : Int)) (by omega) (by simp; omega)
  rw [e]
  simp
theorem pw_rd {α : Type} [Inhabited α] {R : α → α → Prop} {l : List α} (h : l.Pairwise R) {i j : Int} (i0 : 0 ≤ i) (ij : i < j) (jl : j < (l.length : Int)) : R (rd l i) (rd l j) := by
  obtain ⟨hi, ei⟩ := rd_lt (xs := l) i0 (by omega)
  obtain ⟨hj, ej⟩ := rd_lt (xs := l) (show 0 ≤ j by omega) jl
  rw [ei, ej]
  exact List.pairwise_iff_getElem.mp h _ _ hi hj (by omega)
theorem vec_ex (k : Nat) (L : List Int) (a : Int) (a0 : 0 ≤ a) (a1 : a ≤ 1000000) : ∃ v a', spymake_Stream_Vec k ⟨L, a⟩ = some (v, a') ∧ a ≤ a' ∧ a' ≤ a + 4 ∧ (-1048576 ≤ v.X ∧ v.X ≤ 1048576) ∧ (-1048576 ≤ v.Y ∧ v.Y ≤ 1048576) ∧ (-1048576 ≤ v.Z ∧ v.Z ≤ 1048576) := by
  unfold spymake_Stream_Vec
  obtain ⟨i, h1, i0, i1⟩ := next_ex k L a 4 (by decide) (by decide) (by omega) (by omega)
  rw [bnd h1]; dsimp only
  have hl : AllIn ([3, 100, 5000, 1048576] : List Int) 3 1048576 := by
    intro x hx; simp only [List.mem_cons, List.not_mem_nil, or_false] at hx; omega
  have len : (([3, 100, 5000, 1048576] : List Int).length : Int) = 4 := rfl
  have hv := hl.rd i0 (by rw [len]; omega)
  rw [ifp i0, ifp (by rw [len]; omega)]
  generalize rd ([3, 100, 5000, 1048576] : List Int) i = m at *
  rw [wid (x := 0 - m) (by omega) (by omega)]
  obtain ⟨x, e1, x0, x1⟩ := range_ex k L (a + 1) (0 - m) m (by omega) (by omega) (by omega) (by omega) (by omega) (by omega)
  rw [bnd e1]; dsimp only
  obtain ⟨y, e2, y0, y1⟩ := range_ex k L (a + 1 + 1) (0 - m) m (by omega) (by omega) (by omega) (by omega) (by omega) (by omega)
  rw [bnd e2]; dsimp only
  obtain ⟨z, e3, z0, z1⟩ := range_ex k L (a + 1 + 1 + 1) (0 - m) m (by omega) (by omega) (by omega) (by omega) (by omega) (by omega)
  rw [bnd e3]; dsimp only
  by_cases c : ((x == 0) && ((y == 0) && ((z == 0) && true))) = true
  · rw [ifp c]
    refine ⟨_, _, rfl, by omega, by omega, ⟨?_, ?_⟩, ⟨?_, ?_⟩, ⟨?_, ?_⟩⟩ <;> dsimp only <;> omega
  · rw [ifn c]
    refine ⟨_, _, rfl, by omega, by omega, ⟨?_, ?_⟩, ⟨?_, ?_⟩, ⟨?_, ?_⟩⟩ <;> dsimp only <;> omega
theorem side_ex (k : Nat) (L : List Int) (a m c : Int) (a0 : 0 ≤ a) (a1 : a ≤ 1000010) (m0 : 0 ≤ m) (m1 : m ≤ 262144) (c0 : -1048576 ≤ c) (c1 : c ≤ 1048576) : ∃ b, spymake_Stream_Box_1 k ⟨L, a⟩ m c = some (b, a + 1 + 1) ∧ BOk b 1073741824 := by
  unfold spymake_Stream_Box_1
  rw [wid (x := m + 1) (by omega) (by omega)]
  obtain ⟨u, h1, u0, u1⟩ := next_ex k L a (m + 1) (by omega) (by omega) (by omega) (by omega)
  rw [bnd h1]; dsimp only
  obtain ⟨v, h2, v0, v1⟩ := next_ex k L (a + 1) (m + 1) (by omega) (by omega) (by omega) (by omega)
  rw [bnd h2]; dsimp only
  rw [wid (by omega) (by omega), wid (by omega) (by omega)]
  exact ⟨_, rfl, ⟨fun h => (by cases h), by dsimp only; omega, by dsimp only; omega, by dsimp only; omega⟩⟩
theorem none_ok {M : Int} (h : 0 ≤ M) : BOk ⟨0, 0, true⟩ M := ⟨fun _ => ⟨rfl, rfl⟩, by dsimp only; omega, by dsimp only; omega, by dsimp only; omega⟩
structure XOk (b : S_Box) : Prop where
  x : BOk b.X 1073741824
  y : BOk b.Y 1073741824
  z : BOk b.Z 1073741824
theorem box_ex (k : Nat) (L : List Int) (a : Int) (a0 : 0 ≤ a) (a1 : a ≤ 999990) : ∃ b a', spymake_Stream_Box k ⟨L, a⟩ = some (b, a') ∧ a ≤ a' ∧ a' ≤ a + 12 ∧ XOk b := by
  unfold spymake_Stream_Box
  obtain ⟨v, b, e, b0, b1, hx, hy, hz⟩ := vec_ex k L a a0 (by omega)
  rw [bnd e]; dsimp only
  obtain ⟨i, h1, i0, i1⟩ := next_ex k L b 10 (by decide) (by decide) (by omega) (by omega)
  rw [bnd h1]; dsimp only
  by_cases c : i = 0
  · rw [ifp c]
    exact ⟨_, _, rfl, by omega, by omega, none_ok (by decide), none_ok (by decide), none_ok (by decide)⟩
  · rw [ifn c]
    obtain ⟨j, h2, j0, j1⟩ := next_ex k L (b + 1) 4 (by decide) (by decide) (by omega) (by omega)
    rw [bnd h2]; dsimp only
    have hl : AllIn ([0, 2, 300, 262144] : List Int) 0 262144 := by
      intro x hx; simp only [List.mem_cons, List.not_mem_nil, or_false] at hx; omega
    have len : (([0, 2, 300, 262144] : List Int).length : Int) = 4 := rfl
    have hv := hl.rd j0 (by rw [len]; omega)
    rw [ifp j0, ifp (by rw [len]; omega)]
    generalize rd ([0, 2, 300, 262144] : List Int) j = m at *
    obtain ⟨x, e1, x1⟩ := side_ex k L (b + 1 + 1) m v.X (by omega) (by omega) hv.1 hv.2 hx.1 hx.2
    rw [bnd e1]; dsimp only
    obtain ⟨y, e2, y1⟩ := side_ex k L (b + 1 + 1 + 1 + 1) m v.Y (by omega) (by omega) hv.1 hv.2 hy.1 hy.2
    rw [bnd e2]; dsimp only
    obtain ⟨z, e3, z1⟩ := side_ex k L (b + 1 + 1 + 1 + 1 + 1 + 1) m v.Z (by omega) (by omega) hv.1 hv.2 hz.1 hz.2
    rw [bnd e3]; dsimp only
    exact ⟨_, _, rfl, by omega, by omega, x1, y1, z1⟩
/-- A valid row. -/
structure RV (r : S_Row) : Prop where
  id1 : 1 ≤ r.ID
  id2 : r.ID ≤ 2147483647
  box : XOk r.Box
  flux : BOk r.Flux 1125899906842624
  when_ : BOk r.When 17592186044416
  fr : r.Frames.Pairwise (· < ·)
  fi : AllIn r.Frames 1 1048576
  l1 : 1 ≤ r.Frames.length
  l2 : r.Frames.length ≤ 8
  m0 : 0 ≤ r.Marks
  m1 : r.Marks ≤ 3
theorem or_ex (k : Nat) (h : 3 ≤ k) : cmp_Or_Errno k [0, 0] = some 0 := by
  obtain ⟨k, rfl⟩ : ∃ j, k = j + 3 := ⟨k - 3, by omega⟩
  kernel_rfl
theorem check_l1 (k : Nat) (r : S_Row) (hr : RV r) : ∀ (d m : Nat) (i : Int), i + d = (r.Frames.length : Int) → 0 ≤ i → d < m → catalog_CheckRow.l1 k r m i = some (Sum.inr ()) := by
  intro d
  have hl2 := hr.l2
  induction d with
  | zero =>
    intro m i hi i0 hm
    obtain ⟨m, rfl⟩ : ∃ q, m = q + 1 := ⟨m - 1, by omega⟩
    rw [catalog_CheckRow.l1, ifn (by omega)]
  | succ d ih =>
    intro m i hi i0 hm
    obtain ⟨m, rfl⟩ : ∃ q, m = q + 1 := ⟨m - 1, by omega⟩
    have hf := hr.fi.rd i0 (show i < (r.Frames.length : Int) by omega)
    rw [catalog_CheckRow.l1, ifp (by omega), ifp i0, ifn (by omega), ifn (by omega)]
    have hn := ih m (i + 1) (by omega) (by omega) (by omega)
    by_cases c : i > 0
    · have hp := pw_rd hr.fr (i := i - 1) (j := i) (by omega) (by omega) (by omega)
      rw [ifp c, wid (x := i - 1) (by omega) (by omega), ifp (by omega), ifp (by omega), ifn (by omega), wid (by omega) (by omega)]
      exact hn
    · rw [ifn c, wid (by omega) (by omega)]
      exact hn
theorem checkRow_ex (k : Nat) (r : S_Row) (hr : RV r) (hk : 10 ≤ k) : catalog_CheckRow k r = some 0 := by
  unfold catalog_CheckRow
  have h1 := hr.id1
  have h2 := hr.id2
  have l1 := hr.l1
  have l2 := hr.l2
  have m0 := hr.m0
  have m1 := hr.m1
  have hl0 : catalog_CheckRow.l0 k r k 0 = some (Sum.inr ()) := by
    obtain ⟨m, rfl⟩ : ∃ q, k = q + 4 := ⟨k - 4, by omega⟩
    rw [catalog_CheckRow.l0, ifp (by decide), ifp (by decide)]
    show (catalog_ends_Coord _ r.Box.X 1073741824).bind _ = _
    rw [bnd (ends_Coord _ _ _ hr.box.x (by decide) (by decide)), ifn (by decide), show w64 (0 + 1) = 1 from rfl, catalog_CheckRow.l0, ifp (by decide), ifp (by decide)]
    show (catalog_ends_Coord _ r.Box.Y 1073741824).bind _ = _
    rw [bnd (ends_Coord _ _ _ hr.box.y (by decide) (by decide)), ifn (by decide), show w64 (1 + 1) = 2 from rfl, catalog_CheckRow.l0, ifp (by decide), ifp (by decide)]
    show (catalog_ends_Coord _ r.Box.Z 1073741824).bind _ = _
    rw [bnd (ends_Coord _ _ _ hr.box.z (by decide) (by decide)), ifn (by decide), show w64 (2 + 1) = 3 from rfl, catalog_CheckRow.l0, ifn (by decide)]
  rw [ifn (by omega), ifn (by omega), bnd hl0]
  show (catalog_ends_Quanta _ _ _).bind _ = _
  rw [bnd (ends_Quanta _ _ _ hr.flux (by decide) (by decide)), bnd (ends_Tick _ _ _ hr.when_ (by decide) (by decide)), bnd (or_ex k (by omega)), ifn (by decide), ifn (by omega), ifn (by omega), bnd (check_l1 k r hr r.Frames.length k 0 (by omega) (by decide) (by omega))]
  show (if r.Marks < 0 then _ else _) = _
  rw [ifn (by omega), ifn (by omega)]
theorem bq_ex (k : Nat) (L : List Int) (a : Int) (a0 : 0 ≤ a) (a1 : a ≤ 1000010) : ∃ b a', spymake_Bound_Quanta k ⟨L, a⟩ 1000 = some (b, a') ∧ a ≤ a' ∧ a' ≤ a + 3 ∧ BOk b 1125899906842624 := by
  unfold spymake_Bound_Quanta
  obtain ⟨i, h1, i0, i1⟩ := next_ex k L a 8 (by decide) (by decide) (by omega) (by omega)
  rw [bnd h1]; dsimp only
  rw [show w64 (0 - 1000) = -1000 from rfl]
  by_cases c : i = 0
  · rw [ifp c]; exact ⟨_, _, rfl, by omega, by omega, none_ok (by decide)⟩
  · rw [ifn c]
    obtain ⟨u, h2, u0, u1⟩ := range_ex k L (a + 1) (-1000) 1000 (by omega) (by omega) (by omega) (by omega) (by omega) (by omega)
    by_cases c : i = 1
    · rw [ifp c, bnd h2]; exact ⟨_, _, rfl, by omega, by omega, fun h => (by cases h), by dsimp only; omega, by dsimp only; omega, by dsimp only; omega⟩
    · rw [ifn c, bnd h2]; dsimp only
      obtain ⟨v, h3, v0, v1⟩ := range_ex k L (a + 1 + 1) (-1000) 1000 (by omega) (by omega) (by omega) (by omega) (by omega) (by omega)
      rw [bnd h3]; dsimp only
      rw [mn_def, mx_def]
      exact ⟨_, _, rfl, by omega, by omega, fun h => (by cases h), by dsimp only; omega, by dsimp only; omega, by dsimp only; omega⟩
theorem bt_ex (k : Nat) (L : List Int) (a : Int) (a0 : 0 ≤ a) (a1 : a ≤ 1000010) : ∃ b a', spymake_Bound_Tick k ⟨L, a⟩ 5000 = some (b, a') ∧ a ≤ a' ∧ a' ≤ a + 3 ∧ BOk b 17592186044416 := by
  unfold spymake_Bound_Tick
  obtain ⟨i, h1, i0, i1⟩ := next_ex k L a 8 (by decide) (by decide) (by omega) (by omega)
  rw [bnd h1]; dsimp only
  rw [show w64 (0 - 5000) = -5000 from rfl]
  by_cases c : i = 0
  · rw [ifp c]; exact ⟨_, _, rfl, by omega, by omega, none_ok (by decide)⟩
  · rw [ifn c]
    obtain ⟨u, h2, u0, u1⟩ := range_ex k L (a + 1) (-5000) 5000 (by omega) (by omega) (by omega) (by omega) (by omega) (by omega)
    by_cases c : i = 1
    · rw [ifp c, bnd h2]; exact ⟨_, _, rfl, by omega, by omega, fun h => (by cases h), by dsimp only; omega, by dsimp only; omega, by dsimp only; omega⟩
    · rw [ifn c, bnd h2]; dsimp only
      obtain ⟨v, h3, v0, v1⟩ := range_ex k L (a + 1 + 1) (-5000) 5000 (by omega) (by omega) (by omega) (by omega) (by omega) (by omega)
      rw [bnd h3]; dsimp only
      rw [mn_def, mx_def]
      exact ⟨_, _, rfl, by omega, by omega, fun h => (by cases h), by dsimp only; omega, by dsimp only; omega, by dsimp only; omega⟩
theorem row_l0 (k : Nat) (L : List Int) (v0 n : Int) (n1 : n ≤ 3) : ∀ (d m : Nat) (q i a : Int) (F : List Int), i + d = n → 0 ≤ i → d < m → 0 ≤ a → a + d ≤ 1000100 → (F.length : Int) = i → 0 ≤ q → q ≤ 50 * i → F.Pairwise (· < ·) → AllIn F 1 q →
    ∃ a' F', spymake_Stream_Row.l0 k n ⟨L, v0⟩ m q i a F = some (a', F') ∧ a' = a + d ∧ (F'.length : Int) = n ∧ F'.Pairwise (· < ·) ∧ AllIn F' 1 1048576 := by
  intro d
  induction d with
  | zero =>
    intro m q i a F hi i0 hm a0 a1 hF q0 q1 hp hA
    obtain ⟨m, rfl⟩ : ∃ z, m = z + 1 := ⟨m - 1, by omega⟩
    rw [spymake_Stream_Row.l0, ifn (by omega)]
    exact ⟨_, _, rfl, by omega, by omega, hp, hA.mono (by omega) (by omega)⟩
  | succ d ih =>
    intro m q i a F hi i0 hm a0 a1 hF q0 q1 hp hA
    obtain ⟨m, rfl⟩ : ∃ z, m = z + 1 := ⟨m - 1, by omega⟩
    rw [spymake_Stream_Row.l0, ifp (by omega)]
    obtain ⟨v, h2, v0, v1⟩ := range_ex k L a 1 50 (by omega) (by omega) (by omega) (by omega) (by omega) (by omega)
    rw [bnd h2]; dsimp only
    rw [ifp (by omega), wid (x := q + v) (by omega) (by omega), wid (x := i + 1) (by omega) (by omega)]
    obtain ⟨a', F', e, e1, e2⟩ := ih m (q + v) (i + 1) (a + 1) (F ++ [q + v]) (by omega) (by omega) (by omega) (by omega) (by omega) (by rw [List.length_append, List.length_cons, List.length_nil]; omega) (by omega) (by omega)
      (List.pairwise_append.mpr ⟨hp, List.pairwise_singleton _ _, fun x hx y hy => by
        simp only [List.mem_singleton] at hy
        have := hA x hx
        omega⟩) ((hA.mono (by omega) (by omega)).push (by omega) (by omega))
    exact ⟨a', F', e, by omega, e2⟩
theorem row_l0_any (k : Nat) (L : List Int) (v0 v1 n : Int) : ∀ (m : Nat) (q i a : Int) (F : List Int), spymake_Stream_Row.l0 k n ⟨L, v0⟩ m q i a F = spymake_Stream_Row.l0 k n ⟨L, v1⟩ m q i a F := by
  intro m
  induction m with
  | zero => intro q i a F; rfl
  | succ m ih =>
    intro q i a F
    rw [spymake_Stream_Row.l0, spymake_Stream_Row.l0]
    simp only [ih]
theorem row_ex (k : Nat) (L : List Int) (a i : Int) (a0 : 0 ≤ a) (a1 : a ≤ 999900) (i0 : 1 ≤ i) (i1 : i ≤ 2147483647) (hk : 10 ≤ k) : ∃ r a', spymake_Stream_Row k ⟨L, a⟩ i = some (r, a') ∧ a ≤ a' ∧ a' ≤ a + 24 ∧ RV r ∧ r.ID = i := by
  unfold spymake_Stream_Row
  obtain ⟨b, p1, e1, p10, p11, hb⟩ := box_ex k L a (by omega) (by omega)
  rw [bnd e1]; dsimp only
  obtain ⟨fx, p2, e2, p20, p21, hf⟩ := bq_ex k L p1 (by omega) (by omega)
  rw [bnd e2]; dsimp only
  obtain ⟨w, p3, e3, p30, p31, hw⟩ := bt_ex k L p2 (by omega) (by omega)
  rw [bnd e3]; dsimp only
  obtain ⟨mk, e4, m0, m1⟩ := next_ex k L p3 4 (by decide) (by decide) (by omega) (by omega)
  rw [bnd e4]; dsimp only
  obtain ⟨n, e5, n0, n1⟩ := range_ex k L (p3 + 1) 1 3 (by omega) (by omega) (by omega) (by omega) (by omega) (by omega)
  rw [bnd e5]; dsimp only
  obtain ⟨a', F, e6, g1, g2, g3, g4⟩ := row_l0 k L (p3 + 1 + 1) n n1 n.toNat k 0 0 (p3 + 1 + 1) [] (by omega) (by omega) (by omega) (by omega) (by omega) rfl (by omega) (by omega) List.Pairwise.nil AllIn.nil
  have e6' : spymake_Stream_Row.l0 k n ⟨L, a⟩ k 0 0 (p3 + 1 + 1) [] = some (a', F) := by
    rw [← e6]
    exact row_l0_any k L a (p3 + 1 + 1) n k 0 0 (p3 + 1 + 1) []
  rw [bnd e6']; dsimp only
  exact ⟨_, _, rfl, by omega, by omega, ⟨i0, i1, hb, hf, hw, g3, g4, by dsimp only; omega, by dsimp only; omega, m0, by dsimp only; omega⟩, rfl⟩
def RowsOk (l : List S_Row) : Prop := l.Pairwise (fun x y => x.ID < y.ID) ∧ ∀ r, r ∈ l → RV r
theorem RowsOk.nil : RowsOk [] := ⟨List.Pairwise.nil, fun r h => by cases h⟩
theorem rows_l0 (k : Nat) (L : List Int) (v0 n : Int) (hk : 10 ≤ k) (n1 : n ≤ 100) : ∀ (d m : Nat) (out : List S_Row) (q i a : Int), i + d = n → 0 ≤ i → d < m → 0 ≤ a → a + 25 * d ≤ 999000 → (out.length : Int) = i → 0 ≤ q → q ≤ 4 * i → RowsOk out → (∀ r, r ∈ out → r.ID ≤ q) →
    ∃ out' a', spymake_Stream_Rows.l0 k n ⟨L, v0⟩ m out q i a = some (out', a') ∧ a ≤ a' ∧ a' ≤ a + 25 * d ∧ (out'.length : Int) = n ∧ RowsOk out' ∧ ∀ r, r ∈ out' → r.ID ≤ 4 * n := by
  intro d
  induction d with
  | zero =>
    intro m out q i a hi i0 hm a0 a1 ho q0 q1 hr hq
    obtain ⟨m, rfl⟩ : ∃ z, m = z + 1 := ⟨m - 1, by omega⟩
    rw [spymake_Stream_Rows.l0, ifn (by omega)]
    exact ⟨_, _, rfl, by omega, by omega, by omega, hr, fun r h => by have := hq r h; omega⟩
  | succ d ih =>
    intro m out q i a hi i0 hm a0 a1 ho q0 q1 hr hq
    obtain ⟨m, rfl⟩ : ∃ z, m = z + 1 := ⟨m - 1, by omega⟩
    rw [spymake_Stream_Rows.l0, ifp (by omega)]
    obtain ⟨v, h2, v0, v1⟩ := range_ex k L a 1 4 (by omega) (by omega) (by omega) (by omega) (by omega) (by omega)
    rw [bnd h2]; dsimp only
    rw [wid (x := q + v) (by omega) (by omega), wid (x := i + 1) (by omega) (by omega)]
    obtain ⟨r, b, h3, b0, b1, hv, hid⟩ := row_ex k L (a + 1) (q + v) (by omega) (by omega) (by omega) (by omega) hk
    rw [bnd h3]; dsimp only
    rw [ifp (by omega)]
    obtain ⟨out', a', e, e1, e2, e3⟩ := ih m (out ++ [r]) (q + v) (i + 1) b (by omega) (by omega) (by omega) (by omega) (by omega) (by rw [List.length_append, List.length_cons, List.length_nil]; omega) (by omega) (by omega)
      ⟨List.pairwise_append.mpr ⟨hr.1, List.pairwise_singleton _ _, fun x hx y hy => by
        simp only [List.mem_singleton] at hy
        have := hq x hx
        subst hy
        omega⟩, fun x hx => by
          rcases List.mem_append.mp hx with hx | hx
          · exact hr.2 x hx
          · simp only [List.mem_singleton] at hx; subst hx; exact hv⟩
      (fun x hx => by
          rcases List.mem_append.mp hx with hx | hx
          · have := hq x hx; omega
          · simp only [List.mem_singleton] at hx; subst hx; omega)
    exact ⟨out', a', e, by omega, by omega, e3⟩
theorem rows_l0_any (k : Nat) (L : List Int) (v0 v1 n : Int) : ∀ (m : Nat) (out : List S_Row) (q i a : Int), spymake_Stream_Rows.l0 k n ⟨L, v0⟩ m out q i a = spymake_Stream_Rows.l0 k n ⟨L, v1⟩ m out q i a := by
  intro m
  induction m with
  | zero => intro out q i a; rfl
  | succ m ih =>
    intro out q i a
    rw [spymake_Stream_Rows.l0, spymake_Stream_Rows.l0]
    simp only [ih]
theorem rows_ex (k : Nat) (L : List Int) (a most : Int) (a0 : 0 ≤ a) (a1 : a ≤ 900000) (m0 : 0 ≤ most) (m1 : most ≤ 20) (hk : 100 ≤ k) :
    ∃ l a', spymake_Stream_Rows k ⟨L, a⟩ most = some (l, a') ∧ a ≤ a' ∧ a' ≤ a + 600 ∧ (l.length : Int) ≤ most ∧ RowsOk l ∧ ∀ r, r ∈ l → r.ID ≤ 100 := by
  unfold spymake_Stream_Rows
  rw [wid (x := most + 1) (by omega) (by omega)]
  obtain ⟨n, e1, n0, n1⟩ := next_ex k L a (most + 1) (by omega) (by omega) (by omega) (by omega)
  rw [bnd e1]; dsimp only
  obtain ⟨l, a', e2, b0, b1, hl, hr, hi⟩ := rows_l0 k L a n (by omega) (by omega) n.toNat k [] 0 0 (a + 1) (by omega) (by omega) (by omega) (by omega) (by omega) rfl (by omega) (by omega) RowsOk.nil (fun r h => by cases h)
  rw [bnd e2]
  exact ⟨l, a', rfl, by omega, by omega, by omega, hr, fun r h => by have := hi r h; omega⟩
/-! equal rows -/
def beqB (a b : S_Bound) : Bool := (a.Lo == b.Lo) && ((a.Hi == b.Hi) && ((a.Unknown == b.Unknown) && true))
def beqX (a b : S_Box) : Bool := beqB a.X b.X && (beqB a.Y b.Y && (beqB a.Z b.Z && true))
def beqR (a b : S_Row) : Bool := (a.ID == b.ID) && (beqX a.Box b.Box && (beqB a.Flux b.Flux && (beqB a.When b.When && ((a.Marks == b.Marks) && (a.Frames == b.Frames)))))
theorem beqB_iff {a b : S_Bound} : beqB a b = true ↔ a = b := by
  cases a; cases b; simp [beqB]
theorem beqX_iff {a b : S_Box} : beqX a b = true ↔ a = b := by
  cases a; cases b; simp [beqX, beqB_iff]
theorem beqR_iff {a b : S_Row} : beqR a b = true ↔ a = b := by
  cases a; cases b
  simp only [beqR, Bool.and_eq_true, beqX_iff, beqB_iff, beq_iff_eq, S_Row.mk.injEq]
  constructor
  · rintro ⟨h1, h2, h3, h4, h5, h6⟩; exact ⟨h1, h2, h3, h4, h6, h5⟩
  · rintro ⟨h1, h2, h3, h4, h6, h5⟩; exact ⟨h1, h2, h3, h4, h5, h6⟩
theorem beqR_self (a : S_Row) : beqR a a = true := beqR_iff.mpr rfl
theorem equal_l0 (k : Nat) (X Y : List Int) : ∀ (xs ys p q : List Int) (m : Nat), X = p ++ xs → Y = q ++ ys → p.length = q.length → xs.length = ys.length → xs.length < m → X.length ≤ 1000000 →
    slices_Equal_int.l0 k X Y m (p.length : Int) = some (if (xs == ys) = true then Sum.inr () else Sum.inl false) := by
  intro xs
  induction xs with
  | nil =>
    intro ys p q m hX hY hpq hl hm hL
    obtain ⟨m, rfl⟩ : ∃ z, m = z + 1 := ⟨m - 1, by omega⟩
    have : ys = [] := List.eq_nil_of_length_eq_zero hl.symm
    subst this
    rw [slices_Equal_int.l0, ifn (by rw [hX, List.append_nil]; omega)]
    rfl
  | cons x xs ih =>
    intro ys p q m hX hY hpq hl hm hL
    obtain ⟨m, rfl⟩ : ∃ z, m = z + 1 := ⟨m - 1, by simp at hm; omega⟩
    cases ys with
    | nil => cases hl
    | cons y ys =>
      have e1 : rd X (p.length : Int) = x := rd_at hX rfl
      have e2 : rd Y (p.length : Int) = y := rd_at hY (by rw [hpq])
      have l1 : X.length = p.length + (xs.length + 1) := by rw [hX, List.length_append, List.length_cons]
      have l2 : Y.length = q.length + (ys.length + 1) := by rw [hY, List.length_append, List.length_cons]
      rw [slices_Equal_int.l0, ifp (by omega), ifp (by omega), ifp (by omega), e1, e2]
      by_cases c : x = y
      · rw [ifn (by simpa using c), wid (by omega) (by omega)]
        have := ih ys (p ++ [x]) (q ++ [y]) m (by rw [hX]; simp) (by rw [hY]; simp) (by simp [hpq]) (by simpa using hl) (by simp at hm; omega) hL
        rw [List.length_append, List.length_cons, List.length_nil] at this
        rw [show ((p.length : Int) + 1) = ((p.length + (0 + 1) : Nat) : Int) by omega, this, c]
        congr 1
        simp
      · rw [ifp (by simpa using c), ifn (by simp [c])]
theorem equal_ex (k : Nat) (X Y : List Int) (h : X.length < k) (hL : X.length ≤ 1000000) : slices_Equal_int k X Y = some (X == Y) := by
  unfold slices_Equal_int
  by_cases c : X.length = Y.length
  · rw [ifn (by omega)]
    have := equal_l0 k X Y X Y [] [] k rfl rfl rfl c h hL
    rw [show (([] : List Int).length : Int) = 0 from rfl] at this
    rw [bnd this]
    by_cases e : (X == Y) = true
    · rw [if_pos e, e]; rfl
    · rw [if_neg e, Bool.eq_false_iff.mpr e]; rfl
  · rw [ifp (by omega)]
    have : (X == Y) = false := by
      rw [beq_eq_false_iff_ne]; intro e; exact c (by rw [e])
    rw [this]
theorem same_ex (k : Nat) (a b : S_Row) (h : a.Frames.length < k) (hL : a.Frames.length ≤ 1000000) : catalog_Same k a b = some (beqR a b) := by
  have e : ∀ {x : Bool}, ¬ x = true → x = false := fun h => Bool.eq_false_iff.mpr h
  unfold catalog_Same beqR
  rw [equal_ex k _ _ h hL]
  show (if a.ID = b.ID then (if beqX a.Box b.Box = true then (if beqB a.Flux b.Flux = true then (if beqB a.When b.When = true then (if a.Marks = b.Marks then (some (a.Frames == b.Frames)).bind fun v => some v else some false) else some false) else some false) else some false) else some false) = _
  by_cases c : a.ID = b.ID
  · rw [ifp c, beq_iff_eq.mpr c, Bool.true_and]
    by_cases c : beqX a.Box b.Box = true
    · rw [ifp c, c, Bool.true_and]
      by_cases c : beqB a.Flux b.Flux = true
      · rw [ifp c, c, Bool.true_and]
        by_cases c : beqB a.When b.When = true
        · rw [ifp c, c, Bool.true_and]
          by_cases c : a.Marks = b.Marks
          · rw [ifp c, beq_iff_eq.mpr c, Bool.true_and]; rfl
          · rw [ifn c, beq_eq_false_iff_ne.mpr c, Bool.false_and]
        · rw [ifn c, e c, Bool.false_and]
      · rw [ifn c, e c, Bool.false_and]
    · rw [ifn c, e c, Bool.false_and]
  · rw [ifn c, beq_eq_false_iff_ne.mpr c, Bool.false_and]
/-! lists of rows -/
theorem check_l0 (k : Nat) (l : List S_Row) (hl : RowsOk l) (hk : 10 ≤ k) (hL : (l.length : Int) ≤ 200) : ∀ (d m : Nat) (i : Int), i + d = (l.length : Int) → 0 ≤ i → d < m → catalog_Check.l0 k l m i = some (Sum.inr ()) := by
  intro d
  induction d with
  | zero =>
    intro m i hi i0 hm
    obtain ⟨m, rfl⟩ : ∃ q, m = q + 1 := ⟨m - 1, by omega⟩
    rw [catalog_Check.l0, ifn (by omega)]
  | succ d ih =>
    intro m i hi i0 hm
    obtain ⟨m, rfl⟩ : ∃ q, m = q + 1 := ⟨m - 1, by omega⟩
    have hv := hl.2 _ (rd_mem i0 (show i < (l.length : Int) by omega))
    rw [catalog_Check.l0, ifp (by omega), ifp i0, bnd (checkRow_ex k _ hv hk), ifn (by decide)]
    have hn := ih m (i + 1) (by omega) (by omega) (by omega)
    by_cases c : i > 0
    · have hp := pw_rd hl.1 (i := i - 1) (j := i) (by omega) (by omega) (by omega)
      rw [ifp c, wid (x := i - 1) (by omega) (by omega), ifp (by omega), ifp (by omega), ifn (by omega), wid (by omega) (by omega)]
      exact hn
    · rw [ifn c, wid (by omega) (by omega)]
      exact hn
theorem checkl_ex (k : Nat) (l : List S_Row) (hl : RowsOk l) (hk : 300 ≤ k) (hL : (l.length : Int) ≤ 200) : catalog_Check k l = some 0 := by
  unfold catalog_Check
  rw [ifn (by omega), bnd (check_l0 k l hl (by omega) hL l.length k 0 (by omega) (by omega) (by omega))]
  rfl
def blank (i : Int) : S_Row := ⟨i, ⟨⟨0, 0, false⟩, ⟨0, 0, false⟩, ⟨0, 0, false⟩⟩, ⟨0, 0, false⟩, ⟨0, 0, false⟩, [], 0⟩
/-- The changes that make the rows b of the rows a. -/
def diffA (a : S_Row) (next : List S_Row → List S_Change) : List S_Row → List S_Change
  | [] => ⟨3, blank a.ID⟩ :: next []
  | b :: bs => if a.ID < b.ID then ⟨3, blank a.ID⟩ :: next (b :: bs) else if b.ID < a.ID then ⟨1, b⟩ :: diffA a next bs else if beqR a b = true then next bs else ⟨2, b⟩ :: next bs
def diffL : List S_Row → List S_Row → List S_Change
  | [] => fun l => l.map fun b => ⟨1, b⟩
  | a :: as => diffA a (diffL as)
theorem w1 {n : Nat} (h : n ≤ 1000000) : w64 ((n : Int) + 1) = ((n + 1 : Nat) : Int) := by rw [wid (by omega) (by omega)]; omega
theorem diffL_len : ∀ (a b : List S_Row), (diffL a b).length ≤ a.length + b.length := by
  intro a
  induction a with
  | nil => intro b; simp [diffL]
  | cons a as ih =>
    intro b
    induction b with
    | nil => have := ih []; simp [diffL, diffA] at *; omega
    | cons b bs ihb =>
      have h1 := ih (b :: bs)
      have h2 := ih bs
      have h3 : (diffA a (diffL as) bs).length ≤ (a :: as).length + bs.length := ihb
      simp only [diffL, diffA, List.length_cons] at *
      split
      · simp only [List.length_cons]; omega
      · split
        · simp only [List.length_cons]; omega
        · split
          · omega
          · simp only [List.length_cons]; omega
/-- Of what a difference holds. -/
theorem diffL_mem : ∀ (a b : List S_Row), ∀ c, c ∈ diffL a b → (c.Kind = 1 ∨ c.Kind = 2) ∧ c.Row ∈ b ∨ c.Kind = 3 ∧ ∃ x, x ∈ a ∧ c.Row = blank x.ID := by
  intro a
  induction a with
  | nil =>
    intro b c hc
    obtain ⟨x, hx, rfl⟩ := List.mem_map.mp hc
    exact .inl ⟨.inl rfl, hx⟩
  | cons a as ih =>
    intro b
    induction b with
    | nil =>
      intro c hc
      rcases List.mem_cons.mp hc with rfl | hc
      · exact .inr ⟨rfl, a, List.mem_cons_self .., rfl⟩
      · rcases ih [] c hc with ⟨h1, h2⟩ | ⟨h1, x, h2, h3⟩
        · cases h2
        · exact .inr ⟨h1, x, List.mem_cons_of_mem _ h2, h3⟩
    | cons b bs ihb =>
      have up : ∀ (l : List S_Row) (c : S_Change), (∀ x, x ∈ l → x ∈ b :: bs) → c ∈ diffL as l → (c.Kind = 1 ∨ c.Kind = 2) ∧ c.Row ∈ b :: bs ∨ c.Kind = 3 ∧ ∃ x, x ∈ a :: as ∧ c.Row = blank x.ID := by
        intro l c hl hc
        rcases ih l c hc with ⟨h1, h2⟩ | ⟨h1, x, h2, h3⟩
        · exact .inl ⟨h1, hl _ h2⟩
        · exact .inr ⟨h1, x, List.mem_cons_of_mem _ h2, h3⟩
      intro c hc
      simp only [diffL, diffA] at hc
      split at hc
      · rcases List.mem_cons.mp hc with rfl | hc
        · exact .inr ⟨rfl, a, List.mem_cons_self .., rfl⟩
        · exact up _ c (fun _ h => h) hc
      · split at hc
        · rcases List.mem_cons.mp hc with rfl | hc
          · exact .inl ⟨.inl rfl, List.mem_cons_self ..⟩
          · rcases ihb c hc with ⟨h1, h2⟩ | h
            · exact .inl ⟨h1, List.mem_cons_of_mem _ h2⟩
            · exact .inr h
        · split at hc
          · exact up _ c (fun _ h => List.mem_cons_of_mem _ h) hc
          · rcases List.mem_cons.mp hc with rfl | hc
            · exact .inl ⟨.inr rfl, List.mem_cons_self ..⟩
            · exact up _ c (fun _ h => List.mem_cons_of_mem _ h) hc
/-! copies -/
theorem cloneI_ex (k : Nat) (l : List Int) (h : l.length ≤ 1000000) : slices_Clone_int k l = some l := by
  unfold slices_Clone_int
  rw [ifp (by simp; omega)]; rfl
theorem set_self {α : Type} [Inhabited α] (l : List α) (i : Int) (i0 : 0 ≤ i) (h : i < (l.length : Int)) : l.set i.toNat (rd l i) = l := by
  obtain ⟨h1, e⟩ := rd_lt i0 h
  rw [e, List.set_getElem_self]
theorem copies_l0 (k : Nat) (l : List S_Change) (hl : l.length ≤ 10000) (hf : ∀ c, c ∈ l → c.Row.Frames.length ≤ 8) : ∀ (d m : Nat) (i : Int), i + d = (l.length : Int) → 0 ≤ i → d < m → catalog_copies.l0 k l m l i = some l := by
  intro d
  induction d with
  | zero =>
    intro m i hi i0 hm
    obtain ⟨m, rfl⟩ : ∃ q, m = q + 1 := ⟨m - 1, by omega⟩
    rw [catalog_copies.l0, ifn (by omega)]
  | succ d ih =>
    intro m i hi i0 hm
    obtain ⟨m, rfl⟩ : ∃ q, m = q + 1 := ⟨m - 1, by omega⟩
    have hv := hf _ (rd_mem i0 (show i < (l.length : Int) by omega))
    rw [catalog_copies.l0, ifp (by omega), ifp i0, ifp (by omega), bnd (cloneI_ex k _ (by omega)), wid (by omega) (by omega)]
    rw [show (⟨(rd l i).Kind, ⟨(rd l i).Row.ID, (rd l i).Row.Box, (rd l i).Row.Flux, (rd l i).Row.When, (rd l i).Row.Frames, (rd l i).Row.Marks⟩⟩ : S_Change) = rd l i from rfl, set_self l i i0 (by omega)]
    exact ih m (i + 1) (by omega) (by omega) (by omega)
theorem copies_ex (k : Nat) (l : List S_Change) (hl : l.length ≤ 10000) (hf : ∀ c, c ∈ l → c.Row.Frames.length ≤ 8) (hk : l.length < k) : catalog_copies k l = some l := by
  unfold catalog_copies slices_Clone_Change
  rw [ifp (by simp; omega), bnd rfl, List.nil_append, bnd (copies_l0 k l hl hf l.length k 0 (by omega) (by omega) hk)]
theorem diff_fr (a b : List S_Row) (hb : RowsOk b) : ∀ c, c ∈ diffL a b → c.Row.Frames.length ≤ 8 := by
  intro c hc
  rcases diffL_mem a b c hc with ⟨_, h⟩ | ⟨_, x, _, h⟩
  · exact (hb.2 _ h).l2
  · rw [h]; simp [blank]
def rfind : List S_Row → Int → Option S_Row
  | [], _ => none
  | r :: rs, i => if r.ID = i then some r else rfind rs i
theorem rfind_none {l : List S_Row} {i : Int} (h : ∀ r, r ∈ l → r.ID ≠ i) : rfind l i = none := by
  induction l with
  | nil => rfl
  | cons r l ih => rw [rfind, if_neg (h r (List.mem_cons_self ..)), ih fun x hx => h x (List.mem_cons_of_mem _ hx)]
theorem rfind_mem {l : List S_Row} {r : S_Row} (h : l.Pairwise fun x y => x.ID < y.ID) (hr : r ∈ l) : rfind l r.ID = some r := by
  induction l with
  | nil => cases hr
  | cons a l ih =>
    rw [rfind]
    rcases List.mem_cons.mp hr with rfl | hm
    · rw [if_pos rfl]
    · rw [if_neg (by have := (List.pairwise_cons.mp h).1 r hm; omega), ih (List.pairwise_cons.mp h).2 hm]
theorem rfind_some {l : List S_Row} {i : Int} {r : S_Row} (h : rfind l i = some r) : r ∈ l ∧ r.ID = i := by
  induction l with
  | nil => cases h
  | cons a l ih =>
    rw [rfind] at h
    by_cases c : a.ID = i
    · rw [if_pos c] at h; injection h with h; subst h; exact ⟨List.mem_cons_self .., c⟩
    · rw [if_neg c] at h; exact ⟨List.mem_cons_of_mem _ (ih h).1, (ih h).2⟩
/-- What changes do to the row of an ID. -/
def chF (l : List S_Change) (i : Int) (o : Option S_Row) : Option S_Row := l.foldl (fun o c => if c.Row.ID = i then (if c.Kind = 3 then none else some c.Row) else o) o
theorem chF_cons (c : S_Change) (l : List S_Change) (i : Int) (o : Option S_Row) : chF (c :: l) i o = chF l i (if c.Row.ID = i then (if c.Kind = 3 then none else some c.Row) else o) := rfl
theorem chF_out {l : List S_Change} {i : Int} (o : Option S_Row) (h : ∀ c, c ∈ l → c.Row.ID ≠ i) : chF l i o = o := by
  induction l generalizing o with
  | nil => rfl
  | cons c l ih => rw [chF_cons, if_neg (h c (List.mem_cons_self ..)), ih _ fun x hx => h x (List.mem_cons_of_mem _ hx)]
theorem diffL_lb {a b : List S_Row} {t : Int} (ha : ∀ x, x ∈ a → t < x.ID) (hb : ∀ x, x ∈ b → t < x.ID) : ∀ c, c ∈ diffL a b → t < c.Row.ID := by
  intro c hc
  rcases diffL_mem a b c hc with ⟨_, h⟩ | ⟨_, x, hx, h⟩
  · exact hb _ h
  · rw [h]; exact ha x hx
abbrev Srt (l : List S_Row) : Prop := l.Pairwise fun x y => x.ID < y.ID
theorem chF_diff (i : Int) : ∀ (a b : List S_Row), Srt a → Srt b → chF (diffL a b) i (rfind a i) = rfind b i := by
  intro a
  induction a with
  | nil =>
    intro b _ hb
    show chF (b.map fun b => ⟨1, b⟩) i none = _
    induction b with
    | nil => rfl
    | cons b bs ihb =>
      obtain ⟨h1, h2⟩ := List.pairwise_cons.mp hb
      rw [List.map_cons, chF_cons, rfind]
      dsimp only
      by_cases c : b.ID = i
      · rw [if_pos c, if_neg (by decide), if_pos c, chF_out]
        intro x hx
        obtain ⟨y, hy, rfl⟩ := List.mem_map.mp hx
        have := h1 y hy
        dsimp only; omega
      · rw [if_neg c, if_neg c]
        exact ihb h2
  | cons a as ih =>
    intro b ha hb
    obtain ⟨a1, a2⟩ := List.pairwise_cons.mp ha
    induction b with
    | nil =>
      show chF (⟨3, blank a.ID⟩ :: diffL as []) i _ = _
      rw [chF_cons, rfind]
      show chF _ _ (if a.ID = i then _ else _) = _
      have := ih [] a2 hb
      by_cases c : a.ID = i
      · rw [if_pos c, if_pos rfl]
        rw [rfind_none (l := as) (fun r hr => by have := a1 r hr; omega)] at this
        exact this
      · rw [if_neg c, show rfind (a :: as) i = rfind as i by rw [rfind, if_neg c]]
        exact this
    | cons b bs ihb =>
      obtain ⟨b1, b2⟩ := List.pairwise_cons.mp hb
      simp only [diffL, diffA]
      by_cases c : a.ID < b.ID
      · rw [if_pos c, chF_cons, rfind]
        show chF _ _ (if a.ID = i then _ else _) = _
        have := ih (b :: bs) a2 hb
        by_cases c : a.ID = i
        · rw [if_pos c, if_pos rfl]
          rw [rfind_none (l := as) (fun r hr => by have := a1 r hr; omega)] at this
          exact this
        · rw [if_neg c, if_neg c]
          exact this
      · rw [if_neg c]
        by_cases c2 : b.ID < a.ID
        · rw [if_pos c2, chF_cons]
          dsimp only
          have hn : rfind (b :: bs) i = if b.ID = i then some b else rfind bs i := rfl
          rw [hn]
          by_cases c : b.ID = i
          · rw [if_pos c, if_neg (by decide), if_pos c]
            refine chF_out _ fun x hx => ?_
            have : b.ID < x.Row.ID := diffL_lb (a := a :: as) (b := bs) (fun y hy => by
              rcases List.mem_cons.mp hy with rfl | hy
              · exact c2
              · have := a1 y hy; omega) b1 x hx
            omega
          · rw [if_neg c, if_neg c]
            exact ihb b2
        · rw [if_neg c2]
          have e : a.ID = b.ID := by omega
          have ih2 := ih bs a2 b2
          have hlb : ∀ x, x ∈ diffL as bs → b.ID < x.Row.ID := diffL_lb (fun y hy => by have := a1 y hy; omega) b1
          by_cases c3 : beqR a b = true
          · rw [if_pos c3, rfind, rfind]
            have := beqR_iff.mp c3
            subst this
            by_cases c : a.ID = i
            · rw [if_pos c, if_pos c]
              exact chF_out _ fun x hx => by have := hlb x hx; omega
            · rw [if_neg c, if_neg c]; exact ih2
          · rw [if_neg c3, chF_cons, rfind, rfind]
            dsimp only
            by_cases c : b.ID = i
            · rw [if_pos c, if_neg (by decide), if_pos c]
              exact chF_out _ fun x hx => by have := hlb x hx; omega
            · rw [if_neg c, if_neg (by omega), if_neg c]; exact ih2
/-- The IDs of a difference rise. -/
theorem diffL_srt : ∀ (a b : List S_Row), Srt a → Srt b → (diffL a b).Pairwise fun x y => x.Row.ID < y.Row.ID := by
  intro a
  induction a with
  | nil =>
    intro b _ hb
    show (b.map fun b => (⟨1, b⟩ : S_Change)).Pairwise _
    rw [List.pairwise_map]
    exact hb
  | cons a as ih =>
    intro b ha hb
    obtain ⟨a1, a2⟩ := List.pairwise_cons.mp ha
    induction b with
    | nil => exact List.pairwise_cons.mpr ⟨diffL_lb a1 (fun x h => by cases h), ih [] a2 hb⟩
    | cons b bs ihb =>
      obtain ⟨b1, b2⟩ := List.pairwise_cons.mp hb
      simp only [diffL, diffA]
      split
      · rename_i c
        refine List.pairwise_cons.mpr ⟨diffL_lb a1 (fun x h => ?_), ih _ a2 hb⟩
        show a.ID < x.ID
        rcases List.mem_cons.mp h with rfl | h
        · exact c
        · have := b1 x h; omega
      · split
        · rename_i c
          refine List.pairwise_cons.mpr ⟨diffL_lb (a := a :: as) (fun x h => ?_) b1, ihb b2⟩
          show b.ID < x.ID
          rcases List.mem_cons.mp h with rfl | h
          · exact c
          · have := a1 x h; omega
        · split
          · exact ih _ a2 b2
          · exact List.pairwise_cons.mpr ⟨diffL_lb (fun y hy => by show b.ID < _; have := a1 y hy; omega) b1, ih _ a2 b2⟩
/-- A change that is told to be new has an ID that was not there; any other one has one that was. -/
theorem diffL_there : ∀ (a b : List S_Row), Srt a → Srt b → ∀ c, c ∈ diffL a b → (c.Kind = 1 → rfind a c.Row.ID = none) ∧ (c.Kind ≠ 1 → (rfind a c.Row.ID).isSome = true) := by
  intro a
  induction a with
  | nil =>
    intro b _ hb c hc
    obtain ⟨y, hy, rfl⟩ := List.mem_map.mp hc
    exact ⟨fun _ => rfl, fun h => absurd rfl h⟩
  | cons a as ih =>
    intro b ha hb
    obtain ⟨a1, a2⟩ := List.pairwise_cons.mp ha
    have up : ∀ (l : List S_Row) (c : S_Change), Srt l → (∀ x, x ∈ l → a.ID < x.ID) → c ∈ diffL as l → (c.Kind = 1 → rfind (a :: as) c.Row.ID = none) ∧ (c.Kind ≠ 1 → (rfind (a :: as) c.Row.ID).isSome = true) := by
      intro l c hl hlb hc
      have := diffL_lb a1 hlb c hc
      rw [rfind, if_neg (by omega)]
      exact ih l a2 hl c hc
    have self : (rfind (a :: as) a.ID).isSome = true := by rw [rfind, if_pos rfl]; rfl
    induction b with
    | nil =>
      intro c hc
      rcases List.mem_cons.mp hc with rfl | hc
      · exact ⟨fun h => (by cases h), fun _ => self⟩
      · exact up [] c hb (fun x h => by cases h) hc
    | cons b bs ihb =>
      obtain ⟨b1, b2⟩ := List.pairwise_cons.mp hb
      intro c hc
      simp only [diffL, diffA] at hc
      split at hc
      · rename_i h
        rcases List.mem_cons.mp hc with rfl | hc
        · exact ⟨fun h => (by cases h), fun _ => self⟩
        · exact up _ c hb (fun x hx => by
            rcases List.mem_cons.mp hx with rfl | hx
            · exact h
            · have := b1 x hx; omega) hc
      · split at hc
        · rename_i h
          rcases List.mem_cons.mp hc with rfl | hc
          · refine ⟨fun _ => rfind_none fun r hr => ?_, fun h => absurd rfl h⟩
            dsimp only
            rcases List.mem_cons.mp hr with rfl | hr
            · omega
            · have := a1 r hr; omega
          · exact ihb b2 c hc
        · split at hc
          · exact up _ c b2 (fun x hx => by have := b1 x hx; omega) hc
          · rcases List.mem_cons.mp hc with rfl | hc
            · refine ⟨fun h => (by cases h), fun _ => ?_⟩
              dsimp only
              rw [show b.ID = a.ID by omega]
              exact self
            · exact up _ c b2 (fun x hx => by have := b1 x hx; omega) hc
/-! maps -/
def NoDupK (m : List (Int × S_Row)) : Prop := (m.map fun p => p.1).Nodup
theorem mfind_none_of {m : List (Int × S_Row)} {i : Int} (h : ∀ p, p ∈ m → p.1 ≠ i) : mfind m i = none := by
  induction m with
  | nil => rfl
  | cons p m ih => rw [mfind, if_neg (h p (List.mem_cons_self ..)), ih fun q hq => h q (List.mem_cons_of_mem _ hq)]
theorem mem_of_mfind {m : List (Int × S_Row)} {i : Int} {r : S_Row} (h : mfind m i = some r) : (i, r) ∈ m := by
  induction m with
  | nil => cases h
  | cons p m ih =>
    rw [mfind] at h
    by_cases c : p.1 = i
    · rw [if_pos c] at h; injection h with h; subst h c; exact List.mem_cons_self ..
    · rw [if_neg c] at h; exact List.mem_cons_of_mem _ (ih h)
theorem mfind_of_mem {m : List (Int × S_Row)} (hn : NoDupK m) {p : Int × S_Row} (h : p ∈ m) : mfind m p.1 = some p.2 := by
  induction m with
  | nil => cases h
  | cons q m ih =>
    have hn' : q.1 ∉ m.map (fun p => p.1) ∧ (m.map fun p => p.1).Nodup := List.nodup_cons.mp hn
    rw [mfind]
    rcases List.mem_cons.mp h with rfl | hm
    · rw [if_pos rfl]
    · rw [if_neg (fun e => hn'.1 (by rw [e]; exact List.mem_map.mpr ⟨p, hm, rfl⟩)), ih hn'.2 hm]
theorem mput_find (m : List (Int × S_Row)) (i j : Int) (r : S_Row) : mfind (mput m i r) j = if i = j then some r else mfind m j := by
  induction m with
  | nil => rfl
  | cons p m ih =>
    rw [mput]
    by_cases c : p.1 = i
    · rw [if_pos c, mfind, mfind]
      dsimp only
      by_cases d : i = j
      · rw [if_pos d, if_pos d]
      · rw [if_neg d, if_neg d, if_neg (by rw [c]; exact d)]
    · rw [if_neg c, mfind, mfind, ih]
      by_cases d : p.1 = j
      · rw [if_pos d, if_pos d, if_neg (by omega)]
      · rw [if_neg d, if_neg d]
theorem mput_keys (m : List (Int × S_Row)) (i : Int) (r : S_Row) : ∀ j, j ∈ (mput m i r).map (fun p => p.1) → j = i ∨ j ∈ m.map (fun p => p.1) := by
  induction m with
  | nil => intro j hj; simp [mput] at hj; exact .inl hj
  | cons p m ih =>
    intro j hj
    rw [mput] at hj
    by_cases c : p.1 = i
    · rw [if_pos c] at hj
      rcases List.mem_cons.mp hj with h | h
      · exact .inl h
      · exact .inr (List.mem_cons_of_mem _ h)
    · rw [if_neg c] at hj
      rcases List.mem_cons.mp hj with h | h
      · exact .inr (by rw [h]; exact List.mem_cons_self ..)
      · rcases ih j h with h | h
        · exact .inl h
        · exact .inr (List.mem_cons_of_mem _ h)
theorem mput_nodup {m : List (Int × S_Row)} (h : NoDupK m) (i : Int) (r : S_Row) : NoDupK (mput m i r) := by
  induction m with
  | nil => exact List.nodup_cons.mpr ⟨by simp, List.nodup_nil⟩
  | cons p m ih =>
    have h' : p.1 ∉ m.map (fun p => p.1) ∧ (m.map fun p => p.1).Nodup := List.nodup_cons.mp h
    unfold NoDupK
    rw [mput]
    by_cases c : p.1 = i
    · rw [if_pos c]
      exact List.nodup_cons.mpr ⟨by dsimp only; rw [← c]; exact h'.1, h'.2⟩
    · rw [if_neg c]
      refine List.nodup_cons.mpr ⟨fun hm => ?_, ih h'.2⟩
      rcases mput_keys m i r _ hm with h | h
      · exact c h
      · exact h'.1 h
theorem merase_sub (m : List (Int × S_Row)) (i : Int) : (merase m i).Sublist m := by
  induction m with
  | nil => exact List.Sublist.refl _
  | cons p m ih =>
    rw [merase]
    by_cases c : p.1 = i
    · rw [if_pos c]; exact List.sublist_cons_self ..
    · rw [if_neg c]; exact ih.cons_cons _
theorem merase_nodup {m : List (Int × S_Row)} (h : NoDupK m) (i : Int) : NoDupK (merase m i) := List.Nodup.sublist ((merase_sub m i).map _) h
theorem merase_find {m : List (Int × S_Row)} (h : NoDupK m) (i j : Int) : mfind (merase m i) j = if i = j then none else mfind m j := by
  induction m with
  | nil => simp [merase, mfind]
  | cons p m ih =>
    have h' : p.1 ∉ m.map (fun p => p.1) ∧ (m.map fun p => p.1).Nodup := List.nodup_cons.mp h
    rw [merase]
    by_cases c : p.1 = i
    · rw [if_pos c, mfind]
      by_cases d : i = j
      · rw [if_pos d]
        exact mfind_none_of fun q hq e => h'.1 (by rw [c, d, ← e]; exact List.mem_map.mpr ⟨q, hq, rfl⟩)
      · rw [if_neg d, if_neg (by rw [c]; exact d)]
    · rw [if_neg c, mfind, mfind, ih h'.2]
      by_cases d : p.1 = j
      · rw [if_pos d, if_pos d, if_neg (by omega)]
      · rw [if_neg d, if_neg d]
def stepM (m : List (Int × S_Row)) (c : S_Change) : List (Int × S_Row) := if c.Kind = 3 then merase m c.Row.ID else mput m c.Row.ID c.Row
theorem fold_find : ∀ (l : List S_Change) (m : List (Int × S_Row)), NoDupK m → NoDupK (l.foldl stepM m) ∧ ∀ i, mfind (l.foldl stepM m) i = chF l i (mfind m i) := by
  intro l
  induction l with
  | nil => intro m h; exact ⟨h, fun i => rfl⟩
  | cons c l ih =>
    intro m h
    have hs : NoDupK (stepM m c) ∧ ∀ i, mfind (stepM m c) i = if c.Row.ID = i then (if c.Kind = 3 then none else some c.Row) else mfind m i := by
      unfold stepM
      by_cases e : c.Kind = 3
      · rw [if_pos e, if_pos e]; exact ⟨merase_nodup h _, fun i => merase_find h _ _⟩
      · rw [if_neg e, if_neg e]; exact ⟨mput_nodup h _ _, fun i => mput_find _ _ _ _⟩
    obtain ⟨h1, h2⟩ := ih (stepM m c) hs.1
    refine ⟨h1, fun i => ?_⟩
    rw [List.foldl_cons, h2, hs.2, chF_cons]
/-- A map that holds these rows. -/
def Rep (m : List (Int × S_Row)) (l : List S_Row) : Prop := NoDupK m ∧ ∀ i, mfind m i = rfind l i
theorem Rep.nil : Rep [] [] := ⟨List.nodup_nil, fun i => rfl⟩
theorem Rep.perm {m : List (Int × S_Row)} {l : List S_Row} (h : Rep m l) (hl : Srt l) : m.Perm (l.map fun r => (r.ID, r)) := by
  refine (List.perm_ext_iff_of_nodup ?_ ?_).2 fun p => ?_
  · exact (List.pairwise_map.mp h.1).imp fun {x y} hxy e => hxy (by rw [e])
  · refine List.pairwise_map.2 (hl.imp fun {x y} hxy e => ?_)
    have : x.ID = y.ID := congrArg Prod.fst e
    omega
  · constructor
    · intro hp
      have h1 := mfind_of_mem h.1 hp
      rw [h.2] at h1
      obtain ⟨h2, h3⟩ := rfind_some h1
      exact List.mem_map.mpr ⟨p.2, h2, by rw [h3]⟩
    · intro hp
      obtain ⟨r, hr, rfl⟩ := List.mem_map.mp hp
      exact mem_of_mfind (by rw [h.2]; exact rfind_mem hl hr)
theorem Rep.diff {m : List (Int × S_Row)} {a b : List S_Row} (h : Rep m a) (ha : Srt a) (hb : Srt b) : Rep ((diffL a b).foldl stepM m) b := by
  obtain ⟨h1, h2⟩ := fold_find (diffL a b) m h.1
  exact ⟨h1, fun i => by rw [h2, h.2, chF_diff i a b ha hb]⟩
/-- A valid change. -/
def CV (c : S_Change) : Prop := (c.Kind = 1 ∨ c.Kind = 2) ∧ RV c.Row ∨ c.Kind = 3 ∧ (1 ≤ c.Row.ID ∧ c.Row.ID ≤ 2147483647) ∧ c.Row = blank c.Row.ID
theorem shape_ex (k : Nat) (c : S_Change) (h : CV c) (hk : 10 ≤ k) : catalog_shape k c = some 0 := by
  unfold catalog_shape
  rcases h with ⟨h1, h2⟩ | ⟨h1, h2, h3⟩
  · have : (if c.Kind = 1 then some (c.Kind == 1) else some (c.Kind == 2) : Option Bool) = some true := by
      rcases h1 with e | e
      · rw [ifp e, e]; rfl
      · rw [ifn (by omega), e]; rfl
    rw [bnd this, ifp rfl, bnd (checkRow_ex k _ h2 hk)]
  · have : (if c.Kind = 1 then some (c.Kind == 1) else some (c.Kind == 2) : Option Bool) = some false := by
      rw [ifn (by omega), h1]; rfl
    have hs : catalog_Same k c.Row (blank c.Row.ID) = some true := by
      rw [same_ex k _ _ (by rw [h3]; simp [blank]; omega) (by rw [h3]; simp [blank]), beqR_iff.mpr h3]
    rw [bnd this, ifn (by decide), ifp h1, ifn (by omega), ifn (by omega)]
    show (catalog_Same k c.Row (blank c.Row.ID)).bind _ = _
    rw [bnd hs, ifn (by decide)]
theorem apply_l0 (k : Nat) (l : List S_Change) (s : List (Int × S_Row)) (hk : 10 ≤ k) (hL : (l.length : Int) ≤ 200) (hc : ∀ c, c ∈ l → CV c) (hs : l.Pairwise fun x y => x.Row.ID < y.Row.ID)
    (ht : ∀ c, c ∈ l → (c.Kind = 1 → mfind s c.Row.ID = none) ∧ (c.Kind ≠ 1 → (mfind s c.Row.ID).isSome = true)) : ∀ (d m : Nat) (i : Int), i + d = (l.length : Int) → 0 ≤ i → d < m → catalog_state_apply.l0 k l s m i = some (Sum.inr ()) := by
  intro d
  induction d with
  | zero =>
    intro m i hi i0 hm
    obtain ⟨m, rfl⟩ : ∃ q, m = q + 1 := ⟨m - 1, by omega⟩
    rw [catalog_state_apply.l0, ifn (by omega)]
  | succ d ih =>
    intro m i hi i0 hm
    obtain ⟨m, rfl⟩ : ∃ q, m = q + 1 := ⟨m - 1, by omega⟩
    have hmem := rd_mem i0 (show i < (l.length : Int) by omega)
    obtain ⟨t1, t2⟩ := ht _ hmem
    have hn := ih m (i + 1) (by omega) (by omega) (by omega)
    have tail : (if (rd l i).Kind = 1 then (if (mfind s (rd l i).Row.ID).isSome = true then some (Sum.inl (7, s)) else if (rd l i).Kind ≠ 1 then some (Sum.inl (8, s)) else catalog_state_apply.l0 k l s m (w64 (i + 1))) else (if (rd l i).Kind ≠ 1 then (if ¬ ((mfind s (rd l i).Row.ID).isSome = true) then some (Sum.inl (8, s)) else catalog_state_apply.l0 k l s m (w64 (i + 1))) else catalog_state_apply.l0 k l s m (w64 (i + 1)))) = (some (Sum.inr ()) : Option (Sum (Int × (List (Int × S_Row))) Unit)) := by
      rw [wid (x := i + 1) (by omega) (by omega), hn]
      by_cases c : (rd l i).Kind = 1
      · rw [ifp c, ifn (by rw [t1 c]; simp), ifn (by simpa using c)]
      · rw [ifn c, ifp c, ifn (not_not_intro (t2 c))]
    rw [catalog_state_apply.l0, ifp (by omega), ifp i0, bnd (shape_ex k _ (hc _ hmem) hk), ifn (by decide)]
    by_cases c : i > 0
    · have hp := pw_rd hs (i := i - 1) (j := i) (by omega) (by omega) (by omega)
      rw [ifp c, wid (x := i - 1) (by omega) (by omega), ifp (by omega), ifp (by omega), ifn (by omega)]
      exact tail
    · rw [ifn c]
      exact tail
theorem apply_l1 (k : Nat) (l : List S_Change) (hL : (l.length : Int) ≤ 200) : ∀ (q p : List S_Change) (m : Nat) (s : List (Int × S_Row)), l = p ++ q → q.length < m → catalog_state_apply.l1 k l m s (p.length : Int) = some (q.foldl stepM s) := by
  intro q
  induction q with
  | nil =>
    intro p m s hl hm
    obtain ⟨m, rfl⟩ : ∃ q, m = q + 1 := ⟨m - 1, by omega⟩
    rw [catalog_state_apply.l1, ifn (by rw [hl, List.append_nil]; omega)]
    rfl
  | cons c q ih =>
    intro p m s hl hm
    obtain ⟨m, rfl⟩ : ∃ q, m = q + 1 := ⟨m - 1, by omega⟩
    have ll : l.length = p.length + (q.length + 1) := by rw [hl, List.length_append, List.length_cons]
    have e : rd l (p.length : Int) = c := rd_at hl rfl
    have hn := ih (p ++ [c]) m (stepM s c) (by rw [hl]; simp) (by simp at hm; omega)
    rw [show ((p ++ [c]).length : Int) = (p.length : Int) + 1 by simp] at hn
    rw [catalog_state_apply.l1, ifp (by omega), ifp (by omega), e, wid (by omega) (by omega), List.foldl_cons, ← hn]
    unfold stepM
    by_cases hc : c.Kind = 3
    · rw [ifp hc, if_pos hc]
    · rw [ifn hc, if_neg hc]
theorem diff_cv (a b : List S_Row) (ha : RowsOk a) (hb : RowsOk b) : ∀ c, c ∈ diffL a b → CV c := by
  intro c hc
  rcases diffL_mem a b c hc with ⟨h1, h2⟩ | ⟨h1, x, h2, h3⟩
  · exact .inl ⟨h1, hb.2 _ h2⟩
  · refine .inr ⟨h1, ?_, ?_⟩
    · rw [h3]; exact ⟨(ha.2 x h2).id1, (ha.2 x h2).id2⟩
    · rw [h3]; rfl
theorem apply_ex (k : Nat) (m : List (Int × S_Row)) (a b : List S_Row) (ha : RowsOk a) (hb : RowsOk b) (la : a.length ≤ 100) (lb : b.length ≤ 100) (hm : Rep m a) (hk : 1000 ≤ k) :
    ∃ m', catalog_state_apply k m (diffL a b) = some (0, m') ∧ Rep m' b := by
  have hl := diffL_len a b
  have hr := hm.diff ha.1 hb.1
  have hlen := (hr.perm hb.1).length_eq
  rw [List.length_map] at hlen
  refine ⟨_, ?_, hr⟩
  unfold catalog_state_apply
  have h1 := apply_l1 k (diffL a b) (by omega) (diffL a b) [] k m rfl (by omega)
  rw [show (([] : List S_Change).length : Int) = 0 from rfl] at h1
  rw [ifn (by omega), bnd (apply_l0 k (diffL a b) m (by omega) (by omega) (diff_cv a b ha hb) (diffL_srt a b ha.1 hb.1) (fun c hc => by rw [hm.2]; exact diffL_there a b ha.1 hb.1 c hc) (diffL a b).length k 0 (by omega) (by omega) (by omega))]
  show (catalog_state_apply.l1 k (diffL a b) k m 0).bind _ = _
  rw [bnd h1, ifn (by omega)]
/-! versions -/
/-- Changes, and the rows of each version. -/
def Hist : List (List S_Change) → List S_Row → List (List S_Row) → Prop
  | [], _, [] => True
  | c :: cs, r, r' :: rs => c = diffL r r' ∧ RowsOk r' ∧ r'.length ≤ 100 ∧ Hist cs r' rs
  | _, _, _ => False
def lastR : List S_Row → List (List S_Row) → List S_Row
  | r, [] => r
  | _, r :: rs => lastR r rs
theorem Hist.len : ∀ {cs : List (List S_Change)} {r : List S_Row} {rs : List (List S_Row)}, Hist cs r rs → cs.length = rs.length
  | [], _, [], _ => rfl
  | _ :: _, _, _ :: _, h => by simp [Hist.len h.2.2.2]
  | [], _, _ :: _, h => h.elim
  | _ :: _, _, [], h => h.elim
theorem Hist.take : ∀ {cs : List (List S_Change)} {r : List S_Row} {rs : List (List S_Row)} (n : Nat), Hist cs r rs → Hist (cs.take n) r (rs.take n)
  | [], _, [], n, h => by simpa using h
  | _ :: _, _, _ :: _, 0, h => trivial
  | _ :: _, _, _ :: _, n + 1, h => ⟨h.1, h.2.1, h.2.2.1, Hist.take n h.2.2.2⟩
  | [], _, _ :: _, _, h => h.elim
  | _ :: _, _, [], _, h => h.elim
theorem Hist.last : ∀ {cs : List (List S_Change)} {r : List S_Row} {rs : List (List S_Row)}, Hist cs r rs → RowsOk r → r.length ≤ 100 → RowsOk (lastR r rs) ∧ (lastR r rs).length ≤ 100
  | [], _, [], _, h1, h2 => ⟨h1, h2⟩
  | _ :: cs, _, r' :: rs, h, _, _ => Hist.last (cs := cs) (r := r') (rs := rs) h.2.2.2 h.2.1 h.2.2.1
  | [], _, _ :: _, h, _, _ => h.elim
  | _ :: _, _, [], h, _, _ => h.elim
theorem Hist.push : ∀ {cs : List (List S_Change)} {r : List S_Row} {rs : List (List S_Row)} {n : List S_Row}, Hist cs r rs → RowsOk n → n.length ≤ 100 → Hist (cs ++ [diffL (lastR r rs) n]) r (rs ++ [n])
  | [], _, [], n, _, h1, h2 => ⟨rfl, h1, h2, trivial⟩
  | _ :: _, _, _ :: _, n, h, h1, h2 => ⟨h.1, h.2.1, h.2.2.1, Hist.push h.2.2.2 h1 h2⟩
  | [], _, _ :: _, _, h, _, _ => h.elim
  | _ :: _, _, [], _, h, _, _ => h.elim
theorem lastR_push : ∀ (r : List S_Row) (rs : List (List S_Row)) (n : List S_Row), lastR r (rs ++ [n]) = n
  | _, [], _ => rfl
  | _, r :: rs, n => lastR_push r rs n
theorem lastR_take : ∀ (rs : List (List S_Row)) (r : List S_Row) (n : Nat), n ≤ rs.length → lastR r (rs.take n) = rd (r :: rs) (n : Int)
  | rs, r, 0, _ => by rw [List.take_zero]; rfl
  | [], r, n + 1, h => by simp at h
  | r' :: rs, r, n + 1, h => by
    rw [List.take_succ_cons]
    show lastR r' (rs.take n) = _
    rw [lastR_take rs r' n (by simpa using h)]
    rfl
theorem replay_l0 (k : Nat) (c : S_Catalog) (v : Int) (hk : 1000 ≤ k) (hL : c.Commits.length ≤ 100) : ∀ (q p : List (List S_Change)) (n : Nat) (m : List (Int × S_Row)) (r : List S_Row) (rs : List (List S_Row)), c.Commits.take v.toNat = p ++ q → q.length < n → Hist q r rs → RowsOk r → r.length ≤ 100 → Rep m r →
    ∃ m', catalog_replay.l0 k c v n m (p.length : Int) = some (Sum.inr m') ∧ Rep m' (lastR r rs) := by
  intro q
  induction q with
  | nil =>
    intro p n m r rs hl hn hh hr lr hm
    obtain ⟨n, rfl⟩ : ∃ q, n = q + 1 := ⟨n - 1, by omega⟩
    rw [catalog_replay.l0, ifn (by rw [hl, List.append_nil]; omega)]
    cases rs with
    | nil => exact ⟨m, rfl, hm⟩
    | cons => exact hh.elim
  | cons ch q ih =>
    intro p n m r rs hl hn hh hr lr hm
    obtain ⟨n, rfl⟩ : ∃ q, n = q + 1 := ⟨n - 1, by omega⟩
    have ll : (c.Commits.take v.toNat).length = p.length + (q.length + 1) := by rw [hl, List.length_append, List.length_cons]
    have l2 : (c.Commits.take v.toNat).length ≤ c.Commits.length := List.length_take_le' ..
    have e : rd (c.Commits.take v.toNat) (p.length : Int) = ch := rd_at hl rfl
    cases rs with
    | nil => exact hh.elim
    | cons r' rs =>
      obtain ⟨h1, h2, h3, h4⟩ := hh
      subst h1
      obtain ⟨m', e1, hm'⟩ := apply_ex k m r r' hr h2 lr h3 hm hk
      obtain ⟨m2, e2, hm2⟩ := ih (p ++ [diffL r r']) n m' r' rs (by rw [hl]; simp) (by simp at hn; omega) h4 h2 h3 hm'
      rw [show ((p ++ [diffL r r']).length : Int) = (p.length : Int) + 1 by simp] at e2
      rw [catalog_replay.l0, ifp (by omega), ifp (by omega), e, bnd e1]
      dsimp only
      rw [ifn (by decide), wid (by omega) (by omega)]
      exact ⟨m2, e2, hm2⟩
theorem replay_ex (k : Nat) (c : S_Catalog) (rs : List (List S_Row)) (v : Int) (hh : Hist c.Commits [] rs) (hL : c.Commits.length ≤ 32) (v0 : 0 ≤ v) (v1 : v ≤ (c.Commits.length : Int)) (hk : 1000 ≤ k) :
    ∃ m, catalog_replay k c v = some (m, 0) ∧ Rep m (rd ([] :: rs) v) := by
  have hlen := hh.len
  obtain ⟨m, e, hm⟩ := replay_l0 k c v hk (by omega) (c.Commits.take v.toNat) [] k [] [] (rs.take v.toNat) rfl (by have : (c.Commits.take v.toNat).length ≤ c.Commits.length := List.length_take_le' ..
                                                                                                                   omega) (hh.take _) RowsOk.nil (by simp) Rep.nil
  rw [lastR_take rs [] v.toNat (by omega), show (v.toNat : Int) = v by omega] at hm
  refine ⟨m, ?_, hm⟩
  unfold catalog_replay
  rw [show (([] : List (List S_Change)).length : Int) = 0 from rfl] at e
  rw [ifn (by omega), ifp v0, ifp v1, bnd e]
  rfl
theorem rd_last : ∀ (rs : List (List S_Row)) (r : List S_Row), rd (r :: rs) (rs.length : Int) = lastR r rs := by
  intro rs r
  rw [← lastR_take rs r rs.length (Nat.le_refl _), List.take_length]
theorem commit_l0 (k : Nat) (c : S_Catalog) (hk : 1000 ≤ k) (hL : c.Commits.length ≤ 100) (hc : ∀ l, l ∈ c.Commits → l.length ≤ 200 ∧ ∀ x, x ∈ l → x.Row.Frames.length ≤ 8) : ∀ (q p : List (List S_Change)) (n : Nat), c.Commits = p ++ q → q.length < n →
    catalog_Commit.l0 k c n (p.length : Int) p = some (p ++ q) := by
  intro q
  induction q with
  | nil =>
    intro p n hl hn
    obtain ⟨n, rfl⟩ : ∃ q, n = q + 1 := ⟨n - 1, by omega⟩
    rw [catalog_Commit.l0, ifn (by rw [hl, List.append_nil]; omega), List.append_nil]
  | cons l q ih =>
    intro p n hl hn
    obtain ⟨n, rfl⟩ : ∃ q, n = q + 1 := ⟨n - 1, by omega⟩
    have ll : c.Commits.length = p.length + (q.length + 1) := by rw [hl, List.length_append, List.length_cons]
    have e : rd c.Commits (p.length : Int) = l := rd_at hl rfl
    obtain ⟨h1, h2⟩ := hc l (by rw [hl]; simp)
    have e2 := ih (p ++ [l]) n (by rw [hl]; simp) (by simp at hn; omega)
    rw [show ((p ++ [l]).length : Int) = (p.length : Int) + 1 by simp] at e2
    rw [catalog_Commit.l0, ifp (by omega), ifp (by omega), e, bnd (copies_ex k l (by omega) h2 (by omega)), ifp (by omega), wid (by omega) (by omega), e2]
    simp
theorem Hist.small : ∀ {cs : List (List S_Change)} {r : List S_Row} {rs : List (List S_Row)}, Hist cs r rs → r.length ≤ 100 → ∀ l, l ∈ cs → l.length ≤ 200 ∧ ∀ x, x ∈ l → x.Row.Frames.length ≤ 8
  | [], _, [], _, _, _, hl => by cases hl
  | c :: cs, r, r' :: rs, h, hr, l, hl => by
    rcases List.mem_cons.mp hl with rfl | hl
    · rw [h.1]
      have := diffL_len r r'
      have := h.2.2.1
      exact ⟨by omega, diff_fr r r' h.2.1⟩
    · exact Hist.small h.2.2.2 h.2.2.1 l hl
  | [], _, _ :: _, h, _, _, _ => h.elim
  | _ :: _, _, [], h, _, _, _ => h.elim
theorem commit_ex (k : Nat) (c : S_Catalog) (rs : List (List S_Row)) (n : List S_Row) (hh : Hist c.Commits [] rs) (hL : c.Commits.length ≤ 31) (hn : RowsOk n) (ln : n.length ≤ 100) (hk : 1000 ≤ k) :
    catalog_Commit k c (diffL (lastR [] rs) n) = some (⟨c.Commits ++ [diffL (lastR [] rs) n]⟩, (c.Commits.length : Int) + 1, 0) := by
  have hlen := hh.len
  obtain ⟨m, e1, hm⟩ := replay_ex k c rs (c.Commits.length : Int) hh (by omega) (by omega) (by omega) hk
  rw [hlen, rd_last rs []] at hm
  obtain ⟨h1, h2⟩ := hh.last RowsOk.nil (by simp)
  obtain ⟨m', e2, _⟩ := apply_ex k m (lastR [] rs) n h1 hn h2 ln hm hk
  have hl := diffL_len (lastR [] rs) n
  have e3 := commit_l0 k c hk (by omega) (hh.small (by simp)) c.Commits [] k rfl (by omega)
  rw [show (([] : List (List S_Change)).length : Int) = 0 from rfl, List.nil_append] at e3
  unfold catalog_Commit
  rw [bnd e1]
  dsimp only
  rw [ifn (by decide), ifn (by omega), bnd e2]
  dsimp only
  rw [ifn (by decide), bnd e3, bnd (copies_ex k _ (by omega) (diff_fr _ n hn) (by omega)), ifp (by omega)]
  simp
/-! the rows of a version -/
theorem sorted_keys {m : List (Int × S_Row)} {l : List S_Row} (h : Rep m l) (hl : RowsOk l) (ll : l.length ≤ 1000) : sortedKeys m = some (l.map fun r => r.ID) := by
  have hp := h.perm hl.1
  have hlen := hp.length_eq
  rw [List.length_map] at hlen
  have hk : (m.map fun p => p.1).Perm (l.map fun r => r.ID) := by
    have := hp.map (fun p : Int × S_Row => p.1)
    rw [List.map_map] at this
    exact this
  unfold sortedKeys
  rw [ifp (List.all_eq_true.mpr fun p hp' => ?_), ifp (by omega)]
  · congr 1
    have tr : ∀ a b c : Int, decide (a ≤ b) = true → decide (b ≤ c) = true → decide (a ≤ c) = true := fun a b c h1 h2 => by simp only [decide_eq_true_eq] at *; omega
    have to : ∀ a b : Int, (decide (a ≤ b) || decide (b ≤ a)) = true := fun a b => by simp only [Bool.or_eq_true, decide_eq_true_eq]; omega
    refine List.Perm.eq_of_pairwise (le := fun a b => decide (a ≤ b) = true) (fun a b _ _ h1 h2 => ?_) (List.pairwise_mergeSort tr to _) ?_ ((List.mergeSort_perm _ _).trans hk)
    · simp only [decide_eq_true_eq] at *; omega
    · rw [List.pairwise_map]
      exact hl.1.imp fun {x y} h => by simp only [decide_eq_true_eq]; omega
  · obtain ⟨r, hr, rfl⟩ := List.mem_map.mp (hp.mem_iff.mp hp')
    have h1 := (hl.2 r hr).id1
    have h2 := (hl.2 r hr).id2
    simp [Lit.wf, IntKind.min, IntKind.max, IntKind.bits, IntKind.signed]
    omega
theorem at_l0 (k : Nat) (K : List Int) (m : List (Int × S_Row)) (l : List S_Row) (hK : K = l.map fun r => r.ID) (ll : l.length ≤ 1000) (hm : ∀ r, r ∈ l → mfind m r.ID = some r) : ∀ (q p : List S_Row) (n : Nat), l = p ++ q → q.length < n →
    catalog_At.l0 k K m n p (p.length : Int) = some (p ++ q) := by
  intro q
  induction q with
  | nil =>
    intro p n hl hn
    obtain ⟨n, rfl⟩ : ∃ q, n = q + 1 := ⟨n - 1, by omega⟩
    rw [catalog_At.l0, ifn (by rw [hK, hl, List.append_nil, List.length_map]; omega), List.append_nil]
  | cons r q ih =>
    intro p n hl hn
    obtain ⟨n, rfl⟩ : ∃ q, n = q + 1 := ⟨n - 1, by omega⟩
    have lk : K.length = l.length := by rw [hK, List.length_map]
    have l2 : l.length = p.length + (q.length + 1) := by rw [hl, List.length_append, List.length_cons]
    have e : rd K (p.length : Int) = r.ID := rd_at (pre := p.map fun r => r.ID) (post := q.map fun r => r.ID) (by rw [hK, hl]; simp) (by simp)
    have e2 := ih (p ++ [r]) n (by rw [hl]; simp) (by simp at hn; omega)
    rw [show ((p ++ [r]).length : Int) = (p.length : Int) + 1 by simp] at e2
    rw [catalog_At.l0, ifp (by omega), ifp (by omega), ifp (by omega), e, wid (by omega) (by omega), show mget zero_Row m r.ID = r by unfold mget; rw [hm r (by rw [hl]; simp)]; rfl, e2]
    simp
theorem copy_l0 (k : Nat) (l : List S_Row) (hl : l.length ≤ 10000) (hf : ∀ c, c ∈ l → c.Frames.length ≤ 8) : ∀ (d m : Nat) (i : Int), i + d = (l.length : Int) → 0 ≤ i → d < m → catalog_Copy.l0 k l m l i = some l := by
  intro d
  induction d with
  | zero =>
    intro m i hi i0 hm
    obtain ⟨m, rfl⟩ : ∃ q, m = q + 1 := ⟨m - 1, by omega⟩
    rw [catalog_Copy.l0, ifn (by omega)]
  | succ d ih =>
    intro m i hi i0 hm
    obtain ⟨m, rfl⟩ : ∃ q, m = q + 1 := ⟨m - 1, by omega⟩
    have hv := hf _ (rd_mem i0 (show i < (l.length : Int) by omega))
    rw [catalog_Copy.l0, ifp (by omega), ifp i0, ifp (by omega), bnd (cloneI_ex k _ (by omega)), wid (by omega) (by omega)]
    rw [show (⟨(rd l i).ID, (rd l i).Box, (rd l i).Flux, (rd l i).When, (rd l i).Frames, (rd l i).Marks⟩ : S_Row) = rd l i from rfl, set_self l i i0 (by omega)]
    exact ih m (i + 1) (by omega) (by omega) (by omega)
theorem copy_ex (k : Nat) (l : List S_Row) (hl : l.length ≤ 10000) (hf : ∀ c, c ∈ l → c.Frames.length ≤ 8) (hk : l.length < k) : catalog_Copy k l = some l := by
  unfold catalog_Copy slices_Clone_Row
  rw [ifp (by simp; omega), bnd rfl, List.nil_append, bnd (copy_l0 k l hl hf l.length k 0 (by omega) (by omega) hk)]
theorem Hist.at : ∀ {cs : List (List S_Change)} {r : List S_Row} {rs : List (List S_Row)}, Hist cs r rs → RowsOk r → r.length ≤ 100 → ∀ x, x ∈ r :: rs → RowsOk x ∧ x.length ≤ 100
  | [], _, [], _, h1, h2, x, hx => by simp at hx; subst hx; exact ⟨h1, h2⟩
  | _ :: _, _, _ :: _, h, h1, h2, x, hx => by
    rcases List.mem_cons.mp hx with rfl | hx
    · exact ⟨h1, h2⟩
    · exact Hist.at h.2.2.2 h.2.1 h.2.2.1 x hx
  | [], _, _ :: _, h, _, _, _, _ => h.elim
  | _ :: _, _, [], h, _, _, _, _ => h.elim
theorem at_ex (k : Nat) (c : S_Catalog) (rs : List (List S_Row)) (v : Int) (hh : Hist c.Commits [] rs) (hL : c.Commits.length ≤ 32) (v0 : 0 ≤ v) (v1 : v ≤ (c.Commits.length : Int)) (hk : 2000 ≤ k) :
    catalog_At k c v = some (rd ([] :: rs) v, 0) := by
  have hlen := hh.len
  obtain ⟨m0, e0, _⟩ := replay_ex k c rs (c.Commits.length : Int) hh hL (by omega) (by omega) (by omega)
  obtain ⟨m, e, hm⟩ := replay_ex k c rs v hh hL v0 v1 (by omega)
  obtain ⟨h1, h2⟩ := hh.at RowsOk.nil (by simp) (rd ([] :: rs) v) (rd_mem v0 (by rw [List.length_cons]; omega))
  generalize rd ([] :: rs) v = l at *
  have e2 := at_l0 k _ m l rfl (by omega) (fun r hr => by rw [hm.2]; exact rfind_mem h1.1 hr) l [] k rfl (by omega)
  rw [show (([] : List S_Row).length : Int) = 0 from rfl, List.nil_append] at e2
  unfold catalog_At catalog_CheckCatalog
  rw [bnd (show (catalog_replay k c (c.Commits.length : Int)).bind (fun x => match x with | (vt13, vt14) => some vt14) = some 0 by rw [bnd e0]), ifn (by decide), ifn (by omega), ifn (by omega), bnd e]
  dsimp only
  rw [bnd (sorted_keys hm h1 (by omega)), bnd e2, bnd (copy_ex k l (by omega) (fun c hc => (h1.2 c hc).l2) (by omega))]
/-! the guard that packages answer -/
def one3 : S_Row := ⟨3, ⟨⟨0, 0, false⟩, ⟨0, 0, false⟩, ⟨0, 0, false⟩⟩, ⟨0, 0, false⟩, ⟨0, 0, false⟩, [1], 0⟩
theorem one3_ok : RowsOk [one3] := by
  have hb : ∀ M : Int, 0 ≤ M → BOk ⟨0, 0, false⟩ M := fun M h => ⟨fun h => (by cases h), by dsimp only; omega, by dsimp only; omega, by dsimp only; omega⟩
  refine ⟨List.pairwise_singleton _ _, fun r hr => ?_⟩
  simp only [List.mem_singleton] at hr
  subst hr
  exact ⟨by decide, by decide, ⟨hb _ (by decide), hb _ (by decide), hb _ (by decide)⟩, hb _ (by decide), hb _ (by decide), List.pairwise_singleton _ _, fun x hx => by simp only [one3, List.mem_singleton] at hx; omega, by decide, by decide, by decide, by decide⟩
theorem listed_ex (k : Nat) (hk : 2000 ≤ k) : spykeep3_listed k = some true := by
  have hc := commit_ex k ⟨[]⟩ [] [one3] trivial (by simp) one3_ok (by simp) (by omega)
  have ha := at_ex k ⟨[diffL [] [one3]]⟩ [[one3]] 1 ⟨rfl, one3_ok, by simp, trivial⟩ (by simp) (by decide) (by simp) hk
  unfold spykeep3_listed spykeep3_single
  rw [bnd rfl]
  show (catalog_Commit k ⟨[]⟩ (diffL (lastR [] []) [one3])).bind _ = _
  rw [bnd hc]
  dsimp only
  show (catalog_At k ⟨[diffL [] [one3]]⟩ 1).bind _ = _
  rw [bnd ha]
  dsimp only
  rw [ifp (by decide), ifp (by decide), ifp (by decide)]
  show (if ((([one3] : List S_Row).length : Int) = 1) then _ else _) = _
  rw [ifp (by decide)]
  show (if 0 < ((([one3] : List S_Row).length : Int)) then _ else _) = _
  rw [ifp (by decide)]
  show (catalog_Same k one3 one3).bind _ = _
  rw [bnd (same_ex k one3 one3 (by simp [one3]; omega) (by simp [one3])), beqR_self]
theorem diffL_self : ∀ (a : List S_Row), diffL a a = []
  | [] => rfl
  | a :: as => by rw [diffL, diffA, if_neg (by omega), if_neg (by omega), if_pos (beqR_self a), diffL_self as]
def mergeA (a : S_Row) (next : List S_Row → List S_Row) : List S_Row → List S_Row
  | [] => a :: next []
  | b :: bs => if a.ID < b.ID then a :: next (b :: bs) else if b.ID < a.ID then b :: mergeA a next bs else a :: next bs
def mergeL : List S_Row → List S_Row → List S_Row
  | [] => fun l => l
  | a :: as => mergeA a (mergeL as)
def errA (a : S_Row) (next : List S_Row → Int → Int) : List S_Row → Int → Int
  | [], e => next [] e
  | b :: bs, e => if a.ID < b.ID then next (b :: bs) e else if b.ID < a.ID then errA a next bs e else next bs (if beqR a b = true then e else 15)
def errL : List S_Row → List S_Row → Int → Int
  | [] => fun _ e => e
  | a :: as => errA a (errL as)
def Con (a b : List S_Row) : Prop := ∀ x, x ∈ a → ∀ y, y ∈ b → x.ID = y.ID → x = y
theorem mpairs_l0 (k : Nat) (A B : List S_Row) (hk : 100 ≤ k) (hA : A.length ≤ 1000) (hB : B.length ≤ 1000) (hf : ∀ r, r ∈ A → r.Frames.length ≤ 8) : ∀ (d m : Nat) (a b pa pb : List S_Row) (x : List S_Row) (e : Int), a.length + b.length ≤ d → d < m → A = pa ++ a → B = pb ++ b → x.length + d ≤ 10000 →
    catalog_pairs__catalog_Merge_1.l0 k A B m (pa.length : Int) (pb.length : Int) x e = some (x ++ mergeL a b, errL a b e) := by
  intro d
  induction d with
  | zero =>
    intro m a b pa pb x e hd hm hA' hB' hx
    obtain ⟨m, rfl⟩ : ∃ z, m = z + 1 := ⟨m - 1, by omega⟩
    have ha : a = [] := List.eq_nil_of_length_eq_zero (by omega)
    have hb : b = [] := List.eq_nil_of_length_eq_zero (by omega)
    subst ha hb
    rw [List.append_nil] at hA' hB'
    subst hA' hB'
    rw [catalog_pairs__catalog_Merge_1.l0, ifn (by omega), ifn (by omega)]
    simp [mergeL, errL]
  | succ d ih =>
    intro m a b pa pb x e hd hm hA' hB' hx
    obtain ⟨m, rfl⟩ : ∃ z, m = z + 1 := ⟨m - 1, by omega⟩
    have lA : A.length = pa.length + a.length := by rw [hA', List.length_append]
    have lB : B.length = pb.length + b.length := by rw [hB', List.length_append]
    rw [catalog_pairs__catalog_Merge_1.l0, w1 (n := pa.length) (by omega), w1 (n := pb.length) (by omega)]
    have push : ∀ (c : S_Row), (x ++ [c]).length = x.length + 1 := fun c => by simp
    have pp : ∀ (p : List S_Row) (r : S_Row), p.length + 1 = (p ++ [r]).length := fun p r => by simp
    cases a with
    | nil =>
      cases b with
      | nil =>
        rw [List.length_nil] at lA lB
        rw [ifn (by omega), ifn (by omega)]
        simp [mergeL, errL]
      | cons b bs =>
        simp only [List.length_nil, List.length_cons] at lA lB hd
        have eb : rd B (pb.length : Int) = b := rd_at hB' rfl
        rw [ifn (by omega), ifp (by omega), ifn (by omega), ifp (by omega), ifp (by omega), eb]
        unfold catalog_Merge_1_2
        rw [ifp (by omega), bnd rfl, pp pb b, ih m [] bs pa (pb ++ [b]) _ e (by simp; omega) (by omega) hA' (by rw [hB']; simp) (by rw [push]; omega)]
        simp [mergeL, errL]
    | cons a as =>
      have ea : rd A (pa.length : Int) = a := rd_at hA' rfl
      have fa : a.Frames.length ≤ 8 := hf a (by rw [hA']; simp)
      have hA2 : A = (pa ++ [a]) ++ as := by rw [hA']; simp
      cases b with
      | nil =>
        simp only [List.length_nil, List.length_cons] at lA lB hd
        rw [ifp (by omega), ifp (by omega), ifp (by omega), ea]
        unfold catalog_Merge_1
        rw [ifp (by omega), bnd rfl, pp pa a, ih m as [] (pa ++ [a]) pb _ e (by simp; omega) (by omega) hA2 hB' (by rw [push]; omega)]
        simp [mergeL, mergeA, errL, errA]
      | cons b bs =>
        simp only [List.length_cons] at lA lB hd
        have eb : rd B (pb.length : Int) = b := rd_at hB' rfl
        have hB2 : B = (pb ++ [b]) ++ bs := by rw [hB']; simp
        rw [ifp (by omega), ifn (by omega), ifp (by omega), ifp (by omega), ifp (by omega), ea, eb]
        by_cases c : a.ID < b.ID
        · rw [ifp c]
          unfold catalog_Merge_1
          rw [ifp (by omega), bnd rfl, pp pa a, ih m as (b :: bs) (pa ++ [a]) pb _ e (by simp; omega) (by omega) hA2 hB' (by rw [push]; omega)]
          simp [mergeL, mergeA, errL, errA, c]
        · rw [ifn c, ifn (by omega)]
          by_cases c2 : b.ID < a.ID
          · rw [ifp c2]
            unfold catalog_Merge_1_2
            rw [ifp (by omega), bnd rfl, pp pb b, ih m (a :: as) bs pa (pb ++ [b]) _ e (by simp; omega) (by omega) hA' hB2 (by rw [push]; omega)]
            simp [mergeL, mergeA, errL, errA, c, c2]
          · rw [ifn c2]
            unfold catalog_Merge_1_3
            rw [bnd (same_ex k a b (by omega) (by omega))]
            by_cases c3 : beqR a b = true
            · rw [ifn (by simpa using c3), ifp (by omega), bnd rfl]; dsimp only
              rw [pp pa a, pp pb b, ih m as bs (pa ++ [a]) (pb ++ [b]) _ e (by omega) (by omega) hA2 hB2 (by rw [push]; omega)]
              simp [mergeL, mergeA, errL, errA, c, c2, c3]
            · rw [ifp c3, ifp (by omega), bnd rfl]; dsimp only
              rw [pp pa a, pp pb b, ih m as bs (pa ++ [a]) (pb ++ [b]) _ 15 (by omega) (by omega) hA2 hB2 (by rw [push]; omega)]
              simp [mergeL, mergeA, errL, errA, c, c2, c3]
theorem merge_mem : ∀ (a b : List S_Row), ∀ x, x ∈ mergeL a b → x ∈ a ∨ x ∈ b := by
  intro a
  induction a with
  | nil => intro b x hx; exact .inr hx
  | cons a as ih =>
    intro b
    have up : ∀ (l : List S_Row) (x : S_Row), (∀ y, y ∈ l → y ∈ b) → x ∈ mergeL as l → x ∈ a :: as ∨ x ∈ b := fun l x hl hx => (ih l x hx).elim (fun h => .inl (List.mem_cons_of_mem _ h)) (fun h => .inr (hl x h))
    induction b with
    | nil =>
      intro x hx
      rcases List.mem_cons.mp hx with rfl | hx
      · exact .inl (List.mem_cons_self ..)
      · exact up [] x (fun _ h => h) hx
    | cons b bs ihb =>
      intro x hx
      simp only [mergeL, mergeA] at hx
      split at hx
      · rcases List.mem_cons.mp hx with rfl | hx
        · exact .inl (List.mem_cons_self ..)
        · exact up _ x (fun _ h => h) hx
      · split at hx
        · rcases List.mem_cons.mp hx with rfl | hx
          · exact .inr (List.mem_cons_self ..)
          · exact (ihb (fun l x hl hx => (ih l x hx).elim (fun h => .inl (List.mem_cons_of_mem _ h)) (fun h => .inr (hl x h))) x hx).imp id (List.mem_cons_of_mem _)
        · rcases List.mem_cons.mp hx with rfl | hx
          · exact .inl (List.mem_cons_self ..)
          · exact up _ x (fun _ h => List.mem_cons_of_mem _ h) hx
theorem merge_lb {a b : List S_Row} {t : Int} (ha : ∀ x, x ∈ a → t < x.ID) (hb : ∀ x, x ∈ b → t < x.ID) : ∀ x, x ∈ mergeL a b → t < x.ID := fun x hx => (merge_mem a b x hx).elim (ha x) (hb x)
theorem merge_srt : ∀ (a b : List S_Row), Srt a → Srt b → Srt (mergeL a b) := by
  intro a
  induction a with
  | nil => intro b _ hb; exact hb
  | cons a as ih =>
    intro b ha hb
    obtain ⟨a1, a2⟩ := List.pairwise_cons.mp ha
    induction b with
    | nil => exact List.pairwise_cons.mpr ⟨merge_lb a1 (fun x h => by cases h), ih [] a2 hb⟩
    | cons b bs ihb =>
      obtain ⟨b1, b2⟩ := List.pairwise_cons.mp hb
      simp only [mergeL, mergeA]
      split
      · rename_i c
        refine List.pairwise_cons.mpr ⟨merge_lb a1 (fun x h => ?_), ih _ a2 hb⟩
        rcases List.mem_cons.mp h with rfl | h
        · exact c
        · have := b1 x h; omega
      · split
        · rename_i c
          refine List.pairwise_cons.mpr ⟨merge_lb (a := a :: as) (fun x h => ?_) b1, ihb b2⟩
          rcases List.mem_cons.mp h with rfl | h
          · exact c
          · have := a1 x h; omega
        · exact List.pairwise_cons.mpr ⟨merge_lb a1 (fun y hy => by have := b1 y hy; omega), ih _ a2 b2⟩
theorem merge_find (i : Int) : ∀ (a b : List S_Row), Srt a → Srt b → rfind (mergeL a b) i = (rfind a i).or (rfind b i) := by
  intro a
  induction a with
  | nil => intro b _ _; rfl
  | cons a as ih =>
    intro b ha hb
    obtain ⟨a1, a2⟩ := List.pairwise_cons.mp ha
    have hc : ∀ (x : S_Row) (l : List S_Row), rfind (x :: l) i = if x.ID = i then some x else rfind l i := fun x l => rfl
    induction b with
    | nil =>
      show rfind (a :: mergeL as []) i = _
      rw [hc, hc, ih [] a2 hb]
      by_cases c : a.ID = i
      · rw [if_pos c, if_pos c]; rfl
      · rw [if_neg c, if_neg c]
    | cons b bs ihb =>
      obtain ⟨b1, b2⟩ := List.pairwise_cons.mp hb
      simp only [mergeL, mergeA]
      by_cases c : a.ID < b.ID
      · rw [if_pos c, hc, ih _ a2 hb, hc a]
        by_cases c : a.ID = i
        · rw [if_pos c, if_pos c]; rfl
        · rw [if_neg c, if_neg c]
      · rw [if_neg c]
        by_cases c2 : b.ID < a.ID
        · rw [if_pos c2, hc, hc b]
          by_cases c : b.ID = i
          · rw [if_pos c, if_pos c, rfind_none (l := a :: as) (fun r hr => by
              rcases List.mem_cons.mp hr with rfl | hr
              · omega
              · have := a1 r hr; omega)]
            rfl
          · rw [if_neg c, if_neg c]
            exact ihb b2
        · rw [if_neg c2, hc, ih bs a2 b2, hc a, hc b]
          by_cases c : a.ID = i
          · rw [if_pos c, if_pos c]; rfl
          · rw [if_neg c, if_neg c, if_neg (by omega)]
theorem err_con : ∀ (a b : List S_Row) (e : Int), Con a b → errL a b e = e := by
  intro a
  induction a with
  | nil => intro b e _; rfl
  | cons a as ih =>
    intro b
    induction b with
    | nil => intro e _; exact ih [] e (fun x _ y hy => by cases hy)
    | cons b bs ihb =>
      intro e h
      simp only [errL, errA]
      split
      · exact ih _ e fun x hx y hy => h x (List.mem_cons_of_mem _ hx) y hy
      · split
        · exact ihb e fun x hx y hy => h x hx y (List.mem_cons_of_mem _ hy)
        · rw [if_pos (beqR_iff.mpr (h a (List.mem_cons_self ..) b (List.mem_cons_self ..) (by omega)))]
          exact ih _ e fun x hx y hy => h x (List.mem_cons_of_mem _ hx) y (List.mem_cons_of_mem _ hy)
theorem err_not : ∀ (a b : List S_Row) (e : Int), Srt a → Srt b → ¬ Con a b → errL a b e = 15 := by
  intro a
  induction a with
  | nil => intro b e _ _ h; exact absurd (fun x hx => by cases hx) h
  | cons a as ih =>
    intro b e ha hb
    obtain ⟨a1, a2⟩ := List.pairwise_cons.mp ha
    induction b generalizing e with
    | nil => intro h; exact absurd (fun x _ y hy => by cases hy) h
    | cons b bs ihb =>
      intro h
      obtain ⟨b1, b2⟩ := List.pairwise_cons.mp hb
      simp only [errL, errA]
      split
      · rename_i c
        refine ih _ e a2 hb fun h' => h fun x hx y hy e => ?_
        rcases List.mem_cons.mp hx with rfl | hx
        · rcases List.mem_cons.mp hy with rfl | hy
          · omega
          · have := b1 y hy; omega
        · exact h' x hx y hy e
      · split
        · rename_i c
          refine ihb e b2 fun h' => h fun x hx y hy e => ?_
          rcases List.mem_cons.mp hy with rfl | hy
          · rcases List.mem_cons.mp hx with rfl | hx
            · omega
            · have := a1 x hx; omega
          · exact h' x hx y hy e
        · by_cases c3 : beqR a b = true
          · rw [if_pos c3]
            refine ih _ e a2 b2 fun h' => h fun x hx y hy e => ?_
            rcases List.mem_cons.mp hx with rfl | hx
            · rcases List.mem_cons.mp hy with rfl | hy
              · exact beqR_iff.mp c3
              · have := b1 y hy; omega
            · rcases List.mem_cons.mp hy with rfl | hy
              · have := a1 x hx; omega
              · exact h' x hx y hy e
          · rw [if_neg c3]
            by_cases hc : Con as bs
            · exact err_con as bs 15 hc
            · exact ih _ 15 a2 b2 hc
theorem merge_ok {a b : List S_Row} (ha : RowsOk a) (hb : RowsOk b) : RowsOk (mergeL a b) := ⟨merge_srt a b ha.1 hb.1, fun r hr => (merge_mem a b r hr).elim (ha.2 r) (hb.2 r)⟩
theorem merge_len : ∀ (a b : List S_Row), (mergeL a b).length ≤ a.length + b.length := by
  intro a
  induction a with
  | nil => intro b; simp [mergeL]
  | cons a as ih =>
    intro b
    induction b with
    | nil => have := ih []; simp [mergeL, mergeA] at *; omega
    | cons b bs ihb =>
      have h1 := ih (b :: bs)
      have h2 := ih bs
      have h3 : (mergeA a (mergeL as) bs).length ≤ (a :: as).length + bs.length := ihb
      simp only [mergeL, mergeA, List.length_cons] at *
      split
      · simp only [List.length_cons]; omega
      · split
        · simp only [List.length_cons]; omega
        · simp only [List.length_cons]; omega
theorem mpairs_ex (k : Nat) (a b : List S_Row) (ha : RowsOk a) (la : a.length ≤ 100) (lb : b.length ≤ 100) (hk : 1000 ≤ k) : catalog_pairs__catalog_Merge_1 k [] 0 a b = some (mergeL a b, errL a b 0) := by
  unfold catalog_pairs__catalog_Merge_1
  have := mpairs_l0 k a b (by omega) (by omega) (by omega) (fun r h => (ha.2 r h).l2) (a.length + b.length) k a b [] [] [] 0 (Nat.le_refl _) (by omega) rfl rfl (by simp; omega)
  rw [show (([] : List S_Row).length : Int) = 0 from rfl] at this
  rw [bnd this]; rfl
theorem merge_con (k : Nat) (a b : List S_Row) (ha : RowsOk a) (hb : RowsOk b) (la : a.length ≤ 100) (lb : b.length ≤ 100) (hk : 1000 ≤ k) (h : Con a b) : catalog_Merge k a b = some (mergeL a b, 0) := by
  have hl := merge_len a b
  unfold catalog_Merge
  rw [bnd (checkl_ex k a ha (by omega) (by omega)), bnd (checkl_ex k b hb (by omega) (by omega)), bnd (or_ex k (by omega)), ifn (by decide), bnd (mpairs_ex k a b ha la lb hk)]; dsimp only
  rw [err_con a b 0 h, ifp rfl, ifn (by omega), bnd rfl, ifn (by decide), bnd (copy_ex k _ (by omega) (fun c hc => ((merge_ok ha hb).2 c hc).l2) (by omega))]
theorem merge_not (k : Nat) (a b : List S_Row) (ha : RowsOk a) (hb : RowsOk b) (la : a.length ≤ 100) (lb : b.length ≤ 100) (hk : 1000 ≤ k) (h : ¬ Con a b) : catalog_Merge k a b = some ([], 15) := by
  unfold catalog_Merge
  rw [bnd (checkl_ex k a ha (by omega) (by omega)), bnd (checkl_ex k b hb (by omega) (by omega)), bnd (or_ex k (by omega)), ifn (by decide), bnd (mpairs_ex k a b ha la lb hk)]; dsimp only
  rw [err_not a b 0 ha.1 hb.1 h, ifn (by decide), ifp (by decide)]
/-- Lists whose IDs rise are told by their rows. -/
theorem rows_ext {a b : List S_Row} (ha : Srt a) (hb : Srt b) (h : ∀ i, rfind a i = rfind b i) : a = b := by
  have nd : ∀ {l : List S_Row}, Srt l → l.Nodup := fun {l} hl => hl.imp fun {x y} hxy e => by rw [e] at hxy; omega
  have hp : a.Perm b := (List.perm_ext_iff_of_nodup (nd ha) (nd hb)).2 fun x => ⟨fun hx => (rfind_some (by rw [← h]; exact rfind_mem ha hx)).1, fun hx => (rfind_some (by rw [h]; exact rfind_mem hb hx)).1⟩
  exact List.Perm.eq_of_pairwise (le := fun x y : S_Row => x.ID < y.ID) (fun x y _ _ h1 h2 => by omega) ha hb hp
theorem con_find {a b : List S_Row} (h : Con a b) {i : Int} {x y : S_Row} (hx : rfind a i = some x) (hy : rfind b i = some y) : x = y := by
  obtain ⟨h1, h2⟩ := rfind_some hx
  obtain ⟨h3, h4⟩ := rfind_some hy
  exact h x h1 y h3 (by rw [h2, h4])
theorem or_comm' {a b : Option S_Row} (h : ∀ x y, a = some x → b = some y → x = y) : a.or b = b.or a := by
  cases a with
  | none => cases b <;> rfl
  | some x =>
    cases b with
    | none => rfl
    | some y => rw [h x y rfl rfl]
theorem Con.self {a : List S_Row} (h : Srt a) : Con a a := fun x hx y hy e => by
  have h1 := rfind_mem h hx
  have h2 := rfind_mem h hy
  rw [e, h2] at h1
  injection h1 with h1
  exact h1.symm
theorem Con.symm {a b : List S_Row} (h : Con a b) : Con b a := fun x hx y hy e => (h y hy x hx e.symm).symm
theorem mem_merge {a b : List S_Row} (ha : Srt a) (hb : Srt b) (h : Con a b) {x : S_Row} (hx : x ∈ a ∨ x ∈ b) : x ∈ mergeL a b := by
  have hf : rfind (mergeL a b) x.ID = some x := by
    rw [merge_find _ a b ha hb]
    rcases hx with hx | hx
    · rw [rfind_mem ha hx]; rfl
    · have := rfind_mem hb hx
      cases hy : rfind a x.ID with
      | none => rw [this]; rfl
      | some y => rw [con_find h hy this]; rfl
  exact (rfind_some hf).1
theorem eqrows_l0 (k : Nat) (l : List S_Row) (ll : l.length ≤ 1000) (hk : 100 ≤ k) (hf : ∀ r, r ∈ l → r.Frames.length ≤ 8) : ∀ (d m : Nat) (i : Int), i + d = (l.length : Int) → 0 ≤ i → d < m → slices_EqualFunc_Row__catalog_Same.l0 k l l m i = some (Sum.inr ()) := by
  intro d
  induction d with
  | zero =>
    intro m i hi i0 hm
    obtain ⟨m, rfl⟩ : ∃ q, m = q + 1 := ⟨m - 1, by omega⟩
    rw [slices_EqualFunc_Row__catalog_Same.l0, ifn (by omega)]
  | succ d ih =>
    intro m i hi i0 hm
    obtain ⟨m, rfl⟩ : ∃ q, m = q + 1 := ⟨m - 1, by omega⟩
    have hv := hf _ (rd_mem i0 (show i < (l.length : Int) by omega))
    rw [slices_EqualFunc_Row__catalog_Same.l0, ifp (by omega), ifp i0, ifp (by omega), bnd (same_ex k _ _ (by omega) (by omega)), beqR_self, ifn (by decide), wid (by omega) (by omega)]
    exact ih m (i + 1) (by omega) (by omega) (by omega)
theorem eqrows_ex (k : Nat) (l : List S_Row) (ll : l.length ≤ 1000) (hk : 2000 ≤ k) (hf : ∀ r, r ∈ l → r.Frames.length ≤ 8) : spykeep3_sameRows k l l = some true := by
  unfold spykeep3_sameRows slices_EqualFunc_Row__catalog_Same
  rw [ifn (by simp), bnd (show ((slices_EqualFunc_Row__catalog_Same.l0 k l l k 0).bind fun z_ => Sum.elim (fun y_ => some y_) (fun _ => some true) z_) = some true by rw [bnd (eqrows_l0 k l ll (by omega) hf l.length k 0 (by omega) (by omega) (by omega))]; rfl)]
/-- What happens to a row for one of the three lists. -/
def piece (k : Nat) (L : List Int) (cl : Bool) (r : S_Row) (j : Int) (v a : Int) (o : List S_Row) : Option (Int × List S_Row) :=
  if v = 0 then (if cl = true then ((spymake_Stream_Next k ⟨L, a⟩ 12).bind fun (u, b) => ((if u = 0 then (if (o.length + 1) * 160 ≤ 140737488355328 then some (Int.tmod (w64 (r.Marks + j)) 4, o ++ [(⟨r.ID, r.Box, r.Flux, r.When, r.Frames, Int.tmod (w64 (r.Marks + j)) 4⟩ : S_Row)]) else none) else (if (o.length + 1) * 160 ≤ 140737488355328 then some (r.Marks, o ++ [r]) else none) : Option (Int × List S_Row))).bind fun (_, y) => some (b, y)) else (if (o.length + 1) * 160 ≤ 140737488355328 then some (a, o ++ [r]) else none)) else some (a, o)
/-- One of the three lists, after a part of the rows. -/
structure PI (cl : Bool) (p o : List S_Row) : Prop where
  ok : RowsOk o
  ids : ∀ x, x ∈ o → ∃ r, r ∈ p ∧ x.ID = r.ID
  len : o.length ≤ p.length
  same : cl = false → ∀ x, x ∈ o → x ∈ p
theorem PI.nil (cl : Bool) : PI cl [] [] := ⟨RowsOk.nil, fun x h => (by cases h), Nat.le_refl _, fun _ x h => (by cases h)⟩
theorem PI.stay {cl : Bool} {p o : List S_Row} (h : PI cl p o) (r : S_Row) : PI cl (p ++ [r]) o :=
  ⟨h.ok, fun x hx => by obtain ⟨y, hy, e⟩ := h.ids x hx; exact ⟨y, List.mem_append_left _ hy, e⟩, by have := h.len; rw [List.length_append, List.length_cons, List.length_nil]; omega, fun c x hx => List.mem_append_left _ (h.same c x hx)⟩
theorem PI.push {cl : Bool} {p o : List S_Row} (h : PI cl p o) {r x : S_Row} (hp : ∀ y, y ∈ p → y.ID < r.ID) (hx : RV x) (e : x.ID = r.ID) (hs : cl = false → x = r) : PI cl (p ++ [r]) (o ++ [x]) := by
  refine ⟨⟨List.pairwise_append.mpr ⟨h.ok.1, List.pairwise_singleton _ _, fun y hy z hz => ?_⟩, fun y hy => ?_⟩, fun y hy => ?_, ?_, fun c y hy => ?_⟩
  · simp only [List.mem_singleton] at hz
    obtain ⟨q, hq, e2⟩ := h.ids y hy
    have := hp q hq
    subst hz
    omega
  · rcases List.mem_append.mp hy with hy | hy
    · exact h.ok.2 y hy
    · simp only [List.mem_singleton] at hy; subst hy; exact hx
  · rcases List.mem_append.mp hy with hy | hy
    · obtain ⟨q, hq, e2⟩ := h.ids y hy; exact ⟨q, List.mem_append_left _ hq, e2⟩
    · simp only [List.mem_singleton] at hy; subst hy; exact ⟨r, by simp, e⟩
  · have := h.len; simp; omega
  · rcases List.mem_append.mp hy with hy | hy
    · exact List.mem_append_left _ (h.same c y hy)
    · simp only [List.mem_singleton] at hy; subst hy; rw [hs c]; simp
theorem piece_ex (k : Nat) (L : List Int) (cl : Bool) (p o : List S_Row) (r : S_Row) (j v a : Int) (a0 : 0 ≤ a) (a1 : a ≤ 1000000) (j0 : 0 ≤ j) (j2 : j ≤ 2) (hr : RV r) (hp : ∀ y, y ∈ p → y.ID < r.ID) (h : PI cl p o) (lp : p.length ≤ 100) :
    ∃ b o', piece k L cl r j v a o = some (b, o') ∧ a ≤ b ∧ b ≤ a + 1 ∧ PI cl (p ++ [r]) o' := by
  have lo := h.len
  have m0 := hr.m0
  have m1 := hr.m1
  unfold piece
  by_cases c : v = 0
  · rw [ifp c]
    by_cases c : cl = true
    · rw [ifp c]
      obtain ⟨u, e, _, _⟩ := next_ex k L a 12 (by decide) (by decide) (by omega) (by omega)
      rw [bnd e]; dsimp only
      by_cases d : u = 0
      · rw [ifp d, ifp (by omega), bnd rfl]
        refine ⟨_, _, rfl, by omega, by omega, h.push hp ⟨hr.id1, hr.id2, hr.box, hr.flux, hr.when_, hr.fr, hr.fi, hr.l1, hr.l2, ?_, ?_⟩ rfl (fun h => by rw [c] at h; cases h)⟩
        · dsimp only; rw [wid (by omega) (by omega), tmod_nn (by omega)]; omega
        · dsimp only; rw [wid (by omega) (by omega), tmod_nn (by omega)]; omega
      · rw [ifn d, ifp (by omega), bnd rfl]
        exact ⟨_, _, rfl, by omega, by omega, h.push hp hr rfl (fun _ => rfl)⟩
    · rw [ifn c, ifp (by omega)]
      exact ⟨_, _, rfl, by omega, by omega, h.push hp hr rfl (fun _ => rfl)⟩
  · rw [ifn c]
    exact ⟨_, _, rfl, by omega, by omega, h.stay r⟩
theorem parted_l0 (k : Nat) (L : List Int) (v0 : Int) (cl : Bool) (N : List S_Row) (hN : RowsOk N) (lN : N.length ≤ 100) : ∀ (q p : List S_Row) (m : Nat) (a : Int) (x y z : List S_Row), N = p ++ q → q.length < m → 0 ≤ a → a + 6 * q.length ≤ 900000 → PI cl p x → PI cl p y → PI cl p z →
    ∃ a' x' y' z', spykeep3_parted.l0 k N ⟨L, v0⟩ cl m (p.length : Int) a x y z = some (a', x', y', z') ∧ PI cl N x' ∧ PI cl N y' ∧ PI cl N z' := by
  intro q
  induction q with
  | nil =>
    intro p m a x y z hl hm a0 a1 hx hy hz
    obtain ⟨m, rfl⟩ : ∃ q, m = q + 1 := ⟨m - 1, by omega⟩
    rw [List.append_nil] at hl
    rw [spykeep3_parted.l0, ifn (by rw [hl]; omega)]
    subst hl
    exact ⟨_, _, _, _, rfl, hx, hy, hz⟩
  | cons r q ih =>
    intro p m a x y z hl hm a0 a1 hx hy hz
    obtain ⟨m, rfl⟩ : ∃ q, m = q + 1 := ⟨m - 1, by omega⟩
    rw [List.length_cons] at a1
    have l2 : N.length = p.length + (q.length + 1) := by rw [hl, List.length_append, List.length_cons]
    have e : rd N (p.length : Int) = r := rd_at hl rfl
    have hr : RV r := hN.2 r (by rw [hl]; simp)
    have hp : ∀ y, y ∈ p → y.ID < r.ID := by
      have := hN.1
      rw [hl] at this
      exact fun y hy => (List.pairwise_append.mp this).2.2 y hy r (List.mem_cons_self ..)
    obtain ⟨v1, n1, _, _⟩ := next_ex k L a 2 (by decide) (by decide) (by omega) (by omega)
    obtain ⟨b1, z', p1, b10, b11, hz'⟩ := piece_ex k L cl p z r 0 v1 (a + 1) (by omega) (by omega) (by decide) (by decide) hr hp hz (by omega)
    obtain ⟨v2, n2, _, _⟩ := next_ex k L b1 2 (by decide) (by decide) (by omega) (by omega)
    obtain ⟨b2, y', p2, b20, b21, hy'⟩ := piece_ex k L cl p y r 1 v2 (b1 + 1) (by omega) (by omega) (by decide) (by decide) hr hp hy (by omega)
    obtain ⟨v3, n3, _, _⟩ := next_ex k L b2 2 (by decide) (by decide) (by omega) (by omega)
    obtain ⟨b3, x', p3, b30, b31, hx'⟩ := piece_ex k L cl p x r 2 v3 (b2 + 1) (by omega) (by omega) (by decide) (by decide) hr hp hx (by omega)
    have step : spykeep3_parted.l0 k N ⟨L, v0⟩ cl (m + 1) (p.length : Int) a x y z = spykeep3_parted.l0 k N ⟨L, v0⟩ cl m ((p ++ [r]).length : Int) b3 x' y' z' := by
      rw [spykeep3_parted.l0, ifp (by omega), ifp (by omega), e]
      show (spymake_Stream_Next k ⟨L, a⟩ 2).bind _ = _
      rw [bnd n1]; dsimp only
      show (piece k L cl r 0 v1 (a + 1) z).bind _ = _
      rw [bnd p1]; dsimp only
      show (spymake_Stream_Next k ⟨L, b1⟩ 2).bind _ = _
      rw [bnd n2]; dsimp only
      show (piece k L cl r 1 v2 (b1 + 1) y).bind _ = _
      rw [bnd p2]; dsimp only
      show (spymake_Stream_Next k ⟨L, b2⟩ 2).bind _ = _
      rw [bnd n3]; dsimp only
      show (piece k L cl r 2 v3 (b2 + 1) x).bind _ = _
      rw [bnd p3]; dsimp only
      rw [w1 (by omega), show p.length + 1 = (p ++ [r]).length by simp]
    rw [step]
    exact ih (p ++ [r]) m b3 x' y' z' (by rw [hl]; simp) (by simp at hm; omega) (by omega) (by omega) hx' hy' hz'
theorem parted_ex (k : Nat) (L : List Int) (cl : Bool) (hk : 1000 ≤ k) : ∃ a b c p N, spykeep3_parted k ⟨L, 0⟩ cl = some (a, b, c, p) ∧ RowsOk N ∧ N.length ≤ 9 ∧ PI cl N a ∧ PI cl N b ∧ PI cl N c := by
  unfold spykeep3_parted
  obtain ⟨N, p, e1, p0, p1, lN, hN, _⟩ := rows_ex k L 0 9 (by decide) (by decide) (by decide) (by decide) (by omega)
  obtain ⟨q, x, y, z, e2, hx, hy, hz⟩ := parted_l0 k L 0 cl N hN (by omega) N [] k p [] [] [] rfl (by omega) (by omega) (by omega) (PI.nil cl) (PI.nil cl) (PI.nil cl)
  rw [show (([] : List S_Row).length : Int) = 0 from rfl] at e2
  refine ⟨z, y, x, q, N, ?_, hN, by omega, hz, hy, hx⟩
  rw [bnd e1]; dsimp only
  rw [bnd e2]
theorem con_merge_l {a b c : List S_Row} (ha : Srt a) (hb : Srt b) (h : Con a b) : Con (mergeL a b) c ↔ Con a c ∧ Con b c := by
  constructor
  · exact fun hc => ⟨fun x hx y hy e => hc x (mem_merge ha hb h (.inl hx)) y hy e, fun x hx y hy e => hc x (mem_merge ha hb h (.inr hx)) y hy e⟩
  · exact fun hc x hx y hy e => (merge_mem a b x hx).elim (fun hx => hc.1 x hx y hy e) (fun hx => hc.2 x hx y hy e)
theorem con_merge_r {a b c : List S_Row} (hb : Srt b) (hc : Srt c) (h : Con b c) : Con a (mergeL b c) ↔ Con a b ∧ Con a c := by
  constructor
  · exact fun hd => ⟨fun x hx y hy e => hd x hx y (mem_merge hb hc h (.inl hy)) e, fun x hx y hy e => hd x hx y (mem_merge hb hc h (.inr hy)) e⟩
  · exact fun hd x hx y hy e => (merge_mem b c y hy).elim (fun hy => hd.1 x hx y hy e) (fun hy => hd.2 x hx y hy e)
theorem or_assoc' (a b c : Option S_Row) : (a.or b).or c = a.or (b.or c) := by cases a <;> rfl
theorem law_ex (l : List Int) (clash : Bool) : ∃ k, spykeep3_CatalogMerges k l clash = some true := by
  refine ⟨5000, ?_⟩
  generalize hk : 5000 = k
  have hk : 5000 ≤ k := by omega
  unfold spykeep3_CatalogMerges
  obtain ⟨a, b, c, p, N, e1, hN, lN, ha, hb, hc⟩ := parted_ex k l clash (by omega)
  have la := ha.len
  have lb := hb.len
  have lc := hc.len
  have sa := ha.ok.1
  have sb := hb.ok.1
  have sc := hc.ok.1
  have fr : ∀ {x : List S_Row}, RowsOk x → ∀ r, r ∈ x → r.Frames.length ≤ 8 := fun h r hr => (h.2 r hr).l2
  have nil8 : ∀ r, r ∈ ([] : List S_Row) → r.Frames.length ≤ 8 := fun r h => by cases h
  rw [bnd e1]; dsimp only
  rw [bnd (merge_con k a a ha.ok ha.ok (by omega) (by omega) (by omega) (Con.self sa))]; dsimp only
  have haa : mergeL a a = a := rows_ext (merge_srt a a sa sa) sa fun i => by
    rw [merge_find i a a sa sa]; cases rfind a i <;> rfl
  rw [haa]
  have hlist := listed_ex k (by omega)
  have heq := eqrows_ex k a (by omega) (by omega) (fr ha.ok)
  -- what the two ways come to
  have hab : ∃ x e, catalog_Merge k a b = some (x, e) ∧ catalog_Merge k b a = some (x, e) ∧ spykeep3_sameRows k x x = some true ∧ (Con a b ∧ x = mergeL a b ∧ e = 0 ∨ ¬ Con a b ∧ x = [] ∧ e = 15) := by
    by_cases h : Con a b
    · have hm : mergeL b a = mergeL a b := rows_ext (merge_srt b a sb sa) (merge_srt a b sa sb) fun i => by
        rw [merge_find i b a sb sa, merge_find i a b sa sb]
        exact or_comm' fun x y hx hy => (con_find h hy hx).symm
      have ll := merge_len a b
      refine ⟨mergeL a b, 0, merge_con k a b ha.ok hb.ok (by omega) (by omega) (by omega) h, ?_, eqrows_ex k _ (by omega) (by omega) (fr (merge_ok ha.ok hb.ok)), .inl ⟨h, rfl, rfl⟩⟩
      rw [← hm]
      exact merge_con k b a hb.ok ha.ok (by omega) (by omega) (by omega) h.symm
    · exact ⟨[], 15, merge_not k a b ha.ok hb.ok (by omega) (by omega) (by omega) h, merge_not k b a hb.ok ha.ok (by omega) (by omega) (by omega) (fun h' => h h'.symm), eqrows_ex k [] (by simp) (by omega) nil8, .inr ⟨h, rfl, rfl⟩⟩
  have hbc : ∃ x e, catalog_Merge k b c = some (x, e) ∧ (Con b c ∧ x = mergeL b c ∧ e = 0 ∨ ¬ Con b c ∧ x = [] ∧ e = 15) := by
    by_cases h : Con b c
    · exact ⟨_, _, merge_con k b c hb.ok hc.ok (by omega) (by omega) (by omega) h, .inl ⟨h, rfl, rfl⟩⟩
    · exact ⟨_, _, merge_not k b c hb.ok hc.ok (by omega) (by omega) (by omega) h, .inr ⟨h, rfl, rfl⟩⟩
  obtain ⟨x, e, m1, m2, hxx, hx⟩ := hab
  obtain ⟨y, f, m3, hy⟩ := hbc
  have hall : ∃ z g, spykeep3_CatalogMerges_1 k x c e = some (z, g) ∧ spykeep3_CatalogMerges_1 k a y f = some (z, g) ∧ spykeep3_sameRows k z z = some true ∧ (clash = false → g = 0) := by
    have sub : clash = false → Con a b ∧ Con a c ∧ Con b c := fun h => ⟨fun u hu v hv => Con.self hN.1 u (ha.same h u hu) v (hb.same h v hv), fun u hu v hv => Con.self hN.1 u (ha.same h u hu) v (hc.same h v hv), fun u hu v hv => Con.self hN.1 u (hb.same h u hu) v (hc.same h v hv)⟩
    have l1 := merge_len a b
    have l2 := merge_len b c
    unfold spykeep3_CatalogMerges_1
    by_cases h : Con a b ∧ Con a c ∧ Con b c
    · obtain ⟨h1, h2, h3⟩ := h
      rcases hx with ⟨_, rfl, rfl⟩ | ⟨h', _⟩
      · rcases hy with ⟨_, rfl, rfl⟩ | ⟨h', _⟩
        · have l3 := merge_len (mergeL a b) c
          have hl := merge_con k (mergeL a b) c (merge_ok ha.ok hb.ok) hc.ok (by omega) (by omega) (by omega) ((con_merge_l sa sb h1).mpr ⟨h2, h3⟩)
          have hr := merge_con k a (mergeL b c) ha.ok (merge_ok hb.ok hc.ok) (by omega) (by omega) (by omega) ((con_merge_r sb sc h3).mpr ⟨h1, h2⟩)
          have he : mergeL a (mergeL b c) = mergeL (mergeL a b) c := rows_ext (merge_srt _ _ sa (merge_srt _ _ sb sc)) (merge_srt _ _ (merge_srt _ _ sa sb) sc) fun i => by
            rw [merge_find i _ _ sa (merge_srt _ _ sb sc), merge_find i _ _ sb sc, merge_find i _ _ (merge_srt _ _ sa sb) sc, merge_find i _ _ sa sb, or_assoc']
          rw [ifn (by decide), ifn (by decide), bnd hl, bnd hr, he]
          exact ⟨_, _, rfl, rfl, eqrows_ex k _ (by omega) (by omega) (fr (merge_ok (merge_ok ha.ok hb.ok) hc.ok)), fun _ => rfl⟩
        · exact absurd h3 h'
      · exact absurd h1 h'
    · refine ⟨[], 15, ?_, ?_, eqrows_ex k [] (by simp) (by omega) nil8, fun h' => absurd (sub h') h⟩
      · rcases hx with ⟨h1, rfl, rfl⟩ | ⟨h1, rfl, rfl⟩
        · rw [ifn (by decide), bnd (merge_not k (mergeL a b) c (merge_ok ha.ok hb.ok) hc.ok (by omega) (by omega) (by omega) (fun h' => h ⟨h1, ((con_merge_l sa sb h1).mp h').1, ((con_merge_l sa sb h1).mp h').2⟩))]
        · rw [ifp (by decide)]
      · rcases hy with ⟨h1, rfl, rfl⟩ | ⟨h1, rfl, rfl⟩
        · rw [ifn (by decide), bnd (merge_not k a (mergeL b c) ha.ok (merge_ok hb.ok hc.ok) (by omega) (by omega) (by omega) (fun h' => h ⟨((con_merge_r sb sc h1).mp h').1, ((con_merge_r sb sc h1).mp h').2, h1⟩))]
        · rw [ifp (by decide)]
  obtain ⟨z, g, g1, g2, hzz, hg⟩ := hall
  rw [bnd m1]; dsimp only
  rw [bnd m2]; dsimp only
  rw [bnd m3]; dsimp only
  rw [bnd g1]; dsimp only
  rw [bnd g2]; dsimp only
  rw [bnd hlist, ifn (by decide), ifn (by decide), bnd heq, ifn (by decide), ifn (by simp), bnd hxx, ifn (by decide), ifn (by simp), bnd hzz, ifn (by decide)]
  by_cases c : clash = true
  · rw [ifp c]
  · rw [ifn c, hg (Bool.eq_false_iff.mpr c)]; rfl

end Go.Sp.M4
