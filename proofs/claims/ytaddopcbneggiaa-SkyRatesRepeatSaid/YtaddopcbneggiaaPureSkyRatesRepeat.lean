import Derived.Test.YtaddopcbneggiaaFU7
import Derived.KernelRfl
namespace Go.Sp.U7
open Go Go.Sp
set_option linter.unusedVariables false
theorem bnd {α β : Type} {x : Option α} {g : α → Option β} {v : α} (h : x = some v) : x.bind g = g v := by rw [h]; rfl
theorem ifp {α : Type} {c : Prop} [Decidable c] {x y : α} (h : c) : (if c then x else y) = x := if_pos h
theorem ifn {α : Type} {c : Prop} [Decidable c] {x y : α} (h : ¬ c) : (if c then x else y) = y := if_neg h
theorem rd_mem {α : Type} [Inhabited α] {l : List α} {i : Int} (h0 : 0 ≤ i) (h1 : i < (l.length : Int)) : rd l i ∈ l := by
  obtain ⟨h, e⟩ := rd_lt h0 h1
  rw [e]; exact List.getElem_mem h
theorem wid {x : Int} (h : -9223372036854775808 ≤ x) (h' : x ≤ 9223372036854775807) : w64 x = x := w64_of h h'
theorem wuid {x : Int} (h : 0 ≤ x) (h' : x ≤ 18446744073709551615) : u64 x = x := u64_of h h'
theorem mul_le {a b A B : Int} (h1 : 0 ≤ a) (h2 : a ≤ A) (h3 : 0 ≤ b) (h4 : b ≤ B) : 0 ≤ a * b ∧ a * b ≤ A * B :=
  ⟨Int.mul_nonneg h1 h3, Int.mul_le_mul h2 h4 h3 (by omega)⟩
theorem tdiv_nn {a b : Int} (h : 0 ≤ a) : Int.tdiv a b = a / b := Int.tdiv_eq_ediv_of_nonneg h
theorem tmod_nn {a b : Int} (h : 0 ≤ a) : Int.tmod a b = a % b := Int.tmod_eq_emod_of_nonneg h
def AllIn (l : List Int) (lo hi : Int) : Prop := ∀ x, x ∈ l → lo ≤ x ∧ x ≤ hi
theorem AllIn.nil {lo hi : Int} : AllIn [] lo hi := fun x h => by cases h
theorem AllIn.push {l : List Int} {lo hi x : Int} (h : AllIn l lo hi) (h0 : lo ≤ x) (h1 : x ≤ hi) : AllIn (l ++ [x]) lo hi := by
  intro y hy
  rcases List.mem_append.mp hy with hy | hy
  · exact h y hy
  · simp only [List.mem_singleton] at hy; subst hy; exact ⟨h0, h1⟩
theorem AllIn.rd {l : List Int} {lo hi i : Int} (h : AllIn l lo hi) (h0 : 0 ≤ i) (h1 : i < (l.length : Int)) : lo ≤ rd l i ∧ rd l i ≤ hi := h _ (rd_mem h0 h1)
theorem AllIn.mono {l : List Int} {lo hi lo' hi' : Int} (h : AllIn l lo hi) (h0 : lo' ≤ lo) (h1 : hi ≤ hi') : AllIn l lo' hi' := fun x hx => by have := h x hx; omega
theorem rd_set_eq (l : List Int) (i x : Int) (h0 : 0 ≤ i) (h1 : i < (l.length : Int)) : rd (l.set i.toNat x) i = x := by
  obtain ⟨h, e⟩ := rd_lt (xs := l.set i.toNat x) h0 (by simp; omega)
  rw [e]; simp
theorem rd_set_ne (l : List Int) (i j x : Int) (h0 : 0 ≤ i) (hj : 0 ≤ j) (h1 : j < (l.length : Int)) (hne : j ≠ i) : rd (l.set i.toNat x) j = rd l j := by
  obtain ⟨h, e⟩ := rd_lt (xs := l.set i.toNat x) hj (by simp; omega)
  obtain ⟨h', e'⟩ := rd_lt (xs := l) hj h1
  rw [e, e', List.getElem_set, if_neg (by omega)]
theorem rd_push_old (l : List Int) (x i : Int) (h0 : 0 ≤ i) (h1 : i < (l.length : Int)) : rd (l ++ [x]) i = rd l i := by
  obtain ⟨h, e⟩ := rd_lt (xs := l ++ [x]) h0 (by simp; omega)
  obtain ⟨h', e'⟩ := rd_lt (xs := l) h0 h1
  rw [e, e', List.getElem_append_left h']
theorem rd_push_new (l : List Int) (x i : Int) (h1 : i = (l.length : Int)) : rd (l ++ [x]) i = x := by
  obtain ⟨h, e⟩ := rd_lt (xs := l ++ [x]) (i := i) (by omega) (by simp; omega)
  rw [e, List.getElem_append_right (by omega)]
  simp
theorem below_ex (k : Nat) (x n : Int) (h1 : 1 ≤ n) (h2 : n ≤ 4611686018427387904) : ∃ v, spymake_Below k x n = some v ∧ 0 ≤ v ∧ v < n := by
  have e1 := Int.tmod_lt_of_pos x (show 0 < n by omega)
  have e2 := Int.lt_tmod_of_pos x (show 0 < n by omega)
  unfold spymake_Below
  rw [ifn (by omega), ifp (by omega)]
  by_cases c : Int.tmod x n < 0
  · rw [ifp c]
    refine ⟨_, rfl, ?_, ?_⟩ <;> rw [wid (by omega) (by omega)] <;> omega
  · rw [ifn c]
    exact ⟨_, rfl, by omega, by omega⟩
theorem next_ex (k : Nat) (L : List Int) (a n : Int) (h1 : 1 ≤ n) (h2 : n ≤ 4611686018427387904) (a0 : 0 ≤ a) (a1 : a ≤ 4611686018427387904) :
    ∃ v, spymake_Stream_Next k ⟨L, a⟩ n = some (v, a + 1) ∧ 0 ≤ v ∧ v < n := by
  unfold spymake_Stream_Next
  dsimp only
  rw [wid (x := a + 1) (by omega) (by omega)]
  by_cases c : (L.length : Int) = 0
  · rw [ifp c]
    obtain ⟨v, hv, v0, v1⟩ := below_ex k (w64 ((a + 1) * 7919)) n h1 h2
    rw [bnd hv]
    exact ⟨v, rfl, v0, v1⟩
  · rw [ifn c, ifp c, show a + 1 - 1 = a by omega, wid (x := a) (by omega) (by omega)]
    have e1 := Int.tmod_lt_of_pos a (show 0 < (L.length : Int) by omega)
    have e2 : 0 ≤ Int.tmod a (L.length : Int) := Int.tmod_nonneg _ a0
    rw [ifp e2, ifp e1]
    obtain ⟨u, hu, _⟩ := below_ex k (rd L (Int.tmod a (L.length : Int))) 1073741824 (by decide) (by decide)
    rw [bnd hu]
    obtain ⟨v, hv, v0, v1⟩ := below_ex k (w64 (u + (w64 ((w64 (Int.tdiv a (L.length : Int))) * (w64 (7919 + (Int.tmod a (L.length : Int)))))))) n h1 h2
    rw [bnd hv]
    exact ⟨v, rfl, v0, v1⟩
theorem range_ex (k : Nat) (L : List Int) (a lo hi : Int) (h1 : lo ≤ hi) (h2 : hi - lo ≤ 1073741824) (h3 : -4611686018427387904 ≤ lo) (h4 : hi ≤ 4611686018427387904) (a0 : 0 ≤ a) (a1 : a ≤ 4611686018427387904) :
    ∃ v, spymake_Stream_Range k ⟨L, a⟩ lo hi = some (v, a + 1) ∧ lo ≤ v ∧ v ≤ hi := by
  unfold spymake_Stream_Range
  rw [ifn (by omega), wid (x := hi - lo) (by omega) (by omega), wid (x := hi - lo + 1) (by omega) (by omega)]
  obtain ⟨v, hv, v0, v1⟩ := next_ex k L a (hi - lo + 1) (by omega) (by omega) a0 a1
  rw [bnd hv]
  dsimp only
  rw [wid (by omega) (by omega)]
  exact ⟨_, rfl, by omega, by omega⟩
theorem rd_lo {l : List Int} {lo hi : Int} (h : AllIn l lo hi) {i : Int} (h0 : 0 ≤ i) (h1 : i < (l.length : Int)) : lo ≤ rd l i ∧ rd l i ≤ hi := h.rd h0 h1
theorem rate_ex (k : Nat) (L : List Int) (a : Int) (a0 : 0 ≤ a) (a1 : a ≤ 1000000000) : ∃ v a', spymake_Stream_rate k ⟨L, a⟩ = some (v, a') ∧ a ≤ a' ∧ a' ≤ a + 2 ∧ 0 ≤ v ∧ v ≤ 1048576 := by
  unfold spymake_Stream_rate
  obtain ⟨i, h1, i0, i1⟩ := next_ex k L a 6 (by decide) (by decide) (by omega) (by omega)
  rw [bnd h1]; dsimp only
  have hl : AllIn ([50, 500, 5000, 5000, 40000, 1048577] : List Int) 50 1048577 := by
    intro x hx; simp only [List.mem_cons, List.not_mem_nil, or_false] at hx; omega
  have len : (([50, 500, 5000, 5000, 40000, 1048577] : List Int).length : Int) = 6 := rfl
  have hv := hl.rd i0 (by rw [len]; omega)
  rw [ifp i0, ifp (by rw [len]; omega)]
  generalize rd ([50, 500, 5000, 5000, 40000, 1048577] : List Int) i = v at *
  obtain ⟨u, h2, u0, u1⟩ := next_ex k L (a + 1) v (by omega) (by omega) (by omega) (by omega)
  rw [bnd h2]; dsimp only
  exact ⟨_, _, rfl, by omega, by omega, u0, by omega⟩
theorem pulls_eq (k : Nat) (h : 100 ≤ k) : spykeep3_pulls k = some true := by
  obtain ⟨k, rfl⟩ : ∃ j, k = j + 100 := ⟨k - 100, by omega⟩
  kernel_rfl
/-- A direction of a star: its components are small, and not all 0. -/
def Dir (v : S_Vec) : Prop := (-1048576 ≤ v.X ∧ v.X ≤ 1048576) ∧ (-1048576 ≤ v.Y ∧ v.Y ≤ 1048576) ∧ (-1048576 ≤ v.Z ∧ v.Z ≤ 1048576) ∧ ((v.X == 0) && ((v.Y == 0) && ((v.Z == 0) && true))) = false
theorem vec_ex (k : Nat) (L : List Int) : ∃ v a', spymake_Stream_Vec k ⟨L, 0⟩ = some (v, a') ∧ 0 ≤ a' ∧ a' ≤ 10 ∧ Dir v := by
  unfold spymake_Stream_Vec
  obtain ⟨i, h1, i0, i1⟩ := next_ex k L 0 4 (by decide) (by decide) (by decide) (by decide)
  rw [bnd h1]; dsimp only
  have hl : AllIn ([3, 100, 5000, 1048576] : List Int) 3 1048576 := by
    intro x hx; simp only [List.mem_cons, List.not_mem_nil, or_false] at hx; omega
  have len : (([3, 100, 5000, 1048576] : List Int).length : Int) = 4 := rfl
  have hv := hl.rd i0 (by rw [len]; omega)
  rw [ifp i0, ifp (by rw [len]; omega)]
  generalize rd ([3, 100, 5000, 1048576] : List Int) i = m at *
  rw [wid (x := 0 - m) (by omega) (by omega)]
  obtain ⟨x, e1, x0, x1⟩ := range_ex k L (0 + 1) (0 - m) m (by omega) (by omega) (by omega) (by omega) (by decide) (by decide)
  rw [bnd e1]; dsimp only
  obtain ⟨y, e2, y0, y1⟩ := range_ex k L (0 + 1 + 1) (0 - m) m (by omega) (by omega) (by omega) (by omega) (by decide) (by decide)
  rw [bnd e2]; dsimp only
  obtain ⟨z, e3, z0, z1⟩ := range_ex k L (0 + 1 + 1 + 1) (0 - m) m (by omega) (by omega) (by omega) (by omega) (by decide) (by decide)
  rw [bnd e3]; dsimp only
  by_cases c : ((x == 0) && ((y == 0) && ((z == 0) && true))) = true
  · rw [ifp c]
    refine ⟨_, _, rfl, by decide, by decide, ⟨?_, ?_⟩, ⟨?_, ?_⟩, ⟨?_, ?_⟩, rfl⟩ <;> dsimp only <;> omega
  · rw [ifn c]
    refine ⟨_, _, rfl, by decide, by decide, ⟨?_, ?_⟩, ⟨?_, ?_⟩, ⟨?_, ?_⟩, Bool.eq_false_iff.mpr c⟩ <;> dsimp only <;> omega
/-- The stars that the stream makes. -/
structure SV (x : S_Star) : Prop where
  id : x.ID = 3
  dir : Dir x.At
  r0 : 0 ≤ x.Rate
  r1 : x.Rate ≤ 1048576
  wave : AllIn x.Wave 0 (1048576 - x.Rate)
  len : (x.Wave.length : Int) ≤ 5
  per : ((x.Wave.length : Int) = 0 ∧ x.Period = 0) ∨ (1 ≤ (x.Wave.length : Int) ∧ ∃ q, 1 ≤ q ∧ q ≤ 1073741824 ∧ x.Period = (x.Wave.length : Int) * q)
  f0 : -17592186044416 ≤ x.From
  ft : x.From ≤ x.To
  t1 : x.To ≤ 17592186044416
theorem wave_l0 (k : Nat) (L : List Int) (at0 n r : Int) (n1 : n ≤ 5) (r0 : 0 ≤ r) (r1 : r ≤ 1048576) : ∀ (d m : Nat) (i a : Int) (W : List Int), i + d = n → 0 ≤ i → d < m → 0 ≤ a → a + 2 * d ≤ 1000000 → (W.length : Int) = i → AllIn W 0 (1048576 - r) →
    ∃ a' W', spymake_Stream_Star.l0 k n ⟨L, at0⟩ r m i a W = some (a', W') ∧ a ≤ a' ∧ a' ≤ a + 2 * d ∧ (W'.length : Int) = n ∧ AllIn W' 0 (1048576 - r) := by
  intro d
  induction d with
  | zero =>
    intro m i a W hi i0 hm a0 a1 hW hA
    obtain ⟨m, rfl⟩ : ∃ q, m = q + 1 := ⟨m - 1, by omega⟩
    rw [spymake_Stream_Star.l0, ifn (by omega)]
    exact ⟨a, W, rfl, by omega, by omega, by omega, hA⟩
  | succ d ih =>
    intro m i a W hi i0 hm a0 a1 hW hA
    obtain ⟨m, rfl⟩ : ∃ q, m = q + 1 := ⟨m - 1, by omega⟩
    rw [spymake_Stream_Star.l0, ifp (by omega)]
    obtain ⟨v, b, e, b0, b1, v0, v1⟩ := rate_ex k L a a0 (by omega)
    rw [bnd e]; dsimp only
    have hm1 : 0 ≤ mn v (1048576 - r) ∧ mn v (1048576 - r) ≤ 1048576 - r := by rw [mn_def]; omega
    rw [ifp (by omega), wid (x := i + 1) (by omega) (by omega), wid (x := 1048576 - r) (by omega) (by omega)]
    obtain ⟨a', W', e', g1, g2, g3, g4⟩ := ih m (i + 1) b (W ++ [mn v (1048576 - r)]) (by omega) (by omega) (by omega) (by omega) (by omega) (by rw [List.length_append, List.length_cons, List.length_nil]; omega) (hA.push hm1.1 hm1.2)
    exact ⟨a', W', e', by omega, by omega, g3, g4⟩
theorem star_ex (k : Nat) (L : List Int) (a : Int) (v : S_Vec) (a0 : 0 ≤ a) (a1 : a ≤ 1000) (hv : Dir v) (hk : 10 ≤ k) : ∃ x a', spymake_Stream_Star k ⟨L, a⟩ 3 v = some (x, a') ∧ SV x := by
  unfold spymake_Stream_Star
  obtain ⟨r, b, e1, b0, b1, r0, r1⟩ := rate_ex k L a a0 (by omega)
  rw [bnd e1]; dsimp only
  obtain ⟨c, e2, c0, c1⟩ := next_ex k L b 4 (by decide) (by decide) (by omega) (by omega)
  rw [bnd e2]; dsimp only
  have fin : ∀ (b : Int) (W : List Int) (P : Int), 0 ≤ b → b ≤ 10000 → AllIn W 0 (1048576 - r) → (W.length : Int) ≤ 5 → (((W.length : Int) = 0 ∧ P = 0) ∨ (1 ≤ (W.length : Int) ∧ ∃ q, 1 ≤ q ∧ q ≤ 1073741824 ∧ P = (W.length : Int) * q)) →
      ∃ x a', ((spymake_Stream_Next k (⟨L, b⟩ : S_Stream) 5).bind fun (vt379, vt380) => (if vt379 = 0 then ((spymake_Stream_Range k (⟨L, vt380⟩ : S_Stream) (-20000) 20000).bind fun (vt390, vt391) => ((spymake_Stream_Next k (⟨L, vt391⟩ : S_Stream) 40000).bind fun (vt408, vt409) => (some ((⟨3, v, r, W, P, vt390, w64 (vt390 + vt408)⟩ : S_Star), vt409)))) else (some ((⟨3, v, r, W, P, (-17592186044416), 17592186044416⟩ : S_Star), vt380)))) = some (x, a') ∧ SV x := by
    intro b W P b0 b1 hW hl hP
    obtain ⟨d, e3, d0, d1⟩ := next_ex k L b 5 (by decide) (by decide) (by omega) (by omega)
    rw [bnd e3]; dsimp only
    by_cases g : d = 0
    · rw [ifp g]
      obtain ⟨f, e4, f0, f1⟩ := range_ex k L (b + 1) (-20000) 20000 (by decide) (by decide) (by decide) (by decide) (by omega) (by omega)
      rw [bnd e4]; dsimp only
      obtain ⟨t, e5, t0, t1⟩ := next_ex k L (b + 1 + 1) 40000 (by decide) (by decide) (by omega) (by omega)
      rw [bnd e5]; dsimp only
      rw [wid (x := f + t) (by omega) (by omega)]
      exact ⟨_, _, rfl, rfl, hv, r0, r1, hW, hl, hP, by dsimp only; omega, by dsimp only; omega, by dsimp only; omega⟩
    · rw [ifn g]
      exact ⟨_, _, rfl, rfl, hv, r0, r1, hW, hl, hP, by dsimp only; omega, by dsimp only; omega, by dsimp only; omega⟩
  by_cases g : c = 0
  · rw [ifp g]
    obtain ⟨n, e3, n0, n1⟩ := range_ex k L (b + 1) 1 5 (by decide) (by decide) (by decide) (by decide) (by omega) (by omega)
    rw [bnd e3]; dsimp only
    obtain ⟨b', W, e4, g1, g2, g3, g4⟩ := wave_l0 k L a n r n1 r0 r1 n.toNat k 0 (b + 1 + 1) [] (by omega) (by decide) (by omega) (by omega) (by omega) (by rfl) AllIn.nil
    rw [bnd e4]; dsimp only
    obtain ⟨i, e5, i0, i1⟩ := next_ex k L b' 3 (by decide) (by decide) (by omega) (by omega)
    rw [bnd e5]; dsimp only
    have hl : AllIn ([3, 5000, 1073741824] : List Int) 3 1073741824 := by
      intro x hx; simp only [List.mem_cons, List.not_mem_nil, or_false] at hx; omega
    have len : (([3, 5000, 1073741824] : List Int).length : Int) = 3 := rfl
    have hm := hl.rd i0 (by rw [len]; omega)
    rw [ifp i0, ifp (by rw [len]; omega)]
    generalize rd ([3, 5000, 1073741824] : List Int) i = m at *
    obtain ⟨q, e6, q0, q1⟩ := range_ex k L (b' + 1) 1 m (by omega) (by omega) (by decide) (by omega) (by omega) (by omega)
    rw [bnd e6]; dsimp only [Option.bind_some]
    have hb := mul_le (a := (W.length : Int)) (b := q) (A := 5) (B := 1073741824) (by omega) (by omega) (by omega) (by omega)
    rw [wid (x := (W.length : Int) * q) (by omega) (by omega)]
    exact fin _ W _ (by omega) (by omega) g4 (by omega) (.inr ⟨by omega, q, q0, by omega, rfl⟩)
  · rw [ifn g]
    dsimp only [Option.bind_some]
    exact fin _ [] 0 (by omega) (by omega) AllIn.nil (by decide) (.inl ⟨rfl, rfl⟩)
theorem check_ok (k : Nat) (v : S_Vec) (h : Dir v) : sphere_Check k v = some 0 := by
  obtain ⟨⟨a0, a1⟩, ⟨b0, b1⟩, ⟨c0, c1⟩, d⟩ := h
  unfold sphere_Check
  rw [mx_def, mx_def, mn_def, mn_def, ifn (by omega), ifn (by omega), d, ifn (by decide)]
theorem index_l0 (k : Nat) (x : S_Star) (r0 : 0 ≤ x.Rate) (r1 : x.Rate ≤ 1048576) (W : List Int) (hW : AllIn W 0 (1048576 - x.Rate)) (hl : (W.length : Int) ≤ 5) : ∀ (d m : Nat) (i : Int), i + d = W.length → 0 ≤ i → d < m →
    slices_IndexFunc_Quanta__sky_star_1.l0 k W x m i = some (Sum.inr ()) := by
  intro d
  induction d with
  | zero =>
    intro m i hi i0 hm
    obtain ⟨m, rfl⟩ : ∃ q, m = q + 1 := ⟨m - 1, by omega⟩
    rw [slices_IndexFunc_Quanta__sky_star_1.l0, ifn (by omega)]
  | succ d ih =>
    intro m i hi i0 hm
    obtain ⟨m, rfl⟩ : ∃ q, m = q + 1 := ⟨m - 1, by omega⟩
    have h := hW.rd i0 (by omega)
    have e : sky_star_1 k x (rd W i) = some false := by
      unfold sky_star_1
      rw [ifn (by omega), wid (x := 1048576 - x.Rate) (by omega) (by omega), decide_eq_false (by omega)]
    rw [slices_IndexFunc_Quanta__sky_star_1.l0, ifp (by omega), ifp i0, bnd e, ifn (by decide), wid (x := i + 1) (by omega) (by omega)]
    exact ih m (i + 1) (by omega) (by omega) (by omega)
theorem star_ok (k : Nat) (x : S_Star) (h : SV x) (hk : 10 ≤ k) : sky_star k x = some 0 := by
  have hl := h.len
  have hc : slices_ContainsFunc_Quanta__sky_star_1 k x x.Wave = some false := by
    unfold slices_ContainsFunc_Quanta__sky_star_1 slices_IndexFunc_Quanta__sky_star_1
    rw [bnd (index_l0 k x h.r0 h.r1 x.Wave h.wave h.len x.Wave.length k 0 (by omega) (by decide) (by omega))]
    rfl
  have f0 := h.f0
  have ft := h.ft
  have t1 := h.t1
  unfold sky_star
  rw [bnd (check_ok k x.At h.dir), ifn (by decide), ifn (by omega)]
  rcases h.per with ⟨p0, p1⟩ | ⟨p0, q, q0, q1, p1⟩
  · rw [ifp p0, ifn (fun e => e p1), ifn (by omega), bnd hc, ifn (by decide), mn_def, ifn (by omega), mx_def, ifn (by omega), ifn (by omega)]
  · have hb := mul_le (a := (x.Wave.length : Int)) (b := q) (A := 5) (B := 1073741824) (by omega) (by omega) (by omega) (by omega)
    have hp : 1 ≤ (x.Wave.length : Int) * q := by
      have := Int.mul_le_mul (a := 1) (b := 1) p0 q0 (by decide) (by omega)
      omega
    have hm : Int.tmod x.Period (x.Wave.length : Int) = 0 := by rw [p1]; exact Int.mul_tmod_right _ _
    rw [ifn (by omega), ifp (by omega), ifn (by omega), ifn (by omega), ifp (by omega), ifn (fun e => e hm), bnd hc, ifn (by decide), mn_def, ifn (by omega), mx_def, ifn (by omega), ifn (by omega)]
/-- The light of a star. -/
def sh (x : S_Star) (t : Int) : Int := if t < x.From then 0 else if t ≥ x.To then 0 else if (x.Wave.length : Int) = 0 then x.Rate else x.Rate + rd x.Wave (t % x.Period / (x.Period / (x.Wave.length : Int)))
theorem phase {t P : Int} (hP : 1 ≤ P) : (Int.tmod t P < 0 → Int.tmod t P + P = t % P) ∧ (¬ Int.tmod t P < 0 → Int.tmod t P = t % P) := by
  have h0 := Int.emod_nonneg t (show P ≠ 0 by omega)
  have h1 := Int.emod_lt_of_pos t (show 0 < P by omega)
  have e := @Int.tmod_eq_emod t P
  by_cases c : 0 ≤ t ∨ P ∣ t
  · rw [if_pos c] at e; omega
  · rw [if_neg c] at e; omega
theorem shines_eq (k : Nat) (x : S_Star) (t : Int) (h : SV x) : sky_shines k x t = some (sh x t) ∧ 0 ≤ sh x t ∧ sh x t ≤ 1048576 := by
  have hl := h.len
  have r0 := h.r0
  have r1 := h.r1
  unfold sky_shines sh
  by_cases c1 : t < x.From
  · rw [ifp c1, ifp c1]; exact ⟨rfl, by decide, by decide⟩
  rw [ifn c1, ifn c1]
  by_cases c2 : t ≥ x.To
  · rw [ifp c2, ifp c2]; exact ⟨rfl, by decide, by decide⟩
  rw [ifn c2, ifn c2]
  rcases h.per with ⟨p0, p1⟩ | ⟨p0, q, q0, q1, p1⟩
  · rw [ifp p0, ifp p0]; exact ⟨rfl, r0, r1⟩
  have hb := mul_le (a := (x.Wave.length : Int)) (b := q) (A := 5) (B := 1073741824) (by omega) (by omega) (by omega) (by omega)
  have hp : 1 ≤ (x.Wave.length : Int) * q := by
    have := Int.mul_le_mul (a := 1) (b := 1) p0 q0 (by decide) (by omega)
    omega
  have hd : x.Period / (x.Wave.length : Int) = q := by rw [p1, Int.mul_ediv_cancel_left _ (by omega)]
  have hph := phase (t := t) (P := x.Period) (by omega)
  have h0 := Int.emod_nonneg t (show x.Period ≠ 0 by omega)
  have h1 := Int.emod_lt_of_pos t (show 0 < x.Period by omega)
  have g0 : 0 ≤ t % x.Period / q := Int.ediv_nonneg h0 (by omega)
  have g1 : t % x.Period / q < (x.Wave.length : Int) := Int.ediv_lt_of_lt_mul (by omega) (by rw [← p1]; exact h1)
  have hr := h.wave.rd g0 g1
  rw [ifn (show ¬ (x.Wave.length : Int) = 0 by omega), ifn (show ¬ (x.Wave.length : Int) = 0 by omega), ifp (by omega), tdiv_nn (a := x.Period) (by omega), hd, wid (x := q) (by omega) (by omega)]
  have hq : Int.tdiv (t % x.Period) q = t % x.Period / q := tdiv_nn h0
  have fin : (if ¬ ((x.Wave.length : Int) = 0) then (if ¬ (q = 0) then (if 0 ≤ w64 (Int.tdiv (t % x.Period) q) then (if w64 (Int.tdiv (t % x.Period) q) < (x.Wave.length : Int) then (some (w64 (x.Rate + rd x.Wave (w64 (Int.tdiv (t % x.Period) q))))) else none) else none) else none) else none) = some (x.Rate + rd x.Wave (t % x.Period / q)) := by
    rw [hq, wid (x := t % x.Period / q) (by omega) (by omega), ifp (by omega), ifp (by omega), ifp g0, ifp g1, wid (by omega) (by omega)]
  refine ⟨?_, by omega, by omega⟩
  by_cases c : Int.tmod t x.Period < 0
  · rw [ifp c, hph.1 c, wid (x := t % x.Period) (by omega) (by omega)]
    exact fin
  · rw [ifn c, hph.2 c]
    exact fin
@[reducible] def sky1 (x : S_Star) : S_Sky := ⟨0, ([x] : List S_Star), ([] : List S_Galaxy), ([] : List S_Body), (⟨0, (⟨0, 0, 0⟩ : S_Vec), (⟨0, 0, 0⟩ : S_Vec), 0⟩ : S_Body)⟩
theorem home_eq (k : Nat) (h : 10 ≤ k) : sky_moves k ⟨0, ⟨0, 0, 0⟩, ⟨0, 0, 0⟩, 0⟩ = some true := by
  obtain ⟨k, rfl⟩ : ∃ j, k = j + 10 := ⟨k - 10, by omega⟩
  kernel_rfl
theorem sky_ok (k : Nat) (x : S_Star) (h : SV x) (hk : 10 ≤ k) : sky_Check k (sky1 x) = some 0 := by
  have r0 := h.r0
  have r1 := h.r1
  have hh : sky_head k [] 3 x.Rate = some (0, mput [] 3 true) := by
    unfold sky_head
    rw [ifn (by decide), ifn (by decide), ifn (by decide), ifn (by omega), ifn (by omega)]
  have e : rd [x] 0 = x := rfl
  have n1 : (([x] : List S_Star).length : Int) = 1 := rfl
  have n0 : (([] : List S_Galaxy).length : Int) = 0 := rfl
  have n0' : (([] : List S_Body).length : Int) = 0 := rfl
  have l0 : sky_Check.l0 k (sky1 x) k 0 [] = some (Sum.inr (mput [] 3 true)) := by
    obtain ⟨m, hm⟩ : ∃ j, k = j + 2 := ⟨k - 2, by omega⟩
    suffices hs : ∀ k', k' = m + 2 → sky_Check.l0 k (sky1 x) k' 0 [] = some (Sum.inr (mput [] 3 true)) from hs k hm
    rintro _ rfl
    rw [sky_Check.l0]
    dsimp only [sky1]
    rw [ifp (by rw [n1]; decide), ifp (by decide), e, h.id, bnd hh]
    dsimp only
    rw [ifp rfl, bnd (star_ok k x h hk), ifn (by decide), wid (x := 0 + 1) (by decide) (by decide), sky_Check.l0]
    dsimp only
    rw [ifn (by rw [n1]; decide)]
  have l1 : ∀ m, sky_Check.l1 k (sky1 x) k 0 m = some (Sum.inr m) := by
    intro m
    obtain ⟨j, hj⟩ : ∃ j, k = j + 1 := ⟨k - 1, by omega⟩
    suffices hs : ∀ k', k' = j + 1 → sky_Check.l1 k (sky1 x) k' 0 m = some (Sum.inr m) from hs k hj
    rintro _ rfl
    rw [sky_Check.l1]
    dsimp only [sky1]
    rw [ifn (by first | rw [n0]; decide | rw [n0']; decide)]
  have l2 : ∀ m, sky_Check.l2 k (sky1 x) k 0 m = some (Sum.inr m) := by
    intro m
    obtain ⟨j, hj⟩ : ∃ j, k = j + 1 := ⟨k - 1, by omega⟩
    suffices hs : ∀ k', k' = j + 1 → sky_Check.l2 k (sky1 x) k' 0 m = some (Sum.inr m) from hs k hj
    rintro _ rfl
    rw [sky_Check.l2]
    dsimp only [sky1]
    rw [ifn (by first | rw [n0]; decide | rw [n0']; decide)]
  unfold sky_Check
  rw [bnd l0]
  dsimp only [Sum.elim_inr]
  rw [bnd (l1 _)]
  dsimp only [Sum.elim_inr]
  rw [bnd (l2 _)]
  dsimp only [Sum.elim_inr, sky1]
  rw [ifn (by rw [n1, n0, n0']; decide), ifn (by decide), ifn (by decide), ifn (fun e => e rfl), ifn (fun e => e rfl), bnd (home_eq k hk), ifn (by decide)]
theorem rate_eq (k : Nat) (x : S_Star) (t : Int) (h : SV x) (t0 : -17592186044416 ≤ t) (t1 : t ≤ 17592186044416) (hk : 10 ≤ k) : sky_Rate k (sky1 x) 3 t = some (sh x t, 0) := by
  have ht : sky_timed k (sky1 x) t = some 0 := by
    unfold sky_timed
    rw [bnd (sky_ok k x h hk), ifn (by decide), ifn (by omega), ifn (by omega)]
  have e : rd [x] 0 = x := rfl
  have n1 : (([x] : List S_Star).length : Int) = 1 := rfl
  have n0 : (([] : List S_Galaxy).length : Int) = 0 := rfl
  have n0' : (([] : List S_Body).length : Int) = 0 := rfl
  have l0 : sky_Rate.l0 k (sky1 x) 3 t k 0 = some (Sum.inl (sh x t, 0)) := by
    obtain ⟨m, hm⟩ : ∃ j, k = j + 2 := ⟨k - 2, by omega⟩
    suffices hs : ∀ k', k' = m + 2 → sky_Rate.l0 k (sky1 x) 3 t k' 0 = some (Sum.inl (sh x t, 0)) from hs k hm
    rintro _ rfl
    rw [sky_Rate.l0]
    dsimp only [sky1]
    rw [ifp (by rw [n1]; decide), ifp (by decide), e, ifp h.id, bnd (shines_eq k x t h).1]
  unfold sky_Rate
  rw [bnd ht, ifn (by decide), bnd l0]
  rfl
theorem law (k : Nat) (l : List Int) (t turns : Int) (hk : 200 ≤ k) : spykeep3_SkyRatesRepeat k l t turns = some true := by
  obtain ⟨v, a, e1, a0, a1, hv⟩ := vec_ex k l
  obtain ⟨x, b, e2, hx⟩ := star_ex k l a v a0 (by omega) hv (by omega)
  have s1 := Int.tmod_lt_of_pos t (show (0 : Int) < 1099511627776 by decide)
  have s2 := Int.lt_tmod_of_pos t (show (0 : Int) < 1099511627776 by decide)
  unfold spykeep3_SkyRatesRepeat
  rw [bnd e1]; dsimp only
  rw [bnd e2]; dsimp only
  generalize Int.tmod t 1099511627776 = s at *
  have hs : sky_Rate k ⟨0, [x], [], [], ⟨0, ⟨0, 0, 0⟩, ⟨0, 0, 0⟩, 0⟩⟩ 3 s = some (sh x s, 0) := rate_eq k x s hx (by omega) (by omega) (by omega)
  obtain ⟨_, h0, h1⟩ := shines_eq k x s hx
  rw [bnd hs]; dsimp only
  rw [bnd (pulls_eq k (by omega)), ifn (by decide), ifn (by decide), ifn (by omega), ifn (by omega)]
  have z1 : s < x.From → sh x s = 0 := fun c => by unfold sh; rw [ifp c]
  have z2 : ∀ u, x.From ≤ x.To → u ≥ x.To → sh x u = 0 := fun u f c => by unfold sh; rw [ifn (by omega), ifp c]
  by_cases c1 : s < x.From
  · rw [ifp c1, z1 c1]; rfl
  rw [ifn c1]
  by_cases c2 : s ≥ x.To
  · rw [ifp c2, z2 s hx.ft c2]; rfl
  rw [ifn c2]
  obtain ⟨m, e3, m0, m1⟩ := below_ex k turns 100 (by decide) (by decide)
  rw [bnd e3]
  have hP : 0 ≤ x.Period ∧ x.Period ≤ 5368709120 := by
    rcases hx.per with ⟨_, p1⟩ | ⟨p0, q, q0, q1, p1⟩
    · omega
    · have hb := mul_le (a := (x.Wave.length : Int)) (b := q) (A := 5) (B := 1073741824) (by omega) hx.len (by omega) (by omega)
      omega
  have hmP := mul_le (a := m) (b := x.Period) (A := 100) (B := 5368709120) m0 (by omega) hP.1 hP.2
  rw [wid (x := m * x.Period) (by omega) (by omega), wid (x := s + m * x.Period) (by omega) (by omega)]
  have hu : sky_Rate k ⟨0, [x], [], [], ⟨0, ⟨0, 0, 0⟩, ⟨0, 0, 0⟩, 0⟩⟩ 3 (s + m * x.Period) = some (sh x (s + m * x.Period), 0) := rate_eq k x _ hx (by omega) (by omega) (by omega)
  rw [bnd hu]; dsimp only
  rw [ifp rfl]
  by_cases c3 : s + m * x.Period ≥ x.To
  · rw [z2 _ hx.ft c3]
    by_cases c4 : 0 = sh x s
    · rw [ifp c4]
    · rw [ifn c4, ifp c3]; rfl
  · have e : sh x (s + m * x.Period) = sh x s := by
      unfold sh
      rw [ifn (by omega), ifn c3, ifn c1, ifn c2, Int.add_mul_emod_self_right]
    rw [ifp e]
theorem law_ex (l : List Int) (t turns : Int) (_ : (Lit.int .i64 t).wf = true) (_ : (Lit.int .i64 turns).wf = true) : ∃ k, spykeep3_SkyRatesRepeat k l t turns = some true := ⟨300, law 300 l t turns (by decide)⟩

end Go.Sp.U7
