import Derived.Test.YtjibamedpdpofaaFX8
import Derived.KernelRfl
import Derived.Laws.BitsLemmas
import Derived.Laws.Bits64
import Derived.Laws.BitsAllLaws
namespace Go.Sp.X8
open Go Go.Sp
set_option linter.unusedVariables false
theorem bnd {α β : Type} {x : Option α} {g : α → Option β} {v : α} (h : x = some v) : x.bind g = g v := by rw [h]; rfl
theorem ifp {α : Type} {c : Prop} [Decidable c] {x y : α} (h : c) : (if c then x else y) = x := if_pos h
theorem ifn {α : Type} {c : Prop} [Decidable c] {x y : α} (h : ¬ c) : (if c then x else y) = y := if_neg h
theorem rd_mem {α : Type} [Inhabited α] {l : List α} {i : Int} (h0 : 0 ≤ i) (h1 : i < (l.length : Int)) : rd l i ∈ l := by
  obtain ⟨h, e⟩ := rd_lt h0 h1
  rw [e]; exact List.getElem_mem h
theorem wid {x : Int} (h : -9223372036854775808 ≤ x) (h' : x ≤ 9223372036854775807) : w64 x = x := w64_of h h'
theorem wuid {x : Int} (h : 0 ≤ x) (h' : x ≤ 18446744073709551615) : u64 x = x := u64_of h h'
theorem mul_le {a b A B : Int} (h1 : 0 ≤ a) (h2 : a ≤ A) (h3 : 0 ≤ b) (h4 : b ≤ B) : 0 ≤ a * b ∧ a * b ≤ A * B :=
  ⟨Int.mul_nonneg h1 h3, Int.mul_le_mul h2 h4 h3 (by omega)⟩
theorem tdiv_nn {a b : Int} (h : 0 ≤ a) : Int.tdiv a b = a / b := Int.tdiv_eq_ediv_of_nonneg h
theorem tmod_nn {a b : Int} (h : 0 ≤ a) : Int.tmod a b = a % b := Int.tmod_eq_emod_of_nonneg h
def AllIn (l : List Int) (lo hi : Int) : Prop := ∀ x, x ∈ l → lo ≤ x ∧ x ≤ hi
theorem AllIn.nil {lo hi : Int} : AllIn [] lo hi := fun x h => by cases h
theorem AllIn.push {l : List Int} {lo hi x : Int} (h : AllIn l lo hi) (h0 : lo ≤ x) (h1 : x ≤ hi) : AllIn (l ++ [x]) lo hi := by
  intro y hy
  rcases List.mem_append.mp hy with hy | hy
  · exact h y hy
  · simp only [List.mem_singleton] at hy; subst hy; exact ⟨h0, h1⟩
theorem AllIn.rd {l : List Int} {lo hi i : Int} (h : AllIn l lo hi) (h0 : 0 ≤ i) (h1 : i < (l.length : Int)) : lo ≤ rd l i ∧ rd l i ≤ hi := h _ (rd_mem h0 h1)
theorem AllIn.mono {l : List Int} {lo hi lo' hi' : Int} (h : AllIn l lo hi) (h0 : lo' ≤ lo) (h1 : hi ≤ hi') : AllIn l lo' hi' := fun x hx => by have := h x hx; omega
theorem rd_set_eq (l : List Int) (i x : Int) (h0 : 0 ≤ i) (h1 : i < (l.length : Int)) : rd (l.set i.toNat x) i = x := by
  obtain ⟨h, e⟩ := rd_lt (xs := l.set i.toNat x) h0 (by simp; omega)
  rw [e]; simp
theorem rd_set_ne (l : List Int) (i j x : Int) (h0 : 0 ≤ i) (hj : 0 ≤ j) (h1 : j < (l.length : Int)) (hne : j ≠ i) : rd (l.set i.toNat x) j = rd l j := by
  obtain ⟨h, e⟩ := rd_lt (xs := l.set i.toNat x) hj (by simp; omega)
  obtain ⟨h', e'⟩ := rd_lt (xs := l) hj h1
  rw [e, e', List.getElem_set, if_neg (by omega)]
theorem below_ex (k : Nat) (x n : Int) (h1 : 1 ≤ n) (h2 : n ≤ 4611686018427387904) : ∃ v, spymake_Below k x n = some v ∧ 0 ≤ v ∧ v < n := by
  have e1 := Int.tmod_lt_of_pos x (show 0 < n by omega)
  have e2 := Int.lt_tmod_of_pos x (show 0 < n by omega)
  unfold spymake_Below
  rw [ifn (by omega), ifp (by omega)]
  by_cases c : Int.tmod x n < 0
  · rw [ifp c]
    refine ⟨_, rfl, ?_, ?_⟩ <;> rw [wid (by omega) (by omega)] <;> omega
  · rw [ifn c]
    exact ⟨_, rfl, by omega, by omega⟩
theorem next_ex (k : Nat) (L : List Int) (a n : Int) (h1 : 1 ≤ n) (h2 : n ≤ 4611686018427387904) (a0 : 0 ≤ a) (a1 : a ≤ 4611686018427387904) :
    ∃ v, spymake_Stream_Next k ⟨L, a⟩ n = some (v, a + 1) ∧ 0 ≤ v ∧ v < n := by
  unfold spymake_Stream_Next
  dsimp only
  rw [wid (x := a + 1) (by omega) (by omega)]
  by_cases c : (L.length : Int) = 0
  · rw [ifp c]
    obtain ⟨v, hv, v0, v1⟩ := below_ex k (w64 ((a + 1) * 7919)) n h1 h2
    rw [bnd hv]
    exact ⟨v, rfl, v0, v1⟩
  · rw [ifn c, ifp c, show a + 1 - 1 = a by omega, wid (x := a) (by omega) (by omega)]
    have e1 := Int.tmod_lt_of_pos a (show 0 < (L.length : Int) by omega)
    have e2 : 0 ≤ Int.tmod a (L.length : Int) := Int.tmod_nonneg _ a0
    rw [ifp e2, ifp e1]
    obtain ⟨u, hu, _⟩ := below_ex k (rd L (Int.tmod a (L.length : Int))) 1073741824 (by decide) (by decide)
    rw [bnd hu]
    obtain ⟨v, hv, v0, v1⟩ := below_ex k (w64 (u + (w64 ((w64 (Int.tdiv a (L.length : Int))) * (w64 (7919 + (Int.tmod a (L.length : Int)))))))) n h1 h2
    rw [bnd hv]
    exact ⟨v, rfl, v0, v1⟩
theorem range_ex (k : Nat) (L : List Int) (a lo hi : Int) (h1 : lo ≤ hi) (h2 : hi - lo ≤ 1073741824) (h3 : -4611686018427387904 ≤ lo) (h4 : hi ≤ 4611686018427387904) (a0 : 0 ≤ a) (a1 : a ≤ 4611686018427387904) :
    ∃ v, spymake_Stream_Range k ⟨L, a⟩ lo hi = some (v, a + 1) ∧ lo ≤ v ∧ v ≤ hi := by
  unfold spymake_Stream_Range
  rw [ifn (by omega), wid (x := hi - lo) (by omega) (by omega), wid (x := hi - lo + 1) (by omega) (by omega)]
  obtain ⟨v, hv, v0, v1⟩ := next_ex k L a (hi - lo + 1) (by omega) (by omega) a0 a1
  rw [bnd hv]
  dsimp only
  rw [wid (by omega) (by omega)]
  exact ⟨_, rfl, by omega, by omega⟩
structure Good (S : S_Sensor) (most : Int) : Prop where
  W0 : 1 ≤ S.W
  W1 : S.W ≤ most
  H0 : 1 ≤ S.H
  H1 : S.H ≤ most
  lb : (S.Bias.length : Int) = S.W * S.H
  ld : (S.Dark.length : Int) = S.W * S.H
  lf : (S.Flat.length : Int) = S.W * S.H
  B : AllIn S.Bias 0 59
  D : AllIn S.Dark 0 33554432
  F : AllIn S.Flat 0 4096
  F0 : 200 ≤ S.Full
  F1 : S.Full ≤ 1048576
  G0 : 1 ≤ S.Gain
  G1 : S.Gain ≤ 64
  N0 : 0 ≤ S.Noise
  N1 : S.Noise ≤ 64
theorem Good.n {S : S_Sensor} {most : Int} (h : Good S most) (hm : most ≤ 32) : 1 ≤ S.W * S.H ∧ S.W * S.H ≤ 1024 := by
  have h1 := mul_le (a := S.W) (b := S.H) (A := 32) (B := 32) (by have := h.W0; omega) (by have := h.W1; omega) (by have := h.H0; omega) (by have := h.H1; omega)
  have h2 : 1 * 1 ≤ S.W * S.H := Int.mul_le_mul h.W0 h.H0 (by decide) (by have := h.W0; omega)
  omega
theorem push_len {l : List Int} {x : Int} {n : Int} (h : (l.length : Int) = n) : ((l ++ [x]).length : Int) = n + 1 := by simp; omega
theorem sensor_l0 (k : Nat) (L : List Int) (a0_ W H m : Int) (hn0 : 0 ≤ W * H) (hn : W * H ≤ 1024) (hm0 : 0 ≤ m) (hm : m ≤ 2) : ∀ (d n : Nat) (i a : Int) (B D F : List Int), i + d = W * H → 0 ≤ i → d < n → 0 ≤ a → a + 6 * d ≤ 4611686018427387904 →
    (B.length : Int) = i → (D.length : Int) = i → (F.length : Int) = i → AllIn B 0 59 → AllIn D 0 33554432 → AllIn F 0 4096 →
    ∃ a' B' D' F', spymake_Stream_Sensor.l0 k W H ⟨L, a0_⟩ m n i a B D F = some (a', B', D', F') ∧ a ≤ a' ∧ a' ≤ a + 6 * d ∧
      (B'.length : Int) = W * H ∧ (D'.length : Int) = W * H ∧ (F'.length : Int) = W * H ∧ AllIn B' 0 59 ∧ AllIn D' 0 33554432 ∧ AllIn F' 0 4096 := by
  intro d
  induction d with
  | zero =>
    intro n i a B D F hi i0 hd ha0 ha lB lD lF bB bD bF
    obtain ⟨n, rfl⟩ : ∃ j, n = j + 1 := ⟨n - 1, by omega⟩
    rw [spymake_Stream_Sensor.l0, wid (x := W * H) (by omega) (by omega), ifn (by omega)]
    exact ⟨a, B, D, F, rfl, by omega, by omega, by omega, by omega, by omega, bB, bD, bF⟩
  | succ d ih =>
    intro n i a B D F hi i0 hd ha0 ha lB lD lF bB bD bF
    obtain ⟨n, rfl⟩ : ∃ j, n = j + 1 := ⟨n - 1, by omega⟩
    rw [spymake_Stream_Sensor.l0, wid (x := W * H) (by omega) (by omega), ifp (by omega)]
    obtain ⟨v1, h1, p1, q1⟩ := next_ex k L a 60 (by decide) (by decide) (by omega) (by omega)
    rw [bnd h1]; dsimp only
    rw [ifp (by omega), wid (x := m * 16777216) (by omega) (by omega), wid (x := m * 16777216 + 1) (by omega) (by omega)]
    obtain ⟨v2, h2, p2, q2⟩ := next_ex k L (a + 1) (m * 16777216 + 1) (by omega) (by omega) (by omega) (by omega)
    rw [bnd h2]; dsimp only
    rw [ifp (by omega)]
    obtain ⟨v3, h3, p3, q3⟩ := range_ex k L (a + 1 + 1) 2048 4096 (by decide) (by decide) (by decide) (by decide) (by omega) (by omega)
    rw [bnd h3]; dsimp only
    obtain ⟨v4, h4, p4, q4⟩ := next_ex k L (a + 1 + 1 + 1) 12 (by decide) (by decide) (by omega) (by omega)
    rw [bnd h4]; dsimp only
    by_cases c : v4 = 0
    · rw [ifp c]
      obtain ⟨v5, h5, p5, q5⟩ := next_ex k L (a + 1 + 1 + 1 + 1) 512 (by decide) (by decide) (by omega) (by omega)
      rw [bnd h5]; dsimp only
      obtain ⟨v6, h6, p6, q6⟩ := next_ex k L (a + 1 + 1 + 1 + 1 + 1) 2 (by decide) (by decide) (by omega) (by omega)
      rw [bnd h6]; dsimp only
      have hm6 := mul_le (a := v5) (b := v6) (A := 511) (B := 1) p5 (by omega) p6 (by omega)
      rw [ifp (by omega), wid (x := i + 1) (by omega) (by omega), wid (x := v5 * v6) (by omega) (by omega)]
      obtain ⟨a', B', D', F', e, g1, g2, g3, g4, g5, g6, g7, g8⟩ := ih n (i + 1) (a + 1 + 1 + 1 + 1 + 1 + 1) (B ++ [v1]) (D ++ [v2]) (F ++ [v5 * v6]) (by omega) (by omega) (by omega) (by omega) (by omega) (push_len lB) (push_len lD) (push_len lF) (bB.push p1 (by omega)) (bD.push p2 (by omega)) (bF.push (by omega) (by omega))
      exact ⟨a', B', D', F', e, by omega, by omega, g3, g4, g5, g6, g7, g8⟩
    · rw [ifn c, ifp (by omega), wid (x := i + 1) (by omega) (by omega)]
      obtain ⟨a', B', D', F', e, g1, g2, g3, g4, g5, g6, g7, g8⟩ := ih n (i + 1) (a + 1 + 1 + 1 + 1) (B ++ [v1]) (D ++ [v2]) (F ++ [v3]) (by omega) (by omega) (by omega) (by omega) (by omega) (push_len lB) (push_len lD) (push_len lF) (bB.push p1 (by omega)) (bD.push p2 (by omega)) (bF.push (by omega) (by omega))
      exact ⟨a', B', D', F', e, by omega, by omega, g3, g4, g5, g6, g7, g8⟩
theorem sensor_ex (k : Nat) (L : List Int) (a most : Int) (hm0 : 1 ≤ most) (hm : most ≤ 32) (a0 : 0 ≤ a) (a1 : a ≤ 1000000) (hk : 1100 ≤ k) :
    ∃ S a', spymake_Stream_Sensor k ⟨L, a⟩ most = some (S, a') ∧ Good S most ∧ a ≤ a' ∧ a' ≤ a + 7000 := by
  unfold spymake_Stream_Sensor
  dsimp only
  obtain ⟨W, h1, W0, W1⟩ := range_ex k L a 1 most (by omega) (by omega) (by omega) (by omega) (by omega) (by omega)
  rw [bnd h1]; dsimp only
  obtain ⟨H, h2, H0, H1⟩ := range_ex k L (a + 1) 1 most (by omega) (by omega) (by omega) (by omega) (by omega) (by omega)
  rw [bnd h2]; dsimp only
  obtain ⟨u, h3, u0, u1⟩ := range_ex k L (a + 1 + 1) 20000 1048576 (by decide) (by decide) (by decide) (by decide) (by omega) (by omega)
  rw [bnd h3]; dsimp only
  obtain ⟨g, h4, g0, g1⟩ := range_ex k L (a + 1 + 1 + 1) 1 4 (by decide) (by decide) (by decide) (by decide) (by omega) (by omega)
  rw [bnd h4]; dsimp only
  obtain ⟨n, h5, n0, n1⟩ := next_ex k L (a + 1 + 1 + 1 + 1) 4 (by decide) (by decide) (by omega) (by omega)
  rw [bnd h5]; dsimp only
  obtain ⟨z, h6, z0, z1⟩ := next_ex k L (a + 1 + 1 + 1 + 1 + 1) 6 (by decide) (by decide) (by omega) (by omega)
  rw [bnd h6]; dsimp only
  have hWH := mul_le (a := W) (b := H) (A := 32) (B := 32) (by omega) (by omega) (by omega) (by omega)
  have fin : ∀ (a' : Int) (Fu G N : Int), a ≤ a' → a' ≤ a + 20 → 200 ≤ Fu → Fu ≤ 1048576 → 1 ≤ G → G ≤ 64 → 0 ≤ N → N ≤ 64 →
      ∃ S a2, ((spymake_Stream_Next k (⟨L, a'⟩ : S_Stream) 3).bind fun (vt164, vt165) => ((spymake_Stream_Sensor.l0 k W H ⟨L, a⟩ vt164 k 0 vt165 ([] : List Int) ([] : List Int) ([] : List Int)).bind fun (x675, x676, x682, x688) => (some ((⟨W, H, x676, x682, x688, Fu, G, N⟩ : S_Sensor), x675)))) = some (S, a2) ∧
        Good S most ∧ a ≤ a2 ∧ a2 ≤ a + 7000 := by
    intro a' Fu G N b0 b1 c0 c1 d0 d1 e0 e1
    obtain ⟨m, h7, m0, m1⟩ := next_ex k L a' 3 (by decide) (by decide) (by omega) (by omega)
    rw [bnd h7]; dsimp only
    obtain ⟨a2, B, D, F, h8, r1, r2, r3, r4, r5, r6, r7, r8⟩ := sensor_l0 k L a W H m (by omega) (by omega) m0 (by omega) (W * H).toNat k 0 (a' + 1) [] [] [] (by omega) (by omega) (by omega) (by omega) (by omega) rfl rfl rfl .nil .nil .nil
    rw [bnd h8]; dsimp only
    exact ⟨_, _, rfl, ⟨W0, W1, H0, H1, r3, r4, r5, r6, r7, r8, c0, c1, d0, d1, e0, e1⟩, by omega, by omega⟩
  by_cases c : z = 0
  · rw [ifp c]
    obtain ⟨v, hv, v0, v1⟩ := range_ex k L (a + 1 + 1 + 1 + 1 + 1 + 1) 200 5000 (by decide) (by decide) (by decide) (by decide) (by omega) (by omega)
    rw [bnd hv]; dsimp only
    exact fin _ v g n (by omega) (by omega) (by omega) (by omega) (by omega) (by omega) (by omega) (by omega)
  · rw [ifn c]
    by_cases c2 : z = 1
    · rw [ifp c2]
      obtain ⟨v, hv, v0, v1⟩ := range_ex k L (a + 1 + 1 + 1 + 1 + 1 + 1) 1 64 (by decide) (by decide) (by decide) (by decide) (by omega) (by omega)
      rw [bnd hv]; dsimp only
      obtain ⟨x, hx, x0, x1⟩ := next_ex k L (a + 1 + 1 + 1 + 1 + 1 + 1 + 1) 20 (by decide) (by decide) (by omega) (by omega)
      rw [bnd hx]; dsimp only
      exact fin _ u v x (by omega) (by omega) (by omega) (by omega) (by omega) (by omega) (by omega) (by omega)
    · rw [ifn c2]
      exact fin _ u g n (by omega) (by omega) (by omega) (by omega) (by omega) (by omega) (by omega) (by omega)
theorem idx_l0_int (l : List Int) (most : Int) (hl : AllIn l 0 most) (hb : l.length < 4611686018427387904) (k : Nat) : ∀ (d n : Nat) (i : Int), i + d = l.length → 0 ≤ i → d < n →
    slices_IndexFunc_int__sensor_outside_int_1.l0 k l most n i = some (Sum.inr ()) := by
  intro d
  induction d with
  | zero =>
    intro n i hi i0 hd
    obtain ⟨n, rfl⟩ : ∃ j, n = j + 1 := ⟨n - 1, by omega⟩
    rw [slices_IndexFunc_int__sensor_outside_int_1.l0, ifn (by omega)]
  | succ d ih =>
    intro n i hi i0 hd
    obtain ⟨n, rfl⟩ : ∃ j, n = j + 1 := ⟨n - 1, by omega⟩
    have hr := hl.rd i0 (show i < (l.length : Int) by omega)
    have hf : sensor_outside_int_1 k most (rd l i) = some false := by
      unfold sensor_outside_int_1
      rw [ifn (by omega)]
      congr 1
      exact decide_eq_false (by omega)
    rw [slices_IndexFunc_int__sensor_outside_int_1.l0, ifp (by omega), ifp i0, bnd hf, ifn (by decide), wid (by omega) (by omega)]
    exact ih n (i + 1) (by omega) (by omega) (by omega)
theorem outside_int (k : Nat) (l : List Int) (most : Int) (hl : AllIn l 0 most) (hb : l.length < 4611686018427387904) (hk : l.length < k) : sensor_outside_int k l most = some false := by
  have h1 : slices_IndexFunc_int__sensor_outside_int_1 k most l = some (-1) := by
    unfold slices_IndexFunc_int__sensor_outside_int_1
    rw [bnd (idx_l0_int l most hl hb k l.length k 0 (by omega) (by omega) hk)]
    rfl
  have h2 : slices_ContainsFunc_int__sensor_outside_int_1 k most l = some false := by
    unfold slices_ContainsFunc_int__sensor_outside_int_1
    rw [bnd h1]
    rfl
  unfold sensor_outside_int
  rw [bnd h2]
theorem idx_l0_Light (l : List Int) (most : Int) (hl : AllIn l 0 most) (hb : l.length < 4611686018427387904) (k : Nat) : ∀ (d n : Nat) (i : Int), i + d = l.length → 0 ≤ i → d < n →
    slices_IndexFunc_Light__sensor_outside_Light_1.l0 k l most n i = some (Sum.inr ()) := by
  intro d
  induction d with
  | zero =>
    intro n i hi i0 hd
    obtain ⟨n, rfl⟩ : ∃ j, n = j + 1 := ⟨n - 1, by omega⟩
    rw [slices_IndexFunc_Light__sensor_outside_Light_1.l0, ifn (by omega)]
  | succ d ih =>
    intro n i hi i0 hd
    obtain ⟨n, rfl⟩ : ∃ j, n = j + 1 := ⟨n - 1, by omega⟩
    have hr := hl.rd i0 (show i < (l.length : Int) by omega)
    have hf : sensor_outside_Light_1 k most (rd l i) = some false := by
      unfold sensor_outside_Light_1
      rw [ifn (by omega)]
      congr 1
      exact decide_eq_false (by omega)
    rw [slices_IndexFunc_Light__sensor_outside_Light_1.l0, ifp (by omega), ifp i0, bnd hf, ifn (by decide), wid (by omega) (by omega)]
    exact ih n (i + 1) (by omega) (by omega) (by omega)
theorem outside_Light (k : Nat) (l : List Int) (most : Int) (hl : AllIn l 0 most) (hb : l.length < 4611686018427387904) (hk : l.length < k) : sensor_outside_Light k l most = some false := by
  have h1 : slices_IndexFunc_Light__sensor_outside_Light_1 k most l = some (-1) := by
    unfold slices_IndexFunc_Light__sensor_outside_Light_1
    rw [bnd (idx_l0_Light l most hl hb k l.length k 0 (by omega) (by omega) hk)]
    rfl
  have h2 : slices_ContainsFunc_Light__sensor_outside_Light_1 k most l = some false := by
    unfold slices_ContainsFunc_Light__sensor_outside_Light_1
    rw [bnd h1]
    rfl
  unfold sensor_outside_Light
  rw [bnd h2]
theorem check_ok (k : Nat) (S : S_Sensor) (h : Good S 32) (hk : 1100 ≤ k) : sensor_Check k S = some 0 := by
  have hn := h.n (by decide)
  obtain ⟨W0, W1, H0, H1, lb, ld, lf, hB, hD, hF, F0, F1, G0, G1, N0, N1⟩ := h
  unfold sensor_Check
  rw [mn_def, mx_def, wid (x := S.W * S.H) (by omega) (by omega), ifn (by omega), ifn (by omega), ifn (by omega), ifn (by omega), ifn (by omega),
    bnd (outside_int k S.Bias 4096 (hB.mono (by decide) (by decide)) (by omega) (by omega)), ifn (by decide),
    bnd (outside_Light k S.Dark 17592186044416 (hD.mono (by decide) (by decide)) (by omega) (by omega)), ifn (by decide),
    bnd (outside_int k S.Flat 4096 hF (by omega) (by omega)), ifn (by decide), ifn (by omega), ifn (by omega), ifn (by omega), ifn (by omega), ifn (by omega), ifn (by omega)]
theorem Good.wide {S : S_Sensor} {m m' : Int} (h : Good S m) (hm : m ≤ m') : Good S m' := ⟨h.W0, by have := h.W1; omega, h.H0, by have := h.H1; omega, h.lb, h.ld, h.lf, h.B, h.D, h.F, h.F0, h.F1, h.G0, h.G1, h.N0, h.N1⟩
theorem sized_ok (k : Nat) (S : S_Sensor) (n : Int) (h : Good S 32) (hn : n = S.W * S.H) (hk : 1100 ≤ k) : sensor_sized k S n = some 0 := by
  have hb := h.n (by decide)
  unfold sensor_sized
  rw [bnd (check_ok k S h hk), ifn (by decide), wid (by omega) (by omega), ifn (by omega)]
theorem idx_l0_Quanta (l : List Int) (most : Int) (hl : AllIn l 0 most) (hb : l.length < 4611686018427387904) (k : Nat) : ∀ (d n : Nat) (i : Int), i + d = l.length → 0 ≤ i → d < n →
    slices_IndexFunc_Quanta__sensor_outside_Quanta_1.l0 k l most n i = some (Sum.inr ()) := by
  intro d
  induction d with
  | zero =>
    intro n i hi i0 hd
    obtain ⟨n, rfl⟩ : ∃ j, n = j + 1 := ⟨n - 1, by omega⟩
    rw [slices_IndexFunc_Quanta__sensor_outside_Quanta_1.l0, ifn (by omega)]
  | succ d ih =>
    intro n i hi i0 hd
    obtain ⟨n, rfl⟩ : ∃ j, n = j + 1 := ⟨n - 1, by omega⟩
    have hr := hl.rd i0 (show i < (l.length : Int) by omega)
    have hf : sensor_outside_Quanta_1 k most (rd l i) = some false := by
      unfold sensor_outside_Quanta_1
      rw [ifn (by omega)]
      congr 1
      exact decide_eq_false (by omega)
    rw [slices_IndexFunc_Quanta__sensor_outside_Quanta_1.l0, ifp (by omega), ifp i0, bnd hf, ifn (by decide), wid (by omega) (by omega)]
    exact ih n (i + 1) (by omega) (by omega) (by omega)
theorem outside_Quanta (k : Nat) (l : List Int) (most : Int) (hl : AllIn l 0 most) (hb : l.length < 4611686018427387904) (hk : l.length < k) : sensor_outside_Quanta k l most = some false := by
  have h1 : slices_IndexFunc_Quanta__sensor_outside_Quanta_1 k most l = some (-1) := by
    unfold slices_IndexFunc_Quanta__sensor_outside_Quanta_1
    rw [bnd (idx_l0_Quanta l most hl hb k l.length k 0 (by omega) (by omega) hk)]
    rfl
  have h2 : slices_ContainsFunc_Quanta__sensor_outside_Quanta_1 k most l = some false := by
    unfold slices_ContainsFunc_Quanta__sensor_outside_Quanta_1
    rw [bnd h1]
    rfl
  unfold sensor_outside_Quanta
  rw [bnd h2]
theorem filled_l0 (k : Nat) (L : List Int) (b : Int) (S : S_Sensor) (hS : Good S 32) : ∀ (d n : Nat) (q : List Int) (i a : Int), i + d = S.W * S.H → 0 ≤ i → d < n → 0 ≤ a → a + 3 * d ≤ 4611686018427387904 → (q.length : Int) = i → AllIn q 0 4194304 →
    ∃ q' a', spykeep3_filled.l0 k S ⟨L, b⟩ n q i a = some (q', a') ∧ (q'.length : Int) = S.W * S.H ∧ AllIn q' 0 4194304 ∧ a ≤ a' ∧ a' ≤ a + 3 * d := by
  have hn := hS.n (by decide)
  have F0 := hS.F0
  have F1 := hS.F1
  intro d
  induction d with
  | zero =>
    intro n q i a hi i0 hd a0 a1 lq bq
    obtain ⟨n, rfl⟩ : ∃ j, n = j + 1 := ⟨n - 1, by omega⟩
    rw [spykeep3_filled.l0, wid (x := S.W * S.H) (by omega) (by omega), ifn (by omega)]
    exact ⟨q, a, rfl, by omega, bq, by omega, by omega⟩
  | succ d ih =>
    intro n q i a hi i0 hd a0 a1 lq bq
    obtain ⟨n, rfl⟩ : ∃ j, n = j + 1 := ⟨n - 1, by omega⟩
    rw [spykeep3_filled.l0, wid (x := S.W * S.H) (by omega) (by omega), ifp (by omega), wid (x := S.Full + 1) (by omega) (by omega)]
    obtain ⟨v, h1, v0, v1⟩ := next_ex k L a (S.Full + 1) (by omega) (by omega) (by omega) (by omega)
    rw [bnd h1]; dsimp only
    obtain ⟨z, h2, z0, z1⟩ := next_ex k L (a + 1) 5 (by decide) (by decide) (by omega) (by omega)
    rw [bnd h2]; dsimp only
    by_cases c : z = 0
    · rw [ifp c, wid (x := 4 * S.Full) (by omega) (by omega)]
      obtain ⟨u, h3, u0, u1⟩ := next_ex k L (a + 1 + 1) (4 * S.Full) (by omega) (by omega) (by omega) (by omega)
      rw [bnd h3]; dsimp only
      rw [ifp (by omega), wid (x := i + 1) (by omega) (by omega)]
      obtain ⟨q', a', e, g1, g2, g3, g4⟩ := ih n (q ++ [u]) (i + 1) (a + 1 + 1 + 1) (by omega) (by omega) (by omega) (by omega) (by omega) (push_len lq) (bq.push u0 (by omega))
      exact ⟨q', a', e, g1, g2, by omega, by omega⟩
    · rw [ifn c, ifp (by omega), wid (x := i + 1) (by omega) (by omega)]
      obtain ⟨q', a', e, g1, g2, g3, g4⟩ := ih n (q ++ [v]) (i + 1) (a + 1 + 1) (by omega) (by omega) (by omega) (by omega) (by omega) (push_len lq) (bq.push v0 (by omega))
      exact ⟨q', a', e, g1, g2, by omega, by omega⟩
theorem filled_ex (k : Nat) (L : List Int) (a : Int) (S : S_Sensor) (hS : Good S 32) (a0 : 0 ≤ a) (a1 : a ≤ 1000000) (hk : 1100 ≤ k) :
    ∃ q a', spykeep3_filled k ⟨L, a⟩ S = some (q, a') ∧ (q.length : Int) = S.W * S.H ∧ AllIn q 0 4194304 ∧ a ≤ a' ∧ a' ≤ a + 3100 := by
  have hn := hS.n (by decide)
  unfold spykeep3_filled
  dsimp only
  obtain ⟨q, a', e, g1, g2, g3, g4⟩ := filled_l0 k L a S hS (S.W * S.H).toNat k [] 0 a (by omega) (by omega) (by omega) (by omega) (by omega) rfl .nil
  rw [bnd e]
  exact ⟨q, a', rfl, g1, g2, g3, by omega⟩
theorem u64_and32 (x : Int) (h0 : 0 ≤ x) (h1 : x < 18446744073709551616) : Go.bits .and .u64 x 4294967295 = x % 4294967296 := by
  rw [Go.u64_and x 4294967295 h0 h1 (by decide) (by decide)]
  have : x.toNat &&& (4294967295 : Int).toNat = x.toNat % 4294967296 := Nat.and_two_pow_sub_one_eq_mod x.toNat 32
  rw [this]
  omega
theorem shr32 (x : Int) : shr x 32 = x / 4294967296 := shr_def x 32
theorem mul64_eq (k : Nat) (a b : Int) (ha : 0 ≤ a) (ha' : a < 18446744073709551616) (hb : 0 ≤ b) (hb' : b < 18446744073709551616) :
    bits_Mul64 k a b = some (a * b / 18446744073709551616, a * b % 18446744073709551616) := by
  unfold bits_Mul64
  rw [u64_and32 a ha ha', u64_and32 b hb hb', shr32 a, shr32 b]
  have h1 := mul_le (a := a / 4294967296) (b := b / 4294967296) (A := 4294967295) (B := 4294967295) (by omega) (by omega) (by omega) (by omega)
  have h2 := mul_le (a := a / 4294967296) (b := b % 4294967296) (A := 4294967295) (B := 4294967295) (by omega) (by omega) (by omega) (by omega)
  have h3 := mul_le (a := a % 4294967296) (b := b / 4294967296) (A := 4294967295) (B := 4294967295) (by omega) (by omega) (by omega) (by omega)
  have h4 := mul_le (a := a % 4294967296) (b := b % 4294967296) (A := 4294967295) (B := 4294967295) (by omega) (by omega) (by omega) (by omega)
  have e : a * b = (a / 4294967296) * (b / 4294967296) * 18446744073709551616 + ((a / 4294967296) * (b % 4294967296) + (a % 4294967296) * (b / 4294967296)) * 4294967296 + (a % 4294967296) * (b % 4294967296) := by
    have ea : a = a / 4294967296 * 4294967296 + a % 4294967296 := by omega
    have eb : b = b / 4294967296 * 4294967296 + b % 4294967296 := by omega
    generalize a / 4294967296 = x1 at *
    generalize a % 4294967296 = x0 at *
    generalize b / 4294967296 = y1 at *
    generalize b % 4294967296 = y0 at *
    subst ea eb
    grind
  rw [u64_def (a * b), e]
  generalize (a / 4294967296) * (b / 4294967296) = p at *
  generalize (a / 4294967296) * (b % 4294967296) = q at *
  generalize (a % 4294967296) * (b / 4294967296) = r at *
  generalize (a % 4294967296) * (b % 4294967296) = s at *
  rw [wuid (x := s) (by omega) (by omega), wuid (x := p) (by omega) (by omega), wuid (x := q) (by omega) (by omega), wuid (x := r) (by omega) (by omega)]
  rw [shr32 s, wuid (x := q + s / 4294967296) (by omega) (by omega)]
  rw [u64_and32 (q + s / 4294967296) (by omega) (by omega), shr32 (q + s / 4294967296)]
  rw [wuid (x := p + (q + s / 4294967296) / 4294967296) (by omega) (by omega)]
  rw [wuid (x := (q + s / 4294967296) % 4294967296 + r) (by omega) (by omega), shr32]
  rw [wuid (by omega) (by omega)]
  have e1 : p + (q + s / 4294967296) / 4294967296 + ((q + s / 4294967296) % 4294967296 + r) / 4294967296 = (p * 18446744073709551616 + (q + r) * 4294967296 + s) / 18446744073709551616 := by omega
  rw [e1]
theorem column_eq (k : Nat) (h : 40 ≤ k) : spykeep3_column k = some true := by
  obtain ⟨k, rfl⟩ : ∃ j, k = j + 40 := ⟨k - 40, by omega⟩
  kernel_rfl
theorem xor_in (x y : Int) : 0 ≤ Go.bits .xor .u64 x y ∧ Go.bits .xor .u64 x y ≤ 18446744073709551615 := by
  unfold Go.bits
  simp only [IntKind.wrap_u64]
  omega
theorem mix_ex (k : Nat) (s n : Int) : ∃ v, quanta_Mix k s n = some v ∧ 0 ≤ v ∧ v ≤ 18446744073709551615 := ⟨_, rfl, xor_in _ _⟩
theorem qbelow_ex (k : Nat) (x n : Int) (x0 : 0 ≤ x) (x1 : x ≤ 18446744073709551615) (n0 : 1 ≤ n) (n1 : n ≤ 1000) : ∃ v, quanta_Below k x n = some v ∧ 0 ≤ v ∧ v < n := by
  unfold quanta_Below
  rw [ifn (by omega), wuid (x := n) (by omega) (by omega), bnd (mul64_eq k x n x0 (by omega) (by omega) (by omega))]
  dsimp only
  have h0 : 0 ≤ x * n := Int.mul_nonneg x0 (by omega)
  have h1 : x * n ≤ 18446744073709551615 * n := Int.mul_le_mul_of_nonneg_right x1 (by omega)
  rw [wid (by omega) (by omega)]
  exact ⟨_, rfl, by omega, by omega⟩
def want (S : S_Sensor) (q : List Int) (i : Int) : Int := rd S.Bias i + rd q i / S.Gain
theorem want_in (S : S_Sensor) (q : List Int) (i : Int) (hS : Good S 32) (lq : (q.length : Int) = S.W * S.H) (bq : AllIn q 0 4194304) (i0 : 0 ≤ i) (i1 : i < S.W * S.H) :
    0 ≤ want S q i ∧ want S q i ≤ 5000000 ∧ w64 (rd S.Bias i + (w64 (Int.tdiv (rd q i) S.Gain))) = want S q i := by
  have h1 := bq.rd i0 (show i < (q.length : Int) by omega)
  have h2 := hS.B.rd i0 (show i < (S.Bias.length : Int) by have := hS.lb; omega)
  have g0 := hS.G0
  have d0 : 0 ≤ rd q i / S.Gain := Int.ediv_nonneg h1.1 (by omega)
  have d1 : rd q i / S.Gain ≤ rd q i := Int.ediv_le_self _ h1.1
  rw [tdiv_nn h1.1, wid (x := rd q i / S.Gain) (by omega) (by omega), wid (by omega) (by omega)]
  unfold want
  omega
def near (S : S_Sensor) (q : List Int) (i x : Int) : Prop := min 65535 (max 0 (want S q i - S.Noise)) ≤ x ∧ x ≤ min 65535 (want S q i + S.Noise)
theorem read_l0 (k : Nat) (S : S_Sensor) (q : List Int) (seed number : Int) (hS : Good S 32) (lq : (q.length : Int) = S.W * S.H) (bq : AllIn q 0 4194304) : ∀ (d n : Nat) (i : Int) (out : List Int), i + d = S.W * S.H → 0 ≤ i → d < n →
    (out.length : Int) = S.W * S.H → (∀ j, 0 ≤ j → j < i → near S q j (rd out j)) →
    ∃ p, sensor_Read.l0 k q seed number S n out i = some p ∧ (p.length : Int) = S.W * S.H ∧ (∀ j, 0 ≤ j → j < S.W * S.H → near S q j (rd p j)) := by
  have hn := hS.n (by decide)
  have lb := hS.lb
  have N0 := hS.N0
  have N1 := hS.N1
  have G0 := hS.G0
  intro d
  induction d with
  | zero =>
    intro n i out hi i0 hd lo hv
    obtain ⟨n, rfl⟩ : ∃ j, n = j + 1 := ⟨n - 1, by omega⟩
    rw [sensor_Read.l0, ifn (by omega)]
    exact ⟨out, rfl, lo, fun j j0 j1 => hv j j0 (by omega)⟩
  | succ d ih =>
    intro n i out hi i0 hd lo hv
    obtain ⟨n, rfl⟩ : ∃ j, n = j + 1 := ⟨n - 1, by omega⟩
    obtain ⟨w0, w1, we⟩ := want_in S q i hS lq bq i0 (by omega)
    obtain ⟨x, hx, x0, x1⟩ := mix_ex k seed (w64 ((w64 (number * (q.length : Int))) + i))
    rw [sensor_Read.l0, ifp (by omega), ifp i0, bnd hx, wid (x := 2 * S.Noise) (by omega) (by omega), wid (x := 2 * S.Noise + 1) (by omega) (by omega)]
    obtain ⟨v, hv2, v0, v1⟩ := qbelow_ex k x (2 * S.Noise + 1) x0 x1 (by omega) (by omega)
    rw [bnd hv2, ifp (by omega), ifp (by omega), ifp (by omega), we, wid (x := v - S.Noise) (by omega) (by omega), wid (x := want S q i + (v - S.Noise)) (by omega) (by omega), wid (x := i + 1) (by omega) (by omega)]
    refine ih n (i + 1) _ (by omega) (by omega) (by omega) (by rw [List.length_set]; exact lo) ?_
    intro j j0 j1
    by_cases c : j = i
    · subst c
      rw [rd_set_eq _ _ _ i0 (by omega), mn_def, mx_def]
      unfold near
      omega
    · rw [rd_set_ne _ _ _ _ i0 j0 (by omega) c]
      exact hv j j0 (by omega)
theorem read_ok (k : Nat) (S : S_Sensor) (q : List Int) (seed number : Int) (hS : Good S 32) (lq : (q.length : Int) = S.W * S.H) (bq : AllIn q 0 4194304) (hk : 1100 ≤ k) :
    ∃ p, sensor_Read k S seed number q = some (p, 0) ∧ (p.length : Int) = S.W * S.H ∧ (∀ j, 0 ≤ j → j < S.W * S.H → near S q j (rd p j)) := by
  have hn := hS.n (by decide)
  unfold sensor_Read
  rw [bnd (sized_ok k S _ hS lq hk), ifn (by decide), bnd (outside_Quanta k q 4294967296 (bq.mono (by decide) (by decide)) (by omega) (by omega)), ifn (by decide), ifp (by omega), ifp (by omega)]
  obtain ⟨p, e, lp, hp⟩ := read_l0 k S q seed number hS lq bq (S.W * S.H).toNat k 0 (List.replicate ((q.length : Int)).toNat 0) (by omega) (by omega) (by omega) (by simp; omega) (fun j j0 j1 => by omega)
  rw [bnd e]
  exact ⟨p, rfl, lp, hp⟩
theorem near_l0 (k : Nat) (S : S_Sensor) (q p : List Int) (hS : Good S 32) (lq : (q.length : Int) = S.W * S.H) (bq : AllIn q 0 4194304) (lp : (p.length : Int) = S.W * S.H) (hp : ∀ j, 0 ≤ j → j < S.W * S.H → near S q j (rd p j)) :
    ∀ (d n : Nat) (i : Int), i + d = S.W * S.H → 0 ≤ i → d < n → spykeep3_SensorReadsNear.l0 k q S p n i = some (Sum.inr ()) := by
  have hn := hS.n (by decide)
  have lb := hS.lb
  have N0 := hS.N0
  have N1 := hS.N1
  have G0 := hS.G0
  intro d
  induction d with
  | zero =>
    intro n i hi i0 hd
    obtain ⟨n, rfl⟩ : ∃ j, n = j + 1 := ⟨n - 1, by omega⟩
    rw [spykeep3_SensorReadsNear.l0, ifn (by omega)]
  | succ d ih =>
    intro n i hi i0 hd
    obtain ⟨n, rfl⟩ : ∃ j, n = j + 1 := ⟨n - 1, by omega⟩
    obtain ⟨w0, w1, we⟩ := want_in S q i hS lq bq i0 (by omega)
    obtain ⟨n1, n2⟩ := hp i i0 (by omega)
    rw [spykeep3_SensorReadsNear.l0, ifp (by omega), ifp i0, ifp (by omega), ifp (by omega), ifp (by omega), we, wid (x := want S q i - S.Noise) (by omega) (by omega), wid (x := want S q i + S.Noise) (by omega) (by omega), wid (x := i + 1) (by omega) (by omega),
      mn_def, mx_def, mn_def, ifn (by omega), ifn (by omega)]
    exact ih n (i + 1) (by omega) (by omega) (by omega)
theorem law (k : Nat) (L : List Int) (seed number : Int) (hk : 1100 ≤ k) : spykeep3_SensorReadsNear k L seed number = some true := by
  unfold spykeep3_SensorReadsNear
  obtain ⟨S, a, h1, hS', a0, a1⟩ := sensor_ex k L 0 6 (by decide) (by decide) (by decide) (by decide) hk
  have hS : Good S 32 := hS'.wide (by decide)
  have hn := hS.n (by decide)
  rw [bnd h1]; dsimp only
  obtain ⟨q, a', h2, lq, bq, _, _⟩ := filled_ex k L a S hS (by omega) (by omega) hk
  rw [bnd h2]; dsimp only
  obtain ⟨p, h3, lp, hp⟩ := read_ok k S q seed number hS lq bq hk
  rw [bnd h3]; dsimp only
  rw [bnd (column_eq k (by omega)), ifn (by decide), ifn (by decide), ifn (by omega), bnd (near_l0 k S q p hS lq bq lp hp (S.W * S.H).toNat k 0 (by omega) (by omega) (by omega))]
  rfl
theorem law_ex (L : List Int) (seed number : Int) (_ : (Lit.int .u64 seed).wf = true) (_ : (Lit.int .i64 number).wf = true) : ∃ k, spykeep3_SensorReadsNear k L seed number = some true := ⟨1100, law 1100 L seed number (by decide)⟩

end Go.Sp.X8
