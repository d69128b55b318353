import Derived.Test.YtpbpeiofebgjiaaGreatDoorFK3
import Derived.KernelRfl
import Derived.Laws.BitsLemmas
import Derived.Laws.Bits64
import Derived.Laws.BitsAllLaws
namespace Go.Sp.K3
open Go Go.Sp
set_option linter.unusedVariables false
theorem bnd {α β : Type} {x : Option α} {g : α → Option β} {v : α} (h : x = some v) : x.bind g = g v := by rw [h]; rfl
theorem ifp {α : Type} {c : Prop} [Decidable c] {x y : α} (h : c) : (if c then x else y) = x := if_pos h
theorem ifn {α : Type} {c : Prop} [Decidable c] {x y : α} (h : ¬ c) : (if c then x else y) = y := if_neg h
theorem rd_mem {α : Type} [Inhabited α] {l : List α} {i : Int} (h0 : 0 ≤ i) (h1 : i < (l.length : Int)) : rd l i ∈ l := by
  obtain ⟨h, e⟩ := rd_lt h0 h1
  rw [e]; exact List.getElem_mem h
theorem wid {x : Int} (h : -9223372036854775808 ≤ x) (h' : x ≤ 9223372036854775807) : w64 x = x := w64_of h h'
theorem wuid {x : Int} (h : 0 ≤ x) (h' : x ≤ 18446744073709551615) : u64 x = x := u64_of h h'
theorem mul_le {a b A B : Int} (h1 : 0 ≤ a) (h2 : a ≤ A) (h3 : 0 ≤ b) (h4 : b ≤ B) : 0 ≤ a * b ∧ a * b ≤ A * B :=
  ⟨Int.mul_nonneg h1 h3, Int.mul_le_mul h2 h4 h3 (by omega)⟩
theorem tdiv_nn {a b : Int} (h : 0 ≤ a) : Int.tdiv a b = a / b := Int.tdiv_eq_ediv_of_nonneg h
theorem tmod_nn {a b : Int} (h : 0 ≤ a) : Int.tmod a b = a % b := Int.tmod_eq_emod_of_nonneg h
def AllIn (l : List Int) (lo hi : Int) : Prop := ∀ x, x ∈ l → lo ≤ x ∧ x ≤ hi
theorem AllIn.nil {lo hi : Int} : AllIn [] lo hi := fun x h => by cases h
theorem AllIn.push {l : List Int} {lo hi x : Int} (h : AllIn l lo hi) (h0 : lo ≤ x) (h1 : x ≤ hi) : AllIn (l ++ [x]) lo hi := by
  intro y hy
  rcases List.mem_append.mp hy with hy | hy
  · exact h y hy
  · simp only [List.mem_singleton] at hy; subst hy; exact ⟨h0, h1⟩
theorem AllIn.rd {l : List Int} {lo hi i : Int} (h : AllIn l lo hi) (h0 : 0 ≤ i) (h1 : i < (l.length : Int)) : lo ≤ rd l i ∧ rd l i ≤ hi := h _ (rd_mem h0 h1)
theorem AllIn.mono {l : List Int} {lo hi lo' hi' : Int} (h : AllIn l lo hi) (h0 : lo' ≤ lo) (h1 : hi ≤ hi') : AllIn l lo' hi' := fun x hx => by have := h x hx; omega
theorem rd_set_eq (l : List Int) (i x : Int) (h0 : 0 ≤ i) (h1 : i < (l.length : Int)) : rd (l.set i.toNat x) i = x := by
  obtain ⟨h, e⟩ := rd_lt (xs := l.set i.toNat x) h0 (by simp; omega)
  rw [e]; simp
theorem rd_set_ne (l : List Int) (i j x : Int) (h0 : 0 ≤ i) (hj : 0 ≤ j) (h1 : j < (l.length : Int)) (hne : j ≠ i) : rd (l.set i.toNat x) j = rd l j := by
  obtain ⟨h, e⟩ := rd_lt (xs := l.set i.toNat x) hj (by simp; omega)
  obtain ⟨h', e'⟩ := rd_lt (xs := l) hj h1
  rw [e, e', List.getElem_set, if_neg (by omega)]
theorem rd_push_old (l : List Int) (x i : Int) (h0 : 0 ≤ i) (h1 : i < (l.length : Int)) : rd (l ++ [x]) i = rd l i := by
  obtain ⟨h, e⟩ := rd_lt (xs := l ++ [x]) h0 (by simp; omega)
  obtain ⟨h', e'⟩ := rd_lt (xs := l) h0 h1
  rw [e, e', List.getElem_append_left h']
theorem rd_push_new (l : List Int) (x i : Int) (h1 : i = (l.length : Int)) : rd (l ++ [x]) i = x := by
  obtain ⟨h, e⟩ := rd_lt (xs := l ++ [x]) (i := i) (by omega) (by simp; omega)
  rw [e, List.getElem_append_right (by omega)]
  simp
theorem below_ex (k : Nat) (x n : Int) (h1 : 1 ≤ n) (h2 : n ≤ 4611686018427387904) : ∃ v, spymake_Below k x n = some v ∧ 0 ≤ v ∧ v < n := by
  have e1 := Int.tmod_lt_of_pos x (show 0 < n by omega)
  have e2 := Int.lt_tmod_of_pos x (show 0 < n by omega)
  unfold spymake_Below
  rw [ifn (by omega), ifp (by omega)]
  by_cases c : Int.tmod x n < 0
  · rw [ifp c]
    refine ⟨_, rfl, ?_, ?_⟩ <;> rw [wid (by omega) (by omega)] <;> omega
  · rw [ifn c]
    exact ⟨_, rfl, by omega, by omega⟩
theorem next_ex (k : Nat) (L : List Int) (a n : Int) (h1 : 1 ≤ n) (h2 : n ≤ 4611686018427387904) (a0 : 0 ≤ a) (a1 : a ≤ 4611686018427387904) :
    ∃ v, spymake_Stream_Next k ⟨L, a⟩ n = some (v, a + 1) ∧ 0 ≤ v ∧ v < n := by
  unfold spymake_Stream_Next
  dsimp only
  rw [wid (x := a + 1) (by omega) (by omega)]
  by_cases c : (L.length : Int) = 0
  · rw [ifp c]
    obtain ⟨v, hv, v0, v1⟩ := below_ex k (w64 ((a + 1) * 7919)) n h1 h2
    rw [bnd hv]
    exact ⟨v, rfl, v0, v1⟩
  · rw [ifn c, ifp c, show a + 1 - 1 = a by omega, wid (x := a) (by omega) (by omega)]
    have e1 := Int.tmod_lt_of_pos a (show 0 < (L.length : Int) by omega)
    have e2 : 0 ≤ Int.tmod a (L.length : Int) := Int.tmod_nonneg _ a0
    rw [ifp e2, ifp e1]
    obtain ⟨u, hu, _⟩ := below_ex k (rd L (Int.tmod a (L.length : Int))) 1073741824 (by decide) (by decide)
    rw [bnd hu]
    obtain ⟨v, hv, v0, v1⟩ := below_ex k (w64 (u + (w64 ((w64 (Int.tdiv a (L.length : Int))) * (w64 (7919 + (Int.tmod a (L.length : Int)))))))) n h1 h2
    rw [bnd hv]
    exact ⟨v, rfl, v0, v1⟩
theorem range_ex (k : Nat) (L : List Int) (a lo hi : Int) (h1 : lo ≤ hi) (h2 : hi - lo ≤ 1073741824) (h3 : -4611686018427387904 ≤ lo) (h4 : hi ≤ 4611686018427387904) (a0 : 0 ≤ a) (a1 : a ≤ 4611686018427387904) :
    ∃ v, spymake_Stream_Range k ⟨L, a⟩ lo hi = some (v, a + 1) ∧ lo ≤ v ∧ v ≤ hi := by
  unfold spymake_Stream_Range
  rw [ifn (by omega), wid (x := hi - lo) (by omega) (by omega), wid (x := hi - lo + 1) (by omega) (by omega)]
  obtain ⟨v, hv, v0, v1⟩ := next_ex k L a (hi - lo + 1) (by omega) (by omega) a0 a1
  rw [bnd hv]
  dsimp only
  rw [wid (by omega) (by omega)]
  exact ⟨_, rfl, by omega, by omega⟩
structure Good (S : S_Sensor) (most : Int) : Prop where
  W0 : 1 ≤ S.W
  W1 : S.W ≤ most
  H0 : 1 ≤ S.H
  H1 : S.H ≤ most
  lb : (S.Bias.length : Int) = S.W * S.H
  ld : (S.Dark.length : Int) = S.W * S.H
  lf : (S.Flat.length : Int) = S.W * S.H
  B : AllIn S.Bias 0 59
  D : AllIn S.Dark 0 33554432
  F : AllIn S.Flat 0 4096
  F0 : 200 ≤ S.Full
  F1 : S.Full ≤ 1048576
  G0 : 1 ≤ S.Gain
  G1 : S.Gain ≤ 64
  N0 : 0 ≤ S.Noise
  N1 : S.Noise ≤ 64
theorem Good.n {S : S_Sensor} {most : Int} (h : Good S most) (hm : most ≤ 32) : 1 ≤ S.W * S.H ∧ S.W * S.H ≤ 1024 := by
  have h1 := mul_le (a := S.W) (b := S.H) (A := 32) (B := 32) (by have := h.W0; omega) (by have := h.W1; omega) (by have := h.H0; omega) (by have := h.H1; omega)
  have h2 : 1 * 1 ≤ S.W * S.H := Int.mul_le_mul h.W0 h.H0 (by decide) (by have := h.W0; omega)
  omega
theorem push_len {l : List Int} {x : Int} {n : Int} (h : (l.length : Int) = n) : ((l ++ [x]).length : Int) = n + 1 := by simp; omega
theorem sensor_l0 (k : Nat) (L : List Int) (a0_ W H m : Int) (hn0 : 0 ≤ W * H) (hn : W * H ≤ 1024) (hm0 : 0 ≤ m) (hm : m ≤ 2) : ∀ (d n : Nat) (i a : Int) (B D F : List Int), i + d = W * H → 0 ≤ i → d < n → 0 ≤ a → a + 6 * d ≤ 4611686018427387904 →
    (B.length : Int) = i → (D.length : Int) = i → (F.length : Int) = i → AllIn B 0 59 → AllIn D 0 33554432 → AllIn F 0 4096 →
    ∃ a' B' D' F', spymake_Stream_Sensor.l0 k W H ⟨L, a0_⟩ m n i a B D F = some (a', B', D', F') ∧ a ≤ a' ∧ a' ≤ a + 6 * d ∧
      (B'.length : Int) = W * H ∧ (D'.length : Int) = W * H ∧ (F'.length : Int) = W * H ∧ AllIn B' 0 59 ∧ AllIn D' 0 33554432 ∧ AllIn F' 0 4096 := by
  intro d
  induction d with
  | zero =>
    intro n i a B D F hi i0 hd ha0 ha lB lD lF bB bD bF
    obtain ⟨n, rfl⟩ : ∃ j, n = j + 1 := ⟨n - 1, by omega⟩
    rw [spymake_Stream_Sensor.l0, wid (x := W * H) (by omega) (by omega), ifn (by omega)]
    exact ⟨a, B, D, F, rfl, by omega, by omega, by omega, by omega, by omega, bB, bD, bF⟩
  | succ d ih =>
    intro n i a B D F hi i0 hd ha0 ha lB lD lF bB bD bF
    obtain ⟨n, rfl⟩ : ∃ j, n = j + 1 := ⟨n - 1, by omega⟩
    rw [spymake_Stream_Sensor.l0, wid (x := W * H) (by omega) (by omega), ifp (by omega)]
    obtain ⟨v1, h1, p1, q1⟩ := next_ex k L a 60 (by decide) (by decide) (by omega) (by omega)
    rw [bnd h1]; dsimp only
    rw [ifp (by omega), wid (x := m * 16777216) (by omega) (by omega), wid (x := m * 16777216 + 1) (by omega) (by omega)]
    obtain ⟨v2, h2, p2, q2⟩ := next_ex k L (a + 1) (m * 16777216 + 1) (by omega) (by omega) (by omega) (by omega)
    rw [bnd h2]; dsimp only
    rw [ifp (by omega)]
    obtain ⟨v3, h3, p3, q3⟩ := range_ex k L (a + 1 + 1) 2048 4096 (by decide) (by decide) (by decide) (by decide) (by omega) (by omega)
    rw [bnd h3]; dsimp only
    obtain ⟨v4, h4, p4, q4⟩ := next_ex k L (a + 1 + 1 + 1) 12 (by decide) (by decide) (by omega) (by omega)
    rw [bnd h4]; dsimp only
    by_cases c : v4 = 0
    · rw [ifp c]
      obtain ⟨v5, h5, p5, q5⟩ := next_ex k L (a + 1 + 1 + 1 + 1) 512 (by decide) (by decide) (by omega) (by omega)
      rw [bnd h5]; dsimp only
      obtain ⟨v6, h6, p6, q6⟩ := next_ex k L (a + 1 + 1 + 1 + 1 + 1) 2 (by decide) (by decide) (by omega) (by omega)
      rw [bnd h6]; dsimp only
      have hm6 := mul_le (a := v5) (b := v6) (A := 511) (B := 1) p5 (by omega) p6 (by omega)
      rw [ifp (by omega), wid (x := i + 1) (by omega) (by omega), wid (x := v5 * v6) (by omega) (by omega)]
      obtain ⟨a', B', D', F', e, g1, g2, g3, g4, g5, g6, g7, g8⟩ := ih n (i + 1) (a + 1 + 1 + 1 + 1 + 1 + 1) (B ++ [v1]) (D ++ [v2]) (F ++ [v5 * v6]) (by omega) (by omega) (by omega) (by omega) (by omega) (push_len lB) (push_len lD) (push_len lF) (bB.push p1 (by omega)) (bD.push p2 (by omega)) (bF.push (by omega) (by omega))
      exact ⟨a', B', D', F', e, by omega, by omega, g3, g4, g5, g6, g7, g8⟩
    · rw [ifn c, ifp (by omega), wid (x := i + 1) (by omega) (by omega)]
      obtain ⟨a', B', D', F', e, g1, g2, g3, g4, g5, g6, g7, g8⟩ := ih n (i + 1) (a + 1 + 1 + 1 + 1) (B ++ [v1]) (D ++ [v2]) (F ++ [v3]) (by omega) (by omega) (by omega) (by omega) (by omega) (push_len lB) (push_len lD) (push_len lF) (bB.push p1 (by omega)) (bD.push p2 (by omega)) (bF.push (by omega) (by omega))
      exact ⟨a', B', D', F', e, by omega, by omega, g3, g4, g5, g6, g7, g8⟩
theorem sensor_ex (k : Nat) (L : List Int) (a most : Int) (hm0 : 1 ≤ most) (hm : most ≤ 32) (a0 : 0 ≤ a) (a1 : a ≤ 1000000) (hk : 1100 ≤ k) :
    ∃ S a', spymake_Stream_Sensor k ⟨L, a⟩ most = some (S, a') ∧ Good S most ∧ a ≤ a' ∧ a' ≤ a + 7000 := by
  unfold spymake_Stream_Sensor
  dsimp only
  obtain ⟨W, h1, W0, W1⟩ := range_ex k L a 1 most (by omega) (by omega) (by omega) (by omega) (by omega) (by omega)
  rw [bnd h1]; dsimp only
  obtain ⟨H, h2, H0, H1⟩ := range_ex k L (a + 1) 1 most (by omega) (by omega) (by omega) (by omega) (by omega) (by omega)
  rw [bnd h2]; dsimp only
  obtain ⟨u, h3, u0, u1⟩ := range_ex k L (a + 1 + 1) 20000 1048576 (by decide) (by decide) (by decide) (by decide) (by omega) (by omega)
  rw [bnd h3]; dsimp only
  obtain ⟨g, h4, g0, g1⟩ := range_ex k L (a + 1 + 1 + 1) 1 4 (by decide) (by decide) (by decide) (by decide) (by omega) (by omega)
  rw [bnd h4]; dsimp only
  obtain ⟨n, h5, n0, n1⟩ := next_ex k L (a + 1 + 1 + 1 + 1) 4 (by decide) (by decide) (by omega) (by omega)
  rw [bnd h5]; dsimp only
  obtain ⟨z, h6, z0, z1⟩ := next_ex k L (a + 1 + 1 + 1 + 1 + 1) 6 (by decide) (by decide) (by omega) (by omega)
  rw [bnd h6]; dsimp only
  have hWH := mul_le (a := W) (b := H) (A := 32) (B := 32) (by omega) (by omega) (by omega) (by omega)
  have fin : ∀ (a' : Int) (Fu G N : Int), a ≤ a' → a' ≤ a + 20 → 200 ≤ Fu → Fu ≤ 1048576 → 1 ≤ G → G ≤ 64 → 0 ≤ N → N ≤ 64 →
      ∃ S a2, ((spymake_Stream_Next k (⟨L, a'⟩ : S_Stream) 3).bind fun (vt164, vt165) => ((spymake_Stream_Sensor.l0 k W H ⟨L, a⟩ vt164 k 0 vt165 ([] : List Int) ([] : List Int) ([] : List Int)).bind fun (x675, x676, x682, x688) => (some ((⟨W, H, x676, x682, x688, Fu, G, N⟩ : S_Sensor), x675)))) = some (S, a2) ∧
        Good S most ∧ a ≤ a2 ∧ a2 ≤ a + 7000 := by
    intro a' Fu G N b0 b1 c0 c1 d0 d1 e0 e1
    obtain ⟨m, h7, m0, m1⟩ := next_ex k L a' 3 (by decide) (by decide) (by omega) (by omega)
    rw [bnd h7]; dsimp only
    obtain ⟨a2, B, D, F, h8, r1, r2, r3, r4, r5, r6, r7, r8⟩ := sensor_l0 k L a W H m (by omega) (by omega) m0 (by omega) (W * H).toNat k 0 (a' + 1) [] [] [] (by omega) (by omega) (by omega) (by omega) (by omega) rfl rfl rfl .nil .nil .nil
    rw [bnd h8]; dsimp only
    exact ⟨_, _, rfl, ⟨W0, W1, H0, H1, r3, r4, r5, r6, r7, r8, c0, c1, d0, d1, e0, e1⟩, by omega, by omega⟩
  by_cases c : z = 0
  · rw [ifp c]
    obtain ⟨v, hv, v0, v1⟩ := range_ex k L (a + 1 + 1 + 1 + 1 + 1 + 1) 200 5000 (by decide) (by decide) (by decide) (by decide) (by omega) (by omega)
    rw [bnd hv]; dsimp only
    exact fin _ v g n (by omega) (by omega) (by omega) (by omega) (by omega) (by omega) (by omega) (by omega)
  · rw [ifn c]
    by_cases c2 : z = 1
    · rw [ifp c2]
      obtain ⟨v, hv, v0, v1⟩ := range_ex k L (a + 1 + 1 + 1 + 1 + 1 + 1) 1 64 (by decide) (by decide) (by decide) (by decide) (by omega) (by omega)
      rw [bnd hv]; dsimp only
      obtain ⟨x, hx, x0, x1⟩ := next_ex k L (a + 1 + 1 + 1 + 1 + 1 + 1 + 1) 20 (by decide) (by decide) (by omega) (by omega)
      rw [bnd hx]; dsimp only
      exact fin _ u v x (by omega) (by omega) (by omega) (by omega) (by omega) (by omega) (by omega) (by omega)
    · rw [ifn c2]
      exact fin _ u g n (by omega) (by omega) (by omega) (by omega) (by omega) (by omega) (by omega) (by omega)
theorem idx_l0_int (l : List Int) (most : Int) (hl : AllIn l 0 most) (hb : l.length < 4611686018427387904) (k : Nat) : ∀ (d n : Nat) (i : Int), i + d = l.length → 0 ≤ i → d < n →
    slices_IndexFunc_int__sensor_outside_int_1.l0 k l most n i = some (Sum.inr ()) := by
  intro d
  induction d with
  | zero =>
    intro n i hi i0 hd
    obtain ⟨n, rfl⟩ : ∃ j, n = j + 1 := ⟨n - 1, by omega⟩
    rw [slices_IndexFunc_int__sensor_outside_int_1.l0, ifn (by omega)]
  | succ d ih =>
    intro n i hi i0 hd
    obtain ⟨n, rfl⟩ : ∃ j, n = j + 1 := ⟨n - 1, by omega⟩
    have hr := hl.rd i0 (show i < (l.length : Int) by omega)
    have hf : sensor_outside_int_1 k most (rd l i) = some false := by
      unfold sensor_outside_int_1
      rw [ifn (by omega)]
      congr 1
      exact decide_eq_false (by omega)
    rw [slices_IndexFunc_int__sensor_outside_int_1.l0, ifp (by omega), ifp i0, bnd hf, ifn (by decide), wid (by omega) (by omega)]
    exact ih n (i + 1) (by omega) (by omega) (by omega)
theorem outside_int (k : Nat) (l : List Int) (most : Int) (hl : AllIn l 0 most) (hb : l.length < 4611686018427387904) (hk : l.length < k) : sensor_outside_int k l most = some false := by
  have h1 : slices_IndexFunc_int__sensor_outside_int_1 k most l = some (-1) := by
    unfold slices_IndexFunc_int__sensor_outside_int_1
    rw [bnd (idx_l0_int l most hl hb k l.length k 0 (by omega) (by omega) hk)]
    rfl
  have h2 : slices_ContainsFunc_int__sensor_outside_int_1 k most l = some false := by
    unfold slices_ContainsFunc_int__sensor_outside_int_1
    rw [bnd h1]
    rfl
  unfold sensor_outside_int
  rw [bnd h2]
theorem idx_l0_Light (l : List Int) (most : Int) (hl : AllIn l 0 most) (hb : l.length < 4611686018427387904) (k : Nat) : ∀ (d n : Nat) (i : Int), i + d = l.length → 0 ≤ i → d < n →
    slices_IndexFunc_Light__sensor_outside_Light_1.l0 k l most n i = some (Sum.inr ()) := by
  intro d
  induction d with
  | zero =>
    intro n i hi i0 hd
    obtain ⟨n, rfl⟩ : ∃ j, n = j + 1 := ⟨n - 1, by omega⟩
    rw [slices_IndexFunc_Light__sensor_outside_Light_1.l0, ifn (by omega)]
  | succ d ih =>
    intro n i hi i0 hd
    obtain ⟨n, rfl⟩ : ∃ j, n = j + 1 := ⟨n - 1, by omega⟩
    have hr := hl.rd i0 (show i < (l.length : Int) by omega)
    have hf : sensor_outside_Light_1 k most (rd l i) = some false := by
      unfold sensor_outside_Light_1
      rw [ifn (by omega)]
      congr 1
      exact decide_eq_false (by omega)
    rw [slices_IndexFunc_Light__sensor_outside_Light_1.l0, ifp (by omega), ifp i0, bnd hf, ifn (by decide), wid (by omega) (by omega)]
    exact ih n (i + 1) (by omega) (by omega) (by omega)
theorem outside_Light (k : Nat) (l : List Int) (most : Int) (hl : AllIn l 0 most) (hb : l.length < 4611686018427387904) (hk : l.length < k) : sensor_outside_Light k l most = some false := by
  have h1 : slices_IndexFunc_Light__sensor_outside_Light_1 k most l = some (-1) := by
    unfold slices_IndexFunc_Light__sensor_outside_Light_1
    rw [bnd (idx_l0_Light l most hl hb k l.length k 0 (by omega) (by omega) hk)]
    rfl
  have h2 : slices_ContainsFunc_Light__sensor_outside_Light_1 k most l = some false := by
    unfold slices_ContainsFunc_Light__sensor_outside_Light_1
    rw [bnd h1]
    rfl
  unfold sensor_outside_Light
  rw [bnd h2]
theorem check_ok (k : Nat) (S : S_Sensor) (h : Good S 32) (hk : 1100 ≤ k) : sensor_Check k S = some 0 := by
  have hn := h.n (by decide)
  obtain ⟨W0, W1, H0, H1, lb, ld, lf, hB, hD, hF, F0, F1, G0, G1, N0, N1⟩ := h
  unfold sensor_Check
  rw [mn_def, mx_def, wid (x := S.W * S.H) (by omega) (by omega), ifn (by omega), ifn (by omega), ifn (by omega), ifn (by omega), ifn (by omega),
    bnd (outside_int k S.Bias 4096 (hB.mono (by decide) (by decide)) (by omega) (by omega)), ifn (by decide),
    bnd (outside_Light k S.Dark 17592186044416 (hD.mono (by decide) (by decide)) (by omega) (by omega)), ifn (by decide),
    bnd (outside_int k S.Flat 4096 hF (by omega) (by omega)), ifn (by decide), ifn (by omega), ifn (by omega), ifn (by omega), ifn (by omega), ifn (by omega), ifn (by omega)]
theorem Good.wide {S : S_Sensor} {m m' : Int} (h : Good S m) (hm : m ≤ m') : Good S m' := ⟨h.W0, by have := h.W1; omega, h.H0, by have := h.H1; omega, h.lb, h.ld, h.lf, h.B, h.D, h.F, h.F0, h.F1, h.G0, h.G1, h.N0, h.N1⟩
theorem sized_ok (k : Nat) (S : S_Sensor) (n : Int) (h : Good S 32) (hn : n = S.W * S.H) (hk : 1100 ≤ k) : sensor_sized k S n = some 0 := by
  have hb := h.n (by decide)
  unfold sensor_sized
  rw [bnd (check_ok k S h hk), ifn (by decide), wid (by omega) (by omega), ifn (by omega)]
theorem idx_l0_Quanta (l : List Int) (most : Int) (hl : AllIn l 0 most) (hb : l.length < 4611686018427387904) (k : Nat) : ∀ (d n : Nat) (i : Int), i + d = l.length → 0 ≤ i → d < n →
    slices_IndexFunc_Quanta__sensor_outside_Quanta_1.l0 k l most n i = some (Sum.inr ()) := by
  intro d
  induction d with
  | zero =>
    intro n i hi i0 hd
    obtain ⟨n, rfl⟩ : ∃ j, n = j + 1 := ⟨n - 1, by omega⟩
    rw [slices_IndexFunc_Quanta__sensor_outside_Quanta_1.l0, ifn (by omega)]
  | succ d ih =>
    intro n i hi i0 hd
    obtain ⟨n, rfl⟩ : ∃ j, n = j + 1 := ⟨n - 1, by omega⟩
    have hr := hl.rd i0 (show i < (l.length : Int) by omega)
    have hf : sensor_outside_Quanta_1 k most (rd l i) = some false := by
      unfold sensor_outside_Quanta_1
      rw [ifn (by omega)]
      congr 1
      exact decide_eq_false (by omega)
    rw [slices_IndexFunc_Quanta__sensor_outside_Quanta_1.l0, ifp (by omega), ifp i0, bnd hf, ifn (by decide), wid (by omega) (by omega)]
    exact ih n (i + 1) (by omega) (by omega) (by omega)
theorem outside_Quanta (k : Nat) (l : List Int) (most : Int) (hl : AllIn l 0 most) (hb : l.length < 4611686018427387904) (hk : l.length < k) : sensor_outside_Quanta k l most = some false := by
  have h1 : slices_IndexFunc_Quanta__sensor_outside_Quanta_1 k most l = some (-1) := by
    unfold slices_IndexFunc_Quanta__sensor_outside_Quanta_1
    rw [bnd (idx_l0_Quanta l most hl hb k l.length k 0 (by omega) (by omega) hk)]
    rfl
  have h2 : slices_ContainsFunc_Quanta__sensor_outside_Quanta_1 k most l = some false := by
    unfold slices_ContainsFunc_Quanta__sensor_outside_Quanta_1
    rw [bnd h1]
    rfl
  unfold sensor_outside_Quanta
  rw [bnd h2]
theorem filled_l0 (k : Nat) (L : List Int) (b : Int) (S : S_Sensor) (hS : Good S 32) : ∀ (d n : Nat) (q : List Int) (i a : Int), i + d = S.W * S.H → 0 ≤ i → d < n → 0 ≤ a → a + 3 * d ≤ 4611686018427387904 → (q.length : Int) = i → AllIn q 0 4194304 →
    ∃ q' a', spykeep3_filled.l0 k S ⟨L, b⟩ n q i a = some (q', a') ∧ (q'.length : Int) = S.W * S.H ∧ AllIn q' 0 4194304 ∧ a ≤ a' ∧ a' ≤ a + 3 * d := by
  have hn := hS.n (by decide)
  have F0 := hS.F0
  have F1 := hS.F1
  intro d
  induction d with
  | zero =>
    intro n q i a hi i0 hd a0 a1 lq bq
    obtain ⟨n, rfl⟩ : ∃ j, n = j + 1 := ⟨n - 1, by omega⟩
    rw [spykeep3_filled.l0, wid (x := S.W * S.H) (by omega) (by omega), ifn (by omega)]
    exact ⟨q, a, rfl, by omega, bq, by omega, by omega⟩
  | succ d ih =>
    intro n q i a hi i0 hd a0 a1 lq bq
    obtain ⟨n, rfl⟩ : ∃ j, n = j + 1 := ⟨n - 1, by omega⟩
    rw [spykeep3_filled.l0, wid (x := S.W * S.H) (by omega) (by omega), ifp (by omega), wid (x := S.Full + 1) (by omega) (by omega)]
    obtain ⟨v, h1, v0, v1⟩ := next_ex k L a (S.Full + 1) (by omega) (by omega) (by omega) (by omega)
    rw [bnd h1]; dsimp only
    obtain ⟨z, h2, z0, z1⟩ := next_ex k L (a + 1) 5 (by decide) (by decide) (by omega) (by omega)
    rw [bnd h2]; dsimp only
    by_cases c : z = 0
    · rw [ifp c, wid (x := 4 * S.Full) (by omega) (by omega)]
      obtain ⟨u, h3, u0, u1⟩ := next_ex k L (a + 1 + 1) (4 * S.Full) (by omega) (by omega) (by omega) (by omega)
      rw [bnd h3]; dsimp only
      rw [ifp (by omega), wid (x := i + 1) (by omega) (by omega)]
      obtain ⟨q', a', e, g1, g2, g3, g4⟩ := ih n (q ++ [u]) (i + 1) (a + 1 + 1 + 1) (by omega) (by omega) (by omega) (by omega) (by omega) (push_len lq) (bq.push u0 (by omega))
      exact ⟨q', a', e, g1, g2, by omega, by omega⟩
    · rw [ifn c, ifp (by omega), wid (x := i + 1) (by omega) (by omega)]
      obtain ⟨q', a', e, g1, g2, g3, g4⟩ := ih n (q ++ [v]) (i + 1) (a + 1 + 1) (by omega) (by omega) (by omega) (by omega) (by omega) (push_len lq) (bq.push v0 (by omega))
      exact ⟨q', a', e, g1, g2, by omega, by omega⟩
theorem filled_ex (k : Nat) (L : List Int) (a : Int) (S : S_Sensor) (hS : Good S 32) (a0 : 0 ≤ a) (a1 : a ≤ 1000000) (hk : 1100 ≤ k) :
    ∃ q a', spykeep3_filled k ⟨L, a⟩ S = some (q, a') ∧ (q.length : Int) = S.W * S.H ∧ AllIn q 0 4194304 ∧ a ≤ a' ∧ a' ≤ a + 3100 := by
  have hn := hS.n (by decide)
  unfold spykeep3_filled
  dsimp only
  obtain ⟨q, a', e, g1, g2, g3, g4⟩ := filled_l0 k L a S hS (S.W * S.H).toNat k [] 0 a (by omega) (by omega) (by omega) (by omega) (by omega) rfl .nil
  rw [bnd e]
  exact ⟨q, a', rfl, g1, g2, g3, by omega⟩
theorem mem_set {l : List Int} {i : Nat} {x m : Int} (h : m ∈ l.set i x) : m ∈ l ∨ m = x := List.mem_or_eq_of_mem_set h
theorem AllIn.set {l : List Int} {lo hi x : Int} {i : Nat} (h : AllIn l lo hi) (h0 : lo ≤ x) (h1 : x ≤ hi) : AllIn (l.set i x) lo hi := by
  intro m hm
  rcases mem_set hm with hm | rfl
  · exact h m hm
  · exact ⟨h0, h1⟩
theorem sum_set_nat (l : List Int) (x : Int) : ∀ (i : Nat) (h : i < l.length), (l.set i x).sum = l.sum - l[i] + x := by
  induction l with
  | nil => intro i h; simp at h
  | cons y l ih =>
    intro i h
    cases i with
    | zero => simp; omega
    | succ i =>
      simp only [List.set_cons_succ, List.sum_cons, List.getElem_cons_succ]
      rw [ih i (by simpa using h)]
      omega
theorem sum_set (l : List Int) (i x : Int) (h0 : 0 ≤ i) (h1 : i < (l.length : Int)) : (l.set i.toNat x).sum = l.sum - rd l i + x := by
  obtain ⟨h, e⟩ := rd_lt h0 h1
  rw [e, sum_set_nat l x i.toNat h]
theorem keep_l0_2 (k : Nat) (S : S_Sensor) (ord q : List Int) (N : Int) (E : Int → Int) (hN : N ≤ 1024) (ho : (ord.length : Int) ≤ 1024) (lq : (q.length : Int) = N) (hF0 : 0 ≤ S.Full) (hF1 : S.Full ≤ 1048576)
    (hm : ∀ t, 0 ≤ t → t < (ord.length : Int) → 0 ≤ rd ord t ∧ rd ord t < N) (nd : ∀ s t, 0 ≤ s → s < t → t < (ord.length : Int) → rd ord s ≠ rd ord t)
    (hE : ∀ m, 0 ≤ m → m < N → sensor_Bleed_2 k q S m = some (E (rd q m)) ∧ 0 ≤ E (rd q m) ∧ E (rd q m) ≤ 4194304) :
    ∀ (d n : Nat) (i f : Int) (h g : List Int), i + d = ord.length → 0 ≤ i → d < n → (h.length : Int) = N → (g.length : Int) = N → AllIn h 0 S.Full → 0 ≤ f → f + d * 4194304 ≤ 1099511627776 →
    (∀ j, 0 ≤ j → j < N → 0 < E (rd q j) → rd h j = S.Full) → (0 < f → 0 < i ∧ rd h (rd ord (i - 1)) = S.Full) →
    ∃ a fa g', sensor_pour__sensor_Bleed_2.l0 k ord q S S n h f i = some (a, fa) ∧ (a.length : Int) = N ∧ (g'.length : Int) = N ∧ AllIn a 0 S.Full ∧ 0 ≤ fa ∧ fa ≤ f + d * 4194304 ∧ a.sum + fa + g'.sum = h.sum + f + g.sum ∧
      (∀ j, 0 ≤ j → j < N → rd h j ≤ rd a j) ∧ (∀ j, 0 ≤ j → j < N → (∀ t, i ≤ t → t < (ord.length : Int) → rd ord t ≠ j) → rd a j = rd h j ∧ rd g' j = rd g j) ∧
      (∀ t, i ≤ t → t < (ord.length : Int) → rd g' (rd ord t) = rd g (rd ord t) - E (rd q (rd ord t))) ∧
      (∀ t, i ≤ t → t < (ord.length : Int) → rd h (rd ord t) < rd a (rd ord t) → 0 < t ∧ rd a (rd ord (t - 1)) = S.Full) := by
  intro d
  induction d with
  | zero =>
    intro n i f h g hi i0 hd lh lg bh f0 f1 hfull hf
    obtain ⟨n, rfl⟩ : ∃ j, n = j + 1 := ⟨n - 1, by omega⟩
    rw [sensor_pour__sensor_Bleed_2.l0, ifn (by omega)]
    exact ⟨h, f, g, rfl, lh, lg, bh, f0, by omega, rfl, fun j _ _ => Int.le_refl _, fun j _ _ _ => ⟨rfl, rfl⟩, fun t t0 t1 => by omega, fun t t0 t1 => by omega⟩
  | succ d ih =>
    intro n i f h g hi i0 hd lh lg bh f0 f1 hfull hf
    obtain ⟨n, rfl⟩ : ∃ j, n = j + 1 := ⟨n - 1, by omega⟩
    obtain ⟨m0, m1⟩ := hm i i0 (by omega)
    obtain ⟨x1, x2, x3⟩ := hE (rd ord i) m0 m1
    have bm := bh.rd m0 (show rd ord i < (h.length : Int) by omega)
    rw [sensor_pour__sensor_Bleed_2.l0, ifp (by omega), ifp i0, ifp m0, ifp (by omega), bnd x1, wid (x := i + 1) (by omega) (by omega), mn_def]
    rw [wid (x := S.Full - rd h (rd ord i)) (by omega) (by omega)]
    obtain ⟨T, hT⟩ : ∃ T, T = min f (S.Full - rd h (rd ord i)) := ⟨_, rfl⟩
    rw [← hT]
    rw [wid (x := rd h (rd ord i) + T) (by omega) (by omega), wid (x := E (rd q (rd ord i)) - T) (by omega) (by omega), wid (x := f + (E (rd q (rd ord i)) - T)) (by omega) (by omega)]
    have lh' : ((h.set (rd ord i).toNat (rd h (rd ord i) + T)).length : Int) = N := by rw [List.length_set]; exact lh
    have lg' : ((g.set (rd ord i).toNat (rd g (rd ord i) - E (rd q (rd ord i)))).length : Int) = N := by rw [List.length_set]; exact lg
    have sh := sum_set h (rd ord i) (rd h (rd ord i) + T) m0 (by omega)
    have sg := sum_set g (rd ord i) (rd g (rd ord i) - E (rd q (rd ord i))) m0 (by omega)
    have ge : ∀ j, 0 ≤ j → j < N → rd h j ≤ rd (h.set (rd ord i).toNat (rd h (rd ord i) + T)) j := by
      intro j j0 j1
      by_cases c : j = rd ord i
      · subst c; rw [rd_set_eq _ _ _ m0 (by omega)]; omega
      · rw [rd_set_ne _ _ _ _ m0 j0 (by omega) c]; omega
    obtain ⟨a, fa, g', r, la, lg2, ba, fa0, fa1, hs, hge, hun, hg, hgain⟩ := ih n (i + 1) (f + (E (rd q (rd ord i)) - T)) (h.set (rd ord i).toNat (rd h (rd ord i) + T)) (g.set (rd ord i).toNat (rd g (rd ord i) - E (rd q (rd ord i)))) (by omega) (by omega) (by omega) lh' lg'
      (bh.set (by omega) (by omega)) (by omega) (by omega)
      (fun j j0 j1 hj => by
        have e1 := hfull j j0 j1 hj
        have e2 := ge j j0 j1
        have e3 := (bh.set (i := (rd ord i).toNat) (x := rd h (rd ord i) + T) (by omega) (by omega)).rd j0 (show j < _ by omega)
        omega)
      (fun hpos => by
        refine ⟨by omega, ?_⟩
        rw [show i + 1 - 1 = i by omega, rd_set_eq _ _ _ m0 (by omega)]
        by_cases c : 0 < E (rd q (rd ord i))
        · have := hfull _ m0 m1 c; omega
        · omega)
    refine ⟨a, fa, g', r, la, lg2, ba, fa0, by omega, by omega, fun j j0 j1 => Int.le_trans (ge j j0 j1) (hge j j0 j1), ?_, ?_, ?_⟩
    · intro j j0 j1 hj
      have c : j ≠ rd ord i := fun e => hj i (by omega) (by omega) e.symm
      obtain ⟨y1, y2⟩ := hun j j0 j1 (fun t t0 t1 => hj t (by omega) t1)
      rw [rd_set_ne _ _ _ _ m0 j0 (by omega) c] at y1 y2
      exact ⟨y1, y2⟩
    · intro t t0 t1
      by_cases c : t = i
      · subst c
        obtain ⟨_, y2⟩ := hun (rd ord t) m0 m1 (fun s s0 s1 => fun e => nd t s i0 (by omega) s1 e.symm)
        rw [y2, rd_set_eq _ _ _ m0 (by omega)]
      · obtain ⟨z0, z1⟩ := hm t (by omega) t1
        have e := hg t (by omega) t1
        rw [rd_set_ne _ _ _ _ m0 z0 (by omega) (fun e => nd i t i0 (by omega) t1 e.symm)] at e
        exact e
    · intro t t0 t1 ht
      by_cases c : t = i
      · subst c
        obtain ⟨y1, _⟩ := hun (rd ord t) m0 m1 (fun s s0 s1 => fun e => nd t s i0 (by omega) s1 e.symm)
        rw [y1, rd_set_eq _ _ _ m0 (by omega)] at ht
        obtain ⟨p1, p2⟩ := hf (by omega)
        refine ⟨p1, ?_⟩
        obtain ⟨z0, z1⟩ := hm (t - 1) (by omega) (by omega)
        have e1 := ge (rd ord (t - 1)) z0 z1
        have e2 := hge (rd ord (t - 1)) z0 z1
        have e3 := ba.rd z0 (show rd ord (t - 1) < (a.length : Int) by omega)
        omega
      · obtain ⟨z0, z1⟩ := hm t (by omega) t1
        have e := hgain t (by omega) t1
        rw [rd_set_ne _ _ _ _ m0 z0 (by omega) (fun e => nd i t i0 (by omega) t1 e.symm)] at e
        exact e ht
theorem keep_2 (k : Nat) (S : S_Sensor) (ord q : List Int) (N : Int) (E : Int → Int) (hN : N ≤ 1024) (ho : (ord.length : Int) ≤ 32) (lq : (q.length : Int) = N) (hF0 : 0 ≤ S.Full) (hF1 : S.Full ≤ 1048576)
    (hm : ∀ t, 0 ≤ t → t < (ord.length : Int) → 0 ≤ rd ord t ∧ rd ord t < N) (nd : ∀ s t, 0 ≤ s → s < t → t < (ord.length : Int) → rd ord s ≠ rd ord t)
    (hE : ∀ m, 0 ≤ m → m < N → sensor_Bleed_2 k q S m = some (E (rd q m)) ∧ 0 ≤ E (rd q m) ∧ E (rd q m) ≤ 4194304) (h g : List Int) (lh : (h.length : Int) = N) (lg : (g.length : Int) = N) (bh : AllIn h 0 S.Full)
    (hfull : ∀ j, 0 ≤ j → j < N → 0 < E (rd q j) → rd h j = S.Full) (hk : 1100 ≤ k) :
    ∃ a fa g', sensor_pour__sensor_Bleed_2 k q S S h ord = some (fa, a) ∧ (a.length : Int) = N ∧ (g'.length : Int) = N ∧ AllIn a 0 S.Full ∧ 0 ≤ fa ∧ fa ≤ 134217728 ∧ a.sum + fa + g'.sum = h.sum + g.sum ∧
      (∀ j, 0 ≤ j → j < N → rd h j ≤ rd a j) ∧ (∀ j, 0 ≤ j → j < N → (∀ t, 0 ≤ t → t < (ord.length : Int) → rd ord t ≠ j) → rd a j = rd h j ∧ rd g' j = rd g j) ∧
      (∀ t, 0 ≤ t → t < (ord.length : Int) → rd g' (rd ord t) = rd g (rd ord t) - E (rd q (rd ord t))) ∧
      (∀ t, 0 ≤ t → t < (ord.length : Int) → rd h (rd ord t) < rd a (rd ord t) → 0 < t ∧ rd a (rd ord (t - 1)) = S.Full) := by
  obtain ⟨a, fa, g', r, la, lg2, ba, fa0, fa1, hs, hge, hun, hg, hgain⟩ := keep_l0_2 k S ord q N E hN (by omega) lq hF0 hF1 hm nd hE ord.length k 0 0 h g (by omega) (by omega) (by omega) lh lg bh (by omega) (by omega) hfull (fun h => by omega)
  unfold sensor_pour__sensor_Bleed_2
  rw [bnd r]
  exact ⟨a, fa, g', rfl, la, lg2, ba, fa0, by omega, by omega, hge, hun, hg, hgain⟩
theorem keep_l0_3 (k : Nat) (S : S_Sensor) (ord q : List Int) (N : Int) (E : Int → Int) (hN : N ≤ 1024) (ho : (ord.length : Int) ≤ 1024) (lq : (q.length : Int) = N) (hF0 : 0 ≤ S.Full) (hF1 : S.Full ≤ 1048576)
    (hm : ∀ t, 0 ≤ t → t < (ord.length : Int) → 0 ≤ rd ord t ∧ rd ord t < N) (nd : ∀ s t, 0 ≤ s → s < t → t < (ord.length : Int) → rd ord s ≠ rd ord t)
    (hE : ∀ m, 0 ≤ m → m < N → sensor_Bleed_3 k q S m = some (E (rd q m)) ∧ 0 ≤ E (rd q m) ∧ E (rd q m) ≤ 4194304) :
    ∀ (d n : Nat) (i f : Int) (h g : List Int), i + d = ord.length → 0 ≤ i → d < n → (h.length : Int) = N → (g.length : Int) = N → AllIn h 0 S.Full → 0 ≤ f → f + d * 4194304 ≤ 1099511627776 →
    (∀ j, 0 ≤ j → j < N → 0 < E (rd q j) → rd h j = S.Full) → (0 < f → 0 < i ∧ rd h (rd ord (i - 1)) = S.Full) →
    ∃ a fa g', sensor_pour__sensor_Bleed_3.l0 k ord q S S n h f i = some (a, fa) ∧ (a.length : Int) = N ∧ (g'.length : Int) = N ∧ AllIn a 0 S.Full ∧ 0 ≤ fa ∧ fa ≤ f + d * 4194304 ∧ a.sum + fa + g'.sum = h.sum + f + g.sum ∧
      (∀ j, 0 ≤ j → j < N → rd h j ≤ rd a j) ∧ (∀ j, 0 ≤ j → j < N → (∀ t, i ≤ t → t < (ord.length : Int) → rd ord t ≠ j) → rd a j = rd h j ∧ rd g' j = rd g j) ∧
      (∀ t, i ≤ t → t < (ord.length : Int) → rd g' (rd ord t) = rd g (rd ord t) - E (rd q (rd ord t))) ∧
      (∀ t, i ≤ t → t < (ord.length : Int) → rd h (rd ord t) < rd a (rd ord t) → 0 < t ∧ rd a (rd ord (t - 1)) = S.Full) := by
  intro d
  induction d with
  | zero =>
    intro n i f h g hi i0 hd lh lg bh f0 f1 hfull hf
    obtain ⟨n, rfl⟩ : ∃ j, n = j + 1 := ⟨n - 1, by omega⟩
    rw [sensor_pour__sensor_Bleed_3.l0, ifn (by omega)]
    exact ⟨h, f, g, rfl, lh, lg, bh, f0, by omega, rfl, fun j _ _ => Int.le_refl _, fun j _ _ _ => ⟨rfl, rfl⟩, fun t t0 t1 => by omega, fun t t0 t1 => by omega⟩
  | succ d ih =>
    intro n i f h g hi i0 hd lh lg bh f0 f1 hfull hf
    obtain ⟨n, rfl⟩ : ∃ j, n = j + 1 := ⟨n - 1, by omega⟩
    obtain ⟨m0, m1⟩ := hm i i0 (by omega)
    obtain ⟨x1, x2, x3⟩ := hE (rd ord i) m0 m1
    have bm := bh.rd m0 (show rd ord i < (h.length : Int) by omega)
    rw [sensor_pour__sensor_Bleed_3.l0, ifp (by omega), ifp i0, ifp m0, ifp (by omega), bnd x1, wid (x := i + 1) (by omega) (by omega), mn_def]
    rw [wid (x := S.Full - rd h (rd ord i)) (by omega) (by omega)]
    obtain ⟨T, hT⟩ : ∃ T, T = min f (S.Full - rd h (rd ord i)) := ⟨_, rfl⟩
    rw [← hT]
    rw [wid (x := rd h (rd ord i) + T) (by omega) (by omega), wid (x := E (rd q (rd ord i)) - T) (by omega) (by omega), wid (x := f + (E (rd q (rd ord i)) - T)) (by omega) (by omega)]
    have lh' : ((h.set (rd ord i).toNat (rd h (rd ord i) + T)).length : Int) = N := by rw [List.length_set]; exact lh
    have lg' : ((g.set (rd ord i).toNat (rd g (rd ord i) - E (rd q (rd ord i)))).length : Int) = N := by rw [List.length_set]; exact lg
    have sh := sum_set h (rd ord i) (rd h (rd ord i) + T) m0 (by omega)
    have sg := sum_set g (rd ord i) (rd g (rd ord i) - E (rd q (rd ord i))) m0 (by omega)
    have ge : ∀ j, 0 ≤ j → j < N → rd h j ≤ rd (h.set (rd ord i).toNat (rd h (rd ord i) + T)) j := by
      intro j j0 j1
      by_cases c : j = rd ord i
      · subst c; rw [rd_set_eq _ _ _ m0 (by omega)]; omega
      · rw [rd_set_ne _ _ _ _ m0 j0 (by omega) c]; omega
    obtain ⟨a, fa, g', r, la, lg2, ba, fa0, fa1, hs, hge, hun, hg, hgain⟩ := ih n (i + 1) (f + (E (rd q (rd ord i)) - T)) (h.set (rd ord i).toNat (rd h (rd ord i) + T)) (g.set (rd ord i).toNat (rd g (rd ord i) - E (rd q (rd ord i)))) (by omega) (by omega) (by omega) lh' lg'
      (bh.set (by omega) (by omega)) (by omega) (by omega)
      (fun j j0 j1 hj => by
        have e1 := hfull j j0 j1 hj
        have e2 := ge j j0 j1
        have e3 := (bh.set (i := (rd ord i).toNat) (x := rd h (rd ord i) + T) (by omega) (by omega)).rd j0 (show j < _ by omega)
        omega)
      (fun hpos => by
        refine ⟨by omega, ?_⟩
        rw [show i + 1 - 1 = i by omega, rd_set_eq _ _ _ m0 (by omega)]
        by_cases c : 0 < E (rd q (rd ord i))
        · have := hfull _ m0 m1 c; omega
        · omega)
    refine ⟨a, fa, g', r, la, lg2, ba, fa0, by omega, by omega, fun j j0 j1 => Int.le_trans (ge j j0 j1) (hge j j0 j1), ?_, ?_, ?_⟩
    · intro j j0 j1 hj
      have c : j ≠ rd ord i := fun e => hj i (by omega) (by omega) e.symm
      obtain ⟨y1, y2⟩ := hun j j0 j1 (fun t t0 t1 => hj t (by omega) t1)
      rw [rd_set_ne _ _ _ _ m0 j0 (by omega) c] at y1 y2
      exact ⟨y1, y2⟩
    · intro t t0 t1
      by_cases c : t = i
      · subst c
        obtain ⟨_, y2⟩ := hun (rd ord t) m0 m1 (fun s s0 s1 => fun e => nd t s i0 (by omega) s1 e.symm)
        rw [y2, rd_set_eq _ _ _ m0 (by omega)]
      · obtain ⟨z0, z1⟩ := hm t (by omega) t1
        have e := hg t (by omega) t1
        rw [rd_set_ne _ _ _ _ m0 z0 (by omega) (fun e => nd i t i0 (by omega) t1 e.symm)] at e
        exact e
    · intro t t0 t1 ht
      by_cases c : t = i
      · subst c
        obtain ⟨y1, _⟩ := hun (rd ord t) m0 m1 (fun s s0 s1 => fun e => nd t s i0 (by omega) s1 e.symm)
        rw [y1, rd_set_eq _ _ _ m0 (by omega)] at ht
        obtain ⟨p1, p2⟩ := hf (by omega)
        refine ⟨p1, ?_⟩
        obtain ⟨z0, z1⟩ := hm (t - 1) (by omega) (by omega)
        have e1 := ge (rd ord (t - 1)) z0 z1
        have e2 := hge (rd ord (t - 1)) z0 z1
        have e3 := ba.rd z0 (show rd ord (t - 1) < (a.length : Int) by omega)
        omega
      · obtain ⟨z0, z1⟩ := hm t (by omega) t1
        have e := hgain t (by omega) t1
        rw [rd_set_ne _ _ _ _ m0 z0 (by omega) (fun e => nd i t i0 (by omega) t1 e.symm)] at e
        exact e ht
theorem keep_3 (k : Nat) (S : S_Sensor) (ord q : List Int) (N : Int) (E : Int → Int) (hN : N ≤ 1024) (ho : (ord.length : Int) ≤ 32) (lq : (q.length : Int) = N) (hF0 : 0 ≤ S.Full) (hF1 : S.Full ≤ 1048576)
    (hm : ∀ t, 0 ≤ t → t < (ord.length : Int) → 0 ≤ rd ord t ∧ rd ord t < N) (nd : ∀ s t, 0 ≤ s → s < t → t < (ord.length : Int) → rd ord s ≠ rd ord t)
    (hE : ∀ m, 0 ≤ m → m < N → sensor_Bleed_3 k q S m = some (E (rd q m)) ∧ 0 ≤ E (rd q m) ∧ E (rd q m) ≤ 4194304) (h g : List Int) (lh : (h.length : Int) = N) (lg : (g.length : Int) = N) (bh : AllIn h 0 S.Full)
    (hfull : ∀ j, 0 ≤ j → j < N → 0 < E (rd q j) → rd h j = S.Full) (hk : 1100 ≤ k) :
    ∃ a fa g', sensor_pour__sensor_Bleed_3 k q S S h ord = some (fa, a) ∧ (a.length : Int) = N ∧ (g'.length : Int) = N ∧ AllIn a 0 S.Full ∧ 0 ≤ fa ∧ fa ≤ 134217728 ∧ a.sum + fa + g'.sum = h.sum + g.sum ∧
      (∀ j, 0 ≤ j → j < N → rd h j ≤ rd a j) ∧ (∀ j, 0 ≤ j → j < N → (∀ t, 0 ≤ t → t < (ord.length : Int) → rd ord t ≠ j) → rd a j = rd h j ∧ rd g' j = rd g j) ∧
      (∀ t, 0 ≤ t → t < (ord.length : Int) → rd g' (rd ord t) = rd g (rd ord t) - E (rd q (rd ord t))) ∧
      (∀ t, 0 ≤ t → t < (ord.length : Int) → rd h (rd ord t) < rd a (rd ord t) → 0 < t ∧ rd a (rd ord (t - 1)) = S.Full) := by
  obtain ⟨a, fa, g', r, la, lg2, ba, fa0, fa1, hs, hge, hun, hg, hgain⟩ := keep_l0_3 k S ord q N E hN (by omega) lq hF0 hF1 hm nd hE ord.length k 0 0 h g (by omega) (by omega) (by omega) lh lg bh (by omega) (by omega) hfull (fun h => by omega)
  unfold sensor_pour__sensor_Bleed_3
  rw [bnd r]
  exact ⟨a, fa, g', rfl, la, lg2, ba, fa0, by omega, by omega, hge, hun, hg, hgain⟩
theorem place (S : S_Sensor) (hS : Good S 32) (y x : Int) (y0 : 0 ≤ y) (y1 : y < S.H) (x0 : 0 ≤ x) (x1 : x < S.W) : 0 ≤ y * S.W + x ∧ y * S.W + x < S.W * S.H ∧ (y * S.W + x) % S.W = x := by
  have W0 := hS.W0
  have h1 : 0 ≤ y * S.W := Int.mul_nonneg y0 (by omega)
  have h2 : (y + 1) * S.W ≤ S.H * S.W := Int.mul_le_mul_of_nonneg_right (by omega) (by omega)
  rw [Int.add_mul, Int.mul_comm S.H] at h2
  refine ⟨by omega, by omega, ?_⟩
  rw [Int.add_comm, Int.add_mul_emod_self_right, Int.emod_eq_of_lt x0 x1]
theorem bleed_l0 (k : Nat) (S : S_Sensor) (q : List Int) (N : Int) (hN : N ≤ 1024) (lq : (q.length : Int) = N) : ∀ (d n : Nat) (out : List Int) (i : Int), i + d = N → 0 ≤ i → d < n → (out.length : Int) = N → (∀ j, 0 ≤ j → j < i → rd out j = mn (rd q j) S.Full) →
    ∃ p, sensor_Bleed.l0 k q S n out i = some p ∧ (p.length : Int) = N ∧ (∀ j, 0 ≤ j → j < N → rd p j = mn (rd q j) S.Full) := by
  intro d
  induction d with
  | zero =>
    intro n out i hi i0 hd lo hv
    obtain ⟨n, rfl⟩ : ∃ j, n = j + 1 := ⟨n - 1, by omega⟩
    rw [sensor_Bleed.l0, ifn (by omega)]
    exact ⟨out, rfl, lo, fun j j0 j1 => hv j j0 (by omega)⟩
  | succ d ih =>
    intro n out i hi i0 hd lo hv
    obtain ⟨n, rfl⟩ : ∃ j, n = j + 1 := ⟨n - 1, by omega⟩
    rw [sensor_Bleed.l0, ifp (by omega), ifp i0, ifp (by omega), wid (x := i + 1) (by omega) (by omega)]
    refine ih n _ (i + 1) (by omega) (by omega) (by omega) (by rw [List.length_set]; exact lo) ?_
    intro j j0 j1
    by_cases c : j = i
    · subst c
      rw [rd_set_eq _ _ _ i0 (by omega)]
    · rw [rd_set_ne _ _ _ _ i0 j0 (by omega) c]
      exact hv j j0 (by omega)
theorem rdx_l0 (k : Nat) (l : List Int) (L : Int) (hl : (l.length : Int) = L) (hL : L ≤ 1024) : ∀ (d n : Nat) (s : List Int) (i j : Int), j - i < d → 0 ≤ i → i ≤ 5000 → j = L - 1 - i → (s.length : Int) = L → d ≤ n → 1 ≤ n → (∀ t, 0 ≤ t → t < L → (t < i ∨ j < t) → rd s t = rd l (L - 1 - t)) → (∀ t, i ≤ t → t ≤ j → rd s t = rd l t) →
    ∃ r, slices_Reverse_int.l0 k n s i j = some r ∧ (r.length : Int) = L ∧ (∀ t, 0 ≤ t → t < L → rd r t = rd l (L - 1 - t)) := by
  intro d
  induction d with
  | zero =>
    intro n s i j hd i0 i1 hj ls hn hn1 ho hi
    obtain ⟨n, rfl⟩ : ∃ j, n = j + 1 := ⟨n - 1, by omega⟩
    rw [slices_Reverse_int.l0, ifn (by omega)]
    exact ⟨s, rfl, ls, fun t t0 t1 => ho t t0 t1 (by omega)⟩
  | succ d ih =>
    intro n s i j hd i0 i1 hj ls hn hn1 ho hi
    obtain ⟨n, rfl⟩ : ∃ j, n = j + 1 := ⟨n - 1, by omega⟩
    by_cases c : i < j
    · rw [slices_Reverse_int.l0, ifp c, ifp (by omega), ifp (by omega), ifp i0, ifp (by omega), ifp (by rw [List.length_set]; omega), wid (x := i + 1) (by omega) (by omega), wid (x := j - 1) (by omega) (by omega)]
      have l1 : ((s.set i.toNat (rd s j)).length : Int) = L := by rw [List.length_set]; exact ls
      refine ih n _ (i + 1) (j - 1) (by omega) (by omega) (by omega) (by omega) (by rw [List.length_set]; exact l1) (by omega) (by omega) ?_ ?_
      · intro t t0 t1 ht
        by_cases e : t = j
        · subst e
          rw [rd_set_eq _ _ _ t0 (by omega), hi i (by omega) (by omega), show L - 1 - t = i by omega]
        · rw [rd_set_ne _ _ _ _ (by omega) t0 (by omega) e]
          by_cases e2 : t = i
          · subst e2
            rw [rd_set_eq _ _ _ t0 (by omega), hi j (by omega) (by omega), show L - 1 - t = j by omega]
          · rw [rd_set_ne _ _ _ _ i0 t0 (by omega) e2]
            exact ho t t0 t1 (by omega)
      · intro t t0 t1
        rw [rd_set_ne _ _ _ _ (by omega) (by omega) (by omega) (by omega), rd_set_ne _ _ _ _ i0 (by omega) (by omega) (by omega)]
        exact hi t (by omega) (by omega)
    · rw [slices_Reverse_int.l0, ifn c]
      refine ⟨s, rfl, ls, fun t t0 t1 => ?_⟩
      by_cases e : t < i ∨ j < t
      · exact ho t t0 t1 e
      · rw [hi t (by omega) (by omega)]
        congr 1
        omega
theorem rdx (k : Nat) (l : List Int) (L : Int) (hl : (l.length : Int) = L) (hL : L ≤ 1024) (hk : 1100 ≤ k) : ∃ r, slices_Reverse_int k l = some r ∧ (r.length : Int) = L ∧ (∀ t, 0 ≤ t → t < L → rd r t = rd l (L - 1 - t)) := by
  unfold slices_Reverse_int
  rw [wid (by omega) (by omega)]
  obtain ⟨r, e, g, gl⟩ := rdx_l0 k l L hl hL l.length k l 0 ((l.length : Int) - 1) (by omega) (by omega) (by omega) (by omega) hl (by omega) (by omega) (fun t t0 t1 h => by omega) (fun t t0 t1 => rfl)
  rw [bnd e]
  exact ⟨r, rfl, g, gl⟩
theorem colx (k : Nat) (S : S_Sensor) (hS : Good S 32) (x : Int) (x0 : 0 ≤ x) (x1 : x < S.W) : ∀ (d n : Nat) (c : List Int) (y : Int), y + d = S.H → 0 ≤ y → d < n → (c.length : Int) = y → (∀ t, 0 ≤ t → t < y → rd c t = t * S.W + x) →
    ∃ c', sensor_Bleed.l2 k S x n c y = some c' ∧ (c'.length : Int) = S.H ∧ (∀ t, 0 ≤ t → t < S.H → rd c' t = t * S.W + x) := by
  have hn := hS.n (by decide)
  have H1 := hS.H1
  intro d
  induction d with
  | zero =>
    intro n c y hi y0 hd lc hc
    obtain ⟨n, rfl⟩ : ∃ j, n = j + 1 := ⟨n - 1, by omega⟩
    rw [sensor_Bleed.l2, ifn (by omega)]
    exact ⟨c, rfl, by omega, fun t t0 t1 => hc t t0 (by omega)⟩
  | succ d ih =>
    intro n c y hi y0 hd lc hc
    obtain ⟨n, rfl⟩ : ∃ j, n = j + 1 := ⟨n - 1, by omega⟩
    obtain ⟨p0, p1, p2⟩ := place S hS y x y0 (by omega) x0 x1
    have hy : 0 ≤ y * S.W := Int.mul_nonneg y0 (by have := hS.W0; omega)
    rw [sensor_Bleed.l2, ifp (by omega), ifp (by omega), wid (x := y * S.W) (by omega) (by omega), wid (x := y * S.W + x) (by omega) (by omega), wid (x := y + 1) (by omega) (by omega)]
    refine ih n _ (y + 1) (by omega) (by omega) (by omega) (push_len lc) ?_
    intro t t0 t1
    by_cases e : t = y
    · rw [rd_push_new c _ t (by omega), e]
    · rw [rd_push_old c _ t t0 (by omega)]
      exact hc t t0 (by omega)
def over (S : S_Sensor) (v : Int) : Int := max 0 (v - S.Full)
def e2 (S : S_Sensor) (v : Int) : Int := (over S v + 1) / 2
def e3 (S : S_Sensor) (v : Int) : Int := over S v / 2
theorem over_e (S : S_Sensor) (v : Int) : over S v = e2 S v + e3 S v ∧ 0 ≤ over S v := by unfold e2 e3 over; omega
theorem bl1 (k : Nat) (S : S_Sensor) (hS : Good S 32) (q : List Int) (N m : Int) (lq : (q.length : Int) = N) (bq : AllIn q 0 4194304) (m0 : 0 ≤ m) (m1 : m < N) : sensor_Bleed_1 k q S m = some (over S (rd q m)) ∧ 0 ≤ over S (rd q m) ∧ over S (rd q m) ≤ 4194304 := by
  have h := bq.rd m0 (show m < (q.length : Int) by omega)
  have F0 := hS.F0
  have F1 := hS.F1
  unfold sensor_Bleed_1
  rw [ifp m0, ifp (by omega), mx_def, wid (by omega) (by omega)]
  refine ⟨rfl, ?_, ?_⟩ <;> (unfold over; omega)
theorem bl2 (k : Nat) (S : S_Sensor) (hS : Good S 32) (q : List Int) (N m : Int) (lq : (q.length : Int) = N) (bq : AllIn q 0 4194304) (m0 : 0 ≤ m) (m1 : m < N) : sensor_Bleed_2 k q S m = some (e2 S (rd q m)) ∧ 0 ≤ e2 S (rd q m) ∧ e2 S (rd q m) ≤ 4194304 := by
  obtain ⟨h, h0, h1⟩ := bl1 k S hS q N m lq bq m0 m1
  unfold sensor_Bleed_2
  rw [bnd h, wid (x := over S (rd q m) + 1) (by omega) (by omega), tdiv_nn (by omega), wid (by omega) (by omega)]
  refine ⟨rfl, ?_, ?_⟩ <;> (unfold e2; omega)
theorem bl3 (k : Nat) (S : S_Sensor) (hS : Good S 32) (q : List Int) (N m : Int) (lq : (q.length : Int) = N) (bq : AllIn q 0 4194304) (m0 : 0 ≤ m) (m1 : m < N) : sensor_Bleed_3 k q S m = some (e3 S (rd q m)) ∧ 0 ≤ e3 S (rd q m) ∧ e3 S (rd q m) ≤ 4194304 := by
  obtain ⟨h, h0, h1⟩ := bl1 k S hS q N m lq bq m0 m1
  unfold sensor_Bleed_3
  rw [bnd h, tdiv_nn (by omega), wid (by omega) (by omega)]
  refine ⟨rfl, ?_, ?_⟩ <;> (unfold e3; omega)
def nb (S : S_Sensor) (o : List Int) (j : Int) : Prop := (0 ≤ j - S.W ∧ rd o (j - S.W) = S.Full) ∨ (j + S.W < S.W * S.H ∧ rd o (j + S.W) = S.Full)
structure Held (S : S_Sensor) (q o g : List Int) (lost x : Int) : Prop where
  lo : (o.length : Int) = S.W * S.H
  lg : (g.length : Int) = S.W * S.H
  bo : AllIn o 0 S.Full
  l0 : 0 ≤ lost
  l1 : lost ≤ x * 268435456
  sum : o.sum + lost + g.sum = q.sum
  low : ∀ j, 0 ≤ j → j < S.W * S.H → min (rd q j) S.Full ≤ rd o j
  rest : ∀ j, 0 ≤ j → j < S.W * S.H → x ≤ j % S.W → rd o j = min (rd q j) S.Full ∧ rd g j = over S (rd q j)
  done : ∀ j, 0 ≤ j → j < S.W * S.H → j % S.W < x → rd g j = 0 ∧ (rd q j < rd o j → nb S o j)
theorem cell_of (S : S_Sensor) (hS : Good S 32) (j : Int) (j0 : 0 ≤ j) (j1 : j < S.W * S.H) : 0 ≤ j / S.W ∧ j / S.W < S.H ∧ j = j / S.W * S.W + j % S.W := by
  have W0 := hS.W0
  refine ⟨Int.ediv_nonneg j0 (by omega), ?_, ?_⟩
  · exact Int.ediv_lt_of_lt_mul (by omega) (by rw [Int.mul_comm S.H]; exact j1)
  · have := Int.mul_ediv_add_emod j S.W
    rw [Int.mul_comm] at this; omega
theorem mono_nb {S : S_Sensor} {o a : List Int} {j : Int} (j0 : 0 ≤ j) (j1 : j < S.W * S.H) (W0 : 1 ≤ S.W) (la : (a.length : Int) = S.W * S.H) (ba : AllIn a 0 S.Full) (h : ∀ j, 0 ≤ j → j < S.W * S.H → rd o j ≤ rd a j) (hn : nb S o j) : nb S a j := by
  rcases hn with ⟨p, e⟩ | ⟨p, e⟩
  · have e1 := h (j - S.W) p (by omega)
    have e2 := ba.rd p (show j - S.W < (a.length : Int) by omega)
    exact .inl ⟨p, by omega⟩
  · have e1 := h (j + S.W) (by omega) p
    have e2 := ba.rd (show 0 ≤ j + S.W by omega) (show j + S.W < (a.length : Int) by omega)
    exact .inr ⟨p, by omega⟩
theorem keep_l1 (k : Nat) (S : S_Sensor) (hS : Good S 32) (q : List Int) (lq : (q.length : Int) = S.W * S.H) (bq : AllIn q 0 4194304) (hk : 1100 ≤ k) :
    ∀ (d n : Nat) (o g : List Int) (lost x : Int), x + d = S.W → 0 ≤ x → d < n → Held S q o g lost x →
    ∃ a g' lost', sensor_Bleed.l1 k S q n o lost x = some (a, lost') ∧ Held S q a g' lost' S.W := by
  have hn := hS.n (by decide)
  have W0 := hS.W0
  have W1 := hS.W1
  have H0 := hS.H0
  have H1 := hS.H1
  have F0 := hS.F0
  have F1 := hS.F1
  intro d
  induction d with
  | zero =>
    intro n o g lost x hi x0 hd hh
    obtain ⟨n, rfl⟩ : ∃ j, n = j + 1 := ⟨n - 1, by omega⟩
    rw [sensor_Bleed.l1, ifn (by omega)]
    exact ⟨o, g, lost, rfl, (show x = S.W by omega) ▸ hh⟩
  | succ d ih =>
    intro n o g lost x hi x0 hd hh
    obtain ⟨n, rfl⟩ : ∃ j, n = j + 1 := ⟨n - 1, by omega⟩
    obtain ⟨lo, lg, bo, lost0, lost1, hsum, low, rest, done⟩ := hh
    obtain ⟨c, hc, lc, mc⟩ := colx k S hS x x0 (by omega) S.H.toNat k [] 0 (by omega) (by omega) (by omega) rfl (fun t t0 t1 => by omega)
    obtain ⟨r, hr, lr, mr⟩ := rdx k c S.H lc (by omega) hk
    have pl : ∀ t, 0 ≤ t → t < S.H → 0 ≤ t * S.W + x ∧ t * S.W + x < S.W * S.H ∧ (t * S.W + x) % S.W = x := fun t t0 t1 => place S hS t x t0 t1 x0 (by omega)
    have inj : ∀ s t, 0 ≤ s → s < t → t < S.H → s * S.W + x ≠ t * S.W + x := by
      intro s t s0 st t1 e
      have h1 : (s + 1) * S.W ≤ t * S.W := Int.mul_le_mul_of_nonneg_right (by omega) (by omega)
      rw [Int.add_mul] at h1
      omega
    obtain ⟨a, fa, g1, r1, la, lg1, ba, fa0, fa1, s1, ge1, un1, gg1, gain1⟩ := keep_2 k S c q (S.W * S.H) (e2 S) (by omega) (by omega) lq (by omega) F1
      (fun t t0 t1 => by rw [mc t t0 (by omega)]; exact ⟨(pl t t0 (by omega)).1, (pl t t0 (by omega)).2.1⟩)
      (fun s t s0 st t1 => by rw [mc s s0 (by omega), mc t (by omega) (by omega)]; exact inj s t s0 st (by omega))
      (fun m m0 m1 => bl2 k S hS q _ m lq bq m0 m1) o g lo lg bo
      (fun j j0 j1 hj => by
        have e1 := low j j0 j1
        have e2' := bo.rd j0 (show j < (o.length : Int) by omega)
        unfold e2 over at hj
        omega) hk
    obtain ⟨a2, fb, g2, r2, la2, lg2, ba2, fb0, fb1, s2, ge2, un2, gg2, gain2⟩ := keep_3 k S r q (S.W * S.H) (e3 S) (by omega) (by omega) lq (by omega) F1
      (fun t t0 t1 => by rw [mr t t0 (by omega), mc (S.H - 1 - t) (by omega) (by omega)]; exact ⟨(pl _ (by omega) (by omega)).1, (pl _ (by omega) (by omega)).2.1⟩)
      (fun s t s0 st t1 => by rw [mr s s0 (by omega), mr t (by omega) (by omega), mc (S.H - 1 - s) (by omega) (by omega), mc (S.H - 1 - t) (by omega) (by omega)]; exact fun e => inj (S.H - 1 - t) (S.H - 1 - s) (by omega) (by omega) (by omega) e.symm)
      (fun m m0 m1 => bl3 k S hS q _ m lq bq m0 m1) a g1 la lg1 ba
      (fun j j0 j1 hj => by
        have e1 := low j j0 j1
        have e2' := ge1 j j0 j1
        have e3' := ba.rd j0 (show j < (a.length : Int) by omega)
        unfold e3 over at hj
        omega) hk
    rw [sensor_Bleed.l1, ifp (by omega), bnd hc, bnd r1]; dsimp only
    rw [bnd hr, bnd r2]; dsimp only
    rw [wid (x := lost + fa) (by omega) (by omega), wid (x := lost + fa + fb) (by omega) (by omega), wid (x := x + 1) (by omega) (by omega)]
    have ge : ∀ j, 0 ≤ j → j < S.W * S.H → rd o j ≤ rd a2 j := fun j j0 j1 => Int.le_trans (ge1 j j0 j1) (ge2 j j0 j1)
    have off : ∀ j, 0 ≤ j → j < S.W * S.H → j % S.W ≠ x → rd a2 j = rd o j ∧ rd g2 j = rd g j := by
      intro j j0 j1 jx
      obtain ⟨u1, u2⟩ := un1 j j0 j1 (fun t t0 t1 e => jx (by rw [← e, mc t t0 (by omega)]; exact (pl t t0 (by omega)).2.2))
      obtain ⟨v1, v2⟩ := un2 j j0 j1 (fun t t0 t1 e => jx (by rw [← e, mr t t0 (by omega), mc _ (by omega) (by omega)]; exact (pl _ (by omega) (by omega)).2.2))
      exact ⟨v1.trans u1, v2.trans u2⟩
    refine ih n a2 g2 (lost + fa + fb) (x + 1) (by omega) (by omega) (by omega) ⟨la2, lg2, ba2, by omega, by omega, by omega, fun j j0 j1 => Int.le_trans (low j j0 j1) (ge j j0 j1), ?_, ?_⟩
    · intro j j0 j1 jx
      obtain ⟨o1, o2⟩ := off j j0 j1 (by omega)
      rw [o1, o2]
      exact rest j j0 j1 (by omega)
    · intro j j0 j1 jx
      by_cases c0 : j % S.W = x
      · obtain ⟨t0, t1, te⟩ := cell_of S hS j j0 j1
        rw [c0] at te
        obtain ⟨t, ht⟩ : ∃ t, t = j / S.W := ⟨_, rfl⟩
        rw [← ht] at t0 t1 te
        have ec : rd c t = j := by rw [mc t t0 t1]; exact te.symm
        have er : rd r (S.H - 1 - t) = j := by rw [mr _ (by omega) (by omega), show S.H - 1 - (S.H - 1 - t) = t by omega]; exact ec
        obtain ⟨re1, re2⟩ := rest j j0 j1 (by omega)
        have k1 := gg1 t t0 (by omega)
        have k2 := gg2 (S.H - 1 - t) (by omega) (by omega)
        rw [ec] at k1
        rw [er] at k2
        obtain ⟨oe, _⟩ := over_e S (rd q j)
        refine ⟨by omega, fun hq => ?_⟩
        have b1 := ba.rd j0 (show j < (a.length : Int) by omega)
        by_cases c1 : rd a j < rd a2 j
        · have h3 := gain2 (S.H - 1 - t) (by omega) (by omega)
          rw [er] at h3
          obtain ⟨p1, p2⟩ := h3 c1
          rw [mr _ (by omega) (by omega), mc _ (by omega) (by omega), show S.H - 1 - (S.H - 1 - t - 1) = t + 1 by omega, Int.add_mul, Int.one_mul, show t * S.W + S.W + x = j + S.W by omega] at p2
          have p3 := (pl (t + 1) (by omega) (by omega)).2.1
          rw [Int.add_mul, Int.one_mul, show t * S.W + S.W + x = j + S.W by omega] at p3
          exact .inr ⟨p3, p2⟩
        · have g3 := gain1 t t0 (by omega)
          rw [ec] at g3
          have e4 := ge2 j j0 j1
          obtain ⟨p1, p2⟩ := g3 (by omega)
          rw [mc _ (by omega) (by omega), Int.sub_mul, Int.one_mul, show t * S.W - S.W + x = j - S.W by omega] at p2
          have p3 := (pl (t - 1) (by omega) (by omega)).1
          rw [Int.sub_mul, Int.one_mul, show t * S.W - S.W + x = j - S.W by omega] at p3
          have e5 := ge2 (j - S.W) p3 (by omega)
          have e6 := ba2.rd p3 (show j - S.W < (a2.length : Int) by omega)
          exact .inl ⟨p3, by omega⟩
      · obtain ⟨o1, o2⟩ := off j j0 j1 c0
        obtain ⟨d1, d2⟩ := done j j0 j1 (by omega)
        refine ⟨by omega, fun hq => mono_nb j0 j1 W0 la2 ba2 ge (d2 (by omega))⟩
theorem sum_map2 (F : Int) : ∀ q : List Int, (q.map fun v => min v F).sum + (q.map fun v => max 0 (v - F)).sum = q.sum
  | [] => rfl
  | v :: q => by
    have := sum_map2 F q
    simp only [List.map_cons, List.sum_cons]
    omega
theorem rd_map (f : Int → Int) (q : List Int) (j : Int) (h0 : 0 ≤ j) (h1 : j < (q.length : Int)) : rd (q.map f) j = f (rd q j) := by
  obtain ⟨h, e⟩ := rd_lt h0 h1
  obtain ⟨h', e'⟩ := rd_lt (xs := q.map f) h0 (by simp; omega)
  rw [e, e']; simp
theorem eq_map (f : Int → Int) (q p : List Int) (hl : p.length = q.length) (h : ∀ j, 0 ≤ j → j < (q.length : Int) → rd p j = f (rd q j)) : p = q.map f := by
  apply List.ext_getElem (by simp [hl])
  intro i h1 h2
  have hj := h i (by omega) (by omega)
  obtain ⟨a1, e1⟩ := rd_lt (xs := p) (i := (i : Int)) (by omega) (by omega)
  obtain ⟨a2, e2'⟩ := rd_lt (xs := q) (i := (i : Int)) (by omega) (by omega)
  rw [e1, e2'] at hj
  simpa using hj
theorem sum_zero (g : List Int) (h : ∀ j, 0 ≤ j → j < (g.length : Int) → rd g j = 0) : g.sum = 0 := by
  have e := eq_map (fun _ => 0) g g rfl h
  rw [e]
  clear h e
  induction g with
  | nil => rfl
  | cons x g ih => simp only [List.map_cons, List.sum_cons]; omega
theorem bleed_keeps (k : Nat) (S : S_Sensor) (hS : Good S 32) (q : List Int) (lq : (q.length : Int) = S.W * S.H) (bq : AllIn q 0 4194304) (hk : 1100 ≤ k) :
    ∃ a lost, sensor_Bleed k S q = some (a, lost, 0) ∧ (a.length : Int) = S.W * S.H ∧ AllIn a 0 S.Full ∧ 0 ≤ lost ∧ lost ≤ 8589934592 ∧ a.sum + lost = q.sum ∧ (∀ j, 0 ≤ j → j < S.W * S.H → min (rd q j) S.Full ≤ rd a j ∧ (rd q j < rd a j → nb S a j)) := by
  have hn := hS.n (by decide)
  have W0 := hS.W0
  have W1 := hS.W1
  have F0 := hS.F0
  obtain ⟨p, e1, lp, hp⟩ := bleed_l0 k S q (S.W * S.H) (by omega) lq (S.W * S.H).toNat k (List.replicate ((q.length : Int)).toNat (0 : Int)) 0 (by omega) (by omega) (by omega) (by simp; omega) (fun j j0 j1 => by omega)
  have pm := eq_map (fun v => min v S.Full) q p (by omega) (fun j j0 j1 => by rw [hp j j0 (by omega), mn_def])
  have h0 : Held S q p (q.map fun v => max 0 (v - S.Full)) 0 0 := by
    refine ⟨lp, by simpa using lq, ?_, by omega, by omega, ?_, ?_, ?_, ?_⟩
    · rw [pm]
      intro v hv
      obtain ⟨u, hu, rfl⟩ := List.mem_map.mp hv
      have := bq u hu
      omega
    · have := sum_map2 S.Full q
      rw [pm]; omega
    · intro j j0 j1
      rw [hp j j0 j1, mn_def]; omega
    · intro j j0 j1 jx
      refine ⟨by rw [hp j j0 j1, mn_def], ?_⟩
      rw [rd_map _ q j j0 (by omega)]
      rfl
    · intro j j0 j1 jx
      have := Int.emod_nonneg j (show S.W ≠ 0 by omega)
      omega
  obtain ⟨a, g, lost, e2', hh⟩ := keep_l1 k S hS q lq bq hk S.W.toNat k p _ 0 0 (by omega) (by omega) (by omega) h0
  have wl : ∀ j, j % S.W < S.W := fun j => Int.emod_lt_of_pos j (by omega)
  have z := sum_zero g (fun j j0 j1 => (hh.done j j0 (by have := hh.lg; omega) (wl j)).1)
  refine ⟨a, lost, ?_, hh.lo, hh.bo, hh.l0, by have := hh.l1; omega, by have := hh.sum; omega, fun j j0 j1 => ⟨hh.low j j0 j1, (hh.done j j0 j1 (wl j)).2⟩⟩
  unfold sensor_Bleed
  rw [bnd (sized_ok k S _ hS lq hk), ifn (by decide), bnd (outside_Quanta k q 4294967296 (bq.mono (by decide) (by decide)) (by omega) (by omega)), ifn (by decide), ifp (by omega), ifp (by omega), bnd e1, bnd e2']
theorem u64_and32 (x : Int) (h0 : 0 ≤ x) (h1 : x < 18446744073709551616) : Go.bits .and .u64 x 4294967295 = x % 4294967296 := by
  rw [Go.u64_and x 4294967295 h0 h1 (by decide) (by decide)]
  have : x.toNat &&& (4294967295 : Int).toNat = x.toNat % 4294967296 := Nat.and_two_pow_sub_one_eq_mod x.toNat 32
  rw [this]
  omega
theorem shr32 (x : Int) : shr x 32 = x / 4294967296 := shr_def x 32
theorem mul64_eq (k : Nat) (a b : Int) (ha : 0 ≤ a) (ha' : a < 18446744073709551616) (hb : 0 ≤ b) (hb' : b < 18446744073709551616) :
    bits_Mul64 k a b = some (a * b / 18446744073709551616, a * b % 18446744073709551616) := by
  unfold bits_Mul64
  rw [u64_and32 a ha ha', u64_and32 b hb hb', shr32 a, shr32 b]
  have h1 := mul_le (a := a / 4294967296) (b := b / 4294967296) (A := 4294967295) (B := 4294967295) (by omega) (by omega) (by omega) (by omega)
  have h2 := mul_le (a := a / 4294967296) (b := b % 4294967296) (A := 4294967295) (B := 4294967295) (by omega) (by omega) (by omega) (by omega)
  have h3 := mul_le (a := a % 4294967296) (b := b / 4294967296) (A := 4294967295) (B := 4294967295) (by omega) (by omega) (by omega) (by omega)
  have h4 := mul_le (a := a % 4294967296) (b := b % 4294967296) (A := 4294967295) (B := 4294967295) (by omega) (by omega) (by omega) (by omega)
  have e : a * b = (a / 4294967296) * (b / 4294967296) * 18446744073709551616 + ((a / 4294967296) * (b % 4294967296) + (a % 4294967296) * (b / 4294967296)) * 4294967296 + (a % 4294967296) * (b % 4294967296) := by
    have ea : a = a / 4294967296 * 4294967296 + a % 4294967296 := by omega
    have eb : b = b / 4294967296 * 4294967296 + b % 4294967296 := by omega
    generalize a / 4294967296 = x1 at *
    generalize a % 4294967296 = x0 at *
    generalize b / 4294967296 = y1 at *
    generalize b % 4294967296 = y0 at *
    subst ea eb
    grind
  rw [u64_def (a * b), e]
  generalize (a / 4294967296) * (b / 4294967296) = p at *
  generalize (a / 4294967296) * (b % 4294967296) = q at *
  generalize (a % 4294967296) * (b / 4294967296) = r at *
  generalize (a % 4294967296) * (b % 4294967296) = s at *
  rw [wuid (x := s) (by omega) (by omega), wuid (x := p) (by omega) (by omega), wuid (x := q) (by omega) (by omega), wuid (x := r) (by omega) (by omega)]
  rw [shr32 s, wuid (x := q + s / 4294967296) (by omega) (by omega)]
  rw [u64_and32 (q + s / 4294967296) (by omega) (by omega), shr32 (q + s / 4294967296)]
  rw [wuid (x := p + (q + s / 4294967296) / 4294967296) (by omega) (by omega)]
  rw [wuid (x := (q + s / 4294967296) % 4294967296 + r) (by omega) (by omega), shr32]
  rw [wuid (by omega) (by omega)]
  have e1 : p + (q + s / 4294967296) / 4294967296 + ((q + s / 4294967296) % 4294967296 + r) / 4294967296 = (p * 18446744073709551616 + (q + r) * 4294967296 + s) / 18446744073709551616 := by omega
  rw [e1]
theorem xor_in (x y : Int) : 0 ≤ Go.bits .xor .u64 x y ∧ Go.bits .xor .u64 x y ≤ 18446744073709551615 := by
  unfold Go.bits
  simp only [IntKind.wrap_u64]
  omega
theorem mix_ex (k : Nat) (s n : Int) : ∃ v, quanta_Mix k s n = some v ∧ 0 ≤ v ∧ v ≤ 18446744073709551615 := ⟨_, rfl, xor_in _ _⟩
theorem qbelow_ex (k : Nat) (x n : Int) (x0 : 0 ≤ x) (x1 : x ≤ 18446744073709551615) (n0 : 1 ≤ n) (n1 : n ≤ 1000) : ∃ v, quanta_Below k x n = some v ∧ 0 ≤ v ∧ v < n := by
  unfold quanta_Below
  rw [ifn (by omega), wuid (x := n) (by omega) (by omega), bnd (mul64_eq k x n x0 (by omega) (by omega) (by omega))]
  dsimp only
  have h0 : 0 ≤ x * n := Int.mul_nonneg x0 (by omega)
  have h1 : x * n ≤ 18446744073709551615 * n := Int.mul_le_mul_of_nonneg_right x1 (by omega)
  rw [wid (by omega) (by omega)]
  exact ⟨_, rfl, by omega, by omega⟩
def want (S : S_Sensor) (q : List Int) (i : Int) : Int := rd S.Bias i + rd q i / S.Gain
theorem want_in (S : S_Sensor) (q : List Int) (i : Int) (hS : Good S 32) (lq : (q.length : Int) = S.W * S.H) (bq : AllIn q 0 4194304) (i0 : 0 ≤ i) (i1 : i < S.W * S.H) :
    0 ≤ want S q i ∧ want S q i ≤ 5000000 ∧ w64 (rd S.Bias i + (w64 (Int.tdiv (rd q i) S.Gain))) = want S q i := by
  have h1 := bq.rd i0 (show i < (q.length : Int) by omega)
  have h2 := hS.B.rd i0 (show i < (S.Bias.length : Int) by have := hS.lb; omega)
  have g0 := hS.G0
  have d0 : 0 ≤ rd q i / S.Gain := Int.ediv_nonneg h1.1 (by omega)
  have d1 : rd q i / S.Gain ≤ rd q i := Int.ediv_le_self _ h1.1
  rw [tdiv_nn h1.1, wid (x := rd q i / S.Gain) (by omega) (by omega), wid (by omega) (by omega)]
  unfold want
  omega
def near (S : S_Sensor) (q : List Int) (i x : Int) : Prop := min 65535 (max 0 (want S q i - S.Noise)) ≤ x ∧ x ≤ min 65535 (want S q i + S.Noise)
theorem read_l0 (k : Nat) (S : S_Sensor) (q : List Int) (seed number : Int) (hS : Good S 32) (lq : (q.length : Int) = S.W * S.H) (bq : AllIn q 0 4194304) : ∀ (d n : Nat) (i : Int) (out : List Int), i + d = S.W * S.H → 0 ≤ i → d < n →
    (out.length : Int) = S.W * S.H → (∀ j, 0 ≤ j → j < i → near S q j (rd out j)) →
    ∃ p, sensor_Read.l0 k q seed number S n out i = some p ∧ (p.length : Int) = S.W * S.H ∧ (∀ j, 0 ≤ j → j < S.W * S.H → near S q j (rd p j)) := by
  have hn := hS.n (by decide)
  have lb := hS.lb
  have N0 := hS.N0
  have N1 := hS.N1
  have G0 := hS.G0
  intro d
  induction d with
  | zero =>
    intro n i out hi i0 hd lo hv
    obtain ⟨n, rfl⟩ : ∃ j, n = j + 1 := ⟨n - 1, by omega⟩
    rw [sensor_Read.l0, ifn (by omega)]
    exact ⟨out, rfl, lo, fun j j0 j1 => hv j j0 (by omega)⟩
  | succ d ih =>
    intro n i out hi i0 hd lo hv
    obtain ⟨n, rfl⟩ : ∃ j, n = j + 1 := ⟨n - 1, by omega⟩
    obtain ⟨w0, w1, we⟩ := want_in S q i hS lq bq i0 (by omega)
    obtain ⟨x, hx, x0, x1⟩ := mix_ex k seed (w64 ((w64 (number * (q.length : Int))) + i))
    rw [sensor_Read.l0, ifp (by omega), ifp i0, bnd hx, wid (x := 2 * S.Noise) (by omega) (by omega), wid (x := 2 * S.Noise + 1) (by omega) (by omega)]
    obtain ⟨v, hv2, v0, v1⟩ := qbelow_ex k x (2 * S.Noise + 1) x0 x1 (by omega) (by omega)
    rw [bnd hv2, ifp (by omega), ifp (by omega), ifp (by omega), we, wid (x := v - S.Noise) (by omega) (by omega), wid (x := want S q i + (v - S.Noise)) (by omega) (by omega), wid (x := i + 1) (by omega) (by omega)]
    refine ih n (i + 1) _ (by omega) (by omega) (by omega) (by rw [List.length_set]; exact lo) ?_
    intro j j0 j1
    by_cases c : j = i
    · subst c
      rw [rd_set_eq _ _ _ i0 (by omega), mn_def, mx_def]
      unfold near
      omega
    · rw [rd_set_ne _ _ _ _ i0 j0 (by omega) c]
      exact hv j j0 (by omega)
theorem read_ok (k : Nat) (S : S_Sensor) (q : List Int) (seed number : Int) (hS : Good S 32) (lq : (q.length : Int) = S.W * S.H) (bq : AllIn q 0 4194304) (hk : 1100 ≤ k) :
    ∃ p, sensor_Read k S seed number q = some (p, 0) ∧ (p.length : Int) = S.W * S.H ∧ (∀ j, 0 ≤ j → j < S.W * S.H → near S q j (rd p j)) := by
  have hn := hS.n (by decide)
  unfold sensor_Read
  rw [bnd (sized_ok k S _ hS lq hk), ifn (by decide), bnd (outside_Quanta k q 4294967296 (bq.mono (by decide) (by decide)) (by omega) (by omega)), ifn (by decide), ifp (by omega), ifp (by omega)]
  obtain ⟨p, e, lp, hp⟩ := read_l0 k S q seed number hS lq bq (S.W * S.H).toNat k 0 (List.replicate ((q.length : Int)).toNat 0) (by omega) (by omega) (by omega) (by simp; omega) (fun j j0 j1 => by omega)
  rw [bnd e]
  exact ⟨p, rfl, lp, hp⟩
theorem mastered_eq (k : Nat) (h : 300 ≤ k) : spykeep3_mastered k = some true := by
  obtain ⟨k, rfl⟩ : ∃ j, k = j + 300 := ⟨k - 300, by omega⟩
  kernel_rfl
theorem ofq_ex (k : Nat) (lo hi : Int) (h0 : -1152921504606846976 ≤ lo) (h1 : lo ≤ hi) (h2 : hi ≤ 1152921504606846976) : bound_Of_Quanta k lo hi = some ⟨lo, hi, false⟩ := by
  unfold bound_Of_Quanta bound_Norm_Quanta bound_Check_Quanta
  dsimp only
  rw [ifn (by decide), mn_def, mx_def, ifn (by omega), ifn (by omega), ifn (by omega), bnd rfl, ifn (by decide)]
  rfl
theorem normc_ex (k : Nat) (lo hi : Int) (h0 : -1152921504606846976 ≤ lo) (h1 : lo ≤ hi) (h2 : hi ≤ 1152921504606846976) : bound_Norm_Count k ⟨lo, hi, false⟩ = some ⟨lo, hi, false⟩ := by
  unfold bound_Norm_Count bound_Check_Count
  dsimp only
  rw [ifn (by decide), mn_def, mx_def, ifn (by omega), ifn (by omega), ifn (by omega), bnd rfl, ifn (by decide)]
theorem ofc_ex (k : Nat) (lo hi : Int) (h0 : -1152921504606846976 ≤ lo) (h1 : lo ≤ hi) (h2 : hi ≤ 1152921504606846976) : bound_Of_Count k lo hi = some ⟨lo, hi, false⟩ := by
  unfold bound_Of_Count
  rw [bnd (normc_ex k lo hi h0 h1 h2)]
theorem normq_ex (k : Nat) (lo hi : Int) (h0 : -1152921504606846976 ≤ lo) (h1 : lo ≤ hi) (h2 : hi ≤ 1152921504606846976) : bound_Norm_Quanta k ⟨lo, hi, false⟩ = some ⟨lo, hi, false⟩ := by
  unfold bound_Norm_Quanta bound_Check_Quanta
  dsimp only
  rw [ifn (by decide), mn_def, mx_def, ifn (by omega), ifn (by omega), ifn (by omega), bnd rfl, ifn (by decide)]
def cam (S : S_Sensor) : S_Camera := ⟨S.W, S.H, S.Full, S.Gain, S.Noise⟩
theorem cam_ok (k : Nat) (S : S_Sensor) (hS : Good S 32) : master_CheckCamera k (cam S) = some 0 := by
  obtain ⟨W0, W1, H0, H1, lb, ld, lf, hB, hD, hF, F0, F1, G0, G1, N0, N1⟩ := hS
  unfold master_CheckCamera cam
  dsimp only
  rw [mn_def, mx_def, ifn (by omega), ifn (by omega), ifn (by omega), ifn (by omega), ifn (by omega), ifn (by omega), ifn (by omega), ifn (by omega)]
/-- What is known of a cell: nothing, or a bound that holds h. -/
def Tells (b : S_Bound) (h : Int) : Prop := b = ⟨0, 0, true⟩ ∨ ∃ lo hi, b = ⟨lo, hi, false⟩ ∧ lo ≤ h ∧ h ≤ hi ∧ 0 ≤ lo ∧ hi ≤ 100000000
def Biased (b : S_Bound) (x : Int) : Prop := ∃ lo hi, b = ⟨lo, hi, false⟩ ∧ lo ≤ x ∧ x ≤ hi ∧ 0 ≤ lo ∧ hi ≤ 100
theorem counted_ex (k : Nat) (S : S_Sensor) (hS : Good S 32) (b : S_Bound) (x h c : Int) (hb : Biased b x) (h0 : 0 ≤ h) (h1 : h ≤ 4194304) (hx : 0 ≤ x) (hn : min 65535 (max 0 (x + h / S.Gain - S.Noise)) ≤ c ∧ c ≤ min 65535 (x + h / S.Gain + S.Noise)) :
    ∃ r, master_Counted k (cam S) b c = some r ∧ Tells r h := by
  obtain ⟨lo, hi, rfl, b0, b1, b2, b3⟩ := hb
  have hc := cam_ok k S hS
  have G0 := hS.G0; have G1 := hS.G1; have N0 := hS.N0; have N1 := hS.N1
  have none : ∀ g : S_Bound → Option S_Bound, g = some → ∃ r, (bound_None_Quanta k).bind g = some r ∧ Tells r h := fun g hg => by
    subst hg; exact ⟨_, rfl, .inl rfl⟩
  unfold master_Counted
  rw [bnd (normc_ex k lo hi (by omega) (by omega) (by omega)), bnd hc]
  dsimp only
  rw [ifn (by decide), ifn (by decide), ifn (by omega)]
  by_cases c1 : c ≥ 65535
  · rw [ifp c1]; exact none _ rfl
  rw [ifn c1, ifn (by omega), ifn (by omega)]
  have eN : (cam S).Noise = S.Noise := rfl
  have eG : (cam S).Gain = S.Gain := rfl
  rw [eN, eG, wid (x := c + S.Noise) (by omega) (by omega), wid (x := c + S.Noise - lo) (by omega) (by omega)]
  have hq := Int.mul_ediv_add_emod h S.Gain
  have hm0 := Int.emod_nonneg h (show S.Gain ≠ 0 by omega)
  have hm1 := Int.emod_lt_of_pos h (show 0 < S.Gain by omega)
  have hd0 : 0 ≤ h / S.Gain := Int.ediv_nonneg h0 (by omega)
  by_cases c2 : c + S.Noise - lo < 0
  · rw [ifp c2]; exact none _ rfl
  rw [ifn c2, wid (x := c - S.Noise) (by omega) (by omega), wid (x := c - S.Noise - hi) (by omega) (by omega)]
  have mh := mul_le (a := c + S.Noise - lo) (b := S.Gain) (A := 70000) (B := 64) (by omega) (by omega) (by omega) G1
  have ml : -20000 ≤ (c - S.Noise - hi) * S.Gain ∧ (c - S.Noise - hi) * S.Gain ≤ 5000000 := by
    rcases Int.lt_or_le (c - S.Noise - hi) 0 with g | g
    · have := mul_le (a := -(c - S.Noise - hi)) (b := S.Gain) (A := 200) (B := 64) (by omega) (by omega) (by omega) G1
      rw [Int.neg_mul] at this
      omega
    · have := mul_le (a := c - S.Noise - hi) (b := S.Gain) (A := 70000) (B := 64) g (by omega) (by omega) G1
      omega
  have up : h ≤ (c + S.Noise - lo) * S.Gain + S.Gain - 1 := by
    have : h / S.Gain * S.Gain ≤ (c + S.Noise - lo) * S.Gain := Int.mul_le_mul_of_nonneg_right (by omega) (by omega)
    rw [Int.mul_comm] at this
    omega
  have dn : max 0 ((c - S.Noise - hi) * S.Gain) ≤ h := by
    rcases Int.lt_or_le (c - S.Noise - hi) 0 with g | g
    · have : (c - S.Noise - hi) * S.Gain ≤ 0 := by
        have := Int.mul_le_mul_of_nonneg_right (show c - S.Noise - hi ≤ 0 by omega) (show 0 ≤ S.Gain by omega)
        rw [Int.zero_mul] at this
        exact this
      omega
    · have : (c - S.Noise - hi) * S.Gain ≤ h / S.Gain * S.Gain := Int.mul_le_mul_of_nonneg_right (by omega) (by omega)
      rw [Int.mul_comm (h / S.Gain)] at this
      omega
  rw [wid (x := (c - S.Noise - hi) * S.Gain) (by omega) (by omega), wid (x := (c + S.Noise - lo) * S.Gain) (by omega) (by omega), wid (x := (c + S.Noise - lo) * S.Gain + S.Gain) (by omega) (by omega), wid (x := (c + S.Noise - lo) * S.Gain + S.Gain - 1) (by omega) (by omega), mx_def,
    bnd (ofq_ex k _ _ (by omega) (by omega) (by omega))]
  exact ⟨_, rfl, .inr ⟨_, _, rfl, dn, up, by omega, by omega⟩⟩
theorem bias_l0 (k : Nat) (S : S_Sensor) (hS : Good S 32) (L : List Int) : ∀ (d n : Nat) (b : List S_Bound) (i a : Int), i + d = S.W * S.H → 0 ≤ i → d < n → 0 ≤ a → a + 2 * d ≤ 4611686018427387904 → (b.length : Int) = i → (∀ j, 0 ≤ j → j < i → Biased (rd b j) (rd S.Bias j)) →
    ∃ b' a', spykeep3_MasterKeeps.l0 k S L n b i a = some (b', a') ∧ (b'.length : Int) = S.W * S.H ∧ ∀ j, 0 ≤ j → j < S.W * S.H → Biased (rd b' j) (rd S.Bias j) := by
  have hn := hS.n (by decide)
  have lb := hS.lb
  intro d
  induction d with
  | zero =>
    intro n b i a hi i0 hd a0 a1 hl hb
    obtain ⟨n, rfl⟩ : ∃ j, n = j + 1 := ⟨n - 1, by omega⟩
    rw [spykeep3_MasterKeeps.l0, ifn (by omega)]
    exact ⟨b, a, rfl, by omega, fun j j0 j1 => hb j j0 (by omega)⟩
  | succ d ih =>
    intro n b i a hi i0 hd a0 a1 hl hb
    obtain ⟨n, rfl⟩ : ∃ j, n = j + 1 := ⟨n - 1, by omega⟩
    have hB := hS.B.rd i0 (show i < (S.Bias.length : Int) by omega)
    obtain ⟨u, h1, u0, u1⟩ := next_ex k L a 3 (by decide) (by decide) (by omega) (by omega)
    obtain ⟨v, h2, v0, v1⟩ := next_ex k L (a + 1) 3 (by decide) (by decide) (by omega) (by omega)
    rw [spykeep3_MasterKeeps.l0, ifp (by omega), ifp i0, bnd h1]; dsimp only
    rw [bnd h2]; dsimp only
    rw [mx_def, wid (x := rd S.Bias i - u) (by omega) (by omega), wid (x := rd S.Bias i + v) (by omega) (by omega), bnd (ofc_ex k _ _ (by omega) (by omega) (by omega)), ifp (by omega), wid (x := i + 1) (by omega) (by omega)]
    refine ih n _ (i + 1) (a + 1 + 1) (by omega) (by omega) (by omega) (by omega) (by omega) (by rw [List.length_append, List.length_cons, List.length_nil]; omega) fun j j0 j1 => ?_
    by_cases c : j < i
    · have e : rd (b ++ [(⟨max 0 (rd S.Bias i - u), rd S.Bias i + v, false⟩ : S_Bound)]) j = rd b j := by
        obtain ⟨h, e⟩ := rd_lt (xs := b ++ [(⟨max 0 (rd S.Bias i - u), rd S.Bias i + v, false⟩ : S_Bound)]) j0 (by simp; omega)
        obtain ⟨h', e'⟩ := rd_lt (xs := b) j0 (by omega)
        rw [e, e', List.getElem_append_left h']
      rw [e]; exact hb j j0 c
    · have ej : j = i := by omega
      subst ej
      have e : rd (b ++ [(⟨max 0 (rd S.Bias j - u), rd S.Bias j + v, false⟩ : S_Bound)]) j = ⟨max 0 (rd S.Bias j - u), rd S.Bias j + v, false⟩ := by
        obtain ⟨h, e⟩ := rd_lt (xs := b ++ [(⟨max 0 (rd S.Bias j - u), rd S.Bias j + v, false⟩ : S_Bound)]) j0 (by simp; omega)
        rw [e, List.getElem_append_right (by omega)]
        simp
      rw [e]
      exact ⟨_, _, rfl, by omega, by omega, by omega, by omega⟩
theorem srd_eq {α : Type} [Inhabited α] (l : List α) (i : Int) (x : α) (h0 : 0 ≤ i) (h1 : i < (l.length : Int)) : rd (l.set i.toNat x) i = x := by
  obtain ⟨h, e⟩ := rd_lt (xs := l.set i.toNat x) h0 (by simp; omega)
  rw [e]; simp
theorem srd_ne {α : Type} [Inhabited α] (l : List α) (i j : Int) (x : α) (h0 : 0 ≤ i) (hj : 0 ≤ j) (h1 : j < (l.length : Int)) (hne : j ≠ i) : rd (l.set i.toNat x) j = rd l j := by
  obtain ⟨h, e⟩ := rd_lt (xs := l.set i.toNat x) hj (by simp; omega)
  obtain ⟨h', e'⟩ := rd_lt (xs := l) hj h1
  rw [e, e', List.getElem_set, if_neg (by omega)]
/-- Whether a cell may be full. -/
def mayFull (S : S_Sensor) (b : S_Bound) : Bool := b.Unknown || decide (b.Hi ≥ S.Full)
theorem held_l0 (k : Nat) (S : S_Sensor) (hS : Good S 32) (f : S_Frame) (b : List S_Bound) (h : List Int) (lf : (f.Counts.length : Int) = S.W * S.H) (lb : (b.length : Int) = S.W * S.H)
    (ht : ∀ i, 0 ≤ i → i < S.W * S.H → ∃ r, master_Counted k (cam S) (rd b i) (rd f.Counts i) = some r ∧ Tells r (rd h i)) : ∀ (d n : Nat) (o : List S_Bound) (g : List Bool) (i : Int), i + d = S.W * S.H → 0 ≤ i → d < n → (o.length : Int) = S.W * S.H → (g.length : Int) = S.W * S.H →
    (∀ j, 0 ≤ j → j < i → Tells (rd o j) (rd h j) ∧ rd g j = mayFull S (rd o j)) →
    ∃ o' g', master_Held.l0 k f b (cam S) n o g i = some (o', g') ∧ (o'.length : Int) = S.W * S.H ∧ (g'.length : Int) = S.W * S.H ∧ ∀ j, 0 ≤ j → j < S.W * S.H → Tells (rd o' j) (rd h j) ∧ rd g' j = mayFull S (rd o' j) := by
  have hn := hS.n (by decide)
  intro d
  induction d with
  | zero =>
    intro n o g i hi i0 hd lo lg hq
    obtain ⟨n, rfl⟩ : ∃ j, n = j + 1 := ⟨n - 1, by omega⟩
    rw [master_Held.l0, ifn (by omega)]
    exact ⟨o, g, rfl, lo, lg, fun j j0 j1 => hq j j0 (by omega)⟩
  | succ d ih =>
    intro n o g i hi i0 hd lo lg hq
    obtain ⟨n, rfl⟩ : ∃ j, n = j + 1 := ⟨n - 1, by omega⟩
    obtain ⟨r, e, hr⟩ := ht i i0 (by omega)
    have er := srd_eq o i r i0 (by omega)
    have step : ∀ z, z = mayFull S r → ∃ o' g', master_Held.l0 k f b (cam S) n (o.set i.toNat r) (g.set i.toNat z) (w64 (i + 1)) = some (o', g') ∧ (o'.length : Int) = S.W * S.H ∧ (g'.length : Int) = S.W * S.H ∧ ∀ j, 0 ≤ j → j < S.W * S.H → Tells (rd o' j) (rd h j) ∧ rd g' j = mayFull S (rd o' j) := by
      intro z hz
      rw [wid (x := i + 1) (by omega) (by omega)]
      refine ih n _ _ (i + 1) (by omega) (by omega) (by omega) (by rw [List.length_set]; exact lo) (by rw [List.length_set]; exact lg) fun j j0 j1 => ?_
      by_cases c : j = i
      · subst c
        rw [er, srd_eq g j z j0 (by omega)]
        exact ⟨hr, hz⟩
      · rw [srd_ne o i j r i0 j0 (by omega) c, srd_ne g i j z i0 j0 (by omega) c]
        exact hq j j0 (by omega)
    rw [master_Held.l0, ifp (by omega), ifp i0, ifp (by omega), bnd e, ifp (by omega), ifp (by rw [List.length_set]; omega), er]
    by_cases c : r.Unknown = true
    · rw [ifp c, ifp (by omega)]
      exact step true (by unfold mayFull; rw [c]; rfl)
    · rw [ifn c, ifp (by omega)]
      refine step _ ?_
      unfold mayFull
      rw [Bool.eq_false_iff.mpr c]
      rfl
def unk : S_Bound := ⟨0, 0, true⟩
theorem held_l1 (k : Nat) (S : S_Sensor) (hS : Good S 32) (o : List S_Bound) (g : List Bool) (lo : (o.length : Int) = S.W * S.H) (lg : (g.length : Int) = S.W * S.H) : ∀ (d n : Nat) (p : List S_Bound) (i : Int), i + d = S.W * S.H → 0 ≤ i → d < n → (p.length : Int) = S.W * S.H →
    (∀ j, i ≤ j → j < S.W * S.H → rd p j = rd o j) →
    (∀ j, 0 ≤ j → j < i → rd p j = unk ∨ (rd p j = rd o j ∧ rd g j = false ∧ (0 ≤ j - S.W → rd g (j - S.W) = false) ∧ (j + S.W < S.W * S.H → rd g (j + S.W) = false))) →
    ∃ p', master_Held.l1 k o g (cam S) n p i = some p' ∧ (p'.length : Int) = S.W * S.H ∧
      ∀ j, 0 ≤ j → j < S.W * S.H → rd p' j = unk ∨ (rd p' j = rd o j ∧ rd g j = false ∧ (0 ≤ j - S.W → rd g (j - S.W) = false) ∧ (j + S.W < S.W * S.H → rd g (j + S.W) = false)) := by
  have hn := hS.n (by decide)
  have W0 := hS.W0
  have W1 := hS.W1
  have eW : (cam S).W = S.W := rfl
  intro d
  induction d with
  | zero =>
    intro n p i hi i0 hd lp h1 h2
    obtain ⟨n, rfl⟩ : ∃ j, n = j + 1 := ⟨n - 1, by omega⟩
    rw [master_Held.l1, ifn (by omega)]
    exact ⟨p, rfl, lp, fun j j0 j1 => h2 j j0 (by omega)⟩
  | succ d ih =>
    intro n p i hi i0 hd lp h1 h2
    obtain ⟨n, rfl⟩ : ∃ j, n = j + 1 := ⟨n - 1, by omega⟩
    have cut : ∃ p', master_Held.l1 k o g (cam S) n (p.set i.toNat unk) (i + 1) = some p' ∧ (p'.length : Int) = S.W * S.H ∧
      ∀ j, 0 ≤ j → j < S.W * S.H → rd p' j = unk ∨ (rd p' j = rd o j ∧ rd g j = false ∧ (0 ≤ j - S.W → rd g (j - S.W) = false) ∧ (j + S.W < S.W * S.H → rd g (j + S.W) = false)) := by
      refine ih n _ (i + 1) (by omega) (by omega) (by omega) (by rw [List.length_set]; exact lp) (fun j j0 j1 => ?_) fun j j0 j1 => ?_
      · rw [srd_ne p i j unk i0 (by omega) (by omega) (by omega)]; exact h1 j (by omega) j1
      · by_cases c : j = i
        · subst c; exact .inl (srd_eq p j unk j0 (by omega))
        · rw [srd_ne p i j unk i0 j0 (by omega) c]; exact h2 j j0 (by omega)
    have keep : rd g i = false → (0 ≤ i - S.W → rd g (i - S.W) = false) → (i + S.W < S.W * S.H → rd g (i + S.W) = false) → ∃ p', master_Held.l1 k o g (cam S) n p (i + 1) = some p' ∧ (p'.length : Int) = S.W * S.H ∧
      ∀ j, 0 ≤ j → j < S.W * S.H → rd p' j = unk ∨ (rd p' j = rd o j ∧ rd g j = false ∧ (0 ≤ j - S.W → rd g (j - S.W) = false) ∧ (j + S.W < S.W * S.H → rd g (j + S.W) = false)) := by
      intro k1 k2 k3
      refine ih n _ (i + 1) (by omega) (by omega) (by omega) lp (fun j j0 j1 => h1 j (by omega) j1) fun j j0 j1 => ?_
      by_cases c : j = i
      · subst c; exact .inr ⟨h1 j (by omega) (by omega), k1, k2, k3⟩
      · exact h2 j j0 (by omega)
    have nn : bound_None_Quanta k = some unk := rfl
    rw [master_Held.l1, ifp (by omega), ifp i0, ifp (by omega), eW, wid (x := i - S.W) (by omega) (by omega), wid (x := i + S.W) (by omega) (by omega), wid (x := i + 1) (by omega) (by omega)]
    by_cases c1 : rd g i = true
    · rw [ifp c1, bnd nn, ifp (by omega)]; exact cut
    rw [ifn c1]
    have c1' := Bool.eq_false_iff.mpr c1
    by_cases c2 : i - S.W ≥ 0
    · rw [ifp c2, ifp (by omega), ifp (by omega)]
      by_cases c3 : rd g (i - S.W) = true
      · rw [ifp c3, bnd nn, ifp (by omega)]; exact cut
      rw [ifn c3]
      have c3' := Bool.eq_false_iff.mpr c3
      by_cases c4 : i + S.W < (p.length : Int)
      · rw [ifp c4, ifp (by omega), ifp (by omega)]
        by_cases c5 : rd g (i + S.W) = true
        · rw [ifp c5, bnd nn, ifp (by omega)]; exact cut
        · rw [ifn c5]; exact keep c1' (fun _ => c3') (fun _ => Bool.eq_false_iff.mpr c5)
      · rw [ifn c4]; exact keep c1' (fun _ => c3') (fun h => by omega)
    · rw [ifn c2]
      by_cases c4 : i + S.W < (p.length : Int)
      · rw [ifp c4, ifp (by omega), ifp (by omega)]
        by_cases c5 : rd g (i + S.W) = true
        · rw [ifp c5, bnd nn, ifp (by omega)]; exact cut
        · rw [ifn c5]; exact keep c1' (fun h => by omega) (fun _ => Bool.eq_false_iff.mpr c5)
      · rw [ifn c4]; exact keep c1' (fun h => by omega) (fun h => by omega)
theorem keeps_l1 (k : Nat) (S : S_Sensor) (hS : Good S 32) (L q h : List Int) (b : List S_Bound) (lq : (q.length : Int) = S.W * S.H) (lh : (h.length : Int) = S.W * S.H) (lb : (b.length : Int) = S.W * S.H)
    (hb : ∀ j, 0 ≤ j → j < S.W * S.H → rd b j = unk ∨ ∃ lo hi, rd b j = ⟨lo, hi, false⟩ ∧ lo ≤ rd q j ∧ rd q j ≤ hi ∧ 0 ≤ lo ∧ hi ≤ 100000000 ∧ rd h j = rd q j ∧ rd q j < S.Full) : ∀ (d n : Nat) (i : Int), i + d = S.W * S.H → 0 ≤ i → d < n →
    spykeep3_MasterKeeps.l1 k q b h S L n i = some (Sum.inr ()) := by
  have hn := hS.n (by decide)
  intro d
  induction d with
  | zero =>
    intro n i hi i0 hd
    obtain ⟨n, rfl⟩ : ∃ j, n = j + 1 := ⟨n - 1, by omega⟩
    rw [spykeep3_MasterKeeps.l1, ifn (by omega)]
  | succ d ih =>
    intro n i hi i0 hd
    obtain ⟨n, rfl⟩ : ∃ j, n = j + 1 := ⟨n - 1, by omega⟩
    have next := ih n (i + 1) (by omega) (by omega) (by omega)
    rw [spykeep3_MasterKeeps.l1, ifp (by omega), ifp i0, ifp (by omega), wid (x := i + 1) (by omega) (by omega), next]
    rcases hb i i0 (by omega) with e | ⟨lo, hi, e, b0, b1, b2, b3, b4, b5⟩
    · rw [e, ifn (by decide)]
    · have hh : bound_Has_Quanta k ⟨lo, hi, false⟩ (rd q i) = some true := by
        unfold bound_Has_Quanta bound_vague_Quanta
        rw [bnd (normq_ex k lo hi (by omega) (by omega) (by omega))]
        dsimp only
        rw [ifn (show ¬ (false = true) by decide), bnd (normq_ex k lo hi (by omega) (by omega) (by omega)), bnd rfl, ifn (show ¬ (false = true) by decide), ifp b0, decide_eq_true b1]
      rw [e, ifp (show ¬ (false = true) by decide), bnd hh, ifn (by decide), ifp (by omega), ifn (by omega), ifn (by omega)]
theorem law (k : Nat) (L : List Int) (seed : Int) (hk : 1100 ≤ k) : spykeep3_MasterKeeps k L seed = some true := by
  obtain ⟨S, a0, h1, hS', a1, a2⟩ := sensor_ex k L 0 5 (by decide) (by decide) (by decide) (by decide) hk
  have hS : Good S 32 := hS'.wide (by decide)
  have hn := hS.n (by decide)
  have F0 := hS.F0; have F1 := hS.F1; have W0 := hS.W0; have W1 := hS.W1
  obtain ⟨q, a3, h2, lq, bq, a4, a5⟩ := filled_ex k L a0 S hS (by omega) (by omega) hk
  obtain ⟨h, lost, h3, la, ba, lo0, lo1, hs, hc⟩ := bleed_keeps k S hS q lq bq hk
  obtain ⟨p, h4, lp, hp⟩ := read_ok k S h seed 1 hS la (ba.mono (by decide) (by omega)) hk
  obtain ⟨b, a6, h5, lb, hb⟩ := bias_l0 k S hS L (S.W * S.H).toNat k [] 0 a3 (by omega) (by omega) (by omega) (by omega) (by omega) rfl (fun j j0 j1 => by omega)
  have ht : ∀ i, 0 ≤ i → i < S.W * S.H → ∃ r, master_Counted k (cam S) (rd b i) (rd p i) = some r ∧ Tells r (rd h i) := fun i i0 i1 => by
    have hh := ba.rd i0 (show i < (h.length : Int) by omega)
    have hB := hS.B.rd i0 (show i < (S.Bias.length : Int) by have := hS.lb; omega)
    exact counted_ex k S hS _ _ _ _ (hb i i0 i1) hh.1 (by omega) hB.1 (hp i i0 i1)
  obtain ⟨o, g, h6, lo, lg, ho⟩ := held_l0 k S hS ⟨S.W, S.H, [], p⟩ b h lp lb ht (S.W * S.H).toNat k (List.replicate ((b.length : Int)).toNat ((⟨0, 0, false⟩ : S_Bound) : S_Bound)) (List.replicate ((b.length : Int)).toNat (false : Bool)) 0 (by omega) (by omega) (by omega) (by simp; omega) (by simp; omega) (fun j j0 j1 => by omega)
  obtain ⟨r, h7, lr, hr⟩ := held_l1 k S hS o g lo lg (S.W * S.H).toNat k o 0 (by omega) (by omega) (by omega) lo (fun j _ _ => rfl) (fun j j0 j1 => by omega)
  have h8 : master_Held k (cam S) b ⟨S.W, S.H, [], p⟩ = some (r, 0) := by
    have eW : (cam S).W = S.W := rfl
    have eH : (cam S).H = S.H := rfl
    unfold master_Held
    rw [bnd (cam_ok k S hS), ifn (by decide), eW, eH, wid (x := S.W * S.H) (by omega) (by omega), ifn (by omega)]
    dsimp only
    rw [ifn (by simp), ifn (by simp), ifn (by omega), ifp (by omega), ifp (by omega), ifp (by omega), bnd h6]
    dsimp only
    rw [bnd h7]
  have notfull : ∀ j, 0 ≤ j → j < S.W * S.H → rd g j = false → rd h j < S.Full := by
    intro j j0 j1 hg
    obtain ⟨t, e⟩ := ho j j0 j1
    rw [hg] at e
    rcases t with t | ⟨lo', hi', t, t0, t1, _, _⟩
    · rw [t] at e; cases e
    · rw [t] at e
      unfold mayFull at e
      have e : decide (hi' ≥ S.Full) = false := e.symm
      have := of_decide_eq_false e
      omega
  have hfin : ∀ j, 0 ≤ j → j < S.W * S.H → rd r j = unk ∨ ∃ lo hi, rd r j = ⟨lo, hi, false⟩ ∧ lo ≤ rd q j ∧ rd q j ≤ hi ∧ 0 ≤ lo ∧ hi ≤ 100000000 ∧ rd h j = rd q j ∧ rd q j < S.Full := by
    intro j j0 j1
    rcases hr j j0 j1 with e | ⟨e, g0, g1, g2⟩
    · exact .inl e
    · obtain ⟨m1, m2⟩ := hc j j0 j1
      have nf := notfull j j0 j1 g0
      have eq : rd h j = rd q j := by
        rcases Int.lt_or_le (rd q j) (rd h j) with c | c
        · rcases m2 c with ⟨x, y⟩ | ⟨x, y⟩
          · have := notfull (j - S.W) x (by omega) (g1 x)
            omega
          · have := notfull (j + S.W) (by omega) x (g2 x)
            omega
        · omega
      rcases (ho j j0 j1).1 with t | ⟨lo', hi', t, t0, t1, t2, t3⟩
      · rw [t] at e; exact .inl e
      · exact .inr ⟨lo', hi', by rw [e, t], by omega, by omega, t2, t3, eq, by omega⟩
  unfold spykeep3_MasterKeeps
  rw [bnd h1]; dsimp only
  rw [bnd h2]; dsimp only
  rw [bnd h3]; dsimp only
  rw [bnd h4]; dsimp only
  rw [bnd (mastered_eq k (by omega)), ifn (by decide), ifn (by decide), ifn (by decide), ifn (by omega), bnd h5]; dsimp only
  rw [bnd (show master_Of k S = some (cam S) from rfl), bnd h8]; dsimp only
  rw [ifn (by decide), ifn (by omega), bnd (keeps_l1 k S hS L q h r lq la lr hfin (S.W * S.H).toNat k 0 (by omega) (by omega) (by omega))]
  rfl
theorem law_ex (L : List Int) (seed : Int) (_ : (Lit.int .u64 seed).wf = true) : ∃ k, spykeep3_MasterKeeps k L seed = some true := ⟨1100, law 1100 L seed (by decide)⟩

end Go.Sp.K3
