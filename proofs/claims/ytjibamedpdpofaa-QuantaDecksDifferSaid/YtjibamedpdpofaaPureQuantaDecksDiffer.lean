import Derived.Test.YtjibamedpdpofaaFQ9
import Derived.KernelRfl
import Derived.Laws.BitsLemmas
import Derived.Laws.Bits64
import Derived.Laws.BitsAllLaws
namespace Go.Sp.Q9
open Go Go.Sp
set_option linter.unusedVariables false
theorem bnd {α β : Type} {x : Option α} {g : α → Option β} {v : α} (h : x = some v) : x.bind g = g v := by rw [h]; rfl
theorem ifp {α : Type} {c : Prop} [Decidable c] {x y : α} (h : c) : (if c then x else y) = x := if_pos h
theorem ifn {α : Type} {c : Prop} [Decidable c] {x y : α} (h : ¬ c) : (if c then x else y) = y := if_neg h
theorem rd_mem {α : Type} [Inhabited α] {l : List α} {i : Int} (h0 : 0 ≤ i) (h1 : i < (l.length : Int)) : rd l i ∈ l := by
  obtain ⟨h, e⟩ := rd_lt h0 h1
  rw [e]; exact List.getElem_mem h
theorem wid {x : Int} (h : -9223372036854775808 ≤ x) (h' : x ≤ 9223372036854775807) : w64 x = x := w64_of h h'
theorem wuid {x : Int} (h : 0 ≤ x) (h' : x ≤ 18446744073709551615) : u64 x = x := u64_of h h'
theorem mul_le {a b A B : Int} (h1 : 0 ≤ a) (h2 : a ≤ A) (h3 : 0 ≤ b) (h4 : b ≤ B) : 0 ≤ a * b ∧ a * b ≤ A * B :=
  ⟨Int.mul_nonneg h1 h3, Int.mul_le_mul h2 h4 h3 (by omega)⟩
theorem tdiv_nn {a b : Int} (h : 0 ≤ a) : Int.tdiv a b = a / b := Int.tdiv_eq_ediv_of_nonneg h
theorem tmod_nn {a b : Int} (h : 0 ≤ a) : Int.tmod a b = a % b := Int.tmod_eq_emod_of_nonneg h
def AllIn (l : List Int) (lo hi : Int) : Prop := ∀ x, x ∈ l → lo ≤ x ∧ x ≤ hi
theorem AllIn.nil {lo hi : Int} : AllIn [] lo hi := fun x h => by cases h
theorem AllIn.push {l : List Int} {lo hi x : Int} (h : AllIn l lo hi) (h0 : lo ≤ x) (h1 : x ≤ hi) : AllIn (l ++ [x]) lo hi := by
  intro y hy
  rcases List.mem_append.mp hy with hy | hy
  · exact h y hy
  · simp only [List.mem_singleton] at hy; subst hy; exact ⟨h0, h1⟩
theorem AllIn.rd {l : List Int} {lo hi i : Int} (h : AllIn l lo hi) (h0 : 0 ≤ i) (h1 : i < (l.length : Int)) : lo ≤ rd l i ∧ rd l i ≤ hi := h _ (rd_mem h0 h1)
theorem AllIn.mono {l : List Int} {lo hi lo' hi' : Int} (h : AllIn l lo hi) (h0 : lo' ≤ lo) (h1 : hi ≤ hi') : AllIn l lo' hi' := fun x hx => by have := h x hx; omega
theorem rd_set_eq (l : List Int) (i x : Int) (h0 : 0 ≤ i) (h1 : i < (l.length : Int)) : rd (l.set i.toNat x) i = x := by
  obtain ⟨h, e⟩ := rd_lt (xs := l.set i.toNat x) h0 (by simp; omega)
  rw [e]; simp
theorem rd_set_ne (l : List Int) (i j x : Int) (h0 : 0 ≤ i) (hj : 0 ≤ j) (h1 : j < (l.length : Int)) (hne : j ≠ i) : rd (l.set i.toNat x) j = rd l j := by
  obtain ⟨h, e⟩ := rd_lt (xs := l.set i.toNat x) hj (by simp; omega)
  obtain ⟨h', e'⟩ := rd_lt (xs := l) hj h1
  rw [e, e', List.getElem_set, if_neg (by omega)]
theorem rd_push_old (l : List Int) (x i : Int) (h0 : 0 ≤ i) (h1 : i < (l.length : Int)) : rd (l ++ [x]) i = rd l i := by
  obtain ⟨h, e⟩ := rd_lt (xs := l ++ [x]) h0 (by simp; omega)
  obtain ⟨h', e'⟩ := rd_lt (xs := l) h0 h1
  rw [e, e', List.getElem_append_left h']
theorem rd_push_new (l : List Int) (x i : Int) (h1 : i = (l.length : Int)) : rd (l ++ [x]) i = x := by
  obtain ⟨h, e⟩ := rd_lt (xs := l ++ [x]) (i := i) (by omega) (by simp; omega)
  rw [e, List.getElem_append_right (by omega)]
  simp
theorem u64_and32 (x : Int) (h0 : 0 ≤ x) (h1 : x < 18446744073709551616) : Go.bits .and .u64 x 4294967295 = x % 4294967296 := by
  rw [Go.u64_and x 4294967295 h0 h1 (by decide) (by decide)]
  have : x.toNat &&& (4294967295 : Int).toNat = x.toNat % 4294967296 := Nat.and_two_pow_sub_one_eq_mod x.toNat 32
  rw [this]
  omega
theorem shr32 (x : Int) : shr x 32 = x / 4294967296 := shr_def x 32
theorem mul64_eq (k : Nat) (a b : Int) (ha : 0 ≤ a) (ha' : a < 18446744073709551616) (hb : 0 ≤ b) (hb' : b < 18446744073709551616) :
    bits_Mul64 k a b = some (a * b / 18446744073709551616, a * b % 18446744073709551616) := by
  unfold bits_Mul64
  rw [u64_and32 a ha ha', u64_and32 b hb hb', shr32 a, shr32 b]
  have h1 := mul_le (a := a / 4294967296) (b := b / 4294967296) (A := 4294967295) (B := 4294967295) (by omega) (by omega) (by omega) (by omega)
  have h2 := mul_le (a := a / 4294967296) (b := b % 4294967296) (A := 4294967295) (B := 4294967295) (by omega) (by omega) (by omega) (by omega)
  have h3 := mul_le (a := a % 4294967296) (b := b / 4294967296) (A := 4294967295) (B := 4294967295) (by omega) (by omega) (by omega) (by omega)
  have h4 := mul_le (a := a % 4294967296) (b := b % 4294967296) (A := 4294967295) (B := 4294967295) (by omega) (by omega) (by omega) (by omega)
  have e : a * b = (a / 4294967296) * (b / 4294967296) * 18446744073709551616 + ((a / 4294967296) * (b % 4294967296) + (a % 4294967296) * (b / 4294967296)) * 4294967296 + (a % 4294967296) * (b % 4294967296) := by
    have ea : a = a / 4294967296 * 4294967296 + a % 4294967296 := by omega
    have eb : b = b / 4294967296 * 4294967296 + b % 4294967296 := by omega
    generalize a / 4294967296 = x1 at *
    generalize a % 4294967296 = x0 at *
    generalize b / 4294967296 = y1 at *
    generalize b % 4294967296 = y0 at *
    subst ea eb
    grind
  rw [u64_def (a * b), e]
  generalize (a / 4294967296) * (b / 4294967296) = p at *
  generalize (a / 4294967296) * (b % 4294967296) = q at *
  generalize (a % 4294967296) * (b / 4294967296) = r at *
  generalize (a % 4294967296) * (b % 4294967296) = s at *
  rw [wuid (x := s) (by omega) (by omega), wuid (x := p) (by omega) (by omega), wuid (x := q) (by omega) (by omega), wuid (x := r) (by omega) (by omega)]
  rw [shr32 s, wuid (x := q + s / 4294967296) (by omega) (by omega)]
  rw [u64_and32 (q + s / 4294967296) (by omega) (by omega), shr32 (q + s / 4294967296)]
  rw [wuid (x := p + (q + s / 4294967296) / 4294967296) (by omega) (by omega)]
  rw [wuid (x := (q + s / 4294967296) % 4294967296 + r) (by omega) (by omega), shr32]
  rw [wuid (by omega) (by omega)]
  have e1 : p + (q + s / 4294967296) / 4294967296 + ((q + s / 4294967296) % 4294967296 + r) / 4294967296 = (p * 18446744073709551616 + (q + r) * 4294967296 + s) / 18446744073709551616 := by omega
  rw [e1]
theorem bits_u64 (op : Go.BinOp) (x y : Int) : 0 ≤ Go.bits op .u64 x y ∧ Go.bits op .u64 x y ≤ 18446744073709551615 := by
  unfold Go.bits
  rw [IntKind.wrap_u64]
  omega
theorem qbelow_ex (k : Nat) (x n : Int) (hx0 : 0 ≤ x) (hx : x ≤ 18446744073709551615) (hn : 1 ≤ n) (hn' : n ≤ 4611686018427387904) : ∃ t, quanta_Below k x n = some t ∧ 0 ≤ t ∧ t < n := by
  unfold quanta_Below
  have hb := mul_le (a := x) (b := n) (A := 18446744073709551615) (B := n) hx0 hx (by omega) (Int.le_refl _)
  rw [ifn (by omega), wuid (x := n) (by omega) (by omega), bnd (mul64_eq k x n hx0 (by omega) (by omega) (by omega))]
  dsimp only
  rw [wid (by omega) (by omega)]
  exact ⟨_, rfl, by omega, by omega⟩
theorem mix_ex (k : Nat) (s n : Int) : ∃ x, quanta_Mix k s n = some x ∧ 0 ≤ x ∧ x ≤ 18446744073709551615 := by
  unfold quanta_Mix
  exact ⟨_, rfl, bits_u64 _ _ _⟩
theorem below_ex (k : Nat) (x n : Int) (h1 : 1 ≤ n) (h2 : n ≤ 4611686018427387904) : ∃ v, spymake_Below k x n = some v ∧ 0 ≤ v ∧ v < n := by
  have e1 := Int.tmod_lt_of_pos x (show 0 < n by omega)
  have e2 := Int.lt_tmod_of_pos x (show 0 < n by omega)
  unfold spymake_Below
  rw [ifn (by omega), ifp (by omega)]
  by_cases c : Int.tmod x n < 0
  · rw [ifp c]
    refine ⟨_, rfl, ?_, ?_⟩ <;> rw [wid (by omega) (by omega)] <;> omega
  · rw [ifn c]
    exact ⟨_, rfl, by omega, by omega⟩
theorem drawn_eq (k : Nat) (h : 100 ≤ k) : spykeep3_drawn k = some true := by
  obtain ⟨k, rfl⟩ : ∃ j, k = j + 100 := ⟨k - 100, by omega⟩
  kernel_rfl
def ids (n : Nat) : List Int := (List.range n).map fun (i : Nat) => (i : Int)
theorem ids_len (n : Nat) : (ids n).length = n := by simp [ids]
theorem ids_get (n i : Nat) (h : i < (ids n).length) : (ids n)[i] = (i : Int) := by simp [ids]
theorem deck_l0 (k n : Nat) (hn : n ≤ 300) : ∀ (d m : Nat) (L : List Int) (x : Nat), x + d = n → d < m → L.length = n → (∀ p : Nat, p < x → ∀ h : p < L.length, L[p] = (p : Int)) →
    quanta_Deck.l0 k (n : Int) m L x = some (ids n) := by
  intro d
  induction d with
  | zero =>
    intro m L x hx hm hL hp
    obtain ⟨m, rfl⟩ : ∃ q, m = q + 1 := ⟨m - 1, by omega⟩
    rw [quanta_Deck.l0, ifn (by rw [List.length_replicate]; omega)]
    have : L = ids n := by
      refine List.ext_getElem (by rw [ids_len]; exact hL) fun i h1 h2 => ?_
      rw [ids_get, hp i (by omega) h1]
    rw [this]
  | succ d ih =>
    intro m L x hx hm hL hp
    obtain ⟨m, rfl⟩ : ∃ q, m = q + 1 := ⟨m - 1, by omega⟩
    rw [quanta_Deck.l0, ifp (by rw [List.length_replicate]; omega), ifp (by omega), ifp (by omega), wid (x := (x : Int) + 1) (by omega) (by omega)]
    refine ih m _ (x + 1) (by omega) (by omega) (by rw [List.length_set]; exact hL) fun p h1 h2 => ?_
    rw [List.length_set] at h2
    rw [List.getElem_set]
    by_cases c : p = x
    · rw [if_pos (by omega), c]
    · rw [if_neg (by omega), hp p (by omega) h2]
/-- One step of a deck: its numbers stay, and what lies before x. -/
theorem swap_ex (L : List Int) (x j : Int) (x0 : 0 ≤ x) (hj : x ≤ j) (j1 : j < (L.length : Int)) :
    ((L.set x.toNat (rd L j)).set j.toNat (rd L x)).Perm L ∧ ((L.set x.toNat (rd L j)).set j.toNat (rd L x)).take x.toNat = L.take x.toNat := by
  obtain ⟨h1, e1⟩ := rd_lt (xs := L) (i := j) (by omega) j1
  obtain ⟨h2, e2⟩ := rd_lt (xs := L) (i := x) (by omega) (by omega)
  rw [e1, e2]
  exact ⟨List.set_set_perm h2 h1, by rw [List.take_set_of_le (by omega), List.take_set_of_le (Nat.le_refl _)]⟩
theorem take_down {L L' : List Int} {a b : Nat} (h : L'.take b = L.take b) (hab : a ≤ b) : L'.take a = L.take a := by
  have := congrArg (List.take a) h
  rwa [List.take_take, List.take_take, Nat.min_eq_left hab] at this
theorem deck_step (k : Nat) (s n x : Int) (n1 : n ≤ 300) (x0 : 0 ≤ x) (x1 : x < n) : ∃ j, x ≤ j ∧ j < n ∧ ∀ (v : Int) (m : Nat) (L : List Int), x < v → (L.length : Int) = n →
    quanta_Deck.l1 k v s n (m + 1) L x = quanta_Deck.l1 k v s n m ((L.set x.toNat (rd L j)).set j.toNat (rd L x)) (x + 1) := by
  obtain ⟨y, e1, y0, y1⟩ := mix_ex k s x
  obtain ⟨t, e2, t0, t1⟩ := qbelow_ex k y (n - x) y0 y1 (by omega) (by omega)
  refine ⟨x + t, by omega, by omega, fun v m L hv hL => ?_⟩
  rw [quanta_Deck.l1, ifp hv, bnd e1, wid (x := n - x) (by omega) (by omega), bnd e2, wid (x := x + t) (by omega) (by omega), ifp (by omega), ifp (by omega), ifp x0, ifp (by omega), ifp (by rw [List.length_set]; omega), wid (x := x + 1) (by omega) (by omega)]
theorem deck_l1 (k : Nat) (s n v : Int) (n1 : n ≤ 300) (hv : v ≤ n) : ∀ (d m : Nat) (L : List Int) (x : Int), x + d = v → 0 ≤ x → d < m → (L.length : Int) = n →
    ∃ D, quanta_Deck.l1 k v s n m L x = some D ∧ D.Perm L ∧ D.take x.toNat = L.take x.toNat := by
  intro d
  induction d with
  | zero =>
    intro m L x hx x0 hm hL
    obtain ⟨m, rfl⟩ : ∃ q, m = q + 1 := ⟨m - 1, by omega⟩
    rw [quanta_Deck.l1, ifn (by omega)]
    exact ⟨L, rfl, List.Perm.refl _, rfl⟩
  | succ d ih =>
    intro m L x hx x0 hm hL
    obtain ⟨m, rfl⟩ : ∃ q, m = q + 1 := ⟨m - 1, by omega⟩
    obtain ⟨j, j0, j1, hstep⟩ := deck_step k s n x n1 x0 (by omega)
    rw [hstep v m L (by omega) hL]
    obtain ⟨p1, p2⟩ := swap_ex L x j x0 j0 (by omega)
    obtain ⟨D, e, q1, q2⟩ := ih m _ (x + 1) (by omega) (by omega) (by omega) (by rw [p1.length_eq]; exact hL)
    exact ⟨D, e, q1.trans p1, (take_down q2 (by omega)).trans p2⟩
theorem deck_two (k : Nat) (s n v : Int) (n1 : n ≤ 300) (hv : v ≤ n) : ∀ (d m m' : Nat) (L : List Int) (x : Int), x + d = v → 0 ≤ x → d < m → d + (n - v).toNat < m' → (L.length : Int) = n →
    ∃ D D', quanta_Deck.l1 k v s n m L x = some D ∧ quanta_Deck.l1 k n s n m' L x = some D' ∧ D.Perm L ∧ D'.Perm L ∧ D'.take v.toNat = D.take v.toNat := by
  intro d
  induction d with
  | zero =>
    intro m m' L x hx x0 hm hm' hL
    obtain ⟨m, rfl⟩ : ∃ q, m = q + 1 := ⟨m - 1, by omega⟩
    obtain ⟨D', e, p1, p2⟩ := deck_l1 k s n n n1 (Int.le_refl _) (n - v).toNat m' L x (by omega) x0 (by omega) hL
    rw [quanta_Deck.l1, ifn (by omega)]
    exact ⟨L, D', rfl, e, List.Perm.refl _, p1, by rw [show v = x by omega]; exact p2⟩
  | succ d ih =>
    intro m m' L x hx x0 hm hm' hL
    obtain ⟨m, rfl⟩ : ∃ q, m = q + 1 := ⟨m - 1, by omega⟩
    obtain ⟨m', rfl⟩ : ∃ q, m' = q + 1 := ⟨m' - 1, by omega⟩
    obtain ⟨j, j0, j1, hstep⟩ := deck_step k s n x n1 x0 (by omega)
    rw [hstep v m L (by omega) hL, hstep n m' L (by omega) hL]
    obtain ⟨p1, p2⟩ := swap_ex L x j x0 j0 (by omega)
    obtain ⟨D, D', e, e', q1, q2, q3⟩ := ih m m' _ (x + 1) (by omega) (by omega) (by omega) (by omega) (by rw [p1.length_eq]; exact hL)
    exact ⟨D, D', e, e', q1.trans p1, q2.trans p1, q3⟩
theorem decks_ex (k : Nat) (s : Int) (n v : Nat) (hn : n ≤ 300) (hv : v ≤ n) (hk : 400 ≤ k) : ∃ (D D' : List Int), quanta_Deck k s n v = some (D.take v, 0) ∧ quanta_Deck k s n n = some (D', 0) ∧ D.length = n ∧ D'.Perm (ids n) ∧ D'.take v = D.take v := by
  have h0 : quanta_Deck.l0 k (n : Int) k (List.replicate (n : Int).toNat (0 : Int)) 0 = some (ids n) := deck_l0 k n hn n k _ 0 (by omega) (by omega) (by rw [List.length_replicate]; omega) (fun p hp => by omega)
  have hl := ids_len n
  obtain ⟨D, D', e, e', p1, p2, p3⟩ := deck_two k s n v (by omega) (by omega) v k k (ids n) 0 (by omega) (by omega) (by omega) (by omega) (by omega)
  have l1 := p1.length_eq
  have l2 := p2.length_eq
  refine ⟨D, D', ?_, ?_, by omega, p2, by simpa using p3⟩
  · unfold quanta_Deck
    rw [ifn (by omega), ifn (by omega), ifn (by omega), ifn (by omega), ifp (by omega), ifp (by omega), bnd h0, bnd e, ifp (by omega), ifp (by omega), Int.toNat_natCast]
  · unfold quanta_Deck
    rw [ifn (by omega), ifn (by omega), ifn (by omega), ifn (by omega), ifp (by omega), ifp (by omega), bnd h0, bnd e', ifp (by omega), ifp (by omega), Int.toNat_natCast, List.take_of_length_le (by omega)]
theorem equal_l0 (k : Nat) (s : List Int) (hl : s.length ≤ 300) : ∀ (d n : Nat) (i : Int), i + d = s.length → 0 ≤ i → d < n → slices_Equal_int.l0 k s s n i = some (Sum.inr ()) := by
  intro d
  induction d with
  | zero =>
    intro n i hi i0 hn
    obtain ⟨n, rfl⟩ : ∃ q, n = q + 1 := ⟨n - 1, by omega⟩
    rw [slices_Equal_int.l0, ifn (by omega)]
  | succ d ih =>
    intro n i hi i0 hn
    obtain ⟨n, rfl⟩ : ∃ q, n = q + 1 := ⟨n - 1, by omega⟩
    rw [slices_Equal_int.l0, ifp (by omega), ifp i0, ifp (by omega), ifn (fun h => h rfl), wid (x := i + 1) (by omega) (by omega)]
    exact ih n (i + 1) (by omega) (by omega) (by omega)
theorem equal_eq (k : Nat) (s : List Int) (hl : s.length ≤ 300) (hk : 400 ≤ k) : slices_Equal_int k s s = some true := by
  unfold slices_Equal_int
  rw [ifn (fun h => h rfl), bnd (equal_l0 k s hl s.length k 0 (by omega) (by decide) (by omega))]
  rfl
theorem ids_pair (n : Nat) : (ids n).Pairwise fun x y => decide (x ≤ y) = true := by
  rw [List.pairwise_iff_getElem]
  intro i j hi hj hij
  rw [ids_get, ids_get]
  exact decide_eq_true (by omega)
theorem sort_eq (k n : Nat) (D : List Int) (h : D.Perm (ids n)) (hn : n ≤ 300) : slices_Sort_int k D = some (ids n) := by
  have hl := h.length_eq
  rw [ids_len] at hl
  unfold slices_Sort_int
  rw [ifp (by omega)]
  congr 1
  refine List.Perm.eq_of_pairwise (le := fun x y => decide (x ≤ y) = true) (fun a b _ _ h1 h2 => ?_) (List.pairwise_mergeSort (fun a b c h1 h2 => ?_) (fun a b => ?_) D) (ids_pair n) ((List.mergeSort_perm D _).trans h)
  · have := of_decide_eq_true h1
    have := of_decide_eq_true h2
    omega
  · have := of_decide_eq_true h1
    have := of_decide_eq_true h2
    exact decide_eq_true (by omega)
  · rcases Int.le_total a b with c | c
    · rw [decide_eq_true c]; rfl
    · rw [decide_eq_true c, Bool.or_true]
theorem ids_l0 (k n : Nat) (hn : n ≤ 300) : ∀ (d m : Nat) (x : Nat), x + d = n → d < m → spykeep3_QuantaDecksDiffer.l0 k (ids n) m x = some (Sum.inr ()) := by
  have hl := ids_len n
  intro d
  induction d with
  | zero =>
    intro m x hx hm
    obtain ⟨m, rfl⟩ : ∃ q, m = q + 1 := ⟨m - 1, by omega⟩
    rw [spykeep3_QuantaDecksDiffer.l0, ifn (by omega)]
  | succ d ih =>
    intro m x hx hm
    obtain ⟨m, rfl⟩ : ∃ q, m = q + 1 := ⟨m - 1, by omega⟩
    have e : rd (ids n) x = x := by
      obtain ⟨h, e⟩ := rd_lt (xs := ids n) (i := (x : Int)) (by omega) (by omega)
      rw [e, ids_get]; rfl
    rw [spykeep3_QuantaDecksDiffer.l0, ifp (by omega), ifp (by omega), e, ifn (fun h => h rfl), wid (x := (x : Int) + 1) (by omega) (by omega)]
    exact ih m (x + 1) (by omega) (by omega)
theorem law_ex (seed n v : Int) (_ : (Lit.int .u64 seed).wf = true) (_ : (Lit.int .i64 n).wf = true) (_ : (Lit.int .i64 v).wf = true) : ∃ k, spykeep3_QuantaDecksDiffer k seed n v = some true := by
  refine ⟨1000, ?_⟩
  generalize hk : (1000 : Nat) = k
  obtain ⟨a, e1, a0, a1⟩ := below_ex k n 300 (by decide) (by decide)
  obtain ⟨b, e2, b0, b1⟩ := below_ex k v (a + 1) (by omega) (by omega)
  obtain ⟨a, rfl⟩ : ∃ q : Nat, a = q := ⟨a.toNat, by omega⟩
  obtain ⟨b, rfl⟩ : ∃ q : Nat, b = q := ⟨b.toNat, by omega⟩
  obtain ⟨D, D', d1, d2, d3, d4, d5⟩ := decks_ex k seed a b (by omega) (by omega) (by omega)
  have hl := d4.length_eq
  rw [ids_len] at hl
  have ht : (D.take b).length = b := by rw [List.length_take]; omega
  have hz : spykeep3_QuantaDecksDiffer.l0 k (ids a) k 0 = some (Sum.inr ()) := ids_l0 k a (by omega) a k 0 (by omega) (by omega)
  unfold spykeep3_QuantaDecksDiffer
  rw [bnd e1, wid (x := (a : Int) + 1) (by omega) (by omega), bnd e2, bnd d2]
  dsimp only
  rw [bnd d1]
  dsimp only
  rw [bnd (drawn_eq k (by omega)), ifn (by decide), ifn (by decide), ifn (by decide), ifn (by rw [ht]; exact fun h => h rfl), ifn (by rw [hl]; exact fun h => h rfl), ifp (by omega), ifp (by omega), Int.toNat_natCast, d5, bnd (equal_eq k _ (by rw [ht]; omega) (by omega)), ifn (by decide), bnd (sort_eq k a D' d4 (by omega)), bnd hz]
  rfl

end Go.Sp.Q9
