import Derived.Test.YtdogeeomknanpaaFT9
import Derived.KernelRfl
namespace Go.Sp.T9
open Go Go.Sp
set_option linter.unusedVariables false
theorem bnd {α β : Type} {x : Option α} {g : α → Option β} {v : α} (h : x = some v) : x.bind g = g v := by rw [h]; rfl
theorem ifp {α : Type} {c : Prop} [Decidable c] {x y : α} (h : c) : (if c then x else y) = x := if_pos h
theorem ifn {α : Type} {c : Prop} [Decidable c] {x y : α} (h : ¬ c) : (if c then x else y) = y := if_neg h
theorem rd_mem {α : Type} [Inhabited α] {l : List α} {i : Int} (h0 : 0 ≤ i) (h1 : i < (l.length : Int)) : rd l i ∈ l := by
  obtain ⟨h, e⟩ := rd_lt h0 h1
  rw [e]; exact List.getElem_mem h
theorem wid {x : Int} (h : -9223372036854775808 ≤ x) (h' : x ≤ 9223372036854775807) : w64 x = x := w64_of h h'
theorem wuid {x : Int} (h : 0 ≤ x) (h' : x ≤ 18446744073709551615) : u64 x = x := u64_of h h'
theorem mul_le {a b A B : Int} (h1 : 0 ≤ a) (h2 : a ≤ A) (h3 : 0 ≤ b) (h4 : b ≤ B) : 0 ≤ a * b ∧ a * b ≤ A * B :=
  ⟨Int.mul_nonneg h1 h3, Int.mul_le_mul h2 h4 h3 (by omega)⟩
theorem tdiv_nn {a b : Int} (h : 0 ≤ a) : Int.tdiv a b = a / b := Int.tdiv_eq_ediv_of_nonneg h
theorem tmod_nn {a b : Int} (h : 0 ≤ a) : Int.tmod a b = a % b := Int.tmod_eq_emod_of_nonneg h
def AllIn (l : List Int) (lo hi : Int) : Prop := ∀ x, x ∈ l → lo ≤ x ∧ x ≤ hi
theorem AllIn.nil {lo hi : Int} : AllIn [] lo hi := fun x h => by cases h
theorem AllIn.push {l : List Int} {lo hi x : Int} (h : AllIn l lo hi) (h0 : lo ≤ x) (h1 : x ≤ hi) : AllIn (l ++ [x]) lo hi := by
  intro y hy
  rcases List.mem_append.mp hy with hy | hy
  · exact h y hy
  · simp only [List.mem_singleton] at hy; subst hy; exact ⟨h0, h1⟩
theorem AllIn.rd {l : List Int} {lo hi i : Int} (h : AllIn l lo hi) (h0 : 0 ≤ i) (h1 : i < (l.length : Int)) : lo ≤ rd l i ∧ rd l i ≤ hi := h _ (rd_mem h0 h1)
theorem AllIn.mono {l : List Int} {lo hi lo' hi' : Int} (h : AllIn l lo hi) (h0 : lo' ≤ lo) (h1 : hi ≤ hi') : AllIn l lo' hi' := fun x hx => by have := h x hx; omega
theorem rd_set_eq (l : List Int) (i x : Int) (h0 : 0 ≤ i) (h1 : i < (l.length : Int)) : rd (l.set i.toNat x) i = x := by
  obtain ⟨h, e⟩ := rd_lt (xs := l.set i.toNat x) h0 (by simp; omega)
  rw [e]; simp
theorem rd_set_ne (l : List Int) (i j x : Int) (h0 : 0 ≤ i) (hj : 0 ≤ j) (h1 : j < (l.length : Int)) (hne : j ≠ i) : rd (l.set i.toNat x) j = rd l j := by
  obtain ⟨h, e⟩ := rd_lt (xs := l.set i.toNat x) hj (by simp; omega)
  obtain ⟨h', e'⟩ := rd_lt (xs := l) hj h1
  rw [e, e', List.getElem_set, if_neg (by omega)]
theorem rd_push_old (l : List Int) (x i : Int) (h0 : 0 ≤ i) (h1 : i < (l.length : Int)) : rd (l ++ [x]) i = rd l i := by
  obtain ⟨h, e⟩ := rd_lt (xs := l ++ [x]) h0 (by simp; omega)
  obtain ⟨h', e'⟩ := rd_lt (xs := l) h0 h1
  rw [e, e', List.getElem_append_left h']
theorem rd_push_new (l : List Int) (x i : Int) (h1 : i = (l.length : Int)) : rd (l ++ [x]) i = x := by
  obtain ⟨h, e⟩ := rd_lt (xs := l ++ [x]) (i := i) (by omega) (by simp; omega)
  rw [e, List.getElem_append_right (by omega)]
  simp
/-- A valid bound. -/
def Val (b : S_Bound) : Prop := (b.Unknown = true → b.Lo = 0 ∧ b.Hi = 0) ∧ -1152921504606846976 ≤ b.Lo ∧ b.Hi ≤ 1152921504606846976 ∧ b.Lo ≤ b.Hi
instance (b : S_Bound) : Decidable (Val b) := by unfold Val; infer_instance
theorem val_of {lo hi : Int} (h0 : -1152921504606846976 ≤ lo) (h1 : hi ≤ 1152921504606846976) (h : lo ≤ hi) : Val ⟨lo, hi, false⟩ := ⟨fun z => (by cases z), h0, h1, h⟩
theorem val_no : Val ⟨0, 0, true⟩ := by decide
theorem check_Quanta (k : Nat) (b : S_Bound) : ∃ e, bound_Check_Quanta k b = some e ∧ (e = 0 ↔ Val b) := by
  obtain ⟨lo, hi, u⟩ := b
  unfold bound_Check_Quanta Val
  dsimp only
  have tail : ∃ e, (if mn lo hi < (-1152921504606846976) then (some 4) else (if mx lo hi > 1152921504606846976 then (some 4) else (if lo > hi then (some 11) else (some 0))) : Option Int) = some e ∧ (e = 0 ↔ -1152921504606846976 ≤ lo ∧ hi ≤ 1152921504606846976 ∧ lo ≤ hi) := by
    rw [mn_def, mx_def]
    by_cases c1 : min lo hi < -1152921504606846976
    · exact ⟨4, ifp c1, by omega⟩
    · rw [ifn c1]
      by_cases c2 : max lo hi > 1152921504606846976
      · exact ⟨4, ifp c2, by omega⟩
      · rw [ifn c2]
        by_cases c3 : lo > hi
        · exact ⟨11, ifp c3, by omega⟩
        · exact ⟨0, ifn c3, by omega⟩
  obtain ⟨e, he, hv⟩ := tail
  cases u
  · rw [ifn (by decide)]
    exact ⟨e, he, hv.trans ⟨fun z => ⟨fun q => (by cases q), z⟩, fun z => z.2⟩⟩
  · rw [ifp rfl]
    by_cases c1 : lo ≠ 0
    · exact ⟨3, ifp c1, ⟨fun z => by omega, fun z => absurd (z.1 rfl).1 c1⟩⟩
    · rw [ifn c1]
      by_cases c2 : hi ≠ 0
      · exact ⟨3, ifp c2, ⟨fun z => by omega, fun z => absurd (z.1 rfl).2 c2⟩⟩
      · rw [ifn c2]
        exact ⟨e, he, hv.trans ⟨fun z => ⟨fun _ => ⟨by omega, by omega⟩, z⟩, fun z => z.2⟩⟩
/-- d' holds at each place what d holds at another one, told by s; nothing is lost. -/
structure Moved (d d' : List Int) (s : Int → Int) : Prop where
  len : d'.length = d.length
  perm : d'.Perm d
  at_ : ∀ p, 0 ≤ p → p < (d.length : Int) → rd d' p = rd d (s p)
theorem Moved.refl (d : List Int) : Moved d d id := ⟨rfl, List.Perm.refl _, fun _ _ _ => rfl⟩
theorem Moved.comp {d d1 d2 : List Int} {s t : Int → Int} (h : Moved d d1 s) (g : Moved d1 d2 t) (ht : ∀ p, 0 ≤ p → p < (d.length : Int) → 0 ≤ t p ∧ t p < (d.length : Int)) : Moved d d2 (fun p => s (t p)) :=
  ⟨g.len.trans h.len, g.perm.trans h.perm, fun p p0 p1 => by
    have hl := h.len
    have := ht p p0 p1
    rw [g.at_ p p0 (by omega), h.at_ _ this.1 this.2]⟩
theorem Moved.eq {d d' : List Int} {s t : Int → Int} (h : Moved d d' s) (e : ∀ p, 0 ≤ p → p < (d.length : Int) → s p = t p) : Moved d d' t :=
  ⟨h.len, h.perm, fun p p0 p1 => by rw [h.at_ p p0 p1, e p p0 p1]⟩
/-- One swap. -/
theorem swap_moved (d : List Int) (i j : Int) (i0 : 0 ≤ i) (i1 : i < (d.length : Int)) (j0 : 0 ≤ j) (j1 : j < (d.length : Int)) :
    Moved d ((d.set i.toNat (rd d j)).set j.toNat (rd d i)) (fun p => if p = j then i else if p = i then j else p) := by
  refine ⟨by rw [List.length_set, List.length_set], ?_, fun p p0 p1 => ?_⟩
  · obtain ⟨h1, e1⟩ := rd_lt (xs := d) (i := i) i0 i1
    obtain ⟨h2, e2⟩ := rd_lt (xs := d) (i := j) j0 j1
    rw [e1, e2]
    exact List.set_set_perm h1 h2
  · by_cases c : p = j
    · rw [if_pos c, c, rd_set_eq _ _ _ j0 (by rw [List.length_set]; exact j1)]
    · rw [if_neg c, rd_set_ne _ _ _ _ j0 p0 (by rw [List.length_set]; exact p1) c]
      by_cases g : p = i
      · rw [if_pos g, g, rd_set_eq _ _ _ i0 i1]
      · rw [if_neg g, rd_set_ne _ _ _ _ i0 p0 p1 g]
/-- Two blocks of n places change places. -/
def swapI (a b n p : Int) : Int := if a ≤ p ∧ p < a + n then p + (b - a) else if b ≤ p ∧ p < b + n then p - (b - a) else p
/-- [a, m) and [m, b) change places. -/
def rotI (a m b p : Int) : Int := if a ≤ p ∧ p < a + (b - m) then p + (m - a) else if a + (b - m) ≤ p ∧ p < b then p - (b - m) else p
theorem swapRange_l0 (k : Nat) (n a b : Int) (a0 : 0 ≤ a) (n0 : 0 ≤ n) (ab : a + n ≤ b) (b1 : b ≤ 1000000) : ∀ (e m : Nat) (d : List Int) (i : Int), i + e = n → 0 ≤ i → e < m → b + n ≤ (d.length : Int) →
    ∃ d', slices_swapRangeCmpFunc_int__level_known_1.l0 k n b a m d i = some d' ∧ Moved d d' (swapI (a + i) (b + i) (n - i)) := by
  intro e
  induction e with
  | zero =>
    intro m d i hi i0 hm hb
    obtain ⟨m, rfl⟩ : ∃ q, m = q + 1 := ⟨m - 1, by omega⟩
    rw [slices_swapRangeCmpFunc_int__level_known_1.l0, ifn (by omega)]
    exact ⟨d, rfl, (Moved.refl d).eq fun p p0 p1 => by unfold swapI; rw [if_neg (by omega), if_neg (by omega)]; rfl⟩
  | succ e ih =>
    intro m d i hi i0 hm hb
    obtain ⟨m, rfl⟩ : ∃ q, m = q + 1 := ⟨m - 1, by omega⟩
    rw [slices_swapRangeCmpFunc_int__level_known_1.l0, ifp (by omega), wid (x := b + i) (by omega) (by omega), wid (x := a + i) (by omega) (by omega), ifp (by omega), ifp (by omega), ifp (by omega), ifp (by omega), ifp (by rw [List.length_set]; omega), wid (x := i + 1) (by omega) (by omega)]
    have h1 := swap_moved d (a + i) (b + i) (by omega) (by omega) (by omega) (by omega)
    obtain ⟨d', e1, h2⟩ := ih m _ (i + 1) (by omega) (by omega) (by omega) (by rw [h1.len]; exact hb)
    refine ⟨d', e1, (h1.comp h2 ?_).eq ?_⟩
    · intro p p0 p1
      unfold swapI
      split
      · omega
      · split <;> omega
    · intro p p0 p1
      unfold swapI
      by_cases c1 : a + i ≤ p ∧ p < a + i + (n - i)
      · by_cases c2 : p = a + i
        · rw [if_neg (show ¬ (a + (i + 1) ≤ p ∧ p < a + (i + 1) + (n - (i + 1))) by omega), if_neg (show ¬ (b + (i + 1) ≤ p ∧ p < b + (i + 1) + (n - (i + 1))) by omega), if_neg (by omega), if_pos c2, if_pos c1]; try omega
        · rw [if_pos (show a + (i + 1) ≤ p ∧ p < a + (i + 1) + (n - (i + 1)) by omega), if_neg (by omega), if_neg (by omega), if_pos c1]; try omega
      · by_cases c3 : b + i ≤ p ∧ p < b + i + (n - i)
        · by_cases c2 : p = b + i
          · rw [if_neg (show ¬ (a + (i + 1) ≤ p ∧ p < a + (i + 1) + (n - (i + 1))) by omega), if_neg (show ¬ (b + (i + 1) ≤ p ∧ p < b + (i + 1) + (n - (i + 1))) by omega), if_pos c2, if_neg c1, if_pos c3]; try omega
          · rw [if_neg (show ¬ (a + (i + 1) ≤ p ∧ p < a + (i + 1) + (n - (i + 1))) by omega), if_pos (show b + (i + 1) ≤ p ∧ p < b + (i + 1) + (n - (i + 1)) by omega), if_neg (by omega), if_neg (by omega), if_neg c1, if_pos c3]; try omega
        · rw [if_neg (show ¬ (a + (i + 1) ≤ p ∧ p < a + (i + 1) + (n - (i + 1))) by omega), if_neg (show ¬ (b + (i + 1) ≤ p ∧ p < b + (i + 1) + (n - (i + 1))) by omega), if_neg (by omega), if_neg (by omega), if_neg c1, if_neg c3]
theorem swapRange_ex (k : Nat) (v : S_Cells) (d : List Int) (a b n : Int) (a0 : 0 ≤ a) (n0 : 0 ≤ n) (ab : a + n ≤ b) (b1 : b + n ≤ (d.length : Int)) (hl : (d.length : Int) ≤ 1000000) (hk : n.toNat < k) : ∃ d', slices_swapRangeCmpFunc_int__level_known_1 k v d a b n = some d' ∧ Moved d d' (swapI a b n) := by
  obtain ⟨d', e, h⟩ := swapRange_l0 k n a b a0 n0 ab (by omega) n.toNat k d 0 (by omega) (by decide) hk b1
  unfold slices_swapRangeCmpFunc_int__level_known_1
  rw [bnd e]
  refine ⟨d', rfl, ?_⟩
  rw [Int.add_zero, Int.add_zero, Int.sub_zero] at h
  exact h
/-- The rest of a rotation: [m - i, m) and [m, m + j) have still to change places. -/
theorem rotate_l0 (k : Nat) (v : S_Cells) (m : Int) (hm0 : 0 ≤ m) : ∀ (e q : Nat) (d : List Int) (i j : Int), i + j ≤ e → 1 ≤ i → 1 ≤ j → i ≤ m → m + j ≤ (d.length : Int) → (d.length : Int) ≤ 1000000 → e < q → (d.length : Nat) < k →
    ∃ d' i', slices_rotateCmpFunc_int__level_known_1.l0 k v m q d i j = some (d', i') ∧ 1 ≤ i' ∧ i' ≤ m ∧ m + i' ≤ (d.length : Int) ∧ d'.length = d.length ∧
      ∀ d2, Moved d' d2 (swapI (m - i') m i') → Moved d d2 (rotI (m - i) m (m + j)) := by
  intro e
  induction e with
  | zero => intro q d i j h i0 j0; omega
  | succ e ih =>
    intro q d i j h i0 j0 im jm hl hq hk
    obtain ⟨q, rfl⟩ : ∃ r, q = r + 1 := ⟨q - 1, by omega⟩
    rw [slices_rotateCmpFunc_int__level_known_1.l0]
    by_cases c : i = j
    · rw [ifn (fun g => g c)]
      refine ⟨d, i, rfl, i0, im, by omega, rfl, fun d2 h2 => h2.eq fun p p0 p1 => ?_⟩
      subst c
      unfold swapI rotI
      rw [show m - i + i = m by omega, show m - i + (m + i - m) = m by omega]
      by_cases c1 : m - i ≤ p ∧ p < m
      · rw [if_pos c1, if_pos c1]
      · rw [if_neg c1, if_neg c1]
        by_cases c2 : m ≤ p ∧ p < m + i
        · rw [if_pos c2, if_pos c2]; try omega
        · rw [if_neg c2, if_neg c2]
    · rw [ifp c]
      by_cases g : i > j
      · rw [ifp g, wid (x := m - i) (by omega) (by omega)]
        obtain ⟨d1, e1, h1⟩ := swapRange_ex k v d (m - i) m j (by omega) (by omega) (by omega) jm hl (by omega)
        rw [bnd e1, wid (x := i - j) (by omega) (by omega)]
        obtain ⟨d', i', e2, x1, x2, x3, x4, x5⟩ := ih q d1 (i - j) j (by omega) (by omega) j0 (by omega) (by rw [h1.len]; exact jm) (by rw [h1.len]; exact hl) (by omega) (by rw [h1.len]; exact hk)
        refine ⟨d', i', e2, x1, x2, by rw [h1.len] at x3; exact x3, x4.trans h1.len, fun d2 h2 => (h1.comp (x5 d2 h2) ?_).eq ?_⟩
        · intro p p0 p1
          unfold rotI
          split
          · omega
          · split <;> omega
        · intro p p0 p1
          unfold rotI swapI
          by_cases c1 : m - i ≤ p ∧ p < m - i + j
          · rw [if_neg (show ¬ (m - (i - j) ≤ p ∧ p < m - (i - j) + (m + j - m)) by omega), if_neg (show ¬ (m - (i - j) + (m + j - m) ≤ p ∧ p < m + j) by omega), if_pos (by omega), if_pos (by omega)]; try omega
          · by_cases c2 : m - (i - j) ≤ p ∧ p < m - (i - j) + (m + j - m)
            · rw [if_pos c2, if_neg (by omega), if_pos (by omega), if_neg (by omega), if_pos (by omega)]; try omega
            · by_cases c3 : m - (i - j) + (m + j - m) ≤ p ∧ p < m + j
              · rw [if_neg c2, if_pos c3, if_neg (by omega), if_neg (by omega), if_neg (by omega), if_pos (by omega)]; try omega
              · rw [if_neg c2, if_neg c3, if_neg (by omega), if_neg (by omega), if_neg (by omega), if_neg (by omega)]
      · rw [ifn g, wid (x := m - i) (by omega) (by omega), wid (x := m + j) (by omega) (by omega), wid (x := m + j - i) (by omega) (by omega)]
        obtain ⟨d1, e1, h1⟩ := swapRange_ex k v d (m - i) (m + j - i) i (by omega) (by omega) (by omega) (by omega) hl (by omega)
        rw [bnd e1, wid (x := j - i) (by omega) (by omega)]
        obtain ⟨d', i', e2, x1, x2, x3, x4, x5⟩ := ih q d1 i (j - i) (by omega) i0 (by omega) im (by rw [h1.len]; omega) (by rw [h1.len]; exact hl) (by omega) (by rw [h1.len]; exact hk)
        refine ⟨d', i', e2, x1, x2, by rw [h1.len] at x3; exact x3, x4.trans h1.len, fun d2 h2 => (h1.comp (x5 d2 h2) ?_).eq ?_⟩
        · intro p p0 p1
          unfold rotI
          split
          · omega
          · split <;> omega
        · intro p p0 p1
          unfold rotI swapI
          by_cases c1 : m - i ≤ p ∧ p < m - i + (m + (j - i) - m)
          · rw [if_pos c1, if_neg (by omega), if_neg (by omega), if_pos (by omega)]; try omega
          · by_cases c2 : m - i + (m + (j - i) - m) ≤ p ∧ p < m + (j - i)
            · rw [if_neg c1, if_pos c2, if_pos (by omega), if_pos (by omega)]; try omega
            · by_cases c3 : m + (j - i) ≤ p ∧ p < m + j
              · rw [if_neg c1, if_neg c2, if_neg (by omega), if_pos (by omega), if_neg (by omega), if_pos (by omega)]; try omega
              · rw [if_neg c1, if_neg c2, if_neg (by omega), if_neg (by omega), if_neg (by omega), if_neg (by omega)]
theorem rotate_ex (k : Nat) (v : S_Cells) (d : List Int) (a m b : Int) (a0 : 0 ≤ a) (am : a < m) (mb : m < b) (b1 : b ≤ (d.length : Int)) (hl : (d.length : Int) ≤ 1000000) (hk : (d.length : Nat) + 1 < k) :
    ∃ d', slices_rotateCmpFunc_int__level_known_1 k v d a m b = some d' ∧ Moved d d' (rotI a m b) := by
  obtain ⟨d1, i', e, x1, x2, x3, x4, x5⟩ := rotate_l0 k v m (by omega) (b - a).toNat k d (m - a) (b - m) (by omega) (by omega) (by omega) (by omega) (by omega) hl (by omega) (by omega)
  obtain ⟨d2, e2, h2⟩ := swapRange_ex k v d1 (m - i') m i' (by omega) (by omega) (by omega) (by rw [x4]; exact x3) (by rw [x4]; exact hl) (by omega)
  unfold slices_rotateCmpFunc_int__level_known_1
  rw [wid (x := m - a) (by omega) (by omega), wid (x := b - m) (by omega) (by omega), bnd e]
  dsimp only
  rw [wid (x := m - i') (by omega) (by omega), bnd e2]
  refine ⟨d2, rfl, ?_⟩
  have := x5 d2 h2
  rw [show m - (m - a) = a by omega, show m + (b - m) = b by omega] at this
  exact this
/-- The order of the known cells: by their lower ends. -/
def ky (c : S_Cells) (i : Int) : Int := (rd c.At i).Lo
theorem less_ex (k : Nat) (c : S_Cells) (i j : Int) (i0 : 0 ≤ i) (i1 : i < (c.At.length : Int)) (j0 : 0 ≤ j) (j1 : j < (c.At.length : Int)) : ∃ v, level_known_1 k c i j = some v ∧ (v < 0 ↔ ky c i < ky c j) := by
  unfold level_known_1 cmp_Compare_Quanta cmp_isNaN_Quanta ky
  rw [ifp i0, ifp i1, ifp j0, ifp j1]
  dsimp only [Option.bind_some]
  rw [ifn (by simp), ifn (by simp)]
  by_cases a : (rd c.At i).Lo < (rd c.At j).Lo
  · rw [ifp a]; exact ⟨_, rfl, fun _ => a, fun _ => by decide⟩
  · rw [ifn a]
    by_cases b : (rd c.At i).Lo > (rd c.At j).Lo
    · rw [ifp b]; exact ⟨_, rfl, fun h => absurd h (by decide), fun h => absurd h a⟩
    · rw [ifn b]; exact ⟨_, rfl, fun h => absurd h (by decide), fun h => absurd h a⟩
def Srt (c : S_Cells) (d : List Int) (lo hi : Int) : Prop := ∀ p q, lo ≤ p → p ≤ q → q < hi → ky c (rd d p) ≤ ky c (rd d q)
structure Kept (d d' : List Int) (lo hi : Int) : Prop where
  len : d'.length = d.length
  perm : d'.Perm d
  out : ∀ p, 0 ≤ p → p < (d.length : Int) → (p < lo ∨ hi ≤ p) → rd d' p = rd d p
  in_ : ∀ p, lo ≤ p → p < hi → ∃ q, lo ≤ q ∧ q < hi ∧ rd d' p = rd d q
theorem Kept.refl (d : List Int) (lo hi : Int) : Kept d d lo hi := ⟨rfl, List.Perm.refl _, fun _ _ _ _ => rfl, fun p h1 h2 => ⟨p, h1, h2, rfl⟩⟩
theorem Moved.kept {d d' : List Int} {s : Int → Int} {lo hi : Int} (h : Moved d d' s) (l0 : 0 ≤ lo) (h1 : hi ≤ (d.length : Int)) (ho : ∀ p, (p < lo ∨ hi ≤ p) → s p = p) (hi_ : ∀ p, lo ≤ p → p < hi → lo ≤ s p ∧ s p < hi) : Kept d d' lo hi :=
  ⟨h.len, h.perm, fun p p0 p1 g => by rw [h.at_ p p0 p1, ho p g], fun p p0 p1 => ⟨s p, (hi_ p p0 p1).1, (hi_ p p0 p1).2, h.at_ p (by omega) (by omega)⟩⟩
theorem Kept.trans {d d1 d2 : List Int} {lo hi : Int} (h : Kept d d1 lo hi) (g : Kept d1 d2 lo hi) : Kept d d2 lo hi :=
  ⟨g.len.trans h.len, g.perm.trans h.perm, fun p p0 p1 c => by rw [g.out p p0 (by rw [h.len]; exact p1) c, h.out p p0 p1 c], fun p p0 p1 => by
    obtain ⟨q, q0, q1, e⟩ := g.in_ p p0 p1
    obtain ⟨r, r0, r1, e'⟩ := h.in_ q q0 q1
    exact ⟨r, r0, r1, e.trans e'⟩⟩
theorem Kept.mono {d d' : List Int} {lo hi lo' hi' : Int} (h : Kept d d' lo hi) (a : lo' ≤ lo) (b : hi ≤ hi') (l0 : 0 ≤ lo') (h1 : hi' ≤ (d.length : Int)) : Kept d d' lo' hi' :=
  ⟨h.len, h.perm, fun p p0 p1 c => h.out p p0 p1 (by omega), fun p p0 p1 => by
    by_cases c : lo ≤ p ∧ p < hi
    · obtain ⟨q, q0, q1, e⟩ := h.in_ p c.1 c.2
      exact ⟨q, by omega, by omega, e⟩
    · exact ⟨p, p0, p1, h.out p (by omega) (by omega) (by omega)⟩⟩
def Good (c : S_Cells) (d : List Int) : Prop := ∀ x, x ∈ d → 0 ≤ x ∧ x < (c.At.length : Int)
theorem Good.rd {c : S_Cells} {d : List Int} (h : Good c d) {i : Int} (i0 : 0 ≤ i) (i1 : i < (d.length : Int)) : 0 ≤ rd d i ∧ rd d i < (c.At.length : Int) := h _ (rd_mem i0 i1)
theorem Good.perm {c : S_Cells} {d d' : List Int} (h : Good c d) (p : d'.Perm d) : Good c d' := fun x hx => h x (p.mem_iff.mp hx)
theorem half_eq (i j : Int) (i0 : 0 ≤ i) (i1 : i ≤ 1000000) (j0 : 0 ≤ j) (j1 : j ≤ 1000000) : w64 (shr (u64 (w64 (i + j))) 1) = (i + j) / 2 := by
  have e : shr (i + j) 1 = (i + j) / 2 := shr_def (i + j) 1
  rw [wid (x := i + j) (by omega) (by omega), wuid (x := i + j) (by omega) (by omega), e, wid (by omega) (by omega)]
theorem sm_l0 (k : Nat) (c : S_Cells) (d : List Int) (hG : Good c d) (hl : (d.length : Int) ≤ 1000000) (a m b : Int) (a0 : 0 ≤ a) (a1 : a < (d.length : Int)) (m0 : 0 ≤ m) (b1 : b ≤ (d.length : Int)) : ∀ (e n : Nat) (i j : Int), j - i ≤ e → m ≤ i → i ≤ j → j ≤ b → e < n → (i = m ∨ ky c (rd d (i - 1)) < ky c (rd d a)) → (j = b ∨ ky c (rd d a) ≤ ky c (rd d j)) →
    ∃ r, slices_symMergeCmpFunc_int__level_known_1.l0 k d a c n i j = some r ∧ m ≤ r ∧ r ≤ b ∧ (r = m ∨ ky c (rd d (r - 1)) < ky c (rd d a)) ∧ (r = b ∨ ky c (rd d a) ≤ ky c (rd d r)) := by
  intro e
  induction e with
  | zero =>
    intro n i j h mi ij jb hn h1 h2
    obtain ⟨n, rfl⟩ : ∃ q, n = q + 1 := ⟨n - 1, by omega⟩
    rw [slices_symMergeCmpFunc_int__level_known_1.l0, ifn (by omega)]
    exact ⟨i, rfl, mi, by omega, h1, by rw [show i = j by omega]; exact h2⟩
  | succ e ih =>
    intro n i j h mi ij jb hn h1 h2
    obtain ⟨n, rfl⟩ : ∃ q, n = q + 1 := ⟨n - 1, by omega⟩
    rw [slices_symMergeCmpFunc_int__level_known_1.l0]
    by_cases g : i < j
    · obtain ⟨x, hx⟩ : ∃ x, x = (i + j) / 2 := ⟨_, rfl⟩
      rw [ifp g, half_eq i j (by omega) (by omega) (by omega) (by omega), ← hx, ifp (by omega), ifp (by omega), ifp a0, ifp a1]
      have g1 := hG.rd (i := x) (by omega) (by omega)
      have g2 := hG.rd a0 a1
      obtain ⟨v, e1, e2⟩ := less_ex k c (rd d x) (rd d a) g1.1 g1.2 g2.1 g2.2
      rw [bnd e1, wid (x := x + 1) (by omega) (by omega)]
      by_cases l : v < 0
      · rw [ifp l]
        exact ih n (x + 1) j (by omega) (by omega) (by omega) jb (by omega) (.inr (by rw [show x + 1 - 1 = x by omega]; exact e2.mp l)) h2
      · rw [ifn l]
        exact ih n i x (by omega) mi (by omega) (by omega) (by omega) h1 (.inr (by have := mt e2.mpr l; omega))
    · rw [ifn g]
      exact ⟨i, rfl, mi, by omega, h1, by rw [show i = j by omega]; exact h2⟩
theorem sm_l2 (k : Nat) (c : S_Cells) (d : List Int) (hG : Good c d) (hl : (d.length : Int) ≤ 1000000) (a m : Int) (a0 : 0 ≤ a) (m0 : 0 ≤ m) (m1 : m < (d.length : Int)) : ∀ (e n : Nat) (i j : Int), j - i ≤ e → a ≤ i → i ≤ j → j ≤ m → e < n → (i = a ∨ ky c (rd d (i - 1)) ≤ ky c (rd d m)) → (j = m ∨ ky c (rd d m) < ky c (rd d j)) →
    ∃ r, slices_symMergeCmpFunc_int__level_known_1.l2 k m d c n i j = some r ∧ a ≤ r ∧ r ≤ m ∧ (r = a ∨ ky c (rd d (r - 1)) ≤ ky c (rd d m)) ∧ (r = m ∨ ky c (rd d m) < ky c (rd d r)) := by
  intro e
  induction e with
  | zero =>
    intro n i j h mi ij jb hn h1 h2
    obtain ⟨n, rfl⟩ : ∃ q, n = q + 1 := ⟨n - 1, by omega⟩
    rw [slices_symMergeCmpFunc_int__level_known_1.l2, ifn (by omega)]
    exact ⟨i, rfl, mi, by omega, h1, by rw [show i = j by omega]; exact h2⟩
  | succ e ih =>
    intro n i j h mi ij jb hn h1 h2
    obtain ⟨n, rfl⟩ : ∃ q, n = q + 1 := ⟨n - 1, by omega⟩
    rw [slices_symMergeCmpFunc_int__level_known_1.l2]
    by_cases g : i < j
    · obtain ⟨x, hx⟩ : ∃ x, x = (i + j) / 2 := ⟨_, rfl⟩
      rw [ifp g, ifp m0, ifp m1, half_eq i j (by omega) (by omega) (by omega) (by omega), ← hx, ifp (by omega), ifp (by omega)]
      have g1 := hG.rd (i := x) (by omega) (by omega)
      have g2 := hG.rd m0 m1
      obtain ⟨v, e1, e2⟩ := less_ex k c (rd d m) (rd d x) g2.1 g2.2 g1.1 g1.2
      rw [bnd e1, wid (x := x + 1) (by omega) (by omega)]
      by_cases l : v < 0
      · rw [ifn (fun h => h l)]
        exact ih n i x (by omega) mi (by omega) (by omega) (by omega) h1 (.inr (e2.mp l))
      · rw [ifp l]
        exact ih n (x + 1) j (by omega) (by omega) (by omega) jb (by omega) (.inr (by rw [show x + 1 - 1 = x by omega]; have := mt e2.mpr l; omega)) h2
    · rw [ifn g]
      exact ⟨i, rfl, mi, by omega, h1, by rw [show i = j by omega]; exact h2⟩
theorem sm_l1 (k : Nat) (i : Int) (hi : i ≤ 1000000) : ∀ (e n : Nat) (d : List Int) (x : Int), i - 1 - x = e → 0 ≤ x → e < n → i ≤ (d.length : Int) →
    ∃ d', slices_symMergeCmpFunc_int__level_known_1.l1 k i n d x = some d' ∧ Moved d d' (rotI x (x + 1) i) := by
  intro e
  induction e with
  | zero =>
    intro n d x h x0 hn hl
    obtain ⟨n, rfl⟩ : ∃ q, n = q + 1 := ⟨n - 1, by omega⟩
    rw [slices_symMergeCmpFunc_int__level_known_1.l1, wid (x := i - 1) (by omega) (by omega), ifn (by omega)]
    refine ⟨d, rfl, (Moved.refl d).eq fun p p0 p1 => ?_⟩
    unfold rotI
    show p = _
    rw [if_neg (by omega)]
    split <;> omega
  | succ e ih =>
    intro n d x h x0 hn hl
    obtain ⟨n, rfl⟩ : ∃ q, n = q + 1 := ⟨n - 1, by omega⟩
    rw [slices_symMergeCmpFunc_int__level_known_1.l1, wid (x := i - 1) (by omega) (by omega), ifp (by omega), wid (x := x + 1) (by omega) (by omega), ifp (by omega), ifp (by omega), ifp (by omega), ifp (by omega), ifp (by rw [List.length_set]; omega)]
    have h1 := swap_moved d x (x + 1) (by omega) (by omega) (by omega) (by omega)
    obtain ⟨d', e1, h2⟩ := ih n _ (x + 1) (by omega) (by omega) (by omega) (by rw [h1.len]; exact hl)
    refine ⟨d', e1, (h1.comp h2 ?_).eq ?_⟩
    · intro p p0 p1
      unfold rotI
      split
      · omega
      · split <;> omega
    · intro p p0 p1
      unfold rotI
      by_cases c1 : x ≤ p ∧ p < x + (i - (x + 1))
      · rw [if_pos c1]
        by_cases c2 : p = x
        · rw [if_neg (show ¬ (x + 1 ≤ p ∧ p < x + 1 + (i - (x + 1 + 1))) by omega), if_neg (show ¬ (x + 1 + (i - (x + 1 + 1)) ≤ p ∧ p < i) by omega), if_neg (by omega), if_pos c2]; omega
        · rw [if_pos (show x + 1 ≤ p ∧ p < x + 1 + (i - (x + 1 + 1)) by omega), if_neg (by omega), if_neg (by omega)]; omega
      · rw [if_neg c1]
        by_cases c3 : x + (i - (x + 1)) ≤ p ∧ p < i
        · rw [if_pos c3, if_neg (show ¬ (x + 1 ≤ p ∧ p < x + 1 + (i - (x + 1 + 1))) by omega), if_pos (show x + 1 + (i - (x + 1 + 1)) ≤ p ∧ p < i by omega), if_pos (by omega)]; omega
        · rw [if_neg c3, if_neg (show ¬ (x + 1 ≤ p ∧ p < x + 1 + (i - (x + 1 + 1))) by omega), if_neg (show ¬ (x + 1 + (i - (x + 1 + 1)) ≤ p ∧ p < i) by omega), if_neg (by omega), if_neg (by omega)]
theorem sm_l3 (k : Nat) (i : Int) (i0 : 0 ≤ i) : ∀ (e n : Nat) (d : List Int) (x : Int), x - i = e → x ≤ 1000000 → e < n → x < (d.length : Int) →
    ∃ d', slices_symMergeCmpFunc_int__level_known_1.l3 k i n d x = some d' ∧ Moved d d' (rotI i x (x + 1)) := by
  intro e
  induction e with
  | zero =>
    intro n d x h x0 hn hl
    obtain ⟨n, rfl⟩ : ∃ q, n = q + 1 := ⟨n - 1, by omega⟩
    rw [slices_symMergeCmpFunc_int__level_known_1.l3, ifn (by omega)]
    refine ⟨d, rfl, (Moved.refl d).eq fun p p0 p1 => ?_⟩
    unfold rotI
    show p = _
    split
    · omega
    · split <;> omega
  | succ e ih =>
    intro n d x h x0 hn hl
    obtain ⟨n, rfl⟩ : ∃ q, n = q + 1 := ⟨n - 1, by omega⟩
    rw [slices_symMergeCmpFunc_int__level_known_1.l3, ifp (by omega), wid (x := x - 1) (by omega) (by omega), ifp (by omega), ifp (by omega), ifp (by omega), ifp (by omega), ifp (by rw [List.length_set]; omega)]
    have h1 := swap_moved d x (x - 1) (by omega) (by omega) (by omega) (by omega)
    obtain ⟨d', e1, h2⟩ := ih n _ (x - 1) (by omega) (by omega) (by omega) (by rw [h1.len]; omega)
    refine ⟨d', e1, (h1.comp h2 ?_).eq ?_⟩
    · intro p p0 p1
      unfold rotI
      split
      · omega
      · split <;> omega
    · intro p p0 p1
      unfold rotI
      by_cases c1 : i ≤ p ∧ p < i + (x + 1 - x)
      · rw [if_pos c1, if_pos (show i ≤ p ∧ p < i + (x - 1 + 1 - (x - 1)) by omega), if_pos (by omega)]; omega
      · rw [if_neg c1]
        by_cases c3 : i + (x + 1 - x) ≤ p ∧ p < x + 1
        · rw [if_pos c3, if_neg (show ¬ (i ≤ p ∧ p < i + (x - 1 + 1 - (x - 1))) by omega)]
          by_cases c4 : p = x
          · rw [if_neg (show ¬ (i + (x - 1 + 1 - (x - 1)) ≤ p ∧ p < x - 1 + 1) by omega), if_neg (by omega), if_pos c4]; omega
          · rw [if_pos (show i + (x - 1 + 1 - (x - 1)) ≤ p ∧ p < x - 1 + 1 by omega), if_neg (by omega), if_neg (by omega)]; omega
        · rw [if_neg c3, if_neg (show ¬ (i ≤ p ∧ p < i + (x - 1 + 1 - (x - 1))) by omega), if_neg (show ¬ (i + (x - 1 + 1 - (x - 1)) ≤ p ∧ p < x - 1 + 1) by omega), if_neg (by omega), if_neg (by omega)]
theorem sm_l4 (k : Nat) (c : S_Cells) (d : List Int) (hG : Good c d) (hl : (d.length : Int) ≤ 1000000) (a b m mid s0 r0 : Int) (a0 : 0 ≤ a) (ab : a ≤ b) (b1 : b ≤ (d.length : Int)) (m0 : 0 ≤ m) (m1 : m ≤ b) (hmid : mid = (a + b) / 2) (hs0 : 0 ≤ s0) (hr0 : r0 ≤ (d.length : Int)) (hp : ∀ x, s0 ≤ x → x < r0 → 0 ≤ mid + m - 1 - x ∧ mid + m - 1 - x < (d.length : Int)) :
    ∀ (e n : Nat) (i j : Int), j - i ≤ e → s0 ≤ i → i ≤ j → j ≤ r0 → e < n → (i = s0 ∨ ky c (rd d (i - 1)) ≤ ky c (rd d (mid + m - i))) → (j = r0 ∨ ky c (rd d (mid + m - 1 - j)) < ky c (rd d j)) →
    ∃ r, slices_symMergeCmpFunc_int__level_known_1.l4 k a b m d c n i j = some r ∧ s0 ≤ r ∧ r ≤ r0 ∧ (r = s0 ∨ ky c (rd d (r - 1)) ≤ ky c (rd d (mid + m - r))) ∧ (r = r0 ∨ ky c (rd d (mid + m - 1 - r)) < ky c (rd d r)) := by
  intro e
  induction e with
  | zero =>
    intro n i j h mi ij jb hn h1 h2
    obtain ⟨n, rfl⟩ : ∃ q, n = q + 1 := ⟨n - 1, by omega⟩
    rw [slices_symMergeCmpFunc_int__level_known_1.l4, ifn (by omega)]
    exact ⟨i, rfl, mi, by omega, h1, by rw [show i = j by omega]; exact h2⟩
  | succ e ih =>
    intro n i j h mi ij jb hn h1 h2
    obtain ⟨n, rfl⟩ : ∃ q, n = q + 1 := ⟨n - 1, by omega⟩
    rw [slices_symMergeCmpFunc_int__level_known_1.l4]
    by_cases g : i < j
    · obtain ⟨x, hx⟩ : ∃ x, x = (i + j) / 2 := ⟨_, rfl⟩
      have hpx := hp x (by omega) (by omega)
      rw [ifp g, half_eq i j (by omega) (by omega) (by omega) (by omega), ← hx, half_eq a b (by omega) (by omega) (by omega) (by omega), ← hmid, wid (x := mid + m) (by omega) (by omega), wid (x := mid + m - 1) (by omega) (by omega), wid (x := mid + m - 1 - x) (by omega) (by omega), ifp (by omega), ifp (by omega), ifp (by omega), ifp (by omega)]
      have g1 := hG.rd (i := x) (by omega) (by omega)
      have g2 := hG.rd hpx.1 hpx.2
      obtain ⟨v, e1, e2⟩ := less_ex k c (rd d (mid + m - 1 - x)) (rd d x) g2.1 g2.2 g1.1 g1.2
      rw [bnd e1, wid (x := x + 1) (by omega) (by omega)]
      by_cases l : v < 0
      · rw [ifn (fun h => h l)]
        exact ih n i x (by omega) mi (by omega) (by omega) (by omega) h1 (.inr (e2.mp l))
      · rw [ifp l]
        exact ih n (x + 1) j (by omega) (by omega) (by omega) jb (by omega) (.inr (by rw [show x + 1 - 1 = x by omega, show mid + m - (x + 1) = mid + m - 1 - x by omega]; have := mt e2.mpr l; omega)) h2
    · rw [ifn g]
      exact ⟨i, rfl, mi, by omega, h1, by rw [show i = j by omega]; exact h2⟩
/-- The last part: the right half. -/
theorem sm_tail (k q : Nat) (c : S_Cells) (x : List Int) (mid fin b : Int) (hG : Good c x) (m0 : 0 ≤ mid) (m1 : mid ≤ fin) (m2 : fin ≤ b) (b1 : b ≤ (x.length : Int)) (s1 : Srt c x mid fin) (s2 : Srt c x fin b)
    (ih : mid < fin → fin < b → ∃ d', slices_symMergeCmpFunc_int__level_known_1.r k q c x mid fin b = some d' ∧ Kept x d' mid b ∧ Srt c d' mid b) :
    ∃ d3, (if mid < fin then (if fin < b then ((slices_symMergeCmpFunc_int__level_known_1.r k q c x mid fin b).bind fun v => (some v)) else (some x)) else (some x)) = some d3 ∧ Kept x d3 mid b ∧ Srt c d3 mid b := by
  by_cases g : mid < fin
  · rw [ifp g]
    by_cases h : fin < b
    · obtain ⟨d', e, k1, k2⟩ := ih g h
      rw [ifp h, bnd e]
      exact ⟨d', rfl, k1, k2⟩
    · rw [ifn h]
      exact ⟨x, rfl, Kept.refl _ _ _, by rw [show b = fin by omega]; exact s1⟩
  · rw [ifn g]
    exact ⟨x, rfl, Kept.refl _ _ _, by rw [show mid = fin by omega]; exact s2⟩
theorem sm_sides (k q : Nat) (c : S_Cells) (d : List Int) (a s mid fin b : Int) (hG : Good c d) (a0 : 0 ≤ a) (h1 : a ≤ s) (h2 : s ≤ mid) (h3 : mid ≤ fin) (h4 : fin ≤ b) (b1 : b ≤ (d.length : Int))
    (s1 : Srt c d a s) (s2 : Srt c d s mid) (s3 : Srt c d mid fin) (s4 : Srt c d fin b) (cross : ∀ p q, a ≤ p → p < mid → mid ≤ q → q < b → ky c (rd d p) ≤ ky c (rd d q))
    (ih1 : a < s → s < mid → ∃ d', slices_symMergeCmpFunc_int__level_known_1.r k q c d a s mid = some d' ∧ Kept d d' a mid ∧ Srt c d' a mid)
    (ih2 : ∀ x, x.length = d.length → Good c x → Srt c x mid fin → Srt c x fin b → mid < fin → fin < b → ∃ d', slices_symMergeCmpFunc_int__level_known_1.r k q c x mid fin b = some d' ∧ Kept x d' mid b ∧ Srt c d' mid b) :
    ∃ d3, (if a < s then (((if s < mid then ((slices_symMergeCmpFunc_int__level_known_1.r k q c d a s mid).bind fun v => (some v)) else (some d) : Option ((List Int)))).bind fun d2 => (if mid < fin then (if fin < b then ((slices_symMergeCmpFunc_int__level_known_1.r k q c d2 mid fin b).bind fun v => (some v)) else (some d2)) else (some d2))) else (if mid < fin then (if fin < b then ((slices_symMergeCmpFunc_int__level_known_1.r k q c d mid fin b).bind fun v => (some v)) else (some d)) else (some d))) = some d3 ∧ Kept d d3 a b ∧ Srt c d3 a b := by
  have left : ∃ d2, (if a < s then (((if s < mid then ((slices_symMergeCmpFunc_int__level_known_1.r k q c d a s mid).bind fun v => (some v)) else (some d) : Option ((List Int)))).bind fun d2 => (if mid < fin then (if fin < b then ((slices_symMergeCmpFunc_int__level_known_1.r k q c d2 mid fin b).bind fun v => (some v)) else (some d2)) else (some d2))) else (if mid < fin then (if fin < b then ((slices_symMergeCmpFunc_int__level_known_1.r k q c d mid fin b).bind fun v => (some v)) else (some d)) else (some d))) = (if mid < fin then (if fin < b then ((slices_symMergeCmpFunc_int__level_known_1.r k q c d2 mid fin b).bind fun v => (some v)) else (some d2)) else (some d2)) ∧ Kept d d2 a mid ∧ Srt c d2 a mid := by
    by_cases g : a < s
    · rw [ifp g]
      by_cases h : s < mid
      · obtain ⟨d', e, k1, k2⟩ := ih1 g h
        rw [ifp h, bnd e]
        exact ⟨d', rfl, k1, k2⟩
      · rw [ifn h]
        exact ⟨d, rfl, Kept.refl _ _ _, by rw [show mid = s by omega]; exact s1⟩
    · rw [ifn g]
      exact ⟨d, rfl, Kept.refl _ _ _, by rw [show a = s by omega]; exact s2⟩
  obtain ⟨d2, e, k1, k2⟩ := left
  have hl := k1.len
  have same : ∀ p, mid ≤ p → p < b → rd d2 p = rd d p := fun p p0 p1 => k1.out p (by omega) (by omega) (.inr p0)
  have t3 : Srt c d2 mid fin := fun p q p0 pq q1 => by rw [same p p0 (by omega), same q (by omega) (by omega)]; exact s3 p q p0 pq q1
  have t4 : Srt c d2 fin b := fun p q p0 pq q1 => by rw [same p (by omega) (by omega), same q (by omega) (by omega)]; exact s4 p q p0 pq q1
  have hG2 := hG.perm k1.perm
  obtain ⟨d3, e3, k3, k4⟩ := sm_tail k q c d2 mid fin b hG2 (by omega) h3 h4 (by omega) t3 t4 (ih2 d2 hl hG2 t3 t4)
  rw [e, e3]
  refine ⟨d3, rfl, (k1.mono (Int.le_refl _) (by omega) a0 b1).trans (k3.mono (by omega) (Int.le_refl _) a0 (by omega)), fun p q p0 pq q1 => ?_⟩
  by_cases c1 : q < mid
  · rw [k3.out p (by omega) (by omega) (.inl (by omega)), k3.out q (by omega) (by omega) (.inl c1)]
    exact k2 p q p0 pq c1
  · by_cases c2 : p < mid
    · rw [k3.out p (by omega) (by omega) (.inl c2)]
      obtain ⟨p', x1, x2, x3⟩ := k1.in_ p p0 c2
      obtain ⟨q', y1, y2, y3⟩ := k3.in_ q (by omega) q1
      rw [x3, y3, same q' y1 y2]
      exact cross p' q' x1 x2 y1 y2
    · exact k4 p q (by omega) pq q1
theorem rot_kept {d d' : List Int} {a m b : Int} (h : Moved d d' (rotI a m b)) (a0 : 0 ≤ a) (am : a ≤ m) (mb : m ≤ b) (b1 : b ≤ (d.length : Int)) {lo hi : Int} (l0 : 0 ≤ lo) (la : lo ≤ a) (bh : b ≤ hi) (h1 : hi ≤ (d.length : Int)) : Kept d d' lo hi := by
  refine h.kept l0 h1 (fun p hp => ?_) (fun p p0 p1 => ?_)
  · unfold rotI
    rw [if_neg (by omega), if_neg (by omega)]
  · unfold rotI
    split
    · omega
    · split <;> omega
theorem sm_ex (k : Nat) (c : S_Cells) : ∀ (q : Nat) (d : List Int) (a m b : Int), Good c d → (d.length : Int) ≤ 1000000 → d.length + 10 < k → 0 ≤ a → a < m → m < b → b ≤ (d.length : Int) → b - a < q → Srt c d a m → Srt c d m b →
    ∃ d', slices_symMergeCmpFunc_int__level_known_1.r k q c d a m b = some d' ∧ Kept d d' a b ∧ Srt c d' a b := by
  intro q
  induction q with
  | zero => intro d a m b _ _ _ _ am mb _ h; omega
  | succ q ih =>
    intro d a m b hG hl hk a0 am mb b1 hq sA sB
    rw [slices_symMergeCmpFunc_int__level_known_1.r, wid (x := m - a) (by omega) (by omega)]
    by_cases c1 : m - a = 1
    · rw [ifp c1]
      obtain ⟨r, e1, r0, r1, r2, r3⟩ := sm_l0 k c d hG hl a m b a0 (by omega) (by omega) b1 (b - m).toNat k m b (by omega) (Int.le_refl _) (by omega) (Int.le_refl _) (by omega) (.inl rfl) (.inl rfl)
      obtain ⟨d', e2, h2⟩ := sm_l1 k r (by omega) (r - 1 - a).toNat k d a (by omega) a0 (by omega) (by omega)
      rw [bnd e1, bnd e2]
      refine ⟨d', rfl, rot_kept h2 a0 (by omega) (by omega) (by omega) a0 (Int.le_refl _) r1 b1, fun p q' p0 pq q1 => ?_⟩
      rw [h2.at_ p (by omega) (by omega), h2.at_ q' (by omega) (by omega)]
      unfold rotI
      have lo : ∀ x, m ≤ x → x < r → ky c (rd d x) ≤ ky c (rd d a) := fun x x0 x1 => by
        rcases r2 with r2 | r2
        · omega
        · have := sB x (r - 1) x0 (by omega) (by omega); omega
      have hi : ∀ x, r ≤ x → x < b → ky c (rd d a) ≤ ky c (rd d x) := fun x x0 x1 => by
        rcases r3 with r3 | r3
        · omega
        · have := sB r x (by omega) x0 x1; omega
      by_cases g1 : a ≤ p ∧ p < a + (r - (a + 1))
      · rw [if_pos g1]
        by_cases g2 : a ≤ q' ∧ q' < a + (r - (a + 1))
        · rw [if_pos g2]; exact sB _ _ (by omega) (by omega) (by omega)
        · rw [if_neg g2]
          by_cases g3 : a + (r - (a + 1)) ≤ q' ∧ q' < r
          · rw [if_pos g3, show q' - (r - (a + 1)) = a by omega]; exact lo _ (by omega) (by omega)
          · rw [if_neg g3]; exact sB _ _ (by omega) (by omega) (by omega)
      · rw [if_neg g1]
        by_cases g4 : a + (r - (a + 1)) ≤ p ∧ p < r
        · rw [if_pos g4, if_neg (show ¬ (a ≤ q' ∧ q' < a + (r - (a + 1))) by omega), show p - (r - (a + 1)) = a by omega]
          by_cases g3 : a + (r - (a + 1)) ≤ q' ∧ q' < r
          · rw [if_pos g3, show q' - (r - (a + 1)) = a by omega]; exact Int.le_refl _
          · rw [if_neg g3]; exact hi _ (by omega) (by omega)
        · rw [if_neg g4, if_neg (show ¬ (a ≤ q' ∧ q' < a + (r - (a + 1))) by omega), if_neg (show ¬ (a + (r - (a + 1)) ≤ q' ∧ q' < r) by omega)]
          exact sB _ _ (by omega) pq q1
    rw [ifn c1, wid (x := b - m) (by omega) (by omega)]
    by_cases c2 : b - m = 1
    · rw [ifp c2]
      obtain ⟨r, e1, r0, r1, r2, r3⟩ := sm_l2 k c d hG hl a m a0 (by omega) (by omega) (m - a).toNat k a m (by omega) (Int.le_refl _) (by omega) (Int.le_refl _) (by omega) (.inl rfl) (.inl rfl)
      obtain ⟨d', e2, h2⟩ := sm_l3 k r (by omega) (m - r).toNat k d m (by omega) (by omega) (by omega) (by omega)
      rw [bnd e1, bnd e2]
      refine ⟨d', rfl, rot_kept h2 (by omega) (by omega) (by omega) (by omega) a0 r0 (by omega) b1, fun p q' p0 pq q1 => ?_⟩
      rw [h2.at_ p (by omega) (by omega), h2.at_ q' (by omega) (by omega)]
      unfold rotI
      have lo : ∀ x, a ≤ x → x < r → ky c (rd d x) ≤ ky c (rd d m) := fun x x0 x1 => by
        rcases r2 with r2 | r2
        · omega
        · have := sA x (r - 1) x0 (by omega) (by omega); omega
      have hi : ∀ x, r ≤ x → x < m → ky c (rd d m) ≤ ky c (rd d x) := fun x x0 x1 => by
        rcases r3 with r3 | r3
        · omega
        · have := sA r x (by omega) x0 x1; omega
      by_cases g1 : r ≤ p ∧ p < r + (m + 1 - m)
      · rw [if_pos g1, show p + (m - r) = m by omega]
        by_cases g2 : r ≤ q' ∧ q' < r + (m + 1 - m)
        · rw [if_pos g2, show q' + (m - r) = m by omega]; exact Int.le_refl _
        · rw [if_neg g2, if_pos (show r + (m + 1 - m) ≤ q' ∧ q' < m + 1 by omega)]; exact hi _ (by omega) (by omega)
      · rw [if_neg g1]
        by_cases g4 : r + (m + 1 - m) ≤ p ∧ p < m + 1
        · rw [if_pos g4, if_neg (show ¬ (r ≤ q' ∧ q' < r + (m + 1 - m)) by omega), if_pos (show r + (m + 1 - m) ≤ q' ∧ q' < m + 1 by omega)]
          exact sA _ _ (by omega) (by omega) (by omega)
        · rw [if_neg g4]
          by_cases g2 : r ≤ q' ∧ q' < r + (m + 1 - m)
          · rw [if_pos g2, show q' + (m - r) = m by omega]; exact lo _ (by omega) (by omega)
          · rw [if_neg g2]
            by_cases g3 : r + (m + 1 - m) ≤ q' ∧ q' < m + 1
            · rw [if_pos g3]; exact sA _ _ (by omega) (by omega) (by omega)
            · rw [if_neg g3]; exact sA _ _ (by omega) pq (by omega)
    rw [ifn c2]
    obtain ⟨mid, hmid⟩ : ∃ x, x = (a + b) / 2 := ⟨_, rfl⟩
    rw [half_eq a b (by omega) (by omega) (by omega) (by omega), ← hmid, wid (x := mid + m) (by omega) (by omega), wid (x := mid + m - b) (by omega) (by omega)]
    have main : ∀ s0 r0 : Int, a ≤ s0 → s0 ≤ r0 → r0 ≤ m → r0 ≤ mid → mid + m - b ≤ s0 → (s0 = a ∨ s0 = mid + m - b) → (r0 = m ∨ r0 = mid) → ∃ st, slices_symMergeCmpFunc_int__level_known_1.l4 k a b m d c k s0 r0 = some st ∧ a ≤ st ∧ st ≤ m ∧ st ≤ mid ∧ mid + m - st ≤ b ∧
        ∃ d1, (if st < m then (if m < mid + m - st then ((slices_rotateCmpFunc_int__level_known_1 k c d st m (mid + m - st)).bind fun v => some v) else some d) else some d) = some d1 ∧ Moved d d1 (rotI st m (mid + m - st)) ∧
        (a < st → mid + m - st < b → ky c (rd d (st - 1)) ≤ ky c (rd d (mid + m - st))) ∧ (st < m → m < mid + m - st → ky c (rd d (mid + m - st - 1)) ≤ ky c (rd d st)) := by
      intro s0 r0 x1 x2 x3 x4 x5 x6 x7
      obtain ⟨st, e1, y1, y2, y3, y4⟩ := sm_l4 k c d hG hl a b m mid s0 r0 a0 (by omega) b1 (by omega) (by omega) hmid (by omega) (by omega) (fun x x0 x1 => by omega) (r0 - s0).toNat k s0 r0 (by omega) (Int.le_refl _) x2 (Int.le_refl _) (by omega) (.inl rfl) (.inl rfl)
      refine ⟨st, e1, by omega, by omega, by omega, by omega, ?_⟩
      have fin : (a < st → mid + m - st < b → ky c (rd d (st - 1)) ≤ ky c (rd d (mid + m - st))) ∧ (st < m → m < mid + m - st → ky c (rd d (mid + m - st - 1)) ≤ ky c (rd d st)) := by
        refine ⟨fun z1 z2 => ?_, fun z1 z2 => ?_⟩
        · rcases y3 with y3 | y3
          · omega
          · exact y3
        · rcases y4 with y4 | y4
          · omega
          · rw [show mid + m - st - 1 = mid + m - 1 - st by omega]; omega
      by_cases g : st < m
      · by_cases h : m < mid + m - st
        · obtain ⟨d1, e2, h2⟩ := rotate_ex k c d st m (mid + m - st) (by omega) g h (by omega) hl (by omega)
          rw [ifp g, ifp h, bnd e2]
          exact ⟨d1, rfl, h2, fin⟩
        · rw [ifp g, ifn h]
          refine ⟨d, rfl, (Moved.refl d).eq fun p p0 p1 => ?_, fin⟩
          unfold rotI
          show p = _
          split
          · omega
          · split <;> omega
      · rw [ifn g]
        refine ⟨d, rfl, (Moved.refl d).eq fun p p0 p1 => ?_, fin⟩
        unfold rotI
        show p = _
        split
        · omega
        · split <;> omega
    have hse : ∃ s0 r0 : Int, ((if m > mid then (some ((mid + m - b), mid)) else (some (a, m)) : Option (Int × Int))) = some (s0, r0) ∧ a ≤ s0 ∧ s0 ≤ r0 ∧ r0 ≤ m ∧ r0 ≤ mid ∧ mid + m - b ≤ s0 ∧ (s0 = a ∨ s0 = mid + m - b) ∧ (r0 = m ∨ r0 = mid) := by
      by_cases g : m > mid
      · rw [ifp g]; exact ⟨_, _, rfl, by omega, by omega, by omega, by omega, by omega, .inr rfl, .inr rfl⟩
      · rw [ifn g]; exact ⟨_, _, rfl, by omega, by omega, by omega, by omega, by omega, .inl rfl, .inl rfl⟩
    obtain ⟨s0, r0, e0, x1, x2, x3, x4, x5, x6, x7⟩ := hse
    obtain ⟨st, e1, y1, y2, y3, y4, d1, e2, h2, z1, z2⟩ := main s0 r0 x1 x2 x3 x4 x5 x6 x7
    rw [bnd e0]
    dsimp only
    rw [bnd e1, wid (x := mid + m - st) (by omega) (by omega)]
    obtain ⟨fin, hfin⟩ : ∃ x, x = mid + m - st := ⟨_, rfl⟩
    rw [← hfin] at e2 h2 z1 z2 ⊢
    have hl1 := h2.len
    have hG1 := hG.perm h2.perm
    have at1 : ∀ p, a ≤ p → p < b → rd d1 p = rd d (rotI st m fin p) := fun p p0 p1 => h2.at_ p (by omega) (by omega)
    have L1 : ∀ p, a ≤ p → p < st → rd d1 p = rd d p := fun p p0 p1 => by rw [at1 p p0 (by omega)]; unfold rotI; rw [if_neg (by omega), if_neg (by omega)]
    have L2 : ∀ p, st ≤ p → p < mid → rd d1 p = rd d (p + (m - st)) := fun p p0 p1 => by rw [at1 p (by omega) (by omega)]; unfold rotI; rw [if_pos (by omega)]
    have L3 : ∀ p, mid ≤ p → p < fin → rd d1 p = rd d (p - (fin - m)) := fun p p0 p1 => by rw [at1 p (by omega) (by omega)]; unfold rotI; rw [if_neg (by omega), if_pos (by omega)]
    have L4 : ∀ p, fin ≤ p → p < b → rd d1 p = rd d p := fun p p0 p1 => by rw [at1 p (by omega) p1]; unfold rotI; rw [if_neg (by omega), if_neg (by omega)]
    have sides := sm_sides k q c d1 a st mid fin b hG1 a0 y1 y3 (by omega) (by omega) (by omega)
      (fun p q p0 pq q1 => by rw [L1 p p0 (by omega), L1 q (by omega) q1]; exact sA p q p0 pq (by omega))
      (fun p q p0 pq q1 => by rw [L2 p p0 (by omega), L2 q (by omega) q1]; exact sB _ _ (by omega) (by omega) (by omega))
      (fun p q p0 pq q1 => by rw [L3 p p0 (by omega), L3 q (by omega) q1]; exact sA _ _ (by omega) (by omega) (by omega))
      (fun p q p0 pq q1 => by rw [L4 p p0 (by omega), L4 q (by omega) q1]; exact sB _ _ (by omega) (by omega) (by omega))
      (fun p q p0 p1 q0 q1 => by
        by_cases u : p < st
        · rw [L1 p p0 u]
          by_cases v : q < fin
          · rw [L3 q q0 v]; exact sA _ _ (by omega) (by omega) (by omega)
          · rw [L4 q (by omega) q1]
            have w1 := sA p (st - 1) p0 (by omega) (by omega)
            have w2 := z1 (by omega) (by omega)
            have w3 := sB fin q (by omega) (by omega) q1
            omega
        · rw [L2 p (by omega) p1]
          by_cases v : q < fin
          · rw [L3 q q0 v]
            have w1 := sB (p + (m - st)) (fin - 1) (by omega) (by omega) (by omega)
            have w2 := z2 (by omega) (by omega)
            have w3 := sA st (q - (fin - m)) (by omega) (by omega) (by omega)
            omega
          · rw [L4 q (by omega) q1]; exact sB _ _ (by omega) (by omega) (by omega))
      (fun u v => ih d1 a st mid hG1 (by omega) (by omega) a0 u v (by omega) (by omega)
        (fun p q p0 pq q1 => by rw [L1 p p0 (by omega), L1 q (by omega) q1]; exact sA p q p0 pq (by omega))
        (fun p q p0 pq q1 => by rw [L2 p p0 (by omega), L2 q (by omega) q1]; exact sB _ _ (by omega) (by omega) (by omega)))
      (fun x hx hGx t3 t4 u v => ih x mid fin b hGx (by omega) (by omega) (by omega) u v (by omega) (by omega) t3 t4)
    obtain ⟨d3, e3, k3, k4⟩ := sides
    have hk1 := rot_kept h2 (by omega) (by omega) (by omega) (by omega) a0 y1 (by omega) b1
    have goal : ∀ (X : Option (List Int)), X = some d3 → ∃ d', X = some d' ∧ Kept d d' a b ∧ Srt c d' a b := fun X hX => ⟨d3, hX, hk1.trans k3, k4⟩
    by_cases g : st < m
    · rw [ifp g] at e2 ⊢
      rw [bnd e2]
      exact goal _ e3
    · rw [ifn g] at e2 ⊢
      injection e2 with e2
      subst e2
      exact goal _ e3
theorem ins_l1 (k : Nat) (c : S_Cells) (a i : Int) (a0 : 0 ≤ a) : ∀ (e n : Nat) (d : List Int) (j : Int), j - a = e → j ≤ i → i < (d.length : Int) → (d.length : Int) ≤ 1000000 → e < n → Good c d →
    (∀ p q, a ≤ p → p ≤ q → q ≤ i → p ≠ j → q ≠ j → ky c (rd d p) ≤ ky c (rd d q)) → (∀ q, j ≤ q → q ≤ i → ky c (rd d j) ≤ ky c (rd d q)) →
    ∃ d', slices_insertionSortCmpFunc_int__level_known_1.l1 k a c n d j = some d' ∧ Kept d d' a (i + 1) ∧ Srt c d' a (i + 1) := by
  intro e
  induction e with
  | zero =>
    intro n d j h ji hi hl hn hG h1 h2
    obtain ⟨n, rfl⟩ : ∃ q, n = q + 1 := ⟨n - 1, by omega⟩
    rw [slices_insertionSortCmpFunc_int__level_known_1.l1, ifn (by omega)]
    refine ⟨d, rfl, Kept.refl _ _ _, fun p q p0 pq q1 => ?_⟩
    by_cases c1 : p = j
    · rw [c1]; exact h2 q (by omega) (by omega)
    · exact h1 p q p0 pq (by omega) c1 (by omega)
  | succ e ih =>
    intro n d j h ji hi hl hn hG h1 h2
    obtain ⟨n, rfl⟩ : ∃ q, n = q + 1 := ⟨n - 1, by omega⟩
    have g1 := hG.rd (i := j) (by omega) (by omega)
    have g2 := hG.rd (i := j - 1) (by omega) (by omega)
    obtain ⟨v, e1, e2⟩ := less_ex k c (rd d j) (rd d (j - 1)) g1.1 g1.2 g2.1 g2.2
    rw [slices_insertionSortCmpFunc_int__level_known_1.l1, ifp (by omega), ifp (by omega), ifp (by omega), wid (x := j - 1) (by omega) (by omega), ifp (by omega), ifp (by omega), bnd e1]
    by_cases l : v < 0
    · have lt := e2.mp l
      have sw := swap_moved d j (j - 1) (by omega) (by omega) (by omega) (by omega)
      have x1 : rd ((d.set j.toNat (rd d (j - 1))).set (j - 1).toNat (rd d j)) (j - 1) = rd d j := by rw [sw.at_ _ (by omega) (by omega), if_pos rfl]
      have x2 : rd ((d.set j.toNat (rd d (j - 1))).set (j - 1).toNat (rd d j)) j = rd d (j - 1) := by rw [sw.at_ _ (by omega) (by omega), if_neg (by omega), if_pos rfl]
      have x3 : ∀ p, a ≤ p → p ≤ i → p ≠ j → p ≠ j - 1 → rd ((d.set j.toNat (rd d (j - 1))).set (j - 1).toNat (rd d j)) p = rd d p := fun p p0 p1 u w => by rw [sw.at_ _ (by omega) (by omega), if_neg w, if_neg u]
      rw [ifp l, ifp (by rw [List.length_set]; omega)]
      obtain ⟨d', e3, k1, k2⟩ := ih n _ (j - 1) (by omega) (by omega) (by rw [sw.len]; exact hi) (by rw [sw.len]; exact hl) (by omega) (hG.perm sw.perm) (fun p q p0 pq q1 pj qj => by
        by_cases u : p = j
        · by_cases w : q = j
          · rw [u, w]; exact Int.le_refl _
          · rw [u, x2, x3 q (by omega) q1 w qj]; exact h1 (j - 1) q (by omega) (by omega) q1 (by omega) w
        · rw [x3 p p0 (by omega) u pj]
          by_cases w : q = j
          · rw [w, x2]; exact h1 p (j - 1) p0 (by omega) (by omega) u (by omega)
          · rw [x3 q (by omega) q1 w qj]; exact h1 p q p0 pq q1 u w) (fun q q0 q1 => by
        rw [x1]
        by_cases u : q = j - 1
        · rw [u, x1]; exact Int.le_refl _
        · by_cases w : q = j
          · rw [w, x2]; omega
          · rw [x3 q (by omega) q1 w u]; exact h2 q (by omega) q1)
      refine ⟨d', e3, (sw.kept a0 (by omega) (fun p hp => ?_) (fun p p0 p1 => ?_)).trans k1, k2⟩
      · rw [if_neg (by omega), if_neg (by omega)]
      · split
        · omega
        · split <;> omega
    · have ge := mt e2.mpr l
      rw [ifn l]
      refine ⟨d, rfl, Kept.refl _ _ _, fun p q p0 pq q1 => ?_⟩
      by_cases c1 : p = j
      · rw [c1]; exact h2 q (by omega) (by omega)
      · by_cases c2 : q = j
        · rw [c2]
          have := h1 p (j - 1) p0 (by omega) (by omega) c1 (by omega)
          omega
        · exact h1 p q p0 pq (by omega) c1 c2
theorem ins_l0 (k : Nat) (c : S_Cells) (a b : Int) (a0 : 0 ≤ a) : ∀ (e n : Nat) (d : List Int) (i : Int), b - i = e → a < i → b ≤ (d.length : Int) → (d.length : Int) ≤ 1000000 → d.length < k → e < n → Good c d → Srt c d a i →
    ∃ d', slices_insertionSortCmpFunc_int__level_known_1.l0 k b a c n d i = some d' ∧ Kept d d' a b ∧ Srt c d' a b := by
  intro e
  induction e with
  | zero =>
    intro n d i h ai hb hl hk hn hG hS
    obtain ⟨n, rfl⟩ : ∃ q, n = q + 1 := ⟨n - 1, by omega⟩
    rw [slices_insertionSortCmpFunc_int__level_known_1.l0, ifn (by omega)]
    exact ⟨d, rfl, Kept.refl _ _ _, by rw [show b = i by omega]; exact hS⟩
  | succ e ih =>
    intro n d i h ai hb hl hk hn hG hS
    obtain ⟨n, rfl⟩ : ∃ q, n = q + 1 := ⟨n - 1, by omega⟩
    obtain ⟨d1, e1, k1, k2⟩ := ins_l1 k c a i a0 (i - a).toNat k d i (by omega) (Int.le_refl _) (by omega) hl (by omega) hG (fun p q p0 pq q1 pj qj => hS p q p0 pq (by omega)) (fun q q0 q1 => by rw [show q = i by omega]; exact Int.le_refl _)
    have hl1 := k1.len
    rw [slices_insertionSortCmpFunc_int__level_known_1.l0, ifp (by omega), bnd e1, wid (x := i + 1) (by omega) (by omega)]
    obtain ⟨d', e2, k3, k4⟩ := ih n d1 (i + 1) (by omega) (by omega) (by omega) (by omega) (by omega) (by omega) (hG.perm k1.perm) k2
    exact ⟨d', e2, (k1.mono (Int.le_refl _) (by omega) a0 hb).trans k3, k4⟩
theorem ins_ex (k : Nat) (c : S_Cells) (d : List Int) (a b : Int) (a0 : 0 ≤ a) (ab : a ≤ b) (hb : b ≤ (d.length : Int)) (hl : (d.length : Int) ≤ 1000000) (hk : d.length + 10 < k) (hG : Good c d) :
    ∃ d', slices_insertionSortCmpFunc_int__level_known_1 k c d a b = some d' ∧ Kept d d' a b ∧ Srt c d' a b := by
  unfold slices_insertionSortCmpFunc_int__level_known_1
  rw [wid (x := a + 1) (by omega) (by omega)]
  by_cases g : a + 1 ≤ b
  · obtain ⟨d', e, k1, k2⟩ := ins_l0 k c a b a0 (b - (a + 1)).toNat k d (a + 1) (by omega) (by omega) hb hl (by omega) (by omega) hG (fun p q p0 pq q1 => by rw [show q = p by omega]; exact Int.le_refl _)
    rw [bnd e]
    exact ⟨d', rfl, k1, k2⟩
  · obtain ⟨k', hk'⟩ : ∃ q, k = q + 1 := ⟨k - 1, by omega⟩
    have e : slices_insertionSortCmpFunc_int__level_known_1.l0 k b a c k d (a + 1) = some d := by
      suffices hs : ∀ n, n = k' + 1 → slices_insertionSortCmpFunc_int__level_known_1.l0 k b a c n d (a + 1) = some d from hs k hk'
      rintro _ rfl
      rw [slices_insertionSortCmpFunc_int__level_known_1.l0, ifn (by omega)]
    rw [bnd e]
    exact ⟨d, rfl, Kept.refl _ _ _, fun p q p0 pq q1 => by omega⟩
/-- The stable sort of at most 39 elements. -/
theorem stable_ex (k : Nat) (c : S_Cells) (d : List Int) (hl : d.length ≤ 39) (hk : 100 ≤ k) (hG : Good c d) :
    ∃ d', slices_SortStableFunc_int__level_known_1 k c d = some d' ∧ d'.Perm d ∧ Srt c d' 0 (d.length : Int) := by
  obtain ⟨n, hn⟩ : ∃ n : Int, n = (d.length : Int) := ⟨_, rfl⟩
  have l0_end : ∀ (x : List Int) (a b : Int) (m : Nat), n < b → 0 < m → slices_stableCmpFunc_int__level_known_1.l0 k n c m x a b = some (x, a) := by
    intro x a b m h hm
    obtain ⟨m, rfl⟩ : ∃ q, m = q + 1 := ⟨m - 1, by omega⟩
    rw [slices_stableCmpFunc_int__level_known_1.l0, ifn (by omega)]
  have l1_end : ∀ (x : List Int) (s : Int) (m : Nat), n ≤ s → 0 < m → slices_stableCmpFunc_int__level_known_1.l1 k n c m x s = some x := by
    intro x s m h hm
    obtain ⟨m, rfl⟩ : ∃ q, m = q + 1 := ⟨m - 1, by omega⟩
    rw [slices_stableCmpFunc_int__level_known_1.l1, ifn (by omega)]
  have l2_end : ∀ (x : List Int) (s a b : Int) (m : Nat), n < b → 0 < m → slices_stableCmpFunc_int__level_known_1.l2 k n c s m x a b = some (x, a) := by
    intro x s a b m h hm
    obtain ⟨m, rfl⟩ : ∃ q, m = q + 1 := ⟨m - 1, by omega⟩
    rw [slices_stableCmpFunc_int__level_known_1.l2, ifn (by omega)]
  suffices hs : ∃ d', slices_stableCmpFunc_int__level_known_1 k c d n = some d' ∧ d'.Perm d ∧ Srt c d' 0 n by
    obtain ⟨d', e, h1, h2⟩ := hs
    unfold slices_SortStableFunc_int__level_known_1
    rw [← hn, bnd e]
    exact ⟨d', rfl, h1, h2⟩
  unfold slices_stableCmpFunc_int__level_known_1
  by_cases g : n < 20
  · obtain ⟨d1, e1, k1, k2⟩ := ins_ex k c d 0 n (by decide) (by omega) (by omega) (by omega) (by omega) hG
    rw [bnd (l0_end d 0 20 k g (by omega))]
    dsimp only
    rw [bnd e1, bnd (l1_end d1 20 k (by omega) (by omega))]
    exact ⟨d1, rfl, k1.perm, k2⟩
  · obtain ⟨d1, e1, k1, k2⟩ := ins_ex k c d 0 20 (by decide) (by decide) (by omega) (by omega) (by omega) hG
    have hl1 := k1.len
    have hG1 := hG.perm k1.perm
    obtain ⟨d2, e2, k3, k4⟩ := ins_ex k c d1 20 n (by decide) (by omega) (by omega) (by omega) (by omega) hG1
    have hl2 := k3.len
    have hG2 := hG1.perm k3.perm
    have e0 : slices_stableCmpFunc_int__level_known_1.l0 k n c k d 0 20 = some (d1, 20) := by
      obtain ⟨m, hm⟩ : ∃ q, k = q + 1 := ⟨k - 1, by omega⟩
      suffices hs : ∀ n', n' = m + 1 → slices_stableCmpFunc_int__level_known_1.l0 k n c n' d 0 20 = some (d1, 20) from hs k hm
      rintro _ rfl
      rw [slices_stableCmpFunc_int__level_known_1.l0, ifp (by omega), bnd e1, wid (x := 20 + 20) (by decide) (by decide)]
      exact l0_end d1 20 (20 + 20) m (by omega) (by omega)
    rw [bnd e0]
    dsimp only
    rw [bnd e2]
    have S1 : Srt c d2 0 20 := fun p q p0 pq q1 => by rw [k3.out p (by omega) (by omega) (.inl (by omega)), k3.out q (by omega) (by omega) (.inl q1)]; exact k2 p q p0 pq q1
    by_cases u : 20 < n
    · obtain ⟨d3, e3, k5, k6⟩ := sm_ex k c k d2 0 20 n hG2 (by omega) (by omega) (by decide) (by decide) u (by omega) (by omega) S1 k4
      have e4 : slices_stableCmpFunc_int__level_known_1.l1 k n c k d2 20 = some d3 := by
        obtain ⟨m, hm⟩ : ∃ q, k = q + 1 := ⟨k - 1, by omega⟩
        suffices hs : ∀ n', n' = m + 1 → slices_stableCmpFunc_int__level_known_1.l1 k n c n' d2 20 = some d3 from hs k hm
        rintro _ rfl
        rw [slices_stableCmpFunc_int__level_known_1.l1, ifp u, wid (x := 2 * 20) (by decide) (by decide), bnd (l2_end d2 20 0 (2 * 20) k (by omega) (by omega))]
        dsimp only
        rw [wid (x := 0 + 20) (by decide) (by decide), ifp (by omega)]
        have e5 : slices_symMergeCmpFunc_int__level_known_1 k c d2 0 (0 + 20) n = some d3 := e3
        rw [bnd e5, wid (x := 20 * 2) (by decide) (by decide)]
        exact l1_end d3 (20 * 2) m (by omega) (by omega)
      rw [bnd e4]
      exact ⟨d3, rfl, k5.perm.trans (k3.perm.trans k1.perm), k6⟩
    · rw [bnd (l1_end d2 20 k (by omega) (by omega))]
      exact ⟨d2, rfl, k3.perm.trans k1.perm, by rw [show n = 20 by omega]; exact S1⟩
theorem mem_compact (zs : List Int) (x : Int) : x ∈ Lib.compact zs ↔ x ∈ zs := by
  have h : ∀ m, m ≤ zs.length → (x ∈ Lib.compactUpTo zs.toArray m ↔ ∃ j, j < m ∧ zs.toArray[j]! = x) := by
    intro m
    induction m with
    | zero => intro _; simp [Lib.compactUpTo]
    | succ m ih =>
      intro hm
      rw [Lib.compactUpTo_succ, List.mem_append, ih (by omega)]
      constructor
      · rintro (⟨j, j1, j2⟩ | hx)
        · exact ⟨j, by omega, j2⟩
        · split at hx
          · simp only [List.mem_singleton] at hx
            exact ⟨m, by omega, hx.symm⟩
          · cases hx
      · rintro ⟨j, j1, j2⟩
        by_cases c : j < m
        · exact .inl ⟨j, c, j2⟩
        · obtain rfl : j = m := by omega
          by_cases k : Lib.keeps zs.toArray j = true
          · exact .inr (by rw [if_pos k, List.mem_singleton]; exact j2.symm)
          · refine .inl ⟨j - 1, ?_, ?_⟩
            · have : ¬ j = 0 := fun h => k (Lib.keeps_lt_one _ _ (by omega))
              omega
            · unfold Lib.keeps at k
              simp only [decide_eq_true_eq, not_or, ne_eq, Classical.not_not] at k
              rw [← k.2]; exact j2
  have := h zs.length (Nat.le_refl _)
  unfold Lib.compact
  rw [this, List.mem_iff_getElem]
  constructor
  · rintro ⟨j, j1, j2⟩
    refine ⟨j, j1, ?_⟩
    rw [← j2]; simp [j1]
  · rintro ⟨j, j1, j2⟩
    refine ⟨j, j1, ?_⟩
    rw [← j2]; simp [j1]
/-- The known cells from place i on. -/
def kn (c : S_Cells) : Nat → Int → List Int
  | 0, _ => []
  | e + 1, i => if (rd c.At i).Unknown = true then kn c e (i + 1) else i :: kn c e (i + 1)
theorem kn_mem (c : S_Cells) (x : Int) : ∀ (e : Nat) (i : Int), x ∈ kn c e i ↔ i ≤ x ∧ x < i + e ∧ (rd c.At x).Unknown = false := by
  intro e
  induction e with
  | zero => intro i; simp [kn]; omega
  | succ e ih =>
    intro i
    rw [kn]
    by_cases c1 : (rd c.At i).Unknown = true
    · rw [if_pos c1, ih]
      constructor
      · rintro ⟨h1, h2, h3⟩; exact ⟨by omega, by omega, h3⟩
      · rintro ⟨h1, h2, h3⟩
        refine ⟨?_, by omega, h3⟩
        by_cases g : x = i
        · rw [g, c1] at h3; cases h3
        · omega
    · have c2 : (rd c.At i).Unknown = false := by simpa using c1
      rw [if_neg c1, List.mem_cons, ih]
      constructor
      · rintro (rfl | ⟨h1, h2, h3⟩)
        · exact ⟨Int.le_refl _, by omega, c2⟩
        · exact ⟨by omega, by omega, h3⟩
      · rintro ⟨h1, h2, h3⟩
        by_cases g : x = i
        · exact .inl g
        · exact .inr ⟨by omega, by omega, h3⟩
theorem kn_len (c : S_Cells) : ∀ (e : Nat) (i : Int), (kn c e i).length ≤ e := by
  intro e
  induction e with
  | zero => intro i; simp [kn]
  | succ e ih => intro i; have := ih (i + 1); rw [kn]; split <;> simp <;> omega
theorem known_l0 (k : Nat) (c : S_Cells) (hl : (c.At.length : Int) ≤ 100) : ∀ (e n : Nat) (i : Int) (out : List Int), i + e = (c.At.length : Int) → 0 ≤ i → e < n → (out.length : Int) ≤ i → level_known.l0 k c n out i = some (out ++ kn c e i) := by
  intro e
  induction e with
  | zero =>
    intro n i out hi i0 hn ho
    obtain ⟨n, rfl⟩ : ∃ q, n = q + 1 := ⟨n - 1, by omega⟩
    rw [level_known.l0, ifn (by omega), kn, List.append_nil]
  | succ e ih =>
    intro n i out hi i0 hn ho
    obtain ⟨n, rfl⟩ : ∃ q, n = q + 1 := ⟨n - 1, by omega⟩
    rw [level_known.l0, ifp (by omega), ifp i0, kn, wid (x := i + 1) (by omega) (by omega)]
    by_cases c1 : (rd c.At i).Unknown = true
    · rw [ifn (fun h => h c1), if_pos c1, ih n (i + 1) out (by omega) (by omega) (by omega) (by omega)]
    · rw [ifp c1, if_neg c1, ifp (by omega), ih n (i + 1) _ (by omega) (by omega) (by omega) (by rw [List.length_append, List.length_cons, List.length_nil]; omega), List.append_assoc]
      rfl
theorem known_ex (k : Nat) (c : S_Cells) (hl : c.At.length ≤ 39) (hk : 100 ≤ k) : ∃ K, level_known k c = some K ∧ K.Perm (kn c c.At.length 0) ∧ Srt c K 0 (K.length : Int) := by
  have hn := kn_len c c.At.length 0
  obtain ⟨K, e, h1, h2⟩ := stable_ex k c (kn c c.At.length 0) (by omega) hk (fun x hx => by
    have := (kn_mem c x _ _).mp hx; omega)
  unfold level_known
  rw [bnd (known_l0 k c (by omega) c.At.length k 0 [] (by omega) (by decide) (by omega) (by decide)), List.nil_append, bnd e]
  refine ⟨K, rfl, h1, ?_⟩
  rw [h1.length_eq]; exact h2
/-- The comparison by upper ends. -/
theorem wless (k : Nat) (c : S_Cells) (i j : Int) (i0 : 0 ≤ i) (i1 : i < (c.At.length : Int)) (j0 : 0 ≤ j) (j1 : j < (c.At.length : Int)) (hl : (c.At.length : Int) ≤ 1000) (hk : 5 ≤ k) : ∃ v, level_Witness_1 k c i j = some v ∧ (v < 0 → (rd c.At i).Hi ≤ (rd c.At j).Hi) ∧ (¬ v < 0 → (rd c.At j).Hi ≤ (rd c.At i).Hi) := by
  have hcmp : ∀ x y : Int, ∃ v, cmp_Compare_Quanta k x y = some v ∧ (x < y → v = -1) ∧ (x > y → v = 1) ∧ (x = y → v = 0) := by
    intro x y
    unfold cmp_Compare_Quanta cmp_isNaN_Quanta
    dsimp only [Option.bind_some]
    rw [ifn (by simp), ifn (by simp)]
    by_cases a : x < y
    · rw [ifp a]; exact ⟨_, rfl, fun _ => rfl, fun h => by omega, fun h => by omega⟩
    · rw [ifn a]
      by_cases b : x > y
      · rw [ifp b]; exact ⟨_, rfl, fun h => by omega, fun _ => rfl, fun h => by omega⟩
      · rw [ifn b]; exact ⟨_, rfl, fun h => by omega, fun h => by omega, fun _ => rfl⟩
  have hor : ∀ x y : Int, cmp_Or_int k [x, y] = some (if x ≠ 0 then x else y) := by
    intro x y
    obtain ⟨m, rfl⟩ : ∃ q, k = q + 5 := ⟨k - 5, by omega⟩
    have r0 : rd [x, y] 0 = x := rfl
    have r1 : rd [x, y] 1 = y := rfl
    have n2 : (([x, y] : List Int).length : Int) = 2 := rfl
    unfold cmp_Or_int
    rw [cmp_Or_int.l0, n2, ifp (by decide), ifp (by decide), r0]
    by_cases a : x ≠ 0
    · rw [ifp a, if_pos a]; rfl
    · rw [ifn a, if_neg a, wid (x := 0 + 1) (by decide) (by decide), show (0 : Int) + 1 = 1 from rfl, cmp_Or_int.l0, n2, ifp (by decide), ifp (by decide), r1]
      by_cases b : y ≠ 0
      · rw [ifp b]; rfl
      · rw [ifn b, wid (x := 1 + 1) (by decide) (by decide), cmp_Or_int.l0, n2, ifn (by decide)]
        have : y = 0 := by omega
        rw [this]; rfl
  obtain ⟨v, e, h1, h2, h3⟩ := hcmp (rd c.At i).Hi (rd c.At j).Hi
  unfold level_Witness_1
  rw [ifp i0, ifp i1, ifp j0, ifp j1, bnd e, wid (x := i - j) (by omega) (by omega), bnd (hor _ _)]
  refine ⟨_, rfl, fun hv => ?_, fun hv => ?_⟩
  · split at hv <;> omega
  · split at hv <;> omega
theorem minf_l0 (k : Nat) (c : S_Cells) (K : List Int) (hG : Good c K) (hl : (c.At.length : Int) ≤ 1000) (hK : K.length ≤ 100) (hk : 5 ≤ k) : ∀ (e n : Nat) (m i : Int), i + e = (K.length : Int) → 0 ≤ i → e < n → m ∈ K → (∀ j, 0 ≤ j → j < i → (rd c.At m).Hi ≤ (rd c.At (rd K j)).Hi) →
    ∃ r, slices_MinFunc_int__level_Witness_1.l0 k K c n m i = some r ∧ r ∈ K ∧ ∀ j, 0 ≤ j → j < (K.length : Int) → (rd c.At r).Hi ≤ (rd c.At (rd K j)).Hi := by
  intro e
  induction e with
  | zero =>
    intro n m i hi i0 hn hm h
    obtain ⟨n, rfl⟩ : ∃ q, n = q + 1 := ⟨n - 1, by omega⟩
    rw [slices_MinFunc_int__level_Witness_1.l0, ifn (by omega)]
    exact ⟨m, rfl, hm, fun j j0 j1 => h j j0 (by omega)⟩
  | succ e ih =>
    intro n m i hi i0 hn hm h
    obtain ⟨n, rfl⟩ : ∃ q, n = q + 1 := ⟨n - 1, by omega⟩
    have g1 := hG.rd i0 (show i < (K.length : Int) by omega)
    have g2 := hG m hm
    obtain ⟨v, e1, e2, e3⟩ := wless k c (rd K i) m g1.1 g1.2 g2.1 g2.2 hl hk
    rw [slices_MinFunc_int__level_Witness_1.l0, ifp (by omega), ifp i0, bnd e1, wid (x := i + 1) (by omega) (by omega)]
    have tie : ∀ j, j < i + 1 → j < i ∨ j = i := fun j h => by omega
    by_cases l : v < 0
    · rw [ifp l]
      refine ih n (rd K i) (i + 1) (by omega) (by omega) (by omega) (rd_mem i0 (by omega)) fun j j0 j1 => ?_
      rcases tie j j1 with g | g
      · have := h j j0 g; have := e2 l; omega
      · rw [g]; exact Int.le_refl _
    · rw [ifn l]
      refine ih n m (i + 1) (by omega) (by omega) (by omega) hm fun j j0 j1 => ?_
      rcases tie j j1 with g | g
      · exact h j j0 g
      · rw [g]; exact e3 l
theorem minf_ex (k : Nat) (c : S_Cells) (K : List Int) (hG : Good c K) (hl : (c.At.length : Int) ≤ 1000) (hK : K.length ≤ 100) (h1 : 1 ≤ K.length) (hk : 200 ≤ k) : ∃ r, slices_MinFunc_int__level_Witness_1 k c K = some r ∧ r ∈ K ∧ ∀ x, x ∈ K → (rd c.At r).Hi ≤ (rd c.At x).Hi := by
  obtain ⟨r, e, r1, r2⟩ := minf_l0 k c K hG hl hK (by omega) (K.length - 1) k (rd K 0) 1 (by omega) (by decide) (by omega) (rd_mem (by decide) (by omega)) (fun j j0 j1 => by rw [show j = 0 by omega]; exact Int.le_refl _)
  unfold slices_MinFunc_int__level_Witness_1
  rw [ifn (by omega), ifp (by omega), bnd e]
  refine ⟨r, rfl, r1, fun x hx => ?_⟩
  obtain ⟨m, hm, rfl⟩ := List.mem_iff_getElem.mp hx
  obtain ⟨hlt, er⟩ := rd_lt (xs := K) (i := (m : Int)) (by omega) (by omega)
  have := r2 (m : Int) (by omega) (by omega)
  rw [er] at this
  exact this
theorem rd_drop {α : Type} [Inhabited α] (l : List α) (i : Int) (h0 : 0 ≤ i) (h1 : i < (l.length : Int)) : l.drop i.toNat = rd l i :: l.drop (i + 1).toNat := by
  obtain ⟨h, e⟩ := rd_lt (xs := l) h0 h1
  rw [e, show (i + 1).toNat = i.toNat + 1 by omega]
  exact List.drop_eq_getElem_cons h
theorem rd_map {α β : Type} [Inhabited α] [Inhabited β] (f : α → β) (l : List α) (i : Int) (h0 : 0 ≤ i) (h1 : i < (l.length : Int)) : rd (l.map f) i = f (rd l i) := by
  obtain ⟨h, e⟩ := rd_lt (xs := l.map f) h0 (by rw [List.length_map]; exact h1)
  obtain ⟨h', e'⟩ := rd_lt (xs := l) h0 h1
  rw [e, e', List.getElem_map]
theorem below_ex (k : Nat) (x n : Int) (h1 : 1 ≤ n) (h2 : n ≤ 4611686018427387904) : ∃ v, spymake_Below k x n = some v ∧ 0 ≤ v ∧ v < n := by
  have e1 := Int.tmod_lt_of_pos x (show 0 < n by omega)
  have e2 := Int.lt_tmod_of_pos x (show 0 < n by omega)
  unfold spymake_Below
  rw [ifn (by omega), ifp (by omega)]
  by_cases c : Int.tmod x n < 0
  · rw [ifp c]
    refine ⟨_, rfl, ?_, ?_⟩ <;> rw [wid (by omega) (by omega)] <;> omega
  · rw [ifn c]
    exact ⟨_, rfl, by omega, by omega⟩
theorem next_ex (k : Nat) (L : List Int) (a n : Int) (h1 : 1 ≤ n) (h2 : n ≤ 4611686018427387904) (a0 : 0 ≤ a) (a1 : a ≤ 4611686018427387904) :
    ∃ v, spymake_Stream_Next k ⟨L, a⟩ n = some (v, a + 1) ∧ 0 ≤ v ∧ v < n := by
  unfold spymake_Stream_Next
  dsimp only
  rw [wid (x := a + 1) (by omega) (by omega)]
  by_cases c : (L.length : Int) = 0
  · rw [ifp c]
    obtain ⟨v, hv, v0, v1⟩ := below_ex k (w64 ((a + 1) * 7919)) n h1 h2
    rw [bnd hv]
    exact ⟨v, rfl, v0, v1⟩
  · rw [ifn c, ifp c, show a + 1 - 1 = a by omega, wid (x := a) (by omega) (by omega)]
    have e1 := Int.tmod_lt_of_pos a (show 0 < (L.length : Int) by omega)
    have e2 : 0 ≤ Int.tmod a (L.length : Int) := Int.tmod_nonneg _ a0
    rw [ifp e2, ifp e1]
    obtain ⟨u, hu, _⟩ := below_ex k (rd L (Int.tmod a (L.length : Int))) 1073741824 (by decide) (by decide)
    rw [bnd hu]
    obtain ⟨v, hv, v0, v1⟩ := below_ex k (w64 (u + (w64 ((w64 (Int.tdiv a (L.length : Int))) * (w64 (7919 + (Int.tmod a (L.length : Int)))))))) n h1 h2
    rw [bnd hv]
    exact ⟨v, rfl, v0, v1⟩
theorem range_ex (k : Nat) (L : List Int) (a lo hi : Int) (h1 : lo ≤ hi) (h2 : hi - lo ≤ 1073741824) (h3 : -4611686018427387904 ≤ lo) (h4 : hi ≤ 4611686018427387904) (a0 : 0 ≤ a) (a1 : a ≤ 4611686018427387904) :
    ∃ v, spymake_Stream_Range k ⟨L, a⟩ lo hi = some (v, a + 1) ∧ lo ≤ v ∧ v ≤ hi := by
  unfold spymake_Stream_Range
  rw [ifn (by omega), wid (x := hi - lo) (by omega) (by omega), wid (x := hi - lo + 1) (by omega) (by omega)]
  obtain ⟨v, hv, v0, v1⟩ := next_ex k L a (hi - lo + 1) (by omega) (by omega) a0 a1
  rw [bnd hv]
  dsimp only
  rw [wid (by omega) (by omega)]
  exact ⟨_, rfl, by omega, by omega⟩
/-- A bound that is valid and small. -/
def VB (b : S_Bound) : Prop := Val b ∧ -10000 ≤ b.Lo ∧ b.Hi ≤ 10000
def cnt {α : Type} (p : α → Bool) : List α → Int
  | [] => 0
  | b :: l => (if p b then 1 else 0) + cnt p l
theorem cnt_append {α : Type} (p : α → Bool) (a b : List α) : cnt p (a ++ b) = cnt p a + cnt p b := by
  induction a with
  | nil => simp [cnt]
  | cons x a ih => rw [List.cons_append, cnt, cnt, ih]; omega
theorem cnt_bd {α : Type} (p : α → Bool) (l : List α) : 0 ≤ cnt p l ∧ cnt p l ≤ (l.length : Int) := by
  induction l with
  | nil => simp [cnt]
  | cons x l ih => rw [cnt, List.length_cons]; split <;> omega
theorem cnt_perm {α : Type} (p : α → Bool) {a b : List α} (h : a.Perm b) : cnt p a = cnt p b := by
  induction h with
  | nil => rfl
  | cons x _ ih => rw [cnt, cnt, ih]
  | swap x y l => rw [cnt, cnt, cnt, cnt]; omega
  | trans _ _ h1 h2 => exact h1.trans h2
theorem cnt_none {α : Type} (p : α → Bool) (l : List α) (h : ∀ x, x ∈ l → p x = false) : cnt p l = 0 := by
  induction l with
  | nil => rfl
  | cons x l ih => rw [cnt, h x List.mem_cons_self, ih (fun y hy => h y (List.mem_cons_of_mem _ hy))]; rfl
theorem lcheck_l0 (k : Nat) (c : S_Cells) (hv : ∀ b, b ∈ c.At → VB b) (hl : c.At.length ≤ 100) : ∀ (d n : Nat) (i : Int), i + d = c.At.length → 0 ≤ i → d < n → clean_Check.l0 k c n i = some (Sum.inr ()) := by
  intro d
  induction d with
  | zero =>
    intro n i hi i0 hn
    obtain ⟨n, rfl⟩ : ∃ q, n = q + 1 := ⟨n - 1, by omega⟩
    rw [clean_Check.l0, ifn (by omega)]
  | succ d ih =>
    intro n i hi i0 hn
    obtain ⟨n, rfl⟩ : ∃ q, n = q + 1 := ⟨n - 1, by omega⟩
    have hb := hv _ (rd_mem i0 (show i < (c.At.length : Int) by omega))
    obtain ⟨e, e1, e2⟩ := check_Quanta k (rd c.At i)
    have e0 := e2.mpr hb.1
    unfold VB Val at hb
    rw [clean_Check.l0, ifp (by omega), ifp i0, bnd e1, ifn (by omega), ifn (by omega), ifn (by omega), wid (x := i + 1) (by omega) (by omega)]
    exact ih n (i + 1) (by omega) (by omega) (by omega)
/-- A field that is valid. -/
structure Fld (c : S_Cells) : Prop where
  w0 : 1 ≤ c.W
  w1 : c.W ≤ 6
  h0 : 1 ≤ c.H
  h1 : c.H ≤ 6
  len : (c.At.length : Int) = c.W * c.H
  vb : ∀ b, b ∈ c.At → VB b
theorem Fld.small {c : S_Cells} (h : Fld c) : 1 ≤ c.At.length ∧ c.At.length ≤ 36 := by
  have m1 := mul_le (a := c.W) (b := c.H) (A := 6) (B := 6) (by have := h.w0; omega) h.w1 (by have := h.h0; omega) h.h1
  have m2 : 1 * 1 ≤ c.W * c.H := Int.mul_le_mul h.w0 h.h0 (by decide) (by have := h.w0; omega)
  have := h.len
  omega
theorem lcheck_eq (k : Nat) (c : S_Cells) (h : Fld c) (hk : 200 ≤ k) : clean_Check k c = some 0 := by
  have hs := h.small
  have w0 := h.w0
  have w1 := h.w1
  have h0 := h.h0
  have h1 := h.h1
  have hl := h.len
  unfold clean_Check
  rw [mn_def, mx_def, ifn (by omega), ifn (by omega), wid (x := c.W * c.H) (by omega) (by omega), ifn (by omega), bnd (lcheck_l0 k c h.vb (by omega) c.At.length k 0 (by omega) (by decide) (by omega))]
  rfl
theorem of_l0 (k : Nat) (c : S_Cells) (W : List Int) (hG : Good c W) (hl : W.length ≤ 1000) : ∀ (e n : Nat) (i m : Int), i + e = (W.length : Int) → 0 ≤ i → e < n →
    ∃ r, level_Of.l0 k W c n i m = some r ∧ r ≤ m ∧ (∀ j, i ≤ j → j < (W.length : Int) → r ≤ (rd c.At (rd W j)).Hi) ∧ ∀ B, B ≤ m → (∀ x, x ∈ W → B ≤ (rd c.At x).Hi) → B ≤ r := by
  intro e
  induction e with
  | zero =>
    intro n i m hi i0 hn
    obtain ⟨n, rfl⟩ : ∃ q, n = q + 1 := ⟨n - 1, by omega⟩
    rw [level_Of.l0, ifn (by omega)]
    exact ⟨m, rfl, Int.le_refl _, fun j j0 j1 => by omega, fun B h _ => h⟩
  | succ e ih =>
    intro n i m hi i0 hn
    obtain ⟨n, rfl⟩ : ∃ q, n = q + 1 := ⟨n - 1, by omega⟩
    have hm := rd_mem i0 (show i < (W.length : Int) by omega)
    have g := hG _ hm
    rw [level_Of.l0, ifp (by omega), ifp i0, ifp g.1, ifp g.2, wid (x := i + 1) (by omega) (by omega), mn_def]
    obtain ⟨r, e1, h1, h2, h3⟩ := ih n (i + 1) (min m (rd c.At (rd W i)).Hi) (by omega) (by omega) (by omega)
    refine ⟨r, e1, by omega, fun j j0 j1 => ?_, fun B hB hx => h3 B (by have := hx _ hm; omega) hx⟩
    by_cases c1 : j = i
    · rw [c1]; omega
    · exact h2 j (by omega) j1
theorem wit_ex (k : Nat) (c : S_Cells) (least : Int) (K : List Int) (hF : Fld c) (hk : 300 ≤ k) (l0 : 1 ≤ least) (e1 : level_known k c = some K) (hG : Good c K) (hKl : K.length ≤ 36) (l1 : least ≤ (K.length : Int)) :
    ∃ W lo, level_Witness k c least = some (W, 0) ∧ lo ∈ K ∧ (∀ x, x ∈ K → (rd c.At lo).Hi ≤ (rd c.At x).Hi) ∧ (∀ x, x ∈ W ↔ x ∈ K.take least.toNat ∨ x = lo) ∧ (W.length : Int) ≤ least + 1 := by
  have hs := hF.small
  obtain ⟨lo, e2, m1, m2⟩ := minf_ex k c K hG (by omega) (by omega) (by omega) (by omega)
  obtain ⟨W, hW⟩ : ∃ W, W = Lib.compact ((K.take least.toNat ++ [lo]).mergeSort fun x y => decide (x ≤ y)) := ⟨_, rfl⟩
  have hWm : ∀ x, x ∈ W ↔ x ∈ K.take least.toNat ∨ x = lo := fun x => by
    rw [hW, mem_compact, (List.mergeSort_perm _ _).mem_iff, List.mem_append, List.mem_singleton]
  have htl : (K.take least.toNat).length ≤ 36 := by rw [List.length_take]; omega
  have hWl : (W.length : Int) ≤ least + 1 := by
    rw [hW]
    have h : ∀ (zs : List Int) m, (Lib.compactUpTo zs.toArray m).length ≤ m := by
      intro zs m
      induction m with
      | zero => simp [Lib.compactUpTo]
      | succ m ih => rw [Lib.compactUpTo_succ, List.length_append]; split <;> simp <;> omega
    have h2 := h ((K.take least.toNat ++ [lo]).mergeSort fun x y => decide (x ≤ y)) ((K.take least.toNat ++ [lo]).mergeSort fun x y => decide (x ≤ y)).length
    rw [List.length_mergeSort, List.length_append, List.length_singleton, List.length_take] at h2
    have h3 : Lib.compact ((K.take least.toNat ++ [lo]).mergeSort fun x y => decide (x ≤ y)) = Lib.compactUpTo ((K.take least.toNat ++ [lo]).mergeSort fun x y => decide (x ≤ y)).toArray ((K.take least.toNat ++ [lo]).mergeSort fun x y => decide (x ≤ y)).length := rfl
    rw [h3, List.length_mergeSort, List.length_append, List.length_singleton, List.length_take]
    omega
  have hwit : level_Witness k c least = some (W, 0) := by
    unfold level_Witness
    rw [bnd (lcheck_eq k c hF (by omega)), ifn (by decide), ifn (by omega), bnd e1, ifn (by omega), bnd e2, ifp (by omega), ifp (by omega)]
    have hcl : slices_Clone_int k (K.take least.toNat) = some (K.take least.toNat) := by
      unfold slices_Clone_int
      rw [ifp (by rw [List.length_nil]; omega), List.nil_append]
    have hso : slices_Sort_int k (K.take least.toNat ++ [lo]) = some ((K.take least.toNat ++ [lo]).mergeSort fun x y => decide (x ≤ y)) := by
      unfold slices_Sort_int
      rw [ifp (by rw [List.length_append, List.length_singleton]; omega)]
    have hco : slices_Compact_int k ((K.take least.toNat ++ [lo]).mergeSort fun x y => decide (x ≤ y)) = some W := by
      unfold slices_Compact_int
      rw [ifp (by rw [List.length_mergeSort, List.length_append, List.length_singleton]; omega), hW]
    rw [bnd hcl, ifp (by omega), bnd hso, bnd hco]
  exact ⟨W, lo, hwit, m1, m2, hWm, hWl⟩
theorem of_ex (k : Nat) (c : S_Cells) (least : Int) (hF : Fld c) (hk : 300 ≤ k) (l0 : 1 ≤ least) (l1 : least ≤ ((kn c c.At.length 0).length : Int)) : ∃ K r, level_known k c = some K ∧ K.Perm (kn c c.At.length 0) ∧ Srt c K 0 (K.length : Int) ∧
    level_Of k c least = some (if (rd c.At (rd K (least - 1))).Lo > r then (⟨0, 0, false⟩, 15) else (⟨(rd c.At (rd K (least - 1))).Lo, r, false⟩, 0)) ∧ (∀ x, x ∈ K → r ≤ (rd c.At x).Hi) ∧ (∀ B, B ≤ 1099511627776 → (∀ x, x ∈ K → B ≤ (rd c.At x).Hi) → B ≤ r) ∧ r ≤ 1099511627776 := by
  have hs := hF.small
  have hn := kn_len c c.At.length 0
  obtain ⟨K, e1, p1, s1⟩ := known_ex k c (by omega) (by omega)
  have hKl := p1.length_eq
  have hG : Good c K := fun x hx => by
    have := (kn_mem c x _ _).mp (p1.mem_iff.mp hx); omega
  obtain ⟨W, lo, hwit, m1, m2, hWm, hWl⟩ := wit_ex k c least K hF hk l0 e1 hG (by omega) (by omega)
  have hWK : ∀ x, x ∈ W → x ∈ K := fun x hx => by
    rcases (hWm x).mp hx with h | h
    · exact List.mem_of_mem_take h
    · rw [h]; exact m1
  obtain ⟨r, e3, r1, r2, r3⟩ := of_l0 k c W (fun x hx => hG x (hWK x hx)) (by omega) W.length k 0 1099511627776 (by omega) (by decide) (by omega)
  have hlo : r ≤ (rd c.At lo).Hi := by
    obtain ⟨m, hm, em⟩ := List.mem_iff_getElem.mp ((hWm lo).mpr (.inr rfl))
    obtain ⟨hlt, er⟩ := rd_lt (xs := W) (i := (m : Int)) (by omega) (by omega)
    have := r2 (m : Int) (by omega) (by omega)
    have em' : rd W (m : Int) = lo := by rw [er]; exact em
    rw [em'] at this
    exact this
  refine ⟨K, r, e1, p1, s1, ?_, fun x hx => by have := m2 x hx; omega, fun B hB hx => r3 B hB (fun x h => hx x (hWK x h)), r1⟩
  have g := hG.rd (i := least - 1) (by omega) (by omega)
  unfold level_Of
  rw [bnd hwit]
  dsimp only
  rw [ifn (by decide), bnd e1, wid (x := least - 1) (by omega) (by omega), ifp (by omega), ifp (by omega), ifp g.1, ifp g.2, bnd e3]
  by_cases u : (rd c.At (rd K (least - 1))).Lo > r
  · rw [ifp u, if_pos u]
  · rw [ifn u, if_neg u]
theorem levelled_eq (k : Nat) (hk : 300 ≤ k) : spykeep3_levelled k = some true := by
  have hF : Fld ⟨2, 1, [⟨3, 9, false⟩, ⟨4, 6, false⟩]⟩ := ⟨by decide, by decide, by decide, by decide, rfl, fun b hb => by
    simp only [List.mem_cons, List.not_mem_nil, or_false] at hb
    rcases hb with rfl | rfl <;> exact ⟨by decide, by decide, by decide⟩⟩
  have hkn : level_known k ⟨2, 1, [⟨3, 9, false⟩, ⟨4, 6, false⟩]⟩ = some [0, 1] := by
    obtain ⟨m, rfl⟩ : ∃ q, k = q + 300 := ⟨k - 300, by omega⟩
    kernel_rfl
  obtain ⟨K, r, e1, p1, s1, e2, h1, h2, _⟩ := of_ex k ⟨2, 1, [⟨3, 9, false⟩, ⟨4, 6, false⟩]⟩ 2 hF hk (by decide) (by decide)
  rw [hkn] at e1
  injection e1 with e1
  subst e1
  have x1 : r ≤ 6 := h1 1 (by simp)
  have x2 : 6 ≤ r := h2 6 (by decide) (fun x hx => by
    simp only [List.mem_cons, List.not_mem_nil, or_false] at hx
    rcases hx with rfl | rfl <;> decide)
  have hr : r = 6 := by omega
  subst hr
  have e3 : level_Of k ⟨2, 1, [⟨3, 9, false⟩, ⟨4, 6, false⟩]⟩ 2 = some (⟨4, 6, false⟩, 0) := e2
  unfold spykeep3_levelled
  rw [bnd e3]
  rfl
/-- The least-th smallest is not more than the background, if that many are not. -/
theorem nth_low (c : S_Cells) (K : List Int) (back : Int) (n : Int) (hS : Srt c K 0 (K.length : Int)) (n1 : 1 ≤ n) (hc : n ≤ cnt (fun x => decide ((rd c.At x).Lo ≤ back)) K) : (rd c.At (rd K (n - 1))).Lo ≤ back := by
  have hb := cnt_bd (fun x => decide ((rd c.At x).Lo ≤ back)) K
  by_cases g : (rd c.At (rd K (n - 1))).Lo ≤ back
  · exact g
  have e : K = K.take (n - 1).toNat ++ K.drop (n - 1).toNat := (List.take_append_drop _ _).symm
  rw [e, cnt_append] at hc
  have h1 := cnt_bd (fun x => decide ((rd c.At x).Lo ≤ back)) (K.take (n - 1).toNat)
  rw [List.length_take] at h1
  have h2 : cnt (fun x => decide ((rd c.At x).Lo ≤ back)) (K.drop (n - 1).toNat) = 0 := cnt_none _ _ fun x hx => by
    obtain ⟨m, hm, rfl⟩ := List.mem_iff_getElem.mp hx
    rw [List.length_drop] at hm
    rw [List.getElem_drop]
    obtain ⟨hlt, er⟩ := rd_lt (xs := K) (i := ((n - 1).toNat + m : Nat)) (by omega) (by omega)
    have := hS (n - 1) ((n - 1).toNat + m : Nat) (by omega) (by omega) (by omega)
    unfold ky at this
    rw [er] at this
    simp only [Int.toNat_natCast] at this
    exact decide_eq_false (by omega)
  omega
theorem field_l0 (k : Nat) (l : List Int) (at0 w h x t : Int) (x0 : 0 ≤ x) (x1 : x < 200) (t0 : 0 ≤ t) (t1 : t ≤ 30) (wh : 1 ≤ w * h ∧ w * h ≤ 36) : ∀ (e n : Nat) (i a : Int) (out : List S_Bound), i + e = w * h → 0 ≤ i → e < n → 0 ≤ a → a + 10 * e ≤ 1000000 → (out.length : Int) = i → (∀ b, b ∈ out → VB b) →
    ∃ a' out', spymake_Stream_Field.l0 k w h ⟨l, at0⟩ x t n i a out = some (a', out') ∧ (out'.length : Int) = w * h ∧ (∀ b, b ∈ out' → VB b) ∧ a ≤ a' ∧ a' ≤ a + 10 * e := by
  intro e
  induction e with
  | zero =>
    intro n i a out hi i0 hn a0 a1 ho hv
    obtain ⟨n, rfl⟩ : ∃ q, n = q + 1 := ⟨n - 1, by omega⟩
    rw [spymake_Stream_Field.l0, wid (x := w * h) (by omega) (by omega), ifn (by omega)]
    exact ⟨a, out, rfl, by omega, hv, by omega, by omega⟩
  | succ e ih =>
    intro n i a out hi i0 hn a0 a1 ho hv
    obtain ⟨n, rfl⟩ : ∃ q, n = q + 1 := ⟨n - 1, by omega⟩
    rw [spymake_Stream_Field.l0, wid (x := w * h) (by omega) (by omega), ifp (by omega)]
    obtain ⟨s, e1, s0, s1⟩ := next_ex k l a 5 (by decide) (by decide) (by omega) (by omega)
    rw [bnd e1]; dsimp only
    have hx : ∃ y a2, ((if s = 0 then ((spymake_Stream_Next k (⟨l, a + 1⟩ : S_Stream) 2000).bind fun (vt278, vt279) => (some ((w64 (x + vt278)), vt279))) else (some (x, a + 1)) : Option (Int × Int))) = some (y, a2) ∧ 0 ≤ y ∧ y < 2200 ∧ a + 1 ≤ a2 ∧ a2 ≤ a + 2 := by
      by_cases g : s = 0
      · obtain ⟨v, e2, v0, v1⟩ := next_ex k l (a + 1) 2000 (by decide) (by decide) (by omega) (by omega)
        rw [ifp g, bnd e2]; dsimp only
        rw [wid (x := x + v) (by omega) (by omega)]
        exact ⟨_, _, rfl, by omega, by omega, by omega, by omega⟩
      · rw [ifn g]; exact ⟨_, _, rfl, by omega, by omega, by omega, by omega⟩
    obtain ⟨y, a2, e2, y0, y1, z0, z1⟩ := hx
    rw [bnd e2]; dsimp only
    rw [wid (x := t + 1) (by omega) (by omega)]
    obtain ⟨u, e3, u0, u1⟩ := next_ex k l a2 (t + 1) (by omega) (by omega) (by omega) (by omega)
    rw [bnd e3]; dsimp only
    obtain ⟨v, e4, v0, v1⟩ := next_ex k l (a2 + 1) (t + 1) (by omega) (by omega) (by omega) (by omega)
    rw [bnd e4]; dsimp only
    obtain ⟨z, e5, _, _⟩ := next_ex k l (a2 + 1 + 1) 15 (by decide) (by decide) (by omega) (by omega)
    rw [bnd e5]; dsimp only
    have hpush : ∀ b : S_Bound, VB b → ∀ y, y ∈ out ++ [b] → VB y := by
      intro b h1 y hy
      rcases List.mem_append.mp hy with hy | hy
      · exact hv y hy
      · simp only [List.mem_singleton] at hy; subst hy; exact h1
    by_cases g : z = 0
    · rw [ifp g, ifp (by omega), wid (x := i + 1) (by omega) (by omega)]
      obtain ⟨a', out', r1, r2, r3, r4, r5⟩ := ih n (i + 1) (a2 + 1 + 1 + 1) (out ++ [⟨0, 0, true⟩]) (by omega) (by omega) (by omega) (by omega) (by omega) (by rw [List.length_append, List.length_singleton]; omega) (hpush _ ⟨val_no, by decide, by decide⟩)
      exact ⟨a', out', r1, r2, r3, by omega, by omega⟩
    · rw [ifn g, ifp (by omega), wid (x := i + 1) (by omega) (by omega), wid (x := y - u) (by omega) (by omega), wid (x := y + v) (by omega) (by omega)]
      obtain ⟨a', out', r1, r2, r3, r4, r5⟩ := ih n (i + 1) (a2 + 1 + 1 + 1) (out ++ [⟨y - u, y + v, false⟩]) (by omega) (by omega) (by omega) (by omega) (by omega) (by rw [List.length_append, List.length_singleton]; omega) (hpush _ ⟨val_of (by omega) (by omega) (by omega), by dsimp only; omega, by dsimp only; omega⟩)
      exact ⟨a', out', r1, r2, r3, by omega, by omega⟩
theorem field_ex (k : Nat) (l : List Int) (a w h : Int) (a0 : 0 ≤ a) (a1 : a ≤ 1000) (w0 : 1 ≤ w) (w1 : w ≤ 6) (h0 : 1 ≤ h) (h1 : h ≤ 6) (hk : 100 ≤ k) : ∃ c a', spymake_Stream_Field k ⟨l, a⟩ w h = some (c, a') ∧ Fld c ∧ 0 ≤ a' ∧ a' ≤ 10000 := by
  have m1 := mul_le (a := w) (b := h) (A := 6) (B := 6) (by omega) w1 (by omega) h1
  have m2 : 1 * 1 ≤ w * h := Int.mul_le_mul w0 h0 (by decide) (by omega)
  obtain ⟨x, e1, x0, x1⟩ := next_ex k l a 200 (by decide) (by decide) (by omega) (by omega)
  obtain ⟨t, e2, t0, t1⟩ := range_ex k l (a + 1) 0 30 (by decide) (by decide) (by decide) (by decide) (by omega) (by omega)
  obtain ⟨a', out, e3, o1, o2, o3, o4⟩ := field_l0 k l a w h x t x0 x1 t0 t1 (by omega) (w * h).toNat k 0 (a + 1 + 1) [] (by omega) (by decide) (by omega) (by omega) (by omega) rfl (fun b hb => by cases hb)
  unfold spymake_Stream_Field
  rw [bnd e1]; dsimp only
  rw [bnd e2]; dsimp only
  rw [bnd e3]
  exact ⟨⟨w, h, out⟩, a', rfl, ⟨w0, w1, h0, h1, o1, o2⟩, by omega, by omega⟩
theorem norm_Quanta (k : Nat) (b : S_Bound) : bound_Norm_Quanta k b = some (if Val b then b else ⟨0, 0, true⟩) := by
  obtain ⟨e, e1, e2⟩ := check_Quanta k b
  unfold bound_Norm_Quanta
  rw [bnd e1]
  by_cases c : Val b
  · rw [if_pos c, ifn (by have := e2.mpr c; omega)]
  · rw [if_neg c, ifp (show e ≠ 0 from fun z => c (e2.mp z))]; rfl
theorem of_Quanta (k : Nat) (lo hi : Int) : bound_Of_Quanta k lo hi = some (if Val ⟨lo, hi, false⟩ then ⟨lo, hi, false⟩ else ⟨0, 0, true⟩) := by
  unfold bound_Of_Quanta
  rw [bnd (norm_Quanta k _)]
theorem of_ok_Quanta (k : Nat) (lo hi : Int) (h0 : -1152921504606846976 ≤ lo) (h1 : hi ≤ 1152921504606846976) (h : lo ≤ hi) : bound_Of_Quanta k lo hi = some ⟨lo, hi, false⟩ := by
  rw [of_Quanta, if_pos (val_of h0 h1 h)]
theorem norm_ok_Quanta (k : Nat) (b : S_Bound) (h : Val b) : bound_Norm_Quanta k b = some b := by rw [norm_Quanta, if_pos h]
theorem exact_Quanta (k : Nat) (v : Int) (h0 : -1152921504606846976 ≤ v) (h1 : v ≤ 1152921504606846976) : bound_Exact_Quanta k v = some ⟨v, v, false⟩ := by
  unfold bound_Exact_Quanta
  rw [bnd (of_ok_Quanta k v v h0 h1 (Int.le_refl v))]
theorem neg_eq (k : Nat) (b : S_Bound) (h : Val b) : bound_Neg_Quanta k b = some ⟨-b.Hi, -b.Lo, b.Unknown⟩ ∧ Val ⟨-b.Hi, -b.Lo, b.Unknown⟩ := by
  have h' := h
  unfold Val at h'
  unfold bound_Neg_Quanta
  rw [bnd (norm_ok_Quanta k b h), wid (x := 0 - b.Hi) (by omega) (by omega), wid (x := 0 - b.Lo) (by omega) (by omega), Int.zero_sub, Int.zero_sub]
  exact ⟨rfl, fun u => by have := h'.1 u; dsimp only; omega, by dsimp only; omega, by dsimp only; omega, by dsimp only; omega⟩
theorem vague_eq (k : Nat) (a b : S_Bound) (ha : Val a) (hb : Val b) : bound_vague_Quanta k a b = some (a.Unknown || b.Unknown) := by
  unfold bound_vague_Quanta
  rw [bnd (norm_ok_Quanta k a ha)]
  by_cases c : a.Unknown = true
  · rw [ifp c, c]; rfl
  · have c' : a.Unknown = false := by simpa using c
    rw [ifn c, bnd (norm_ok_Quanta k b hb), c', Bool.false_or]
/-- What is left of a cell. -/
def Left (back : Int) (x y : S_Bound) : Prop := Val y ∧ 0 ≤ y.Lo ∧ ∀ v, x.Unknown = false → x.Lo ≤ v → v ≤ x.Hi → back ≤ v → y.Unknown = true ∨ (y.Lo ≤ v - back ∧ v - back ≤ y.Hi)
theorem max_zero (k : Nat) (d : S_Bound) (h : Val d) : ∃ y, bound_Max_Quanta k d ⟨0, 0, false⟩ = some y ∧ Val y ∧ 0 ≤ y.Lo ∧ (d.Unknown = true → y.Unknown = true) ∧ (d.Unknown = false → y.Lo = max d.Lo 0 ∧ y.Hi = max d.Hi 0) := by
  obtain ⟨e1, v1⟩ := neg_eq k d h
  have hz : Val ⟨0, 0, false⟩ := by decide
  obtain ⟨e2, v2⟩ := neg_eq k ⟨0, 0, false⟩ hz
  unfold bound_Max_Quanta
  rw [bnd e1, bnd e2]
  have hmin : ∃ m, bound_Min_Quanta k ⟨-d.Hi, -d.Lo, d.Unknown⟩ ⟨-0, -0, false⟩ = some m ∧ Val m ∧ ((d.Unknown = true ∧ m = ⟨0, 0, true⟩) ∨ (d.Unknown = false ∧ m = ⟨min (-d.Hi) 0, min (-d.Lo) 0, false⟩)) := by
    have h' := h
    unfold Val at h'
    unfold bound_Min_Quanta
    rw [bnd (vague_eq k _ _ v1 v2)]
    dsimp only
    by_cases u : d.Unknown = true
    · have hn : bound_None_Quanta k = some ⟨0, 0, true⟩ := rfl
      rw [u, ifp (by decide), bnd hn]
      exact ⟨_, rfl, val_no, .inl ⟨rfl, rfl⟩⟩
    · have u' : d.Unknown = false := by simpa using u
      rw [u', ifn (by decide), mn_def, mn_def, bnd (of_ok_Quanta k _ _ (by omega) (by omega) (by omega))]
      exact ⟨_, rfl, val_of (by omega) (by omega) (by omega), .inr ⟨rfl, rfl⟩⟩
  obtain ⟨m, e3, v3, h3⟩ := hmin
  rw [bnd e3]
  obtain ⟨e4, v4⟩ := neg_eq k m v3
  rw [bnd e4]
  refine ⟨_, rfl, v4, ?_, ?_, ?_⟩
  · rcases h3 with ⟨_, rfl⟩ | ⟨_, rfl⟩ <;> dsimp only <;> omega
  · intro u
    rcases h3 with ⟨_, rfl⟩ | ⟨g, rfl⟩
    · rfl
    · rw [g] at u; cases u
  · intro u
    rcases h3 with ⟨g, rfl⟩ | ⟨_, rfl⟩
    · rw [g] at u; cases u
    · dsimp only; exact ⟨by omega, by omega⟩
theorem sub_ex (k : Nat) (x : S_Bound) (p q : Int) (hx : VB x) (p0 : -10000 ≤ p) (pq : p ≤ q) (q1 : q ≤ 10000) : ∃ d, bound_Sub_Quanta k x ⟨p, q, false⟩ = some d ∧ Val d ∧ (x.Unknown = true → d = ⟨0, 0, true⟩) ∧ (x.Unknown = false → d = ⟨x.Lo - q, x.Hi - p, false⟩) := by
  obtain ⟨hv, h1, h2⟩ := hx
  have h' := hv
  unfold Val at h'
  obtain ⟨e1, v1⟩ := neg_eq k ⟨p, q, false⟩ (val_of (by omega) (by omega) pq)
  unfold bound_Sub_Quanta
  rw [bnd e1]
  unfold bound_Add_Quanta
  rw [bnd (vague_eq k _ _ hv v1)]
  dsimp only
  by_cases u : x.Unknown = true
  · have hn : bound_None_Quanta k = some ⟨0, 0, true⟩ := rfl
    rw [u, ifp (by decide), bnd hn]
    exact ⟨_, rfl, val_no, fun _ => rfl, fun h => by cases h⟩
  · have u' : x.Unknown = false := by simpa using u
    rw [u', ifn (by decide), wid (x := x.Lo + -q) (by omega) (by omega), wid (x := x.Hi + -p) (by omega) (by omega), bnd (of_ok_Quanta k _ _ (by omega) (by omega) (by omega))]
    exact ⟨_, rfl, val_of (by omega) (by omega) (by omega), (fun h => by cases h), fun _ => by rw [← Int.sub_eq_add_neg, ← Int.sub_eq_add_neg]⟩
theorem subt_l0 (k : Nat) (c : S_Cells) (back p q : Int) (hF : Fld c) (p0 : -10000 ≤ p) (pb : p ≤ back) (bq : back ≤ q) (q1 : q ≤ 10000) : ∀ (e n : Nat) (i : Int) (out : List S_Bound), i + e = (c.At.length : Int) → 0 ≤ i → e < n → (out.length : Int) = i → (∀ j, 0 ≤ j → j < i → Left back (rd c.At j) (rd out j)) →
    ∃ out', level_Subtract.l0 k c ⟨p, q, false⟩ n i out = some out' ∧ out'.length = c.At.length ∧ ∀ j, 0 ≤ j → j < (c.At.length : Int) → Left back (rd c.At j) (rd out' j) := by
  have hs := hF.small
  intro e
  induction e with
  | zero =>
    intro n i out hi i0 hn ho h
    obtain ⟨n, rfl⟩ : ∃ r, n = r + 1 := ⟨n - 1, by omega⟩
    rw [level_Subtract.l0, ifn (by omega)]
    exact ⟨out, rfl, by omega, fun j j0 j1 => h j j0 (by omega)⟩
  | succ e ih =>
    intro n i out hi i0 hn ho h
    obtain ⟨n, rfl⟩ : ∃ r, n = r + 1 := ⟨n - 1, by omega⟩
    have hx := hF.vb _ (rd_mem i0 (show i < (c.At.length : Int) by omega))
    obtain ⟨d, e1, v1, d1, d2⟩ := sub_ex k (rd c.At i) p q hx p0 (by omega) q1
    rw [level_Subtract.l0, ifp (by omega), ifp i0, bnd e1]
    have hd : ∃ d', ((if d.Hi < 0 then ((bound_None_Quanta k).bind fun vt332 => (some (vt332.Lo, vt332.Hi, vt332.Unknown))) else (some (d.Lo, d.Hi, d.Unknown)) : Option (Int × Int × Bool))) = some (d'.Lo, d'.Hi, d'.Unknown) ∧ Val d' ∧ (d'.Unknown = true ∨ (d' = d ∧ (rd c.At i).Unknown = false)) := by
      by_cases g : d.Hi < 0
      · have hn : bound_None_Quanta k = some ⟨0, 0, true⟩ := rfl
        rw [ifp g, bnd hn]; exact ⟨⟨0, 0, true⟩, rfl, val_no, .inl rfl⟩
      · rw [ifn g]
        refine ⟨d, rfl, v1, ?_⟩
        by_cases u : (rd c.At i).Unknown = true
        · exact .inl (by rw [d1 u])
        · exact .inr ⟨rfl, by simpa using u⟩
    obtain ⟨d', e2, v2, h2⟩ := hd
    rw [bnd e2]; dsimp only
    obtain ⟨y, e3, y1, y2, y3, y4⟩ := max_zero k d' v2
    rw [bnd (exact_Quanta k 0 (by decide) (by decide)), bnd e3, ifp (by omega), wid (x := i + 1) (by omega) (by omega)]
    refine ih n (i + 1) _ (by omega) (by omega) (by omega) (by rw [List.length_append, List.length_singleton]; omega) fun j j0 j1 => ?_
    by_cases g : j = i
    · have er : rd (out ++ [y]) j = y := by
        obtain ⟨hlt, er⟩ := rd_lt (xs := out ++ [y]) (i := j) j0 (by rw [List.length_append, List.length_singleton]; omega)
        rw [er, List.getElem_append_right (by omega)]; simp
      rw [er, g]
      refine ⟨y1, y2, fun v xu x0 x1 bv => ?_⟩
      rcases h2 with h2 | ⟨rfl, _⟩
      · exact .inl (y3 h2)
      · have hd := d2 xu
        have hu : d'.Unknown = false := by rw [hd]
        obtain ⟨z1, z2⟩ := y4 hu
        refine .inr ?_
        rw [z1, z2, hd]
        dsimp only
        omega
    · have er : rd (out ++ [y]) j = rd out j := by
        obtain ⟨hlt, er⟩ := rd_lt (xs := out ++ [y]) (i := j) j0 (by rw [List.length_append, List.length_singleton]; omega)
        obtain ⟨hlt', er'⟩ := rd_lt (xs := out) (i := j) j0 (by omega)
        rw [er, er', List.getElem_append_left (by omega)]
      rw [er]
      exact h j j0 (by omega)
theorem has_may (k : Nat) (b : S_Bound) (v : Int) (h : Val b) (hm : b.Unknown = true ∨ (b.Lo ≤ v ∧ v ≤ b.Hi)) : bound_Has_Quanta k b v = some true := by
  unfold bound_Has_Quanta
  rw [bnd (vague_eq k b b h h), Bool.or_self]
  by_cases u : b.Unknown = true
  · rw [ifp u]
  · rw [ifn u]
    rcases hm with hm | ⟨h1, h2⟩
    · exact absurd hm u
    · rw [ifp h1, decide_eq_true h2]
theorem leaf_l1 (k : Nat) (c : S_Cells) (C : S_Cells) (back i : Int) (l : List Int) (i0 : 0 ≤ i) (i1 : i < (C.At.length : Int)) (hx : VB (rd c.At i)) (b0 : 0 ≤ back) (b1 : back ≤ 1000) (hL : Left back (rd c.At i) (rd C.At i)) : ∀ (e n : Nat) (j : Int), j + e = 3 → 0 ≤ j → e < n → spykeep3_LevelLeaves.l1 k c i back C l n j = some (Sum.inr ()) := by
  obtain ⟨hv, h1, h2⟩ := hx
  obtain ⟨v1, v2, v3⟩ := hL
  have h' := hv
  unfold Val at h'
  have hm : w64 (Int.tdiv (w64 (((rd c.At i).Lo) + ((rd c.At i).Hi))) 2) = Int.tdiv ((rd c.At i).Lo + (rd c.At i).Hi) 2 := by
    have t1 := Int.mul_tdiv_add_tmod ((rd c.At i).Lo + (rd c.At i).Hi) 2
    have t2 := Int.tmod_lt_of_pos ((rd c.At i).Lo + (rd c.At i).Hi) (show (0 : Int) < 2 by decide)
    have t3 := Int.lt_tmod_of_pos ((rd c.At i).Lo + (rd c.At i).Hi) (show (0 : Int) < 2 by decide)
    rw [wid (x := (rd c.At i).Lo + (rd c.At i).Hi) (by omega) (by omega), wid (by omega) (by omega)]
  have hall : ∀ j, 0 ≤ j → j < 3 → (rd c.At i).Lo ≤ rd [(rd c.At i).Lo, (rd c.At i).Hi, Int.tdiv ((rd c.At i).Lo + (rd c.At i).Hi) 2] j ∧ rd [(rd c.At i).Lo, (rd c.At i).Hi, Int.tdiv ((rd c.At i).Lo + (rd c.At i).Hi) 2] j ≤ (rd c.At i).Hi := by
    intro j j0 j1
    have t1 := Int.mul_tdiv_add_tmod ((rd c.At i).Lo + (rd c.At i).Hi) 2
    have t2 := Int.tmod_lt_of_pos ((rd c.At i).Lo + (rd c.At i).Hi) (show (0 : Int) < 2 by decide)
    have t3 := Int.lt_tmod_of_pos ((rd c.At i).Lo + (rd c.At i).Hi) (show (0 : Int) < 2 by decide)
    have : j = 0 ∨ j = 1 ∨ j = 2 := by omega
    rcases this with rfl | rfl | rfl
    · exact ⟨Int.le_refl _, h'.2.2.2⟩
    · exact ⟨h'.2.2.2, Int.le_refl _⟩
    · show _ ≤ Int.tdiv ((rd c.At i).Lo + (rd c.At i).Hi) 2 ∧ Int.tdiv ((rd c.At i).Lo + (rd c.At i).Hi) 2 ≤ _
      constructor <;> omega
  intro e
  induction e with
  | zero =>
    intro n j hj j0 hn
    obtain ⟨n, rfl⟩ : ∃ q, n = q + 1 := ⟨n - 1, by omega⟩
    rw [spykeep3_LevelLeaves.l1, ifn (by rw [List.length_cons, List.length_cons, List.length_cons, List.length_nil]; omega)]
  | succ e ih =>
    intro n j hj j0 hn
    obtain ⟨n, rfl⟩ : ∃ q, n = q + 1 := ⟨n - 1, by omega⟩
    have a := hall j j0 (by omega)
    rw [spykeep3_LevelLeaves.l1, ifp (by rw [List.length_cons, List.length_cons, List.length_cons, List.length_nil]; omega), ifp j0, hm, wid (x := j + 1) (by omega) (by omega)]
    by_cases u : (rd c.At i).Unknown = true
    · rw [ifn (fun g => g u), ifp i1, ifn (by omega)]
      exact ih n (j + 1) (by omega) (by omega) (by omega)
    · rw [ifp u]
      by_cases g : rd [(rd c.At i).Lo, (rd c.At i).Hi, Int.tdiv ((rd c.At i).Lo + (rd c.At i).Hi) 2] j ≥ back
      · rw [ifp g, ifp i1, wid (by omega) (by omega), bnd (has_may k _ _ v1 (v3 _ (by simpa using u) a.1 a.2 g)), ifn (by decide), ifn (by omega)]
        exact ih n (j + 1) (by omega) (by omega) (by omega)
      · rw [ifn g, ifp i1, ifn (by omega)]
        exact ih n (j + 1) (by omega) (by omega) (by omega)
theorem leaf_l0 (k : Nat) (c C : S_Cells) (back : Int) (l : List Int) (hF : Fld c) (b0 : 0 ≤ back) (b1 : back ≤ 1000) (hC : C.At.length = c.At.length) (hL : ∀ j, 0 ≤ j → j < (c.At.length : Int) → Left back (rd c.At j) (rd C.At j)) (hk : 100 ≤ k) : ∀ (e n : Nat) (i : Int), i + e = (c.At.length : Int) → 0 ≤ i → e < n → spykeep3_LevelLeaves.l0 k c l back C n i = some (Sum.inr ()) := by
  have hs := hF.small
  intro e
  induction e with
  | zero =>
    intro n i hi i0 hn
    obtain ⟨n, rfl⟩ : ∃ q, n = q + 1 := ⟨n - 1, by omega⟩
    rw [spykeep3_LevelLeaves.l0, ifn (by omega)]
  | succ e ih =>
    intro n i hi i0 hn
    obtain ⟨n, rfl⟩ : ∃ q, n = q + 1 := ⟨n - 1, by omega⟩
    rw [spykeep3_LevelLeaves.l0, ifp (by omega), ifp i0, bnd (leaf_l1 k c C back i l i0 (by omega) (hF.vb _ (rd_mem i0 (by omega))) b0 b1 (hL i i0 (by omega)) 3 k 0 (by decide) (by decide) (by omega))]
    dsimp only [Sum.elim_inr]
    rw [wid (x := i + 1) (by omega) (by omega)]
    exact ih n (i + 1) (by omega) (by omega) (by omega)
theorem law (k : Nat) (l : List Int) (hk : 400 ≤ k) : spykeep3_LevelLeaves k l = some true := by
  unfold spykeep3_LevelLeaves
  obtain ⟨w, e1, w0, w1⟩ := range_ex k l 0 1 5 (by decide) (by decide) (by decide) (by decide) (by decide) (by decide)
  rw [bnd e1]; dsimp only
  obtain ⟨h, e2, h0, h1⟩ := range_ex k l (0 + 1) 1 5 (by decide) (by decide) (by decide) (by decide) (by decide) (by decide)
  rw [bnd e2]; dsimp only
  obtain ⟨c, a, e3, hF, a0, a1⟩ := field_ex k l (0 + 1 + 1) w h (by decide) (by decide) w0 (by omega) h0 (by omega) (by omega)
  rw [bnd e3]; dsimp only
  obtain ⟨back, e4, b0, b1⟩ := next_ex k l a 300 (by decide) (by decide) a0 (by omega)
  rw [bnd e4]; dsimp only
  obtain ⟨u, e5, u0, u1⟩ := next_ex k l (a + 1) 9 (by decide) (by decide) (by omega) (by omega)
  rw [bnd e5]; dsimp only
  obtain ⟨v, e6, v0, v1⟩ := next_ex k l (a + 1 + 1) 9 (by decide) (by decide) (by omega) (by omega)
  rw [bnd e6]; dsimp only
  rw [wid (x := back - u) (by omega) (by omega), wid (x := back + v) (by omega) (by omega), bnd (of_ok_Quanta k (back - u) (back + v) (by omega) (by omega) (by omega))]
  have hs := hF.small
  obtain ⟨out, f1, f2, f3⟩ := subt_l0 k c back (back - u) (back + v) hF (by omega) (by omega) (by omega) (by omega) c.At.length k 0 [] (by omega) (by decide) (by omega) rfl (fun j j0 j1 => by omega)
  have hsub : level_Subtract k c ⟨back - u, back + v, false⟩ = some (⟨c.W, c.H, out⟩, 0) := by
    obtain ⟨e, g1, g2⟩ := check_Quanta k ⟨back - u, back + v, false⟩
    have e0 := g2.mpr (val_of (by omega) (by omega) (by omega))
    unfold level_Subtract
    rw [bnd (lcheck_eq k c hF (by omega)), ifn (by decide), bnd g1, ifn (by omega), ifn (by dsimp only; omega), ifn (by dsimp only; omega), bnd f1]
  rw [bnd hsub]; dsimp only
  rw [bnd (levelled_eq k (by omega)), ifn (by decide), ifn (by decide), ifn (by omega), bnd (leaf_l0 k c ⟨c.W, c.H, out⟩ back l hF b0 (by omega) f2 f3 (by omega) c.At.length k 0 (by omega) (by decide) (by omega))]
  rfl
theorem law_ex (l : List Int) : ∃ k, spykeep3_LevelLeaves k l = some true := ⟨400, law 400 l (by decide)⟩

end Go.Sp.T9
