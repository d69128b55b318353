import Derived.Test.YtdogeeomknanpaaFV3
import Derived.KernelRfl
namespace Go.Sp.V3
open Go Go.Sp
set_option linter.unusedVariables false
theorem bnd {α β : Type} {x : Option α} {g : α → Option β} {v : α} (h : x = some v) : x.bind g = g v := by rw [h]; rfl
theorem ifp {α : Type} {c : Prop} [Decidable c] {x y : α} (h : c) : (if c then x else y) = x := if_pos h
theorem ifn {α : Type} {c : Prop} [Decidable c] {x y : α} (h : ¬ c) : (if c then x else y) = y := if_neg h
theorem rd_mem {α : Type} [Inhabited α] {l : List α} {i : Int} (h0 : 0 ≤ i) (h1 : i < (l.length : Int)) : rd l i ∈ l := by
  obtain ⟨h, e⟩ := rd_lt h0 h1
  rw [e]; exact List.getElem_mem h
theorem wid {x : Int} (h : -9223372036854775808 ≤ x) (h' : x ≤ 9223372036854775807) : w64 x = x := w64_of h h'
theorem wuid {x : Int} (h : 0 ≤ x) (h' : x ≤ 18446744073709551615) : u64 x = x := u64_of h h'
theorem mul_le {a b A B : Int} (h1 : 0 ≤ a) (h2 : a ≤ A) (h3 : 0 ≤ b) (h4 : b ≤ B) : 0 ≤ a * b ∧ a * b ≤ A * B :=
  ⟨Int.mul_nonneg h1 h3, Int.mul_le_mul h2 h4 h3 (by omega)⟩
theorem tdiv_nn {a b : Int} (h : 0 ≤ a) : Int.tdiv a b = a / b := Int.tdiv_eq_ediv_of_nonneg h
theorem tmod_nn {a b : Int} (h : 0 ≤ a) : Int.tmod a b = a % b := Int.tmod_eq_emod_of_nonneg h
def AllIn (l : List Int) (lo hi : Int) : Prop := ∀ x, x ∈ l → lo ≤ x ∧ x ≤ hi
theorem AllIn.nil {lo hi : Int} : AllIn [] lo hi := fun x h => by cases h
theorem AllIn.push {l : List Int} {lo hi x : Int} (h : AllIn l lo hi) (h0 : lo ≤ x) (h1 : x ≤ hi) : AllIn (l ++ [x]) lo hi := by
  intro y hy
  rcases List.mem_append.mp hy with hy | hy
  · exact h y hy
  · simp only [List.mem_singleton] at hy; subst hy; exact ⟨h0, h1⟩
theorem AllIn.rd {l : List Int} {lo hi i : Int} (h : AllIn l lo hi) (h0 : 0 ≤ i) (h1 : i < (l.length : Int)) : lo ≤ rd l i ∧ rd l i ≤ hi := h _ (rd_mem h0 h1)
theorem AllIn.mono {l : List Int} {lo hi lo' hi' : Int} (h : AllIn l lo hi) (h0 : lo' ≤ lo) (h1 : hi ≤ hi') : AllIn l lo' hi' := fun x hx => by have := h x hx; omega
theorem rd_set_eq (l : List Int) (i x : Int) (h0 : 0 ≤ i) (h1 : i < (l.length : Int)) : rd (l.set i.toNat x) i = x := by
  obtain ⟨h, e⟩ := rd_lt (xs := l.set i.toNat x) h0 (by simp; omega)
  rw [e]; simp
theorem rd_set_ne (l : List Int) (i j x : Int) (h0 : 0 ≤ i) (hj : 0 ≤ j) (h1 : j < (l.length : Int)) (hne : j ≠ i) : rd (l.set i.toNat x) j = rd l j := by
  obtain ⟨h, e⟩ := rd_lt (xs := l.set i.toNat x) hj (by simp; omega)
  obtain ⟨h', e'⟩ := rd_lt (xs := l) hj h1
  rw [e, e', List.getElem_set, if_neg (by omega)]
theorem rd_push_old (l : List Int) (x i : Int) (h0 : 0 ≤ i) (h1 : i < (l.length : Int)) : rd (l ++ [x]) i = rd l i := by
  obtain ⟨h, e⟩ := rd_lt (xs := l ++ [x]) h0 (by simp; omega)
  obtain ⟨h', e'⟩ := rd_lt (xs := l) h0 h1
  rw [e, e', List.getElem_append_left h']
theorem rd_push_new (l : List Int) (x i : Int) (h1 : i = (l.length : Int)) : rd (l ++ [x]) i = x := by
  obtain ⟨h, e⟩ := rd_lt (xs := l ++ [x]) (i := i) (by omega) (by simp; omega)
  rw [e, List.getElem_append_right (by omega)]
  simp
/-- A valid bound. -/
def Val (b : S_Bound) : Prop := (b.Unknown = true → b.Lo = 0 ∧ b.Hi = 0) ∧ -1152921504606846976 ≤ b.Lo ∧ b.Hi ≤ 1152921504606846976 ∧ b.Lo ≤ b.Hi
instance (b : S_Bound) : Decidable (Val b) := by unfold Val; infer_instance
theorem val_of {lo hi : Int} (h0 : -1152921504606846976 ≤ lo) (h1 : hi ≤ 1152921504606846976) (h : lo ≤ hi) : Val ⟨lo, hi, false⟩ := ⟨fun z => (by cases z), h0, h1, h⟩
theorem val_no : Val ⟨0, 0, true⟩ := by decide
theorem check_Quanta (k : Nat) (b : S_Bound) : ∃ e, bound_Check_Quanta k b = some e ∧ (e = 0 ↔ Val b) := by
  obtain ⟨lo, hi, u⟩ := b
  unfold bound_Check_Quanta Val
  dsimp only
  have tail : ∃ e, (if mn lo hi < (-1152921504606846976) then (some 4) else (if mx lo hi > 1152921504606846976 then (some 4) else (if lo > hi then (some 11) else (some 0))) : Option Int) = some e ∧ (e = 0 ↔ -1152921504606846976 ≤ lo ∧ hi ≤ 1152921504606846976 ∧ lo ≤ hi) := by
    rw [mn_def, mx_def]
    by_cases c1 : min lo hi < -1152921504606846976
    · exact ⟨4, ifp c1, by omega⟩
    · rw [ifn c1]
      by_cases c2 : max lo hi > 1152921504606846976
      · exact ⟨4, ifp c2, by omega⟩
      · rw [ifn c2]
        by_cases c3 : lo > hi
        · exact ⟨11, ifp c3, by omega⟩
        · exact ⟨0, ifn c3, by omega⟩
  obtain ⟨e, he, hv⟩ := tail
  cases u
  · rw [ifn (by decide)]
    exact ⟨e, he, hv.trans ⟨fun z => ⟨fun q => (by cases q), z⟩, fun z => z.2⟩⟩
  · rw [ifp rfl]
    by_cases c1 : lo ≠ 0
    · exact ⟨3, ifp c1, ⟨fun z => by omega, fun z => absurd (z.1 rfl).1 c1⟩⟩
    · rw [ifn c1]
      by_cases c2 : hi ≠ 0
      · exact ⟨3, ifp c2, ⟨fun z => by omega, fun z => absurd (z.1 rfl).2 c2⟩⟩
      · rw [ifn c2]
        exact ⟨e, he, hv.trans ⟨fun z => ⟨fun _ => ⟨by omega, by omega⟩, z⟩, fun z => z.2⟩⟩
theorem norm_Quanta (k : Nat) (b : S_Bound) : bound_Norm_Quanta k b = some (if Val b then b else ⟨0, 0, true⟩) := by
  obtain ⟨e, e1, e2⟩ := check_Quanta k b
  unfold bound_Norm_Quanta
  rw [bnd e1]
  by_cases c : Val b
  · rw [if_pos c, ifn (by have := e2.mpr c; omega)]
  · rw [if_neg c, ifp (show e ≠ 0 from fun z => c (e2.mp z))]; rfl
theorem of_Quanta (k : Nat) (lo hi : Int) : bound_Of_Quanta k lo hi = some (if Val ⟨lo, hi, false⟩ then ⟨lo, hi, false⟩ else ⟨0, 0, true⟩) := by
  unfold bound_Of_Quanta
  rw [bnd (norm_Quanta k _)]
theorem of_ok_Quanta (k : Nat) (lo hi : Int) (h0 : -1152921504606846976 ≤ lo) (h1 : hi ≤ 1152921504606846976) (h : lo ≤ hi) : bound_Of_Quanta k lo hi = some ⟨lo, hi, false⟩ := by
  rw [of_Quanta, if_pos (val_of h0 h1 h)]
theorem norm_ok_Quanta (k : Nat) (b : S_Bound) (h : Val b) : bound_Norm_Quanta k b = some b := by rw [norm_Quanta, if_pos h]
theorem rd_drop {α : Type} [Inhabited α] (l : List α) (i : Int) (h0 : 0 ≤ i) (h1 : i < (l.length : Int)) : l.drop i.toNat = rd l i :: l.drop (i + 1).toNat := by
  obtain ⟨h, e⟩ := rd_lt (xs := l) h0 h1
  rw [e, show (i + 1).toNat = i.toNat + 1 by omega]
  exact List.drop_eq_getElem_cons h
theorem rd_map {α β : Type} [Inhabited α] [Inhabited β] (f : α → β) (l : List α) (i : Int) (h0 : 0 ≤ i) (h1 : i < (l.length : Int)) : rd (l.map f) i = f (rd l i) := by
  obtain ⟨h, e⟩ := rd_lt (xs := l.map f) h0 (by rw [List.length_map]; exact h1)
  obtain ⟨h', e'⟩ := rd_lt (xs := l) h0 h1
  rw [e, e', List.getElem_map]
/-- A bound that is valid and small. -/
def VB (b : S_Bound) : Prop := Val b ∧ -2000 ≤ b.Lo ∧ b.Hi ≤ 2000
theorem vague_self (k : Nat) (b : S_Bound) (h : Val b) : bound_vague_Quanta k b b = some b.Unknown := by
  unfold bound_vague_Quanta
  rw [bnd (norm_ok_Quanta k b h)]
  by_cases c : b.Unknown = true
  · rw [ifp c, c]
  · rw [ifn c, bnd (norm_ok_Quanta k b h)]
def hasB (v : Int) (b : S_Bound) : Bool := !b.Unknown && (decide (b.Lo ≤ v) && decide (v ≤ b.Hi))
def known (b : S_Bound) : Bool := !b.Unknown
theorem has_eq (k : Nat) (b : S_Bound) (v : Int) (h : Val b) (hu : b.Unknown = false) : bound_Has_Quanta k b v = some (hasB v b) := by
  unfold bound_Has_Quanta hasB
  rw [bnd (vague_self k b h), hu, ifn (by decide)]
  by_cases c : b.Lo ≤ v
  · rw [ifp c, decide_eq_true c]; rfl
  · rw [ifn c, decide_eq_false c]; rfl
/-- How many of a list have something. -/
def cnt {α : Type} (p : α → Bool) : List α → Int
  | [] => 0
  | b :: l => (if p b then 1 else 0) + cnt p l
theorem cnt_append {α : Type} (p : α → Bool) (a b : List α) : cnt p (a ++ b) = cnt p a + cnt p b := by
  induction a with
  | nil => simp [cnt]
  | cons x a ih => rw [List.cons_append, cnt, cnt, ih]; omega
theorem cnt_reverse {α : Type} (p : α → Bool) (l : List α) : cnt p l.reverse = cnt p l := by
  induction l with
  | nil => rfl
  | cons x l ih => rw [List.reverse_cons, cnt_append, ih, cnt, cnt, cnt]; omega
theorem cnt_bd {α : Type} (p : α → Bool) (l : List α) : 0 ≤ cnt p l ∧ cnt p l ≤ (l.length : Int) := by
  induction l with
  | nil => simp [cnt]
  | cons x l ih => rw [cnt, List.length_cons]; split <;> omega
theorem cnt_le {α : Type} {p q : α → Bool} (h : ∀ x, p x = true → q x = true) (l : List α) : cnt p l ≤ cnt q l := by
  induction l with
  | nil => exact Int.le_refl _
  | cons x l ih =>
    rw [cnt, cnt]
    by_cases c : p x = true
    · rw [if_pos c, if_pos (h x c)]; omega
    · rw [if_neg c]; split <;> omega
/-- If as many have p as q, and p is more than q, all that have q have p. -/
theorem cnt_all {α : Type} {p q : α → Bool} (h : ∀ x, p x = true → q x = true) (l : List α) (hc : cnt q l ≤ cnt p l) : ∀ x, x ∈ l → q x = true → p x = true := by
  induction l with
  | nil => intro x hx; cases hx
  | cons y l ih =>
    have hl := cnt_le h l
    rw [cnt, cnt] at hc
    have hy : q y = true → p y = true := by
      intro hq
      rw [if_pos hq] at hc
      by_cases c : p y = true
      · exact c
      · rw [if_neg c] at hc; omega
    have hl2 : cnt q l ≤ cnt p l := by
      by_cases c : p y = true
      · rw [if_pos c, if_pos (h y c)] at hc; omega
      · rw [if_neg c] at hc
        by_cases c2 : q y = true
        · rw [if_pos c2] at hc; omega
        · rw [if_neg c2] at hc; omega
    intro x hx hq
    rcases List.mem_cons.mp hx with rfl | hx
    · exact hy hq
    · exact ih hl2 x hx hq
theorem votes_l0 (k : Nat) (l : List S_Bound) (v : Int) (hl : ∀ b, b ∈ l → Val b) (hb : l.length ≤ 1000) : ∀ (d n : Nat) (s i : Int), i + d = l.length → 0 ≤ i → d < n → 0 ≤ s → s ≤ i → bound_Votes_Quanta.l0 k l v n s i = some (s + cnt (hasB v) (l.drop i.toNat)) := by
  intro d
  induction d with
  | zero =>
    intro n s i hi i0 hn _ _
    obtain ⟨n, rfl⟩ : ∃ m, n = m + 1 := ⟨n - 1, by omega⟩
    rw [bound_Votes_Quanta.l0, ifn (by omega), List.drop_of_length_le (by omega), cnt, Int.add_zero]
  | succ d ih =>
    intro n s i hi i0 hn s0 s1
    obtain ⟨n, rfl⟩ : ∃ m, n = m + 1 := ⟨n - 1, by omega⟩
    have hv := hl _ (rd_mem i0 (show i < (l.length : Int) by omega))
    rw [bound_Votes_Quanta.l0, ifp (by omega), ifp i0, bnd (vague_self k _ hv), rd_drop l i i0 (by omega), cnt, wid (x := i + 1) (by omega) (by omega)]
    by_cases c : (rd l i).Unknown = true
    · rw [ifn (by rw [c]; decide), ih n s (i + 1) (by omega) (by omega) (by omega) s0 (by omega)]
      rw [if_neg (by unfold hasB; rw [c]; exact Bool.false_ne_true), Int.zero_add]
    · have c' : (rd l i).Unknown = false := by simpa using c
      rw [ifp c, bnd (has_eq k _ v hv c')]
      by_cases g : hasB v (rd l i) = true
      · rw [ifp g, wid (x := s + 1) (by omega) (by omega), ih n (s + 1) (i + 1) (by omega) (by omega) (by omega) (by omega) (by omega), if_pos g]
        congr 1; omega
      · rw [ifn g, ih n s (i + 1) (by omega) (by omega) (by omega) s0 (by omega), if_neg g, Int.zero_add]
theorem votes_eq (k : Nat) (l : List S_Bound) (v : Int) (hl : ∀ b, b ∈ l → Val b) (hb : l.length ≤ 1000) (hk : 1100 ≤ k) : bound_Votes_Quanta k l v = some (cnt (hasB v) l) := by
  unfold bound_Votes_Quanta
  rw [bnd (votes_l0 k l v hl hb l.length k 0 0 (by omega) (by decide) (by omega) (by decide) (by decide)), Int.zero_add]
  rfl
def few (l : List S_Bound) (need v : Int) : Bool := decide (cnt (hasB v) l < need)
theorem few_eq (k : Nat) (l : List S_Bound) (need v : Int) (hl : ∀ b, b ∈ l → Val b) (hb : l.length ≤ 1000) (hk : 1100 ≤ k) : bound_Fuse_Quanta_1 k l need v = some (few l need v) := by
  unfold bound_Fuse_Quanta_1 few
  rw [bnd (votes_eq k l v hl hb hk)]
theorem index_l0 (k : Nat) (l : List S_Bound) (need : Int) (E : List Int) (hl : ∀ b, b ∈ l → Val b) (hb : l.length ≤ 1000) (hE : E.length ≤ 1000) (hk : 1100 ≤ k) : ∀ (d n : Nat) (i : Int), i + d = E.length → 0 ≤ i → d < n → ∃ r, slices_IndexFunc_Quanta__bound_Fuse_Quanta_1.l0 k E l need n i = some r ∧
    (r = Sum.inr () → ∀ j, i ≤ j → j < (E.length : Int) → few l need (rd E j) = false) ∧ (∀ x, r = Sum.inl x → i ≤ x ∧ x < (E.length : Int) ∧ few l need (rd E x) = true ∧ ∀ j, i ≤ j → j < x → few l need (rd E j) = false) := by
  intro d
  induction d with
  | zero =>
    intro n i hi i0 hn
    obtain ⟨n, rfl⟩ : ∃ m, n = m + 1 := ⟨n - 1, by omega⟩
    rw [slices_IndexFunc_Quanta__bound_Fuse_Quanta_1.l0, ifn (by omega)]
    exact ⟨_, rfl, fun _ j j0 j1 => by omega, fun x hx => by cases hx⟩
  | succ d ih =>
    intro n i hi i0 hn
    obtain ⟨n, rfl⟩ : ∃ m, n = m + 1 := ⟨n - 1, by omega⟩
    rw [slices_IndexFunc_Quanta__bound_Fuse_Quanta_1.l0, ifp (by omega), ifp i0, bnd (few_eq k l need _ hl hb hk)]
    by_cases c : few l need (rd E i) = true
    · rw [ifp c]
      refine ⟨_, rfl, fun h => (by cases h), fun x hx => ?_⟩
      injection hx with hx; subst hx
      exact ⟨Int.le_refl _, by omega, c, fun j j0 j1 => by omega⟩
    · rw [ifn c, wid (x := i + 1) (by omega) (by omega)]
      obtain ⟨r, e, h1, h2⟩ := ih n (i + 1) (by omega) (by omega) (by omega)
      have c' : few l need (rd E i) = false := by simpa using c
      have tie : ∀ j, i ≤ j → j = i ∨ i + 1 ≤ j := fun j h => by omega
      refine ⟨r, e, fun h j j0 j1 => ?_, fun x hx => ?_⟩
      · rcases tie j j0 with rfl | g
        · exact c'
        · exact h1 h j g j1
      · obtain ⟨g1, g2, g3, g4⟩ := h2 x hx
        refine ⟨by omega, g2, g3, fun j j0 j1 => ?_⟩
        rcases tie j j0 with rfl | g
        · exact c'
        · exact g4 j g j1
theorem delete_l0 (k : Nat) (l : List S_Bound) (need : Int) (E : List Int) (hl : ∀ b, b ∈ l → Val b) (hb : l.length ≤ 1000) (hE : E.length ≤ 1000) (hk : 1100 ≤ k) : ∀ (d n : Nat) (s : List Int) (i j : Int), j + d = E.length → 0 ≤ i → i ≤ j → d < n → s.length = E.length → s.take i.toNat = (E.take j.toNat).filter (fun v => !few l need v) → s.drop j.toNat = E.drop j.toNat →
    ∃ s' i', slices_DeleteFunc_Quanta__bound_Fuse_Quanta_1.l0 k l need n s i j = some (s', i') ∧ 0 ≤ i' ∧ i' ≤ (s'.length : Int) ∧ s'.length = E.length ∧ s'.take i'.toNat = E.filter (fun v => !few l need v) := by
  intro d
  induction d with
  | zero =>
    intro n s i j hj i0 ij hn hs h1 h2
    obtain ⟨n, rfl⟩ : ∃ m, n = m + 1 := ⟨n - 1, by omega⟩
    rw [slices_DeleteFunc_Quanta__bound_Fuse_Quanta_1.l0, ifn (by omega)]
    refine ⟨s, i, rfl, i0, by omega, hs, ?_⟩
    rw [h1, List.take_of_length_le (by omega)]
  | succ d ih =>
    intro n s i j hj i0 ij hn hs h1 h2
    obtain ⟨n, rfl⟩ : ∃ m, n = m + 1 := ⟨n - 1, by omega⟩
    have e1 := rd_drop s j (by omega) (by omega)
    have e2 := rd_drop E j (by omega) (by omega)
    rw [e1, e2] at h2
    injection h2 with h3 h4
    have ht : E.take (j + 1).toNat = E.take j.toNat ++ [rd E j] := by
      rw [show (j + 1).toNat = j.toNat + 1 by omega]
      obtain ⟨hlt, e⟩ := rd_lt (xs := E) (i := j) (by omega) (by omega)
      rw [e, List.take_succ_eq_append_getElem hlt]
    rw [slices_DeleteFunc_Quanta__bound_Fuse_Quanta_1.l0, ifp (by omega), ifp (by omega), bnd (few_eq k l need _ hl hb hk), wid (x := j + 1) (by omega) (by omega)]
    by_cases c : few l need (rd s j) = true
    · rw [ifn (by rw [c]; decide)]
      refine ih n s i (j + 1) (by omega) i0 (by omega) (by omega) hs ?_ h4
      rw [ht, List.filter_append, h1, ← h3]
      simp [c]
    · have c' : few l need (rd s j) = false := by simpa using c
      rw [ifp c, ifp i0, ifp (by omega), wid (x := i + 1) (by omega) (by omega)]
      refine ih n (s.set i.toNat (rd s j)) (i + 1) (j + 1) (by omega) (by omega) (by omega) (by omega) (by rw [List.length_set]; exact hs) ?_ ?_
      · rw [ht, List.filter_append, ← h1, ← h3, show (i + 1).toNat = i.toNat + 1 by omega, List.take_succ_eq_append_getElem (by rw [List.length_set]; omega), List.getElem_set_self, List.take_set_of_le (Nat.le_refl _)]
        simp [c']
      · rw [List.drop_set_of_lt (by omega)]
        exact h4
theorem filter_take {p : Int → Bool} {E : List Int} {i : Int} (i0 : 0 ≤ i) (hi : i ≤ (E.length : Int)) (h : ∀ j, 0 ≤ j → j < i → p (rd E j) = true) : (E.take i.toNat).filter p = E.take i.toNat := by
  rw [List.filter_eq_self]
  intro x hx
  obtain ⟨m, hm, rfl⟩ := List.mem_iff_getElem.mp hx
  rw [List.length_take] at hm
  have := h (m : Int) (by omega) (by omega)
  obtain ⟨hlt, e⟩ := rd_lt (xs := E) (i := (m : Int)) (by omega) (by omega)
  rw [e] at this
  rw [List.getElem_take]
  exact this
theorem delete_eq (k : Nat) (l : List S_Bound) (need : Int) (E : List Int) (hl : ∀ b, b ∈ l → Val b) (hb : l.length ≤ 1000) (hE : E.length ≤ 1000) (hk : 1100 ≤ k) : slices_DeleteFunc_Quanta__bound_Fuse_Quanta_1 k l need E = some (E.filter (fun v => !few l need v)) := by
  obtain ⟨r, e, h1, h2⟩ := index_l0 k l need E hl hb hE hk E.length k 0 (by omega) (by decide) (by omega)
  unfold slices_DeleteFunc_Quanta__bound_Fuse_Quanta_1
  cases r with
  | inr u =>
    have hi : slices_IndexFunc_Quanta__bound_Fuse_Quanta_1 k l need E = some (-1) := by
      unfold slices_IndexFunc_Quanta__bound_Fuse_Quanta_1; rw [bnd e]; rfl
    rw [bnd hi, ifp rfl]
    congr 1
    have := filter_take (p := fun v => !few l need v) (E := E) (i := (E.length : Int)) (by omega) (Int.le_refl _) (fun j j0 j1 => by rw [h1 rfl j j0 j1]; rfl)
    rw [List.take_of_length_le (by omega)] at this
    exact this.symm
  | inl x =>
    obtain ⟨g1, g2, g3, g4⟩ := h2 x rfl
    have hi : slices_IndexFunc_Quanta__bound_Fuse_Quanta_1 k l need E = some x := by
      unfold slices_IndexFunc_Quanta__bound_Fuse_Quanta_1; rw [bnd e]; rfl
    rw [bnd hi, ifn (by omega), wid (x := x + 1) (by omega) (by omega)]
    have ft := filter_take (p := fun v => !few l need v) (E := E) (i := x) g1 (by omega) (fun j j0 j1 => by rw [g4 j j0 j1]; rfl)
    have ht : E.take (x + 1).toNat = E.take x.toNat ++ [rd E x] := by
      rw [show (x + 1).toNat = x.toNat + 1 by omega]
      obtain ⟨hlt, e⟩ := rd_lt (xs := E) (i := x) (by omega) (by omega)
      rw [e, List.take_succ_eq_append_getElem hlt]
    obtain ⟨s', i', e', i0, i1, i2, i3⟩ := delete_l0 k l need E hl hb hE hk (E.length - (x + 1).toNat) k E x (x + 1) (by omega) g1 (by omega) (by omega) rfl (by
      rw [ht, List.filter_append, ft]; simp [g3]) rfl
    rw [bnd e']
    dsimp only
    rw [ifp i0, ifp i1, ifp (by rw [clr_lenI i0 i1]; exact i1)]
    congr 1
    unfold clr
    rw [List.take_append_of_le_length (by rw [List.length_take]; omega), List.take_take, Nat.min_self, i3]
def endsL : List S_Bound → List Int
  | [] => []
  | b :: l => if b.Unknown = true then endsL l else b.Lo :: b.Hi :: endsL l
theorem ends_len (l : List S_Bound) : ((endsL l).length : Int) = 2 * cnt known l := by
  induction l with
  | nil => rfl
  | cons b l ih =>
    rw [endsL, cnt]
    unfold known at *
    by_cases c : b.Unknown = true
    · rw [if_pos c, if_neg (by rw [c]; decide), ih]; omega
    · rw [if_neg c, if_pos (by simpa using c), List.length_cons, List.length_cons]; omega
theorem ends_mem (l : List S_Bound) (v : Int) : v ∈ endsL l ↔ ∃ b, b ∈ l ∧ b.Unknown = false ∧ (v = b.Lo ∨ v = b.Hi) := by
  induction l with
  | nil => simp [endsL]
  | cons b l ih =>
    rw [endsL]
    by_cases c : b.Unknown = true
    · rw [if_pos c, ih]
      constructor
      · rintro ⟨x, h1, h2⟩; exact ⟨x, List.mem_cons_of_mem _ h1, h2⟩
      · rintro ⟨x, h1, h2, h3⟩
        rcases List.mem_cons.mp h1 with rfl | h1
        · rw [c] at h2; cases h2
        · exact ⟨x, h1, h2, h3⟩
    · have c' : b.Unknown = false := by simpa using c
      rw [if_neg c, List.mem_cons, List.mem_cons, ih]
      constructor
      · rintro (h | h | ⟨x, h1, h2⟩)
        · exact ⟨b, List.mem_cons_self, c', .inl h⟩
        · exact ⟨b, List.mem_cons_self, c', .inr h⟩
        · exact ⟨x, List.mem_cons_of_mem _ h1, h2⟩
      · rintro ⟨x, h1, h2, h3⟩
        rcases List.mem_cons.mp h1 with rfl | h1
        · rcases h3 with h | h
          · exact .inl h
          · exact .inr (.inl h)
        · exact .inr (.inr ⟨x, h1, h2, h3⟩)
theorem fuse_l0 (k : Nat) (l : List S_Bound) (hl : ∀ b, b ∈ l → Val b) (hb : l.length ≤ 400) : ∀ (d n : Nat) (E : List Int) (i : Int), i + d = l.length → 0 ≤ i → d < n → (E.length : Int) ≤ 2 * i → bound_Fuse_Quanta.l0 k l n E i = some (E ++ endsL (l.drop i.toNat)) := by
  intro d
  induction d with
  | zero =>
    intro n E i hi i0 hn hE
    obtain ⟨n, rfl⟩ : ∃ m, n = m + 1 := ⟨n - 1, by omega⟩
    rw [bound_Fuse_Quanta.l0, ifn (by omega), List.drop_of_length_le (by omega), endsL, List.append_nil]
  | succ d ih =>
    intro n E i hi i0 hn hE
    obtain ⟨n, rfl⟩ : ∃ m, n = m + 1 := ⟨n - 1, by omega⟩
    have hv := hl _ (rd_mem i0 (show i < (l.length : Int) by omega))
    rw [bound_Fuse_Quanta.l0, ifp (by omega), ifp i0, bnd (vague_self k _ hv), rd_drop l i i0 (by omega), endsL, wid (x := i + 1) (by omega) (by omega)]
    by_cases c : (rd l i).Unknown = true
    · rw [ifn (by rw [c]; decide), if_pos c, ih n E (i + 1) (by omega) (by omega) (by omega) (by omega)]
    · rw [ifp c, if_neg c, ifp (by omega), ih n _ (i + 1) (by omega) (by omega) (by omega) (by rw [List.length_append, List.length_cons, List.length_cons, List.length_nil]; omega), List.append_assoc]
      rfl
theorem min_l0 (k : Nat) (xs : List Int) (hb : xs.length ≤ 2000) : ∀ (d n : Nat) (m i : Int), i + d = xs.length → 0 ≤ i → d < n → m ∈ xs → (∀ j, 0 ≤ j → j < i → m ≤ rd xs j) → ∃ r, slices_Min_Quanta.l0 k xs n m i = some r ∧ r ∈ xs ∧ ∀ j, 0 ≤ j → j < (xs.length : Int) → r ≤ rd xs j := by
  intro d
  induction d with
  | zero =>
    intro n m i hi i0 hn hm h
    obtain ⟨n, rfl⟩ : ∃ q, n = q + 1 := ⟨n - 1, by omega⟩
    rw [slices_Min_Quanta.l0, ifn (by omega)]
    exact ⟨m, rfl, hm, fun j j0 j1 => h j j0 (by omega)⟩
  | succ d ih =>
    intro n m i hi i0 hn hm h
    obtain ⟨n, rfl⟩ : ∃ q, n = q + 1 := ⟨n - 1, by omega⟩
    have hr := rd_mem i0 (show i < (xs.length : Int) by omega)
    rw [slices_Min_Quanta.l0, ifp (by omega), ifp i0, wid (x := i + 1) (by omega) (by omega), mn_def]
    refine ih n _ (i + 1) (by omega) (by omega) (by omega) ?_ (fun j j0 j1 => ?_)
    · rcases Int.le_total m (rd xs i) with g | g
      · rw [Int.min_eq_left g]; exact hm
      · rw [Int.min_eq_right g]; exact hr
    · by_cases c : j = i
      · subst c; omega
      · have := h j j0 (by omega); omega
theorem max_l0 (k : Nat) (xs : List Int) (hb : xs.length ≤ 2000) : ∀ (d n : Nat) (m i : Int), i + d = xs.length → 0 ≤ i → d < n → m ∈ xs → (∀ j, 0 ≤ j → j < i → rd xs j ≤ m) → ∃ r, slices_Max_Quanta.l0 k xs n m i = some r ∧ r ∈ xs ∧ ∀ j, 0 ≤ j → j < (xs.length : Int) → rd xs j ≤ r := by
  intro d
  induction d with
  | zero =>
    intro n m i hi i0 hn hm h
    obtain ⟨n, rfl⟩ : ∃ q, n = q + 1 := ⟨n - 1, by omega⟩
    rw [slices_Max_Quanta.l0, ifn (by omega)]
    exact ⟨m, rfl, hm, fun j j0 j1 => h j j0 (by omega)⟩
  | succ d ih =>
    intro n m i hi i0 hn hm h
    obtain ⟨n, rfl⟩ : ∃ q, n = q + 1 := ⟨n - 1, by omega⟩
    have hr := rd_mem i0 (show i < (xs.length : Int) by omega)
    rw [slices_Max_Quanta.l0, ifp (by omega), ifp i0, wid (x := i + 1) (by omega) (by omega), mx_def]
    refine ih n _ (i + 1) (by omega) (by omega) (by omega) ?_ (fun j j0 j1 => ?_)
    · rcases Int.le_total m (rd xs i) with g | g
      · rw [Int.max_eq_right g]; exact hr
      · rw [Int.max_eq_left g]; exact hm
    · by_cases c : j = i
      · subst c; omega
      · have := h j j0 (by omega); omega
theorem mem_rd {xs : List Int} {v : Int} (h : v ∈ xs) : ∃ j, 0 ≤ j ∧ j < (xs.length : Int) ∧ rd xs j = v := by
  obtain ⟨m, hm, rfl⟩ := List.mem_iff_getElem.mp h
  obtain ⟨hlt, e⟩ := rd_lt (xs := xs) (i := (m : Int)) (by omega) (by omega)
  exact ⟨(m : Int), by omega, by omega, e⟩
theorem min_ex (k : Nat) (xs : List Int) (hb : xs.length ≤ 2000) (h : xs ≠ []) (hk : 2100 ≤ k) : ∃ m, slices_Min_Quanta k xs = some m ∧ m ∈ xs ∧ ∀ v, v ∈ xs → m ≤ v := by
  have hl : 0 < xs.length := List.length_pos_iff.mpr h
  obtain ⟨r, e, h1, h2⟩ := min_l0 k xs hb (xs.length - 1) k (rd xs 0) 1 (by omega) (by decide) (by omega) (rd_mem (by decide) (by omega)) (fun (j : Int) j0 j1 => Int.le_of_eq (by rw [show j = 0 by omega]))
  unfold slices_Min_Quanta
  rw [ifn (by omega), ifp (by omega), bnd e]
  refine ⟨r, rfl, h1, fun v hv => ?_⟩
  obtain ⟨j, j0, j1, rfl⟩ := mem_rd hv
  exact h2 j j0 j1
theorem max_ex (k : Nat) (xs : List Int) (hb : xs.length ≤ 2000) (h : xs ≠ []) (hk : 2100 ≤ k) : ∃ m, slices_Max_Quanta k xs = some m ∧ m ∈ xs ∧ ∀ v, v ∈ xs → v ≤ m := by
  have hl : 0 < xs.length := List.length_pos_iff.mpr h
  obtain ⟨r, e, h1, h2⟩ := max_l0 k xs hb (xs.length - 1) k (rd xs 0) 1 (by omega) (by decide) (by omega) (rd_mem (by decide) (by omega)) (fun (j : Int) j0 j1 => Int.le_of_eq (by rw [show j = 0 by omega]))
  unfold slices_Max_Quanta
  rw [ifn (by omega), ifp (by omega), bnd e]
  refine ⟨r, rfl, h1, fun v hv => ?_⟩
  obtain ⟨j, j0, j1, rfl⟩ := mem_rd hv
  exact h2 j j0 j1
/-- What Fuse answers. -/
def Keeps (l : List S_Bound) (f v : Int) : Prop := (∃ b, b ∈ l ∧ b.Unknown = false ∧ (v = b.Lo ∨ v = b.Hi)) ∧ cnt known l - f ≤ cnt (hasB v) l
def Fused (l : List S_Bound) (f : Int) (b : S_Bound) : Prop :=
  (b = ⟨0, 0, true⟩ ∧ (cnt known l - f ≤ 0 ∨ ∀ v, ¬ Keeps l f v)) ∨
  (0 < cnt known l - f ∧ b.Unknown = false ∧ Keeps l f b.Lo ∧ Keeps l f b.Hi ∧ b.Lo ≤ b.Hi ∧ ∀ v, Keeps l f v → b.Lo ≤ v ∧ v ≤ b.Hi)
theorem fuse_ex (k : Nat) (l : List S_Bound) (f : Int) (hl : ∀ b, b ∈ l → VB b) (hb : l.length ≤ 100) (f0 : 0 ≤ f) (f1 : f ≤ 100) (hk : 2100 ≤ k) : ∃ b, bound_Fuse_Quanta k l f = some b ∧ Fused l f b := by
  have hv : ∀ b, b ∈ l → Val b := fun b h => (hl b h).1
  have hc := cnt_bd known l
  have hE := ends_len l
  unfold bound_Fuse_Quanta
  rw [bnd (fuse_l0 k l hv (by omega) l.length k [] 0 (by omega) (by decide) (by omega) (by decide))]
  rw [show (0 : Int).toNat = 0 from rfl, List.drop_zero, List.nil_append, tdiv_nn (by omega), show ((endsL l).length : Int) / 2 = cnt known l by omega]
  rw [wid (x := cnt known l) (by omega) (by omega), wid (x := cnt known l - f) (by omega) (by omega), ifn (by omega)]
  by_cases c : cnt known l - f ≤ 0
  · rw [ifp c]
    exact ⟨_, rfl, .inl ⟨rfl, .inl c⟩⟩
  rw [ifn c, bnd (delete_eq k l _ (endsL l) hv (by omega) (by omega) (by omega))]
  obtain ⟨R, hR⟩ : ∃ R, R = (endsL l).filter (fun v => !few l (cnt known l - f) v) := ⟨_, rfl⟩
  rw [← hR]
  have hm : ∀ v, v ∈ R ↔ Keeps l f v := by
    intro v
    rw [hR, List.mem_filter, ends_mem]
    unfold Keeps few
    simp
  have hRl : R.length ≤ (endsL l).length := by rw [hR]; exact List.length_filter_le _ _
  by_cases d : (R.length : Int) = 0
  · rw [ifp d]
    have hRn : R = [] := List.eq_nil_of_length_eq_zero (by omega)
    refine ⟨_, rfl, .inl ⟨rfl, .inr fun v hv => ?_⟩⟩
    have := (hm v).mpr hv
    rw [hRn] at this; cases this
  rw [ifn d]
  have hRn : R ≠ [] := fun h => d (by rw [h]; rfl)
  obtain ⟨lo, e1, a1, a2⟩ := min_ex k R (by omega) hRn hk
  obtain ⟨hi, e2, b1, b2⟩ := max_ex k R (by omega) hRn hk
  have bd : ∀ v, v ∈ R → -2000 ≤ v ∧ v ≤ 2000 := by
    intro v h
    obtain ⟨⟨b, hb, _, h2⟩, _⟩ := (hm v).mp h
    have := hl b hb
    unfold VB Val at this
    omega
  have w1 := bd lo a1
  have w2 := bd hi b1
  rw [bnd e1, bnd e2, bnd (of_ok_Quanta k lo hi (by omega) (by omega) (a2 hi b1))]
  exact ⟨_, rfl, .inr ⟨by omega, rfl, (hm lo).mp a1, (hm hi).mp b1, a2 hi b1, fun v h => ⟨a2 v ((hm v).mpr h), b2 v ((hm v).mpr h)⟩⟩⟩
theorem Fused.unique {l : List S_Bound} {f : Int} {b c : S_Bound} (hb : Fused l f b) (hc : Fused l f c) : b = c := by
  rcases hb with ⟨rfl, h1⟩ | ⟨h1, h2, h3, h4, h5, h6⟩
  · rcases hc with ⟨rfl, _⟩ | ⟨g1, g2, g3, g4, g5, g6⟩
    · rfl
    · rcases h1 with h1 | h1
      · omega
      · exact absurd g3 (h1 _)
  · rcases hc with ⟨rfl, g1⟩ | ⟨g1, g2, g3, g4, g5, g6⟩
    · rcases g1 with g1 | g1
      · omega
      · exact absurd h3 (g1 _)
    · obtain ⟨bl, bh, bu⟩ := b
      obtain ⟨cl, ch, cu⟩ := c
      dsimp only at *
      have x1 := h6 cl g3
      have x2 := h6 ch g4
      have x3 := g6 bl h3
      have x4 := g6 bh h4
      rw [h2, g2, show bl = cl by omega, show bh = ch by omega]
theorem Keeps.reverse {l : List S_Bound} {f v : Int} : Keeps l.reverse f v ↔ Keeps l f v := by
  unfold Keeps
  rw [cnt_reverse, cnt_reverse]
  simp only [List.mem_reverse]
theorem Fused.reverse {l : List S_Bound} {f : Int} {b : S_Bound} (h : Fused l.reverse f b) : Fused l f b := by
  unfold Fused at *
  simp only [Keeps.reverse, cnt_reverse] at h
  exact h
theorem exact_Quanta (k : Nat) (v : Int) (h0 : -1152921504606846976 ≤ v) (h1 : v ≤ 1152921504606846976) : bound_Exact_Quanta k v = some ⟨v, v, false⟩ := by
  unfold bound_Exact_Quanta
  rw [bnd (of_ok_Quanta k v v h0 h1 (Int.le_refl v))]
theorem below_ex (k : Nat) (x n : Int) (h1 : 1 ≤ n) (h2 : n ≤ 4611686018427387904) : ∃ v, spymake_Below k x n = some v ∧ 0 ≤ v ∧ v < n := by
  have e1 := Int.tmod_lt_of_pos x (show 0 < n by omega)
  have e2 := Int.lt_tmod_of_pos x (show 0 < n by omega)
  unfold spymake_Below
  rw [ifn (by omega), ifp (by omega)]
  by_cases c : Int.tmod x n < 0
  · rw [ifp c]
    refine ⟨_, rfl, ?_, ?_⟩ <;> rw [wid (by omega) (by omega)] <;> omega
  · rw [ifn c]
    exact ⟨_, rfl, by omega, by omega⟩
theorem next_ex (k : Nat) (L : List Int) (a n : Int) (h1 : 1 ≤ n) (h2 : n ≤ 4611686018427387904) (a0 : 0 ≤ a) (a1 : a ≤ 4611686018427387904) :
    ∃ v, spymake_Stream_Next k ⟨L, a⟩ n = some (v, a + 1) ∧ 0 ≤ v ∧ v < n := by
  unfold spymake_Stream_Next
  dsimp only
  rw [wid (x := a + 1) (by omega) (by omega)]
  by_cases c : (L.length : Int) = 0
  · rw [ifp c]
    obtain ⟨v, hv, v0, v1⟩ := below_ex k (w64 ((a + 1) * 7919)) n h1 h2
    rw [bnd hv]
    exact ⟨v, rfl, v0, v1⟩
  · rw [ifn c, ifp c, show a + 1 - 1 = a by omega, wid (x := a) (by omega) (by omega)]
    have e1 := Int.tmod_lt_of_pos a (show 0 < (L.length : Int) by omega)
    have e2 : 0 ≤ Int.tmod a (L.length : Int) := Int.tmod_nonneg _ a0
    rw [ifp e2, ifp e1]
    obtain ⟨u, hu, _⟩ := below_ex k (rd L (Int.tmod a (L.length : Int))) 1073741824 (by decide) (by decide)
    rw [bnd hu]
    obtain ⟨v, hv, v0, v1⟩ := below_ex k (w64 (u + (w64 ((w64 (Int.tdiv a (L.length : Int))) * (w64 (7919 + (Int.tmod a (L.length : Int)))))))) n h1 h2
    rw [bnd hv]
    exact ⟨v, rfl, v0, v1⟩
theorem range_ex (k : Nat) (L : List Int) (a lo hi : Int) (h1 : lo ≤ hi) (h2 : hi - lo ≤ 1073741824) (h3 : -4611686018427387904 ≤ lo) (h4 : hi ≤ 4611686018427387904) (a0 : 0 ≤ a) (a1 : a ≤ 4611686018427387904) :
    ∃ v, spymake_Stream_Range k ⟨L, a⟩ lo hi = some (v, a + 1) ∧ lo ≤ v ∧ v ≤ hi := by
  unfold spymake_Stream_Range
  rw [ifn (by omega), wid (x := hi - lo) (by omega) (by omega), wid (x := hi - lo + 1) (by omega) (by omega)]
  obtain ⟨v, hv, v0, v1⟩ := next_ex k L a (hi - lo + 1) (by omega) (by omega) a0 a1
  rw [bnd hv]
  dsimp only
  rw [wid (by omega) (by omega)]
  exact ⟨_, rfl, by omega, by omega⟩
theorem combined_eq (k : Nat) (h : 60 ≤ k) : spykeep3_combined k = some true := by
  obtain ⟨k, rfl⟩ : ∃ j, k = j + 60 := ⟨k - 60, by omega⟩
  kernel_rfl
/-- Fields of one size, whose cells are valid and small. -/
structure Fields (L : List S_Cells) (w h m : Int) : Prop where
  W : ∀ c, c ∈ L → c.W = w
  H : ∀ c, c ∈ L → c.H = h
  len : ∀ c, c ∈ L → (c.At.length : Int) = m
  vb : ∀ c, c ∈ L → ∀ b, b ∈ c.At → VB b
theorem repeat_eq (k : Nat) (c : S_Cells) (n : Int) (n0 : 1 ≤ n) (n1 : n ≤ 8) (hk : 40 ≤ k) : slices_Repeat_Cells k [c] n = some (List.replicate n.toNat c) := by
  obtain ⟨k, rfl⟩ : ∃ j, k = j + 40 := ⟨k - 40, by omega⟩
  have e1 : slices_Repeat_Cells (k + 40) [c] 1 = some [c] := by kernel_rfl
  have e2 : slices_Repeat_Cells (k + 40) [c] 2 = some [c, c] := by kernel_rfl
  have e3 : slices_Repeat_Cells (k + 40) [c] 3 = some [c, c, c] := by kernel_rfl
  have e4 : slices_Repeat_Cells (k + 40) [c] 4 = some [c, c, c, c] := by kernel_rfl
  have e5 : slices_Repeat_Cells (k + 40) [c] 5 = some [c, c, c, c, c] := by kernel_rfl
  have e6 : slices_Repeat_Cells (k + 40) [c] 6 = some [c, c, c, c, c, c] := by kernel_rfl
  have e7 : slices_Repeat_Cells (k + 40) [c] 7 = some [c, c, c, c, c, c, c] := by kernel_rfl
  have e8 : slices_Repeat_Cells (k + 40) [c] 8 = some [c, c, c, c, c, c, c, c] := by kernel_rfl
  have : n = 1 ∨ n = 2 ∨ n = 3 ∨ n = 4 ∨ n = 5 ∨ n = 6 ∨ n = 7 ∨ n = 8 := by omega
  rcases this with h | h | h | h | h | h | h | h <;> rw [h]
  · exact e1
  · exact e2
  · exact e3
  · exact e4
  · exact e5
  · exact e6
  · exact e7
  · exact e8
/-- The cells before place j have one bound more. -/
structure Half (L : List S_Cells) (w h i j : Int) : Prop where
  W : ∀ c, c ∈ L → c.W = w
  H : ∀ c, c ∈ L → c.H = h
  vb : ∀ c, c ∈ L → ∀ b, b ∈ c.At → VB b
  old : ∀ p, 0 ≤ p → j ≤ p → p < (L.length : Int) → ((rd L p).At.length : Int) = i
  new : ∀ p, 0 ≤ p → p < j → p < (L.length : Int) → ((rd L p).At.length : Int) = i + 1
theorem rds_eq (l : List S_Cells) (i : Int) (x : S_Cells) (h0 : 0 ≤ i) (h1 : i < (l.length : Int)) : rd (l.set i.toNat x) i = x := by
  obtain ⟨h, e⟩ := rd_lt (xs := l.set i.toNat x) h0 (by simp; omega)
  rw [e]; simp
theorem rds_ne (l : List S_Cells) (i j : Int) (x : S_Cells) (h0 : 0 ≤ i) (hj : 0 ≤ j) (h1 : j < (l.length : Int)) (hne : j ≠ i) : rd (l.set i.toNat x) j = rd l j := by
  obtain ⟨h, e⟩ := rd_lt (xs := l.set i.toNat x) hj (by simp; omega)
  obtain ⟨h', e'⟩ := rd_lt (xs := l) hj h1
  rw [e, e', List.getElem_set, if_neg (by omega)]
theorem around_l1 (k : Nat) (L0 : List S_Cells) (l : List Int) (at0 n first wrong x w h i : Int) (n0 : 1 ≤ n) (n1 : n ≤ 8) (hL0 : (L0.length : Int) = n) (x0 : 0 ≤ x) (x1 : x < 1000) (f0 : 0 ≤ first) (f1 : first < n) (i0 : 0 ≤ i) (i1 : i ≤ 100) : ∀ (d m : Nat) (L : List S_Cells) (j a : Int), j + d = n → 0 ≤ j → d < m → 0 ≤ a → a + 4 * d ≤ 1000000000 → (L.length : Int) = n → Half L w h i j →
    ∃ L' a', spykeep3_around.l1 k L0 ⟨l, at0⟩ n first wrong x m L j a = some (L', a') ∧ a ≤ a' ∧ a' ≤ a + 4 * d ∧ (L'.length : Int) = n ∧ Half L' w h i n := by
  intro d
  induction d with
  | zero =>
    intro m L j a hj j0 hm a0 a1 hL hH
    obtain ⟨m, rfl⟩ : ∃ q, m = q + 1 := ⟨m - 1, by omega⟩
    rw [spykeep3_around.l1, ifn (by omega)]
    exact ⟨L, a, rfl, by omega, by omega, hL, by rw [show n = j by omega]; exact hH⟩
  | succ d ih =>
    intro m L j a hj j0 hm a0 a1 hL hH
    obtain ⟨m, rfl⟩ : ∃ q, m = q + 1 := ⟨m - 1, by omega⟩
    rw [spykeep3_around.l1, ifp (by omega)]
    obtain ⟨s, h1, s0, s1⟩ := next_ex k l a 20 (by decide) (by decide) (by omega) (by omega)
    rw [bnd h1]; dsimp only
    obtain ⟨t, h2, t0, t1⟩ := next_ex k l (a + 1) 20 (by decide) (by decide) (by omega) (by omega)
    rw [bnd h2]; dsimp only
    rw [ifp (by omega)]
    have step : ∀ (b : S_Bound) (a2 : Int), VB b → a ≤ a2 → a2 ≤ a + 4 → ∃ L' a', (if 0 ≤ j then (if j < (L.length : Int) then ((slices_Clone_Bound_Quanta k ((rd L j).At)).bind fun vt1106 => (if (vt1106.length + 1) * 24 ≤ 140737488355328 then (spykeep3_around.l1 k L0 ⟨l, at0⟩ n first wrong x m (L.set (j).toNat (⟨(rd L j).W, (rd L j).H, (vt1106 ++ ([(⟨b.Lo, b.Hi, b.Unknown⟩ : S_Bound)] : List S_Bound))⟩ : S_Cells)) (w64 (j + 1)) a2) else none)) else none) else none) = some (L', a') ∧ a ≤ a' ∧ a' ≤ a + 4 * (d + 1 : Nat) ∧ (L'.length : Int) = n ∧ Half L' w h i n := by
      intro b a2 hb b0 b1
      have hlen := hH.old j j0 (Int.le_refl j) (by omega)
      have hmem := rd_mem j0 (show j < (L.length : Int) by omega)
      have hcl : slices_Clone_Bound_Quanta k (rd L j).At = some (rd L j).At := by
        unfold slices_Clone_Bound_Quanta
        rw [ifp (by rw [List.length_nil]; omega), List.nil_append]
      rw [ifp j0, ifp (by omega), bnd hcl, ifp (by omega), wid (x := j + 1) (by omega) (by omega)]
      obtain ⟨L', a', e, g1, g2, g3, g4⟩ := ih m (L.set j.toNat ⟨(rd L j).W, (rd L j).H, (rd L j).At ++ [⟨b.Lo, b.Hi, b.Unknown⟩]⟩) (j + 1) a2 (by omega) (by omega) (by omega) (by omega) (by omega) (by rw [List.length_set]; exact hL) (by
        refine ⟨?_, ?_, ?_, ?_, ?_⟩
        · intro c hc
          rcases List.mem_or_eq_of_mem_set hc with hc | rfl
          · exact hH.W c hc
          · exact (show (rd L j).W = w from hH.W _ hmem)
        · intro c hc
          rcases List.mem_or_eq_of_mem_set hc with hc | rfl
          · exact hH.H c hc
          · exact (show (rd L j).H = h from hH.H _ hmem)
        · intro c hc y hy
          rcases List.mem_or_eq_of_mem_set hc with hc | rfl
          · exact hH.vb c hc y hy
          · rcases List.mem_append.mp hy with hy | hy
            · exact hH.vb _ hmem y hy
            · simp only [List.mem_singleton] at hy
              rw [hy]; exact hb
        · intro p p0 p1 p2
          rw [List.length_set] at p2
          rw [rds_ne _ _ _ _ j0 p0 p2 (by omega)]
          exact hH.old p p0 (by omega) p2
        · intro p p0 p1 p2
          rw [List.length_set] at p2
          by_cases c : p = j
          · subst c
            rw [rds_eq _ _ _ j0 p2]
            dsimp only
            rw [List.length_append, List.length_cons, List.length_nil]; omega
          · rw [rds_ne _ _ _ _ j0 p0 p2 c]
            exact hH.new p p0 (by omega) p2)
      exact ⟨L', a', e, by omega, by omega, g3, g4⟩
    by_cases c : Int.tmod (w64 (w64 (j - first) + n)) n < wrong
    · rw [ifp c]
      obtain ⟨r, h3, r0, r1⟩ := range_ex k l (a + 1 + 1) (-900) 900 (by decide) (by decide) (by decide) (by decide) (by omega) (by omega)
      rw [bnd h3]; dsimp only
      rw [wid (x := x + r) (by omega) (by omega), bnd (exact_Quanta k (x + r) (by omega) (by omega))]
      exact step ⟨x + r, x + r, false⟩ (a + 1 + 1 + 1) ⟨val_of (by omega) (by omega) (Int.le_refl _), by dsimp only; omega, by dsimp only; omega⟩ (by omega) (by omega)
    · rw [ifn c]
      obtain ⟨r, h3, r0, r1⟩ := next_ex k l (a + 1 + 1) 9 (by decide) (by decide) (by omega) (by omega)
      rw [bnd h3]; dsimp only
      by_cases g : r = 0
      · rw [ifp g]
        exact step ⟨0, 0, true⟩ (a + 1 + 1 + 1) ⟨val_no, by decide, by decide⟩ (by omega) (by omega)
      · rw [ifn g, wid (x := x - s) (by omega) (by omega), wid (x := x + t) (by omega) (by omega)]
        exact step ⟨x - s, x + t, false⟩ (a + 1 + 1 + 1) ⟨val_of (by omega) (by omega) (by omega), by dsimp only; omega, by dsimp only; omega⟩ (by omega) (by omega)
theorem half_of {L : List S_Cells} {w h i : Int} (hF : Fields L w h i) : Half L w h i 0 :=
  ⟨hF.W, hF.H, hF.vb, fun p p0 _ p2 => hF.len _ (rd_mem p0 p2), fun p p0 p1 _ => by omega⟩
theorem of_half {L : List S_Cells} {w h i n : Int} (hL : (L.length : Int) = n) (hH : Half L w h i n) : Fields L w h (i + 1) :=
  ⟨hH.W, hH.H, fun c hc => by
    obtain ⟨m, hm, rfl⟩ := List.mem_iff_getElem.mp hc
    obtain ⟨hlt, e⟩ := rd_lt (xs := L) (i := (m : Int)) (by omega) (by omega)
    have := hH.new (m : Int) (by omega) (by omega) (by omega)
    rw [e] at this
    exact this, hH.vb⟩
theorem around_l0 (k : Nat) (l : List Int) (at0 w h f n : Int) (w0 : 1 ≤ w) (w1 : w ≤ 4) (h0 : 1 ≤ h) (h1 : h ≤ 4) (f0 : 0 ≤ f) (f1 : f ≤ 3) (n0 : 1 ≤ n) (n1 : n ≤ 8) (hk : 100 ≤ k) (wh : 1 ≤ w * h ∧ w * h ≤ 16) : ∀ (d m : Nat) (T : List Int) (L : List S_Cells) (i a : Int), i + d = w * h → 0 ≤ i → d < m → 0 ≤ a → a + 40 * d ≤ 1000000000 → (T.length : Int) = i → (L.length : Int) = n → Fields L w h i →
    ∃ T' L' a', spykeep3_around.l0 k w h ⟨l, at0⟩ f n m T L i a = some (T', L', a') ∧ (L'.length : Int) = n ∧ Fields L' w h (w * h) := by
  intro d
  induction d with
  | zero =>
    intro m T L i a hi i0 hm a0 a1 hT hL hF
    obtain ⟨m, rfl⟩ : ∃ q, m = q + 1 := ⟨m - 1, by omega⟩
    rw [spykeep3_around.l0, wid (x := w * h) (by omega) (by omega), ifn (by omega)]
    exact ⟨T, L, a, rfl, hL, by rw [show w * h = i by omega]; exact hF⟩
  | succ d ih =>
    intro m T L i a hi i0 hm a0 a1 hT hL hF
    obtain ⟨m, rfl⟩ : ∃ q, m = q + 1 := ⟨m - 1, by omega⟩
    rw [spykeep3_around.l0, wid (x := w * h) (by omega) (by omega), ifp (by omega)]
    obtain ⟨x, e1, x0, x1⟩ := next_ex k l a 1000 (by decide) (by decide) (by omega) (by omega)
    rw [bnd e1]; dsimp only
    rw [ifp (by omega), wid (x := f + 1) (by omega) (by omega)]
    obtain ⟨wrong, e2, y0, y1⟩ := next_ex k l (a + 1) (f + 1) (by omega) (by omega) (by omega) (by omega)
    rw [bnd e2]; dsimp only
    obtain ⟨first, e3, z0, z1⟩ := next_ex k l (a + 1 + 1) n n0 (by omega) (by omega) (by omega)
    rw [bnd e3]; dsimp only
    obtain ⟨L', a', e4, g1, g2, g3, g4⟩ := around_l1 k L l at0 n first wrong x w h i n0 n1 hL x0 x1 z0 z1 i0 (by omega) n.toNat k L 0 (a + 1 + 1 + 1) (by omega) (by decide) (by omega) (by omega) (by omega) hL (half_of hF)
    rw [bnd e4]; dsimp only
    rw [wid (x := i + 1) (by omega) (by omega)]
    exact ih m _ L' (i + 1) a' (by omega) (by omega) (by omega) (by omega) (by omega) (by rw [List.length_append, List.length_cons, List.length_nil]; omega) g3 (of_half g3 g4)
theorem around_ex (k : Nat) (l : List Int) (a n f : Int) (a0 : 0 ≤ a) (a1 : a ≤ 1000) (n0 : 1 ≤ n) (n1 : n ≤ 8) (f0 : 0 ≤ f) (f1 : f ≤ 3) (hk : 100 ≤ k) : ∃ L T a' w h, spykeep3_around k ⟨l, a⟩ n f = some (L, T, a') ∧ (L.length : Int) = n ∧ 1 ≤ w ∧ w ≤ 4 ∧ 1 ≤ h ∧ h ≤ 4 ∧ 1 ≤ w * h ∧ w * h ≤ 16 ∧ Fields L w h (w * h) := by
  unfold spykeep3_around
  obtain ⟨w, e1, w0, w1⟩ := range_ex k l a 1 4 (by decide) (by decide) (by decide) (by decide) (by omega) (by omega)
  rw [bnd e1]; dsimp only
  obtain ⟨h, e2, h0, h1⟩ := range_ex k l (a + 1) 1 4 (by decide) (by decide) (by decide) (by decide) (by omega) (by omega)
  rw [bnd e2]; dsimp only
  have m1 := mul_le (a := w) (b := h) (A := 4) (B := 4) (by omega) w1 (by omega) h1
  have m2 : 1 * 1 ≤ w * h := Int.mul_le_mul w0 h0 (by decide) (by omega)
  rw [bnd (repeat_eq k ⟨w, h, []⟩ n n0 n1 (by omega))]
  obtain ⟨T, L, a', e3, g1, g2⟩ := around_l0 k l a w h f n w0 w1 h0 h1 f0 f1 n0 n1 hk (by omega) (w * h).toNat k [] (List.replicate n.toNat ⟨w, h, []⟩) 0 (a + 1 + 1) (by omega) (by decide) (by omega) (by omega) (by omega) rfl (by simp; omega) ⟨fun c hc => by rw [(List.mem_replicate.mp hc).2], fun c hc => by rw [(List.mem_replicate.mp hc).2], fun c hc => by rw [(List.mem_replicate.mp hc).2]; rfl, fun c hc b hb => by rw [(List.mem_replicate.mp hc).2] at hb; cases hb⟩
  rw [bnd e3]
  exact ⟨L, T, a', w, h, rfl, g1, w0, w1, h0, h1, by omega, by omega, g2⟩
theorem check_l0 (k : Nat) (c : S_Cells) (hv : ∀ b, b ∈ c.At → VB b) (hl : c.At.length ≤ 100) : ∀ (d n : Nat) (i : Int), i + d = c.At.length → 0 ≤ i → d < n → clean_Check.l0 k c n i = some (Sum.inr ()) := by
  intro d
  induction d with
  | zero =>
    intro n i hi i0 hn
    obtain ⟨n, rfl⟩ : ∃ q, n = q + 1 := ⟨n - 1, by omega⟩
    rw [clean_Check.l0, ifn (by omega)]
  | succ d ih =>
    intro n i hi i0 hn
    obtain ⟨n, rfl⟩ : ∃ q, n = q + 1 := ⟨n - 1, by omega⟩
    have hb := hv _ (rd_mem i0 (show i < (c.At.length : Int) by omega))
    obtain ⟨e, e1, e2⟩ := check_Quanta k (rd c.At i)
    have e0 := e2.mpr hb.1
    have h3 := hb.1
    unfold VB Val at hb
    rw [clean_Check.l0, ifp (by omega), ifp i0, bnd e1, ifn (by omega), ifn (by omega), ifn (by omega), wid (x := i + 1) (by omega) (by omega)]
    exact ih n (i + 1) (by omega) (by omega) (by omega)
theorem check_eq (k : Nat) (c : S_Cells) (w h : Int) (hW : c.W = w) (hH : c.H = h) (w0 : 1 ≤ w) (w1 : w ≤ 4) (h0 : 1 ≤ h) (h1 : h ≤ 4) (wh : 1 ≤ w * h ∧ w * h ≤ 16) (hl : (c.At.length : Int) = w * h) (hv : ∀ b, b ∈ c.At → VB b) (hk : 200 ≤ k) : clean_Check k c = some 0 := by
  unfold clean_Check
  rw [hW, hH, mn_def, mx_def, ifn (by omega), ifn (by omega), wid (x := w * h) (by omega) (by omega), ifn (by omega), bnd (check_l0 k c hv (by omega) c.At.length k 0 (by omega) (by decide) (by omega))]
  rfl
theorem valid_l0 (k : Nat) (L : List S_Cells) (w h : Int) (hF : Fields L w h (w * h)) (w0 : 1 ≤ w) (w1 : w ≤ 4) (h0 : 1 ≤ h) (h1 : h ≤ 4) (wh : 1 ≤ w * h ∧ w * h ≤ 16) (hl : L.length ≤ 100) (hk : 200 ≤ k) : ∀ (d n : Nat) (i : Int), i + d = L.length → 0 ≤ i → d < n → clean_valid.l0 k L n i = some (Sum.inr ()) := by
  intro d
  induction d with
  | zero =>
    intro n i hi i0 hn
    obtain ⟨n, rfl⟩ : ∃ q, n = q + 1 := ⟨n - 1, by omega⟩
    rw [clean_valid.l0, ifn (by omega)]
  | succ d ih =>
    intro n i hi i0 hn
    obtain ⟨n, rfl⟩ : ∃ q, n = q + 1 := ⟨n - 1, by omega⟩
    have hm := rd_mem i0 (show i < (L.length : Int) by omega)
    rw [clean_valid.l0, ifp (by omega), ifp i0, bnd (check_eq k _ w h (hF.W _ hm) (hF.H _ hm) w0 w1 h0 h1 wh (hF.len _ hm) (hF.vb _ hm) hk), ifn (by decide), wid (x := i + 1) (by omega) (by omega)]
    exact ih n (i + 1) (by omega) (by omega) (by omega)
theorem valid_l1 (k : Nat) (L : List S_Cells) (w h m : Int) (hF : Fields L w h m) (hl : L.length ≤ 100) : ∀ (d n : Nat) (i : Int), i + d = L.length → 0 ≤ i → d < n → clean_valid.l1 k L n i = some (Sum.inr ()) := by
  intro d
  induction d with
  | zero =>
    intro n i hi i0 hn
    obtain ⟨n, rfl⟩ : ∃ q, n = q + 1 := ⟨n - 1, by omega⟩
    rw [clean_valid.l1, ifn (by omega)]
  | succ d ih =>
    intro n i hi i0 hn
    obtain ⟨n, rfl⟩ : ∃ q, n = q + 1 := ⟨n - 1, by omega⟩
    have hm := rd_mem i0 (show i < (L.length : Int) by omega)
    have hm0 := rd_mem (show (0 : Int) ≤ 0 by decide) (show 0 < (L.length : Int) by omega)
    rw [clean_valid.l1, ifp (by omega), ifp i0, ifp (by omega), hF.W _ hm, hF.W _ hm0, hF.H _ hm, hF.H _ hm0, ifn (fun h => h rfl), ifn (fun h => h rfl), wid (x := i + 1) (by omega) (by omega)]
    exact ih n (i + 1) (by omega) (by omega) (by omega)
/-- What the fields hold in one cell. -/
def col (L : List S_Cells) (i : Int) : List S_Bound := L.map fun c => rd c.At i
theorem comb_l1 (k : Nat) (L : List S_Cells) (w h m i : Int) (hF : Fields L w h m) (i0 : 0 ≤ i) (i1 : i < m) (hl : L.length ≤ 100) : ∀ (d n : Nat) (out : List S_Bound) (j : Int), j + d = L.length → 0 ≤ j → d < n → (out.length : Int) = j → clean_Combine.l1 k L i n out j = some (out ++ col (L.drop j.toNat) i) := by
  intro d
  induction d with
  | zero =>
    intro n out j hj j0 hn ho
    obtain ⟨n, rfl⟩ : ∃ q, n = q + 1 := ⟨n - 1, by omega⟩
    rw [clean_Combine.l1, ifn (by omega), List.drop_of_length_le (by omega)]
    unfold col; rw [List.map_nil, List.append_nil]
  | succ d ih =>
    intro n out j hj j0 hn ho
    obtain ⟨n, rfl⟩ : ∃ q, n = q + 1 := ⟨n - 1, by omega⟩
    have hm := rd_mem j0 (show j < (L.length : Int) by omega)
    rw [clean_Combine.l1, ifp (by omega), ifp j0, ifp i0, ifp (by rw [hF.len _ hm]; exact i1), ifp (by omega), wid (x := j + 1) (by omega) (by omega)]
    rw [ih n _ (j + 1) (by omega) (by omega) (by omega) (by rw [List.length_append, List.length_cons, List.length_nil]; omega), rd_drop L j j0 (by omega)]
    unfold col
    rw [List.map_cons, List.append_assoc]
    rfl
/-- What Combine makes of a cell. -/
noncomputable def fz (k : Nat) (l : List S_Bound) (f : Int) : S_Bound := (bound_Fuse_Quanta k l f).getD default
theorem fz_ok (k : Nat) (l : List S_Bound) (f : Int) (hl : ∀ b, b ∈ l → VB b) (hb : l.length ≤ 100) (f0 : 0 ≤ f) (f1 : f ≤ 100) (hk : 2100 ≤ k) : bound_Fuse_Quanta k l f = some (fz k l f) ∧ Fused l f (fz k l f) := by
  obtain ⟨b, e, h⟩ := fuse_ex k l f hl hb f0 f1 hk
  unfold fz
  rw [e]
  exact ⟨rfl, h⟩
theorem col_vb {L : List S_Cells} {w h m : Int} (hF : Fields L w h m) {i : Int} (i0 : 0 ≤ i) (i1 : i < m) : ∀ b, b ∈ col L i → VB b := by
  intro b hb
  obtain ⟨c, hc, rfl⟩ := List.mem_map.mp hb
  exact hF.vb c hc _ (rd_mem i0 (by rw [hF.len c hc]; exact i1))
noncomputable def combL (k : Nat) (L : List S_Cells) (f : Int) : Nat → Int → List S_Bound
  | 0, _ => []
  | d + 1, i => fz k (col L i) f :: combL k L f d (i + 1)
theorem combL_len (k : Nat) (L : List S_Cells) (f : Int) : ∀ (d : Nat) (i : Int), (combL k L f d i).length = d := by
  intro d
  induction d with
  | zero => intro i; rfl
  | succ d ih => intro i; rw [combL, List.length_cons, ih]
theorem comb_l0 (k : Nat) (L : List S_Cells) (w h m f : Int) (hF : Fields L w h m) (hL : 1 ≤ L.length) (hl : L.length ≤ 50) (m1 : m ≤ 100) (f0 : 0 ≤ f) (f1 : f ≤ 100) (hk : 2100 ≤ k) : ∀ (d n : Nat) (i : Int) (out : List S_Bound), i + d = m → 0 ≤ i → d < n → (out.length : Int) = i → clean_Combine.l0 k L f n i out = some (out ++ combL k L f d i) := by
  have hm0 := rd_mem (show (0 : Int) ≤ 0 by decide) (show 0 < (L.length : Int) by omega)
  have h0 := hF.len _ hm0
  intro d
  induction d with
  | zero =>
    intro n i out hi i0 hn ho
    obtain ⟨n, rfl⟩ : ∃ q, n = q + 1 := ⟨n - 1, by omega⟩
    rw [clean_Combine.l0, ifn (by omega), combL, List.append_nil]
  | succ d ih =>
    intro n i out hi i0 hn ho
    obtain ⟨n, rfl⟩ : ∃ q, n = q + 1 := ⟨n - 1, by omega⟩
    have e1 := comb_l1 k L w h m i hF i0 (by omega) (by omega) L.length k [] 0 (by omega) (by decide) (by omega) rfl
    rw [show (0 : Int).toNat = 0 from rfl, List.drop_zero, List.nil_append] at e1
    have e2 := fz_ok k (col L i) f (col_vb hF i0 (by omega)) (by unfold col; rw [List.length_map]; omega) f0 f1 hk
    rw [clean_Combine.l0, ifp (by omega), bnd e1, bnd e2.1, ifp (by omega), wid (x := i + 1) (by omega) (by omega)]
    rw [ih n (i + 1) _ (by omega) (by omega) (by omega) (by rw [List.length_append, List.length_cons, List.length_nil]; omega), combL, List.append_assoc]
    rfl
theorem combine_eq (k : Nat) (L : List S_Cells) (w h f : Int) (hF : Fields L w h (w * h)) (w0 : 1 ≤ w) (w1 : w ≤ 4) (h0 : 1 ≤ h) (h1 : h ≤ 4) (wh : 1 ≤ w * h ∧ w * h ≤ 16) (hl : L.length ≤ 8) (f0 : 0 ≤ f) (f1 : f ≤ 3) (hf : 2 * f + 1 ≤ (L.length : Int)) (hk : 2100 ≤ k) : clean_Combine k L f = some (⟨w, h, combL k L f (w * h).toNat 0⟩, 0) := by
  have hm0 := rd_mem (show (0 : Int) ≤ 0 by decide) (show 0 < (L.length : Int) by omega)
  have hv : clean_valid k L f = some 0 := by
    unfold clean_valid
    rw [ifn (by omega), bnd (valid_l0 k L w h hF w0 w1 h0 h1 wh (by omega) (by omega) L.length k 0 (by omega) (by decide) (by omega))]
    dsimp only [Sum.elim_inr]
    rw [bnd (valid_l1 k L w h _ hF (by omega) L.length k 0 (by omega) (by decide) (by omega))]
    dsimp only [Sum.elim_inr]
    rw [wid (x := 2 * f) (by omega) (by omega), wid (x := 2 * f + 1) (by omega) (by omega), ifn (by omega), ifn (by omega), ifn (by omega)]
  unfold clean_Combine
  rw [bnd hv, ifn (by decide), ifp (by omega), bnd (comb_l0 k L w h (w * h) f hF (by omega) (by omega) (by omega) f0 (by omega) hk (w * h).toNat k 0 [] (by omega) (by decide) (by omega) rfl), hF.W _ hm0, hF.H _ hm0]
  rfl
theorem reverse_l0 (k : Nat) (o : List S_Cells) (hl : o.length ≤ 100) : ∀ (d n : Nat) (s : List S_Cells) (i j : Int), (o.length : Int) ≤ 2 * (i + d) → i + j = (o.length : Int) - 1 → 0 ≤ i → -1 ≤ j → d < n → s.length = o.length → (∀ p, 0 ≤ p → p < (o.length : Int) → rd s p = if p < i ∨ j < p then rd o ((o.length : Int) - 1 - p) else rd o p) →
    ∃ s', slices_Reverse_Cells.l0 k n s i j = some s' ∧ s'.length = o.length ∧ ∀ p, 0 ≤ p → p < (o.length : Int) → rd s' p = rd o ((o.length : Int) - 1 - p) := by
  intro d
  induction d with
  | zero =>
    intro n s i j hd hij i0 j0 hn hs h
    obtain ⟨n, rfl⟩ : ∃ q, n = q + 1 := ⟨n - 1, by omega⟩
    rw [slices_Reverse_Cells.l0, ifn (by omega)]
    refine ⟨s, rfl, hs, fun p p0 p1 => ?_⟩
    rw [h p p0 p1]
    split
    · rfl
    · congr 1; omega
  | succ d ih =>
    intro n s i j hd hij i0 j0 hn hs h
    obtain ⟨n, rfl⟩ : ∃ q, n = q + 1 := ⟨n - 1, by omega⟩
    rw [slices_Reverse_Cells.l0]
    by_cases c : i < j
    · rw [ifp c, ifp (by omega), ifp (by omega), ifp i0, ifp (by omega), ifp (by rw [List.length_set]; omega), wid (x := i + 1) (by omega) (by omega), wid (x := j - 1) (by omega) (by omega)]
      refine ih n _ (i + 1) (j - 1) (by omega) (by omega) (by omega) (by omega) (by omega) (by rw [List.length_set, List.length_set]; exact hs) (fun p p0 p1 => ?_)
      have hi := h i i0 (by omega)
      have hj := h j (by omega) (by omega)
      rw [if_neg (by omega)] at hi hj
      by_cases cj : p = j
      · subst cj
        rw [rds_eq _ _ _ p0 (by rw [List.length_set]; omega), hi, if_pos (by omega)]
        congr 1; omega
      · rw [rds_ne _ _ _ _ (by omega) p0 (by rw [List.length_set]; omega) cj]
        by_cases ci : p = i
        · subst ci
          rw [rds_eq _ _ _ p0 (by omega), hj, if_pos (by omega)]
          congr 1; omega
        · rw [rds_ne _ _ _ _ i0 p0 (by omega) ci, h p p0 p1]
          by_cases g : p < i ∨ j < p
          · rw [if_pos g, if_pos (by omega)]
          · rw [if_neg g, if_neg (by omega)]
    · rw [ifn c]
      refine ⟨s, rfl, hs, fun p p0 p1 => ?_⟩
      rw [h p p0 p1]
      split
      · rfl
      · congr 1; omega
theorem reverse_eq (k : Nat) (o : List S_Cells) (hl : o.length ≤ 100) (hk : 200 ≤ k) : slices_Reverse_Cells k o = some o.reverse := by
  obtain ⟨s, e, h1, h2⟩ := reverse_l0 k o hl o.length k o 0 ((o.length : Int) - 1) (by omega) (by omega) (by decide) (by omega) (by omega) rfl (fun p p0 p1 => by rw [if_neg (by omega)])
  unfold slices_Reverse_Cells
  rw [wid (by omega) (by omega), bnd e]
  congr 1
  apply List.ext_getElem (by rw [h1, List.length_reverse])
  intro m hm hm2
  obtain ⟨hlt, e1⟩ := rd_lt (xs := s) (i := (m : Int)) (by omega) (by omega)
  have := h2 (m : Int) (by omega) (by omega)
  obtain ⟨hlt2, e2⟩ := rd_lt (xs := o) (i := (o.length : Int) - 1 - (m : Int)) (by omega) (by omega)
  rw [e1, e2] at this
  rw [List.getElem_reverse]
  have e3 : ((o.length : Int) - 1 - (m : Int)).toNat = o.length - 1 - m := by omega
  simp only [e3] at this
  exact this
theorem equal_l0 (k : Nat) (s : List S_Bound) (hl : s.length ≤ 100) : ∀ (d n : Nat) (i : Int), i + d = s.length → 0 ≤ i → d < n → slices_Equal_Bound_Quanta.l0 k s s n i = some (Sum.inr ()) := by
  intro d
  induction d with
  | zero =>
    intro n i hi i0 hn
    obtain ⟨n, rfl⟩ : ∃ q, n = q + 1 := ⟨n - 1, by omega⟩
    rw [slices_Equal_Bound_Quanta.l0, ifn (by omega)]
  | succ d ih =>
    intro n i hi i0 hn
    obtain ⟨n, rfl⟩ : ∃ q, n = q + 1 := ⟨n - 1, by omega⟩
    rw [slices_Equal_Bound_Quanta.l0, ifp (by omega), ifp i0, ifp (by omega), beq_self_eq_true, beq_self_eq_true, beq_self_eq_true, ifn (by decide), wid (x := i + 1) (by omega) (by omega)]
    exact ih n (i + 1) (by omega) (by omega) (by omega)
theorem equal_eq (k : Nat) (s : List S_Bound) (hl : s.length ≤ 100) (hk : 200 ≤ k) : slices_Equal_Bound_Quanta k s s = some true := by
  unfold slices_Equal_Bound_Quanta
  rw [ifn (fun h => h rfl), bnd (equal_l0 k s hl s.length k 0 (by omega) (by decide) (by omega))]
  rfl
theorem rd_combL (k : Nat) (L : List S_Cells) (f : Int) : ∀ (d : Nat) (i : Int) (p : Int), 0 ≤ p → p < (d : Int) → rd (combL k L f d i) p = fz k (col L (i + p)) f := by
  intro d
  induction d with
  | zero => intro i p p0 p1; omega
  | succ d ih =>
    intro i p p0 p1
    rw [combL]
    by_cases c : p = 0
    · subst c; rw [Int.add_zero]; rfl
    · have e : rd (fz k (col L i) f :: combL k L f d (i + 1)) p = rd (combL k L f d (i + 1)) (p - 1) := by
        unfold rd
        rw [show p.toNat = (p - 1).toNat + 1 by omega]
        rfl
      rw [e, ih (i + 1) (p - 1) (by omega) (by omega)]
      congr 2; omega
/-- With no field that is wrong, the combined bound is inside of all. -/
theorem inside_ok (k : Nat) (l : List S_Bound) (b y : S_Bound) (hl : ∀ b, b ∈ l → VB b) (hF : Fused l 0 b) (hu : b.Unknown = false) (hy : y ∈ l) : bound_Inside_Quanta k b y = some true := by
  have vy := (hl y hy).1
  unfold bound_Inside_Quanta
  rw [bnd (vague_self k y vy)]
  by_cases c : y.Unknown = true
  · rw [ifp c]
  have c' : y.Unknown = false := by simpa using c
  rw [ifn c]
  rcases hF with ⟨rfl, _⟩ | ⟨h1, h2, h3, h4, h5, h6⟩
  · cases hu
  have imp : ∀ v (x : S_Bound), hasB v x = true → known x = true := by
    intro v x h
    unfold hasB at h
    unfold known
    simp only [Bool.and_eq_true] at h
    exact h.1
  have k1 := cnt_all (imp b.Lo) l (by have := h3.2; omega) y hy (by unfold known; rw [c']; rfl)
  have k2 := cnt_all (imp b.Hi) l (by have := h4.2; omega) y hy (by unfold known; rw [c']; rfl)
  unfold hasB at k1 k2
  simp only [Bool.and_eq_true, decide_eq_true_eq] at k1 k2
  have vb : Val b := by
    obtain ⟨⟨z, hz, _, hz2⟩, _⟩ := h3
    obtain ⟨⟨z', hz', _, hz2'⟩, _⟩ := h4
    have a1 := hl z hz
    have a2 := hl z' hz'
    unfold VB Val at a1 a2
    refine ⟨fun h => (by rw [h] at hu; cases hu), ?_, ?_, h5⟩ <;> omega
  rw [bnd (vague_self k b vb), hu, ifp (by decide), ifp k1.2.1, decide_eq_true k2.2.2]
theorem law_l1 (k : Nat) (L : List S_Cells) (C : S_Cells) (l : List Int) (w h m i : Int) (hF : Fields L w h m) (i0 : 0 ≤ i) (i1 : i < m) (hl : L.length ≤ 100) (hC : Fused (col L i) 0 (rd C.At i)) : ∀ (d n : Nat) (j : Int), j + d = L.length → 0 ≤ j → d < n → spykeep3_CleanOrders.l1 k L C i l n j = some (Sum.inr ()) := by
  intro d
  induction d with
  | zero =>
    intro n j hj j0 hn
    obtain ⟨n, rfl⟩ : ∃ q, n = q + 1 := ⟨n - 1, by omega⟩
    rw [spykeep3_CleanOrders.l1, ifn (by omega)]
  | succ d ih =>
    intro n j hj j0 hn
    obtain ⟨n, rfl⟩ : ∃ q, n = q + 1 := ⟨n - 1, by omega⟩
    have hm := rd_mem j0 (show j < (L.length : Int) by omega)
    rw [spykeep3_CleanOrders.l1, ifp (by omega), ifp j0, wid (x := j + 1) (by omega) (by omega)]
    by_cases c : (rd C.At i).Unknown = true
    · rw [ifn (fun h => h c)]
      exact ih n (j + 1) (by omega) (by omega) (by omega)
    · have c' : (rd C.At i).Unknown = false := by simpa using c
      rw [ifp c, ifp (by rw [hF.len _ hm]; exact i1), bnd (inside_ok k (col L i) _ _ (col_vb hF i0 i1) hC c' (List.mem_map.mpr ⟨_, hm, rfl⟩)), ifn (by decide)]
      exact ih n (j + 1) (by omega) (by omega) (by omega)
theorem law_l0 (k : Nat) (L : List S_Cells) (C : S_Cells) (l : List Int) (w h m : Int) (hF : Fields L w h m) (hm : (C.At.length : Int) = m) (m1 : m ≤ 100) (hl : L.length ≤ 100) (hC : ∀ i, 0 ≤ i → i < m → Fused (col L i) 0 (rd C.At i)) (hk : 200 ≤ k) : ∀ (d n : Nat) (i : Int), i + d = m → 0 ≤ i → d < n → spykeep3_CleanOrders.l0 k C l L n i = some (Sum.inr ()) := by
  intro d
  induction d with
  | zero =>
    intro n i hi i0 hn
    obtain ⟨n, rfl⟩ : ∃ q, n = q + 1 := ⟨n - 1, by omega⟩
    rw [spykeep3_CleanOrders.l0, ifn (by omega)]
  | succ d ih =>
    intro n i hi i0 hn
    obtain ⟨n, rfl⟩ : ∃ q, n = q + 1 := ⟨n - 1, by omega⟩
    rw [spykeep3_CleanOrders.l0, ifp (by omega), ifp i0, bnd (law_l1 k L C l w h m i hF i0 (by omega) hl (hC i i0 (by omega)) L.length k 0 (by omega) (by decide) (by omega))]
    dsimp only [Sum.elim_inr]
    rw [wid (x := i + 1) (by omega) (by omega)]
    exact ih n (i + 1) (by omega) (by omega) (by omega)
theorem law (k : Nat) (l : List Int) (f0_ : Int) (hk : 2100 ≤ k) : spykeep3_CleanOrders k l f0_ = some true := by
  unfold spykeep3_CleanOrders
  obtain ⟨f, h1, f0, f1⟩ := below_ex k f0_ 4 (by decide) (by decide)
  rw [bnd h1]
  obtain ⟨t, h2, t0, t1⟩ := next_ex k l 0 3 (by decide) (by decide) (by decide) (by decide)
  rw [bnd h2]; dsimp only
  rw [wid (x := 2 * f) (by omega) (by omega), wid (x := 2 * f + 1) (by omega) (by omega), wid (x := 2 * f + 1 + t) (by omega) (by omega), mn_def]
  obtain ⟨n, hn⟩ : ∃ n, n = min 8 (2 * f + 1 + t) := ⟨_, rfl⟩
  rw [← hn]
  obtain ⟨L, T, a', w, h, e, hL, w0, w1, y0, y1, m0, m1, hF⟩ := around_ex k l (0 + 1) n f (by decide) (by decide) (by omega) (by omega) f0 (by omega) (by omega)
  rw [bnd e]; dsimp only
  rw [bnd (combine_eq k L w h f hF w0 w1 y0 y1 ⟨m0, m1⟩ (by omega) f0 (by omega) (by omega) hk)]
  dsimp only
  rw [bnd (combine_eq k L w h 0 hF w0 w1 y0 y1 ⟨m0, m1⟩ (by omega) (by decide) (by decide) (by omega) hk)]
  dsimp only
  have hcl : slices_Clone_Cells k L = some L := by
    unfold slices_Clone_Cells
    rw [ifp (by rw [List.length_nil]; omega), List.nil_append]
  have hFr : Fields L.reverse w h (w * h) := ⟨fun c hc => hF.W c (List.mem_reverse.mp hc), fun c hc => hF.H c (List.mem_reverse.mp hc), fun c hc => hF.len c (List.mem_reverse.mp hc), fun c hc => hF.vb c (List.mem_reverse.mp hc)⟩
  rw [bnd hcl, bnd (reverse_eq k L (by omega) (by omega)), bnd (combine_eq k L.reverse w h f hFr w0 w1 y0 y1 ⟨m0, m1⟩ (by rw [List.length_reverse]; omega) f0 (by omega) (by rw [List.length_reverse]; omega) hk)]
  dsimp only
  rw [bnd (combined_eq k (by omega)), ifn (by decide), ifn (by decide), ifn (by decide), ifn (by decide)]
  have hsame : ∀ (d : Nat) (i : Int), 0 ≤ i → i + d ≤ w * h → combL k L.reverse f d i = combL k L f d i := by
    intro d
    induction d with
    | zero => intro i _ _; rfl
    | succ d ih =>
      intro i i0 i1
      rw [combL, combL, ih (i + 1) (by omega) (by omega)]
      congr 1
      have o1 := fz_ok k (col L.reverse i) f (col_vb hFr i0 (by omega)) (by unfold col; rw [List.length_map, List.length_reverse]; omega) f0 (by omega) hk
      have o2 := fz_ok k (col L i) f (col_vb hF i0 (by omega)) (by unfold col; rw [List.length_map]; omega) f0 (by omega) hk
      have er : col L.reverse i = (col L i).reverse := by unfold col; rw [List.map_reverse]
      rw [er] at o1 ⊢
      exact o1.2.reverse.unique o2.2
  rw [hsame (w * h).toNat 0 (by decide) (by omega), bnd (equal_eq k _ (by rw [combL_len]; omega) (by omega)), ifn (by decide)]
  have hC : ∀ i, 0 ≤ i → i < w * h → Fused (col L i) 0 (rd (combL k L 0 (w * h).toNat 0) i) := by
    intro i i0 i1
    rw [rd_combL k L 0 (w * h).toNat 0 i i0 (by omega), Int.zero_add]
    exact (fz_ok k (col L i) 0 (col_vb hF i0 i1) (by unfold col; rw [List.length_map]; omega) (by decide) (by decide) hk).2
  rw [bnd (law_l0 k L ⟨w, h, combL k L 0 (w * h).toNat 0⟩ l w h (w * h) hF (by rw [combL_len]; omega) (by omega) (by omega) hC (by omega) (w * h).toNat k 0 (by omega) (by decide) (by omega))]
  rfl
theorem law_ex (l : List Int) (f : Int) (_ : (Lit.int .i64 f).wf = true) : ∃ k, spykeep3_CleanOrders k l f = some true := ⟨2100, law 2100 l f (by decide)⟩

end Go.Sp.V3
