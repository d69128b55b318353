import Derived.Test.YtdogeeomknanpaaFU4
import Derived.KernelRfl
namespace Go.Sp.U4
open Go Go.Sp
set_option linter.unusedVariables false
theorem bnd {α β : Type} {x : Option α} {g : α → Option β} {v : α} (h : x = some v) : x.bind g = g v := by rw [h]; rfl
theorem ifp {α : Type} {c : Prop} [Decidable c] {x y : α} (h : c) : (if c then x else y) = x := if_pos h
theorem ifn {α : Type} {c : Prop} [Decidable c] {x y : α} (h : ¬ c) : (if c then x else y) = y := if_neg h
theorem rd_mem {α : Type} [Inhabited α] {l : List α} {i : Int} (h0 : 0 ≤ i) (h1 : i < (l.length : Int)) : rd l i ∈ l := by
  obtain ⟨h, e⟩ := rd_lt h0 h1
  rw [e]; exact List.getElem_mem h
theorem wid {x : Int} (h : -9223372036854775808 ≤ x) (h' : x ≤ 9223372036854775807) : w64 x = x := w64_of h h'
theorem wuid {x : Int} (h : 0 ≤ x) (h' : x ≤ 18446744073709551615) : u64 x = x := u64_of h h'
theorem mul_le {a b A B : Int} (h1 : 0 ≤ a) (h2 : a ≤ A) (h3 : 0 ≤ b) (h4 : b ≤ B) : 0 ≤ a * b ∧ a * b ≤ A * B :=
  ⟨Int.mul_nonneg h1 h3, Int.mul_le_mul h2 h4 h3 (by omega)⟩
theorem tdiv_nn {a b : Int} (h : 0 ≤ a) : Int.tdiv a b = a / b := Int.tdiv_eq_ediv_of_nonneg h
theorem tmod_nn {a b : Int} (h : 0 ≤ a) : Int.tmod a b = a % b := Int.tmod_eq_emod_of_nonneg h
def AllIn (l : List Int) (lo hi : Int) : Prop := ∀ x, x ∈ l → lo ≤ x ∧ x ≤ hi
theorem AllIn.nil {lo hi : Int} : AllIn [] lo hi := fun x h => by cases h
theorem AllIn.push {l : List Int} {lo hi x : Int} (h : AllIn l lo hi) (h0 : lo ≤ x) (h1 : x ≤ hi) : AllIn (l ++ [x]) lo hi := by
  intro y hy
  rcases List.mem_append.mp hy with hy | hy
  · exact h y hy
  · simp only [List.mem_singleton] at hy; subst hy; exact ⟨h0, h1⟩
theorem AllIn.rd {l : List Int} {lo hi i : Int} (h : AllIn l lo hi) (h0 : 0 ≤ i) (h1 : i < (l.length : Int)) : lo ≤ rd l i ∧ rd l i ≤ hi := h _ (rd_mem h0 h1)
theorem AllIn.mono {l : List Int} {lo hi lo' hi' : Int} (h : AllIn l lo hi) (h0 : lo' ≤ lo) (h1 : hi ≤ hi') : AllIn l lo' hi' := fun x hx => by have := h x hx; omega
theorem rd_set_eq (l : List Int) (i x : Int) (h0 : 0 ≤ i) (h1 : i < (l.length : Int)) : rd (l.set i.toNat x) i = x := by
  obtain ⟨h, e⟩ := rd_lt (xs := l.set i.toNat x) h0 (by simp; omega)
  rw [e]; simp
theorem rd_set_ne (l : List Int) (i j x : Int) (h0 : 0 ≤ i) (hj : 0 ≤ j) (h1 : j < (l.length : Int)) (hne : j ≠ i) : rd (l.set i.toNat x) j = rd l j := by
  obtain ⟨h, e⟩ := rd_lt (xs := l.set i.toNat x) hj (by simp; omega)
  obtain ⟨h', e'⟩ := rd_lt (xs := l) hj h1
  rw [e, e', List.getElem_set, if_neg (by omega)]
theorem rd_push_old (l : List Int) (x i : Int) (h0 : 0 ≤ i) (h1 : i < (l.length : Int)) : rd (l ++ [x]) i = rd l i := by
  obtain ⟨h, e⟩ := rd_lt (xs := l ++ [x]) h0 (by simp; omega)
  obtain ⟨h', e'⟩ := rd_lt (xs := l) h0 h1
  rw [e, e', List.getElem_append_left h']
theorem rd_push_new (l : List Int) (x i : Int) (h1 : i = (l.length : Int)) : rd (l ++ [x]) i = x := by
  obtain ⟨h, e⟩ := rd_lt (xs := l ++ [x]) (i := i) (by omega) (by simp; omega)
  rw [e, List.getElem_append_right (by omega)]
  simp
/-- A valid bound. -/
def Val (b : S_Bound) : Prop := (b.Unknown = true → b.Lo = 0 ∧ b.Hi = 0) ∧ -1152921504606846976 ≤ b.Lo ∧ b.Hi ≤ 1152921504606846976 ∧ b.Lo ≤ b.Hi
instance (b : S_Bound) : Decidable (Val b) := by unfold Val; infer_instance
theorem val_of {lo hi : Int} (h0 : -1152921504606846976 ≤ lo) (h1 : hi ≤ 1152921504606846976) (h : lo ≤ hi) : Val ⟨lo, hi, false⟩ := ⟨fun z => (by cases z), h0, h1, h⟩
theorem val_no : Val ⟨0, 0, true⟩ := by decide
theorem check_Quanta (k : Nat) (b : S_Bound) : ∃ e, bound_Check_Quanta k b = some e ∧ (e = 0 ↔ Val b) := by
  obtain ⟨lo, hi, u⟩ := b
  unfold bound_Check_Quanta Val
  dsimp only
  have tail : ∃ e, (if mn lo hi < (-1152921504606846976) then (some 4) else (if mx lo hi > 1152921504606846976 then (some 4) else (if lo > hi then (some 11) else (some 0))) : Option Int) = some e ∧ (e = 0 ↔ -1152921504606846976 ≤ lo ∧ hi ≤ 1152921504606846976 ∧ lo ≤ hi) := by
    rw [mn_def, mx_def]
    by_cases c1 : min lo hi < -1152921504606846976
    · exact ⟨4, ifp c1, by omega⟩
    · rw [ifn c1]
      by_cases c2 : max lo hi > 1152921504606846976
      · exact ⟨4, ifp c2, by omega⟩
      · rw [ifn c2]
        by_cases c3 : lo > hi
        · exact ⟨11, ifp c3, by omega⟩
        · exact ⟨0, ifn c3, by omega⟩
  obtain ⟨e, he, hv⟩ := tail
  cases u
  · rw [ifn (by decide)]
    exact ⟨e, he, hv.trans ⟨fun z => ⟨fun q => (by cases q), z⟩, fun z => z.2⟩⟩
  · rw [ifp rfl]
    by_cases c1 : lo ≠ 0
    · exact ⟨3, ifp c1, ⟨fun z => by omega, fun z => absurd (z.1 rfl).1 c1⟩⟩
    · rw [ifn c1]
      by_cases c2 : hi ≠ 0
      · exact ⟨3, ifp c2, ⟨fun z => by omega, fun z => absurd (z.1 rfl).2 c2⟩⟩
      · rw [ifn c2]
        exact ⟨e, he, hv.trans ⟨fun z => ⟨fun _ => ⟨by omega, by omega⟩, z⟩, fun z => z.2⟩⟩
theorem norm_Quanta (k : Nat) (b : S_Bound) : bound_Norm_Quanta k b = some (if Val b then b else ⟨0, 0, true⟩) := by
  obtain ⟨e, e1, e2⟩ := check_Quanta k b
  unfold bound_Norm_Quanta
  rw [bnd e1]
  by_cases c : Val b
  · rw [if_pos c, ifn (by have := e2.mpr c; omega)]
  · rw [if_neg c, ifp (show e ≠ 0 from fun z => c (e2.mp z))]; rfl
theorem of_Quanta (k : Nat) (lo hi : Int) : bound_Of_Quanta k lo hi = some (if Val ⟨lo, hi, false⟩ then ⟨lo, hi, false⟩ else ⟨0, 0, true⟩) := by
  unfold bound_Of_Quanta
  rw [bnd (norm_Quanta k _)]
theorem of_ok_Quanta (k : Nat) (lo hi : Int) (h0 : -1152921504606846976 ≤ lo) (h1 : hi ≤ 1152921504606846976) (h : lo ≤ hi) : bound_Of_Quanta k lo hi = some ⟨lo, hi, false⟩ := by
  rw [of_Quanta, if_pos (val_of h0 h1 h)]
theorem norm_ok_Quanta (k : Nat) (b : S_Bound) (h : Val b) : bound_Norm_Quanta k b = some b := by rw [norm_Quanta, if_pos h]
theorem rd_drop {α : Type} [Inhabited α] (l : List α) (i : Int) (h0 : 0 ≤ i) (h1 : i < (l.length : Int)) : l.drop i.toNat = rd l i :: l.drop (i + 1).toNat := by
  obtain ⟨h, e⟩ := rd_lt (xs := l) h0 h1
  rw [e, show (i + 1).toNat = i.toNat + 1 by omega]
  exact List.drop_eq_getElem_cons h
theorem rd_map {α β : Type} [Inhabited α] [Inhabited β] (f : α → β) (l : List α) (i : Int) (h0 : 0 ≤ i) (h1 : i < (l.length : Int)) : rd (l.map f) i = f (rd l i) := by
  obtain ⟨h, e⟩ := rd_lt (xs := l.map f) h0 (by rw [List.length_map]; exact h1)
  obtain ⟨h', e'⟩ := rd_lt (xs := l) h0 h1
  rw [e, e', List.getElem_map]
/-- A bound that is valid and small. -/
def VB (b : S_Bound) : Prop := Val b ∧ -2000 ≤ b.Lo ∧ b.Hi ≤ 2000
theorem vague_self (k : Nat) (b : S_Bound) (h : Val b) : bound_vague_Quanta k b b = some b.Unknown := by
  unfold bound_vague_Quanta
  rw [bnd (norm_ok_Quanta k b h)]
  by_cases c : b.Unknown = true
  · rw [ifp c, c]
  · rw [ifn c, bnd (norm_ok_Quanta k b h)]
def hasB (v : Int) (b : S_Bound) : Bool := !b.Unknown && (decide (b.Lo ≤ v) && decide (v ≤ b.Hi))
def known (b : S_Bound) : Bool := !b.Unknown
theorem has_eq (k : Nat) (b : S_Bound) (v : Int) (h : Val b) (hu : b.Unknown = false) : bound_Has_Quanta k b v = some (hasB v b) := by
  unfold bound_Has_Quanta hasB
  rw [bnd (vague_self k b h), hu, ifn (by decide)]
  by_cases c : b.Lo ≤ v
  · rw [ifp c, decide_eq_true c]; rfl
  · rw [ifn c, decide_eq_false c]; rfl
/-- How many of a list have something. -/
def cnt {α : Type} (p : α → Bool) : List α → Int
  | [] => 0
  | b :: l => (if p b then 1 else 0) + cnt p l
theorem cnt_append {α : Type} (p : α → Bool) (a b : List α) : cnt p (a ++ b) = cnt p a + cnt p b := by
  induction a with
  | nil => simp [cnt]
  | cons x a ih => rw [List.cons_append, cnt, cnt, ih]; omega
theorem cnt_reverse {α : Type} (p : α → Bool) (l : List α) : cnt p l.reverse = cnt p l := by
  induction l with
  | nil => rfl
  | cons x l ih => rw [List.reverse_cons, cnt_append, ih, cnt, cnt, cnt]; omega
theorem cnt_bd {α : Type} (p : α → Bool) (l : List α) : 0 ≤ cnt p l ∧ cnt p l ≤ (l.length : Int) := by
  induction l with
  | nil => simp [cnt]
  | cons x l ih => rw [cnt, List.length_cons]; split <;> omega
theorem cnt_le {α : Type} {p q : α → Bool} (h : ∀ x, p x = true → q x = true) (l : List α) : cnt p l ≤ cnt q l := by
  induction l with
  | nil => exact Int.le_refl _
  | cons x l ih =>
    rw [cnt, cnt]
    by_cases c : p x = true
    · rw [if_pos c, if_pos (h x c)]; omega
    · rw [if_neg c]; split <;> omega
/-- If as many have p as q, and p is more than q, all that have q have p. -/
theorem cnt_all {α : Type} {p q : α → Bool} (h : ∀ x, p x = true → q x = true) (l : List α) (hc : cnt q l ≤ cnt p l) : ∀ x, x ∈ l → q x = true → p x = true := by
  induction l with
  | nil => intro x hx; cases hx
  | cons y l ih =>
    have hl := cnt_le h l
    rw [cnt, cnt] at hc
    have hy : q y = true → p y = true := by
      intro hq
      rw [if_pos hq] at hc
      by_cases c : p y = true
      · exact c
      · rw [if_neg c] at hc; omega
    have hl2 : cnt q l ≤ cnt p l := by
      by_cases c : p y = true
      · rw [if_pos c, if_pos (h y c)] at hc; omega
      · rw [if_neg c] at hc
        by_cases c2 : q y = true
        · rw [if_pos c2] at hc; omega
        · rw [if_neg c2] at hc; omega
    intro x hx hq
    rcases List.mem_cons.mp hx with rfl | hx
    · exact hy hq
    · exact ih hl2 x hx hq
theorem votes_l0 (k : Nat) (l : List S_Bound) (v : Int) (hl : ∀ b, b ∈ l → Val b) (hb : l.length ≤ 1000) : ∀ (d n : Nat) (s i : Int), i + d = l.length → 0 ≤ i → d < n → 0 ≤ s → s ≤ i → bound_Votes_Quanta.l0 k l v n s i = some (s + cnt (hasB v) (l.drop i.toNat)) := by
  intro d
  induction d with
  | zero =>
    intro n s i hi i0 hn _ _
    obtain ⟨n, rfl⟩ : ∃ m, n = m + 1 := ⟨n - 1, by omega⟩
    rw [bound_Votes_Quanta.l0, ifn (by omega), List.drop_of_length_le (by omega), cnt, Int.add_zero]
  | succ d ih =>
    intro n s i hi i0 hn s0 s1
    obtain ⟨n, rfl⟩ : ∃ m, n = m + 1 := ⟨n - 1, by omega⟩
    have hv := hl _ (rd_mem i0 (show i < (l.length : Int) by omega))
    rw [bound_Votes_Quanta.l0, ifp (by omega), ifp i0, bnd (vague_self k _ hv), rd_drop l i i0 (by omega), cnt, wid (x := i + 1) (by omega) (by omega)]
    by_cases c : (rd l i).Unknown = true
    · rw [ifn (by rw [c]; decide), ih n s (i + 1) (by omega) (by omega) (by omega) s0 (by omega)]
      rw [if_neg (by unfold hasB; rw [c]; exact Bool.false_ne_true), Int.zero_add]
    · have c' : (rd l i).Unknown = false := by simpa using c
      rw [ifp c, bnd (has_eq k _ v hv c')]
      by_cases g : hasB v (rd l i) = true
      · rw [ifp g, wid (x := s + 1) (by omega) (by omega), ih n (s + 1) (i + 1) (by omega) (by omega) (by omega) (by omega) (by omega), if_pos g]
        congr 1; omega
      · rw [ifn g, ih n s (i + 1) (by omega) (by omega) (by omega) s0 (by omega), if_neg g, Int.zero_add]
theorem votes_eq (k : Nat) (l : List S_Bound) (v : Int) (hl : ∀ b, b ∈ l → Val b) (hb : l.length ≤ 1000) (hk : 1100 ≤ k) : bound_Votes_Quanta k l v = some (cnt (hasB v) l) := by
  unfold bound_Votes_Quanta
  rw [bnd (votes_l0 k l v hl hb l.length k 0 0 (by omega) (by decide) (by omega) (by decide) (by decide)), Int.zero_add]
  rfl
def few (l : List S_Bound) (need v : Int) : Bool := decide (cnt (hasB v) l < need)
theorem few_eq (k : Nat) (l : List S_Bound) (need v : Int) (hl : ∀ b, b ∈ l → Val b) (hb : l.length ≤ 1000) (hk : 1100 ≤ k) : bound_Fuse_Quanta_1 k l need v = some (few l need v) := by
  unfold bound_Fuse_Quanta_1 few
  rw [bnd (votes_eq k l v hl hb hk)]
theorem index_l0 (k : Nat) (l : List S_Bound) (need : Int) (E : List Int) (hl : ∀ b, b ∈ l → Val b) (hb : l.length ≤ 1000) (hE : E.length ≤ 1000) (hk : 1100 ≤ k) : ∀ (d n : Nat) (i : Int), i + d = E.length → 0 ≤ i → d < n → ∃ r, slices_IndexFunc_Quanta__bound_Fuse_Quanta_1.l0 k E l need n i = some r ∧
    (r = Sum.inr () → ∀ j, i ≤ j → j < (E.length : Int) → few l need (rd E j) = false) ∧ (∀ x, r = Sum.inl x → i ≤ x ∧ x < (E.length : Int) ∧ few l need (rd E x) = true ∧ ∀ j, i ≤ j → j < x → few l need (rd E j) = false) := by
  intro d
  induction d with
  | zero =>
    intro n i hi i0 hn
    obtain ⟨n, rfl⟩ : ∃ m, n = m + 1 := ⟨n - 1, by omega⟩
    rw [slices_IndexFunc_Quanta__bound_Fuse_Quanta_1.l0, ifn (by omega)]
    exact ⟨_, rfl, fun _ j j0 j1 => by omega, fun x hx => by cases hx⟩
  | succ d ih =>
    intro n i hi i0 hn
    obtain ⟨n, rfl⟩ : ∃ m, n = m + 1 := ⟨n - 1, by omega⟩
    rw [slices_IndexFunc_Quanta__bound_Fuse_Quanta_1.l0, ifp (by omega), ifp i0, bnd (few_eq k l need _ hl hb hk)]
    by_cases c : few l need (rd E i) = true
    · rw [ifp c]
      refine ⟨_, rfl, fun h => (by cases h), fun x hx => ?_⟩
      injection hx with hx; subst hx
      exact ⟨Int.le_refl _, by omega, c, fun j j0 j1 => by omega⟩
    · rw [ifn c, wid (x := i + 1) (by omega) (by omega)]
      obtain ⟨r, e, h1, h2⟩ := ih n (i + 1) (by omega) (by omega) (by omega)
      have c' : few l need (rd E i) = false := by simpa using c
      have tie : ∀ j, i ≤ j → j = i ∨ i + 1 ≤ j := fun j h => by omega
      refine ⟨r, e, fun h j j0 j1 => ?_, fun x hx => ?_⟩
      · rcases tie j j0 with rfl | g
        · exact c'
        · exact h1 h j g j1
      · obtain ⟨g1, g2, g3, g4⟩ := h2 x hx
        refine ⟨by omega, g2, g3, fun j j0 j1 => ?_⟩
        rcases tie j j0 with rfl | g
        · exact c'
        · exact g4 j g j1
theorem delete_l0 (k : Nat) (l : List S_Bound) (need : Int) (E : List Int) (hl : ∀ b, b ∈ l → Val b) (hb : l.length ≤ 1000) (hE : E.length ≤ 1000) (hk : 1100 ≤ k) : ∀ (d n : Nat) (s : List Int) (i j : Int), j + d = E.length → 0 ≤ i → i ≤ j → d < n → s.length = E.length → s.take i.toNat = (E.take j.toNat).filter (fun v => !few l need v) → s.drop j.toNat = E.drop j.toNat →
    ∃ s' i', slices_DeleteFunc_Quanta__bound_Fuse_Quanta_1.l0 k l need n s i j = some (s', i') ∧ 0 ≤ i' ∧ i' ≤ (s'.length : Int) ∧ s'.length = E.length ∧ s'.take i'.toNat = E.filter (fun v => !few l need v) := by
  intro d
  induction d with
  | zero =>
    intro n s i j hj i0 ij hn hs h1 h2
    obtain ⟨n, rfl⟩ : ∃ m, n = m + 1 := ⟨n - 1, by omega⟩
    rw [slices_DeleteFunc_Quanta__bound_Fuse_Quanta_1.l0, ifn (by omega)]
    refine ⟨s, i, rfl, i0, by omega, hs, ?_⟩
    rw [h1, List.take_of_length_le (by omega)]
  | succ d ih =>
    intro n s i j hj i0 ij hn hs h1 h2
    obtain ⟨n, rfl⟩ : ∃ m, n = m + 1 := ⟨n - 1, by omega⟩
    have e1 := rd_drop s j (by omega) (by omega)
    have e2 := rd_drop E j (by omega) (by omega)
    rw [e1, e2] at h2
    injection h2 with h3 h4
    have ht : E.take (j + 1).toNat = E.take j.toNat ++ [rd E j] := by
      rw [show (j + 1).toNat = j.toNat + 1 by omega]
      obtain ⟨hlt, e⟩ := rd_lt (xs := E) (i := j) (by omega) (by omega)
      rw [e, List.take_succ_eq_append_getElem hlt]
    rw [slices_DeleteFunc_Quanta__bound_Fuse_Quanta_1.l0, ifp (by omega), ifp (by omega), bnd (few_eq k l need _ hl hb hk), wid (x := j + 1) (by omega) (by omega)]
    by_cases c : few l need (rd s j) = true
    · rw [ifn (by rw [c]; decide)]
      refine ih n s i (j + 1) (by omega) i0 (by omega) (by omega) hs ?_ h4
      rw [ht, List.filter_append, h1, ← h3]
      simp [c]
    · have c' : few l need (rd s j) = false := by simpa using c
      rw [ifp c, ifp i0, ifp (by omega), wid (x := i + 1) (by omega) (by omega)]
      refine ih n (s.set i.toNat (rd s j)) (i + 1) (j + 1) (by omega) (by omega) (by omega) (by omega) (by rw [List.length_set]; exact hs) ?_ ?_
      · rw [ht, List.filter_append, ← h1, ← h3, show (i + 1).toNat = i.toNat + 1 by omega, List.take_succ_eq_append_getElem (by rw [List.length_set]; omega), List.getElem_set_self, List.take_set_of_le (Nat.le_refl _)]
        simp [c']
      · rw [List.drop_set_of_lt (by omega)]
        exact h4
theorem filter_take {p : Int → Bool} {E : List Int} {i : Int} (i0 : 0 ≤ i) (hi : i ≤ (E.length : Int)) (h : ∀ j, 0 ≤ j → j < i → p (rd E j) = true) : (E.take i.toNat).filter p = E.take i.toNat := by
  rw [List.filter_eq_self]
  intro x hx
  obtain ⟨m, hm, rfl⟩ := List.mem_iff_getElem.mp hx
  rw [List.length_take] at hm
  have := h (m : Int) (by omega) (by omega)
  obtain ⟨hlt, e⟩ := rd_lt (xs := E) (i := (m : Int)) (by omega) (by omega)
  rw [e] at this
  rw [List.getElem_take]
  exact this
theorem delete_eq (k : Nat) (l : List S_Bound) (need : Int) (E : List Int) (hl : ∀ b, b ∈ l → Val b) (hb : l.length ≤ 1000) (hE : E.length ≤ 1000) (hk : 1100 ≤ k) : slices_DeleteFunc_Quanta__bound_Fuse_Quanta_1 k l need E = some (E.filter (fun v => !few l need v)) := by
  obtain ⟨r, e, h1, h2⟩ := index_l0 k l need E hl hb hE hk E.length k 0 (by omega) (by decide) (by omega)
  unfold slices_DeleteFunc_Quanta__bound_Fuse_Quanta_1
  cases r with
  | inr u =>
    have hi : slices_IndexFunc_Quanta__bound_Fuse_Quanta_1 k l need E = some (-1) := by
      unfold slices_IndexFunc_Quanta__bound_Fuse_Quanta_1; rw [bnd e]; rfl
    rw [bnd hi, ifp rfl]
    congr 1
    have := filter_take (p := fun v => !few l need v) (E := E) (i := (E.length : Int)) (by omega) (Int.le_refl _) (fun j j0 j1 => by rw [h1 rfl j j0 j1]; rfl)
    rw [List.take_of_length_le (by omega)] at this
    exact this.symm
  | inl x =>
    obtain ⟨g1, g2, g3, g4⟩ := h2 x rfl
    have hi : slices_IndexFunc_Quanta__bound_Fuse_Quanta_1 k l need E = some x := by
      unfold slices_IndexFunc_Quanta__bound_Fuse_Quanta_1; rw [bnd e]; rfl
    rw [bnd hi, ifn (by omega), wid (x := x + 1) (by omega) (by omega)]
    have ft := filter_take (p := fun v => !few l need v) (E := E) (i := x) g1 (by omega) (fun j j0 j1 => by rw [g4 j j0 j1]; rfl)
    have ht : E.take (x + 1).toNat = E.take x.toNat ++ [rd E x] := by
      rw [show (x + 1).toNat = x.toNat + 1 by omega]
      obtain ⟨hlt, e⟩ := rd_lt (xs := E) (i := x) (by omega) (by omega)
      rw [e, List.take_succ_eq_append_getElem hlt]
    obtain ⟨s', i', e', i0, i1, i2, i3⟩ := delete_l0 k l need E hl hb hE hk (E.length - (x + 1).toNat) k E x (x + 1) (by omega) g1 (by omega) (by omega) rfl (by
      rw [ht, List.filter_append, ft]; simp [g3]) rfl
    rw [bnd e']
    dsimp only
    rw [ifp i0, ifp i1, ifp (by rw [clr_lenI i0 i1]; exact i1)]
    congr 1
    unfold clr
    rw [List.take_append_of_le_length (by rw [List.length_take]; omega), List.take_take, Nat.min_self, i3]
def endsL : List S_Bound → List Int
  | [] => []
  | b :: l => if b.Unknown = true then endsL l else b.Lo :: b.Hi :: endsL l
theorem ends_len (l : List S_Bound) : ((endsL l).length : Int) = 2 * cnt known l := by
  induction l with
  | nil => rfl
  | cons b l ih =>
    rw [endsL, cnt]
    unfold known at *
    by_cases c : b.Unknown = true
    · rw [if_pos c, if_neg (by rw [c]; decide), ih]; omega
    · rw [if_neg c, if_pos (by simpa using c), List.length_cons, List.length_cons]; omega
theorem ends_mem (l : List S_Bound) (v : Int) : v ∈ endsL l ↔ ∃ b, b ∈ l ∧ b.Unknown = false ∧ (v = b.Lo ∨ v = b.Hi) := by
  induction l with
  | nil => simp [endsL]
  | cons b l ih =>
    rw [endsL]
    by_cases c : b.Unknown = true
    · rw [if_pos c, ih]
      constructor
      · rintro ⟨x, h1, h2⟩; exact ⟨x, List.mem_cons_of_mem _ h1, h2⟩
      · rintro ⟨x, h1, h2, h3⟩
        rcases List.mem_cons.mp h1 with rfl | h1
        · rw [c] at h2; cases h2
        · exact ⟨x, h1, h2, h3⟩
    · have c' : b.Unknown = false := by simpa using c
      rw [if_neg c, List.mem_cons, List.mem_cons, ih]
      constructor
      · rintro (h | h | ⟨x, h1, h2⟩)
        · exact ⟨b, List.mem_cons_self, c', .inl h⟩
        · exact ⟨b, List.mem_cons_self, c', .inr h⟩
        · exact ⟨x, List.mem_cons_of_mem _ h1, h2⟩
      · rintro ⟨x, h1, h2, h3⟩
        rcases List.mem_cons.mp h1 with rfl | h1
        · rcases h3 with h | h
          · exact .inl h
          · exact .inr (.inl h)
        · exact .inr (.inr ⟨x, h1, h2, h3⟩)
theorem fuse_l0 (k : Nat) (l : List S_Bound) (hl : ∀ b, b ∈ l → Val b) (hb : l.length ≤ 400) : ∀ (d n : Nat) (E : List Int) (i : Int), i + d = l.length → 0 ≤ i → d < n → (E.length : Int) ≤ 2 * i → bound_Fuse_Quanta.l0 k l n E i = some (E ++ endsL (l.drop i.toNat)) := by
  intro d
  induction d with
  | zero =>
    intro n E i hi i0 hn hE
    obtain ⟨n, rfl⟩ : ∃ m, n = m + 1 := ⟨n - 1, by omega⟩
    rw [bound_Fuse_Quanta.l0, ifn (by omega), List.drop_of_length_le (by omega), endsL, List.append_nil]
  | succ d ih =>
    intro n E i hi i0 hn hE
    obtain ⟨n, rfl⟩ : ∃ m, n = m + 1 := ⟨n - 1, by omega⟩
    have hv := hl _ (rd_mem i0 (show i < (l.length : Int) by omega))
    rw [bound_Fuse_Quanta.l0, ifp (by omega), ifp i0, bnd (vague_self k _ hv), rd_drop l i i0 (by omega), endsL, wid (x := i + 1) (by omega) (by omega)]
    by_cases c : (rd l i).Unknown = true
    · rw [ifn (by rw [c]; decide), if_pos c, ih n E (i + 1) (by omega) (by omega) (by omega) (by omega)]
    · rw [ifp c, if_neg c, ifp (by omega), ih n _ (i + 1) (by omega) (by omega) (by omega) (by rw [List.length_append, List.length_cons, List.length_cons, List.length_nil]; omega), List.append_assoc]
      rfl
theorem min_l0 (k : Nat) (xs : List Int) (hb : xs.length ≤ 2000) : ∀ (d n : Nat) (m i : Int), i + d = xs.length → 0 ≤ i → d < n → m ∈ xs → (∀ j, 0 ≤ j → j < i → m ≤ rd xs j) → ∃ r, slices_Min_Quanta.l0 k xs n m i = some r ∧ r ∈ xs ∧ ∀ j, 0 ≤ j → j < (xs.length : Int) → r ≤ rd xs j := by
  intro d
  induction d with
  | zero =>
    intro n m i hi i0 hn hm h
    obtain ⟨n, rfl⟩ : ∃ q, n = q + 1 := ⟨n - 1, by omega⟩
    rw [slices_Min_Quanta.l0, ifn (by omega)]
    exact ⟨m, rfl, hm, fun j j0 j1 => h j j0 (by omega)⟩
  | succ d ih =>
    intro n m i hi i0 hn hm h
    obtain ⟨n, rfl⟩ : ∃ q, n = q + 1 := ⟨n - 1, by omega⟩
    have hr := rd_mem i0 (show i < (xs.length : Int) by omega)
    rw [slices_Min_Quanta.l0, ifp (by omega), ifp i0, wid (x := i + 1) (by omega) (by omega), mn_def]
    refine ih n _ (i + 1) (by omega) (by omega) (by omega) ?_ (fun j j0 j1 => ?_)
    · rcases Int.le_total m (rd xs i) with g | g
      · rw [Int.min_eq_left g]; exact hm
      · rw [Int.min_eq_right g]; exact hr
    · by_cases c : j = i
      · subst c; omega
      · have := h j j0 (by omega); omega
theorem max_l0 (k : Nat) (xs : List Int) (hb : xs.length ≤ 2000) : ∀ (d n : Nat) (m i : Int), i + d = xs.length → 0 ≤ i → d < n → m ∈ xs → (∀ j, 0 ≤ j → j < i → rd xs j ≤ m) → ∃ r, slices_Max_Quanta.l0 k xs n m i = some r ∧ r ∈ xs ∧ ∀ j, 0 ≤ j → j < (xs.length : Int) → rd xs j ≤ r := by
  intro d
  induction d with
  | zero =>
    intro n m i hi i0 hn hm h
    obtain ⟨n, rfl⟩ : ∃ q, n = q + 1 := ⟨n - 1, by omega⟩
    rw [slices_Max_Quanta.l0, ifn (by omega)]
    exact ⟨m, rfl, hm, fun j j0 j1 => h j j0 (by omega)⟩
  | succ d ih =>
    intro n m i hi i0 hn hm h
    obtain ⟨n, rfl⟩ : ∃ q, n = q + 1 := ⟨n - 1, by omega⟩
    have hr := rd_mem i0 (show i < (xs.length : Int) by omega)
    rw [slices_Max_Quanta.l0, ifp (by omega), ifp i0, wid (x := i + 1) (by omega) (by omega), mx_def]
    refine ih n _ (i + 1) (by omega) (by omega) (by omega) ?_ (fun j j0 j1 => ?_)
    · rcases Int.le_total m (rd xs i) with g | g
      · rw [Int.max_eq_right g]; exact hr
      · rw [Int.max_eq_left g]; exact hm
    · by_cases c : j = i
      · subst c; omega
      · have := h j j0 (by omega); omega
theorem mem_rd {xs : List Int} {v : Int} (h : v ∈ xs) : ∃ j, 0 ≤ j ∧ j < (xs.length : Int) ∧ rd xs j = v := by
  obtain ⟨m, hm, rfl⟩ := List.mem_iff_getElem.mp h
  obtain ⟨hlt, e⟩ := rd_lt (xs := xs) (i := (m : Int)) (by omega) (by omega)
  exact ⟨(m : Int), by omega, by omega, e⟩
theorem min_ex (k : Nat) (xs : List Int) (hb : xs.length ≤ 2000) (h : xs ≠ []) (hk : 2100 ≤ k) : ∃ m, slices_Min_Quanta k xs = some m ∧ m ∈ xs ∧ ∀ v, v ∈ xs → m ≤ v := by
  have hl : 0 < xs.length := List.length_pos_iff.mpr h
  obtain ⟨r, e, h1, h2⟩ := min_l0 k xs hb (xs.length - 1) k (rd xs 0) 1 (by omega) (by decide) (by omega) (rd_mem (by decide) (by omega)) (fun (j : Int) j0 j1 => Int.le_of_eq (by rw [show j = 0 by omega]))
  unfold slices_Min_Quanta
  rw [ifn (by omega), ifp (by omega), bnd e]
  refine ⟨r, rfl, h1, fun v hv => ?_⟩
  obtain ⟨j, j0, j1, rfl⟩ := mem_rd hv
  exact h2 j j0 j1
theorem max_ex (k : Nat) (xs : List Int) (hb : xs.length ≤ 2000) (h : xs ≠ []) (hk : 2100 ≤ k) : ∃ m, slices_Max_Quanta k xs = some m ∧ m ∈ xs ∧ ∀ v, v ∈ xs → v ≤ m := by
  have hl : 0 < xs.length := List.length_pos_iff.mpr h
  obtain ⟨r, e, h1, h2⟩ := max_l0 k xs hb (xs.length - 1) k (rd xs 0) 1 (by omega) (by decide) (by omega) (rd_mem (by decide) (by omega)) (fun (j : Int) j0 j1 => Int.le_of_eq (by rw [show j = 0 by omega]))
  unfold slices_Max_Quanta
  rw [ifn (by omega), ifp (by omega), bnd e]
  refine ⟨r, rfl, h1, fun v hv => ?_⟩
  obtain ⟨j, j0, j1, rfl⟩ := mem_rd hv
  exact h2 j j0 j1
/-- What Fuse answers. -/
def Keeps (l : List S_Bound) (f v : Int) : Prop := (∃ b, b ∈ l ∧ b.Unknown = false ∧ (v = b.Lo ∨ v = b.Hi)) ∧ cnt known l - f ≤ cnt (hasB v) l
def Fused (l : List S_Bound) (f : Int) (b : S_Bound) : Prop :=
  (b = ⟨0, 0, true⟩ ∧ (cnt known l - f ≤ 0 ∨ ∀ v, ¬ Keeps l f v)) ∨
  (0 < cnt known l - f ∧ b.Unknown = false ∧ Keeps l f b.Lo ∧ Keeps l f b.Hi ∧ b.Lo ≤ b.Hi ∧ ∀ v, Keeps l f v → b.Lo ≤ v ∧ v ≤ b.Hi)
theorem fuse_ex (k : Nat) (l : List S_Bound) (f : Int) (hl : ∀ b, b ∈ l → VB b) (hb : l.length ≤ 100) (f0 : 0 ≤ f) (f1 : f ≤ 100) (hk : 2100 ≤ k) : ∃ b, bound_Fuse_Quanta k l f = some b ∧ Fused l f b := by
  have hv : ∀ b, b ∈ l → Val b := fun b h => (hl b h).1
  have hc := cnt_bd known l
  have hE := ends_len l
  unfold bound_Fuse_Quanta
  rw [bnd (fuse_l0 k l hv (by omega) l.length k [] 0 (by omega) (by decide) (by omega) (by decide))]
  rw [show (0 : Int).toNat = 0 from rfl, List.drop_zero, List.nil_append, tdiv_nn (by omega), show ((endsL l).length : Int) / 2 = cnt known l by omega]
  rw [wid (x := cnt known l) (by omega) (by omega), wid (x := cnt known l - f) (by omega) (by omega), ifn (by omega)]
  by_cases c : cnt known l - f ≤ 0
  · rw [ifp c]
    exact ⟨_, rfl, .inl ⟨rfl, .inl c⟩⟩
  rw [ifn c, bnd (delete_eq k l _ (endsL l) hv (by omega) (by omega) (by omega))]
  obtain ⟨R, hR⟩ : ∃ R, R = (endsL l).filter (fun v => !few l (cnt known l - f) v) := ⟨_, rfl⟩
  rw [← hR]
  have hm : ∀ v, v ∈ R ↔ Keeps l f v := by
    intro v
    rw [hR, List.mem_filter, ends_mem]
    unfold Keeps few
    simp
  have hRl : R.length ≤ (endsL l).length := by rw [hR]; exact List.length_filter_le _ _
  by_cases d : (R.length : Int) = 0
  · rw [ifp d]
    have hRn : R = [] := List.eq_nil_of_length_eq_zero (by omega)
    refine ⟨_, rfl, .inl ⟨rfl, .inr fun v hv => ?_⟩⟩
    have := (hm v).mpr hv
    rw [hRn] at this; cases this
  rw [ifn d]
  have hRn : R ≠ [] := fun h => d (by rw [h]; rfl)
  obtain ⟨lo, e1, a1, a2⟩ := min_ex k R (by omega) hRn hk
  obtain ⟨hi, e2, b1, b2⟩ := max_ex k R (by omega) hRn hk
  have bd : ∀ v, v ∈ R → -2000 ≤ v ∧ v ≤ 2000 := by
    intro v h
    obtain ⟨⟨b, hb, _, h2⟩, _⟩ := (hm v).mp h
    have := hl b hb
    unfold VB Val at this
    omega
  have w1 := bd lo a1
  have w2 := bd hi b1
  rw [bnd e1, bnd e2, bnd (of_ok_Quanta k lo hi (by omega) (by omega) (a2 hi b1))]
  exact ⟨_, rfl, .inr ⟨by omega, rfl, (hm lo).mp a1, (hm hi).mp b1, a2 hi b1, fun v h => ⟨a2 v ((hm v).mpr h), b2 v ((hm v).mpr h)⟩⟩⟩
theorem Fused.unique {l : List S_Bound} {f : Int} {b c : S_Bound} (hb : Fused l f b) (hc : Fused l f c) : b = c := by
  rcases hb with ⟨rfl, h1⟩ | ⟨h1, h2, h3, h4, h5, h6⟩
  · rcases hc with ⟨rfl, _⟩ | ⟨g1, g2, g3, g4, g5, g6⟩
    · rfl
    · rcases h1 with h1 | h1
      · omega
      · exact absurd g3 (h1 _)
  · rcases hc with ⟨rfl, g1⟩ | ⟨g1, g2, g3, g4, g5, g6⟩
    · rcases g1 with g1 | g1
      · omega
      · exact absurd h3 (g1 _)
    · obtain ⟨bl, bh, bu⟩ := b
      obtain ⟨cl, ch, cu⟩ := c
      dsimp only at *
      have x1 := h6 cl g3
      have x2 := h6 ch g4
      have x3 := g6 bl h3
      have x4 := g6 bh h4
      rw [h2, g2, show bl = cl by omega, show bh = ch by omega]
theorem Keeps.reverse {l : List S_Bound} {f v : Int} : Keeps l.reverse f v ↔ Keeps l f v := by
  unfold Keeps
  rw [cnt_reverse, cnt_reverse]
  simp only [List.mem_reverse]
theorem Fused.reverse {l : List S_Bound} {f : Int} {b : S_Bound} (h : Fused l.reverse f b) : Fused l f b := by
  unfold Fused at *
  simp only [Keeps.reverse, cnt_reverse] at h
  exact h
theorem exact_Quanta (k : Nat) (v : Int) (h0 : -1152921504606846976 ≤ v) (h1 : v ≤ 1152921504606846976) : bound_Exact_Quanta k v = some ⟨v, v, false⟩ := by
  unfold bound_Exact_Quanta
  rw [bnd (of_ok_Quanta k v v h0 h1 (Int.le_refl v))]
theorem below_ex (k : Nat) (x n : Int) (h1 : 1 ≤ n) (h2 : n ≤ 4611686018427387904) : ∃ v, spymake_Below k x n = some v ∧ 0 ≤ v ∧ v < n := by
  have e1 := Int.tmod_lt_of_pos x (show 0 < n by omega)
  have e2 := Int.lt_tmod_of_pos x (show 0 < n by omega)
  unfold spymake_Below
  rw [ifn (by omega), ifp (by omega)]
  by_cases c : Int.tmod x n < 0
  · rw [ifp c]
    refine ⟨_, rfl, ?_, ?_⟩ <;> rw [wid (by omega) (by omega)] <;> omega
  · rw [ifn c]
    exact ⟨_, rfl, by omega, by omega⟩
theorem next_ex (k : Nat) (L : List Int) (a n : Int) (h1 : 1 ≤ n) (h2 : n ≤ 4611686018427387904) (a0 : 0 ≤ a) (a1 : a ≤ 4611686018427387904) :
    ∃ v, spymake_Stream_Next k ⟨L, a⟩ n = some (v, a + 1) ∧ 0 ≤ v ∧ v < n := by
  unfold spymake_Stream_Next
  dsimp only
  rw [wid (x := a + 1) (by omega) (by omega)]
  by_cases c : (L.length : Int) = 0
  · rw [ifp c]
    obtain ⟨v, hv, v0, v1⟩ := below_ex k (w64 ((a + 1) * 7919)) n h1 h2
    rw [bnd hv]
    exact ⟨v, rfl, v0, v1⟩
  · rw [ifn c, ifp c, show a + 1 - 1 = a by omega, wid (x := a) (by omega) (by omega)]
    have e1 := Int.tmod_lt_of_pos a (show 0 < (L.length : Int) by omega)
    have e2 : 0 ≤ Int.tmod a (L.length : Int) := Int.tmod_nonneg _ a0
    rw [ifp e2, ifp e1]
    obtain ⟨u, hu, _⟩ := below_ex k (rd L (Int.tmod a (L.length : Int))) 1073741824 (by decide) (by decide)
    rw [bnd hu]
    obtain ⟨v, hv, v0, v1⟩ := below_ex k (w64 (u + (w64 ((w64 (Int.tdiv a (L.length : Int))) * (w64 (7919 + (Int.tmod a (L.length : Int)))))))) n h1 h2
    rw [bnd hv]
    exact ⟨v, rfl, v0, v1⟩
theorem range_ex (k : Nat) (L : List Int) (a lo hi : Int) (h1 : lo ≤ hi) (h2 : hi - lo ≤ 1073741824) (h3 : -4611686018427387904 ≤ lo) (h4 : hi ≤ 4611686018427387904) (a0 : 0 ≤ a) (a1 : a ≤ 4611686018427387904) :
    ∃ v, spymake_Stream_Range k ⟨L, a⟩ lo hi = some (v, a + 1) ∧ lo ≤ v ∧ v ≤ hi := by
  unfold spymake_Stream_Range
  rw [ifn (by omega), wid (x := hi - lo) (by omega) (by omega), wid (x := hi - lo + 1) (by omega) (by omega)]
  obtain ⟨v, hv, v0, v1⟩ := next_ex k L a (hi - lo + 1) (by omega) (by omega) a0 a1
  rw [bnd hv]
  dsimp only
  rw [wid (by omega) (by omega)]
  exact ⟨_, rfl, by omega, by omega⟩
theorem combined_eq (k : Nat) (h : 60 ≤ k) : spykeep3_combined k = some true := by
  obtain ⟨k, rfl⟩ : ∃ j, k = j + 60 := ⟨k - 60, by omega⟩
  kernel_rfl
/-- Fields of one size, whose cells are valid and small. -/
structure Fields (L : List S_Cells) (w h m : Int) : Prop where
  W : ∀ c, c ∈ L → c.W = w
  H : ∀ c, c ∈ L → c.H = h
  len : ∀ c, c ∈ L → (c.At.length : Int) = m
  vb : ∀ c, c ∈ L → ∀ b, b ∈ c.At → VB b
theorem repeat_eq (k : Nat) (c : S_Cells) (n : Int) (n0 : 1 ≤ n) (n1 : n ≤ 8) (hk : 40 ≤ k) : slices_Repeat_Cells k [c] n = some (List.replicate n.toNat c) := by
  obtain ⟨k, rfl⟩ : ∃ j, k = j + 40 := ⟨k - 40, by omega⟩
  have e1 : slices_Repeat_Cells (k + 40) [c] 1 = some [c] := by kernel_rfl
  have e2 : slices_Repeat_Cells (k + 40) [c] 2 = some [c, c] := by kernel_rfl
  have e3 : slices_Repeat_Cells (k + 40) [c] 3 = some [c, c, c] := by kernel_rfl
  have e4 : slices_Repeat_Cells (k + 40) [c] 4 = some [c, c, c, c] := by kernel_rfl
  have e5 : slices_Repeat_Cells (k + 40) [c] 5 = some [c, c, c, c, c] := by kernel_rfl
  have e6 : slices_Repeat_Cells (k + 40) [c] 6 = some [c, c, c, c, c, c] := by kernel_rfl
  have e7 : slices_Repeat_Cells (k + 40) [c] 7 = some [c, c, c, c, c, c, c] := by kernel_rfl
  have e8 : slices_Repeat_Cells (k + 40) [c] 8 = some [c, c, c, c, c, c, c, c] := by kernel_rfl
  have : n = 1 ∨ n = 2 ∨ n = 3 ∨ n = 4 ∨ n = 5 ∨ n = 6 ∨ n = 7 ∨ n = 8 := by omega
  rcases this with h | h | h | h | h | h | h | h <;> rw [h]
  · exact e1
  · exact e2
  · exact e3
  · exact e4
  · exact e5
  · exact e6
  · exact e7
  · exact e8
/-- The cells before place j have one bound more. -/
structure Half (L : List S_Cells) (w h i j : Int) : Prop where
  W : ∀ c, c ∈ L → c.W = w
  H : ∀ c, c ∈ L → c.H = h
  vb : ∀ c, c ∈ L → ∀ b, b ∈ c.At → VB b
  old : ∀ p, 0 ≤ p → j ≤ p → p < (L.length : Int) → ((rd L p).At.length : Int) = i
  new : ∀ p, 0 ≤ p → p < j → p < (L.length : Int) → ((rd L p).At.length : Int) = i + 1
theorem rds_eq (l : List S_Cells) (i : Int) (x : S_Cells) (h0 : 0 ≤ i) (h1 : i < (l.length : Int)) : rd (l.set i.toNat x) i = x := by
  obtain ⟨h, e⟩ := rd_lt (xs := l.set i.toNat x) h0 (by simp; omega)
  rw [e]; simp
theorem rds_ne (l : List S_Cells) (i j : Int) (x : S_Cells) (h0 : 0 ≤ i) (hj : 0 ≤ j) (h1 : j < (l.length : Int)) (hne : j ≠ i) : rd (l.set i.toNat x) j = rd l j := by
  obtain ⟨h, e⟩ := rd_lt (xs := l.set i.toNat x) hj (by simp; omega)
  obtain ⟨h', e'⟩ := rd_lt (xs := l) hj h1
  rw [e, e', List.getElem_set, if_neg (by omega)]
theorem half_of {L : List S_Cells} {w h i : Int} (hF : Fields L w h i) : Half L w h i 0 :=
  ⟨hF.W, hF.H, hF.vb, fun p p0 _ p2 => hF.len _ (rd_mem p0 p2), fun p p0 p1 _ => by omega⟩
theorem of_half {L : List S_Cells} {w h i n : Int} (hL : (L.length : Int) = n) (hH : Half L w h i n) : Fields L w h (i + 1) :=
  ⟨hH.W, hH.H, fun c hc => by
    obtain ⟨m, hm, rfl⟩ := List.mem_iff_getElem.mp hc
    obtain ⟨hlt, e⟩ := rd_lt (xs := L) (i := (m : Int)) (by omega) (by omega)
    have := hH.new (m : Int) (by omega) (by omega) (by omega)
    rw [e] at this
    exact this, hH.vb⟩
theorem check_l0 (k : Nat) (c : S_Cells) (hv : ∀ b, b ∈ c.At → VB b) (hl : c.At.length ≤ 100) : ∀ (d n : Nat) (i : Int), i + d = c.At.length → 0 ≤ i → d < n → clean_Check.l0 k c n i = some (Sum.inr ()) := by
  intro d
  induction d with
  | zero =>
    intro n i hi i0 hn
    obtain ⟨n, rfl⟩ : ∃ q, n = q + 1 := ⟨n - 1, by omega⟩
    rw [clean_Check.l0, ifn (by omega)]
  | succ d ih =>
    intro n i hi i0 hn
    obtain ⟨n, rfl⟩ : ∃ q, n = q + 1 := ⟨n - 1, by omega⟩
    have hb := hv _ (rd_mem i0 (show i < (c.At.length : Int) by omega))
    obtain ⟨e, e1, e2⟩ := check_Quanta k (rd c.At i)
    have e0 := e2.mpr hb.1
    have h3 := hb.1
    unfold VB Val at hb
    rw [clean_Check.l0, ifp (by omega), ifp i0, bnd e1, ifn (by omega), ifn (by omega), ifn (by omega), wid (x := i + 1) (by omega) (by omega)]
    exact ih n (i + 1) (by omega) (by omega) (by omega)
theorem check_eq (k : Nat) (c : S_Cells) (w h : Int) (hW : c.W = w) (hH : c.H = h) (w0 : 1 ≤ w) (w1 : w ≤ 4) (h0 : 1 ≤ h) (h1 : h ≤ 4) (wh : 1 ≤ w * h ∧ w * h ≤ 16) (hl : (c.At.length : Int) = w * h) (hv : ∀ b, b ∈ c.At → VB b) (hk : 200 ≤ k) : clean_Check k c = some 0 := by
  unfold clean_Check
  rw [hW, hH, mn_def, mx_def, ifn (by omega), ifn (by omega), wid (x := w * h) (by omega) (by omega), ifn (by omega), bnd (check_l0 k c hv (by omega) c.At.length k 0 (by omega) (by decide) (by omega))]
  rfl
theorem valid_l0 (k : Nat) (L : List S_Cells) (w h : Int) (hF : Fields L w h (w * h)) (w0 : 1 ≤ w) (w1 : w ≤ 4) (h0 : 1 ≤ h) (h1 : h ≤ 4) (wh : 1 ≤ w * h ∧ w * h ≤ 16) (hl : L.length ≤ 100) (hk : 200 ≤ k) : ∀ (d n : Nat) (i : Int), i + d = L.length → 0 ≤ i → d < n → clean_valid.l0 k L n i = some (Sum.inr ()) := by
  intro d
  induction d with
  | zero =>
    intro n i hi i0 hn
    obtain ⟨n, rfl⟩ : ∃ q, n = q + 1 := ⟨n - 1, by omega⟩
    rw [clean_valid.l0, ifn (by omega)]
  | succ d ih =>
    intro n i hi i0 hn
    obtain ⟨n, rfl⟩ : ∃ q, n = q + 1 := ⟨n - 1, by omega⟩
    have hm := rd_mem i0 (show i < (L.length : Int) by omega)
    rw [clean_valid.l0, ifp (by omega), ifp i0, bnd (check_eq k _ w h (hF.W _ hm) (hF.H _ hm) w0 w1 h0 h1 wh (hF.len _ hm) (hF.vb _ hm) hk), ifn (by decide), wid (x := i + 1) (by omega) (by omega)]
    exact ih n (i + 1) (by omega) (by omega) (by omega)
theorem valid_l1 (k : Nat) (L : List S_Cells) (w h m : Int) (hF : Fields L w h m) (hl : L.length ≤ 100) : ∀ (d n : Nat) (i : Int), i + d = L.length → 0 ≤ i → d < n → clean_valid.l1 k L n i = some (Sum.inr ()) := by
  intro d
  induction d with
  | zero =>
    intro n i hi i0 hn
    obtain ⟨n, rfl⟩ : ∃ q, n = q + 1 := ⟨n - 1, by omega⟩
    rw [clean_valid.l1, ifn (by omega)]
  | succ d ih =>
    intro n i hi i0 hn
    obtain ⟨n, rfl⟩ : ∃ q, n = q + 1 := ⟨n - 1, by omega⟩
    have hm := rd_mem i0 (show i < (L.length : Int) by omega)
    have hm0 := rd_mem (show (0 : Int) ≤ 0 by decide) (show 0 < (L.length : Int) by omega)
    rw [clean_valid.l1, ifp (by omega), ifp i0, ifp (by omega), hF.W _ hm, hF.W _ hm0, hF.H _ hm, hF.H _ hm0, ifn (fun h => h rfl), ifn (fun h => h rfl), wid (x := i + 1) (by omega) (by omega)]
    exact ih n (i + 1) (by omega) (by omega) (by omega)
/-- What the fields hold in one cell. -/
def col (L : List S_Cells) (i : Int) : List S_Bound := L.map fun c => rd c.At i
theorem comb_l1 (k : Nat) (L : List S_Cells) (w h m i : Int) (hF : Fields L w h m) (i0 : 0 ≤ i) (i1 : i < m) (hl : L.length ≤ 100) : ∀ (d n : Nat) (out : List S_Bound) (j : Int), j + d = L.length → 0 ≤ j → d < n → (out.length : Int) = j → clean_Combine.l1 k L i n out j = some (out ++ col (L.drop j.toNat) i) := by
  intro d
  induction d with
  | zero =>
    intro n out j hj j0 hn ho
    obtain ⟨n, rfl⟩ : ∃ q, n = q + 1 := ⟨n - 1, by omega⟩
    rw [clean_Combine.l1, ifn (by omega), List.drop_of_length_le (by omega)]
    unfold col; rw [List.map_nil, List.append_nil]
  | succ d ih =>
    intro n out j hj j0 hn ho
    obtain ⟨n, rfl⟩ : ∃ q, n = q + 1 := ⟨n - 1, by omega⟩
    have hm := rd_mem j0 (show j < (L.length : Int) by omega)
    rw [clean_Combine.l1, ifp (by omega), ifp j0, ifp i0, ifp (by rw [hF.len _ hm]; exact i1), ifp (by omega), wid (x := j + 1) (by omega) (by omega)]
    rw [ih n _ (j + 1) (by omega) (by omega) (by omega) (by rw [List.length_append, List.length_cons, List.length_nil]; omega), rd_drop L j j0 (by omega)]
    unfold col
    rw [List.map_cons, List.append_assoc]
    rfl
/-- What Combine makes of a cell. -/
noncomputable def fz (k : Nat) (l : List S_Bound) (f : Int) : S_Bound := (bound_Fuse_Quanta k l f).getD default
theorem fz_ok (k : Nat) (l : List S_Bound) (f : Int) (hl : ∀ b, b ∈ l → VB b) (hb : l.length ≤ 100) (f0 : 0 ≤ f) (f1 : f ≤ 100) (hk : 2100 ≤ k) : bound_Fuse_Quanta k l f = some (fz k l f) ∧ Fused l f (fz k l f) := by
  obtain ⟨b, e, h⟩ := fuse_ex k l f hl hb f0 f1 hk
  unfold fz
  rw [e]
  exact ⟨rfl, h⟩
theorem col_vb {L : List S_Cells} {w h m : Int} (hF : Fields L w h m) {i : Int} (i0 : 0 ≤ i) (i1 : i < m) : ∀ b, b ∈ col L i → VB b := by
  intro b hb
  obtain ⟨c, hc, rfl⟩ := List.mem_map.mp hb
  exact hF.vb c hc _ (rd_mem i0 (by rw [hF.len c hc]; exact i1))
noncomputable def combL (k : Nat) (L : List S_Cells) (f : Int) : Nat → Int → List S_Bound
  | 0, _ => []
  | d + 1, i => fz k (col L i) f :: combL k L f d (i + 1)
theorem combL_len (k : Nat) (L : List S_Cells) (f : Int) : ∀ (d : Nat) (i : Int), (combL k L f d i).length = d := by
  intro d
  induction d with
  | zero => intro i; rfl
  | succ d ih => intro i; rw [combL, List.length_cons, ih]
theorem comb_l0 (k : Nat) (L : List S_Cells) (w h m f : Int) (hF : Fields L w h m) (hL : 1 ≤ L.length) (hl : L.length ≤ 50) (m1 : m ≤ 100) (f0 : 0 ≤ f) (f1 : f ≤ 100) (hk : 2100 ≤ k) : ∀ (d n : Nat) (i : Int) (out : List S_Bound), i + d = m → 0 ≤ i → d < n → (out.length : Int) = i → clean_Combine.l0 k L f n i out = some (out ++ combL k L f d i) := by
  have hm0 := rd_mem (show (0 : Int) ≤ 0 by decide) (show 0 < (L.length : Int) by omega)
  have h0 := hF.len _ hm0
  intro d
  induction d with
  | zero =>
    intro n i out hi i0 hn ho
    obtain ⟨n, rfl⟩ : ∃ q, n = q + 1 := ⟨n - 1, by omega⟩
    rw [clean_Combine.l0, ifn (by omega), combL, List.append_nil]
  | succ d ih =>
    intro n i out hi i0 hn ho
    obtain ⟨n, rfl⟩ : ∃ q, n = q + 1 := ⟨n - 1, by omega⟩
    have e1 := comb_l1 k L w h m i hF i0 (by omega) (by omega) L.length k [] 0 (by omega) (by decide) (by omega) rfl
    rw [show (0 : Int).toNat = 0 from rfl, List.drop_zero, List.nil_append] at e1
    have e2 := fz_ok k (col L i) f (col_vb hF i0 (by omega)) (by unfold col; rw [List.length_map]; omega) f0 f1 hk
    rw [clean_Combine.l0, ifp (by omega), bnd e1, bnd e2.1, ifp (by omega), wid (x := i + 1) (by omega) (by omega)]
    rw [ih n (i + 1) _ (by omega) (by omega) (by omega) (by rw [List.length_append, List.length_cons, List.length_nil]; omega), combL, List.append_assoc]
    rfl
theorem combine_eq (k : Nat) (L : List S_Cells) (w h f : Int) (hF : Fields L w h (w * h)) (w0 : 1 ≤ w) (w1 : w ≤ 4) (h0 : 1 ≤ h) (h1 : h ≤ 4) (wh : 1 ≤ w * h ∧ w * h ≤ 16) (hl : L.length ≤ 8) (f0 : 0 ≤ f) (f1 : f ≤ 3) (hf : 2 * f + 1 ≤ (L.length : Int)) (hk : 2100 ≤ k) : clean_Combine k L f = some (⟨w, h, combL k L f (w * h).toNat 0⟩, 0) := by
  have hm0 := rd_mem (show (0 : Int) ≤ 0 by decide) (show 0 < (L.length : Int) by omega)
  have hv : clean_valid k L f = some 0 := by
    unfold clean_valid
    rw [ifn (by omega), bnd (valid_l0 k L w h hF w0 w1 h0 h1 wh (by omega) (by omega) L.length k 0 (by omega) (by decide) (by omega))]
    dsimp only [Sum.elim_inr]
    rw [bnd (valid_l1 k L w h _ hF (by omega) L.length k 0 (by omega) (by decide) (by omega))]
    dsimp only [Sum.elim_inr]
    rw [wid (x := 2 * f) (by omega) (by omega), wid (x := 2 * f + 1) (by omega) (by omega), ifn (by omega), ifn (by omega), ifn (by omega)]
  unfold clean_Combine
  rw [bnd hv, ifn (by decide), ifp (by omega), bnd (comb_l0 k L w h (w * h) f hF (by omega) (by omega) (by omega) f0 (by omega) hk (w * h).toNat k 0 [] (by omega) (by decide) (by omega) rfl), hF.W _ hm0, hF.H _ hm0]
  rfl
theorem rd_combL (k : Nat) (L : List S_Cells) (f : Int) : ∀ (d : Nat) (i : Int) (p : Int), 0 ≤ p → p < (d : Int) → rd (combL k L f d i) p = fz k (col L (i + p)) f := by
  intro d
  induction d with
  | zero => intro i p p0 p1; omega
  | succ d ih =>
    intro i p p0 p1
    rw [combL]
    by_cases c : p = 0
    · subst c; rw [Int.add_zero]; rfl
    · have e : rd (fz k (col L i) f :: combL k L f d (i + 1)) p = rd (combL k L f d (i + 1)) (p - 1) := by
        unfold rd
        rw [show p.toNat = (p - 1).toNat + 1 by omega]
        rfl
      rw [e, ih (i + 1) (p - 1) (by omega) (by omega)]
      congr 2; omega
theorem g_set_eq {α : Type} [Inhabited α] (l : List α) (i : Int) (x : α) (h0 : 0 ≤ i) (h1 : i < (l.length : Int)) : rd (l.set i.toNat x) i = x := by
  obtain ⟨h, e⟩ := rd_lt (xs := l.set i.toNat x) h0 (by simp; omega)
  rw [e]; simp
theorem g_set_ne {α : Type} [Inhabited α] (l : List α) (i j : Int) (x : α) (h0 : 0 ≤ i) (hj : 0 ≤ j) (h1 : j < (l.length : Int)) (hne : j ≠ i) : rd (l.set i.toNat x) j = rd l j := by
  obtain ⟨h, e⟩ := rd_lt (xs := l.set i.toNat x) hj (by simp; omega)
  obtain ⟨h', e'⟩ := rd_lt (xs := l) hj h1
  rw [e, e', List.getElem_set, if_neg (by omega)]
theorem g_push_old {α : Type} [Inhabited α] (l : List α) (x : α) (i : Int) (h0 : 0 ≤ i) (h1 : i < (l.length : Int)) : rd (l ++ [x]) i = rd l i := by
  obtain ⟨h, e⟩ := rd_lt (xs := l ++ [x]) h0 (by simp; omega)
  obtain ⟨h', e'⟩ := rd_lt (xs := l) h0 h1
  rw [e, e', List.getElem_append_left h']
theorem g_push_new {α : Type} [Inhabited α] (l : List α) (x : α) (i : Int) (h1 : i = (l.length : Int)) : rd (l ++ [x]) i = x := by
  obtain ⟨h, e⟩ := rd_lt (xs := l ++ [x]) (i := i) (by omega) (by simp; omega)
  rw [e, List.getElem_append_right (by omega)]
  simp
def wrongB (v : Int) (b : S_Bound) : Bool := !b.Unknown && !(decide (b.Lo ≤ v) && decide (v ≤ b.Hi))
theorem cnt_parts (v : Int) (l : List S_Bound) : cnt known l = cnt (hasB v) l + cnt (wrongB v) l := by
  induction l with
  | nil => rfl
  | cons b l ih =>
    rw [cnt, cnt, cnt, ih]
    unfold known hasB wrongB
    cases b.Unknown <;> cases (decide (b.Lo ≤ v) && decide (v ≤ b.Hi)) <;> simp <;> omega
theorem cnt_le_mem {α : Type} {p q : α → Bool} : ∀ (l : List α), (∀ x, x ∈ l → p x = true → q x = true) → cnt p l ≤ cnt q l
  | [], _ => Int.le_refl _
  | x :: l, h => by
    have ih := cnt_le_mem l (fun y hy => h y (List.mem_cons_of_mem _ hy))
    rw [cnt, cnt]
    by_cases c : p x = true
    · rw [if_pos c, if_pos (h x List.mem_cons_self c)]; omega
    · rw [if_neg c]; split <;> omega
theorem cnt_some {α : Type} {p : α → Bool} : ∀ (l : List α), 0 < cnt p l → ∃ x, x ∈ l ∧ p x = true
  | [], h => by simp [cnt] at h
  | x :: l, h => by
    by_cases c : p x = true
    · exact ⟨x, List.mem_cons_self, c⟩
    · rw [cnt, if_neg c, Int.zero_add] at h
      obtain ⟨y, h1, h2⟩ := cnt_some l h
      exact ⟨y, List.mem_cons_of_mem _ h1, h2⟩
theorem best {α : Type} {p : α → Bool} (g : α → Int) : ∀ (l : List α), (∃ x, x ∈ l ∧ p x = true) → ∃ b, b ∈ l ∧ p b = true ∧ ∀ c, c ∈ l → p c = true → g c ≤ g b
  | [], ⟨_, h, _⟩ => by cases h
  | y :: l, ⟨x, hx, hp⟩ => by
    by_cases c : ∃ x, x ∈ l ∧ p x = true
    · obtain ⟨b, h1, h2, h3⟩ := best g l c
      by_cases d : p y = true ∧ g b ≤ g y
      · refine ⟨y, List.mem_cons_self, d.1, fun c hc pc => ?_⟩
        rcases List.mem_cons.mp hc with rfl | hc
        · exact Int.le_refl _
        · have := h3 c hc pc; omega
      · refine ⟨b, List.mem_cons_of_mem _ h1, h2, fun c hc pc => ?_⟩
        rcases List.mem_cons.mp hc with rfl | hc
        · by_cases e : g b ≤ g c
          · exact absurd ⟨pc, e⟩ d
          · omega
        · exact h3 c hc pc
    · have hy : p y = true := by
        rcases List.mem_cons.mp hx with rfl | hx
        · exact hp
        · exact absurd ⟨x, hx, hp⟩ c
      refine ⟨y, List.mem_cons_self, hy, fun z hz pz => ?_⟩
      rcases List.mem_cons.mp hz with rfl | hz
      · exact Int.le_refl _
      · exact absurd ⟨z, hz, pz⟩ c
/-- x is not excluded by b. -/
def May (b : S_Bound) (x : Int) : Prop := b.Unknown = true ∨ (b.Lo ≤ x ∧ x ≤ b.Hi)
theorem hasB_iff {v : Int} {b : S_Bound} : hasB v b = true ↔ b.Unknown = false ∧ b.Lo ≤ v ∧ v ≤ b.Hi := by
  unfold hasB
  simp
theorem fused_may {l : List S_Bound} {f x : Int} {b : S_Bound} (hl : ∀ b, b ∈ l → VB b) (hF : Fused l f b) (hw : cnt (wrongB x) l ≤ f) : May b x ∧ Val b := by
  rcases hF with ⟨rfl, _⟩ | ⟨h1, h2, h3, h4, h5, h6⟩
  · exact ⟨.inl rfl, val_no⟩
  have hp := cnt_parts x l
  have ex := cnt_some (p := hasB x) l (by omega)
  have keep : ∀ v c, c ∈ l → hasB x c = true → (v = c.Lo ∨ v = c.Hi) → (∀ y, y ∈ l → hasB x y = true → hasB v y = true) → Keeps l f v := by
    intro v c hc pc hv hy
    have := cnt_le_mem l hy
    exact ⟨⟨c, hc, (hasB_iff.mp pc).1, hv⟩, by omega⟩
  obtain ⟨c, c1, c2, c3⟩ := best (p := hasB x) (fun b => b.Lo) l ex
  obtain ⟨d, d1, d2, d3⟩ := best (p := hasB x) (fun b => -b.Hi) l ex
  have ic := hasB_iff.mp c2
  have id_ := hasB_iff.mp d2
  have k1 := h6 c.Lo (keep c.Lo c c1 c2 (.inl rfl) (fun y hy py => by
    have := c3 y hy py
    have iy := hasB_iff.mp py
    exact hasB_iff.mpr ⟨iy.1, by omega, by omega⟩))
  have k2 := h6 d.Hi (keep d.Hi d d1 d2 (.inr rfl) (fun y hy py => by
    have := d3 y hy py
    have iy := hasB_iff.mp py
    exact hasB_iff.mpr ⟨iy.1, by omega, by omega⟩))
  refine ⟨.inr ⟨by omega, by omega⟩, ?_⟩
  obtain ⟨⟨z, hz, _, hz2⟩, _⟩ := h3
  obtain ⟨⟨z', hz', _, hz2'⟩, _⟩ := h4
  have a1 := hl z hz
  have a2 := hl z' hz'
  unfold VB Val at a1 a2
  refine ⟨fun h => (by rw [h] at h2; cases h2), ?_, ?_, h5⟩ <;> omega
theorem has_any (k : Nat) (b : S_Bound) (x : Int) (h : Val b) : ∃ r, bound_Has_Quanta k b x = some r ∧ (r = true ↔ May b x) := by
  unfold bound_Has_Quanta May
  rw [bnd (vague_self k b h)]
  by_cases c : b.Unknown = true
  · rw [ifp c]; exact ⟨_, rfl, fun _ => .inl c, fun _ => rfl⟩
  · rw [ifn c]
    by_cases d : b.Lo ≤ x
    · rw [ifp d]
      refine ⟨_, rfl, fun h => .inr ⟨d, of_decide_eq_true h⟩, fun h => ?_⟩
      rcases h with h | h
      · exact absurd h c
      · exact decide_eq_true h.2
    · rw [ifn d]
      refine ⟨_, rfl, fun h => (by cases h), fun h => ?_⟩
      rcases h with h | h
      · exact absurd h c
      · exact absurd h.1 d
theorem meet_any (k : Nat) (b c : S_Bound) (hb : Val b) (hc : Val c) : ∃ r ok, bound_Meet_Quanta k b c = some (r, ok) ∧ (ok = false → ∀ x, ¬ (May b x ∧ May c x)) := by
  unfold bound_Meet_Quanta May
  rw [bnd (norm_ok_Quanta k b hb), bnd (norm_ok_Quanta k c hc)]
  by_cases u : b.Unknown = true
  · rw [ifp u]; exact ⟨_, _, rfl, fun h => (by cases h)⟩
  rw [ifn u]
  by_cases v : c.Unknown = true
  · rw [ifp v]; exact ⟨_, _, rfl, fun h => (by cases h)⟩
  rw [ifn v, mx_def, mn_def]
  by_cases g : max b.Lo c.Lo > min b.Hi c.Hi
  · rw [ifp g]
    refine ⟨_, _, rfl, fun _ x h => ?_⟩
    rcases h.1 with h1 | h1
    · exact u h1
    rcases h.2 with h2 | h2
    · exact v h2
    omega
  · rw [ifn g, bnd (of_Quanta k _ _)]
    exact ⟨_, _, rfl, fun h => (by cases h)⟩
theorem col_append (a b : List S_Cells) (i : Int) : col (a ++ b) i = col a i ++ col b i := by unfold col; rw [List.map_append]
theorem col_set (L : List S_Cells) (i j : Int) (c : S_Cells) (j0 : 0 ≤ j) (j1 : j < (L.length : Int)) (h : rd c.At i = rd (rd L j).At i) : col (L.set j.toNat c) i = col L i := by
  unfold col
  apply List.ext_getElem (by simp)
  intro m h1 h2
  rw [List.getElem_map, List.getElem_map, List.getElem_set]
  split
  · rename_i e
    obtain ⟨hlt, er⟩ := rd_lt (xs := L) j0 j1
    rw [h, er]
    simp only [e]
  · rfl
/-- How many of the first j fields can be wrong. -/
def G (first wrong n j : Int) : Int := max 0 (min j (first + wrong - n)) + max 0 (min j (first + wrong) - first)
theorem around_l1 (k : Nat) (L0 : List S_Cells) (l : List Int) (at0 n first wrong x w h i : Int) (n0 : 1 ≤ n) (n1 : n ≤ 8) (hL0 : (L0.length : Int) = n) (x0 : 0 ≤ x) (x1 : x < 1000) (f0 : 0 ≤ first) (f1 : first < n) (y0 : 0 ≤ wrong) (y1 : wrong ≤ n) (i0 : 0 ≤ i) (i1 : i ≤ 100) : ∀ (d m : Nat) (L : List S_Cells) (j a : Int), j + d = n → 0 ≤ j → d < m → 0 ≤ a → a + 4 * d ≤ 1000000000 → (L.length : Int) = n → Half L w h i j → cnt (wrongB x) (col (L.take j.toNat) i) ≤ G first wrong n j →
    ∃ L' a', spykeep3_around.l1 k L0 ⟨l, at0⟩ n first wrong x m L j a = some (L', a') ∧ a ≤ a' ∧ a' ≤ a + 4 * d ∧ (L'.length : Int) = n ∧ Half L' w h i n ∧ (∀ i', 0 ≤ i' → i' < i → col L' i' = col L i') ∧ cnt (wrongB x) (col L' i) ≤ wrong := by
  intro d
  induction d with
  | zero =>
    intro m L j a hj j0 hm a0 a1 hL hH hc
    obtain ⟨m, rfl⟩ : ∃ q, m = q + 1 := ⟨m - 1, by omega⟩
    rw [spykeep3_around.l1, ifn (by omega)]
    refine ⟨L, a, rfl, by omega, by omega, hL, by rw [show n = j by omega]; exact hH, fun _ _ _ => rfl, ?_⟩
    rw [List.take_of_length_le (by omega)] at hc
    unfold G at hc
    omega
  | succ d ih =>
    intro m L j a hj j0 hm a0 a1 hL hH hc
    obtain ⟨m, rfl⟩ : ∃ q, m = q + 1 := ⟨m - 1, by omega⟩
    rw [spykeep3_around.l1, ifp (by omega)]
    obtain ⟨s, h1, s0, s1⟩ := next_ex k l a 20 (by decide) (by decide) (by omega) (by omega)
    rw [bnd h1]; dsimp only
    obtain ⟨t, h2, t0, t1⟩ := next_ex k l (a + 1) 20 (by decide) (by decide) (by omega) (by omega)
    rw [bnd h2]; dsimp only
    rw [ifp (by omega)]
    have hq : Int.tmod (w64 (w64 (j - first) + n)) n = if first ≤ j then j - first else j - first + n := by
      rw [wid (x := j - first) (by omega) (by omega), wid (by omega) (by omega), tmod_nn (by omega)]
      by_cases c : first ≤ j
      · rw [if_pos c, Int.add_emod_right, Int.emod_eq_of_lt (by omega) (by omega)]
      · rw [if_neg c, Int.emod_eq_of_lt (by omega) (by omega)]
    have step : ∀ (b : S_Bound) (a2 : Int), VB b → a ≤ a2 → a2 ≤ a + 4 → (wrongB x b = false ∨ (if first ≤ j then j - first else j - first + n) < wrong) → ∃ L' a', (if 0 ≤ j then (if j < (L.length : Int) then ((slices_Clone_Bound_Quanta k ((rd L j).At)).bind fun vt1106 => (if (vt1106.length + 1) * 24 ≤ 140737488355328 then (spykeep3_around.l1 k L0 ⟨l, at0⟩ n first wrong x m (L.set (j).toNat (⟨(rd L j).W, (rd L j).H, (vt1106 ++ ([(⟨b.Lo, b.Hi, b.Unknown⟩ : S_Bound)] : List S_Bound))⟩ : S_Cells)) (w64 (j + 1)) a2) else none)) else none) else none) = some (L', a') ∧ a ≤ a' ∧ a' ≤ a + 4 * (d + 1 : Nat) ∧ (L'.length : Int) = n ∧ Half L' w h i n ∧ (∀ i', 0 ≤ i' → i' < i → col L' i' = col L i') ∧ cnt (wrongB x) (col L' i) ≤ wrong := by
      intro b a2 hb b0 b1 hwb
      have hlen := hH.old j j0 (Int.le_refl j) (by omega)
      have hmem := rd_mem j0 (show j < (L.length : Int) by omega)
      have hcl : slices_Clone_Bound_Quanta k (rd L j).At = some (rd L j).At := by
        unfold slices_Clone_Bound_Quanta
        rw [ifp (by rw [List.length_nil]; omega), List.nil_append]
      rw [ifp j0, ifp (by omega), bnd hcl, ifp (by omega), wid (x := j + 1) (by omega) (by omega)]
      obtain ⟨L', a', e, g1, g2, g3, g4, g5, g6⟩ := ih m (L.set j.toNat ⟨(rd L j).W, (rd L j).H, (rd L j).At ++ [⟨b.Lo, b.Hi, b.Unknown⟩]⟩) (j + 1) a2 (by omega) (by omega) (by omega) (by omega) (by omega) (by rw [List.length_set]; exact hL) (by
        refine ⟨?_, ?_, ?_, ?_, ?_⟩
        · intro c hc
          rcases List.mem_or_eq_of_mem_set hc with hc | rfl
          · exact hH.W c hc
          · exact (show (rd L j).W = w from hH.W _ hmem)
        · intro c hc
          rcases List.mem_or_eq_of_mem_set hc with hc | rfl
          · exact hH.H c hc
          · exact (show (rd L j).H = h from hH.H _ hmem)
        · intro c hc y hy
          rcases List.mem_or_eq_of_mem_set hc with hc | rfl
          · exact hH.vb c hc y hy
          · rcases List.mem_append.mp hy with hy | hy
            · exact hH.vb _ hmem y hy
            · simp only [List.mem_singleton] at hy
              rw [hy]; exact hb
        · intro p p0 p1 p2
          rw [List.length_set] at p2
          rw [rds_ne _ _ _ _ j0 p0 p2 (by omega)]
          exact hH.old p p0 (by omega) p2
        · intro p p0 p1 p2
          rw [List.length_set] at p2
          by_cases c : p = j
          · subst c
            rw [rds_eq _ _ _ j0 p2]
            dsimp only
            rw [List.length_append, List.length_cons, List.length_nil]; omega
          · rw [rds_ne _ _ _ _ j0 p0 p2 c]
            exact hH.new p p0 (by omega) p2) (by
        rw [show (j + 1).toNat = j.toNat + 1 by omega, List.take_succ_eq_append_getElem (by rw [List.length_set]; omega), List.getElem_set_self, List.take_set_of_le (Nat.le_refl _), col_append, cnt_append]
        have e1 : col [(⟨(rd L j).W, (rd L j).H, (rd L j).At ++ [⟨b.Lo, b.Hi, b.Unknown⟩]⟩ : S_Cells)] i = [b] := by
          show [rd ((rd L j).At ++ [⟨b.Lo, b.Hi, b.Unknown⟩]) i] = [b]
          rw [g_push_new _ _ _ (by omega)]
        rw [e1, cnt, cnt]
        unfold G at hc ⊢
        rcases hwb with hwb | hwb
        · rw [if_neg (by rw [hwb]; exact Bool.false_ne_true)]; omega
        · by_cases c : first ≤ j
          · rw [if_pos c] at hwb
            split <;> omega
          · rw [if_neg c] at hwb
            split <;> omega)
      refine ⟨L', a', e, by omega, by omega, g3, g4, fun i' h0 h1 => ?_, g6⟩
      rw [g5 i' h0 h1]
      exact col_set L i' j _ j0 (by omega) (g_push_old _ _ _ h0 (by omega))
    by_cases c : Int.tmod (w64 (w64 (j - first) + n)) n < wrong
    · rw [ifp c]
      rw [hq] at c
      obtain ⟨r, h3, r0, r1⟩ := range_ex k l (a + 1 + 1) (-900) 900 (by decide) (by decide) (by decide) (by decide) (by omega) (by omega)
      rw [bnd h3]; dsimp only
      rw [wid (x := x + r) (by omega) (by omega), bnd (exact_Quanta k (x + r) (by omega) (by omega))]
      exact step ⟨x + r, x + r, false⟩ (a + 1 + 1 + 1) ⟨val_of (by omega) (by omega) (Int.le_refl _), by dsimp only; omega, by dsimp only; omega⟩ (by omega) (by omega) (.inr c)
    · rw [ifn c]
      obtain ⟨r, h3, r0, r1⟩ := next_ex k l (a + 1 + 1) 9 (by decide) (by decide) (by omega) (by omega)
      rw [bnd h3]; dsimp only
      by_cases g : r = 0
      · rw [ifp g]
        exact step ⟨0, 0, true⟩ (a + 1 + 1 + 1) ⟨val_no, by decide, by decide⟩ (by omega) (by omega) (.inl rfl)
      · rw [ifn g, wid (x := x - s) (by omega) (by omega), wid (x := x + t) (by omega) (by omega)]
        exact step ⟨x - s, x + t, false⟩ (a + 1 + 1 + 1) ⟨val_of (by omega) (by omega) (by omega), by dsimp only; omega, by dsimp only; omega⟩ (by omega) (by omega) (.inl (by
          unfold wrongB; dsimp only; rw [decide_eq_true (show x - s ≤ x by omega), decide_eq_true (show x ≤ x + t by omega)]; rfl))
/-- In each cell at most f fields are wrong. -/
def Few (L : List S_Cells) (T : List Int) (f i : Int) : Prop := ∀ p, 0 ≤ p → p < i → cnt (wrongB (rd T p)) (col L p) ≤ f
theorem around_l0 (k : Nat) (l : List Int) (at0 w h f n : Int) (w0 : 1 ≤ w) (w1 : w ≤ 4) (h0 : 1 ≤ h) (h1 : h ≤ 4) (f0 : 0 ≤ f) (f1 : f ≤ 3) (fn : f ≤ n) (n0 : 1 ≤ n) (n1 : n ≤ 8) (hk : 100 ≤ k) (wh : 1 ≤ w * h ∧ w * h ≤ 16) : ∀ (d m : Nat) (T : List Int) (L : List S_Cells) (i a : Int), i + d = w * h → 0 ≤ i → d < m → 0 ≤ a → a + 40 * d ≤ 1000000000 → (T.length : Int) = i → (L.length : Int) = n → Fields L w h i → Few L T f i →
    ∃ T' L' a', spykeep3_around.l0 k w h ⟨l, at0⟩ f n m T L i a = some (T', L', a') ∧ (L'.length : Int) = n ∧ Fields L' w h (w * h) ∧ (T'.length : Int) = w * h ∧ Few L' T' f (w * h) := by
  intro d
  induction d with
  | zero =>
    intro m T L i a hi i0 hm a0 a1 hT hL hF hW
    obtain ⟨m, rfl⟩ : ∃ q, m = q + 1 := ⟨m - 1, by omega⟩
    rw [spykeep3_around.l0, wid (x := w * h) (by omega) (by omega), ifn (by omega)]
    exact ⟨T, L, a, rfl, hL, by rw [show w * h = i by omega]; exact hF, by omega, by rw [show w * h = i by omega]; exact hW⟩
  | succ d ih =>
    intro m T L i a hi i0 hm a0 a1 hT hL hF hW
    obtain ⟨m, rfl⟩ : ∃ q, m = q + 1 := ⟨m - 1, by omega⟩
    rw [spykeep3_around.l0, wid (x := w * h) (by omega) (by omega), ifp (by omega)]
    obtain ⟨x, e1, x0, x1⟩ := next_ex k l a 1000 (by decide) (by decide) (by omega) (by omega)
    rw [bnd e1]; dsimp only
    rw [ifp (by omega), wid (x := f + 1) (by omega) (by omega)]
    obtain ⟨wrong, e2, y0, y1⟩ := next_ex k l (a + 1) (f + 1) (by omega) (by omega) (by omega) (by omega)
    rw [bnd e2]; dsimp only
    obtain ⟨first, e3, z0, z1⟩ := next_ex k l (a + 1 + 1) n n0 (by omega) (by omega) (by omega)
    rw [bnd e3]; dsimp only
    obtain ⟨L', a', e4, g1, g2, g3, g4, g5, g6⟩ := around_l1 k L l at0 n first wrong x w h i n0 n1 hL x0 x1 z0 z1 y0 (by omega) i0 (by omega) n.toNat k L 0 (a + 1 + 1 + 1) (by omega) (by decide) (by omega) (by omega) (by omega) hL (half_of hF) (by
      rw [show (0 : Int).toNat = 0 from rfl, List.take_zero]
      unfold G
      show (0 : Int) ≤ _
      omega)
    rw [bnd e4]; dsimp only
    rw [wid (x := i + 1) (by omega) (by omega)]
    refine ih m _ L' (i + 1) a' (by omega) (by omega) (by omega) (by omega) (by omega) (by rw [List.length_append, List.length_cons, List.length_nil]; omega) g3 (of_half g3 g4) fun p p0 p1 => ?_
    by_cases c : p = i
    · rw [c, g_push_new _ _ _ hT.symm]; omega
    · rw [g_push_old _ _ _ p0 (by omega), g5 p p0 (by omega)]
      exact hW p p0 (by omega)
theorem around_ex (k : Nat) (l : List Int) (a n f : Int) (a0 : 0 ≤ a) (a1 : a ≤ 1000) (n0 : 1 ≤ n) (n1 : n ≤ 8) (f0 : 0 ≤ f) (f1 : f ≤ 3) (fn : f ≤ n) (hk : 100 ≤ k) : ∃ L T a' w h, spykeep3_around k ⟨l, a⟩ n f = some (L, T, a') ∧ (L.length : Int) = n ∧ 1 ≤ w ∧ w ≤ 4 ∧ 1 ≤ h ∧ h ≤ 4 ∧ 1 ≤ w * h ∧ w * h ≤ 16 ∧ Fields L w h (w * h) ∧ (T.length : Int) = w * h ∧ Few L T f (w * h) := by
  unfold spykeep3_around
  obtain ⟨w, e1, w0, w1⟩ := range_ex k l a 1 4 (by decide) (by decide) (by decide) (by decide) (by omega) (by omega)
  rw [bnd e1]; dsimp only
  obtain ⟨h, e2, h0, h1⟩ := range_ex k l (a + 1) 1 4 (by decide) (by decide) (by decide) (by decide) (by omega) (by omega)
  rw [bnd e2]; dsimp only
  have m1 := mul_le (a := w) (b := h) (A := 4) (B := 4) (by omega) w1 (by omega) h1
  have m2 : 1 * 1 ≤ w * h := Int.mul_le_mul w0 h0 (by decide) (by omega)
  rw [bnd (repeat_eq k ⟨w, h, []⟩ n n0 n1 (by omega))]
  obtain ⟨T, L, a', e3, g1, g2, g3, g4⟩ := around_l0 k l a w h f n w0 w1 h0 h1 f0 f1 fn n0 n1 hk (by omega) (w * h).toNat k [] (List.replicate n.toNat ⟨w, h, []⟩) 0 (a + 1 + 1) (by omega) (by decide) (by omega) (by omega) (by omega) rfl (by simp; omega) ⟨fun c hc => by rw [(List.mem_replicate.mp hc).2], fun c hc => by rw [(List.mem_replicate.mp hc).2], fun c hc => by rw [(List.mem_replicate.mp hc).2]; rfl, fun c hc b hb => by rw [(List.mem_replicate.mp hc).2] at hb; cases hb⟩ (fun p p0 p1 => by omega)
  rw [bnd e3]
  exact ⟨L, T, a', w, h, rfl, g1, w0, w1, h0, h1, by omega, by omega, g2, g3, g4⟩
/-- The rows of struck fields: what is struck cannot be. -/
def Rows_ (L : List S_Cells) (C : List S_Bound) (m : Int) (out : List (List Int)) : Prop :=
  ∀ p, 0 ≤ p → p < (L.length : Int) → ((rd out p).length : Int) ≤ m ∧ ∀ y, y ∈ rd out p → ∀ x, ¬ (May (rd (rd L p).At y) x ∧ May (rd C y) x)
theorem struck_l1 (k : Nat) (L : List S_Cells) (C : S_Cells) (w h m j : Int) (hF : Fields L w h m) (hm : m ≤ 100) (hC : (C.At.length : Int) = m) (hV : ∀ i, 0 ≤ i → i < m → Val (rd C.At i)) (hl : (L.length : Int) ≤ 100) (j0 : 0 ≤ j) (j1 : j < (L.length : Int)) : ∀ (d n : Nat) (out : List (List Int)) (i : Int), i + d = m → 0 ≤ i → d < n → out.length = L.length → Rows_ L C.At m out → ((rd out j).length : Int) ≤ i → (∀ p, j < p → p < (L.length : Int) → rd out p = []) →
    ∃ out', clean_Struck.l1 k L j C n out i = some out' ∧ out'.length = L.length ∧ Rows_ L C.At m out' ∧ (∀ p, j < p → p < (L.length : Int) → rd out' p = []) := by
  have hmem := rd_mem j0 j1
  have hlen := hF.len _ hmem
  intro d
  induction d with
  | zero =>
    intro n out i hi i0 hn ho hR hr hz
    obtain ⟨n, rfl⟩ : ∃ q, n = q + 1 := ⟨n - 1, by omega⟩
    rw [clean_Struck.l1, ifn (by omega)]
    exact ⟨out, rfl, ho, hR, hz⟩
  | succ d ih =>
    intro n out i hi i0 hn ho hR hr hz
    obtain ⟨n, rfl⟩ : ∃ q, n = q + 1 := ⟨n - 1, by omega⟩
    obtain ⟨r, ok, e1, e2⟩ := meet_any k (rd (rd L j).At i) (rd C.At i) (hF.vb _ hmem _ (rd_mem i0 (by omega))).1 (hV i i0 (by omega))
    rw [clean_Struck.l1, ifp (by omega), ifp i0, ifp (by omega), bnd e1]
    dsimp only
    rw [wid (x := i + 1) (by omega) (by omega)]
    by_cases c : ok = true
    · rw [ifn (fun g => g c)]
      exact ih n out (i + 1) (by omega) (by omega) (by omega) ho hR (by omega) hz
    · rw [ifp c, ifp (by omega), ifp (by omega)]
      refine ih n _ (i + 1) (by omega) (by omega) (by omega) (by rw [List.length_set]; exact ho) ?_ ?_ ?_
      · intro p p0 p1
        by_cases g : p = j
        · subst g
          rw [g_set_eq _ _ _ p0 (by omega)]
          refine ⟨by rw [List.length_append, List.length_cons, List.length_nil]; omega, fun y hy => ?_⟩
          rcases List.mem_append.mp hy with hy | hy
          · exact (hR p p0 p1).2 y hy
          · simp only [List.mem_singleton] at hy
            subst hy
            exact e2 (by simpa using c)
        · rw [g_set_ne _ _ _ _ j0 p0 (by omega) g]
          exact hR p p0 p1
      · rw [g_set_eq _ _ _ j0 (by omega), List.length_append, List.length_cons, List.length_nil]; omega
      · intro p p0 p1
        rw [g_set_ne _ _ _ _ j0 (by omega) (by omega) (by omega)]
        exact hz p p0 p1
theorem struck_l0 (k : Nat) (L : List S_Cells) (C : S_Cells) (w h m : Int) (hF : Fields L w h m) (m0 : 0 ≤ m) (hm : m ≤ 100) (hC : (C.At.length : Int) = m) (hV : ∀ i, 0 ≤ i → i < m → Val (rd C.At i)) (hl : (L.length : Int) ≤ 100) (hk : 200 ≤ k) : ∀ (d n : Nat) (out : List (List Int)) (j : Int), j + d = L.length → 0 ≤ j → d < n → out.length = L.length → Rows_ L C.At m out → (∀ p, j ≤ p → p < (L.length : Int) → rd out p = []) →
    ∃ out', clean_Struck.l0 k L C n out j = some out' ∧ out'.length = L.length ∧ Rows_ L C.At m out' := by
  intro d
  induction d with
  | zero =>
    intro n out j hj j0 hn ho hR hz
    obtain ⟨n, rfl⟩ : ∃ q, n = q + 1 := ⟨n - 1, by omega⟩
    rw [clean_Struck.l0, ifn (by omega)]
    exact ⟨out, rfl, ho, hR⟩
  | succ d ih =>
    intro n out j hj j0 hn ho hR hz
    obtain ⟨n, rfl⟩ : ∃ q, n = q + 1 := ⟨n - 1, by omega⟩
    rw [clean_Struck.l0, ifp (by omega), ifp j0]
    obtain ⟨o1, e1, h1, h2, h3⟩ := struck_l1 k L C w h m j hF hm hC hV hl j0 (by omega) m.toNat k out 0 (by omega) (by decide) (by omega) ho hR (by rw [hz j (Int.le_refl _) (by omega)]; exact Int.le_refl _) (fun p p0 p1 => hz p (by omega) p1)
    rw [bnd e1, wid (x := j + 1) (by omega) (by omega)]
    exact ih n o1 (j + 1) (by omega) (by omega) (by omega) h1 h2 (fun p p0 p1 => h3 p (by omega) p1)
theorem rd_replicate (n : Nat) (p : Int) (h0 : 0 ≤ p) (h1 : p < (n : Int)) : rd (List.replicate n ([] : List Int)) p = [] := by
  obtain ⟨h, e⟩ := rd_lt (xs := List.replicate n ([] : List Int)) h0 (by rw [List.length_replicate]; exact h1)
  rw [e, List.getElem_replicate]
theorem absent_l0 (k : Nat) (s : List Int) (v : Int) (hl : (s.length : Int) ≤ 100) (h : ¬ v ∈ s) : ∀ (d n : Nat) (i : Int), i + d = s.length → 0 ≤ i → d < n → slices_Index_int.l0 k s v n i = some (Sum.inr ()) := by
  intro d
  induction d with
  | zero =>
    intro n i hi i0 hn
    obtain ⟨n, rfl⟩ : ∃ q, n = q + 1 := ⟨n - 1, by omega⟩
    rw [slices_Index_int.l0, ifn (by omega)]
  | succ d ih =>
    intro n i hi i0 hn
    obtain ⟨n, rfl⟩ : ∃ q, n = q + 1 := ⟨n - 1, by omega⟩
    have hm := rd_mem i0 (show i < (s.length : Int) by omega)
    rw [slices_Index_int.l0, ifp (by omega), ifp i0, ifn (fun e => h (by rw [e]; exact hm)), wid (x := i + 1) (by omega) (by omega)]
    exact ih n (i + 1) (by omega) (by omega) (by omega)
theorem absent (k : Nat) (s : List Int) (v : Int) (hl : (s.length : Int) ≤ 100) (h : ¬ v ∈ s) (hk : 200 ≤ k) : slices_Contains_int k s v = some false := by
  unfold slices_Contains_int slices_Index_int
  rw [bnd (absent_l0 k s v hl h s.length k 0 (by omega) (by decide) (by omega))]
  rfl
theorem law_l1 (k : Nat) (L : List S_Cells) (C : List S_Bound) (T : List Int) (S : List (List Int)) (l : List Int) (w h m i : Int) (hF : Fields L w h m) (i0 : 0 ≤ i) (i1 : i < m) (m1 : m ≤ 100) (hl : (L.length : Int) ≤ 100) (hT : (T.length : Int) = m) (hS : S.length = L.length) (hR : Rows_ L C m S) (hM : May (rd C i) (rd T i)) (hk : 200 ≤ k) : ∀ (d n : Nat) (j : Int), j + d = L.length → 0 ≤ j → d < n → spykeep3_CleanHolds.l1 k L i T S l n j = some (Sum.inr ()) := by
  intro d
  induction d with
  | zero =>
    intro n j hj j0 hn
    obtain ⟨n, rfl⟩ : ∃ q, n = q + 1 := ⟨n - 1, by omega⟩
    rw [spykeep3_CleanHolds.l1, ifn (by omega)]
  | succ d ih =>
    intro n j hj j0 hn
    obtain ⟨n, rfl⟩ : ∃ q, n = q + 1 := ⟨n - 1, by omega⟩
    have hm := rd_mem j0 (show j < (L.length : Int) by omega)
    have hlen := hF.len _ hm
    obtain ⟨r, e1, e2⟩ := has_any k (rd (rd L j).At i) (rd T i) (hF.vb _ hm _ (rd_mem i0 (by omega))).1
    have hr := hR j j0 (by omega)
    rw [spykeep3_CleanHolds.l1, ifp (by omega), ifp j0, ifp (by omega), bnd e1, wid (x := j + 1) (by omega) (by omega)]
    by_cases c : r = true
    · rw [ifp c, ifp (by omega), bnd (absent k (rd S j) i (by omega) (fun hi => hr.2 i hi _ ⟨e2.mp c, hM⟩) hk), ifn (by decide)]
      exact ih n (j + 1) (by omega) (by omega) (by omega)
    · rw [ifn c]
      exact ih n (j + 1) (by omega) (by omega) (by omega)
theorem law_l0 (k : Nat) (L : List S_Cells) (C : S_Cells) (T : List Int) (S : List (List Int)) (l : List Int) (w h m : Int) (hF : Fields L w h m) (m1 : m ≤ 100) (hl : (L.length : Int) ≤ 100) (hT : (T.length : Int) = m) (hC : (C.At.length : Int) = m) (hS : S.length = L.length) (hR : Rows_ L C.At m S) (hM : ∀ i, 0 ≤ i → i < m → May (rd C.At i) (rd T i) ∧ Val (rd C.At i)) (hk : 200 ≤ k) : ∀ (d n : Nat) (i : Int), i + d = m → 0 ≤ i → d < n → spykeep3_CleanHolds.l0 k T C l L S n i = some (Sum.inr ()) := by
  intro d
  induction d with
  | zero =>
    intro n i hi i0 hn
    obtain ⟨n, rfl⟩ : ∃ q, n = q + 1 := ⟨n - 1, by omega⟩
    rw [spykeep3_CleanHolds.l0, ifn (by omega)]
  | succ d ih =>
    intro n i hi i0 hn
    obtain ⟨n, rfl⟩ : ∃ q, n = q + 1 := ⟨n - 1, by omega⟩
    obtain ⟨h1, h2⟩ := hM i i0 (by omega)
    obtain ⟨r, e1, e2⟩ := has_any k (rd C.At i) (rd T i) h2
    rw [spykeep3_CleanHolds.l0, ifp (by omega), ifp i0, ifp (by omega), bnd e1, ifn (fun g => g (e2.mpr h1)), bnd (law_l1 k L C.At T S l w h m i hF i0 (by omega) m1 hl hT hS hR h1 hk L.length k 0 (by omega) (by decide) (by omega))]
    dsimp only [Sum.elim_inr]
    rw [wid (x := i + 1) (by omega) (by omega)]
    exact ih n (i + 1) (by omega) (by omega) (by omega)
theorem law (k : Nat) (l : List Int) (f0_ : Int) (hk : 2100 ≤ k) : spykeep3_CleanHolds k l f0_ = some true := by
  unfold spykeep3_CleanHolds
  obtain ⟨f, h1, f0, f1⟩ := below_ex k f0_ 4 (by decide) (by decide)
  rw [bnd h1]
  obtain ⟨t, h2, t0, t1⟩ := next_ex k l 0 3 (by decide) (by decide) (by decide) (by decide)
  rw [bnd h2]; dsimp only
  rw [wid (x := 2 * f) (by omega) (by omega), wid (x := 2 * f + 1) (by omega) (by omega), wid (x := 2 * f + 1 + t) (by omega) (by omega), mn_def]
  obtain ⟨n, hn⟩ : ∃ n, n = min 8 (2 * f + 1 + t) := ⟨_, rfl⟩
  rw [← hn]
  obtain ⟨L, T, a', w, h, e, hL, w0, w1, y0, y1, m0, m1, hF, hT, hW⟩ := around_ex k l (0 + 1) n f (by decide) (by decide) (by omega) (by omega) f0 (by omega) (by omega) (by omega)
  rw [bnd e]; dsimp only
  have hcb := combine_eq k L w h f hF w0 w1 y0 y1 ⟨m0, m1⟩ (by omega) f0 (by omega) (by omega) hk
  have hlen := combL_len k L f (w * h).toNat 0
  have hM : ∀ i, 0 ≤ i → i < w * h → May (rd (combL k L f (w * h).toNat 0) i) (rd T i) ∧ Val (rd (combL k L f (w * h).toNat 0) i) := by
    intro i i0 i1
    rw [rd_combL k L f (w * h).toNat 0 i i0 (by omega), Int.zero_add]
    exact fused_may (col_vb hF i0 i1) (fz_ok k (col L i) f (col_vb hF i0 i1) (by unfold col; rw [List.length_map]; omega) f0 (by omega) hk).2 (hW i i0 i1)
  rw [bnd hcb]; dsimp only
  generalize combL k L f (w * h).toNat 0 = C at *
  obtain ⟨S, hS, hS1, hS2⟩ := struck_l0 k L ⟨w, h, C⟩ w h (w * h) hF (by omega) (by omega) (by dsimp only; omega) (fun i i0 i1 => (hM i i0 i1).2) (by omega) (by omega) L.length k (List.replicate L.length []) 0 (by omega) (by decide) (by omega) (by rw [List.length_replicate]) (fun p p0 p1 => by
    rw [rd_replicate _ p p0 p1]
    exact ⟨by rw [List.length_nil]; omega, fun y hy => by cases hy⟩) (fun p p0 p1 => rd_replicate _ p p0 p1)
  have hst : clean_Struck k L f = some (S, 0) := by
    unfold clean_Struck
    rw [bnd hcb]; dsimp only
    rw [ifn (by decide), ifp (by omega), ifp (by omega), Int.toNat_natCast, bnd hS]
  rw [bnd hst]; dsimp only
  rw [bnd (combined_eq k (by omega)), ifn (by decide), ifn (by decide), ifn (by decide), ifn (by omega), ifn (by omega), bnd (law_l0 k L ⟨w, h, C⟩ T S l w h (w * h) hF (by omega) (by omega) hT (by dsimp only; omega) hS1 hS2 hM (by omega) (w * h).toNat k 0 (by omega) (by decide) (by omega))]
  rfl
theorem law_ex (l : List Int) (f : Int) (_ : (Lit.int .i64 f).wf = true) : ∃ k, spykeep3_CleanHolds k l f = some true := ⟨2100, law 2100 l f (by decide)⟩

end Go.Sp.U4
