/- A row of rows, all of the walk's own: the outer block and a block (or none) for each element. -/
import Derived.Test.YtjnehahcpeiheaaGreatDoorSpCopy
namespace Go.Sp
open Go Go.RowKit
set_option linter.unusedVariables false
variable {t w w' : World} {f g : FM} {H H' : List Seg} {s s' : Seg} {α : Type} {e : Ty α} {P : Program} {a : Act} {o : Oper} {K : Value → World → Prop}
/-- Element by element: the cell that holds the element's slice, and the element's own memory. -/
def Els (e : Ty α) (et : TypeId) (f : FM) : List Value → List Seg → List (List α) → Prop
  | [], [], [] => True
  | v :: vs, s :: ss, x :: xs => (∃ A c, v = .slice A x.length c ∧ Own e et f A c s x) ∧ Els e et f vs ss xs
  | _, _, _ => False
def OwnN (e : Ty α) (et ot : TypeId) (f : FM) (A : Option Addr) (c : Nat) (s : Seg) (xs : List (List α)) : Prop :=
  ∃ b arr ss, A = some ⟨b, 0, none⟩ ∧ s = (b, .cells arr ot (0, 0)) :: ss.flatten ∧ xs.length ≤ c ∧ c ≤ maxLen ∧ c ≤ arr.size ∧ Els e et f (arr.toList.take xs.length) ss xs
theorem Els.mono {et : TypeId} (hl : FM.le f g) : ∀ {vs : List Value} {ss : List Seg} {xs : List (List α)}, Els e et f vs ss xs → Els e et g vs ss xs
  | [], [], [], _ => trivial
  | _ :: _, _ :: _, _ :: _, ⟨⟨A, c, h1, h2⟩, h3⟩ => ⟨⟨A, c, h1, h2.mono hl⟩, Els.mono hl h3⟩
  | [], [], _ :: _, h => h.elim
  | [], _ :: _, _, h => h.elim
  | _ :: _, [], _, h => h.elim
  | _ :: _, _ :: _, [], h => h.elim
theorem OwnN.mono {et ot : TypeId} {A : Option Addr} {c : Nat} {xs : List (List α)} (h : OwnN e et ot f A c s xs) (hl : FM.le f g) : OwnN e et ot g A c s xs := by
  obtain ⟨b, arr, ss, h1, h2, h3, h4, h5, h6⟩ := h
  exact ⟨b, arr, ss, h1, h2, h3, h4, h5, h6.mono hl⟩
theorem OwnN.le {et ot : TypeId} {A : Option Addr} {c : Nat} {xs : List (List α)} (h : OwnN e et ot f A c s xs) : xs.length ≤ c := by
  obtain ⟨b, arr, ss, h1, h2, h3, _⟩ := h; exact h3
theorem Els.len {et : TypeId} : ∀ {vs : List Value} {ss : List Seg} {xs : List (List α)}, Els e et f vs ss xs → vs.length = xs.length ∧ ss.length = xs.length
  | [], [], [], _ => ⟨rfl, rfl⟩
  | _ :: _, _ :: _, _ :: _, ⟨_, h⟩ => ⟨congrArg (· + 1) h.len.1, congrArg (· + 1) h.len.2⟩
  | [], [], _ :: _, h => h.elim
  | [], _ :: _, _, h => h.elim
  | _ :: _, [], _, h => h.elim
  | _ :: _, _ :: _, [], h => h.elim
theorem Els.nils (e : Ty α) (et : TypeId) (f : FM) : ∀ n, Els e et f (List.replicate n (.slice none 0 0)) (List.replicate n []) (List.replicate n [])
  | 0 => trivial
  | n + 1 => ⟨⟨none, 0, rfl, Own.nil et⟩, Els.nils e et f n⟩
/-- One element stands alone. -/
theorem Els.at {et : TypeId} : ∀ {vs : List Value} {ss : List Seg} {xs : List (List α)} (i : Nat), Els e et f vs ss xs → (hi : i < xs.length) →
    ∃ A c s1, vs[i]? = some (.slice A xs[i].length c) ∧ ss[i]? = some s1 ∧ Own e et f A c s1 xs[i] ∧
      ∀ {g : FM} {A' : Option Addr} {c' : Nat} {s2 : Seg} {z : List α}, FM.le f g → Own e et g A' c' s2 z → Els e et g (vs.set i (.slice A' z.length c')) (ss.set i s2) (xs.set i z)
  | v :: vs, s :: ss, x :: xs, 0, ⟨⟨A, c, h1, h2⟩, h3⟩, _ => ⟨A, c, s, by rw [h1]; rfl, rfl, h2, fun hl h => ⟨⟨_, _, rfl, h⟩, h3.mono hl⟩⟩
  | v :: vs, s :: ss, x :: xs, i + 1, ⟨⟨A, c, h1, h2⟩, h3⟩, hi => by
    obtain ⟨A1, c1, s1, g1, g2, g3, g4⟩ := Els.at i h3 (by simpa using hi)
    exact ⟨A1, c1, s1, g1, g2, g3, fun hl h => ⟨⟨A, c, h1, h2.mono hl⟩, g4 hl h⟩⟩
  | [], [], [], _, _, hi => absurd hi (by simp)
  | [], [], _ :: _, _, h, _ => h.elim
  | [], _ :: _, _, _, h, _ => h.elim
  | _ :: _, [], _, _, h, _ => h.elim
  | _ :: _, _ :: _, [], _, h, _ => h.elim
theorem flatten_out : ∀ (ss : List Seg) (i : Nat) (s1 : Seg), ss[i]? = some s1 → ss.flatten.Perm (s1 ++ (ss.set i []).flatten)
  | [], _, _, h => by simp at h
  | s :: ss, 0, s1, h => by simp at h; subst h; simp
  | s :: ss, i + 1, s1, h => by
    have ih := flatten_out ss i s1 (by simpa using h)
    simp only [List.set_cons_succ, List.flatten_cons]
    exact (ih.append_left s).trans (by
      rw [← List.append_assoc, ← List.append_assoc]
      exact List.Perm.append_right _ List.perm_append_comm)
theorem flatten_in : ∀ (ss : List Seg) (i : Nat) (s1 : Seg), i < ss.length → (s1 ++ (ss.set i []).flatten).Perm (ss.set i s1).flatten
  | [], _, _, h => by simp at h
  | s :: ss, 0, s1, h => by simp
  | s :: ss, i + 1, s1, h => by
    have ih := flatten_in ss i s1 (by simpa using h)
    simp only [List.set_cons_succ, List.flatten_cons]
    refine List.Perm.trans ?_ (ih.append_left s)
    rw [← List.append_assoc, ← List.append_assoc]
    exact List.Perm.append_right _ List.perm_append_comm
/-- Element i stands alone: what is left, and how it comes back. -/
def Hole (e : Ty α) (et ot : TypeId) (f : FM) (A : Option Addr) (c : Nat) (s : Seg) (xs : List (List α)) (i : Nat) (b : Nat) (A1 : Option Addr) (c1 : Nat) : Prop :=
  ∃ (arr : Array Value) (ss : List Seg), A = some ⟨b, 0, none⟩ ∧ s = (b, .cells arr ot (0, 0)) :: (ss.set i []).flatten ∧ xs.length ≤ c ∧ c ≤ maxLen ∧ c ≤ arr.size ∧ i < xs.length ∧
    (∃ x, xs[i]? = some x ∧ arr[i]? = some (.slice A1 x.length c1)) ∧ ss.length = xs.length ∧
    ∀ {g : FM} {A' : Option Addr} {c' : Nat} {s2 : Seg} {z : List α}, FM.le f g → Own e et g A' c' s2 z → Els e et g ((arr.toList.take xs.length).set i (.slice A' z.length c')) (ss.set i s2) (xs.set i z)
theorem OwnN.open {et ot : TypeId} {A : Option Addr} {c : Nat} {xs : List (List α)} (h : OwnN e et ot f A c s xs) (hS : St t w f (s :: H)) {i : Int} (h0 : 0 ≤ i) (h1 : i < (xs.length : Int)) :
    ∃ b A1 c1 s1 s', A = some ⟨b, 0, none⟩ ∧ St t w f (s1 :: s' :: H) ∧ Own e et f A1 c1 s1 (rd xs i) ∧ Hole e et ot f A c s' xs i.toNat b A1 c1 := by
  obtain ⟨b, arr, ss, rfl, rfl, h3, h4, h5, h6⟩ := h
  obtain ⟨hl, er⟩ := rd_lt h0 h1
  obtain ⟨A1, c1, s1, g1, g2, g3, g4⟩ := h6.at i.toNat hl
  refine ⟨b, A1, c1, s1, _, rfl, ?_, by rw [er]; exact g3, arr, ss, rfl, rfl, h3, h4, h5, hl, ⟨_, List.getElem?_eq_getElem hl, ?_⟩, h6.len.2, g4⟩
  · refine hS.perm ?_
    simp only [flat_cons, List.cons_append]
    refine ((flatten_out ss i.toNat s1 g2).append_right (flat H) |>.cons _).trans ?_
    rw [List.append_assoc]
    exact List.perm_middle.symm
  · rw [List.getElem?_take, if_pos hl, Array.getElem?_toList] at g1
    exact g1
theorem Hole.cell {et ot : TypeId} {A A1 : Option Addr} {c c1 b : Nat} {xs : List (List α)} {i : Int} (h : Hole e et ot f A c s xs i.toNat b A1 c1) (h0 : 0 ≤ i) (h1 : i < (xs.length : Int)) {t w : World} {g : FM} {H : List Seg} (hS : St t w g (s :: H)) :
    ∀ j, j < 1 → w.cell? ⟨b, 0 + i.toNat * 1 + j, none⟩ = [Value.slice A1 (rd xs i).length c1][j]? := by
  intro j hj
  obtain rfl : j = 0 := by omega
  obtain ⟨arr, ss, rfl, rfl, h3, h4, h5, hl, ⟨x, hx, ha⟩, _⟩ := h
  obtain ⟨_, er⟩ := rd_lt h0 h1
  have hb := (hS.front (p := (b, .cells arr ot (0, 0))) List.mem_cons_self).1
  rw [cell_of_row w b _ arr ot (0, 0) hb, Nat.zero_add, Nat.mul_one, Nat.add_zero, ha]
  rw [List.getElem?_eq_getElem hl] at hx
  injection hx with hx
  rw [er, ← hx]
  rfl
theorem does_putN {T ot et : Nat} {x y : Operand} {A A1 A' : Option Addr} {b c c1 c' : Nat} {s2 : Seg} {xs : List (List α)} {z : List α} {i : Int} (ho : o.op = .store T x y) (hn : (P.info? T).map (·.size) = some 1)
    (hO : Hole e et ot f A c s xs i.toNat b A1 c1) (hz : Own e et f A' c' s2 z) (hS : St t w f (s2 :: s :: H)) (hx : a.eval x = .pointer (some ⟨b, 0 + i.toNat * 1, none⟩)) (hy : a.eval y = .slice A' z.length c')
    (h0 : 0 ≤ i) (h1 : i < (xs.length : Int)) (hK : ∀ w' s', St t w' f (s' :: H) → OwnN e et ot f A c s' (xs.set i.toNat z) → K undef w') : Does P a w o K := by
  obtain ⟨arr, ss, rfl, rfl, h3, h4, h5, hl, _, hlen, hput⟩ := hO
  have hS' : St t w f ([(b, .cells arr ot (0, 0))] :: s2 :: (ss.set i.toNat []).flatten :: H) := by
    refine hS.perm ?_
    simp only [flat_cons, List.cons_append, List.nil_append]
    exact List.perm_middle
  rw [Nat.zero_add, Nat.mul_one] at hx
  refine does_store (n := 1) (vs := [.slice A' z.length c']) (cs := arr) (cs' := _) ho hn hx hy rfl rfl (by intro u hu; simp at hu; subst hu; rfl) hS' (by omega) rfl ?_
  intro w' hS2
  refine hK w' ((b, .cells (putCells arr i.toNat [Value.slice A' z.length c']) ot (0, 0)) :: (ss.set i.toNat s2).flatten) ?_ ⟨b, putCells arr i.toNat [Value.slice A' z.length c'], ss.set i.toNat s2, rfl, rfl, by simpa using h3, h4, by rw [putCells_size]; exact h5, ?_⟩
  · refine hS2.perm ?_
    simp only [flat_cons, List.cons_append, List.nil_append]
    rw [← List.append_assoc]
    exact ((flatten_in ss i.toNat s2 (by omega)).append_right (flat H)).cons _
  · rw [List.length_set, putCells_eq _ _ _ (by simp; omega)]
    have := hput (FM.le.refl f) hz
    have e1 : ((arr.toList.take i.toNat ++ [Value.slice A' z.length c'] ++ arr.toList.drop (i.toNat + [Value.slice A' z.length c'].length)).toArray.toList.take xs.length) = (arr.toList.take xs.length).set i.toNat (.slice A' z.length c') := by
      show List.take xs.length (arr.toList.take i.toNat ++ [Value.slice A' z.length c'] ++ arr.toList.drop (i.toNat + 1)) = _
      rw [← List.take_set, List.set_eq_take_append_cons_drop, if_pos (by simp; omega)]
      simp
    rw [e1]
    exact this
theorem Els.freeze {et : TypeId} : ∀ {vs : List Value} {ss : List Seg} {xs : List (List α)} {f : FM}, Els e et f vs ss xs → St t w f (ss ++ H) → ∃ g, FM.le f g ∧ St t w g H ∧ Reps (tSl e) g vs xs
  | [], [], [], f, _, hS => ⟨f, FM.le.refl f, hS, by simp [Reps]⟩
  | v :: vs, s :: ss, x :: xs, f, ⟨⟨A, c, h1, h2⟩, h3⟩, hS => by
    obtain ⟨g1, l1, hS1, r1⟩ := h2.freeze hS
    obtain ⟨g2, l2, hS2, r2⟩ := Els.freeze (h3.mono l1) hS1
    exact ⟨g2, l1.trans l2, hS2, [v], vs, rfl, ⟨A, c, by rw [h1], r1.mono l2⟩, r2⟩
  | [], [], _ :: _, _, h, _ => h.elim
  | [], _ :: _, _, _, h, _ => h.elim
  | _ :: _, [], _, _, h, _ => h.elim
  | _ :: _, _ :: _, [], _, h, _ => h.elim
theorem OwnN.freeze {et ot : TypeId} {A : Option Addr} {c : Nat} {xs : List (List α)} (h : OwnN e et ot f A c s xs) (hS : St t w f (s :: H)) : ∃ g, FM.le f g ∧ St t w g H ∧ SlR (tSl e) g A c xs := by
  obtain ⟨b, arr, ss, rfl, rfl, h3, h4, h5, h6⟩ := h
  have hS' : St t w f (ss ++ ([(b, .cells arr ot (0, 0))] :: H)) := by
    refine hS.perm ?_
    simp only [flat, List.flatten_append, List.flatten_cons, List.cons_append, List.nil_append]
    exact List.perm_middle.symm
  obtain ⟨g, l, hS2, r⟩ := h6.freeze hS'
  have hO : Own (tSl e) ot g (some ⟨b, 0, none⟩) c [(b, .cells arr ot (0, 0))] xs := .inr ⟨b, arr, rfl, ⟨_, noFz0, rfl⟩, h3, h4, by show c * 1 ≤ _; omega, by show Reps _ _ (List.take (xs.length * 1) _) _; rw [Nat.mul_one]; exact r⟩
  obtain ⟨g', l', hS3, r'⟩ := hO.freeze hS2
  exact ⟨g', l.trans l', hS3, r'⟩
theorem does_makeN {T E et bytes : Nat} {x y : Operand} {k k' : IntKind} {n : Int} (ho : o.op = .makeSlice T x y) (hx : a.eval x = .int k n) (hy : a.eval y = .int k' n) (hT : P.underlying T = some (.slice E))
    (hI : Inf P E 1 bytes (.slice none 0 0)) (h0 : 0 ≤ n) (h1 : n * bytes ≤ 140737488355328) (h2 : n ≤ 9223372036854775807) (hS : St t w f H)
    (hK : ∀ b w' s, St t w' f (s :: H) → OwnN e et E f (some ⟨b, 0, none⟩) n.toNat s (List.replicate n.toNat ([] : List α)) → K (.slice (some ⟨b, 0, none⟩) (List.replicate n.toNat ([] : List α)).length n.toNat) w') : Does P a w o K := by
  obtain ⟨cs, hc1, hc2, hrun⟩ := run_make_n (k := k) (k' := k') hT hI (by decide) h0 h1 h2 w
  have hfl : ∀ (m : Nat), (List.replicate m ([] : Seg)).flatten = [] := by intro m; induction m with
    | zero => rfl
    | succ m ih => rw [List.replicate_succ, List.flatten_cons, ih]; rfl
  refine does_run (w' := w.alloc (.cells cs E)) ?_ (hK _ _ _ (hS.alloc _) ⟨_, cs, List.replicate n.toNat [], rfl, by rw [hfl], by simp, ?_, by omega, ?_⟩)
  · simp [execOp, ho, hx, hy, hrun, List.length_replicate]
  · unfold maxLen; omega
  · have hl : cs.toList.length = n.toNat * 1 := by simpa using hc2
    rw [List.length_replicate, List.take_of_length_le (by omega), hc1]
    have hv : ∀ (m : Nat), (List.replicate m (Value.slice none 0 0).cells.toList).flatten = List.replicate m (Value.slice none 0 0) := by intro m; induction m with
      | zero => rfl
      | succ m ih => rw [List.replicate_succ, List.flatten_cons, ih, List.replicate_succ]; rfl
    rw [hv]
    exact Els.nils e et f _
end Go.Sp
