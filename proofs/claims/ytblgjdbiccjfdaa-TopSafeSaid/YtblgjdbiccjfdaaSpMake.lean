/- Making rows: literals, make, append, cuts. -/
import Derived.Test.YtblgjdbiccjfdaaSpRows
namespace Go.Sp
open Go Go.RowKit
set_option linter.unusedVariables false
section
variable {t w w' : World} {f g : FM} {H H' : List Seg} {s s' : Seg} {α β : Type} {e : Ty α} {P : Program} {a : Act} {o : Oper} {K : Value → World → Prop}
structure Inf (P : Program) (T : TypeId) (sz bytes : Nat) (z : Value) : Prop where
  info : ∃ i, P.info? T = some i ∧ i.size = sz ∧ i.bytes = bytes ∧ i.zero = some z
  cells : z.cells.size = sz
theorem Inf.mk' {T sz bytes : Nat} {z : Value} (h : (P.info? T).map (fun i => (i.size, i.bytes, i.zero)) = some (sz, bytes, some z)) (hc : z.cells.size = sz) : Inf P T sz bytes z := by
  refine ⟨?_, hc⟩
  cases hi : P.info? T with
  | none => rw [hi] at h; cases h
  | some i =>
    rw [hi] at h
    simp only [Option.map_some, Option.some.injEq, Prod.mk.injEq] at h
    exact ⟨i, rfl, h.1, h.2.1, h.2.2⟩
theorem Inf.size {T sz bytes : Nat} {z : Value} (h : Inf P T sz bytes z) : (P.info? T).map (·.size) = some sz := by
  obtain ⟨i, hi, h1, _⟩ := h.info
  rw [hi, ← h1]; rfl
def litCells (P : Program) (T len : Nat) (parts : Array (Nat × Value)) : Option (Array Value) :=
  match P.underlying T with
  | some (.slice E) =>
    match P.info? E with
    | some i =>
      match (if len * i.size = 0 then some #[] else i.zero.map (·.cells)) with
      | some z => if len * i.size > 2 ^ 24 then none else Instr.fill (fun j => some (j * i.size, i.size)) ((Array.range (len * i.size)).map (z[· % z.size]!)) parts.toList
      | none => none
    | none => none
  | _ => none
theorem run_buildSlice_lit {T E len : Nat} {parts : Array (Nat × Value)} {cs : Array Value} (hT : P.underlying T = some (.slice E)) (h : litCells P T len parts = some cs) (w : World) :
    (Instr.buildSlice T len parts).run P w = .ok (.slice (some ⟨w.heap.size, 0, none⟩) len len) (w.alloc (.cells cs E)) := by
  unfold litCells at h
  rw [hT] at h
  dsimp only at h
  cases hi : P.info? E with
  | none => rw [hi] at h; cases h
  | some i =>
    rw [hi] at h
    dsimp only at h
    have hs : (sizeOf E).run P w = .ok i.size w := run_sizeOf_of (by rw [hi]; rfl) w
    cases hz : (if len * i.size = 0 then some #[] else i.zero.map (·.cells)) with
    | none => rw [hz] at h; cases h
    | some z =>
      rw [hz] at h
      dsimp only at h
      by_cases hb : len * i.size > 2 ^ 24
      · rw [if_pos hb] at h; cases h
      · rw [if_neg hb] at h
        unfold Instr.buildSlice
        simp only [Sem.run_bind, run_underlying hT, Result.andThen_ok]
        simp only [Sem.run_bind, hs, Result.andThen_ok, if_neg hb, Sem.run_pure]
        by_cases h0 : len * i.size = 0
        · rw [if_pos h0] at hz ⊢; injection hz with hz; subst hz
          simp only [Sem.run_bind, Sem.run_pure, Result.andThen_ok]
          rw [h]
          simp [newRow, alloc_eq]
        · rw [if_neg h0] at hz ⊢
          cases hzz : i.zero with
          | none => rw [hzz] at hz; cases hz
          | some zz =>
            rw [hzz] at hz
            simp only [Option.map_some, Option.some.injEq] at hz
            subst hz
            have hzv : (zeroValue E).run P w = .ok zz w := by simp [zeroValue, typeInfo, hi, hzz]
            simp only [Sem.run_bind, hzv, Sem.run_pure, Result.andThen_ok]
            rw [h]
            simp [newRow, alloc_eq]
theorem does_lit {T E len : Nat} {parts : Array (Nat × Operand)} {vs : Array (Nat × Value)} {cs : Array Value} {xs : List α} (ho : o.op = .buildSlice T len parts) (hT : P.underlying T = some (.slice E))
    (hv : (parts.map fun p => (p.1, a.eval p.2)) = vs) (h : litCells P T len vs = some cs) (hr : Reps e f cs.toList xs) (hl : xs.length = len) (hS : St t w f H)
    (hK : ∀ b w' s, St t w' f (s :: H) → s = [(b, .cells cs E (0, 0))] → Own e E f (some ⟨b, 0, none⟩) len s xs → K (.slice (some ⟨b, 0, none⟩) len len) w') (hm : len ≤ maxLen) : Does P a w o K := by
  refine does_run (v := .slice (some ⟨w.heap.size, 0, none⟩) len len) (w' := w.alloc (.cells cs E)) ?_ (hK _ _ _ (hS.alloc _) rfl (.inr ⟨_, cs, rfl, ⟨_, noFz0, rfl⟩, by omega, hm, ?_, ?_⟩))
  · have e1 : (parts.map fun x => match x with | (i, x) => (i, a.eval x)) = vs := by rw [← hv]
    simp only [execOp, ho]
    rw [e1]
    simp [run_buildSlice_lit hT h w]
  · have := hr.length; rw [Array.length_toList, hl] at this; exact Nat.le_of_eq this.symm
  · rw [List.take_of_length_le (by rw [hr.length]; exact Nat.le_refl _)]; exact hr
theorem made_cells (z : Array Value) (n : Nat) (hz : 0 < z.size) : ((Array.range (n * z.size)).map (z[· % z.size]!)).toList = (List.replicate n z.toList).flatten := by
  apply List.ext_getElem?
  intro j
  induction n generalizing j with
  | zero => simp
  | succ n ih =>
    rw [List.replicate_succ, List.flatten_cons]
    rcases Nat.lt_or_ge j z.size with hj | hj
    · rw [List.getElem?_append_left (by simpa using hj)]
      have hlt : j < (n + 1) * z.size := by rw [Nat.add_mul]; omega
      simp [hlt, Nat.mod_eq_of_lt hj, hj]
    · rw [List.getElem?_append_right (by simpa using hj), Array.length_toList, ← ih]
      simp only [Array.toList_map, Array.toList_range, List.getElem?_map]
      rcases Nat.lt_or_ge j ((n + 1) * z.size) with h1 | h1
      · have h2 : j - z.size < n * z.size := by rw [Nat.add_mul] at h1; omega
        rw [List.getElem?_range h1, List.getElem?_range h2]
        simp only [Option.map_some]
        rw [← Nat.mod_eq_sub_mod hj]
      · have h2 : n * z.size ≤ j - z.size := by rw [Nat.add_mul] at h1; omega
        rw [List.getElem?_eq_none (by simpa using h1), List.getElem?_eq_none (by simpa using h2)]
theorem run_make_n {T E sz bytes : Nat} {z : Value} {k k' : IntKind} {n : Int} (hT : P.underlying T = some (.slice E)) (hI : Inf P E sz bytes z) (hsz : 0 < sz) (h0 : 0 ≤ n) (h1 : n * bytes ≤ 140737488355328) (h2 : n ≤ 9223372036854775807) (w : World) :
    ∃ cs : Array Value, cs.toList = (List.replicate n.toNat z.cells.toList).flatten ∧ cs.size = n.toNat * sz ∧
    (Instr.makeSlice T (.int k n) (.int k' n)).run P w = .ok (.slice (some ⟨w.heap.size, 0, none⟩) n.toNat n.toNat) (w.alloc (.cells cs E)) := by
  obtain ⟨i, hi, rfl, rfl, hz⟩ := hI.info
  have hc := hI.cells
  refine ⟨(Array.range (n.toNat * i.size)).map (z.cells[· % z.cells.size]!), ?_, by simp, ?_⟩
  · have := made_cells z.cells n.toNat (by omega)
    rw [hc] at this ⊢
    exact this
  · have hw : IntKind.i64.wrap n = n := w64_of (by omega) h2
    have hb : ¬ ((i.bytes : Int) * n > 2 ^ 48) := by rw [Int.mul_comm]; omega
    have hn : ¬ n < 0 := by omega
    unfold Instr.makeSlice
    simp only [Sem.run_bind, run_underlying hT, Result.andThen_ok, asInt, asIntOf, Sem.run_pure, typeInfo, run_program, hi, hw]
    simp only [hn, hb, decide_false, Bool.or_self, Bool.false_eq_true, Int.lt_irrefl, gt_iff_lt, if_false, run_askRoom, Sem.run_bind, Result.andThen_ok, Sem.run_pure]
    have hs : (sizeOf E).run P w = .ok i.size w := run_sizeOf_of (by rw [hi]; rfl) w
    have hzv : (zeroValue E).run P w = .ok z w := by simp [zeroValue, typeInfo, hi, hz]
    by_cases hq : n.toNat * i.size = 0
    · have hr0 : Array.range 0 = #[] := rfl
      simp [hs, hq, newRow, alloc_eq, hr0]
    · simp [hs, hq, hzv, newRow, alloc_eq]
theorem does_make {T E bytes : Nat} {x y : Operand} {z : Value} {k k' : IntKind} {n : Int} {u : α} (ho : o.op = .makeSlice T x y) (hx : a.eval x = .int k n) (hy : a.eval y = .int k' n) (hT : P.underlying T = some (.slice E))
    (hI : Inf P E e.sz bytes z) (h0 : 0 ≤ n) (h1 : n * bytes ≤ 140737488355328) (h2 : n ≤ 9223372036854775807) (hr : e.rep f z.cells.toList u) (hS : St t w f H)
    (hK : ∀ b w' s, St t w' f (s :: H) → Own e E f (some ⟨b, 0, none⟩) n.toNat s (List.replicate n.toNat u) → K (.slice (some ⟨b, 0, none⟩) (List.replicate n.toNat u).length n.toNat) w') : Does P a w o K := by
  obtain ⟨cs, hc1, hc2, hrun⟩ := run_make_n (k := k) (k' := k') hT hI e.pos h0 h1 h2 w
  refine does_run (w' := w.alloc (.cells cs E)) ?_ (hK _ _ _ (hS.alloc _) (.inr ⟨_, cs, rfl, ⟨_, noFz0, rfl⟩, by simp, ?_, Nat.le_of_eq hc2.symm, ?_⟩))
  · simp [execOp, ho, hx, hy, hrun, List.length_replicate]
  · unfold maxLen; omega
  · have hl : cs.toList.length = n.toNat * e.sz := by simpa using hc2
    rw [List.length_replicate, List.take_of_length_le (by omega), hc1]
    exact Reps.replicate hr _
def Rc (e : Ty α) (w : World) (f : FM) (A : Option Addr) (xs : List α) : Prop :=
  xs = [] ∨ ∃ b off cs, A = some ⟨b, off, none⟩ ∧ Reps e f cs xs ∧ ∀ j u, cs[j]? = some u → w.cell? ((⟨b, off, none⟩ : Addr).add j) = some u
theorem SlR.rc {A : Option Addr} {c : Nat} {xs : List α} (h : SlR e f A c xs) (hS : St t w f H) : Rc e w f A xs := by
  refine h.2.imp id ?_
  rintro ⟨b, off, arr, et, fr, cs, rfl, hb, hr, hc⟩
  refine ⟨b, off, cs, rfl, hr, fun j u hu => ?_⟩
  have hj : j < cs.length := by
    rcases Nat.lt_or_ge j cs.length with h | h
    · exact h
    · rw [List.getElem?_eq_none h] at hu; cases hu
  rw [add_plain, cell_of_row w b _ arr et fr (hS.fz b _ hb), hc j hj, hu]
theorem Own.rc {et : TypeId} {A : Option Addr} {c : Nat} {xs : List α} (h : Own e et f A c s xs) (hS : St t w f (s :: H)) : Rc e w f A xs := by
  rcases h with ⟨rfl, rfl, rfl, rfl⟩ | ⟨b, arr, rfl, ⟨fr, hfr, rfl⟩, h1, h2, h3, hr⟩
  · exact .inl rfl
  · refine .inr ⟨b, 0, _, rfl, hr, fun j u hu => ?_⟩
    rw [add_plain, cell_of_row w b _ arr et fr hS.blk, Nat.zero_add]
    rw [List.getElem?_take] at hu
    split at hu
    · rw [← Array.getElem?_toList]; exact hu
    · cases hu
theorem run_append_rows {T E bytes m c2 : Nat} {z : Value} {A B : Option Addr} {c : Nat} {xs ys : List α} (ty : TypeId) (hT : P.underlying T = some (.slice E)) (hI : Inf P E e.sz bytes z)
    (hO : Own e E f A c s xs) (hS : St t w f (s :: H)) (hR : Rc e w f B ys) (hm : m = ys.length) (hlim : (xs.length + ys.length) * bytes ≤ 140737488355328) (h63 : xs.length + ys.length ≤ maxLen) :
    ∃ A' c' s' w', (Builtin.append_ #[T, T] ty #[.slice A xs.length c, .slice B m c2]).run P w = .ok (.slice A' (xs ++ ys).length c') w' ∧ St t w' f (s' :: H) ∧ Own e E f A' c' s' (xs ++ ys) := by
  subst hm
  obtain ⟨i, hi, hsz, hby, hz⟩ := hI.info
  have hzs := hI.cells
  have hml : maxLen = 9223372036854775807 := by decide
  rw [hml] at h63
  have fresh : ∀ (old : Nat) (cells : List Value) (w1 : World), St t w1 f (s :: H) → Reps e f cells (xs ++ ys) →
      ∃ s', St t (w1.alloc (.cells (cells.toArray ++ Builtin.zeroCells z.cells (grownCap w (xs.length + ys.length) old E - (xs.length + ys.length))) E)) f (s' :: H) ∧
        Own e E f (some ⟨w1.heap.size, 0, none⟩) (grownCap w (xs.length + ys.length) old E) s' (xs ++ ys) := by
    intro old cells w1 hS1 hr
    have hge := grownCap_ge w (xs.length + ys.length) old E
    have hcm : grownCap w (xs.length + ys.length) old E ≤ maxLen := grownCap_le_maxLen w _ old E (by rw [hml]; omega)
    refine ⟨_, (hS1.drop.alloc _), .inr ⟨_, _, rfl, ⟨_, noFz0, rfl⟩, by rw [List.length_append]; exact hge, hcm, ?_, ?_⟩⟩
    · have hl := hr.length
      rw [List.length_append] at hl
      simp only [Array.size_append, List.size_toArray, size_zeroCells, hzs, hl, ← Nat.add_mul]
      exact Nat.mul_le_mul_right _ (by omega)
    · rw [← hr.length, Array.toList_append, List.take_left' rfl]
      exact hr
  by_cases hy : ys = []
  · subst hy
    have e0 : ∀ (w1 : World), (Builtin.firstCells e.sz 0 (.slice B 0 c2)).run P w1 = .ok #[] w1 := by
      intro w1
      cases B with
      | none => rfl
      | some b => simp [Builtin.firstCells, loadCells, loadCellsFrom]
    have hle : xs.length ≤ c := hO.le
    refine ⟨A, c, s, w, ?_, hS, by simpa using hO⟩
    have hs : (sizeOf E).run P w = .ok e.sz w := run_sizeOf_of hI.size w
    cases A with
    | none => simp [Builtin.append_, run_underlying hT, hs, Builtin.lenOf, hle, e0]
    | some b => simp [Builtin.append_, run_underlying hT, hs, Builtin.lenOf, hle, e0, storeCells]
  · rcases hR with h0 | ⟨b2, o2, ns, rfl, hr2, hcell⟩
    · exact absurd h0 hy
    have hyl : 0 < ys.length := List.length_pos_iff.mpr hy
    have hnl : ns.length = ys.length * i.size := by rw [hr2.length, hsz]
    rcases hO with ⟨rfl, rfl, rfl, rfl⟩ | ⟨b, arr, rfl, ⟨fr, hfr, rfl⟩, h1, h2, h3, hr⟩
    · have hrun := run_append_nil (P := P) w T ty E i z hT hi hz ⟨b2, o2, none⟩ ys.length c2 ns hnl hcell hyl (by simp at h63; omega) (by simp at hlim; rw [hby]; omega)
      obtain ⟨s', hS', hO'⟩ := fresh 0 ns w.drew hS.drew (by simpa using hr2)
      refine ⟨_, _, s', _, ?_, hS', hO'⟩
      simpa using hrun
    · by_cases hroom : xs.length + ys.length ≤ c
      · have hmul : (xs.length + ys.length) * e.sz ≤ c * e.sz := Nat.mul_le_mul_right _ hroom
        rw [Nat.add_mul] at hmul
        have hf := run_firstCells_some (P := P) w i.size ys.length ⟨b2, o2, none⟩ ys.length c2 ns hnl hcell
        obtain ⟨w', hst, hS'⟩ := run_storeCells_own P ns (xs.length * i.size) 0 arr w hfr hS (by rw [hr2.length, hsz]; omega) hr2.one
        refine ⟨_, _, _, w', ?_, hS', .inr ⟨b, _, rfl, ⟨fr, by rw [putCells_size]; exact hfr, rfl⟩, by rw [List.length_append]; exact hroom, h2, by rw [putCells_size]; exact h3, ?_⟩⟩
        · rw [List.length_append]
          simp [Builtin.append_, run_underlying hT, sizeOf, typeInfo, hi, Builtin.lenOf, hroom, hf, Addr.add_lit, hst]
        · have hlx : (arr.toList.take (xs.length * e.sz)).length = xs.length * e.sz := hr.length
          have e1 : (xs ++ ys).length * e.sz = (arr.toList.take (xs.length * i.size) ++ ns).length := by
            rw [List.length_append, Nat.add_mul, List.length_append, hr2.length, hsz, hlx]
          rw [putCells_eq _ _ _ (by rw [hr2.length, hsz]; omega), e1, Nat.add_zero]
          simp only [List.take_left' rfl, hsz]
          exact hr.append hr2
      · have hrx := hr
        have holds : ∀ j u, (arr.toList.take (xs.length * e.sz))[j]? = some u → w.cell? ((⟨b, 0, none⟩ : Addr).add j) = some u := by
          intro j u hu
          rw [add_plain, cell_of_row w b _ arr E fr hS.blk, Nat.zero_add]
          rw [List.getElem?_take] at hu
          split at hu
          · rw [← Array.getElem?_toList]; exact hu
          · cases hu
        have hrun := run_append_grow (P := P) w T ty E i z hT hi hz ⟨b, 0, none⟩ xs.length c (arr.toList.take (xs.length * e.sz)) (by rw [hr.length, hsz]) holds ⟨b2, o2, none⟩ ys.length c2 ns hnl hcell (by omega) (by omega) (by
          have := growslice_fits (need := xs.length + ys.length) (bytes := i.bytes) (old := c) (by omega) (by rw [hby]; exact hlim)
          exact this)
        obtain ⟨s', hS', hO'⟩ := fresh c (arr.toList.take (xs.length * e.sz) ++ ns) w.drew hS.drew (hr.append hr2)
        refine ⟨_, _, s', _, ?_, hS', hO'⟩
        rw [List.length_append]
        rw [hrun]
        simp
theorem does_append {T E bytes c2 : Nat} {x y : Operand} {z : Value} {A B : Option Addr} {c : Nat} {xs ys : List α} (ho : o.op = .call { callee := .builtin .append, args := #[x, y], argTypes := #[T, T] })
    (hx : a.eval x = .slice A xs.length c) (hy : a.eval y = .slice B ys.length c2) (hT : P.underlying T = some (.slice E)) (hI : Inf P E e.sz bytes z)
    (hO : Own e E f A c s xs) (hS : St t w f (s :: H)) (hR : Rc e w f B ys) (hlim : (xs.length + ys.length) * bytes ≤ 140737488355328) (h63 : xs.length + ys.length ≤ maxLen)
    (hK : ∀ A' c' s' w', St t w' f (s' :: H) → Own e E f A' c' s' (xs ++ ys) → K (.slice A' (xs ++ ys).length c') w') : Does P a w o K := by
  obtain ⟨A', c', s', w', hr, hS', hO'⟩ := run_append_rows (c2 := c2) (m := ys.length) o.type hT hI hO hS hR rfl hlim h63
  refine does_run (w' := w') ?_ (hK A' c' s' w' hS' hO')
  simp [execOp, ho, resolve, invoke, builtin, hx, hy]
  rw [hr]
  simp
theorem does_append1 {T E bytes c2 : Nat} {x y : Operand} {z : Value} {A B : Option Addr} {c : Nat} {xs ys : List α} {l : Seg} (ho : o.op = .call { callee := .builtin .append, args := #[x, y], argTypes := #[T, T] })
    (hx : a.eval x = .slice A xs.length c) (hy : a.eval y = .slice B ys.length c2) (hT : P.underlying T = some (.slice E)) (hI : Inf P E e.sz bytes z)
    (hO : Own e E f A c s xs) (hL : Own e E f B c2 l ys) (hS : St t w f (l :: s :: H)) (hlim : (xs.length + ys.length) * bytes ≤ 140737488355328) (h63 : xs.length + ys.length ≤ maxLen)
    (hK : ∀ A' c' s' w', St t w' f (s' :: H) → Own e E f A' c' s' (xs ++ ys) → K (.slice A' (xs ++ ys).length c') w') : Does P a w o K :=
  does_append ho hx hy hT hI hO hS.swap (hL.rc hS) hlim h63 fun A' c' s' w' hS' hO' => hK A' c' s' w' hS'.swap.drop hO'
theorem Own.take {E : TypeId} {A : Option Addr} {c : Nat} {xs : List α} (h : Own e E f A c s xs) (n : Nat) : Own e E f A c s (xs.take n) := by
  rcases h with ⟨rfl, rfl, rfl, rfl⟩ | ⟨b, arr, rfl, ⟨fr, hfr, rfl⟩, h1, h2, h3, hr⟩
  · simp; exact Own.nil _
  · rcases Nat.lt_or_ge xs.length n with hn | hn
    · rw [List.take_of_length_le (by omega)]; exact .inr ⟨b, arr, rfl, ⟨fr, hfr, rfl⟩, h1, h2, h3, hr⟩
    · refine .inr ⟨b, arr, rfl, ⟨fr, hfr, rfl⟩, Nat.le_trans (List.length_take_le' _ _) h1, h2, h3, ?_⟩
      have := (hr.split n hn).1
      rw [List.take_take, Nat.min_eq_left (Nat.mul_le_mul_right _ hn)] at this
      rw [List.length_take, Nat.min_eq_left hn]
      exact this
theorem run_cut {T E len cap : Nat} {A : Option Addr} {l h : Nat} (hT : P.underlying T = some (.slice E)) {sz : Nat} (hE : (P.info? E).map (·.size) = some sz) (lo hi : Option Value)
    (hl : (lo = none ∧ l = 0) ∨ ∃ k, lo = some (.int k (l : Int))) (hh : (hi = none ∧ h = len) ∨ ∃ k, hi = some (.int k (h : Int))) (h1 : l ≤ h) (h2 : h ≤ cap) (w : World) :
    (Instr.sliceAt T (.slice A len cap) lo hi none).run P w = .ok (.slice (if cap = l then A else A.map (·.add (l * sz))) (h - l) (cap - l)) w := by
  have hs : (sizeOf E).run P w = .ok sz w := run_sizeOf_of hE w
  have bound : ∀ (k : IntKind) (n y : Nat) (code : BoundsCode), n ≤ y → (Instr.sliceBound (.int k (n : Int)) y code).run P w = .ok n w := by
    intro k n y code hn
    simp [Instr.sliceBound, asIntOf, hn]
  rcases hl with ⟨rfl, rfl⟩ | ⟨k1, rfl⟩ <;> rcases hh with ⟨rfl, rfl⟩ | ⟨k2, rfl⟩ <;>
    simp [Instr.sliceAt, run_underlying hT, Instr.slice, Instr.sliceBounds, bound, h1, h2, hs]
theorem run_cutH {T E c : Nat} {x y : Operand} {A : Option Addr} {k : IntKind} {j : Int} {xs : List α} (ho : o.op = .slice T x none (some y) none) (hT : P.underlying T = some (.slice E)) (hE : (P.info? E).map (·.size) = some e.sz)
    (hx : a.eval x = .slice A xs.length c) (hy : a.eval y = .int k j) (h0 : 0 ≤ j) (h1 : j ≤ (xs.length : Int)) (hc : xs.length ≤ c) (w : World) : (execOp a.eval o).run P w = .ok (.value (.slice A (xs.take j.toNat).length c)) w := by
  have hr := run_cut (P := P) (len := xs.length) (cap := c) (A := A) (l := 0) (h := j.toNat) hT hE none (some (.int k j)) (.inl ⟨rfl, rfl⟩) (.inr ⟨k, by rw [Int.toNat_of_nonneg h0]⟩) (Nat.zero_le _) (by omega) w
  have hl : (xs.take j.toNat).length = j.toNat := by rw [List.length_take]; omega
  simp only [execOp, ho, hx, hy, Option.map_none, Option.map_some, Sem.run_bind, hr, Result.andThen_ok, Sem.run_pure, hl]
  rcases Nat.eq_zero_or_pos c with rfl | hp
  · simp
  · simp [Addr.add]
theorem does_cutLH {T E c : Nat} {x y z : Operand} {A : Option Addr} {k k' : IntKind} {i j : Int} {xs : List α} (ho : o.op = .slice T x (some y) (some z) none) (hT : P.underlying T = some (.slice E)) (hE : (P.info? E).map (·.size) = some e.sz)
    (hx : a.eval x = .slice A xs.length c) (hy : a.eval y = .int k i) (hz : a.eval z = .int k' j) (h0 : 0 ≤ i) (h1 : i ≤ j) (h2 : j ≤ (xs.length : Int)) (hR : SlR e f A c xs)
    (hK : ∀ A' c', SlR e f A' c' ((xs.take j.toNat).drop i.toNat) → K (.slice A' ((xs.take j.toNat).drop i.toNat).length c') w) : Does P a w o K := by
  have hc := hR.le
  have hr := run_cut (P := P) (len := xs.length) (cap := c) (A := A) (l := i.toNat) (h := j.toNat) hT hE (some (.int k i)) (some (.int k' j)) (.inr ⟨k, by rw [Int.toNat_of_nonneg h0]⟩) (.inr ⟨k', by rw [Int.toNat_of_nonneg (by omega)]⟩) (by omega) (by omega) w
  have hl : ((xs.take j.toNat).drop i.toNat).length = j.toNat - i.toNat := by rw [List.length_drop, List.length_take]; omega
  by_cases hlt : i.toNat = j.toNat
  · refine does_run (v := .slice (if c = i.toNat then A else A.map (·.add (i.toNat * e.sz))) (j.toNat - i.toNat) (c - i.toNat)) (w' := w) ?_ (by rw [← hl]; exact hK _ _ ⟨by rw [hl]; omega, .inl (List.eq_nil_of_length_eq_zero (by rw [hl]; omega))⟩)
    simp only [execOp, ho, hx, hy, hz, Option.map_none, Option.map_some, Sem.run_bind, hr, Result.andThen_ok, Sem.run_pure]
  · have hd := (hR.take j.toNat).drop i.toNat (by rw [List.length_take]; omega)
    have e1 : (if c = i.toNat then A else A.map (·.add (i.toNat * e.sz))) = (if c - i.toNat = c then A else A.map (·.add (i.toNat * e.sz))) := by
      by_cases hz : i.toNat = 0
      · rw [hz]; simp [Addr.add]
      · rw [if_neg (by omega), if_neg (by omega)]
    refine does_run (v := .slice (if c = i.toNat then A else A.map (·.add (i.toNat * e.sz))) (j.toNat - i.toNat) (c - i.toNat)) (w' := w) ?_ (by rw [← hl, e1]; exact hK _ _ hd)
    simp only [execOp, ho, hx, hy, hz, Option.map_none, Option.map_some, Sem.run_bind, hr, Result.andThen_ok, Sem.run_pure]
end
end Go.Sp
