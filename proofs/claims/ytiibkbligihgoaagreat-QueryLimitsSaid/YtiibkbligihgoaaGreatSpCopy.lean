/- Views (a row of one's own from a place on), copy and clear. -/
import Derived.Test.YtiibkbligihgoaaGreatSpThree
namespace Go.Sp
open Go Go.RowKit
set_option linter.unusedVariables false
/-- Where a view begins. -/
def cutA (A : Option Addr) (c n sz : Nat) : Option Addr := if c = n then A else A.map (·.add (n * sz))
/-- ys over xs, from place n on. -/
def cpy {α : Type} (xs : List α) (n : Nat) (ys : List α) : List α := xs.take n ++ ys.take (xs.length - n) ++ xs.drop (n + min ys.length (xs.length - n))
theorem cpy_length {α : Type} {xs ys : List α} {n : Nat} (h : n ≤ xs.length) : (cpy xs n ys).length = xs.length := by
  unfold cpy
  simp only [List.length_append, List.length_take, List.length_drop]
  omega
theorem cpy_len0 {α : Type} {xs ys : List α} : (cpy xs 0 ys).length = xs.length := cpy_length (Nat.zero_le _)
theorem cpy_lenI {α : Type} {xs ys : List α} {i : Int} (h0 : 0 ≤ i) (h : i ≤ (xs.length : Int)) : (cpy xs i.toNat ys).length = xs.length := cpy_length (by omega)
/-- xs, from place n on z. -/
def clr {α : Type} (xs : List α) (n : Nat) (z : α) : List α := xs.take n ++ List.replicate (xs.length - n) z
theorem clr_lenI {α : Type} {xs : List α} {i : Int} {z : α} (h0 : 0 ≤ i) (h : i ≤ (xs.length : Int)) : (clr xs i.toNat z).length = xs.length := by
  unfold clr
  simp only [List.length_append, List.length_take, List.length_replicate]
  omega
section
variable {t w w' : World} {f g : FM} {H H' : List Seg} {s s' : Seg} {α β : Type} {e : Ty α} {P : Program} {a : Act} {o : Oper} {K : Value → World → Prop}
theorem SlR.nil_eq {c : Nat} {xs : List α} (h : SlR e f none c xs) : xs = [] := by
  rcases h.2 with h | ⟨b, off, arr, et, fr, cs, h, _⟩
  · exact h
  · cases h
theorem run_indexE {T E sz : Nat} {x ix : Operand} {b off n c : Nat} {k : IntKind} {i : Int} {A : Option Addr} (hA : A = some ⟨b, off, none⟩) (ho : o.op = .indexAddr T x ix) (hT : P.underlying T = some (.slice E)) (hE : (P.info? E).map (·.size) = some sz)
    (hx : a.eval x = .slice A n c) (hi : a.eval ix = .int k i) (h0 : 0 ≤ i) (h1 : i < (n : Int)) (w : World) : (execOp a.eval o).run P w = .ok (.value (.pointer (some ⟨b, off + i.toNat * sz, none⟩))) w :=
  run_index ho hT hE (by rw [hx, hA]) hi h0 h1 w
theorem Reps.splice {cs ds : List Value} {xs zs : List α} (h : Reps e f cs xs) (hd : Reps e f ds zs) (n : Nat) (hn : n + zs.length ≤ xs.length) :
    Reps e f (cs.take (n * e.sz) ++ ds ++ cs.drop (n * e.sz + ds.length)) (xs.take n ++ zs ++ xs.drop (n + zs.length)) := by
  have h1 := (h.split n (by omega)).1
  have h2 := (h.split (n + zs.length) hn).2
  rw [Nat.add_mul, ← hd.length] at h2
  exact (h1.append hd).append h2
theorem run_cutV {T E c : Nat} {x y : Operand} {A : Option Addr} {k : IntKind} {i : Int} {xs : List α} (ho : o.op = .slice T x (some y) none none) (hT : P.underlying T = some (.slice E)) (hE : (P.info? E).map (·.size) = some e.sz)
    (hx : a.eval x = .slice A xs.length c) (hy : a.eval y = .int k i) (h0 : 0 ≤ i) (h1 : i ≤ (xs.length : Int)) (hc : xs.length ≤ c) (w : World) :
    (execOp a.eval o).run P w = .ok (.value (.slice (cutA A c i.toNat e.sz) (xs.drop i.toNat).length (c - i.toNat))) w := by
  have hr := run_cut (P := P) (len := xs.length) (cap := c) (A := A) (l := i.toNat) (h := xs.length) hT hE (some (.int k i)) none (.inr ⟨k, by rw [Int.toNat_of_nonneg h0]⟩) (.inl ⟨rfl, rfl⟩) (by omega) hc w
  simp only [execOp, ho, hx, hy, Option.map_none, Option.map_some, Sem.run_bind, hr, Result.andThen_ok, Sem.run_pure, List.length_drop, cutA]
/-- A view of a row that stays. -/
theorem SlR.view {A : Option Addr} {c n : Nat} {xs : List α} (h : SlR e f A c xs) (hn : n ≤ xs.length) : SlR e f (cutA A c n e.sz) (c - n) (xs.drop n) := by
  by_cases hlt : n = xs.length
  · refine ⟨by rw [List.length_drop]; have := h.1; omega, .inl (by rw [hlt, List.drop_length])⟩
  · have hd := h.drop n hn
    have e1 : cutA A c n e.sz = (if c - n = c then A else A.map (·.add (n * e.sz))) := by
      unfold cutA
      have hc := h.1
      by_cases hz : n = 0
      · rw [hz]; simp [Addr.add]
      · rw [if_neg (by omega), if_neg (by omega)]
    rw [e1]; exact hd
theorem copy_core {T T2 E m dl dc c2 : Nat} {A D B : Option Addr} {c n : Nat} {xs ys : List α} (ty : TypeId) (hT : P.underlying T = some (.slice E)) (hE : (P.info? E).map (·.size) = some e.sz)
    (hO : Own e E f A c s xs) (hS : St t w f (s :: H)) (hn : n ≤ xs.length) (hdl : dl = xs.length - n) (hD : D = cutA A c n e.sz) (hR : Rc e w f B ys) (hm : m = ys.length) :
    ∃ s' w', (Builtin.copy_ #[T, T2] ty #[.slice D dl dc, .slice B m c2]).run P w = .ok (.int .i64 ((min ys.length (xs.length - n) : Nat) : Int)) w' ∧ St t w' f (s' :: H) ∧ Own e E f A c s' (cpy xs n ys) := by
  subst hm hdl hD
  have hs : (sizeOf E).run P w = .ok e.sz w := run_sizeOf_of hE w
  obtain ⟨q, hq⟩ : ∃ q, q = min ys.length (xs.length - n) := ⟨_, rfl⟩
  rcases Nat.eq_zero_or_pos q with h0 | hp
  · have ecpy : cpy xs n ys = xs := by
      unfold cpy
      rw [← hq, h0, Nat.add_zero]
      have : ys.take (xs.length - n) = [] := by
        apply List.eq_nil_of_length_eq_zero
        rw [List.length_take]; omega
      rw [this, List.append_nil, List.take_append_drop]
    refine ⟨s, w, ?_, hS, (by rw [ecpy]; exact hO)⟩
    rw [← hq, h0]
    have hq' : Nat.min ys.length (xs.length - n) = 0 := by rw [← h0, hq]
    cases B with
    | none => cases hDD : cutA A c n e.sz <;> simp [Builtin.copy_, run_underlying hT, Builtin.lenOf, hs, Builtin.firstCells, hq', goInt, storeCells]
    | some b => cases hDD : cutA A c n e.sz <;> simp [Builtin.copy_, run_underlying hT, Builtin.lenOf, hs, Builtin.firstCells, hq', goInt, storeCells, loadCells, loadCellsFrom]
  · rcases hR with hy | ⟨b2, o2, ns, rfl, hr2, hcell⟩
    · rw [hy] at hq; simp at hq <;> omega
    rcases hO with ⟨rfl, rfl, rfl, rfl⟩ | ⟨b, arr, rfl, ⟨fr, hfr, rfl⟩, h1, h2, h3, hr⟩
    · simp at hq <;> omega
    have hDe : cutA (some ⟨b, 0, none⟩) c n e.sz = some ⟨b, n * e.sz, none⟩ := by
      unfold cutA
      rw [if_neg (by omega), Option.map_some, add_plain, Nat.zero_add]
    have hzl : (ys.take q).length = q := by rw [List.length_take]; omega
    have hr3 : Reps e f (ns.take (q * e.sz)) (ys.take q) := (hr2.split q (by omega)).1
    have hvl : (ns.take (q * e.sz)).length = q * e.sz := by rw [hr3.length, hzl]
    have hload : (loadCells ⟨b2, o2, none⟩ (q * e.sz)).run P w = .ok (ns.take (q * e.sz)).toArray w := by
      have := run_loadCells_list (P := P) w ⟨b2, o2, none⟩ (ns.take (q * e.sz)) (fun j v hv => hcell j v (by
        rw [List.getElem?_take] at hv
        split at hv
        · exact hv
        · cases hv))
      rw [hvl] at this
      exact this
    have m1 : (n + q) * e.sz ≤ xs.length * e.sz := Nat.mul_le_mul_right _ (by omega)
    have m2 : xs.length * e.sz ≤ c * e.sz := Nat.mul_le_mul_right _ h1
    rw [Nat.add_mul] at m1
    obtain ⟨w', hst, hS'⟩ := run_storeCells_own P (ns.take (q * e.sz)) (n * e.sz) 0 arr w hfr hS (by rw [hvl]; omega) hr3.one
    rw [Nat.add_zero] at hS'
    refine ⟨_, w', ?_, hS', .inr ⟨b, _, rfl, ⟨fr, by rw [putCells_size]; exact hfr, rfl⟩, ?_, h2, by rw [putCells_size]; exact h3, ?_⟩⟩
    · rw [hDe, ← hq]
      have hq' : Nat.min ys.length (xs.length - n) = q := hq.symm
      simp [Builtin.copy_, run_underlying hT, Builtin.lenOf, hs, Builtin.firstCells, hq', goInt, hload, hst]
    · rw [cpy_length hn]; exact h1
    · rw [cpy_length hn, putCells_eq _ _ _ (by rw [hvl]; omega)]
      have hsp := hr.splice hr3 n (by rw [hzl]; omega)
      rw [hzl] at hsp
      have ex : cpy xs n ys = xs.take n ++ ys.take q ++ xs.drop (n + q) := by
        unfold cpy
        rw [← hq]
        congr 2
        rcases Nat.le_total ys.length (xs.length - n) with g | g
        · rw [List.take_of_length_le g, List.take_of_length_le (by omega)]
        · rw [show q = xs.length - n by omega]
      rw [ex]
      have e1 : ((arr.toList.take (n * e.sz) ++ ns.take (q * e.sz) ++ arr.toList.drop (n * e.sz + (ns.take (q * e.sz)).length)).toArray.toList.take (xs.length * e.sz)) =
          (arr.toList.take (xs.length * e.sz)).take (n * e.sz) ++ ns.take (q * e.sz) ++ (arr.toList.take (xs.length * e.sz)).drop (n * e.sz + (ns.take (q * e.sz)).length) := by
        simp only [hvl]
        have la : arr.toList.length = arr.size := by simp
        have l1 : (arr.toList.take (n * e.sz) ++ ns.take (q * e.sz)).length = n * e.sz + q * e.sz := by rw [List.length_append, hvl, List.length_take, la]; omega
        rw [List.take_append, l1, List.take_of_length_le (by omega)]
        rw [List.take_take, Nat.min_eq_left (by omega), List.drop_take]
      rw [e1]
      exact hsp
/-- copy(xs[n:], ys) -/
theorem does_copy {T T2 E dc c2 : Nat} {x y : Operand} {A D B : Option Addr} {c n : Nat} {xs ys : List α} (ho : o.op = .call { callee := .builtin .copy, args := #[x, y], argTypes := #[T, T2] }) (hT : P.underlying T = some (.slice E)) (hE : (P.info? E).map (·.size) = some e.sz)
    (hx : a.eval x = .slice D (xs.drop n).length dc) (hy : a.eval y = .slice B ys.length c2) (hD : D = cutA A c n e.sz) (hn : n ≤ xs.length)
    (hO : Own e E f A c s xs) (hS : St t w f (s :: H)) (hR : Rc e w f B ys)
    (hK : ∀ w' s', St t w' f (s' :: H) → Own e E f A c s' (cpy xs n ys) → K (.int .i64 ((min ys.length (xs.length - n) : Nat) : Int)) w') : Does P a w o K := by
  obtain ⟨s', w', hr, hS', hO'⟩ := copy_core (T2 := T2) (dl := (xs.drop n).length) (dc := dc) (c2 := c2) o.type hT hE hO hS hn (by rw [List.length_drop]) hD hR rfl
  refine does_run (w' := w') ?_ (hK w' s' hS' hO')
  simp [execOp, ho, resolve, invoke, builtin, hx, hy]
  rw [List.length_drop] at hr
  rw [hr]
  simp
theorem cutA_zero {E : TypeId} {A : Option Addr} {c sz : Nat} {xs : List α} (h : Own e E f A c s xs) : A = cutA A c 0 sz := by
  unfold cutA
  rcases h with ⟨rfl, _⟩ | ⟨b, arr, rfl, _⟩
  · simp
  · split
    · rfl
    · rw [Option.map_some, add_plain, Nat.zero_mul]
/-- copy(xs, ys) -/
theorem does_copy0 {T T2 E dc c2 : Nat} {x y : Operand} {A B : Option Addr} {c : Nat} {xs ys : List α} (ho : o.op = .call { callee := .builtin .copy, args := #[x, y], argTypes := #[T, T2] }) (hT : P.underlying T = some (.slice E)) (hE : (P.info? E).map (·.size) = some e.sz)
    (hx : a.eval x = .slice A xs.length dc) (hy : a.eval y = .slice B ys.length c2)
    (hO : Own e E f A c s xs) (hS : St t w f (s :: H)) (hR : Rc e w f B ys)
    (hK : ∀ w' s', St t w' f (s' :: H) → Own e E f A c s' (cpy xs 0 ys) → K (.int .i64 ((min ys.length (xs.length - 0) : Nat) : Int)) w') : Does P a w o K :=
  does_copy (n := 0) (D := A) ho hT hE hx hy (cutA_zero hO) (Nat.zero_le _) hO hS hR hK
theorem zeroCells_list (z : Array Value) (n : Nat) (hz : 0 < z.size) : (Builtin.zeroCells z n).toList = (List.replicate n z.toList).flatten := by
  unfold Builtin.zeroCells
  exact made_cells z n hz
/-- clear(xs[n:]) -/
theorem does_clear {T E dc bytes : Nat} {x : Operand} {A D : Option Addr} {c n : Nat} {xs : List α} {z : Value} {u : α} (ho : o.op = .call { callee := .builtin .clear, args := #[x], argTypes := #[T] }) (hT : P.underlying T = some (.slice E)) (hI : Inf P E e.sz bytes z)
    (hx : a.eval x = .slice D (xs.drop n).length dc) (hD : D = cutA A c n e.sz) (hn : n ≤ xs.length) (hz : e.rep f z.cells.toList u)
    (hO : Own e E f A c s xs) (hS : St t w f (s :: H))
    (hK : ∀ w' s', St t w' f (s' :: H) → Own e E f A c s' (clr xs n u) → K (.tuple #[]) w') : Does P a w o K := by
  unfold clr at hK
  obtain ⟨i, hi, hsz, hby, hzz⟩ := hI.info
  have hzv : (zeroValue E).run P w = .ok z w := by simp [zeroValue, typeInfo, hi, hzz]
  have hcz := hI.cells
  have hlen : (xs.drop n).length = xs.length - n := List.length_drop
  rw [hlen] at hx
  rcases Nat.eq_zero_or_pos (xs.length - n) with h0 | hp
  · have ex : xs.take n ++ List.replicate (xs.length - n) u = xs := by
      rw [h0, List.replicate_zero, List.append_nil, List.take_of_length_le (by omega)]
    refine does_run (w' := w) ?_ (hK w s hS (by rw [ex]; exact hO))
    rw [h0] at hx
    subst hD
    cases hDD : cutA A c n e.sz with
    | none => rw [hDD] at hx; simp [execOp, ho, resolve, invoke, builtin, hx, Builtin.clear_, run_underlying hT]
    | some b => rw [hDD] at hx; simp [execOp, ho, resolve, invoke, builtin, hx, Builtin.clear_, run_underlying hT]
  · rcases hO with ⟨rfl, rfl, rfl, rfl⟩ | ⟨b, arr, rfl, ⟨fr, hfr, rfl⟩, h1, h2, h3, hr⟩
    · simp at hp
    have hDe : D = some ⟨b, n * e.sz, none⟩ := by
      rw [hD]; unfold cutA
      rw [if_neg (by omega), Option.map_some, add_plain, Nat.zero_add]
    obtain ⟨q, hq⟩ : ∃ q, q = xs.length - n := ⟨_, rfl⟩
    rw [← hq] at hx hp
    have hr3 : Reps e f (Builtin.zeroCells z.cells q).toList (List.replicate q u) := by
      rw [zeroCells_list _ _ (by rw [hcz]; exact e.pos)]
      exact Reps.replicate hz q
    have hvl : (Builtin.zeroCells z.cells q).toList.length = q * e.sz := by rw [hr3.length, List.length_replicate]
    have m1 : (n + q) * e.sz ≤ xs.length * e.sz := Nat.mul_le_mul_right _ (by omega)
    have m2 : xs.length * e.sz ≤ c * e.sz := Nat.mul_le_mul_right _ h1
    rw [Nat.add_mul] at m1
    obtain ⟨w', hst, hS'⟩ := run_storeCells_own P (Builtin.zeroCells z.cells q).toList (n * e.sz) 0 arr w hfr hS (by rw [hvl]; omega) hr3.one
    rw [Nat.add_zero] at hS'
    have hO' : Own e E f (some ⟨b, 0, none⟩) c [(b, .cells (putCells arr (n * e.sz) (Builtin.zeroCells z.cells q).toList) E fr)] (xs.take n ++ List.replicate (xs.length - n) u) := by
      have hll : (xs.take n ++ List.replicate (xs.length - n) u).length = xs.length := by simp; omega
      refine .inr ⟨b, _, rfl, ⟨fr, by rw [putCells_size]; exact hfr, rfl⟩, by rw [hll]; exact h1, h2, by rw [putCells_size]; exact h3, ?_⟩
      rw [hll, putCells_eq _ _ _ (by rw [hvl]; omega)]
      have hsp := hr.splice hr3 n (by rw [List.length_replicate]; omega)
      rw [List.length_replicate, show n + q = xs.length by omega, List.drop_length, List.append_nil, hq] at hsp
      rw [hq] at hvl ⊢
      have e1 : ((arr.toList.take (n * e.sz) ++ (Builtin.zeroCells z.cells (xs.length - n)).toList ++ arr.toList.drop (n * e.sz + (Builtin.zeroCells z.cells (xs.length - n)).toList.length)).toArray.toList.take (xs.length * e.sz)) =
          (arr.toList.take (xs.length * e.sz)).take (n * e.sz) ++ (Builtin.zeroCells z.cells (xs.length - n)).toList ++ (arr.toList.take (xs.length * e.sz)).drop (n * e.sz + (Builtin.zeroCells z.cells (xs.length - n)).toList.length) := by
        simp only [hvl]
        have la : arr.toList.length = arr.size := by simp
        have e2 : (xs.length - n) * e.sz = xs.length * e.sz - n * e.sz := Nat.sub_mul _ _ _
        have l1 : (arr.toList.take (n * e.sz) ++ (Builtin.zeroCells z.cells (xs.length - n)).toList).length = xs.length * e.sz := by rw [List.length_append, hvl, List.length_take, la, e2]; rw [hq] at m1; omega
        rw [List.take_append, l1, Nat.sub_self, List.take_zero, List.append_nil, List.take_of_length_le (Nat.le_of_eq l1)]
        rw [List.take_take, Nat.min_eq_left (by omega), List.drop_of_length_le (by rw [List.length_take, la]; rw [hq] at m1; omega), List.append_nil]
      rw [e1]
      rw [List.append_assoc] at hsp ⊢
      exact hsp
    refine does_run (w' := w') ?_ (hK w' _ hS' hO')
    obtain ⟨q, rfl⟩ : ∃ j, q = j + 1 := ⟨q - 1, by omega⟩
    rw [hDe] at hx
    simp [execOp, ho, resolve, invoke, builtin, hx, Builtin.clear_, run_underlying hT, hzv, hst]
end
/-- Short words for what stands in most frames. -/
@[reducible] def iV (x : Int) : Value := .int .i64 x
abbrev pV (b o : Nat) : Value := .pointer (some ⟨b, o, none⟩)
abbrev tV : Value := .bool true
abbrev fV : Value := .bool false
@[reducible] def uV : Value := undef
/-- A part of an element's cells. -/
theorem part_cells {w : World} {b off fo n : Nat} {full cs : List Value} (h : ∀ j, j < full.length → w.cell? ⟨b, off + j, none⟩ = full[j]?) (hp : (full.drop fo).take n = cs) (hn : fo + n ≤ full.length) :
    ∀ j, j < n → w.cell? ⟨b, off + fo + j, none⟩ = cs[j]? := by
  intro j hj
  have := h (fo + j) (by omega)
  rw [← hp, List.getElem?_take_of_lt hj, List.getElem?_drop, ← this, Nat.add_assoc]
/-- The dead slots, from a list. -/
abbrev jL (l : List Value) (i : Nat) : Value := l.getD i undef
theorem fL {f : FM} : FM.le f f := FM.le.refl f
theorem ones {vs : List Value} (h : vs.all Value.oneCell' = true) : ∀ u, u ∈ vs → u.oneCell' = true := fun u hu => List.all_eq_true.mp h u hu
/-- A struct is stored into its variable, whole. -/
theorem does_storeA {P : Program} {t w : World} {f : FM} {H : List Seg} {a : Act} {o : Oper} {K : Value → World → Prop} {T n : Nat} {x y : Operand} {b : Nat} {E : TypeId} {vs : List Value} {cs : Array Value} (ho : o.op = .store T x y) (hn : (P.info? T).map (·.size) = some n)
    (hx : a.eval x = .pointer (some ⟨b, 0, none⟩)) (hy : a.eval y = .agg vs.toArray) (hl : vs.length = n) (h1 : ∀ u, u ∈ vs → u.oneCell' = true)
    (hS : St t w f ([(b, .cells cs E (0, 0))] :: H)) (hb : cs.size = n) (hK : ∀ w', St t w' f ([(b, .cells vs.toArray E (0, 0))] :: H) → K undef w') : Does P a w o K :=
  does_store ho hn hx hy rfl hl h1 hS (by omega) (by rw [putCells_eq _ _ _ (by omega), List.take_zero, List.nil_append, List.drop_eq_nil_of_le (by rw [Array.length_toList]; omega), List.append_nil]) hK
theorem kr {p : Prop} (h : p := by kernel_rfl) : p := h
theorem kv (v : Value) {x : Value} (h : x = v := by kernel_rfl) : x = v := h
theorem rl {P : Program} {Q : Exit → Act → World → Prop} {a : Act} {w : World} {id : Nat} {l : List Oper} (h : wpList P l.toArray Q l a w) : (Code.region id l.toArray false).wp P Q a w := wp_region_lit h
theorem nl {P : Program} {Q : Exit → Act → World → Prop} {a : Act} {w : World} {ops : Array Oper} (h : Q .normal a w) : wpList P ops Q [] a w := h
end Go.Sp
