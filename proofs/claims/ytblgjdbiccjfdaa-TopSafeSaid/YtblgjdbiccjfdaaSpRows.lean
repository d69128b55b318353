/- Rows: slices that stay ('SlR') and slices of the walk's own ('Own'); reading, storing, making, appending, cutting. -/
import Derived.Test.YtblgjdbiccjfdaaSpStill
namespace Go.Sp
open Go Go.RowKit
set_option linter.unusedVariables false
def w64 (n : Int) : Int := IntKind.i64.wrap n
def u64 (n : Int) : Int := IntKind.u64.wrap n
def u8 (n : Int) : Int := IntKind.u8.wrap n
def mn (x y : Int) : Int := if y < x then y else x
def mx (x y : Int) : Int := if y > x then y else x
def shr (x : Int) (n : Nat) : Int := x.fdiv (2 ^ n)
theorem shr_def (x : Int) (n : Nat) : shr x n = x / 2 ^ n := Int.fdiv_eq_ediv_of_nonneg _ (Int.pow_nonneg (by decide))
theorem mn_def (x y : Int) : mn x y = min x y := by unfold mn; omega
theorem mx_def (x y : Int) : mx x y = max x y := by unfold mx; omega
theorem w64_def (n : Int) : w64 n = (n + 9223372036854775808) % 18446744073709551616 - 9223372036854775808 := by
  unfold w64 IntKind.wrap
  have e1 : (2 : Int) ^ (IntKind.i64.bits - 1) = 9223372036854775808 := by decide
  have e2 : (2 : Int) ^ IntKind.i64.bits = 18446744073709551616 := by decide
  have e3 : IntKind.i64.signed = true := rfl
  simp only [e1, e2, e3, Bool.true_and, decide_eq_true_eq]
  split <;> omega
theorem w64_of {n : Int} (h0 : -9223372036854775808 ≤ n) (h1 : n ≤ 9223372036854775807) : w64 n = n := by rw [w64_def]; omega
theorem u8_def (n : Int) : u8 n = n % 256 := by
  unfold u8 IntKind.wrap
  simp [IntKind.bits, IntKind.signed]
def rd {α : Type} [Inhabited α] (xs : List α) (i : Int) : α := xs.getD i.toNat default
theorem rd_lt {α : Type} [Inhabited α] {xs : List α} {i : Int} (h0 : 0 ≤ i) (h1 : i < (xs.length : Int)) : ∃ h : i.toNat < xs.length, rd xs i = xs[i.toNat] := by
  have h : i.toNat < xs.length := by omega
  exact ⟨h, by simp [rd, List.getD, h]⟩
section
variable {t w w' : World} {f g : FM} {H H' : List Seg} {s s' : Seg} {α β : Type} {e : Ty α}
def SlR (e : Ty α) (f : FM) (A : Option Addr) (c : Nat) (xs : List α) : Prop :=
  xs.length ≤ c ∧ (xs = [] ∨ ∃ b off arr et fr cs, A = some ⟨b, off, none⟩ ∧ f b = some (.cells arr et fr) ∧ Reps e f cs xs ∧ ∀ j, j < cs.length → arr[off + j]? = cs[j]?)
def NoFz (n : Nat) (fr : Nat × Nat) : Prop := ∀ j, j < n → ¬ (fr.1 ≤ j ∧ j < fr.2)
theorem noFz0 {n : Nat} : NoFz n (0, 0) := fun j _ h => by simp at h
def Own (e : Ty α) (et : TypeId) (f : FM) (A : Option Addr) (c : Nat) (s : Seg) (xs : List α) : Prop :=
  (A = none ∧ c = 0 ∧ s = [] ∧ xs = []) ∨
  ∃ b arr, A = some ⟨b, 0, none⟩ ∧ (∃ fr, NoFz arr.size fr ∧ s = [(b, .cells arr et fr)]) ∧ xs.length ≤ c ∧ c ≤ maxLen ∧ c * e.sz ≤ arr.size ∧ Reps e f (arr.toList.take (xs.length * e.sz)) xs
theorem SlR.nil (A : Option Addr) (c : Nat) : SlR e f A c [] := ⟨Nat.zero_le _, .inl rfl⟩
theorem Own.nil (et : TypeId) : Own e et f none 0 [] [] := .inl ⟨rfl, rfl, rfl, rfl⟩
theorem SlR.mono {A : Option Addr} {c : Nat} {xs : List α} (h : SlR e f A c xs) (hl : FM.le f g) : SlR e g A c xs := by
  refine ⟨h.1, h.2.imp id ?_⟩
  rintro ⟨b, off, arr, et, fr, cs, rfl, hb, hr, hc⟩
  exact ⟨b, off, arr, et, fr, cs, rfl, hl _ _ hb, hr.mono hl, hc⟩
theorem Own.mono {et : TypeId} {A : Option Addr} {c : Nat} {xs : List α} (h : Own e et f A c s xs) (hl : FM.le f g) : Own e et g A c s xs := by
  refine h.imp id ?_
  rintro ⟨b, arr, rfl, ⟨fr, hz, rfl⟩, h1, h2, h3, h4⟩
  exact ⟨b, arr, rfl, ⟨fr, hz, rfl⟩, h1, h2, h3, h4.mono hl⟩
theorem SlR.le {A : Option Addr} {c : Nat} {xs : List α} (h : SlR e f A c xs) : xs.length ≤ c := h.1
theorem Own.le {et : TypeId} {A : Option Addr} {c : Nat} {xs : List α} (h : Own e et f A c s xs) : xs.length ≤ c := by
  rcases h with ⟨_, rfl, _, rfl⟩ | ⟨_, _, _, _, h, _⟩
  · exact Nat.le_refl _
  · exact h
def tSl (e : Ty α) : Ty (List α) where
  sz := 1
  rep := fun f cs xs => ∃ A c, cs = [.slice A xs.length c] ∧ SlR e f A c xs
  pos := by decide
  len := by rintro _ _ _ ⟨_, _, rfl, _⟩; rfl
  mono := by rintro _ _ _ _ hl ⟨A, c, rfl, h⟩; exact ⟨A, c, rfl, h.mono hl⟩
  one := by rintro _ _ _ ⟨_, _, rfl, _⟩ v hv; simp at hv; subst hv; rfl
theorem Own.freeze {et : TypeId} {A : Option Addr} {c : Nat} {xs : List α} (h : Own e et f A c s xs) (hS : St t w f (s :: H)) :
    ∃ g, FM.le f g ∧ St t w g H ∧ SlR e g A c xs := by
  rcases h with ⟨rfl, rfl, rfl, rfl⟩ | ⟨b, arr, rfl, ⟨fr, hz, rfl⟩, h1, h2, h3, h4⟩
  · exact ⟨f, FM.le.refl f, hS.nil_cons, SlR.nil _ _⟩
  · refine ⟨_, hS.le_freeze, hS.freeze, h1, .inr ⟨b, 0, arr, et, fr, _, rfl, FM.add_self _ _ _, h4.mono hS.le_freeze, ?_⟩⟩
    intro j hj
    rw [List.getElem?_take]
    rw [List.length_take] at hj
    rw [if_pos (by omega), Nat.zero_add, Array.getElem?_toList]
def Rw (e : Ty α) (w : World) (f : FM) (A : Option Addr) (xs : List α) : Prop :=
  ∀ i, (h : i < xs.length) → ∃ b off cs, A = some ⟨b, off, none⟩ ∧ e.rep f cs xs[i] ∧ ∀ j, j < e.sz → w.cell? ⟨b, off + i * e.sz + j, none⟩ = cs[j]?
theorem take_drop_get {cs : List Value} {n k j : Nat} (h : j < k) : ((cs.drop n).take k)[j]? = cs[n + j]? := by
  rw [List.getElem?_take, if_pos h, List.getElem?_drop]
theorem Rw.at [Inhabited α] {A : Option Addr} {xs : List α} (h : Rw e w f A xs) {i : Int} (h0 : 0 ≤ i) (h1 : i < (xs.length : Int)) :
    ∃ b off cs, A = some ⟨b, off, none⟩ ∧ e.rep f cs (rd xs i) ∧ ∀ j, j < e.sz → w.cell? ⟨b, off + i.toNat * e.sz + j, none⟩ = cs[j]? := by
  obtain ⟨hl, er⟩ := rd_lt h0 h1
  rw [er]
  exact h i.toNat hl
theorem SlR.take {A : Option Addr} {c : Nat} {xs : List α} (h : SlR e f A c xs) (n : Nat) : SlR e f A c (xs.take n) := by
  rcases Nat.lt_or_ge xs.length n with hn | hn
  · rw [List.take_of_length_le (by omega)]; exact h
  refine ⟨Nat.le_trans (List.length_take_le' _ _) h.1, ?_⟩
  rcases h.2 with rfl | ⟨b, off, arr, et, fr, cs, rfl, hb, hr, hc⟩
  · simp
  · refine .inr ⟨b, off, arr, et, fr, _, rfl, hb, (hr.split n hn).1, fun j hj => ?_⟩
    rw [List.length_take] at hj
    rw [List.getElem?_take, if_pos (by omega)]
    exact hc j (by omega)
theorem SlR.drop {A : Option Addr} {c : Nat} {xs : List α} (h : SlR e f A c xs) (n : Nat) (hn : n ≤ xs.length) :
    SlR e f (if c - n = c then A else A.map (·.add (n * e.sz))) (c - n) (xs.drop n) := by
  refine ⟨by rw [List.length_drop]; have := h.1; omega, ?_⟩
  rcases h.2 with rfl | ⟨b, off, arr, et, fr, cs, rfl, hb, hr, hc⟩
  · simp
  · rcases Nat.eq_zero_or_pos n with rfl | hp
    · simp only [Nat.sub_zero, if_true, List.drop_zero]
      exact .inr ⟨b, off, arr, et, fr, cs, rfl, hb, hr, hc⟩
    · rcases Nat.eq_or_lt_of_le hn with e1 | hlt
      · left; rw [e1, List.drop_length]
      · have hne : c - n ≠ c := by have := h.1; omega
        rw [if_neg hne]
        refine .inr ⟨b, off + n * e.sz, arr, et, fr, _, ?_, hb, (hr.split n hn).2, fun j hj => ?_⟩
        · simp only [Option.map_some]
          unfold Addr.add
          rw [if_neg (by have := e.pos; exact Nat.ne_of_gt (Nat.mul_pos hp this))]
        · rw [List.length_drop] at hj
          rw [List.getElem?_drop, Nat.add_assoc]
          exact hc _ (by omega)
variable {P : Program} {a : Act} {o : Oper} {K : Value → World → Prop}
theorem add_plain (b off n : Nat) : (⟨b, off, none⟩ : Addr).add n = ⟨b, off + n, none⟩ := by
  unfold Addr.add; split <;> simp_all
theorem run_sizeOf_of {T : TypeId} {n : Nat} (h : (P.info? T).map (·.size) = some n) (w : World) : (sizeOf T).run P w = .ok n w := by
  cases hi : P.info? T with
  | none => rw [hi] at h; cases h
  | some i =>
    rw [hi] at h
    simp only [Option.map_some, Option.some.injEq] at h
    simp [sizeOf, typeInfo, hi, h]
theorem run_index {T E sz : Nat} {x ix : Operand} {b off n c : Nat} {k : IntKind} {i : Int} (ho : o.op = .indexAddr T x ix) (hT : P.underlying T = some (.slice E)) (hE : (P.info? E).map (·.size) = some sz)
    (hx : a.eval x = .slice (some ⟨b, off, none⟩) n c) (hi : a.eval ix = .int k i) (h0 : 0 ≤ i) (h1 : i < (n : Int)) (w : World) : (execOp a.eval o).run P w = .ok (.value (.pointer (some ⟨b, off + i.toNat * sz, none⟩))) w := by
  simp [execOp, ho, hx, hi, Instr.indexAt, run_underlying hT, asIntOf, run_sizeOf_of hE, h0, h1, add_plain]
def isOne (d : TypeDesc) : Bool := match d with | .struct _ | .array _ _ => false | _ => true
theorem run_isAgg_of {T : TypeId} {d : TypeDesc} (h : P.underlying T = some d) (w : World) : (isAgg T).run P w = .ok (!isOne d) w := by
  simp [isAgg, run_underlying h]
  cases d <;> simp [isOne]
theorem run_load {T : TypeId} {d : TypeDesc} {x : Operand} {ad : Addr} {v : Value} (ho : o.op = .load T x) (hT : P.underlying T = some d) (hd : isOne d = true) (hx : a.eval x = .pointer (some ad))
    (hc : w.cell? ad = some v) : (execOp a.eval o).run P w = .ok (.value v) w := by
  simp [execOp, ho, hx, Instr.loadAt, Instr.sureAddr, loadVar, run_isAgg_of hT, hd, hc]
theorem run_loadN {T n : Nat} {d : TypeDesc} {x : Operand} {b off : Nat} {cs : List Value} (ho : o.op = .load T x) (hT : P.underlying T = some d) (hd : isOne d = false) (hn : (P.info? T).map (·.size) = some n)
    (hx : a.eval x = .pointer (some ⟨b, off, none⟩)) (hl : cs.length = n) (hc : ∀ j, j < n → w.cell? ⟨b, off + j, none⟩ = cs[j]?) : (execOp a.eval o).run P w = .ok (.value (.agg cs.toArray)) w := by
  have h1 : (loadCells ⟨b, off, none⟩ n).run P w = .ok cs.toArray w := by
    subst hl
    refine run_loadCells_list (P := P) w ⟨b, off, none⟩ cs ?_
    intro j v hv
    have hj : j < cs.length := by
      rcases Nat.lt_or_ge j cs.length with h | h
      · exact h
      · rw [List.getElem?_eq_none h] at hv; cases hv
    rw [add_plain, hc j hj, hv]
  simp [execOp, ho, hx, Instr.loadAt, Instr.sureAddr, loadVar, run_isAgg_of hT, hd, run_sizeOf_of hn, h1]
theorem alloc_eq (w : World) (o : Obj) : ({ w with heap := w.heap.push o } : World) = w.alloc o := rfl
theorem does_box {T : TypeId} {x : Operand} {v : Value} {cs : Array Value} (ho : o.op = .box T x) (hx : a.eval x = v) (hc : v.cells = cs) (hS : St t w f H)
    (hK : ∀ b w', St t w' f ([(b, .cells cs T (0, 0))] :: H) → K (.pointer (some ⟨b, 0, none⟩)) w') : Does P a w o K := by
  refine does_run (v := .pointer (some ⟨w.heap.size, 0, none⟩)) (w' := w.alloc (.cells cs T)) ?_ (hK _ _ (hS.alloc _))
  simp [execOp, ho, hx, Instr.box, newVar, newRow, hc, alloc_eq]
theorem does_alloc {T : TypeId} {z : Value} {cs : Array Value} (ho : o.op = .alloc T) (hz : (P.info? T).bind (·.zero) = some z) (hc : z.cells = cs) (hS : St t w f H)
    (hK : ∀ b w', St t w' f ([(b, .cells cs T (0, 0))] :: H) → K (.pointer (some ⟨b, 0, none⟩)) w') : Does P a w o K := by
  refine does_run (v := .pointer (some ⟨w.heap.size, 0, none⟩)) (w' := w.alloc (.cells cs T)) ?_ (hK _ _ (hS.alloc _))
  cases hi : P.info? T with
  | none => rw [hi] at hz; cases hz
  | some i =>
    rw [hi] at hz
    have hz' : i.zero = some z := hz
    simp [execOp, ho, Instr.alloc, zeroValue, typeInfo, hi, hz', newVar, newRow, hc, alloc_eq]
def putCells (cs : Array Value) (off : Nat) : List Value → Array Value
  | [] => cs
  | v :: vs => putCells (cs.setIfInBounds off v) (off + 1) vs
theorem putCells_size (vs : List Value) : ∀ (cs : Array Value) (off : Nat), (putCells cs off vs).size = cs.size := by
  induction vs with
  | nil => intro cs off; rfl
  | cons v vs ih => intro cs off; simp [putCells, ih]
theorem run_storeCells_own (P : Program) {b : Nat} {E : TypeId} {fr : Nat × Nat} (vs : List Value) : ∀ (off i : Nat) (cs : Array Value) (w : World), NoFz cs.size fr → St t w f ([(b, .cells cs E fr)] :: H) → off + i + vs.length ≤ cs.size → (∀ v, v ∈ vs → v.oneCell' = true) →
    ∃ w', (storeCells ⟨b, off, none⟩ vs i).run P w = .ok () w' ∧ St t w' f ([(b, .cells (putCells cs (off + i) vs) E fr)] :: H) := by
  induction vs with
  | nil => intro off i cs w _ hS _ _; exact ⟨w, rfl, hS⟩
  | cons v vs ih =>
    intro off i cs w hz hS hl h1
    simp only [List.length_cons] at hl
    have hcell : w.cell? ⟨b, off + i, none⟩ = cs[off + i]? := cell_of_row w b _ cs E fr hS.blk
    have hlt : off + i < cs.size := by omega
    rw [Array.getElem?_eq_getElem hlt] at hcell
    have hfr : w.frozen? ⟨b, off + i, none⟩ = false := by
      unfold World.frozen?
      rw [hS.blk]
      have := hz (off + i) hlt
      simp
      omega
    have hS1 := hS.setCell (off + i) v
    obtain ⟨w', hr, hS2⟩ := ih off (i + 1) _ _ (by simpa using hz) hS1 (by simp; omega) (fun u hu => h1 u (by simp [hu]))
    refine ⟨w', ?_, ?_⟩
    · unfold storeCells
      rw [add_plain]
      have hst := run_store P w ⟨b, off + i, none⟩ v .plain (h1 v (by simp))
      rw [hcell] at hst
      simp only [hfr] at hst
      simp only [Sem.run_bind]
      rw [hst]
      simpa using hr
    · rw [← Nat.add_assoc] at hS2
      exact hS2
theorem does_storeF {T n : Nat} {fr : Nat × Nat} {x y : Operand} {b off : Nat} {E : TypeId} {v : Value} {vs : List Value} {cs cs' : Array Value} (ho : o.op = .store T x y) (hn : (P.info? T).map (·.size) = some n)
    (hx : a.eval x = .pointer (some ⟨b, off, none⟩)) (hy : a.eval y = v) (hv : v.cells = vs.toArray) (hl : vs.length = n) (h1 : ∀ u, u ∈ vs → u.oneCell' = true)
    (hz : NoFz cs.size fr) (hS : St t w f ([(b, .cells cs E fr)] :: H)) (hb : off + n ≤ cs.size) (hcs : putCells cs off vs = cs')
    (hK : ∀ w', St t w' f ([(b, .cells cs' E fr)] :: H) → K undef w') : Does P a w o K := by
  obtain ⟨w', hr, hS'⟩ := run_storeCells_own P vs off 0 cs w hz hS (by omega) h1
  rw [Nat.add_zero, hcs] at hS'
  refine does_skip (w' := w') ?_ (hK w' hS')
  have hsz : v.cells.size = n := by rw [hv]; simpa using hl
  simp [execOp, ho, hx, hy, Instr.storeAt, Instr.sureAddr, storeVar, run_sizeOf_of hn, hv, hl, hr]
theorem does_store {T n : Nat} {x y : Operand} {b off : Nat} {E : TypeId} {v : Value} {vs : List Value} {cs cs' : Array Value} (ho : o.op = .store T x y) (hn : (P.info? T).map (·.size) = some n)
    (hx : a.eval x = .pointer (some ⟨b, off, none⟩)) (hy : a.eval y = v) (hv : v.cells = vs.toArray) (hl : vs.length = n) (h1 : ∀ u, u ∈ vs → u.oneCell' = true)
    (hS : St t w f ([(b, .cells cs E (0, 0))] :: H)) (hb : off + n ≤ cs.size) (hcs : putCells cs off vs = cs')
    (hK : ∀ w', St t w' f ([(b, .cells cs' E (0, 0))] :: H) → K undef w') : Does P a w o K := does_storeF ho hn hx hy hv hl h1 noFz0 hS hb hcs hK
theorem putCells_eq (vs : List Value) : ∀ (cs : Array Value) (off : Nat), off + vs.length ≤ cs.size → putCells cs off vs = (cs.toList.take off ++ vs ++ cs.toList.drop (off + vs.length)).toArray := by
  induction vs with
  | nil => intro cs off h; simp [putCells]
  | cons v vs ih =>
    intro cs off h
    simp only [List.length_cons] at h
    rw [putCells, ih _ _ (by simp; omega)]
    apply Array.ext'
    have hlt : off < cs.toList.length := by simp; omega
    simp only [Array.toList_setIfInBounds]
    rw [List.set_eq_take_append_cons_drop, if_pos hlt]
    have e1 : (cs.toList.take off ++ v :: cs.toList.drop (off + 1)).take (off + 1) = cs.toList.take off ++ [v] := by
      rw [List.take_append, List.length_take, Nat.min_eq_left (by omega), List.take_take, Nat.min_eq_right (by omega), Nat.add_sub_cancel_left]
      rfl
    have e2 : (cs.toList.take off ++ v :: cs.toList.drop (off + 1)).drop (off + 1 + vs.length) = cs.toList.drop (off + 1 + vs.length) := by
      rw [List.drop_append, List.length_take, Nat.min_eq_left (by omega)]
      rw [List.drop_of_length_le (by simp; omega)]
      rw [show off + 1 + vs.length - off = vs.length + 1 by omega, List.drop_succ_cons, List.drop_drop]
      simp
    rw [e1, e2, List.length_cons]
    simp only [List.append_assoc, List.singleton_append]
    rw [show off + (vs.length + 1) = off + 1 + vs.length by omega]
theorem does_put {T E : Nat} {x y : Operand} {A : Option Addr} {b off c : Nat} {v : Value} {vs : List Value} {xs : List α} {u : α} {i : Int} (ho : o.op = .store T x y) (hn : (P.info? T).map (·.size) = some e.sz)
    (hO : Own e E f A c s xs) (hS : St t w f (s :: H)) (hA : A = some ⟨b, off, none⟩) (hx : a.eval x = .pointer (some ⟨b, off + i.toNat * e.sz, none⟩)) (hy : a.eval y = v) (hv : v.cells = vs.toArray) (hr : e.rep f vs u)
    (h0 : 0 ≤ i) (h1 : i < (xs.length : Int)) (hK : ∀ w' s', St t w' f (s' :: H) → Own e E f A c s' (xs.set i.toNat u) → K undef w') : Does P a w o K := by
  rcases hO with ⟨rfl, _⟩ | ⟨b', arr, rfl, ⟨fr, hz, rfl⟩, h2, h3, h4, h5⟩
  · cases hA
  · injection hA with hA
    injection hA with hA1 hA2
    subst hA1 hA2
    have hil : i.toNat < xs.length := by omega
    have hm : i.toNat * e.sz + e.sz ≤ xs.length * e.sz := by rw [← Nat.succ_mul]; exact Nat.mul_le_mul_right _ hil
    have hm2 : xs.length * e.sz ≤ c * e.sz := Nat.mul_le_mul_right _ h2
    have hvl := e.len hr
    refine does_storeF (vs := vs) (cs := arr) (cs' := _) ho hn hx hy hv hvl (e.one hr) hz hS (by omega) rfl ?_
    intro w' hS'
    refine hK w' _ hS' (.inr ⟨b', _, rfl, ⟨fr, by rw [putCells_size]; exact hz, rfl⟩, by simpa using h2, h3, by rw [putCells_size]; exact h4, ?_⟩)
    rw [putCells_eq _ _ _ (by omega), List.length_set]
    have h6 := h5.set i.toNat hil hr
    have e1 : ((arr.toList.take (0 + i.toNat * e.sz) ++ vs ++ arr.toList.drop (0 + i.toNat * e.sz + vs.length)).toArray.toList.take (xs.length * e.sz)) =
        (arr.toList.take (xs.length * e.sz)).take (i.toNat * e.sz) ++ vs ++ (arr.toList.take (xs.length * e.sz)).drop (i.toNat * e.sz + e.sz) := by
      simp only [Nat.zero_add, hvl]
      have l1 : (arr.toList.take (i.toNat * e.sz) ++ vs).length = i.toNat * e.sz + e.sz := by simp [hvl]; omega
      rw [List.take_append, l1, List.take_of_length_le (by omega)]
      rw [List.take_take, Nat.min_eq_left (by omega), List.drop_take]
    rw [e1]
    exact h6
end
end Go.Sp
