/- Maps whose keys are pairs of whole numbers ([2]int), of the walk's own. -/
import Derived.Test.YtcnhbfdkediodaaSpCopy
import Derived.MapKept
namespace Go.Sp
open Go Go.MapKept
set_option linter.unusedVariables false
set_option linter.unusedSimpArgs false
def afind {κ α : Type} [DecidableEq κ] : List (κ × α) → κ → Option α
  | [], _ => none
  | p :: m, k => if p.1 = k then some p.2 else afind m k
def aget {κ α : Type} [DecidableEq κ] (z : α) (m : List (κ × α)) (k : κ) : α := (afind m k).getD z
def aput {κ α : Type} [DecidableEq κ] : List (κ × α) → κ → α → List (κ × α)
  | [], k, v => [(k, v)]
  | p :: m, k, v => if p.1 = k then (k, v) :: m else p :: aput m k v
def aidx {κ α : Type} [DecidableEq κ] : List (κ × α) → κ → Nat
  | [], _ => 0
  | p :: m, k => if p.1 = k then 0 else aidx m k + 1
theorem aidx_lt {κ α : Type} [DecidableEq κ] : ∀ (m : List (κ × α)) (k : κ) (u : α), aidx m k < (aput m k u).length
  | [], k, u => by simp [aidx, aput]
  | p :: m, k, u => by
    by_cases c : p.1 = k
    · rw [aidx, if_pos c, aput, if_pos c]; simp
    · rw [aidx, if_neg c, aput, if_neg c, List.length_cons]
      have := aidx_lt m k u
      omega
theorem aput_len {κ α : Type} [DecidableEq κ] : ∀ (m : List (κ × α)) (k : κ) (u : α), (aput m k u).length ≤ m.length + 1
  | [], k, u => by simp [aput]
  | p :: m, k, u => by
    by_cases c : p.1 = k
    · rw [aput, if_pos c]; simp
    · rw [aput, if_neg c, List.length_cons, List.length_cons]
      have := aput_len m k u
      omega
theorem aput_same {κ α : Type} [DecidableEq κ] : ∀ {m : List (κ × α)} {k : κ} {v : α}, afind m k = some v → aput m k v = m
  | [], k, v, h => by rw [afind] at h; cases h
  | p :: m, k, v, h => by
    rw [afind] at h
    by_cases c : p.1 = k
    · rw [if_pos c] at h
      injection h with h
      rw [aput, if_pos c, ← c, ← h]
    · rw [if_neg c] at h
      rw [aput, if_neg c, aput_same h]
def leA (x y : Int × Int) : Bool := decide (x.1 < y.1 ∨ (x.1 = y.1 ∧ x.2 ≤ y.2))
def sortedKeysA {α : Type} (m : List ((Int × Int) × α)) : Option (List (List Int)) :=
  if (m.all fun p => (Lit.int .i64 p.1.1).wf && (Lit.int .i64 p.1.2).wf) = true then (if (m.map fun p => p.1).Nodup then (if m.length * 16 ≤ 140737488355328 then some (((m.map fun p => p.1).mergeSort leA).map fun x => [x.1, x.2]) else none) else none) else none
section
variable {α : Type} {vf : α → Value} {P : Program} {t w : World} {f : FM} {H : List Seg} {a : Act} {o : Oper} {K' : Value → World → Prop} {kt E : TypeId}
abbrev kA (k : Int × Int) : Value := .agg #[.int .i64 k.1, .int .i64 k.2]
def mentsA (vf : α → Value) : List ((Int × Int) × α) → Nat → List MapEntry
  | [], _ => []
  | p :: m, i => ⟨kA p.1, vf p.2, i⟩ :: mentsA vf m (i + 1)
def mobjA (vf : α → Value) (m : List ((Int × Int) × α)) : Obj := .map (mentsA vf m 0).toArray m.length
/-- What is told of the type [2]int. -/
structure ArrK (P : Program) (kt E : TypeId) : Prop where
  u : P.underlying kt = some (.array 2 E)
  e : P.underlying E = some (.int .i64)
  s : (P.info? E).map (·.size) = some 1
theorem ArrK.size (h : ArrK P kt E) (w : World) : (sizeOf E).run P w = .ok 1 w := run_sizeOf_of h.s w
theorem ArrK.agg (h : ArrK P kt E) (w : World) : (isAgg E).run P w = .ok false w := by simp [isAgg, run_underlying h.e, Result.andThen]
theorem ArrK.part0 (h : ArrK P kt E) (k : Int × Int) (w : World) : (part E #[.int .i64 k.1, .int .i64 k.2] 0).run P w = .ok (.int .i64 k.1) w := by simp [part, h.agg, Result.andThen]
theorem ArrK.part1 (h : ArrK P kt E) (k : Int × Int) (w : World) : (part E #[.int .i64 k.1, .int .i64 k.2] 1).run P w = .ok (.int .i64 k.2) w := by simp [part, h.agg, Result.andThen]
theorem ArrK.check (h : ArrK P kt E) (em : Bool) (n : Nat) (k : Int × Int) (w : World) : (Instr.checkKey em (n + 2) kt (kA k)).run P w = .ok () w := by
  unfold Instr.checkKey
  simp [run_underlying h.u, Result.andThen, h.size, h.part0, h.part1, Std.Legacy.Range.forIn_eq_forIn_range', Std.Legacy.Range.size, List.range', Instr.checkKey, run_underlying h.e]
theorem ArrK.int_eq (h : ArrK P kt E) (n : Nat) (x y : Int) (w : World) : (Op.equalIn (n + 1) E (.int .i64 x) (.int .i64 y)).run P w = .ok (decide (x = y)) w := by
  rw [Op.equalIn]
  simp only [Sem.run_bind, run_underlying h.e, Result.andThen_ok, if_true, Sem.run_pure]
  rfl
theorem ArrK.eq (h : ArrK P kt E) (n : Nat) (x y : Int × Int) (w : World) : (Op.equalIn (n + 2) kt (kA x) (kA y)).run P w = .ok (decide (x = y)) w := by
  rw [show n + 2 = (n + 1) + 1 from rfl, Op.equalIn]
  simp only [Sem.run_bind, run_underlying h.u, Result.andThen_ok, h.size, Std.Legacy.Range.forIn_eq_forIn_range', Std.Legacy.Range.size, Nat.sub_zero, Nat.add_one_sub_one, Nat.div_one, List.range', List.forIn_cons, List.forIn_nil, Nat.zero_mul, Nat.zero_add, Nat.one_mul, h.part0, h.part1, h.int_eq]
  obtain ⟨x1, x2⟩ := x
  obtain ⟨y1, y2⟩ := y
  have p0 : ∀ (a b : Int) (w : World), (part E #[.int .i64 a, .int .i64 b] 0).run P w = .ok (.int .i64 a) w := fun a b w => h.part0 (a, b) w
  have p1 : ∀ (a b : Int) (w : World), (part E #[.int .i64 a, .int .i64 b] 1).run P w = .ok (.int .i64 b) w := fun a b w => h.part1 (a, b) w
  by_cases c1 : x1 = y1 <;> by_cases c2 : x2 = y2 <;> simp [c1, c2, p0, p1, h.int_eq, Result.andThen]
theorem ArrK.key_eq (h : ArrK P kt E) (x y : Int × Int) (w : World) : (Op.equal kt (kA x) (kA y)).run P w = .ok (decide (x = y)) w := h.eq 9998 x y w
theorem ArrK.stays (k : Int × Int) (w : World) : (Instr.keyThatStays (kA k) (kA k)).run P w = .ok (kA k) w := by
  have : Instr.sameBits 10000 (kA k) (kA k) = true := by simp [Instr.sameBits]
  simp [Instr.keyThatStays, this]
theorem ArrK.find (h : ArrK P kt E) (k : Int × Int) (es : List MapEntry) (w : World) : (Instr.findKey kt (kA k) es).run P w = (Instr.findAsking kt (kA k) es).run P w := by
  cases es with
  | nil => simp [Instr.findKey, run_underlying h.u, Result.andThen, Instr.findNow, Instr.findAsking]
  | cons e es => simp [Instr.findKey, run_underlying h.u, Result.andThen, Instr.findNow, Instr.sameNow]
theorem ask_none (h : ArrK P kt E) {m : List ((Int × Int) × α)} {k : Int × Int} (hf : afind m k = none) : ∀ i j w, (Instr.findAsking kt (kA k) (mentsA vf m i) j).run P w = .ok none w := by
  induction m with
  | nil => intro i j w; simp [mentsA, Instr.findAsking]
  | cons p m ih =>
    intro i j w
    rw [afind] at hf
    by_cases c : p.1 = k
    · rw [if_pos c] at hf; cases hf
    · rw [if_neg c] at hf
      have hd : decide (k = p.1) = false := decide_eq_false fun e => c e.symm
      simp [mentsA, Instr.findAsking, h.key_eq, hd, Result.andThen, ih hf]
theorem ask_some (h : ArrK P kt E) {m : List ((Int × Int) × α)} {k : Int × Int} {v : α} (hf : afind m k = some v) : ∃ q, q < m.length ∧ ∀ i, (∀ j w, (Instr.findAsking kt (kA k) (mentsA vf m i) j).run P w = .ok (some (j + q, vf v)) w) ∧
    (∃ e, (mentsA vf m i)[q]? = some e ∧ e.key = kA k) ∧ ∀ u, (mentsA vf m i).modify q (fun e => { e with key := kA k, val := vf u }) = mentsA vf (aput m k u) i := by
  induction m with
  | nil => rw [afind] at hf; cases hf
  | cons p m ih =>
    rw [afind] at hf
    by_cases c : p.1 = k
    · rw [if_pos c] at hf
      injection hf with hf
      refine ⟨0, by simp, fun i => ⟨fun j w => ?_, ?_, fun u => ?_⟩⟩
      · have hd : decide (k = p.1) = true := decide_eq_true c.symm
        simp [mentsA, Instr.findAsking, h.key_eq, hd, Result.andThen, hf]
      · exact ⟨_, rfl, by rw [c]⟩
      · rw [aput, if_pos c]; rfl
    · rw [if_neg c] at hf
      obtain ⟨q, hq, ih⟩ := ih hf
      refine ⟨q + 1, by simp only [List.length_cons]; omega, fun i => ?_⟩
      obtain ⟨h1, ⟨e, h2, h3⟩, h4⟩ := ih (i + 1)
      refine ⟨fun j w => ?_, ⟨e, h2, h3⟩, fun u => ?_⟩
      · have hd : decide (k = p.1) = false := decide_eq_false fun e => c e.symm
        have := h1 (j + 1) w
        rw [show j + 1 + q = j + (q + 1) by omega] at this
        simp [mentsA, Instr.findAsking, h.key_eq, hd, Result.andThen, this]
      · rw [aput, if_neg c, mentsA, mentsA, List.modify_succ_cons, h4]
theorem aput_none {m : List ((Int × Int) × α)} {k : Int × Int} (h : afind m k = none) (u : α) : (aput m k u).length = m.length + 1 ∧ ∀ i, mentsA vf (aput m k u) i = mentsA vf m i ++ [⟨kA k, vf u, i + m.length⟩] := by
  induction m with
  | nil => exact ⟨rfl, fun i => rfl⟩
  | cons p m ih =>
    rw [afind] at h
    by_cases c : p.1 = k
    · rw [if_pos c] at h; cases h
    · rw [if_neg c] at h
      obtain ⟨h1, h2⟩ := ih h
      refine ⟨by rw [aput, if_neg c, List.length_cons, h1, List.length_cons], fun i => ?_⟩
      rw [aput, if_neg c, mentsA, mentsA, h2, List.length_cons, show i + 1 + m.length = i + (m.length + 1) by omega]
      rfl
theorem aput_some {m : List ((Int × Int) × α)} {k : Int × Int} {v : α} (h : afind m k = some v) (u : α) : (aput m k u).length = m.length := by
  induction m with
  | nil => rw [afind] at h; cases h
  | cons p m ih =>
    rw [afind] at h
    by_cases c : p.1 = k
    · rw [aput, if_pos c]; rfl
    · rw [if_neg c] at h
      rw [aput, if_neg c, List.length_cons, ih h, List.length_cons]
theorem aidx_none {m : List ((Int × Int) × α)} {k : Int × Int} (h : afind m k = none) : aidx m k = m.length := by
  induction m with
  | nil => rfl
  | cons p m ih =>
    rw [afind] at h
    by_cases c : p.1 = k
    · rw [if_pos c] at h; cases h
    · rw [if_neg c] at h
      rw [aidx, if_neg c, ih h, List.length_cons]
theorem ask_idx (h : ArrK P kt E) {m : List ((Int × Int) × α)} {k : Int × Int} {v : α} (hf : afind m k = some v) : ∀ i, (∀ j w, (Instr.findAsking kt (kA k) (mentsA vf m i) j).run P w = .ok (some (j + aidx m k, vf v)) w) ∧
    (mentsA vf m i)[aidx m k]? = some ⟨kA k, vf v, i + aidx m k⟩ ∧ (mentsA vf m i).modify (aidx m k) (fun e => { e with key := kA k }) = mentsA vf m i := by
  induction m with
  | nil => rw [afind] at hf; cases hf
  | cons p m ih =>
    intro i
    rw [afind] at hf
    by_cases c : p.1 = k
    · rw [if_pos c] at hf
      injection hf with hf
      rw [aidx, if_pos c]
      refine ⟨fun j w => ?_, ?_, ?_⟩
      · have hd : decide (k = p.1) = true := decide_eq_true c.symm
        simp [mentsA, Instr.findAsking, h.key_eq, hd, Result.andThen, hf]
      · rw [mentsA, c, hf]; rfl
      · rw [mentsA, c]; rfl
    · rw [if_neg c] at hf
      obtain ⟨h1, h2, h3⟩ := ih hf (i + 1)
      rw [aidx, if_neg c]
      refine ⟨fun j w => ?_, ?_, ?_⟩
      · have hd : decide (k = p.1) = false := decide_eq_false fun e => c e.symm
        have := h1 (j + 1) w
        rw [show j + 1 + aidx m k = j + (aidx m k + 1) by omega] at this
        simp [mentsA, Instr.findAsking, h.key_eq, hd, Result.andThen, this]
      · rw [mentsA, List.getElem?_cons_succ, h2, show i + 1 + aidx m k = i + (aidx m k + 1) by omega]
      · rw [mentsA, List.modify_succ_cons, h3]
theorem ments_set (m : List ((Int × Int) × α)) (k : Int × Int) (u v : α) : ∀ i, (mentsA vf (aput m k u) i).modify (aidx m k) (fun e => { e with val := vf v }) = mentsA vf (aput m k v) i := by
  induction m with
  | nil => intro i; rfl
  | cons p m ih =>
    intro i
    by_cases c : p.1 = k
    · rw [aidx, if_pos c, aput, if_pos c, aput, if_pos c]; rfl
    · rw [aidx, if_neg c, aput, if_neg c, aput, if_neg c, mentsA, mentsA, List.modify_succ_cons, ih]
theorem ments_at : ∀ (m : List ((Int × Int) × α)) (i q : Nat), q < m.length → (mentsA vf m i).findIdx? (fun e => (e.born : Int) == ((i + q : Nat) : Int)) = some q
  | [], i, q, h => by simp at h
  | p :: m, i, 0, h => by simp [mentsA, List.findIdx?_cons]
  | p :: m, i, q + 1, h => by
    have ih := ments_at m (i + 1) q (by simp at h; omega)
    rw [show i + 1 + q = i + (q + 1) by omega] at ih
    rw [mentsA, List.findIdx?_cons, ih]
    have hne : ¬ ((i : Int) = (i : Int) + ((q : Int) + 1)) := by omega
    simp [hne]
theorem does_mapEntryA {T E' : TypeId} {x y : Operand} {b : Nat} {m : List ((Int × Int) × α)} {k : Int × Int} {z : α} (ho : o.op = .mapEntry T x y) (hT : P.underlying T = some (.map kt E')) (hk : ArrK P kt E)
    (hz : (P.info? E').bind (·.zero) = some (vf z)) (hx : a.eval x = .map (some b)) (hy : a.eval y = kA k) (hS : St t w f ([(b, mobjA vf m)] :: H))
    (hK : ∀ w', St t w' f ([(b, mobjA vf (aput m k (aget z m k)))] :: H) → K' (.tuple #[vf (aget z m k), .int .i64 (aidx m k : Int)]) w') : Does P a w o K' := by
  have hb : w.heap[b]? = some (mobjA vf m) := hS.blk
  have hc := hk.check false 9998 k w
  have hzero : (zeroValue E').run P w = .ok (vf z) w := by
    cases hi : P.info? E' with
    | none => rw [hi] at hz; cases hz
    | some i =>
      rw [hi] at hz
      have hz' : i.zero = some (vf z) := hz
      simp [zeroValue, typeInfo, hi, hz']
  have hr : (Instr.mapEntry T (.map (some b)) (kA k)).run P w = .ok (.tuple #[vf (aget z m k), .int .i64 (aidx m k : Int)]) { w with heap := w.heap.setIfInBounds b (mobjA vf (aput m k (aget z m k))) } := by
    unfold aget
    cases hf : afind m k with
    | none =>
      have h1 : (Instr.findAsking kt (kA k) (mentsA vf m 0).toArray.toList).run P w = .ok none w := ask_none hk hf 0 0 w
      rw [← hk.find] at h1
      obtain ⟨h2, h3⟩ := aput_none (vf := vf) hf z
      have e : mobjA vf (aput m k z) = .map ((mentsA vf m 0).toArray.push ⟨kA k, vf z, m.length⟩) (m.length + 1) := by
        unfold mobjA
        rw [h2, h3 0, Nat.zero_add]
        simp
      simp only [Option.getD_none]
      rw [e, aidx_none hf]
      have hso := fun q => MapKept.run_setObj_map (P := P) q hb
      simp [Instr.mapEntry, run_underlying hT, MapKept.run_getObj_map hb, Result.andThen] at hc h1 ⊢
      simp [hc, h1, hso, hzero, goInt]
    | some v0 =>
      obtain ⟨h1, h2, h3⟩ := ask_idx (vf := vf) hk hf 0
      have h1' : (Instr.findAsking kt (kA k) (mentsA vf m 0).toArray.toList).run P w = .ok (some (aidx m k, vf v0)) w := by rw [← Nat.zero_add (aidx m k)]; exact h1 0 w
      rw [← hk.find] at h1'
      rw [Nat.zero_add] at h2
      have hst : (Instr.keyThatStays (kA k) (kA k)).run P w = .ok (kA k) w := ArrK.stays k w
      have e : mobjA vf (aput m k v0) = .map ((mentsA vf m 0).toArray.modify (aidx m k) fun e => { e with key := kA k }) m.length := by
        rw [aput_same hf]
        unfold mobjA
        rw [List.modify_toArray, h3]
      simp only [Option.getD_some]
      rw [e]
      have hso := fun q => MapKept.run_setObj_map (P := P) q hb
      simp [Instr.mapEntry, run_underlying hT, MapKept.run_getObj_map hb, Result.andThen] at hc h1' hst ⊢
      simp [hc, h1', h2, hst, hso, goInt]
  refine does_run (v := .tuple #[vf (aget z m k), .int .i64 (aidx m k : Int)]) (w' := { w with heap := w.heap.setIfInBounds b (mobjA vf (aput m k (aget z m k))) }) ?_ (hK _ ?_)
  · simp [execOp, ho, hx, hy, hr]
  · exact hS.turn rfl rfl rfl (fun j hj x hx => by
      rw [← hx]; exact (heap_set (o' := mobjA vf (aput m k (aget z m k))) hb).2 j hj) (heap_set hb).1
theorem does_entryStoreA {T : TypeId} {x y u : Operand} {b : Nat} {m : List ((Int × Int) × α)} {k : Int × Int} {z v : α} (ho : o.op = .entryStore T x y u)
    (hx : a.eval x = .map (some b)) (hy : a.eval y = .int .i64 (aidx m k : Int)) (hu : a.eval u = vf v) (hS : St t w f ([(b, mobjA vf (aput m k z))] :: H))
    (hK : ∀ w', St t w' f ([(b, mobjA vf (aput m k v))] :: H) → K' undef w') : Does P a w o K' := by
  have hb : w.heap[b]? = some (mobjA vf (aput m k z)) := hS.blk
  have hlt := aidx_lt m k z
  have hi := ments_at (vf := vf) (aput m k z) 0 (aidx m k) hlt
  rw [Nat.zero_add] at hi
  have hlen : (aput m k v).length = (aput m k z).length := by
    have h1 := congrArg List.length (ments_set (vf := vf) m k z v 0)
    have hml : ∀ (l : List ((Int × Int) × α)) (i : Nat), (mentsA vf l i).length = l.length := by
      intro l
      induction l with
      | nil => intro i; rfl
      | cons p l ih => intro i; rw [mentsA, List.length_cons, List.length_cons, ih]
    rw [List.length_modify, hml, hml] at h1
    exact h1.symm
  have e : mobjA vf (aput m k v) = .map ((mentsA vf (aput m k z) 0).toArray.modify (aidx m k) fun e => { e with val := vf v }) (aput m k z).length := by
    unfold mobjA
    rw [hlen, ← ments_set m k z v 0, List.modify_toArray]
  have hr : (Instr.entryStore T (.map (some b)) (.int .i64 (aidx m k : Int)) (vf v)).run P w = .ok () { w with heap := w.heap.setIfInBounds b (mobjA vf (aput m k v)) } := by
    rw [e]
    have hso := fun q => MapKept.run_setObj_map (P := P) q hb
    simp [Instr.entryStore, MapKept.run_getObj_map hb, Result.andThen, asInt, asIntOf, hi, hso]
  refine does_skip (w' := { w with heap := w.heap.setIfInBounds b (mobjA vf (aput m k v)) }) ?_ (hK _ ?_)
  · simp [execOp, ho, hx, hy, hu, hr]
  · exact hS.turn rfl rfl rfl (fun j hj x hx => by
      rw [← hx]; exact (heap_set (o' := mobjA vf (aput m k v)) hb).2 j hj) (heap_set hb).1
theorem run_lookupA {T E' : TypeId} {x y : Operand} {b : Nat} {m : List ((Int × Int) × α)} {k : Int × Int} {z : α} (ho : o.op = .lookup T x y false) (hT : P.underlying T = some (.map kt E')) (hk : ArrK P kt E)
    (hz : (P.info? E').bind (·.zero) = some (vf z)) (hx : a.eval x = .map (some b)) (hy : a.eval y = kA k) (hS : w.heap[b]? = some (mobjA vf m)) :
    (execOp a.eval o).run P w = .ok (.value (vf (aget z m k))) w := by
  have hzero : (zeroValue E').run P w = .ok (vf z) w := by
    cases hi : P.info? E' with
    | none => rw [hi] at hz; cases hz
    | some i =>
      rw [hi] at hz
      have hz' : i.zero = some (vf z) := hz
      simp [zeroValue, typeInfo, hi, hz']
  have hr : (Instr.lookup T (.map (some b)) (kA k) false).run P w = .ok (vf (aget z m k)) w := by
    unfold aget
    have hc := hk.check (mentsA vf m 0).toArray.isEmpty 9998 k w
    cases hf : afind m k with
    | none =>
      have h1 : (Instr.findAsking kt (kA k) (mentsA vf m 0).toArray.toList).run P w = .ok none w := ask_none hk hf 0 0 w
      rw [← hk.find] at h1
      simp only [Option.getD_none]
      simp [Instr.lookup, run_underlying hT, MapKept.run_getObj_map hS, Result.andThen] at hc h1 ⊢
      simp [hc, h1, hzero]
    | some v =>
      obtain ⟨q, hq, hr⟩ := ask_some (vf := vf) hk hf
      have h1 : (Instr.findAsking kt (kA k) (mentsA vf m 0).toArray.toList).run P w = .ok (some (0 + q, vf v)) w := (hr 0).1 0 w
      rw [← hk.find] at h1
      simp only [Option.getD_some]
      simp [Instr.lookup, run_underlying hT, MapKept.run_getObj_map hS, Result.andThen] at hc h1 ⊢
      simp [hc, h1]
  simp [execOp, ho, hx, hy, hr]
theorem aget_put {κ β : Type} [DecidableEq κ] (z u : β) : ∀ (m : List (κ × β)) (k : κ), aget z (aput m k u) k = u
  | [], k => by simp [aget, aput, afind]
  | p :: m, k => by
    by_cases c : p.1 = k
    · rw [aput, if_pos c]; simp [aget, afind]
    · have ih := aget_put z u m k
      rw [aput, if_neg c]
      unfold aget at ih ⊢
      rw [afind, if_neg c]; exact ih
theorem run_lookupA2 {T E' : TypeId} {x y : Operand} {b : Nat} {m : List ((Int × Int) × α)} {k : Int × Int} {z u : α} (ho : o.op = .lookup T x y false) (hT : P.underlying T = some (.map kt E')) (hk : ArrK P kt E)
    (hz : (P.info? E').bind (·.zero) = some (vf z)) (hx : a.eval x = .map (some b)) (hy : a.eval y = kA k) (hS : w.heap[b]? = some (mobjA vf (aput m k u))) :
    (execOp a.eval o).run P w = .ok (.value (vf u)) w := by
  have := run_lookupA ho hT hk hz hx hy hS
  rwa [aget_put] at this
theorem does_makeMapA {T : TypeId} (vf : α → Value) (ho : o.op = .makeMap T none) (hS : St t w f H)
    (hK : ∀ b w', St t w' f ([(b, mobjA vf ([] : List ((Int × Int) × α)))] :: H) → K' (.map (some b)) w') : Does P a w o K' := by
  refine does_run (v := .map (some w.heap.size)) (w' := w.alloc (.map #[] 0)) ?_ (hK _ _ (hS.alloc _))
  simp [execOp, ho, Instr.makeMap, alloc_eq]
theorem does_mapUpdateA {T E' : TypeId} {x y u : Operand} {b : Nat} {m : List ((Int × Int) × α)} {k : Int × Int} {v : α} (ho : o.op = .mapUpdate T x y u) (hT : P.underlying T = some (.map kt E')) (hk : ArrK P kt E)
    (hx : a.eval x = .map (some b)) (hy : a.eval y = kA k) (hu : a.eval u = vf v) (hS : St t w f ([(b, mobjA vf m)] :: H))
    (hK : ∀ w', St t w' f ([(b, mobjA vf (aput m k v))] :: H) → K' undef w') : Does P a w o K' := by
  have hb : w.heap[b]? = some (mobjA vf m) := hS.blk
  have hc := hk.check false 9998 k w
  have hr : (Instr.mapUpdate T (.map (some b)) (kA k) (vf v)).run P w = .ok () { w with heap := w.heap.setIfInBounds b (mobjA vf (aput m k v)) } := by
    cases hf : afind m k with
    | none =>
      have h1 : (Instr.findAsking kt (kA k) (mentsA vf m 0).toArray.toList).run P w = .ok none w := ask_none hk hf 0 0 w
      rw [← hk.find] at h1
      obtain ⟨h2, h3⟩ := aput_none (vf := vf) hf v
      have e : mobjA vf (aput m k v) = .map ((mentsA vf m 0).toArray.push ⟨kA k, vf v, m.length⟩) (m.length + 1) := by
        unfold mobjA
        rw [h2, h3 0, Nat.zero_add]
        simp
      rw [e]
      have hso := fun q => MapKept.run_setObj_map (P := P) q hb
      simp [Instr.mapUpdate, run_underlying hT, MapKept.run_getObj_map hb, Result.andThen] at hc h1 ⊢
      simp [hc, h1, hso]
    | some v0 =>
      obtain ⟨q, hq, hr⟩ := ask_some (vf := vf) hk hf
      obtain ⟨h1, ⟨e0, h2, h3⟩, h4⟩ := hr 0
      have h1' : (Instr.findAsking kt (kA k) (mentsA vf m 0).toArray.toList).run P w = .ok (some (q, vf v0)) w := by rw [← Nat.zero_add q]; exact h1 0 w
      rw [← hk.find] at h1'
      have hj : (mentsA vf m 0).toArray[q]? = some e0 := by simpa using h2
      have hst : (Instr.keyThatStays e0.key (kA k)).run P w = .ok (kA k) w := by rw [h3]; exact ArrK.stays k w
      have e : mobjA vf (aput m k v) = .map ((mentsA vf m 0).toArray.modify q fun e => { e with key := kA k, val := vf v }) m.length := by
        unfold mobjA
        rw [aput_some hf, ← h4 v, List.modify_toArray]
      rw [e]
      have hso := fun q => MapKept.run_setObj_map (P := P) q hb
      simp [Instr.mapUpdate, run_underlying hT, MapKept.run_getObj_map hb, Result.andThen] at hc h1' hj hst ⊢
      simp [hc, h1', hj, hst, hso]
  have hlt := lt_of_some hb
  refine does_skip (w' := { w with heap := w.heap.setIfInBounds b (mobjA vf (aput m k v)) }) ?_ (hK _ ?_)
  · simp [execOp, ho, hx, hy, hu, hr]
  · exact hS.turn rfl rfl rfl (fun j hj x hx => by
      rw [← hx]; exact (heap_set (o' := mobjA vf (aput m k v)) hb).2 j hj) (heap_set hb).1
/-- An array of slices at a place that is reckoned. -/
theorem arr_sl {β : Type} {e : Ty β} {cs : List Value} {xs : List (List β)} (h : Reps (tSl e) f cs xs) {j : Int} (h0 : 0 ≤ j) (h1 : j < (xs.length : Int)) : ∃ A c, cs[j.toNat]? = some (.slice A (rd xs j).length c) ∧ SlR e f A c (rd xs j) := by
  have hlt : j.toNat < xs.length := by omega
  have erd : rd xs j = xs[j.toNat] := (rd_lt h0 h1).2
  obtain ⟨A, c, hc, hr⟩ := h.at j.toNat hlt
  rw [← erd] at hc hr
  refine ⟨A, c, ?_, hr⟩
  have h2 : ((cs.drop (j.toNat * 1)).take 1)[0]? = some (.slice A (rd xs j).length c) := by
    have : (tSl e).sz = 1 := rfl
    rw [this] at hc
    rw [hc]; rfl
  rw [Nat.mul_one, List.getElem?_take_of_lt (by decide), List.getElem?_drop, Nat.add_zero] at h2
  exact h2
theorem run_arr_sl {T n E E2 : Nat} {x y : Operand} {cs : Array Value} {k : IntKind} {j : Int} {v : Value} (ho : o.op = .index T x y) (hT : P.underlying T = some (.array n E)) (hE : (P.info? E).map (·.size) = some 1) (hd : P.underlying E = some (.slice E2))
    (hx : a.eval x = .agg cs) (hy : a.eval y = .int k j) (hc : cs.toList[j.toNat]? = some v) (h0 : 0 ≤ j) (h1 : j < n) (w : World) : (execOp a.eval o).run P w = .ok (.value v) w := by
  have hone : (isAgg E).run P w = .ok false w := by rw [run_isAgg_of hd]; rfl
  rw [Array.getElem?_toList] at hc
  simp [execOp, ho, hx, hy, Instr.index, asIntOf, run_underlying hT, h0, h1, run_sizeOf_of hE, part, hone]
  rw [hc]
  rfl
end
end Go.Sp
