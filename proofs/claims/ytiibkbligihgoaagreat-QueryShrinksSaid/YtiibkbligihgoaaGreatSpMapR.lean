/- Maps with whole numbers as keys and structs as values, of the walk's own: a block of its own; what its entries hold is told as of a row's elements. -/
import Derived.Test.YtiibkbligihgoaaGreatSpMap
namespace Go.Sp
open Go Go.MapKept
set_option linter.unusedVariables false
set_option linter.unusedSimpArgs false
/-- The mark of a map's entries, in place of a row's element type. -/
abbrev mty {α : Type} (e : Ty α) : Ty α := e
def mb (A : Option Addr) : Option Nat := A.map (·.block)
section
variable {α : Type} {κ : IntKind} {e : Ty α} {P : Program} {t w : World} {f g : FM} {H : List Seg} {a : Act} {o : Oper} {K' : Value → World → Prop} {A : Option Addr} {c : Nat} {s : Seg}
def merase : List (Int × α) → Int → List (Int × α)
  | [], _ => []
  | p :: m, k => if p.1 = k then m else p :: merase m k
def sortedKeys (m : List (Int × α)) : Option (List Int) :=
  if (m.all fun p => (Lit.int .i64 p.1).wf) = true then (if m.length * 8 ≤ 140737488355328 then some ((m.map fun p => p.1).mergeSort fun x y => decide (x ≤ y)) else none) else none
def ERep (κ : IntKind) (e : Ty α) (f : FM) : List MapEntry → List (Int × α) → Prop
  | [], [] => True
  | x :: es, p :: m => x.key = .int κ p.1 ∧ (∃ cs, x.val = .agg cs ∧ e.rep f cs.toList p.2) ∧ ERep κ e f es m
  | _, _ => False
theorem ERep.mono (hl : FM.le f g) : ∀ {es : List MapEntry} {m : List (Int × α)}, ERep κ e f es m → ERep κ e g es m
  | [], [], _ => trivial
  | x :: es, p :: m, h => ⟨h.1, by obtain ⟨cs, h1, h2⟩ := h.2.1; exact ⟨cs, h1, e.mono hl h2⟩, ERep.mono hl h.2.2⟩
  | [], _ :: _, h => h.elim
  | _ :: _, [], h => h.elim
theorem ERep.len : ∀ {es : List MapEntry} {m : List (Int × α)}, ERep κ e f es m → es.length = m.length
  | [], [], _ => rfl
  | x :: es, p :: m, h => by simp [ERep.len h.2.2]
  | [], _ :: _, h => h.elim
  | _ :: _, [], h => h.elim
theorem ERep.keys : ∀ {es : List MapEntry} {m : List (Int × α)}, ERep κ e f es m → es.map (·.key) = m.map fun p => .int κ p.1
  | [], [], _ => rfl
  | x :: es, p :: m, h => by simp [h.1, ERep.keys h.2.2]
  | [], _ :: _, h => h.elim
  | _ :: _, [], h => h.elim
theorem e_none {k : Int} : ∀ {es : List MapEntry} {m : List (Int × α)}, ERep κ e f es m → mfind m k = none → (∀ j, Instr.findNow (.int κ) (.int κ k) es j = some none) ∧ (∀ x ∈ es, x.key ≠ .int κ k) ∧ merase m k = m
  | [], [], _, _ => ⟨fun _ => rfl, by simp, rfl⟩
  | x :: es, p :: m, h, hf => by
    rw [mfind] at hf
    by_cases c : p.1 = k
    · rw [if_pos c] at hf; cases hf
    · rw [if_neg c] at hf
      obtain ⟨h1, h2, h3⟩ := e_none h.2.2 hf
      refine ⟨fun j => ?_, fun y hy => ?_, by rw [merase, if_neg c, h3]⟩
      · rw [Instr.findNow, h.1, sameNow_int, beq_eq_false_iff_ne.mpr (fun q => c q.symm)]
        exact h1 _
      · rcases List.mem_cons.mp hy with rfl | hy
        · rw [h.1]; intro q; injection q with _ q; exact c q
        · exact h2 y hy
  | [], _ :: _, h, _ => h.elim
  | _ :: _, [], h, _ => h.elim
theorem e_some {k : Int} {v : α} : ∀ {es : List MapEntry} {m : List (Int × α)}, ERep κ e f es m → mfind m k = some v → ∃ q x cs, es[q]? = some x ∧ x.key = .int κ k ∧ x.val = .agg cs ∧ e.rep f cs.toList v ∧ (∀ j, Instr.findNow (.int κ) (.int κ k) es j = some (some (j + q, .agg cs))) ∧
    (∀ u cs', e.rep f cs'.toList u → ERep κ e f (es.modify q fun y => { y with key := .int κ k, val := .agg cs' }) (mput m k u)) ∧ ERep κ e f (es.eraseIdx q) (merase m k)
  | [], [], _, hf => by rw [mfind] at hf; cases hf
  | x :: es, p :: m, h, hf => by
    rw [mfind] at hf
    by_cases c : p.1 = k
    · rw [if_pos c] at hf
      injection hf with hf
      obtain ⟨hk, ⟨cs, h1, h2⟩, hr⟩ := h
      rw [hf] at h2
      refine ⟨0, x, cs, rfl, by rw [hk, c], h1, h2, fun j => ?_, fun u cs' hu => ?_, ?_⟩
      · rw [Instr.findNow, hk, sameNow_int, beq_iff_eq.mpr c.symm, h1]; rfl
      · rw [mput, if_pos c]
        exact ⟨rfl, ⟨cs', rfl, hu⟩, hr⟩
      · rw [merase, if_pos c]; exact hr
    · rw [if_neg c] at hf
      obtain ⟨q, y, cs, h1, h2, h3, h4, h5, h6, h7⟩ := e_some h.2.2 hf
      refine ⟨q + 1, y, cs, h1, h2, h3, h4, fun j => ?_, fun u cs' hu => ?_, ?_⟩
      · rw [Instr.findNow, h.1, sameNow_int, beq_eq_false_iff_ne.mpr (fun q => c q.symm)]
        show Instr.findNow _ _ _ (j + 1) = _
        rw [h5, show j + 1 + q = j + (q + 1) by omega]
      · rw [mput, if_neg c, List.modify_succ_cons]
        exact ⟨h.1, h.2.1, h6 u cs' hu⟩
      · rw [merase, if_neg c, List.eraseIdx_cons_succ]
        exact ⟨h.1, h.2.1, h7⟩
  | [], _ :: _, h, _ => h.elim
  | _ :: _, [], h, _ => h.elim
theorem e_push {k : Int} {u : α} {cs' : Array Value} {bn : Nat} (hu : e.rep f cs'.toList u) : ∀ {es : List MapEntry} {m : List (Int × α)}, ERep κ e f es m → mfind m k = none → ERep κ e f (es ++ [⟨.int κ k, .agg cs', bn⟩]) (mput m k u)
  | [], [], _, _ => ⟨rfl, ⟨cs', rfl, hu⟩, trivial⟩
  | x :: es, p :: m, h, hf => by
    rw [mfind] at hf
    by_cases c : p.1 = k
    · rw [if_pos c] at hf; cases hf
    · rw [if_neg c] at hf
      rw [mput, if_neg c]
      exact ⟨h.1, h.2.1, e_push hu h.2.2 hf⟩
  | [], _ :: _, h, _ => h.elim
  | _ :: _, [], h, _ => h.elim
/-- A map of one's own. -/
def OwnM (e : Ty α) (E : Nat) (f : FM) (A : Option Addr) (c : Nat) (s : Seg) (m : List (Int × α)) : Prop :=
  ∃ b es clock, A = some ⟨b, 0, none⟩ ∧ s = [(b, .map es clock)] ∧ ERep .i64 e f es.toList m ∧ Stamped es clock
theorem OwnM.mono {E : Nat} {m : List (Int × α)} (h : OwnM e E f A c s m) (hl : FM.le f g) : OwnM e E g A c s m := by
  obtain ⟨b, es, cl, h1, h2, h3, h4⟩ := h
  exact ⟨b, es, cl, h1, h2, h3.mono hl, h4⟩
theorem does_makeMapR {T : TypeId} (e : Ty α) (E : Nat) (ho : o.op = .makeMap T none) (hS : St t w f H)
    (hK : ∀ b w' s, St t w' f (s :: H) → OwnM e E f (some ⟨b, 0, none⟩) 0 s [] → K' (.map (mb (some ⟨b, 0, none⟩))) w') : Does P a w o K' := by
  refine does_run (v := .map (some w.heap.size)) (w' := w.alloc (.map #[] 0)) ?_ (hK w.heap.size _ _ (hS.alloc _) ⟨_, #[], 0, rfl, rfl, trivial, stamped_empty 0⟩)
  simp [execOp, ho, Instr.makeMap, alloc_eq]
/-- What an entry holds, or nothing. -/
theorem OwnM.look {E : Nat} {m : List (Int × α)} {z : α} {zc : Array Value} (h : OwnM e E f A c s m) (k : Int) (hz : e.rep f zc.toList z) : ∃ cs : List Value, e.rep f cs (mget z m k) ∧ ∀ {T kt Et : TypeId} {x y : Operand} {ok : Bool} {o : Oper} {a : Act} {t w : World} {g : FM} {H : List Seg}, o.op = .lookup T x y ok → P.underlying T = some (.map kt Et) → P.underlying kt = some (.int .i64) →
    (P.info? Et).bind (·.zero) = some (.agg zc) → a.eval x = .map (mb A) → a.eval y = .int .i64 k → St t w g (s :: H) → (execOp a.eval o).run P w = .ok (.value (if ok then .tuple #[.agg cs.toArray, .bool (mfind m k).isSome] else .agg cs.toArray)) w := by
  obtain ⟨b, es, cl, rfl, rfl, hr, _⟩ := h
  unfold mget
  have hkey : IsKey (.int .i64) (.int .i64 k) := by simp [IsKey]
  have hzero : ∀ (Et : TypeId) (w : World), (P.info? Et).bind (·.zero) = some (.agg zc) → (zeroValue Et).run P w = .ok (.agg zc) w := by
    intro Et w hz
    cases hi : P.info? Et with
    | none => rw [hi] at hz; cases hz
    | some i =>
      rw [hi] at hz
      have hz' : i.zero = some (.agg zc) := hz
      simp [zeroValue, typeInfo, hi, hz']
  cases hf : mfind m k with
  | none =>
    obtain ⟨h1, _, _⟩ := e_none hr hf
    refine ⟨zc.toList, hz, fun {T kt Et x y ok o a t w g H} ho hT hk hzz hx hy hS => ?_⟩
    have hb := hS.blk
    have hl : (Instr.lookup T (.map (some b)) (.int .i64 k) ok).run P w = .ok (if ok then .tuple #[.agg zc, .bool false] else .agg zc) w := by
      cases ok <;> simp [Instr.lookup, run_underlying hT, MapKept.run_getObj_map hb, MapKept.run_checkKey hk hkey, MapKept.run_findKey hk (h1 0), hzero Et w hzz, Result.andThen]
    simp [execOp, ho, hx, hy, mb, hl]
  | some v =>
    obtain ⟨q, x0, cs, _, _, _, h4, h5, _⟩ := e_some hr hf
    refine ⟨cs.toList, h4, fun {T kt Et x y ok o a t w g H} ho hT hk hzz hx hy hS => ?_⟩
    have hb := hS.blk
    have hl : (Instr.lookup T (.map (some b)) (.int .i64 k) ok).run P w = .ok (if ok then .tuple #[.agg cs, .bool true] else .agg cs) w := by
      cases ok <;> simp [Instr.lookup, run_underlying hT, MapKept.run_getObj_map hb, MapKept.run_checkKey hk hkey, MapKept.run_findKey hk (h5 0), Result.andThen]
    simp [execOp, ho, hx, hy, mb, hl]
theorem run_maplen {T E : Nat} {kt Et : TypeId} {x : Operand} {m : List (Int × α)} (h : OwnM e E f A c s m) (ho : o.op = .call { callee := .builtin .len, args := #[x], argTypes := #[T] }) (hT : P.underlying T = some (.map kt Et)) (hx : a.eval x = .map (mb A)) (hS : St t w g (s :: H)) :
    (execOp a.eval o).run P w = .ok (.value (.int .i64 (m.length : Int))) w := by
  obtain ⟨b, es, cl, rfl, rfl, hr, _⟩ := h
  have hb := hS.blk
  have hl := hr.len
  rw [Array.length_toList] at hl
  simp [execOp, ho, resolve, invoke, builtin, hx, mb, Builtin.len_, run_underlying hT, MapKept.run_getObj_map hb, Result.andThen, goInt, hl]
theorem set_turn {b : Nat} {o1 o2 : Obj} (hS : St t w f ([(b, o1)] :: H)) : St t { w with heap := w.heap.setIfInBounds b o2 } f ([(b, o2)] :: H) :=
  hS.turn rfl rfl rfl (fun j hj x hx => by rw [← hx]; exact (heap_set (o' := o2) hS.blk).2 j hj) (heap_set hS.blk).1
theorem does_mapUpdateR {T kt Et : TypeId} {E : Nat} {x y u : Operand} {m : List (Int × α)} {k : Int} {v : α} {cs : List Value} (ho : o.op = .mapUpdate T x y u) (hT : P.underlying T = some (.map kt Et)) (hk : P.underlying kt = some (.int .i64))
    (hx : a.eval x = .map (mb A)) (hy : a.eval y = .int .i64 k) (hu : a.eval u = .agg cs.toArray) (hr : e.rep f cs v) (h : OwnM e E f A c s m) (hS : St t w f (s :: H))
    (hK : ∀ w' s', St t w' f (s' :: H) → OwnM e E f A c s' (mput m k v) → K' undef w') : Does P a w o K' := by
  obtain ⟨b, es, cl, rfl, rfl, hE, hst⟩ := h
  have hkey : IsKey (.int .i64) (.int .i64 k) := by simp [IsKey]
  have hb := hS.blk
  have hr' : e.rep f cs.toArray.toList v := by simpa using hr
  cases hf : mfind m k with
  | none =>
    obtain ⟨h1, h2, _⟩ := e_none hE hf
    refine does_skip (w' := { w with heap := w.heap.setIfInBounds b (.map (es.push { key := .int .i64 k, val := .agg cs.toArray, born := cl }) (cl + 1)) }) ?_ (hK _ _ (set_turn hS) ⟨b, _, _, rfl, rfl, ?_, stamped_push hst (fun x hx => h2 x hx)⟩)
    · have hl : (Instr.mapUpdate T (.map (some b)) (.int .i64 k) (.agg cs.toArray)).run P w = .ok () { w with heap := w.heap.setIfInBounds b (.map (es.push { key := .int .i64 k, val := .agg cs.toArray, born := cl }) (cl + 1)) } := by
        simp [Instr.mapUpdate, run_underlying hT, MapKept.run_getObj_map hb, MapKept.run_checkKey hk hkey, MapKept.run_findKey hk (h1 0), MapKept.run_setObj_map _ hb, Result.andThen]
      simp [execOp, ho, hx, hy, hu, mb, hl]
    · rw [Array.toList_push]
      exact e_push hr' hE hf
  | some v0 =>
    obtain ⟨q, x0, cs0, h1, h2, h3, h4, h5, h6, _⟩ := e_some hE hf
    have h5' := h5 0
    rw [Nat.zero_add] at h5'
    have hj : es[q]? = some x0 := by simpa using h1
    have hmod : (es.modify q fun y => { y with key := .int .i64 k, val := .agg cs.toArray }).toList = es.toList.modify q fun y => { y with key := .int .i64 k, val := .agg cs.toArray } := Array.toList_modify
    refine does_skip (w' := { w with heap := w.heap.setIfInBounds b (.map (es.modify q fun y => { y with key := .int .i64 k, val := .agg cs.toArray }) cl) }) ?_ (hK _ _ (set_turn hS) ⟨b, _, _, rfl, rfl, ?_, stamped_modify hst q _ (fun _ _ => rfl) (fun y _ hy => ?_)⟩)
    · have hl : (Instr.mapUpdate T (.map (some b)) (.int .i64 k) (.agg cs.toArray)).run P w = .ok () { w with heap := w.heap.setIfInBounds b (.map (es.modify q fun y => { y with key := .int .i64 k, val := .agg cs.toArray }) cl) } := by
        simp [Instr.mapUpdate, run_underlying hT, MapKept.run_getObj_map hb, MapKept.run_checkKey hk hkey, MapKept.run_findKey hk h5', hj, h2, run_keyThatStays hkey, MapKept.run_setObj_map _ hb, Result.andThen]
      simp [execOp, ho, hx, hy, hu, mb, hl]
    · rw [hmod]; exact h6 v cs.toArray hr'
    · rw [hj] at hy; injection hy with hy; subst hy; exact h2.symm
theorem does_deleteR {T kt Et kt' : TypeId} {E : Nat} {x y : Operand} {m : List (Int × α)} {k : Int} (ho : o.op = .call { callee := .builtin .delete, args := #[x, y], argTypes := #[T, kt'] }) (hT : P.underlying T = some (.map kt Et)) (hk : P.underlying kt = some (.int .i64))
    (hx : a.eval x = .map (mb A)) (hy : a.eval y = .int .i64 k) (h : OwnM e E f A c s m) (hS : St t w f (s :: H))
    (hK : ∀ w' s', St t w' f (s' :: H) → OwnM e E f A c s' (merase m k) → K' (.tuple #[]) w') : Does P a w o K' := by
  obtain ⟨b, es, cl, rfl, rfl, hE, hst⟩ := h
  have hkey : IsKey (.int .i64) (.int .i64 k) := by simp [IsKey]
  have hb := hS.blk
  cases hf : mfind m k with
  | none =>
    obtain ⟨h1, h2, h3⟩ := e_none hE hf
    refine does_run (v := .tuple #[]) (w' := { w with heap := w.heap.setIfInBounds b (.map es cl) }) ?_ (hK _ _ (set_turn hS) ⟨b, _, _, rfl, rfl, by rw [h3]; exact hE, hst⟩)
    simp [execOp, ho, resolve, invoke, builtin, hx, hy, mb, Builtin.delete_, run_underlying hT, MapKept.run_getObj_map hb, MapKept.run_checkKey hk hkey, MapKept.run_findKey hk (h1 0), MapKept.run_setObj_map _ hb, Result.andThen]
  | some v0 =>
    obtain ⟨q, x0, cs0, h1, h2, h3, h4, h5, _, h7⟩ := e_some hE hf
    have h5' := h5 0
    rw [Nat.zero_add] at h5'
    have hq : q < es.size := by
      have := (List.getElem?_eq_some_iff.mp h1).1
      simpa using this
    have he : (es.eraseIdxIfInBounds q).toList = es.toList.eraseIdx q := by
      unfold Array.eraseIdxIfInBounds
      rw [dif_pos hq]
      simp [Array.toList_eraseIdx]
    refine does_run (v := .tuple #[]) (w' := { w with heap := w.heap.setIfInBounds b (.map (es.eraseIdxIfInBounds q) cl) }) ?_ (hK _ _ (set_turn hS) ⟨b, _, _, rfl, rfl, by rw [he]; exact h7, stamped_erase hst q⟩)
    simp [execOp, ho, resolve, invoke, builtin, hx, hy, mb, Builtin.delete_, run_underlying hT, MapKept.run_getObj_map hb, MapKept.run_checkKey hk hkey, MapKept.run_findKey hk h5', MapKept.run_setObj_map _ hb, Result.andThen]
end
end Go.Sp
