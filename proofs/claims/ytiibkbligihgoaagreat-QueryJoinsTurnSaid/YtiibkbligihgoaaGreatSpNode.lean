/- Records behind pointers: that stay (tPtr; such that hold pointers to their like: Fix), of the walk's own, and maps from whole numbers to pointers to records: of records of the walk's own (OwnMB), of records that stay (OwnMF). -/
import Derived.Test.YtiibkbligihgoaaGreatSpMapR
namespace Go.Sp
open Go Go.MapKept
set_option linter.unusedVariables false
set_option linter.unusedSimpArgs false
section
variable {α : Type}
def tBot : Ty α := ⟨1, fun _ _ _ => False, by decide, fun h => h.elim, fun _ h => h, fun h => h.elim⟩
def tPtr (T : Nat) (e : Ty α) : Ty α where
  sz := 1
  rep := fun f cs x => ∃ b arr fr, cs = [.pointer (some ⟨b, 0, none⟩)] ∧ f b = some (.cells arr T fr) ∧ e.rep f arr.toList x
  pos := by decide
  len := by rintro f cs x ⟨b, arr, fr, rfl, _⟩; rfl
  mono := by rintro f g cs x hl ⟨b, arr, fr, rfl, h1, h2⟩; exact ⟨b, arr, fr, rfl, hl _ _ h1, e.mono hl h2⟩
  one := by
    rintro f cs x ⟨b, arr, fr, rfl, _⟩ v hv
    simp only [List.mem_cons, List.not_mem_nil, or_false] at hv
    rcases hv with rfl <;> rfl
def tLe (s t : Ty α) : Prop := s.sz = t.sz ∧ ∀ f cs x, s.rep f cs x → t.rep f cs x
theorem Reps.le {s t : Ty α} (h : tLe s t) {f : FM} : ∀ {xs : List α} {cs : List Value}, Reps s f cs xs → Reps t f cs xs
  | [], _, h1 => h1
  | x :: xs, _, ⟨c, cs', e, h1, h2⟩ => ⟨c, cs', e, h.2 _ _ _ h1, Reps.le h h2⟩
theorem SlR.sub {s t : Ty α} (h : tLe s t) {f : FM} {A : Option Addr} {c : Nat} {xs : List α} (h1 : SlR s f A c xs) : SlR t f A c xs := by
  refine ⟨h1.1, h1.2.imp id ?_⟩
  rintro ⟨b, off, arr, et, fr, cs, rfl, hb, hr, hc⟩
  exact ⟨b, off, arr, et, fr, cs, rfl, hb, hr.le h, hc⟩
structure Fix (α : Type) where
  T : Nat
  G : Ty α → Ty α
  up : ∀ {s t : Ty α}, tLe s t → tLe (G s) (G t)
def Fix.n (F : Fix α) : Nat → Ty α
  | 0 => tBot
  | d + 1 => tPtr F.T (F.G (F.n d))
theorem Fix.sz (F : Fix α) : ∀ d, (F.n d).sz = 1
  | 0 => rfl
  | _ + 1 => rfl
theorem Fix.step (F : Fix α) : ∀ d, tLe (F.n d) (F.n (d + 1))
  | 0 => ⟨rfl, fun f cs x h => h.elim⟩
  | d + 1 => ⟨rfl, by
      rintro f cs x ⟨b, arr, fr, rfl, h1, h2⟩
      exact ⟨b, arr, fr, rfl, h1, (F.up (F.step d)).2 _ _ _ h2⟩⟩
theorem Fix.le (F : Fix α) {d d' : Nat} (h : d ≤ d') : tLe (F.n d) (F.n d') := by
  induction h with
  | refl => exact ⟨rfl, fun _ _ _ h => h⟩
  | step _ ih => exact ⟨ih.1.trans (F.step _).1, fun f cs x h => (F.step _).2 f cs x (ih.2 f cs x h)⟩
def Fix.t (F : Fix α) : Ty α where
  sz := 1
  rep := fun f cs x => ∃ d, (F.n d).rep f cs x
  pos := by decide
  len := by rintro f cs x ⟨d, h⟩; rw [(F.n d).len h, F.sz]
  mono := by rintro f g cs x hl ⟨d, h⟩; exact ⟨d, (F.n d).mono hl h⟩
  one := by rintro f cs x ⟨d, h⟩; exact (F.n d).one h
theorem Fix.n_le (F : Fix α) (d : Nat) : tLe (F.n d) F.t := ⟨F.sz d, fun f cs x h => ⟨d, h⟩⟩
theorem Fix.reps (F : Fix α) {f : FM} : ∀ {xs : List α} {cs : List Value}, Reps F.t f cs xs → ∃ d, Reps (F.n d) f cs xs
  | [], _, h => ⟨0, h⟩
  | x :: xs, _, ⟨c, cs', e, ⟨d1, h1⟩, h2⟩ => by
    obtain ⟨d2, h2⟩ := F.reps h2
    exact ⟨max d1 d2, c, cs', e, (F.le (Nat.le_max_left d1 d2)).2 _ _ _ h1, h2.le (F.le (Nat.le_max_right d1 d2))⟩
theorem Fix.slr (F : Fix α) {f : FM} {A : Option Addr} {c : Nat} {xs : List α} (h : SlR F.t f A c xs) : ∃ d, SlR (F.n d) f A c xs := by
  obtain ⟨h1, h2⟩ := h
  rcases h2 with h2 | ⟨b, off, arr, et, fr, cs, rfl, hb, hr, hc⟩
  · exact ⟨0, h1, .inl h2⟩
  · obtain ⟨d, hr⟩ := F.reps hr
    exact ⟨d, h1, .inr ⟨b, off, arr, et, fr, cs, rfl, hb, hr, hc⟩⟩
theorem Fix.opened (F : Fix α) {f : FM} {cs : List Value} {x : α} (h : F.t.rep f cs x) : (tPtr F.T (F.G F.t)).rep f cs x := by
  obtain ⟨d, h⟩ := h
  cases d with
  | zero => exact h.elim
  | succ d =>
    obtain ⟨b, arr, fr, rfl, h1, h2⟩ := h
    exact ⟨b, arr, fr, rfl, h1, (F.up (F.n_le d)).2 _ _ _ h2⟩
theorem arr_of {arr : Array Value} {l : List Value} (h : arr.toList = l) : arr = l.toArray := by rw [← h]
theorem head_of {u v : Value} (h : [u] = [v]) : u = v := (List.cons.inj h).1
structure RecK (α : Type) where
  T : Nat
  p : Ty α
  own : FM → Nat → Seg → α → Prop
  mono : ∀ {f g : FM} {b : Nat} {s : Seg} {x : α}, own f b s x → FM.le f g → own g b s x
  freeze : ∀ {t w : World} {f : FM} {H : List Seg} {b : Nat} {s : Seg} {x : α}, own f b s x → St t w f (s :: H) → ∃ g, FM.le f g ∧ St t w g H ∧ p.rep g [.pointer (some ⟨b, 0, none⟩)] x
variable {R : RecK α} {P : Program} {t w : World} {f g : FM} {H : List Seg} {a : Act} {o : Oper} {K' : Value → World → Prop} {A : Option Addr} {c : Nat} {s : Seg}
def MB (R : RecK α) (f : FM) : List MapEntry → List (Int × α) → List Seg → Prop
  | [], [], ss => ss = []
  | x :: es, p :: m, ss => ∃ b s ss', ss = s :: ss' ∧ x.key = .int .i64 p.1 ∧ x.val = .pointer (some ⟨b, 0, none⟩) ∧ R.own f b s p.2 ∧ MB R f es m ss'
  | _, _, _ => False
theorem MB.mono (hl : FM.le f g) : ∀ {es : List MapEntry} {m : List (Int × α)} {ss : List Seg}, MB R f es m ss → MB R g es m ss
  | [], [], _, h => h
  | x :: es, p :: m, _, ⟨b, s, ss', e, h1, h2, h3, h4⟩ => ⟨b, s, ss', e, h1, h2, R.mono h3 hl, MB.mono hl h4⟩
  | [], _ :: _, _, h => h.elim
  | _ :: _, [], _, h => h.elim
theorem mb_none {k : Int} : ∀ {es : List MapEntry} {m : List (Int × α)} {ss : List Seg}, MB R f es m ss → mfind m k = none → (∀ j, Instr.findNow (.int .i64) (.int .i64 k) es j = some none) ∧ (∀ x ∈ es, x.key ≠ .int .i64 k) ∧
    ∀ {b : Nat} {s : Seg} {v : α} {bn : Nat}, R.own f b s v → MB R f (es ++ [⟨.int .i64 k, .pointer (some ⟨b, 0, none⟩), bn⟩]) (mput m k v) (ss ++ [s])
  | [], [], _, h, _ => ⟨fun _ => rfl, by simp, fun {b s v bn} hv => by
      have h : _ = _ := h
      subst h
      exact ⟨b, s, [], rfl, rfl, rfl, hv, rfl⟩⟩
  | x :: es, p :: m, _, ⟨b0, s0, ss', e, h1, h2, h3, h4⟩, hf => by
    subst e
    rw [mfind] at hf
    by_cases c : p.1 = k
    · rw [if_pos c] at hf; cases hf
    · rw [if_neg c] at hf
      obtain ⟨g1, g2, g3⟩ := mb_none h4 hf
      refine ⟨fun j => ?_, fun y hy => ?_, fun {b s v bn} hv => ?_⟩
      · rw [Instr.findNow, h1, sameNow_int, beq_eq_false_iff_ne.mpr (fun q => c q.symm)]
        exact g1 _
      · rcases List.mem_cons.mp hy with rfl | hy
        · rw [h1]; intro q; injection q with _ q; exact c q
        · exact g2 y hy
      · rw [mput, if_neg c]
        exact ⟨b0, s0, ss' ++ [s], rfl, h1, h2, h3, g3 hv⟩
  | [], _ :: _, _, h, _ => h.elim
  | _ :: _, [], _, h, _ => h.elim
theorem mb_some {k : Int} {v : α} : ∀ {es : List MapEntry} {m : List (Int × α)} {ss : List Seg}, MB R f es m ss → mfind m k = some v → ∃ q b sb s1 s2, ss = s1 ++ sb :: s2 ∧ R.own f b sb v ∧ (∀ j, Instr.findNow (.int .i64) (.int .i64 k) es j = some (some (j + q, .pointer (some ⟨b, 0, none⟩)))) ∧
    ∀ {g : FM} {sb' : Seg} {v' : α}, FM.le f g → R.own g b sb' v' → MB R g es (mput m k v') (s1 ++ sb' :: s2)
  | [], [], _, _, hf => by rw [mfind] at hf; cases hf
  | x :: es, p :: m, _, ⟨b0, s0, ss', e, h1, h2, h3, h4⟩, hf => by
    subst e
    rw [mfind] at hf
    by_cases c : p.1 = k
    · rw [if_pos c] at hf
      injection hf with hf
      rw [hf] at h3
      refine ⟨0, b0, s0, [], ss', rfl, h3, fun j => ?_, fun {g sb' v'} hl hv => ?_⟩
      · rw [Instr.findNow, h1, sameNow_int, beq_iff_eq.mpr c.symm, h2]; rfl
      · rw [mput, if_pos c]
        exact ⟨b0, sb', ss', rfl, by rw [h1, c], h2, hv, h4.mono hl⟩
    · rw [if_neg c] at hf
      obtain ⟨q, b, sb, s1, s2, e, g1, g2, g3⟩ := mb_some h4 hf
      refine ⟨q + 1, b, sb, s0 :: s1, s2, by rw [e]; rfl, g1, fun j => ?_, fun {g sb' v'} hl hv => ?_⟩
      · rw [Instr.findNow, h1, sameNow_int, beq_eq_false_iff_ne.mpr (fun q => c q.symm)]
        show Instr.findNow _ _ _ (j + 1) = _
        rw [g2, show j + 1 + q = j + (q + 1) by omega]
      · rw [mput, if_neg c]
        exact ⟨b0, s0, s1 ++ sb' :: s2, rfl, h1, h2, R.mono h3 hl, g3 hl hv⟩
  | [], _ :: _, _, h, _ => h.elim
  | _ :: _, [], _, h, _ => h.elim
def OwnMB (R : RecK α) (E : Nat) (f : FM) (A : Option Addr) (c : Nat) (s : Seg) (m : List (Int × α)) : Prop :=
  ∃ bm es clock ss, A = some ⟨bm, 0, none⟩ ∧ s.Perm ((bm, .map es clock) :: ss.flatten) ∧ MB R f es.toList m ss ∧ Stamped es clock
theorem OwnMB.mono {E : Nat} {m : List (Int × α)} (h : OwnMB R E f A c s m) (hl : FM.le f g) : OwnMB R E g A c s m := by
  obtain ⟨b, es, cl, ss, h1, h2, h3, h4⟩ := h
  exact ⟨b, es, cl, ss, h1, h2, h3.mono hl, h4⟩
theorem St.permFront {s s' : Seg} (h : St t w f (s :: H)) (hp : s.Perm s') : St t w f (s' :: H) := h.perm (by rw [flat_cons, flat_cons]; exact hp.append_right _)
theorem does_makeMapB {T : TypeId} (R : RecK α) (E : Nat) (ho : o.op = .makeMap T none) (hS : St t w f H)
    (hK : ∀ b w' s, St t w' f (s :: H) → OwnMB R E f (some ⟨b, 0, none⟩) 0 s [] → K' (.map (mb (some ⟨b, 0, none⟩))) w') : Does P a w o K' := by
  refine does_run (v := .map (some w.heap.size)) (w' := w.alloc (.map #[] 0)) ?_ (hK w.heap.size _ _ (hS.alloc _) ⟨_, #[], 0, [], rfl, List.Perm.refl _, rfl, stamped_empty 0⟩)
  simp [execOp, ho, Instr.makeMap, alloc_eq]
theorem zero_ptr {Et : TypeId} {w : World} (hz : (P.info? Et).bind (·.zero) = some (.pointer none)) : (zeroValue Et).run P w = .ok (.pointer none) w := by
  cases hi : P.info? Et with
  | none => rw [hi] at hz; cases hz
  | some i =>
    rw [hi] at hz
    have hz' : i.zero = some (.pointer none) := hz
    simp [zeroValue, typeInfo, hi, hz']
theorem run_lookB {E : Nat} {m : List (Int × α)} {T kt Et : TypeId} {x y : Operand} {k : Int} (h : OwnMB R E f A c s m) (hn : (mfind m k).isSome = false) (ho : o.op = .lookup T x y false) (hT : P.underlying T = some (.map kt Et)) (hk : P.underlying kt = some (.int .i64))
    (hz : (P.info? Et).bind (·.zero) = some (.pointer none)) (hx : a.eval x = .map (mb A)) (hy : a.eval y = .int .i64 k) (hS : St t w g (s :: H)) : (execOp a.eval o).run P w = .ok (.value (.pointer none)) w := by
  obtain ⟨bm, es, cl, ss, rfl, hp, hM, _⟩ := h
  have hkey : IsKey (.int .i64) (.int .i64 k) := by simp [IsKey]
  have hb := ((hS.permFront hp).front (p := (bm, .map es cl)) (by simp)).1
  have hf : mfind m k = none := by cases h : mfind m k with
    | none => rfl
    | some v => rw [h] at hn; cases hn
  obtain ⟨h1, _⟩ := mb_none hM hf
  have hl : (Instr.lookup T (.map (some bm)) (.int .i64 k) false).run P w = .ok (.pointer none) w := by
    simp [Instr.lookup, run_underlying hT, MapKept.run_getObj_map hb, MapKept.run_checkKey hk hkey, MapKept.run_findKey hk (h1 0), zero_ptr hz, Result.andThen]
  simp [execOp, ho, hx, hy, mb, hl]
theorem OwnMB.open {E : Nat} {m : List (Int × α)} {z : α} {k : Int} (h : OwnMB R E f A c s m) (hn : (mfind m k).isSome = true) (hS : St t w f (s :: H)) : ∃ b sb s0, St t w f (sb :: s0 :: H) ∧ R.own f b sb (mget z m k) ∧
    (∀ {T kt Et : TypeId} {x y : Operand} {o : Oper} {a : Act} {t w : World} {g : FM} {H : List Seg}, o.op = .lookup T x y false → P.underlying T = some (.map kt Et) → P.underlying kt = some (.int .i64) → a.eval x = .map (mb A) → a.eval y = .int .i64 k → St t w g (s0 :: H) → (execOp a.eval o).run P w = .ok (.value (.pointer (some ⟨b, 0, none⟩))) w) ∧
    ∀ {g : FM} {sb' : Seg} {v' : α}, FM.le f g → R.own g b sb' v' → OwnMB R E g A c (sb' ++ s0) (mput m k v') := by
  obtain ⟨bm, es, cl, ss, rfl, hp, hM, hst⟩ := h
  have hkey : IsKey (.int .i64) (.int .i64 k) := by simp [IsKey]
  unfold mget
  cases hf : mfind m k with
  | none => rw [hf] at hn; cases hn
  | some v =>
    obtain ⟨q, b, sb, s1, s2, rfl, g1, g2, g3⟩ := mb_some hM hf
    have pp : ∀ sx : Seg, (sx ++ ((bm, Obj.map es cl) :: (s1 ++ s2).flatten)).Perm ((bm, .map es cl) :: (s1 ++ sx :: s2).flatten) := by
      intro sx
      refine List.perm_middle.trans (List.Perm.cons _ ?_)
      rw [List.flatten_append, List.flatten_append, List.flatten_cons]
      exact List.perm_append_comm_assoc _ _ _
    refine ⟨b, sb, (bm, .map es cl) :: (s1 ++ s2).flatten, ?_, g1, fun {T kt Et x y o a t w g H} ho hT hk hx hy hS => ?_, fun {g sb' v'} hl hv => ⟨bm, es, cl, s1 ++ sb' :: s2, rfl, pp sb', g3 hl hv, hst⟩⟩
    · refine hS.perm ?_
      rw [flat_cons, flat_cons, flat_cons, ← List.append_assoc]
      exact (hp.trans (pp sb).symm).append_right _
    · have hb := (hS.front (p := (bm, .map es cl)) (by simp)).1
      have hl : (Instr.lookup T (.map (some bm)) (.int .i64 k) false).run P w = .ok (.pointer (some ⟨b, 0, none⟩)) w := by
        simp [Instr.lookup, run_underlying hT, MapKept.run_getObj_map hb, MapKept.run_checkKey hk hkey, MapKept.run_findKey hk (g2 0), Result.andThen]
      simp [execOp, ho, hx, hy, mb, hl]
theorem does_mapPutB {T kt Et : TypeId} {E : Nat} {x y u : Operand} {m : List (Int × α)} {k : Int} {v : α} {b : Nat} {sb : Seg} (ho : o.op = .mapUpdate T x y u) (hT : P.underlying T = some (.map kt Et)) (hk : P.underlying kt = some (.int .i64))
    (hx : a.eval x = .map (mb A)) (hy : a.eval y = .int .i64 k) (hu : a.eval u = .pointer (some ⟨b, 0, none⟩)) (hr : R.own f b sb v) (hn : (mfind m k).isSome = false) (h : OwnMB R E f A c s m) (hS : St t w f (s :: sb :: H))
    (hK : ∀ w' s', St t w' f (s' :: H) → OwnMB R E f A c s' (mput m k v) → K' undef w') : Does P a w o K' := by
  obtain ⟨bm, es, cl, ss, rfl, hp, hM, hst⟩ := h
  have hkey : IsKey (.int .i64) (.int .i64 k) := by simp [IsKey]
  have hS2 := hS.permFront hp
  have hf : mfind m k = none := by cases h : mfind m k with
    | none => rfl
    | some v => rw [h] at hn; cases hn
  obtain ⟨h1, h2, h3⟩ := mb_none hM hf
  have hS3 : St t w f ([(bm, .map es cl)] :: (ss.flatten ++ sb) :: H) := hS2.perm (by simp [flat])
  have hb := hS3.blk
  have hS4 := set_turn (o2 := .map (es.push { key := .int .i64 k, val := .pointer (some ⟨b, 0, none⟩), born := cl }) (cl + 1)) hS3
  refine does_skip (w' := { w with heap := w.heap.setIfInBounds bm (.map (es.push { key := .int .i64 k, val := .pointer (some ⟨b, 0, none⟩), born := cl }) (cl + 1)) }) ?_ (hK _ ((bm, .map (es.push { key := .int .i64 k, val := .pointer (some ⟨b, 0, none⟩), born := cl }) (cl + 1)) :: (ss.flatten ++ sb)) (hS4.perm (by simp [flat])) ⟨bm, es.push { key := .int .i64 k, val := .pointer (some ⟨b, 0, none⟩), born := cl }, cl + 1, ss ++ [sb], rfl, List.Perm.of_eq (by simp), ?_, stamped_push hst (fun x hx => h2 x hx)⟩)
  · have hl : (Instr.mapUpdate T (.map (some bm)) (.int .i64 k) (.pointer (some ⟨b, 0, none⟩))).run P w = .ok () { w with heap := w.heap.setIfInBounds bm (.map (es.push { key := .int .i64 k, val := .pointer (some ⟨b, 0, none⟩), born := cl }) (cl + 1)) } := by
      simp [Instr.mapUpdate, run_underlying hT, MapKept.run_getObj_map hb, MapKept.run_checkKey hk hkey, MapKept.run_findKey hk (h1 0), MapKept.run_setObj_map _ hb, Result.andThen]
    simp [execOp, ho, hx, hy, hu, mb, hl]
  · rw [Array.toList_push]
    exact h3 hr
def ERepP (e : Ty α) (f : FM) : List MapEntry → List (Int × α) → Prop
  | [], [] => True
  | x :: es, p :: m => x.key = .int .i64 p.1 ∧ e.rep f [x.val] p.2 ∧ ERepP e f es m
  | _, _ => False
variable {e : Ty α}
theorem ERepP.mono (hl : FM.le f g) : ∀ {es : List MapEntry} {m : List (Int × α)}, ERepP e f es m → ERepP e g es m
  | [], [], _ => trivial
  | x :: es, p :: m, h => ⟨h.1, e.mono hl h.2.1, ERepP.mono hl h.2.2⟩
  | [], _ :: _, h => h.elim
  | _ :: _, [], h => h.elim
theorem ERepP.len : ∀ {es : List MapEntry} {m : List (Int × α)}, ERepP e f es m → es.length = m.length
  | [], [], _ => rfl
  | x :: es, p :: m, h => by simp [ERepP.len h.2.2]
  | [], _ :: _, h => h.elim
  | _ :: _, [], h => h.elim
theorem p_some {k : Int} {v : α} : ∀ {es : List MapEntry} {m : List (Int × α)}, ERepP e f es m → mfind m k = some v → ∃ q u, e.rep f [u] v ∧ ∀ j, Instr.findNow (.int .i64) (.int .i64 k) es j = some (some (j + q, u))
  | [], [], _, hf => by rw [mfind] at hf; cases hf
  | x :: es, p :: m, h, hf => by
    rw [mfind] at hf
    by_cases c : p.1 = k
    · rw [if_pos c] at hf
      injection hf with hf
      have h2 := h.2.1
      rw [hf] at h2
      refine ⟨0, x.val, h2, fun j => ?_⟩
      rw [Instr.findNow, h.1, sameNow_int, beq_iff_eq.mpr c.symm]; rfl
    · rw [if_neg c] at hf
      obtain ⟨q, u, g1, g2⟩ := p_some h.2.2 hf
      refine ⟨q + 1, u, g1, fun j => ?_⟩
      rw [Instr.findNow, h.1, sameNow_int, beq_eq_false_iff_ne.mpr (fun q => c q.symm)]
      show Instr.findNow _ _ _ (j + 1) = _
      rw [g2, show j + 1 + q = j + (q + 1) by omega]
  | [], _ :: _, h, _ => h.elim
  | _ :: _, [], h, _ => h.elim
def OwnMF (e : Ty α) (E : Nat) (f : FM) (A : Option Addr) (c : Nat) (s : Seg) (m : List (Int × α)) : Prop :=
  ∃ b es clock, A = some ⟨b, 0, none⟩ ∧ s = [(b, .map es clock)] ∧ ERepP e f es.toList m ∧ Stamped es clock
theorem OwnMF.mono {E : Nat} {m : List (Int × α)} (h : OwnMF e E f A c s m) (hl : FM.le f g) : OwnMF e E g A c s m := by
  obtain ⟨b, es, cl, h1, h2, h3, h4⟩ := h
  exact ⟨b, es, cl, h1, h2, h3.mono hl, h4⟩
theorem OwnMF.look {E : Nat} {m : List (Int × α)} {z : α} {k : Int} (h : OwnMF e E f A c s m) (hn : (mfind m k).isSome = true) : ∃ u, e.rep f [u] (mget z m k) ∧
    ∀ {T kt Et : TypeId} {x y : Operand} {o : Oper} {a : Act} {t w : World} {g : FM} {H : List Seg}, o.op = .lookup T x y false → P.underlying T = some (.map kt Et) → P.underlying kt = some (.int .i64) → a.eval x = .map (mb A) → a.eval y = .int .i64 k → St t w g (s :: H) → (execOp a.eval o).run P w = .ok (.value u) w := by
  obtain ⟨bm, es, cl, rfl, rfl, hE, _⟩ := h
  have hkey : IsKey (.int .i64) (.int .i64 k) := by simp [IsKey]
  unfold mget
  cases hf : mfind m k with
  | none => rw [hf] at hn; cases hn
  | some v =>
    obtain ⟨q, u, g1, g2⟩ := p_some hE hf
    refine ⟨u, g1, fun {T kt Et x y o a t w g H} ho hT hk hx hy hS => ?_⟩
    have hb := hS.blk
    have hl : (Instr.lookup T (.map (some bm)) (.int .i64 k) false).run P w = .ok u w := by
      simp [Instr.lookup, run_underlying hT, MapKept.run_getObj_map hb, MapKept.run_checkKey hk hkey, MapKept.run_findKey hk (g2 0), Result.andThen]
    simp [execOp, ho, hx, hy, mb, hl]
theorem mb_freeze : ∀ {es : List MapEntry} {m : List (Int × α)} {ss : List Seg} {f : FM}, MB R f es m ss → St t w f (ss ++ H) → ∃ g, FM.le f g ∧ St t w g H ∧ ERepP R.p g es m
  | [], [], _, f, h, hS => by
    have h : _ = _ := h
    subst h
    exact ⟨f, FM.le.refl _, hS, trivial⟩
  | x :: es, p :: m, _, f, ⟨b, s, ss', e, h1, h2, h3, h4⟩, hS => by
    subst e
    obtain ⟨g1, l1, S1, r1⟩ := R.freeze h3 (show St t w f (s :: (ss' ++ H)) from hS)
    obtain ⟨g2, l2, S2, r2⟩ := mb_freeze (h4.mono l1) S1
    exact ⟨g2, l1.trans l2, S2, h1, by rw [h2]; exact R.p.mono l2 r1, r2⟩
  | [], _ :: _, _, _, h, _ => h.elim
  | _ :: _, [], _, _, h, _ => h.elim
theorem OwnMB.freeze {E : Nat} {m : List (Int × α)} (h : OwnMB R E f A c s m) (hS : St t w f (s :: H)) : ∃ g s', FM.le f g ∧ St t w g (s' :: H) ∧ OwnMF R.p E g A c s' m := by
  obtain ⟨bm, es, cl, ss, rfl, hp, hM, hst⟩ := h
  have hS2 := hS.permFront hp
  have hS3 : St t w f (ss ++ ([(bm, .map es cl)] :: H)) := hS2.perm (by
    simp only [flat, List.flatten_cons, List.flatten_append, List.cons_append, List.nil_append]
    exact List.perm_middle.symm)
  obtain ⟨g, l, S, r⟩ := mb_freeze hM hS3
  exact ⟨g, _, l, S, bm, es, cl, rfl, rfl, r, hst⟩
end
end Go.Sp
