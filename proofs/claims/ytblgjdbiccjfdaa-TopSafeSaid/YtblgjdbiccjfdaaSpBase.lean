/-
  The memory logic of this session: what a world holds, parted into memory that stays ('FM') and rows of the walk's own ('Seg').
-/
import Derived.Orders
import Derived.Below
import Derived.Deep.LoopGhost
import Derived.Laws.AppendOwn
import Derived.Laws.MakeOwn
import Derived.Laws.Slices
import Derived.Laws.Cells
import Derived.Laws.Rows
import Derived.KernelRfl
namespace Go.Sp
open Go Go.RowKit
set_option linter.unusedVariables false
abbrev FM := Nat → Option Obj
def FM.le (f g : FM) : Prop := ∀ b o, f b = some o → g b = some o
theorem FM.le.refl (f : FM) : FM.le f f := fun _ _ h => h
theorem FM.le.trans {f g h : FM} (a : FM.le f g) (b : FM.le g h) : FM.le f h := fun x o e => b x o (a x o e)
abbrev Seg := List (Nat × Obj)
def flat (H : List Seg) : Seg := H.flatten
structure St (t w : World) (f : FM) (H : List Seg) : Prop where
  os : w.os = t.os
  tape : w.tape = t.tape
  out : w.output = t.output
  fz : ∀ b o, f b = some o → w.heap[b]? = some o
  own : ∀ p, p ∈ flat H → w.heap[p.1]? = some p.2 ∧ f p.1 = none
  nd : ((flat H).map Prod.fst).Nodup
def FM.add (f : FM) (g : Nat) (o : Obj) : FM := fun b => if b = g then some o else f b
theorem FM.le_add {f : FM} {g : Nat} {o : Obj} (h : f g = none) : FM.le f (f.add g o) := by
  intro b x hb
  unfold FM.add
  by_cases e : b = g
  · subst e; rw [h] at hb; cases hb
  · rw [if_neg e]; exact hb
theorem FM.add_self (f : FM) (g : Nat) (o : Obj) : f.add g o g = some o := by simp [FM.add]
theorem flat_cons (s : Seg) (H : List Seg) : flat (s :: H) = s ++ flat H := by simp [flat]
variable {t w w' : World} {f g : FM} {H H' : List Seg} {s s' : Seg}
theorem St.perm (h : St t w f H) (hp : (flat H).Perm (flat H')) : St t w f H' :=
  ⟨h.os, h.tape, h.out, h.fz, fun p hp' => h.own p (hp.mem_iff.mpr hp'), (hp.map Prod.fst).nodup_iff.mp h.nd⟩
theorem flat_perm {H H' : List Seg} (h : H.Perm H') : (flat H).Perm (flat H') := List.Perm.flatten h
theorem St.swap {s1 s2 : Seg} (h : St t w f (s1 :: s2 :: H)) : St t w f (s2 :: s1 :: H) := h.perm (flat_perm (List.Perm.swap ..))
theorem St.toFront (pre : List Seg) {s : Seg} (h : St t w f (pre ++ s :: H)) : St t w f (s :: (pre ++ H)) :=
  h.perm (flat_perm List.perm_middle)
theorem St.fromFront (pre : List Seg) {s : Seg} (h : St t w f (s :: (pre ++ H))) : St t w f (pre ++ s :: H) :=
  h.perm (flat_perm List.perm_middle.symm)
theorem St.nil_cons (h : St t w f ([] :: H)) : St t w f H := by
  have : flat ([] :: H) = flat H := by simp [flat]
  exact ⟨h.os, h.tape, h.out, h.fz, fun p hp => h.own p (by rw [this]; exact hp), by have := h.nd; simpa [flat] using this⟩
theorem St.cons_nil (h : St t w f H) : St t w f ([] :: H) := by
  have : flat ([] :: H) = flat H := by simp [flat]
  exact ⟨h.os, h.tape, h.out, h.fz, fun p hp => h.own p (by rw [this] at hp; exact hp), by simpa [flat] using h.nd⟩
theorem St.drop (h : St t w f (s :: H)) : St t w f H := by
  refine ⟨h.os, h.tape, h.out, h.fz, fun p hp => h.own p ?_, ?_⟩
  · rw [flat_cons]; exact List.mem_append_right _ hp
  · have := h.nd; rw [flat_cons, List.map_append] at this; exact (List.nodup_append.mp this).2.1
theorem St.front (h : St t w f (s :: H)) {p : Nat × Obj} (hp : p ∈ s) : w.heap[p.1]? = some p.2 ∧ f p.1 = none :=
  h.own p (by rw [flat_cons]; exact List.mem_append_left _ hp)
theorem St.blk {b : Nat} {o : Obj} (h : St t w f ([(b, o)] :: H)) : w.heap[b]? = some o := (h.front (p := (b, o)) (by simp)).1
theorem lt_of_some {w : World} {b : Nat} {o : Obj} (h : w.heap[b]? = some o) : b < w.heap.size := (Array.getElem?_eq_some_iff.mp h).1
theorem St.drew (h : St t w f H) : St t w.drew f H := ⟨h.os, h.tape, h.out, h.fz, h.own, h.nd⟩
theorem St.drawn (h : St t w f H) (n : Nat) : St t { w with drawn := n } f H := ⟨h.os, h.tape, h.out, h.fz, h.own, h.nd⟩
theorem St.alloc (h : St t w f H) (o : Obj) : St t (w.alloc o) f ([(w.heap.size, o)] :: H) := by
  have hold : ∀ b x, w.heap[b]? = some x → (w.alloc o).heap[b]? = some x := fun b x e => (heap_alloc_old w o b (lt_of_some e)).trans e
  refine ⟨h.os, h.tape, h.out, fun b x e => hold b x (h.fz b x e), ?_, ?_⟩
  · intro p hp
    rw [flat_cons] at hp
    rcases List.mem_append.mp hp with hp | hp
    · simp only [List.mem_singleton] at hp
      subst hp
      refine ⟨heap_alloc_new w o, ?_⟩
      cases e : f w.heap.size with
      | none => rfl
      | some x => exact absurd (lt_of_some (h.fz _ _ e)) (Nat.lt_irrefl _)
    · exact ⟨hold _ _ (h.own p hp).1, (h.own p hp).2⟩
  · rw [flat_cons]
    simp only [List.map_append, List.map_cons, List.map_nil, List.singleton_append, List.nodup_cons]
    refine ⟨?_, h.nd⟩
    intro hm
    obtain ⟨p, hp, e⟩ := List.mem_map.mp hm
    have := lt_of_some (h.own p hp).1
    omega
theorem St.turn {b : Nat} {o o' : Obj} (h : St t w f ([(b, o)] :: H)) (hos : w'.os = w.os) (htp : w'.tape = w.tape) (hout : w'.output = w.output)
    (hsame : ∀ k, k ≠ b → ∀ x, w.heap[k]? = some x → w'.heap[k]? = some x) (hb : w'.heap[b]? = some o') : St t w' f ([(b, o')] :: H) := by
  have hf := (h.front (p := (b, o)) (by simp)).2
  have hn := h.nd
  rw [flat_cons] at hn
  simp only [List.map_append, List.map_cons, List.map_nil, List.singleton_append, List.nodup_cons] at hn
  refine ⟨hos.trans h.os, htp.trans h.tape, hout.trans h.out, ?_, ?_, ?_⟩
  · intro k x e
    refine hsame k ?_ x (h.fz k x e)
    rintro rfl
    rw [hf] at e; cases e
  · intro p hp
    rw [flat_cons] at hp
    rcases List.mem_append.mp hp with hp | hp
    · simp only [List.mem_singleton] at hp
      subst hp
      exact ⟨hb, hf⟩
    · have hq := h.own p (by rw [flat_cons]; exact List.mem_append_right _ hp)
      refine ⟨hsame p.1 ?_ p.2 hq.1, hq.2⟩
      intro e
      exact hn.1 (List.mem_map.mpr ⟨p, hp, e⟩)
  · rw [flat_cons]
    simp only [List.map_append, List.map_cons, List.map_nil, List.singleton_append, List.nodup_cons]
    exact hn
theorem St.setCell {b : Nat} {cs : Array Value} {e : TypeId} {fr : Nat × Nat} (h : St t w f ([(b, .cells cs e fr)] :: H)) (j : Nat) (v : Value) :
    St t (w.setCell ⟨b, j, none⟩ v) f ([(b, .cells (cs.setIfInBounds j v) e fr)] :: H) := by
  refine h.turn rfl rfl rfl (fun k hk x hx => ?_) ?_
  · rw [Below.heap_setCell _ _ _ _ hk]; exact hx
  · simp only [World.setCell, Array.getElem?_modify, if_true]
    rw [h.blk]; simp
theorem St.freeze {b : Nat} {o : Obj} (h : St t w f ([(b, o)] :: H)) : St t w (f.add b o) H := by
  have hn := h.nd
  rw [flat_cons] at hn
  simp only [List.map_append, List.map_cons, List.map_nil, List.singleton_append, List.nodup_cons] at hn
  refine ⟨h.os, h.tape, h.out, ?_, ?_, hn.2⟩
  · intro k x e
    unfold FM.add at e
    by_cases hk : k = b
    · subst hk; rw [if_pos rfl] at e; rw [← e]; exact h.blk
    · rw [if_neg hk] at e; exact h.fz k x e
  · intro p hp
    have hq := h.own p (by rw [flat_cons]; exact List.mem_append_right _ hp)
    refine ⟨hq.1, ?_⟩
    unfold FM.add
    rw [if_neg ?_]
    · exact hq.2
    · intro e
      exact hn.1 (List.mem_map.mpr ⟨p, hp, e⟩)
theorem St.le_freeze {b : Nat} {o : Obj} (h : St t w f ([(b, o)] :: H)) : FM.le f (f.add b o) := FM.le_add (h.front (p := (b, o)) (by simp)).2
def FM.of (w : World) : FM := fun b => w.heap[b]?
theorem St.start (w : World) : St w w (FM.of w) [] := ⟨rfl, rfl, rfl, fun _ _ h => h, fun p hp => by simp [flat] at hp, by simp [flat]⟩
theorem St.ends {w0 : World} (h : St w0 w f H) (hf : FM.le (FM.of w0) f) : Below w0.heap.size w0 w := by
  have hb : ∀ k, k < w0.heap.size → w.heap[k]? = w0.heap[k]? := fun k hk => by
    have e : w0.heap[k]? = some w0.heap[k] := Array.getElem?_eq_getElem hk
    rw [e]; exact h.fz k _ (hf k _ e)
  refine ⟨h.os, h.tape, h.out, ?_, hb⟩
  rcases Nat.lt_or_ge w.heap.size w0.heap.size with hlt | hge
  · have e := hb w.heap.size hlt
    rw [Array.getElem?_eq_none (Nat.le_refl _), Array.getElem?_eq_getElem hlt] at e
    cases e
  · exact hge
structure Ty (α : Type) where
  sz : Nat
  rep : FM → List Value → α → Prop
  pos : 0 < sz
  len : ∀ {f cs x}, rep f cs x → cs.length = sz
  mono : ∀ {f g cs x}, FM.le f g → rep f cs x → rep g cs x
  one : ∀ {f cs x}, rep f cs x → ∀ v, v ∈ cs → v.oneCell' = true
def tInt (k : IntKind) : Ty Int := ⟨1, fun _ cs x => cs = [.int k x], by decide, by rintro _ _ _ rfl; rfl, fun _ h => h, by rintro _ _ _ rfl v hv; simp at hv; subst hv; rfl⟩
section
variable {α β : Type} {e : Ty α}
def Reps (e : Ty α) (f : FM) : List Value → List α → Prop
  | cs, [] => cs = []
  | cs, x :: xs => ∃ c cs', cs = c ++ cs' ∧ e.rep f c x ∧ Reps e f cs' xs
theorem Reps.length {cs : List Value} {xs : List α} (h : Reps e f cs xs) : cs.length = xs.length * e.sz := by
  induction xs generalizing cs with
  | nil => simp [Reps] at h; subst h; simp
  | cons x xs ih =>
    obtain ⟨c, cs', rfl, hc, h⟩ := h
    rw [List.length_append, e.len hc, ih h, List.length_cons, Nat.add_mul]; omega
theorem Reps.mono {cs : List Value} {xs : List α} (hl : FM.le f g) (h : Reps e f cs xs) : Reps e g cs xs := by
  induction xs generalizing cs with
  | nil => exact h
  | cons x xs ih => obtain ⟨c, cs', rfl, hc, h⟩ := h; exact ⟨c, cs', rfl, e.mono hl hc, ih h⟩
theorem Reps.one {cs : List Value} {xs : List α} (h : Reps e f cs xs) : ∀ v, v ∈ cs → v.oneCell' = true := by
  induction xs generalizing cs with
  | nil => simp [Reps] at h; subst h; simp
  | cons x xs ih =>
    obtain ⟨c, cs', rfl, hc, h⟩ := h
    intro v hv
    rcases List.mem_append.mp hv with hv | hv
    · exact e.one hc v hv
    · exact ih h v hv
theorem Reps.nil : Reps e f [] [] := rfl
theorem Reps.append {cs ds : List Value} {xs ys : List α} (h : Reps e f cs xs) (h2 : Reps e f ds ys) : Reps e f (cs ++ ds) (xs ++ ys) := by
  induction xs generalizing cs with
  | nil => simp [Reps] at h; subst h; exact h2
  | cons x xs ih => obtain ⟨c, cs', rfl, hc, h⟩ := h; exact ⟨c, cs' ++ ds, by rw [List.append_assoc], hc, ih h⟩
theorem Reps.single {c : List Value} {x : α} (h : e.rep f c x) : Reps e f c [x] := ⟨c, [], by simp, h, rfl⟩
theorem Reps.split {cs : List Value} {xs : List α} (h : Reps e f cs xs) (n : Nat) (hn : n ≤ xs.length) : Reps e f (cs.take (n * e.sz)) (xs.take n) ∧ Reps e f (cs.drop (n * e.sz)) (xs.drop n) := by
  induction n generalizing cs xs with
  | zero => simp [Reps]; exact h
  | succ n ih =>
    cases xs with
    | nil => simp at hn
    | cons x xs =>
      obtain ⟨c, cs', rfl, hc, h⟩ := h
      obtain ⟨h1, h2⟩ := ih h (by simpa using hn)
      have hl := e.len hc
      have e1 : (n + 1) * e.sz = c.length + n * e.sz := by rw [hl, Nat.add_mul]; omega
      rw [e1, List.take_length_add_append, List.drop_length_add_append]
      exact ⟨⟨c, _, rfl, hc, h1⟩, h2⟩
theorem Reps.at {cs : List Value} {xs : List α} (h : Reps e f cs xs) (n : Nat) (hn : n < xs.length) : e.rep f ((cs.drop (n * e.sz)).take e.sz) xs[n] := by
  have h2 := (h.split n (Nat.le_of_lt hn)).2
  rw [List.drop_eq_getElem_cons hn] at h2
  obtain ⟨c, cs', hcs, hc, _⟩ := h2
  rw [hcs, ← e.len hc, List.take_left]
  exact hc
theorem Reps.set {cs d : List Value} {xs : List α} {y : α} (h : Reps e f cs xs) (n : Nat) (hn : n < xs.length) (hd : e.rep f d y) :
    Reps e f (cs.take (n * e.sz) ++ d ++ cs.drop (n * e.sz + e.sz)) (xs.set n y) := by
  have h1 := (h.split n (Nat.le_of_lt hn)).1
  have h2 := (h.split (n + 1) hn).2
  rw [show (n + 1) * e.sz = n * e.sz + e.sz by rw [Nat.add_mul]; omega] at h2
  have := (h1.append (Reps.single hd)).append h2
  rw [List.append_assoc, List.append_assoc, List.singleton_append] at this
  rw [List.set_eq_take_append_cons_drop, if_pos hn, List.append_assoc]
  exact this
theorem Reps.replicate {c : List Value} {x : α} (h : e.rep f c x) (n : Nat) : Reps e f (List.replicate n c).flatten (List.replicate n x) := by
  induction n with
  | zero => simp [Reps]
  | succ n ih => rw [List.replicate_succ, List.replicate_succ, List.flatten_cons]; exact ⟨c, _, rfl, h, ih⟩
end
end Go.Sp
