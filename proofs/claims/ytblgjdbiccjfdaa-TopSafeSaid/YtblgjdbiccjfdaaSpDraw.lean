/- Regions that draw their order: a condition on the world that may loosen as operations come up. -/
import Derived.Test.YtblgjdbiccjfdaaSpFlow
namespace Go.Sp
open Go Go.RowKit
set_option linter.unusedVariables false
section
variable {P : Program} {ops : Array Oper} {Q : Exit → Act → World → Prop} {md : Region.Mode} {S : Array Bool → World → Prop}
def AnyL (P : Program) (md : Region.Mode) (ops : Array Oper) (Q : Exit → Act → World → Prop) (S : Array Bool → World → Prop) : Nat → Array Bool → Act → World → Prop
  | 0, listed, a, w => Region.ready md ops listed = [] ∧ Q .normal a w
  | fuel + 1, listed, a, w =>
    (Region.ready md ops listed = [] → Q .normal a w) ∧
    ∀ i ∈ Region.ready md ops listed, wpOp P ops Q i (fun a' w' => S (listed.setIfInBounds i true) w' ∧ AnyL P md ops Q S fuel (listed.setIfInBounds i true) a' w') a w
theorem AnyL.any : ∀ (fuel : Nat) (listed : Array Bool) (a : Act) (w : World), AnyL P md ops Q S fuel listed a w → wpAny P md ops Q fuel listed a w
  | 0, _, _, _, h => h
  | fuel + 1, _, _, _, h => ⟨h.1, fun i hi => wpOp_mono (fun a' w' h' => AnyL.any fuel _ a' w' h'.2) (h.2 i hi)⟩
def Gate (S : Array Bool → World → Prop) (gates : List Nat) (w : World) : Prop := ∃ l : Array Bool, (∀ st, st ∈ gates → l.getD st true = false) ∧ S l w
theorem AnyL.first {i : Nat} {oi : Oper} {v : Value} (gates : List Nat) (hi : ops[i]? = some oi) (hsel : ∀ (j : Nat) (o : Oper) cs b, ops[j]? = some o → o.op ≠ .select cs b)
    (hQ : ∀ ch a w, ¬ Q (.panic ch) a w) (hm : ∀ l w, S l w → S (l.setIfInBounds i true) w) (hn : ∀ l w, S (l.setIfInBounds i true) w → S l w)
    (hg : ∀ st, st ∈ gates → ∃ o, ops[st]? = some o ∧ ∃ e ∈ o.after, Region.binds md e = true ∧ e.on = i) :
    ∀ (fuel : Nat) (listed : Array Bool) (a : Act) (w : World),
      (∀ j oj, ops[j]? = some oj → j ≠ i → listed.getD j true = false → (∀ e ∈ oj.after, Region.binds md e = true → e.on ≠ i) → oi.apart ops oj = true) →
      i ∈ Region.ready md ops listed → (∀ st, st ∈ gates → listed.getD st true = false) → YieldsIf P ops (Gate S gates) oi v a → S listed w →
      AnyL P md ops Q S fuel (listed.setIfInBounds i true) (a.put oi.dst v) w → AnyL P md ops Q S (fuel + 1) listed a w := by
  intro fuel
  induction fuel with
  | zero =>
    intro listed a w _ hr hgl hy hS H
    refine ⟨fun h => (by rw [h] at hr; cases hr), fun j hj => ?_⟩
    by_cases hji : j = i
    · subst hji; exact hy.wpOp hi ⟨listed, hgl, hS⟩ ⟨hm _ _ hS, H⟩
    · have := ready_mono hj hji
      rw [H.1] at this
      cases this
  | succ fuel ih =>
    intro listed a w hfree hr hgl hy hS H
    refine ⟨fun h => (by rw [h] at hr; cases hr), fun j hj => ?_⟩
    by_cases hji : j = i
    · subst hji; exact hy.wpOp hi ⟨listed, hgl, hS⟩ ⟨hm _ _ hS, H⟩
    · have h1 := H.2 j (ready_mono hj hji)
      obtain ⟨hjun, oj, hoj, hall⟩ := mem_ready.1 hj
      have hun := (mem_ready.1 hr).1
      have hnot : ∀ e ∈ oj.after, Region.binds md e = true → e.on ≠ i := fun e he hb heq => by
        have h1 := hall e he hb
        have h0 := hun
        rw [heq] at h1
        rcases Nat.lt_or_ge i listed.size with h' | h'
        · simp [h'] at h0 h1; rw [h0] at h1; cases h1
        · simp [Array.getElem?_eq_none h'] at h1
      have hgj : ∀ st, st ∈ gates → j ≠ st := by
        rintro st hst rfl
        obtain ⟨o, ho, e, he, hb, heq⟩ := hg j hst
        rw [hoj] at ho
        injection ho with ho
        subst ho
        exact hnot e he hb heq
      have h2 := wpOp_putIf hoj (hfree j oj hoj hji hjun hnot) (fun cs b => hsel i oi cs b hi) (fun cs b => hsel j oj cs b hoj) (fun ch a w q => absurd q (hQ ch _ w)) hy h1
      have hfree' : ∀ k ok, ops[k]? = some ok → k ≠ i → (listed.setIfInBounds j true).getD k true = false →
          (∀ e ∈ ok.after, Region.binds md e = true → e.on ≠ i) → oi.apart ops ok = true := fun k ok hk hki hun' hno => by
        refine hfree k ok hk hki ?_ hno
        by_cases hjk : j = k
        · subst hjk; exact hjun
        · rw [getD_set_ne true hjk] at hun'; exact hun'
      have hgl' : ∀ st, st ∈ gates → (listed.setIfInBounds j true).getD st true = false := fun st hst => by
        rw [getD_set_ne true (hgj st hst)]; exact hgl st hst
      refine wpOp_mono (fun a' w' h3 => ?_) h2
      obtain ⟨hy', hS', H'⟩ := h3
      rw [← Array.setIfInBounds_comm _ _ hji] at hS' H'
      have hS2 := hn _ _ hS'
      exact ⟨hS2, ih (listed.setIfInBounds j true) a' w' hfree' (ready_mono hr (Ne.symm hji)) hgl' hy' hS2 H'⟩
def gated (md : Region.Mode) (ops : Array Oper) (listed : Array Bool) (i : Nat) (gates : List Nat) : Bool :=
  gates.all fun st => (match ops[st]? with | some o => o.after.any fun e => Region.binds md e && e.on == i | none => false) && !listed.getD st true
theorem AnyL.take {i : Nat} {oi : Oper} {v : Value} {fuel : Nat} {listed : Array Bool} {a : Act} {w : World} (gates : List Nat) (hi : ops[i]? = some oi)
    (hs : Region.noSelect ops = true) (hf : Region.free md ops listed i = true) (hr : (Region.ready md ops listed).contains i = true) (hgt : gated md ops listed i gates = true)
    (hQ : ∀ ch a w, ¬ Q (.panic ch) a w) (hm : ∀ l w, S l w → S (l.setIfInBounds i true) w) (hn : ∀ l w, S (l.setIfInBounds i true) w → S l w)
    (hy : YieldsIf P ops (Gate S gates) oi v a) (hS : S listed w)
    (h : AnyL P md ops Q S fuel (listed.setIfInBounds i true) (a.put oi.dst v) w) : AnyL P md ops Q S (fuel + 1) listed a w := by
  simp only [gated, List.all_eq_true, Bool.and_eq_true, Bool.not_eq_true'] at hgt
  refine AnyL.first gates hi (Region.noSelect_spec hs) hQ hm hn (fun st hst => ?_) fuel listed a w (Region.free_spec hi hf) (by simpa using hr) (fun st hst => (hgt st hst).2) hy hS h
  have := (hgt st hst).1
  cases ho : ops[st]? with
  | none => rw [ho] at this; cases this
  | some o =>
    rw [ho] at this
    obtain ⟨e, he, hb⟩ := Array.any_eq_true'.mp this
    simp only [Bool.and_eq_true, beq_iff_eq] at hb
    exact ⟨o, rfl, e, he, hb.1, hb.2⟩
def Sg (t : World) (f : FM) (H : List Seg) (gs : List (Nat × Seg)) (l : Array Bool) (w : World) : Prop :=
  Sx t f H w ∧ ∀ p, p ∈ gs → l.getD p.1 true = false → Sx t f [p.2] w
theorem Sg.up {t w : World} {f : FM} {H : List Seg} {gs : List (Nat × Seg)} {l : Array Bool} (i : Nat) (h : Sg t f H gs l w) : Sg t f H gs (l.setIfInBounds i true) w := by
  refine ⟨h.1, fun p hp hl => h.2 p hp ?_⟩
  by_cases e : i = p.1
  · subst e
    rcases Nat.lt_or_ge p.1 l.size with hlt | hge
    · simp [hlt] at hl
    · rw [Array.setIfInBounds_eq_of_size_le hge] at hl; exact hl
  · rw [getD_set_ne true e] at hl; exact hl
theorem Sg.down {t w : World} {f : FM} {H : List Seg} {gs : List (Nat × Seg)} {l : Array Bool} {i : Nat} (hi : (gs.all fun p => p.1 != i) = true) (h : Sg t f H gs (l.setIfInBounds i true) w) : Sg t f H gs l w := by
  refine ⟨h.1, fun p hp hl => h.2 p hp ?_⟩
  have hne : i ≠ p.1 := fun e => by
    have := List.all_eq_true.mp hi p hp
    simp [e] at this
  rw [getD_set_ne true hne]; exact hl
theorem heldG {id : Nat} {a : Act} {t w : World} {f : FM} {H : List Seg} {n : Nat} (hm : P.follows .mixedOrders = true) (hn : ops.size = n) (hS : St t w f H)
    (h : ∀ w', St t w' f H → AnyL P .any ops Q S n (Array.replicate n false) a w') : (Code.region id ops true).wp P Q a w := by
  subst hn
  exact wp_region_any hm (AnyL.any _ _ _ _ (h _ (hS.drawn _)))
section
variable {a : Act} {t w : World} {f : FM} {H : List Seg} {gs : List (Nat × Seg)}
theorem takeGs (is : List Nat) (hd : (is.all fun i => gs.all fun p => p.1 != i) = true) {fuel : Nat} {listed l' : Array Bool} {a' : Act} (hs : Region.noSelect ops = true) (h : takeOps P md ops is listed a = some (l', a')) (hQ : ∀ ch a w, ¬ Q (.panic ch) a w) (hS : Sg t f H gs listed w)
    (hk : AnyL P md ops Q (Sg t f H gs) fuel l' a' w) : AnyL P md ops Q (Sg t f H gs) (fuel + is.length) listed a w := by
  induction is generalizing listed a with
  | nil => simp only [takeOps, Option.some.injEq, Prod.mk.injEq] at h; obtain ⟨rfl, rfl⟩ := h; exact hk
  | cons i is ih =>
    simp only [List.all_cons, Bool.and_eq_true] at hd
    simp only [takeOps] at h
    split at h
    · rename_i o ho
      split at h
      · rename_i hb
        simp only [Bool.and_eq_true] at hb
        split at h
        · rename_i hw
          split at h
          · rename_i v hv
            exact AnyL.take [] ho hs hb.1 hb.2 rfl hQ (fun l w q => q.up i) (fun l w q => q.down hd.1) (.inl ⟨hw, fun w _ => still_run hv w⟩) hS (ih hd.2 h (hS.up i))
          · cases h
        · rename_i hw
          exact AnyL.take [] ho hs hb.1 hb.2 rfl hQ (fun l w q => q.up i) (fun l w q => q.down hd.1) (.inr ⟨hw, rfl⟩) hS (ih hd.2 h (hS.up i))
      · cases h
    · cases h
theorem takeG (is : List Nat) {n fuel : Nat} {listed l' : Array Bool} {a' : Act} (hn : n = fuel + is.length) (hd : (is.all fun i => gs.all fun p => p.1 != i) = true) (hs : Region.noSelect ops = true) (h : takeOps P md ops is listed a = some (l', a')) (hQ : ∀ ch a w, ¬ Q (.panic ch) a w) (hS : Sg t f H gs listed w)
    (hk : AnyL P md ops Q (Sg t f H gs) fuel l' a' w) : AnyL P md ops Q (Sg t f H gs) n listed a w := by subst hn; exact takeGs is hd hs h hQ hS hk
def tkA (P : Program) (md : Region.Mode) (ops : Array Oper) (is : List Nat) (listed : Array Bool) (a : Act) : Act := ((takeOps P md ops is listed a).map (·.2)).getD a
theorem takeGL (is : List Nat) {n fuel : Nat} {listed : Array Bool} (l' : Array Bool) (hn : n = fuel + is.length) (hd : (is.all fun i => gs.all fun p => p.1 != i) = true) (hs : Region.noSelect ops = true) (h : (takeOps P md ops is listed a).map (·.1) = some l') (hQ : ∀ ch a w, ¬ Q (.panic ch) a w) (hS : Sg t f H gs listed w)
    (hk : AnyL P md ops Q (Sg t f H gs) fuel l' (tkA P md ops is listed a) w) : AnyL P md ops Q (Sg t f H gs) n listed a w := by
  cases e : takeOps P md ops is listed a with
  | none => rw [e] at h; cases h
  | some r =>
    obtain ⟨l2, a2⟩ := r
    rw [e] at h
    injection h with h
    subst h
    have ha : tkA P md ops is listed a = a2 := by unfold tkA; rw [e]; rfl
    rw [ha] at hk
    exact takeG is hn hd hs e hQ hS hk
theorem takeGQ (i : Nat) (gates : List Nat) {o : Oper} {v : Value} {fuel : Nat} {listed : Array Bool} (ho : ops[i]? = some o) (hd : (gs.all fun p => p.1 != i) = true) (hs : Region.noSelect ops = true) (hf : Region.free md ops listed i = true) (hr : (Region.ready md ops listed).contains i = true)
    (hgt : gated md ops listed i gates = true) (hw : Region.wanted o (yielded ops a.tmps) = true) (hQ : ∀ ch a w, ¬ Q (.panic ch) a w) (hS : Sg t f H gs listed w) (hy : ∀ w, Gate (Sg t f H gs) gates w → (execOp a.eval o).run P w = .ok (.value v) w)
    (hk : AnyL P md ops Q (Sg t f H gs) fuel (listed.setIfInBounds i true) (a.put o.dst v) w) : AnyL P md ops Q (Sg t f H gs) (fuel + 1) listed a w :=
  AnyL.take gates ho hs hf hr hgt hQ (fun l w q => q.up i) (fun l w q => q.down hd) (.inl ⟨hw, hy⟩) hS hk
theorem takeGE (i : Nat) {o : Oper} {S : Array Bool → World → Prop} {fuel : Nat} {listed : Array Bool} (hr : Region.ready md ops listed = [i]) (ho : ops[i]? = some o) (hw : Region.wanted o (yielded ops a.tmps) = true)
    (h : Does P a w o (fun v w' => S (listed.setIfInBounds i true) w' ∧ AnyL P md ops Q S fuel (listed.setIfInBounds i true) (a.put o.dst v) w')) : AnyL P md ops Q S (fuel + 1) listed a w :=
  ⟨fun h0 => (by rw [h0] at hr; cases hr), fun j hj => by
    rw [hr] at hj
    simp only [List.mem_singleton] at hj
    subst hj
    exact Does.wpOp (K' := fun a' w' => S (listed.setIfInBounds j true) w' ∧ AnyL P md ops Q S fuel (listed.setIfInBounds j true) a' w') ho hw h⟩
theorem doneG {S : Array Bool → World → Prop} {listed : Array Bool} (hr : Region.ready md ops listed = []) (h : Q .normal a w) : ∀ fuel, AnyL P md ops Q S fuel listed a w
  | 0 => ⟨hr, h⟩
  | _ + 1 => ⟨fun _ => h, by rw [hr]; simp⟩
theorem Sg.of {l : Array Bool} (h : Sx t f H w) (hg : ∀ p, p ∈ gs → l.getD p.1 true = false → Sx t f [p.2] w) : Sg t f H gs l w := ⟨h, hg⟩
theorem Gate.st {gates : List Nat} (h : Gate (Sg t f H gs) gates w) : ∃ g, FM.le f g ∧ St t w g H := by obtain ⟨l, _, h⟩ := h; exact h.1.st
theorem Gate.seg {gates : List Nat} {j : Nat} {s : Seg} (h : Gate (Sg t f H gs) gates w) (hj : j ∈ gates) (hp : (j, s) ∈ gs) : ∃ g, FM.le f g ∧ St t w g [s] := by
  obtain ⟨l, hl, h⟩ := h
  exact (h.2 (j, s) hp (hl j hj)).st
theorem St.only {s : Seg} {f' : FM} (pre : List Seg) {post : List Seg} (h : St t w f' (pre ++ s :: post)) (hl : FM.le f f') : Sx t f [s] w := by
  refine ⟨f', [], hl, ?_⟩
  have h1 := h.toFront pre
  have h2 : St t w f' ((pre ++ post) ++ [s]) := h1.perm (flat_perm (List.perm_append_comm (l₁ := [s]) (l₂ := pre ++ post)))
  exact h2.dropL (pre ++ post)
theorem Sg.g0 {l : Array Bool} (h : Sx t f H w) : Sg t f H [] l w := ⟨h, fun p hp => by cases hp⟩
theorem Sg.g1 {l : Array Bool} {j : Nat} {s : Seg} (h : Sx t f H w) (h1 : l.getD j true = false → Sx t f [s] w) : Sg t f H [(j, s)] l w :=
  ⟨h, fun p hp => by simp only [List.mem_singleton] at hp; subst hp; exact h1⟩
theorem Sg.g2 {l : Array Bool} {j1 j2 : Nat} {s1 s2 : Seg} (h : Sx t f H w) (h1 : l.getD j1 true = false → Sx t f [s1] w) (h2 : l.getD j2 true = false → Sx t f [s2] w) : Sg t f H [(j1, s1), (j2, s2)] l w :=
  ⟨h, fun p hp => by simp only [List.mem_cons, List.not_mem_nil, or_false] at hp; rcases hp with rfl | rfl; (· exact h1); (· exact h2)⟩
theorem Sg.g3 {l : Array Bool} {j1 j2 j3 : Nat} {s1 s2 s3 : Seg} (h : Sx t f H w) (h1 : l.getD j1 true = false → Sx t f [s1] w) (h2 : l.getD j2 true = false → Sx t f [s2] w) (h3 : l.getD j3 true = false → Sx t f [s3] w) : Sg t f H [(j1, s1), (j2, s2), (j3, s3)] l w :=
  ⟨h, fun p hp => by simp only [List.mem_cons, List.not_mem_nil, or_false] at hp; rcases hp with rfl | rfl | rfl; (· exact h1); (· exact h2); (· exact h3)⟩
end
end
end Go.Sp
namespace Go.Sp
open Go Go.RowKit
section
variable {t w : World} {f : FM} {H : List Seg} {s : Seg} {α : Type} {e : Ty α}
def FM.del (f : FM) (b : Nat) : FM := fun x => if x = b then none else f x
theorem FM.del_le {f : FM} {b : Nat} : FM.le (f.del b) f := by
  intro x o h
  unfold FM.del at h
  by_cases e : x = b
  · rw [if_pos e] at h; cases h
  · rw [if_neg e] at h; exact h
theorem FM.le_del {f g : FM} {b : Nat} (h : FM.le f g) (hb : f b = none) : FM.le f (g.del b) := by
  intro x o hx
  unfold FM.del
  by_cases e : x = b
  · subst e; rw [hb] at hx; cases hx
  · rw [if_neg e]; exact h x o hx
theorem St.thaw {b : Nat} {o : Obj} (h : St t w f H) (hb : f b = some o) : St t w (f.del b) ([(b, o)] :: H) := by
  have hne : ∀ p, p ∈ flat H → p.1 ≠ b := fun p hp e => by have := (h.own p hp).2; rw [e, hb] at this; cases this
  refine ⟨h.os, h.tape, h.out, fun x y hx => h.fz x y (FM.del_le x y hx), ?_, ?_⟩
  · intro p hp
    rw [flat_cons] at hp
    rcases List.mem_append.mp hp with hp | hp
    · simp only [List.mem_singleton] at hp
      subst hp
      exact ⟨h.fz b o hb, by simp [FM.del]⟩
    · refine ⟨(h.own p hp).1, ?_⟩
      unfold FM.del
      rw [if_neg (hne p hp)]; exact (h.own p hp).2
  · rw [flat_cons]
    simp only [List.map_append, List.map_cons, List.map_nil, List.singleton_append, List.nodup_cons]
    refine ⟨fun hm => ?_, h.nd⟩
    obtain ⟨p, hp, e⟩ := List.mem_map.mp hm
    exact hne p hp e
theorem Own.lend {et : TypeId} {A : Option Addr} {c : Nat} {xs : List α} (h : Own e et f A c s xs) (hS : St t w f (s :: H)) :
    ∃ g, FM.le f g ∧ St t w g H ∧ SlR e g A c xs ∧ ∀ {w' : World} {k : FM} {H' : List Seg}, FM.le g k → St t w' k H' → ∃ k', FM.le f k' ∧ St t w' k' (s :: H') := by
  rcases h with ⟨rfl, rfl, rfl, rfl⟩ | ⟨b, arr, rfl, ⟨fr, hz, rfl⟩, h1, h2, h3, h4⟩
  · exact ⟨f, FM.le.refl f, hS.nil_cons, SlR.nil _ _, fun hl h' => ⟨_, hl, h'.cons_nil⟩⟩
  · refine ⟨_, hS.le_freeze, hS.freeze, ⟨h1, .inr ⟨b, 0, arr, et, fr, _, rfl, FM.add_self _ _ _, h4.mono hS.le_freeze, ?_⟩⟩, ?_⟩
    · intro j hj
      rw [List.getElem?_take]
      rw [List.length_take] at hj
      rw [if_pos (by omega), Nat.zero_add, Array.getElem?_toList]
    · intro w' k H' hl h'
      have hb : k b = some (.cells arr et fr) := hl _ _ (FM.add_self _ _ _)
      exact ⟨_, FM.le_del (hS.le_freeze.trans hl) (hS.front (p := (b, .cells arr et fr)) (by simp)).2, h'.thaw hb⟩
theorem Own.flat {et : TypeId} {A : Option Addr} {c : Nat} {xs : List α} {g : FM} (hf : ∀ (f g : FM) (cs : List Value) (x : α), e.rep f cs x → e.rep g cs x) (h : Own e et f A c s xs) : Own e et g A c s xs := by
  have hr : ∀ (xs : List α) (cs : List Value), Reps e f cs xs → Reps e g cs xs := by
    intro xs
    induction xs with
    | nil => intro cs h; exact h
    | cons x xs ih => intro cs ⟨c, cs', e1, h1, h2⟩; exact ⟨c, cs', e1, hf _ _ _ _ h1, ih _ h2⟩
  refine h.imp id ?_
  rintro ⟨b, arr, rfl, ⟨fr, hz, rfl⟩, h1, h2, h3, h4⟩
  exact ⟨b, arr, rfl, ⟨fr, hz, rfl⟩, h1, h2, h3, hr _ _ h4⟩
inductive ResV (P : Program) (tmps : Array Value) (w : World) : ResultVar → Value → Prop
  | tmp (t : Tmp) (v : Value) (h : tmps[t]?.getD undef = v) : ResV P tmps w (.tmp t) v
  | cell (a : Tmp) (T : TypeId) (ad : Addr) (v : Value) (h : tmps[a]?.getD undef = .pointer (some ad)) (hl : (loadVar T ad).run P w = .ok v w) : ResV P tmps w (.cell a T) v
variable {P : Program} {fn : Func} {tmps : Array Value} {v1 v2 v3 v4 : Value} {q1 q2 q3 q4 : ResultVar}
theorem resT {t : Tmp} {v : Value} (h : tmps.getD t undef = v) : ResV P tmps w (.tmp t) v := .tmp t v (by simpa using h)
theorem resN {a : Tmp} {T n : Nat} {d : TypeDesc} {b off : Nat} {cs : List Value} (h : tmps.getD a undef = .pointer (some ⟨b, off, none⟩)) (hT : P.underlying T = some d) (hd : isOne d = false) (hn : (P.info? T).map (·.size) = some n)
    (hl : cs.length = n) (hc : ∀ j, j < n → w.cell? ⟨b, off + j, none⟩ = cs[j]?) : ResV P tmps w (.cell a T) (.agg cs.toArray) := by
  have h1 : (loadCells ⟨b, off, none⟩ n).run P w = .ok cs.toArray w := by
    subst hl
    refine run_loadCells_list (P := P) w ⟨b, off, none⟩ cs ?_
    intro j v hv
    have hj : j < cs.length := by
      rcases Nat.lt_or_ge j cs.length with h | h
      · exact h
      · rw [List.getElem?_eq_none h] at hv; cases hv
    rw [add_plain, hc j hj, hv]
  exact .cell a T _ _ (by simpa using h) (by simp [loadVar, run_isAgg_of hT, hd, run_sizeOf_of hn, h1])
theorem results1 (h : fn.results = #[q1]) (h1 : ResV P tmps w q1 v1) : (results fn tmps).run P w = .ok v1 w := by
  cases h1 <;> simp [results, asAddr, h, *]
theorem results2 (h : fn.results = #[q1, q2]) (h1 : ResV P tmps w q1 v1) (h2 : ResV P tmps w q2 v2) : (results fn tmps).run P w = .ok (.tuple #[v1, v2]) w := by
  cases h1 <;> cases h2 <;> simp [results, asAddr, h, *]
theorem results4 (h : fn.results = #[q1, q2, q3, q4]) (h1 : ResV P tmps w q1 v1) (h2 : ResV P tmps w q2 v2) (h3 : ResV P tmps w q3 v3) (h4 : ResV P tmps w q4 v4) : (results fn tmps).run P w = .ok (.tuple #[v1, v2, v3, v4]) w := by
  cases h1 <;> cases h2 <;> cases h3 <;> cases h4 <;> simp [results, asAddr, h, *]
end
end Go.Sp
