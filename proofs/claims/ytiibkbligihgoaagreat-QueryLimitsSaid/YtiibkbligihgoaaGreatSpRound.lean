/- Ranges over a function: control in a round's frame, and the statement's own law, in this memory logic. -/
import Derived.Test.YtiibkbligihgoaaGreatSpCopy
import Derived.RangeFuncStops
import Derived.LoopN
import Derived.OrdersIn
import Derived.Sort.LoopGhostIn
import Derived.TacticsIn
namespace Go.Sp
open Go Go.RowKit
set_option linter.unusedVariables false

/-- The wide fence, in a round's frame or in none. -/
def FR (r : Option Nat) : Fence := { Fence.wide with round := r }
theorem FR_none : FR none = Fence.wide := rfl
/-- Without 'outgrown'. -/
def Nz (Q : Exit → Act → World → Prop) : Exit → Act → World → Prop
  | .outgrown, _, _ => False
  | e, a, w => Q e a w
def noDefer (l : List Oper) : Bool := l.all fun o => match o.op with | .defer _ => false | _ => true
section
variable {r : Option Nat} {n : Nat} {P : Program} {Q : Exit → Act → World → Prop} {a : Act} {w : World} {o : Oper} {K : Act → World → Prop} {ops : Array Oper} {rest : List Oper} {t : World} {f : FM} {H : List Seg}
theorem Nz_out : ¬ LetsOut (Nz Q) := by rintro ⟨a, w, h⟩; exact h
theorem callsR {f : FuncId} {args : Array Value} {w : World} {R : Ending → World → Prop} (h : Calls P f args w R) : CallsIn (FR r) n P f args w R := callsIn_wide.2 h
theorem upR {res : Result Next} (h : o.upon P a K (Nz Q) res) : o.uponIn (FR r) n P a K Q res := by
  unfold Oper.upon at h
  unfold Oper.uponIn
  cases res with
  | ok x w' =>
    cases x with
    | value v => exact h
    | skip => exact h
    | defer d => exact h
    | enter f args =>
      refine ⟨fun hd => by simp [FR, Fence.wide] at hd, (callsR (r := r) (n := n - 1) h).mono ?_⟩
      intro e w'' he
      cases e with
      | returned v => exact he
      | panicked ch => exact he
      | outgrown => exact (Nz_out he).elim
    | row row args =>
      refine ⟨fun hd => by simp [FR, Fence.wide] at hd, fun c cs _ => ?_⟩
      obtain ⟨v, w'', hv, hs⟩ := h c cs
      exact ⟨v, w'', hv, stepsIn_wide.2 hs⟩
    | _ => exact h.elim
  | halt e w' =>
    cases e <;> first | exact h | exact h.elim
theorem opR (hd : ∀ c, o.op ≠ .defer c) (h : o.wp P a w K (Nz Q)) : o.wpIn (FR r) n P a w K Q := by
  refine ⟨fun f _ => trivial, ?_⟩
  rw [Oper.semAt_eq _ _ _ hd]
  exact upR h
theorem noDefer_mem {l : List Oper} (h : noDefer l = true) {o : Oper} (ho : o ∈ l) : ∀ c, o.op ≠ .defer c := by
  intro c e
  have := List.all_eq_true.mp h o ho
  simp [e] at this
theorem listR : ∀ {l : List Oper} {a : Act} {w : World}, noDefer l = true → wpList P ops (Nz Q) l a w → wpListIn (FR r) n P ops Q l a w := by
  intro l
  induction l with
  | nil => intro a w _ h; exact h
  | cons o rest ih =>
    intro a w hd h
    have hr : noDefer rest = true := by simp only [noDefer, List.all_cons, Bool.and_eq_true] at hd; exact hd.2
    unfold wpList at h
    unfold wpListIn
    by_cases hw : Region.wanted o (yielded ops a.tmps) = true
    · rw [if_pos hw] at h ⊢
      rcases h with h | ⟨_, h⟩
      · exact opR (noDefer_mem hd (List.mem_cons_self ..)) (Oper.wp_mono (fun a w h => ih hr h) h)
      · exact (Nz_out h).elim
    · rw [if_neg hw] at h ⊢
      exact ⟨fun f _ => trivial, ih hr h⟩
theorem Rwp_region_lit {id : Nat} {l : List Oper} (hd : noDefer l = true) (h : wpList P l.toArray (Nz Q) l a w) : (Code.region id l.toArray false).wpIn (FR r) n P Q a w :=
  wpIn_region_lit (listR hd h)
theorem RwpList_nil (h : Q .normal a w) : wpList P ops (Nz Q) [] a w := h
theorem anyR {md : Region.Mode} (hd : noDefer ops.toList = true) : ∀ (fuel : Nat) {listed : Array Bool} {a : Act} {w : World}, wpAny P md ops (Nz Q) fuel listed a w → wpAnyIn (FR r) n P md ops Q fuel listed a w
  | 0, _, _, _, h => h
  | fuel + 1, _, a, w, h => ⟨h.1, fun i hi => by
    have h2 := h.2 i hi
    unfold wpOp at h2
    unfold wpOpIn
    cases ho : ops[i]? with
    | none => rw [ho] at h2; exact anyR hd fuel h2
    | some o =>
      rw [ho] at h2
      dsimp only at h2 ⊢
      by_cases hw : Region.wanted o (yielded ops a.tmps) = true
      · rw [if_pos hw] at h2 ⊢
        rcases h2 with h2 | ⟨_, h2⟩
        · exact opR (noDefer_mem hd (Array.mem_toList_iff.mpr (Array.mem_of_getElem? ho))) (Oper.wp_mono (fun a w h => anyR hd fuel h) h2)
        · exact (Nz_out h2).elim
      · rw [if_neg hw] at h2 ⊢
        exact ⟨fun f _ => trivial, anyR hd fuel h2⟩⟩
theorem RheldG {q : Nat} {S : Array Bool → World → Prop} {id n : Nat} (hd : noDefer ops.toList = true) (hm : P.follows .mixedOrders = true) (hn : ops.size = n) (hS : St t w f H)
    (h : ∀ w', St t w' f H → AnyL P .any ops (Nz Q) S n (Array.replicate n false) a w') : (Code.region id ops true).wpIn (FR r) q P Q a w := by
  subst hn
  exact wpIn_region_any hm (anyR hd _ (AnyL.any _ _ _ _ (h _ (hS.drawn _))))
theorem RdoneG {md : Region.Mode} {S : Array Bool → World → Prop} {listed : Array Bool} (hr : Region.ready md ops listed = []) (h : Q .normal a w) : ∀ fuel, AnyL P md ops (Nz Q) S fuel listed a w := fun fuel => doneG (Q := Nz Q) hr h fuel
/-! ### Control -/
theorem Rwp_skip (h : Q .normal a w) : Code.skip.wpIn (FR r) n P Q a w := wpIn_skip h
theorem Rwp_ret (h : Q .ret a w) : Code.ret.wpIn (FR r) n P Q a w := wpIn_ret h
theorem Rwp_exit {id : Nat} (h : Q (.exit id) a w) : (Code.exit id).wpIn (FR r) n P Q a w := wpIn_exit h
theorem Rwp_seq_k {x y : Code} (h : ∀ K : Act → World → Prop, (∀ a w, y.wpIn (FR r) n P Q a w → K a w) → x.wpIn (FR r) n P (Exit.then K Q) a w) : (Code.seq x y).wpIn (FR r) n P Q a w := wpIn_seq_k h
theorem RcondT {c : Operand} {x y : Code} (hc : a.eval c = .bool true) (h : x.wpIn (FR r) n P Q a w) : (Code.cond c x y).wpIn (FR r) n P Q a w := wpIn_cond_true hc h
theorem RcondF {c : Operand} {x y : Code} (hc : a.eval c = .bool false) (h : y.wpIn (FR r) n P Q a w) : (Code.cond c x y).wpIn (FR r) n P Q a w := wpIn_cond_false hc h
theorem RblockK {id : Nat} {c : Code} (h : ∀ B : Exit → Act → World → Prop, (∀ a w, Q .normal a w → B (.exit id) a w) → (∀ a w, Q .normal a w → B .normal a w) → (∀ a w, Q .ret a w → B .ret a w) →
    (∀ j a w, j ≠ id → Q (.exit j) a w → B (.exit j) a w) → (∀ ch a w, B (.panic ch) a w → Q (.panic ch) a w) → c.wpIn (FR r) n P B a w) : (Code.block id c).wpIn (FR r) n P Q a w :=
  wpIn_block (h (Exit.inBlock id Q) (fun a w q => by simp only [Exit.inBlock, if_true]; exact q) (fun a w q => q) (fun a w q => q) (fun j a w hj q => by simp only [Exit.inBlock, if_neg hj]; exact q) (fun ch a w q => q))
theorem RloopK {c : Code} (I : Nat → Act → World → Prop) (m : Nat) (h0 : I m a w)
    (round : ∀ m a w, I m a w → ∀ K : Act → World → Prop, (∀ m' a' w', m' < m → I m' a' w' → K a' w') → c.wpIn (FR r) n P (Exit.then K Q) a w) : (Code.loop c).wpIn (FR r) n P Q a w :=
  wpIn_loop_ghost I m h0 fun m a w h => round m a w h _ fun m' a' w' hn hi => ⟨m', hn, hi⟩
theorem RwpRwI (i : Nat) {x v : Bool} {c : Code} (e : a.tmps[i]? = some (.bool x)) (hx : x = v) (h : c.wpIn (FR r) n P Q (a.put (some i) (.bool v)) w) : c.wpIn (FR r) n P Q a w := by rw [put_same e hx]; exact h
end
/-! ### The iterator's contract -/
/-- The function gf, with what it has captured, hands the elements xs on, one after the other, as long as a round says so. enc: how an element is handed on. fc: the memory that it reads. -/
def Iter {α : Type} (P : Program) (gf : Nat) (lb : Array Value) (enc : FM → α → Array Value → Prop) (xs : List α) (fc : FM) : Prop :=
  ∀ (l : Nat) (t W : World) (g : FM) (Hs : List Seg) (KJ KX : List α → FM → List Seg → Prop),
    FM.le fc g → KJ [] g Hs → St t W g Hs → (∀ pre g g' Hs, KJ pre g Hs → FM.le g g' → KJ pre g' Hs) → (∀ pre g g' Hs, KX pre g Hs → FM.le g g' → KX pre g' Hs) →
    (∀ pre x rest vs W1 g1 HI Hs, xs = pre ++ x :: rest → enc g1 x vs → KJ pre g1 Hs → St t W1 g1 (HI ++ Hs) →
      YieldAt (FR none) 5 P l vs W1 fun e W' => ∃ g' Hs', FM.le g1 g' ∧ St t W' g' (HI ++ Hs') ∧ ((e = .returned (.bool true) ∧ KJ (pre ++ [x]) g' Hs') ∨ (e = .returned (.bool false) ∧ KX (pre ++ [x]) g' Hs'))) →
    CallsIn (FR none) 6 P gf (#[.func (.yield l) #[] #[]] ++ lb) W fun e W' => ∃ v g' Hs', e = .returned v ∧ FM.le g g' ∧ St t W' g' Hs' ∧ (KJ xs g' Hs' ∨ ∃ pre x rest, xs = pre ++ x :: rest ∧ KX (pre ++ [x]) g' Hs')
theorem St.put {t w : World} {f : FM} {pre H : List Seg} {b : Nat} {o : Obj} (o' : Obj) (h : St t w f (pre ++ [(b, o)] :: H)) : St t (w.putObj b o') f (pre ++ [(b, o')] :: H) := by
  refine St.fromFront pre ((St.toFront pre h).turn rfl rfl rfl (fun k hk x hx => ?_) ?_)
  · rw [World.putObj_heap_other hk]; exact hx
  · exact World.putObj_heap_same (lt_of_some (St.toFront pre h).blk)
theorem St.get {t w : World} {f : FM} {pre H : List Seg} {b : Nat} {o : Obj} (h : St t w f (pre ++ [(b, o)] :: H)) : w.heap[b]? = some o := (St.toFront pre h).blk
theorem St.strike {t w : World} {f : FM} {pre H : List Seg} {s : Seg} (h : St t w f (pre ++ s :: H)) : St t w f (pre ++ H) := (St.toFront pre h).drop
theorem St.apart {t w : World} {f : FM} {HI Hk tl : List Seg} (h : St t w f (HI ++ (Hk ++ tl))) : St t w f (Hk ++ (tl ++ HI)) :=
  h.perm (flat_perm (by rw [← List.append_assoc Hk tl HI]; exact List.perm_append_comm))
theorem St.again {t w : World} {f : FM} {HI Hk tl : List Seg} (h : St t w f (Hk ++ (tl ++ HI))) : St t w f (HI ++ (Hk ++ tl)) :=
  h.perm (flat_perm (by rw [← List.append_assoc Hk tl HI]; exact List.perm_append_comm))
theorem St.fcell {t w : World} {f g : FM} {H : List Seg} {b : Nat} {cs : Array Value} {E : TypeId} {fr : Nat × Nat} (h : St t w g H) (hb : f b = some (.cells cs E fr)) (hl : FM.le f g) (j : Nat) : w.cell? ⟨b, j, none⟩ = cs[j]? :=
  cell_of_row w b j cs E fr (h.fz b _ (hl b _ hb))
theorem St.fcells {t w : World} {f g : FM} {H : List Seg} {b : Nat} {cs : Array Value} {E : TypeId} {fr : Nat × Nat} (h : St t w g H) (hb : f b = some (.cells cs E fr)) (hl : FM.le f g) (off n : Nat) (l : List Value) (e : l = (cs.toList.drop off).take n) : ∀ j, j < n → w.cell? ⟨b, off + j, none⟩ = l[j]? := by
  intro j hj
  rw [h.fcell hb hl, e, take_drop_get hj, Array.getElem?_toList]
def mark (D : Nat) : Deferred := { target := .collected D, args := #[] }
/-- **The statement 'for .. := range g { .. }'.** -/
theorem rangeK {α : Type} {P : Program} {g : Operand} {ps : Array Tmp} {assign body : Code} {Q : Exit → Act → World → Prop} {tm : Array Value} {t w : World} {f fc : FM} {H Hs0 : List Seg} {gf : Nat} {lb : Array Value} {enc : FM → α → Array Value → Prop} {xs : List α}
    (hg : (⟨tm, []⟩ : Act).eval g = .func (.func gf) #[] lb) (eg : ∀ args w, (callFunc gf args).run P w = .ok (.enter gf args) w) (hit : Iter P gf lb enc xs fc) (hps : ∀ g x vs, enc g x vs → vs.size = ps.size) (hfc : FM.le fc f)
    (K : List α → FM → List Seg → Prop) (Kx : Code → List α → FM → List Seg → Prop) (HS : St t w f (Hs0 ++ H)) (h0 : K [] f Hs0)
    (hm : ∀ pre g g' Hs, K pre g Hs → FM.le g g' → K pre g' Hs) (hmx : ∀ c pre g g' Hs, Kx c pre g Hs → FM.le g g' → Kx c pre g' Hs)
    (round : ∀ (l : Nat) (T : List Seg) (pre : List α) (x : α) (rest : List α) (vs : Array Value) (W : World) (g : FM) (Hs : List Seg), xs = pre ++ x :: rest → enc g x vs → K pre g Hs → St t W g (Hs ++ T) →
      ∀ A : Exit → Act → World → Prop,
        (∀ a1 W1 g1 Hs1, FM.le g g1 → St t W1 g1 (Hs1 ++ T) →
          (∀ (T' : List Seg) (W2 : World), St t W2 g1 (Hs1 ++ T') → ∀ B : Exit → Act → World → Prop,
            (∀ a' W' g' Hs', FM.le g1 g' → K (pre ++ [x]) g' Hs' → St t W' g' (Hs' ++ T') → B .normal a' W') →
            (∀ a' W' g' Hs', FM.le g1 g' → Kx .ret (pre ++ [x]) g' Hs' → St t W' g' (Hs' ++ T') → B .ret a' W') →
            (∀ id a' W' g' Hs', FM.le g1 g' → Kx (.exit id) (pre ++ [x]) g' Hs' → St t W' g' (Hs' ++ T') → B (.exit id) a' W') →
            (∀ ch a w, ¬ B (.panic ch) a w) → body.wpIn (FR (some l)) 5 P B a1 W2) → A .normal a1 W1) →
        (∀ ch a w, ¬ A (.panic ch) a w) →
        assign.wpIn (FR (some l)) 5 P A ⟨(ps.zip vs).foldl (fun t (p, v) => t.setIfInBounds p v) tm, []⟩ W)
    (done : ∀ (D : Nat) (W : World) (g : FM) (Hs : List Seg), K xs g Hs → St t W g (Hs ++ [(D, .deferred (some []))] :: H) → Q .normal ⟨tm, [mark D]⟩ W)
    (stop : ∀ (D : Nat) (c : Code) (pre : List α) (x : α) (rest : List α) (W : World) (g : FM) (Hs : List Seg), (c = .ret ∨ ∃ id, c = .exit id) → xs = pre ++ x :: rest → Kx c (pre ++ [x]) g Hs → St t W g (Hs ++ [(D, .deferred (some []))] :: H) → c.wp P Q ⟨tm, [mark D]⟩ W) :
    (Code.rangeFunc g ps assign body).wp P Q ⟨tm, []⟩ w := by
  refine (wpIn_wide (n := 7)).1 (wpIn_rangeFunc ?_)
  intro fn hfn
  obtain ⟨rec, hrec⟩ : ∃ rec : LoopState → Option Code → Loop, rec = fun st pe => { state := st, pending := pe, fn, tmps := tm, params := ps, assign, body, defers := w.heap.size } := ⟨_, rfl⟩
  obtain ⟨W1, hW1⟩ : ∃ W1, (w.alloc (.deferred (some []))).alloc (.loop (rec .ready none)) = W1 := ⟨_, rfl⟩
  obtain ⟨D, hD⟩ : ∃ D, w.heap.size = D := ⟨_, rfl⟩
  obtain ⟨l, hl⟩ : ∃ l, w.heap.size + 1 = l := ⟨_, rfl⟩
  let tail (o : Loop) : List Seg := [(l, .loop o)] :: [(D, .deferred (some []))] :: H
  have hS1 : St t W1 f (Hs0 ++ tail (rec .ready none)) := by
    have h1 := (HS.alloc (.deferred (some []))).alloc (.loop (rec .ready none))
    rw [World.size_alloc, hW1, hl, hD] at h1
    refine h1.perm (flat_perm ?_)
    show List.Perm ([(l, Obj.loop (rec .ready none))] :: [(D, Obj.deferred (some []))] :: (Hs0 ++ H)) (Hs0 ++ [(l, Obj.loop (rec .ready none))] :: [(D, Obj.deferred (some []))] :: H)
    exact ((List.perm_middle (l₁ := Hs0) (l₂ := H) (a := [(D, Obj.deferred (some []))])).symm.cons _).trans List.perm_middle.symm
  refine ⟨l, [mark D], W1, { target := .fn (.func gf) lb, args := #[.func (.yield l) #[] #[]] }, W1, gf, #[.func (.yield l) #[] #[]] ++ lb, W1, ?_, ?_, fun _ _ => trivial, ?_, fun hd => by simp [Fence.wide] at hd, ?_⟩
  · rw [← hW1, hrec, ← hl, ← hD]; exact run_enterLoop_outer _ _ _ _ _
  · simp only [resolve, hg]
    simp [go_sem]
  · simp [invoke, go_sem, eg]
  · have hend : ∀ (jump : Option Code) (W3 : World) (g : FM) (Hk HI : List Seg), St t W3 g (Hk ++ (tail { rec .ready none with state := .busy } ++ HI)) →
        (Instr.endRound l jump).run P W3 = .ok (.bool jump.isNone) (W3.putObj l (.loop (rec (if jump.isNone then .ready else .done) jump))) ∧
        St t (W3.putObj l (.loop (rec (if jump.isNone then .ready else .done) jump))) g (HI ++ (Hk ++ tail (rec (if jump.isNone then .ready else .done) jump))) := fun jump W3 g Hk HI h3 => by
      have := run_endRound (P := P) jump h3.get
      rw [hrec] at this ⊢
      exact ⟨this, (h3.put _).again⟩
    refine (hit l t W1 f _ (fun pre g Hs => ∃ Hk, Hs = Hk ++ tail (rec .ready none) ∧ K pre g Hk) (fun pre g Hs => ∃ c Hk, Hs = Hk ++ tail (rec .done (some c)) ∧ (c = .ret ∨ ∃ id, c = .exit id) ∧ Kx c pre g Hk) hfc ⟨Hs0, rfl, h0⟩ hS1 ?_ ?_ ?_).mono ?_
    · rintro pre g g' Hs ⟨Hk, rfl, hk⟩ hgg
      exact ⟨Hk, rfl, hm _ _ _ _ hk hgg⟩
    · rintro pre g g' Hs ⟨c, Hk, rfl, hc, hk⟩ hgg
      exact ⟨c, Hk, rfl, hc, hmx _ _ _ _ _ hk hgg⟩
    · rintro pre x rest vs W g HI Hs hx hv ⟨Hk, rfl, hk⟩ hS
      have hA := hS.apart
      have hy := run_yield (P := P) (args := vs) hA.get (by rw [hrec]; exact hps _ _ _ hv)
      rw [hrec] at hy
      refine ⟨fn, _, assign, body, hy, roundIn_of_wpIn trivial ?_⟩
      refine round l (tail (rec .ready none) ++ HI) pre x rest vs W g Hk hx hv hk hA _ ?_ (fun _ _ _ h => h)
      intro a1 W1 g1 Hs1 hg1 hS1 hbody
      refine ⟨_, run_beginRound hS1.get (by rw [hrec]), ?_⟩
      have hS2 := hS1.put (.loop { rec .ready none with state := .busy })
      refine hbody (tail { rec .ready none with state := .busy } ++ HI) _ hS2 _ ?_ ?_ ?_ ?_
      · intro a' W' g' Hs' hgg hk' hS'
        obtain ⟨hr, h4⟩ := hend none W' g' Hs' HI hS'
        exact ⟨_, _, hr, g', _, hg1.trans hgg, h4, .inl ⟨rfl, Hs', rfl, hk'⟩⟩
      · intro a' W' g' Hs' hgg hk' hS'
        obtain ⟨hr, h4⟩ := hend (some .ret) W' g' Hs' HI hS'
        exact ⟨_, _, hr, g', _, hg1.trans hgg, h4, .inr ⟨rfl, .ret, Hs', rfl, .inl rfl, hk'⟩⟩
      · intro id a' W' g' Hs' hgg hk' hS'
        obtain ⟨hr, h4⟩ := hend (some (.exit id)) W' g' Hs' HI hS'
        exact ⟨_, _, hr, g', _, hg1.trans hgg, h4, .inr ⟨rfl, .exit id, Hs', rfl, .inr ⟨id, rfl⟩, hk'⟩⟩
      · exact fun _ _ _ h => h
    · rintro e W2 ⟨v, g, Hs, rfl, hle, hS, (⟨Hk, rfl, hk⟩ | ⟨pre, x, rest, hx, c, Hk, rfl, hc, hk⟩)⟩
      · refine ⟨none, _, by have := run_endLoop (P := P) hS.get (by rw [hrec]; simp); rw [hrec] at this; exact this, ?_⟩
        exact done D _ g Hk hk (hS.put _).strike
      · refine ⟨some c, _, by have := run_endLoop (P := P) hS.get (by rw [hrec]; simp); rw [hrec] at this; exact this, ?_⟩
        exact wpIn_wide.2 (stop D c pre x rest _ g Hk hc hx hk (hS.put _).strike)
/-! ### The iterator's own text -/
section
variable {r : Option Nat} {n : Nat} {P : Program} {Q : Exit → Act → World → Prop} {a : Act} {w : World} {o : Oper} {ops : Array Oper} {rest : List Oper}
theorem listY {l1 l2 : List Oper} (hd : noDefer l1 = true) : ∀ {a : Act} {w : World}, wpList P ops (Nz (Exit.then (fun a w => wpListIn (FR r) n P ops Q l2 a w) Q)) l1 a w → wpListIn (FR r) n P ops Q (l1 ++ l2) a w := by
  induction l1 with
  | nil => intro a w h; exact h
  | cons o l ih =>
    intro a w h
    have hr : noDefer l = true := by simp only [noDefer, List.all_cons, Bool.and_eq_true] at hd; exact hd.2
    have hQ : ∀ e a w, e ≠ .normal → Nz (Exit.then (fun a w => wpListIn (FR r) n P ops Q l2 a w) Q) e a w → Nz Q e a w := fun e a w he h => by cases e <;> first | exact absurd rfl he | exact h
    show wpListIn (FR r) n P ops Q (o :: (l ++ l2)) a w
    unfold wpList at h
    unfold wpListIn
    by_cases hw : Region.wanted o (yielded ops a.tmps) = true
    · rw [if_pos hw] at h ⊢
      rcases h with h | ⟨_, h⟩
      · have h2 : o.wp P a w (wpListIn (FR r) n P ops Q (l ++ l2)) (Nz (Exit.then (fun a w => wpListIn (FR r) n P ops Q l2 a w) Q)) := Oper.wp_mono (fun a w h => ih hr h) h
        have h3 := opR (r := r) (n := n) (noDefer_mem hd (List.mem_cons_self ..)) h2
        refine ⟨fun _ _ => trivial, ?_⟩
        have h4 := h3.2
        generalize (o.semAt (FR r).round a.eval).run P w = res at h4 ⊢
        unfold Oper.uponIn at h4 ⊢
        cases res with
        | ok x w' =>
          cases x with
          | enter f args =>
            refine ⟨h4.1, h4.2.mono ?_⟩
            intro e w'' he
            cases e with
            | returned v => exact he
            | panicked ch => exact he
            | outgrown => obtain ⟨a, w, he⟩ := he; exact ⟨a, w, he⟩
          | round l f tmps as bd =>
            refine ⟨h4.1, h4.2.mono ?_⟩
            intro e w'' he
            cases e with
            | returned v => exact he
            | panicked ch => exact he
            | outgrown => obtain ⟨a, w, he⟩ := he; exact ⟨a, w, he⟩
          | _ => exact h4
        | halt e w' => cases e <;> exact h4
      · exact (Nz_out h).elim
    · rw [if_neg hw] at h ⊢
      exact ⟨fun f _ => trivial, ih hr h⟩
theorem RregionY (j : Nat) {id : Nat} {l : List Oper} (hd : noDefer (l.take j) = true) (h : wpList P l.toArray (Nz (Exit.then (fun a w => wpListIn (FR r) n P l.toArray Q (l.drop j) a w) Q)) (l.take j) a w) : (Code.region id l.toArray false).wpIn (FR r) n P Q a w := by
  refine wpIn_region_lit ?_
  have := listY hd h
  rwa [List.take_append_drop] at this
theorem listN {K : Act → World → Prop} (h : K a w) : wpList P ops (Nz (Exit.then K Q)) [] a w := h
theorem yieldK {l : Nat} {vs : Array Value} {R : Ending → World → Prop} (hw : Region.wanted o (yielded ops a.tmps) = true) (hd : noDefer [o] = true) (he : (execOp a.eval o).run P w = (Instr.yield l vs).run P w)
    (hY : YieldAt (FR none) 5 P l vs w R) (hR : ∀ e w', R e w' → ∃ v, e = .returned v ∧ wpListIn (FR none) 6 P ops Q rest (a.put o.dst v) w') : wpListIn (FR none) 6 P ops Q (o :: rest) a w := by
  unfold wpListIn
  rw [if_pos hw]
  refine ⟨fun _ _ => trivial, ?_⟩
  obtain ⟨fn, tmps, as, bd, hy, hr⟩ := hY
  rw [Oper.semAt_eq _ _ _ (noDefer_mem hd (List.mem_cons_self ..)), he, hy]
  refine ⟨fun hd => by simp [FR, Fence.wide] at hd, hr.mono ?_⟩
  intro e w' h
  obtain ⟨v, rfl, hv⟩ := hR e w' h
  exact hv
theorem RwpRwA {c : Code} {a' : Act} (e : a = a') (h : c.wpIn (FR r) n P Q a' w) : c.wpIn (FR r) n P Q a w := e ▸ h
theorem St.freezeB {t w : World} {f : FM} {H : List Seg} {b : Nat} {o : Obj} (h : St t w f ([(b, o)] :: H)) : ∃ g, FM.le f g ∧ St t w g H ∧ g b = some o := ⟨_, h.le_freeze, h.freeze, FM.add_self ..⟩
end
/-- What an iterator's body must come to. -/
theorem enterI {P : Program} {w : World} {f : FuncId} {fn : Func} {c : Code} {args tm : Array Value} {R : Ending → World → Prop} (hf : P.funcs[f]? = some fn) (hb : fn.body = some c)
    (ht : args ++ Array.replicate (fn.ntmps - args.size) undef = tm)
    (h : ∀ B : Exit → Act → World → Prop, (∀ a w, bodyPost P fn R .ret a w → B .ret a w) → (∀ a w, bodyPost P fn R .ret a w → B .normal a w) → (∀ ch a w, ¬ B (.panic ch) a w) → c.wpIn (FR none) 6 P B ⟨tm, []⟩ w) : CallsIn (FR none) 6 P f args w R := by
  refine callsIn_of_wp hf hb trivial ?_
  rw [ht]
  refine wpIn_mono (h (Good P fn R) (fun _ _ h => h) (fun _ _ h => h) (fun _ _ _ h => h)) ?_
  intro e a' w' hg
  cases e <;> first | exact hg | exact hg.elim
/-! ### A function that holds such a statement -/
def GoodM (P : Program) (fn : Func) (R : Ending → World → Prop) : Exit → Act → World → Prop
  | .normal, a, w | .ret, a, w => bodyPostM Fence.wide 7 P fn R .ret a w
  | _, _, _ => False
theorem enterM {P : Program} {w : World} {f : FuncId} {fn : Func} {c : Code} {args tm : Array Value} {R : Ending → World → Prop} (hf : P.funcs[f]? = some fn) (hb : fn.body = some c)
    (ht : args ++ Array.replicate (fn.ntmps - args.size) undef = tm)
    (h : ∀ B : Exit → Act → World → Prop, (∀ a w, bodyPostM Fence.wide 7 P fn R .ret a w → B .ret a w) → (∀ a w, bodyPostM Fence.wide 7 P fn R .ret a w → B .normal a w) → (∀ ch a w, ¬ B (.panic ch) a w) → c.wp P B ⟨tm, []⟩ w) : Calls P f args w R := by
  refine callsIn_wide.1 (callsIn_of_wp_marks (n := 7) hf hb trivial ?_)
  rw [ht]
  refine wpIn_wide.2 (wp_mono (h (GoodM P fn R) (fun _ _ h => h) (fun _ _ h => h) (fun _ _ _ h => h)) ?_)
  intro e a' w' hg
  cases e <;> first | exact hg | exact hg.elim
theorem endsM {P : Program} {a : Act} {w : World} {fn : Func} {R : Ending → World → Prop} {v : Value} (hr : (results fn a.tmps).run P w = .ok v w) (hd : a.defers = []) (hR : R (.returned v) w) : bodyPostM Fence.wide 7 P fn R .ret a w := by
  show LeavesInM _ _ _ _ _ _ _ _ _
  rw [hd]
  exact ⟨v, hr, hR⟩
theorem endsM_still {P : Program} {a : Act} {w : World} {fn : Func} {R : Ending → World → Prop} {v : Value} (hr : still P (results fn a.tmps) = some v) (hd : a.defers = []) (hR : R (.returned v) w) : bodyPostM Fence.wide 7 P fn R .ret a w := endsM (still_run hr w) hd hR
/-- The mark is struck first. -/
theorem marked {P : Program} {t w : World} {f : FM} {H : List Seg} {D : Nat} {a : Act} {fn : Func} {R : Ending → World → Prop} (HS : St t w f ([(D, .deferred (some []))] :: H)) (hd : a.defers = [mark D])
    (h : ∀ w', St t w' f H → bodyPostM Fence.wide 7 P fn R .ret ⟨a.tmps, []⟩ w') : bodyPostM Fence.wide 7 P fn R .ret a w := by
  show LeavesInM _ _ _ _ _ _ _ _ _
  rw [hd]
  refine ⟨by simp, .inl ⟨D, _, rfl, run_takeDeferred HS.blk, ?_⟩⟩
  exact h _ (St.put (pre := []) (.deferred none) HS).drop
/-- A loop whose first round is its last. -/
theorem onceK {P : Program} {Q : Exit → Act → World → Prop} {a : Act} {w : World} {c : Code} (h : c.wp P (Exit.then (fun _ _ => False) Q) a w) : (Code.loop c).wp P Q a w :=
  loopK (fun _ a' w' => a' = a ∧ w' = w) 0 ⟨rfl, rfl⟩ (by
    rintro n a' w' ⟨rfl, rfl⟩ K hK
    refine wp_mono h ?_
    intro e a2 w2 h2
    cases e <;> first | exact h2.elim | exact h2)
theorem SlR.cap {α : Type} {e : Ty α} {f : FM} {A : Option Addr} {c c' : Nat} {xs : List α} (h : SlR e f A c xs) (hl : xs.length ≤ c') : SlR e f A c' xs := ⟨hl, h.2⟩
section
variable {α : Type} {e : Ty α} {P : Program} {a : Act} {w : World} {o : Oper} {K : Value → World → Prop} {f : FM}
theorem does_cutLHM {T E c : Nat} {x y z v : Operand} {A : Option Addr} {k k' k'' : IntKind} {i j : Int} {xs : List α} (ho : o.op = .slice T x (some y) (some z) (some v)) (hT : P.underlying T = some (.slice E)) (hE : (P.info? E).map (·.size) = some e.sz)
    (hx : a.eval x = .slice A xs.length c) (hy : a.eval y = .int k i) (hz : a.eval z = .int k' j) (hv : a.eval v = .int k'' j) (h0 : 0 ≤ i) (h1 : i ≤ j) (h2 : j ≤ (xs.length : Int)) (hR : SlR e f A c xs)
    (hK : ∀ A' c', SlR e f A' c' ((xs.take j.toNat).drop i.toNat) → K (.slice A' ((xs.take j.toNat).drop i.toNat).length c') w) : Does P a w o K := by
  have hc := hR.le
  have hs : (sizeOf E).run P w = .ok e.sz w := run_sizeOf_of hE w
  have bound : ∀ (k : IntKind) (n y : Nat) (code : BoundsCode), n ≤ y → (Instr.sliceBound (.int k (n : Int)) y code).run P w = .ok n w := by
    intro k n y code hn
    simp [Instr.sliceBound, asIntOf, hn]
  obtain ⟨m, rfl⟩ := Int.eq_ofNat_of_zero_le h0
  obtain ⟨n, rfl⟩ := Int.eq_ofNat_of_zero_le (Int.le_trans h0 h1)
  have hmn : m ≤ n := by omega
  have hnl : n ≤ xs.length := by omega
  have hl : ((xs.take (n : Int).toNat).drop (m : Int).toNat).length = n - m := by rw [List.length_drop, List.length_take]; omega
  have b1 := bound k m n
  have b2 := bound k' n n
  have b3 := bound k'' n c
  by_cases hlt : m = n
  · subst hlt
    refine does_run (v := .slice A 0 0) (w' := w) ?_ ?_
    · simp only [execOp, ho, hx, hy, hz, hv, Option.map_some, Sem.run_bind]
      simp [Instr.sliceAt, run_underlying hT, Instr.slice, Instr.sliceBounds, bound, hs, show m ≤ c by omega]
    · have := hK A 0 ⟨by rw [hl]; omega, .inl (List.eq_nil_of_length_eq_zero (by rw [hl]; omega))⟩
      rw [hl] at this
      simpa using this
  · have hd := (hR.take n).drop m (by rw [List.length_take]; omega)
    have hd2 := hd.cap (c' := n - m) (by rw [List.length_drop, List.length_take]; omega)
    refine does_run (v := .slice (if c - m = c then A else A.map (·.add (m * e.sz))) (n - m) (n - m)) (w' := w) ?_ ?_
    · simp only [execOp, ho, hx, hy, hz, hv, Option.map_some, Sem.run_bind]
      simp [Instr.sliceAt, run_underlying hT, Instr.slice, Instr.sliceBounds, bound, hs, show n ≤ c by omega, hmn]
      by_cases hz : m = 0
      · subst hz
        simp [Addr.add, show n ≠ 0 by omega]
      · simp [show ¬ c - m = c by omega, show ¬ n - m = 0 by omega]
        exact fun h => absurd h.symm hlt
    · have := hK _ _ hd2
      rw [hl] at this
      exact this
end
/-- A slice literal, as a variable of so many cells. -/
theorem does_litRaw {P : Program} {a : Act} {o : Oper} {K : Value → World → Prop} {t w : World} {f : FM} {H : List Seg} {T E len : Nat} {parts : Array (Nat × Operand)} {vs : Array (Nat × Value)} {cs : Array Value} (ho : o.op = .buildSlice T len parts) (hT : P.underlying T = some (.slice E))
    (hv : (parts.map fun p => (p.1, a.eval p.2)) = vs) (h : litCells P T len vs = some cs) (hS : St t w f H)
    (hK : ∀ b w', St t w' f ([(b, .cells cs E (0, 0))] :: H) → K (.slice (some ⟨b, 0, none⟩) len len) w') : Does P a w o K := by
  refine does_run (v := .slice (some ⟨w.heap.size, 0, none⟩) len len) (w' := w.alloc (.cells cs E)) ?_ (hK _ _ (hS.alloc _))
  have e1 : (parts.map fun x => match x with | (i, x) => (i, a.eval x)) = vs := by rw [← hv]
  simp only [execOp, ho]
  rw [e1]
  simp [run_buildSlice_lit hT h w]
/-- One round of a loop, of so many. -/
theorem loopStepK {P : Program} {Q : Exit → Act → World → Prop} {a : Act} {w : World} {c : Code} {n : Nat} (h : ∀ K : Act → World → Prop, (∀ a w, Code.rounds P c Q n a w → K a w) → c.wp P (Exit.then K Q) a w) : Code.rounds P c Q (n + 1) a w :=
  h _ fun _ _ h => h
end Go.Sp
