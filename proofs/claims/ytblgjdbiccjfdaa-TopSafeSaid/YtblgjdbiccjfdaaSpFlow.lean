/- The flow of a walk: a function's entry, blocks, loops, regions in either order. -/
import Derived.Test.YtblgjdbiccjfdaaSpMake
import Derived.OrdersHeld
namespace Go.Sp
open Go Go.RowKit
set_option linter.unusedVariables false
section
variable {P : Program} {a : Act} {w : World} {ops : Array Oper} {Q : Exit → Act → World → Prop} {rest : List Oper}
def Good (P : Program) (fn : Func) (R : Ending → World → Prop) : Exit → Act → World → Prop
  | .normal, a, w | .ret, a, w => bodyPost P fn R .ret a w
  | _, _, _ => False
theorem enter {f : FuncId} {fn : Func} {c : Code} {args tm : Array Value} {R : Ending → World → Prop} (hf : P.funcs[f]? = some fn) (hb : fn.body = some c)
    (ht : args ++ Array.replicate (fn.ntmps - args.size) undef = tm)
    (h : ∀ B : Exit → Act → World → Prop, (∀ a w, bodyPost P fn R .ret a w → B .ret a w) → (∀ a w, bodyPost P fn R .ret a w → B .normal a w) → (∀ ch a w, ¬ B (.panic ch) a w) → c.wp P B ⟨tm, []⟩ w) : Calls P f args w R := by
  refine calls_of_wp hf hb ?_
  rw [ht]
  refine wp_mono (h (Good P fn R) (fun _ _ h => h) (fun _ _ h => h) (fun _ _ _ h => h)) ?_
  intro e a' w' hg
  cases e <;> first | exact hg | exact hg.elim
theorem ends {fn : Func} {R : Ending → World → Prop} {v : Value} (hr : (results fn a.tmps).run P w = .ok v w) (hd : a.defers = []) (hR : R (.returned v) w) : bodyPost P fn R .ret a w := ⟨hd, v, hr, hR⟩
theorem ends_still {fn : Func} {R : Ending → World → Prop} {v : Value} (hr : still P (results fn a.tmps) = some v) (hd : a.defers = []) (hR : R (.returned v) w) : bodyPost P fn R .ret a w := ⟨hd, v, still_run hr w, hR⟩
theorem blockK {id : Nat} {c : Code} (h : ∀ B : Exit → Act → World → Prop, (∀ a w, Q .normal a w → B (.exit id) a w) → (∀ a w, Q .normal a w → B .normal a w) → (∀ a w, Q .ret a w → B .ret a w) →
    (∀ j a w, j ≠ id → Q (.exit j) a w → B (.exit j) a w) → (∀ ch a w, B (.panic ch) a w → Q (.panic ch) a w) → c.wp P B a w) : (Code.block id c).wp P Q a w :=
  wp_block (h (Exit.inBlock id Q) (fun a w q => by simp only [Exit.inBlock, if_true]; exact q) (fun a w q => q) (fun a w q => q) (fun j a w hj q => by simp only [Exit.inBlock, if_neg hj]; exact q) (fun ch a w q => q))
theorem loopK {c : Code} (I : Nat → Act → World → Prop) (n : Nat) (h0 : I n a w)
    (round : ∀ n a w, I n a w → ∀ K : Act → World → Prop, (∀ n' a' w', n' < n → I n' a' w' → K a' w') → c.wp P (Exit.then K Q) a w) : (Code.loop c).wp P Q a w :=
  wp_loop_ghost I n h0 fun n a w h => round n a w h _ fun n' a' w' hn hi => ⟨n', hn, hi⟩
theorem condT {c : Operand} {x y : Code} (hc : a.eval c = .bool true) (h : x.wp P Q a w) : (Code.cond c x y).wp P Q a w := wp_cond_true hc h
theorem condF {c : Operand} {x y : Code} (hc : a.eval c = .bool false) (h : y.wp P Q a w) : (Code.cond c x y).wp P Q a w := wp_cond_false hc h
theorem St.u1 {t w : World} {f : FM} {H : List Seg} {s0 s1 : Seg} (h : St t w f (s0 :: s1 :: H)) : St t w f (s1 :: s0 :: H) := St.toFront [s0] h
theorem St.d1 {t w : World} {f : FM} {H : List Seg} {s0 s1 : Seg} (h : St t w f (s1 :: s0 :: H)) : St t w f (s0 :: s1 :: H) := St.fromFront [s0] h
theorem St.u2 {t w : World} {f : FM} {H : List Seg} {s0 s1 s2 : Seg} (h : St t w f (s0 :: s1 :: s2 :: H)) : St t w f (s2 :: s0 :: s1 :: H) := St.toFront [s0, s1] h
theorem St.d2 {t w : World} {f : FM} {H : List Seg} {s0 s1 s2 : Seg} (h : St t w f (s2 :: s0 :: s1 :: H)) : St t w f (s0 :: s1 :: s2 :: H) := St.fromFront [s0, s1] h
theorem St.u3 {t w : World} {f : FM} {H : List Seg} {s0 s1 s2 s3 : Seg} (h : St t w f (s0 :: s1 :: s2 :: s3 :: H)) : St t w f (s3 :: s0 :: s1 :: s2 :: H) := St.toFront [s0, s1, s2] h
theorem St.d3 {t w : World} {f : FM} {H : List Seg} {s0 s1 s2 s3 : Seg} (h : St t w f (s3 :: s0 :: s1 :: s2 :: H)) : St t w f (s0 :: s1 :: s2 :: s3 :: H) := St.fromFront [s0, s1, s2] h
theorem St.u4 {t w : World} {f : FM} {H : List Seg} {s0 s1 s2 s3 s4 : Seg} (h : St t w f (s0 :: s1 :: s2 :: s3 :: s4 :: H)) : St t w f (s4 :: s0 :: s1 :: s2 :: s3 :: H) := St.toFront [s0, s1, s2, s3] h
theorem St.d4 {t w : World} {f : FM} {H : List Seg} {s0 s1 s2 s3 s4 : Seg} (h : St t w f (s4 :: s0 :: s1 :: s2 :: s3 :: H)) : St t w f (s0 :: s1 :: s2 :: s3 :: s4 :: H) := St.fromFront [s0, s1, s2, s3] h
theorem St.u5 {t w : World} {f : FM} {H : List Seg} {s0 s1 s2 s3 s4 s5 : Seg} (h : St t w f (s0 :: s1 :: s2 :: s3 :: s4 :: s5 :: H)) : St t w f (s5 :: s0 :: s1 :: s2 :: s3 :: s4 :: H) := St.toFront [s0, s1, s2, s3, s4] h
theorem St.d5 {t w : World} {f : FM} {H : List Seg} {s0 s1 s2 s3 s4 s5 : Seg} (h : St t w f (s5 :: s0 :: s1 :: s2 :: s3 :: s4 :: H)) : St t w f (s0 :: s1 :: s2 :: s3 :: s4 :: s5 :: H) := St.fromFront [s0, s1, s2, s3, s4] h
theorem St.u6 {t w : World} {f : FM} {H : List Seg} {s0 s1 s2 s3 s4 s5 s6 : Seg} (h : St t w f (s0 :: s1 :: s2 :: s3 :: s4 :: s5 :: s6 :: H)) : St t w f (s6 :: s0 :: s1 :: s2 :: s3 :: s4 :: s5 :: H) := St.toFront [s0, s1, s2, s3, s4, s5] h
theorem St.d6 {t w : World} {f : FM} {H : List Seg} {s0 s1 s2 s3 s4 s5 s6 : Seg} (h : St t w f (s6 :: s0 :: s1 :: s2 :: s3 :: s4 :: s5 :: H)) : St t w f (s0 :: s1 :: s2 :: s3 :: s4 :: s5 :: s6 :: H) := St.fromFront [s0, s1, s2, s3, s4, s5] h
theorem St.u7 {t w : World} {f : FM} {H : List Seg} {s0 s1 s2 s3 s4 s5 s6 s7 : Seg} (h : St t w f (s0 :: s1 :: s2 :: s3 :: s4 :: s5 :: s6 :: s7 :: H)) : St t w f (s7 :: s0 :: s1 :: s2 :: s3 :: s4 :: s5 :: s6 :: H) := St.toFront [s0, s1, s2, s3, s4, s5, s6] h
theorem St.u8 {t w : World} {f : FM} {H : List Seg} {s0 s1 s2 s3 s4 s5 s6 s7 s8 : Seg} (h : St t w f (s0 :: s1 :: s2 :: s3 :: s4 :: s5 :: s6 :: s7 :: s8 :: H)) : St t w f (s8 :: s0 :: s1 :: s2 :: s3 :: s4 :: s5 :: s6 :: s7 :: H) := St.toFront [s0, s1, s2, s3, s4, s5, s6, s7] h
theorem St.u9 {t w : World} {f : FM} {H : List Seg} {s0 s1 s2 s3 s4 s5 s6 s7 s8 s9 : Seg} (h : St t w f (s0 :: s1 :: s2 :: s3 :: s4 :: s5 :: s6 :: s7 :: s8 :: s9 :: H)) : St t w f (s9 :: s0 :: s1 :: s2 :: s3 :: s4 :: s5 :: s6 :: s7 :: s8 :: H) := St.toFront [s0, s1, s2, s3, s4, s5, s6, s7, s8] h
theorem St.u10 {t w : World} {f : FM} {H : List Seg} {s0 s1 s2 s3 s4 s5 s6 s7 s8 s9 s10 : Seg} (h : St t w f (s0 :: s1 :: s2 :: s3 :: s4 :: s5 :: s6 :: s7 :: s8 :: s9 :: s10 :: H)) : St t w f (s10 :: s0 :: s1 :: s2 :: s3 :: s4 :: s5 :: s6 :: s7 :: s8 :: s9 :: H) := St.toFront [s0, s1, s2, s3, s4, s5, s6, s7, s8, s9] h
theorem St.u11 {t w : World} {f : FM} {H : List Seg} {s0 s1 s2 s3 s4 s5 s6 s7 s8 s9 s10 s11 : Seg} (h : St t w f (s0 :: s1 :: s2 :: s3 :: s4 :: s5 :: s6 :: s7 :: s8 :: s9 :: s10 :: s11 :: H)) : St t w f (s11 :: s0 :: s1 :: s2 :: s3 :: s4 :: s5 :: s6 :: s7 :: s8 :: s9 :: s10 :: H) := St.toFront [s0, s1, s2, s3, s4, s5, s6, s7, s8, s9, s10] h
theorem St.u12 {t w : World} {f : FM} {H : List Seg} {s0 s1 s2 s3 s4 s5 s6 s7 s8 s9 s10 s11 s12 : Seg} (h : St t w f (s0 :: s1 :: s2 :: s3 :: s4 :: s5 :: s6 :: s7 :: s8 :: s9 :: s10 :: s11 :: s12 :: H)) : St t w f (s12 :: s0 :: s1 :: s2 :: s3 :: s4 :: s5 :: s6 :: s7 :: s8 :: s9 :: s10 :: s11 :: H) := St.toFront [s0, s1, s2, s3, s4, s5, s6, s7, s8, s9, s10, s11] h
theorem St.u13 {t w : World} {f : FM} {H : List Seg} {s0 s1 s2 s3 s4 s5 s6 s7 s8 s9 s10 s11 s12 s13 : Seg} (h : St t w f (s0 :: s1 :: s2 :: s3 :: s4 :: s5 :: s6 :: s7 :: s8 :: s9 :: s10 :: s11 :: s12 :: s13 :: H)) : St t w f (s13 :: s0 :: s1 :: s2 :: s3 :: s4 :: s5 :: s6 :: s7 :: s8 :: s9 :: s10 :: s11 :: s12 :: H) := St.toFront [s0, s1, s2, s3, s4, s5, s6, s7, s8, s9, s10, s11, s12] h
theorem St.u14 {t w : World} {f : FM} {H : List Seg} {s0 s1 s2 s3 s4 s5 s6 s7 s8 s9 s10 s11 s12 s13 s14 : Seg} (h : St t w f (s0 :: s1 :: s2 :: s3 :: s4 :: s5 :: s6 :: s7 :: s8 :: s9 :: s10 :: s11 :: s12 :: s13 :: s14 :: H)) : St t w f (s14 :: s0 :: s1 :: s2 :: s3 :: s4 :: s5 :: s6 :: s7 :: s8 :: s9 :: s10 :: s11 :: s12 :: s13 :: H) := St.toFront [s0, s1, s2, s3, s4, s5, s6, s7, s8, s9, s10, s11, s12, s13] h
theorem St.dropL {t w : World} {f : FM} {H : List Seg} : ∀ (Hs : List Seg), St t w f (Hs ++ H) → St t w f H
  | [], h => h
  | _ :: Hs, h => St.dropL Hs h.drop
def Sx (t : World) (f : FM) (H : List Seg) (w : World) : Prop := ∃ g Hs, FM.le f g ∧ St t w g (Hs ++ H)
theorem Sx.of {t w : World} {f g : FM} {H : List Seg} (Hs : List Seg) (hl : FM.le f g) (h : St t w g (Hs ++ H)) : Sx t f H w := ⟨g, Hs, hl, h⟩
theorem Sx.st {t w : World} {f : FM} {H : List Seg} (h : Sx t f H w) : ∃ g, FM.le f g ∧ St t w g H := by
  obtain ⟨g, Hs, hl, h⟩ := h
  exact ⟨g, hl, h.dropL Hs⟩
theorem Rw.at' {α : Type} {e : Ty α} [Inhabited α] {w : World} {f : FM} {b off : Nat} {xs : List α} (h : Rw e w f (some ⟨b, off, none⟩) xs) {i : Int} (h0 : 0 ≤ i) (h1 : i < (xs.length : Int)) :
    ∃ cs, e.rep f cs (rd xs i) ∧ ∀ j, j < e.sz → w.cell? ⟨b, off + i.toNat * e.sz + j, none⟩ = cs[j]? := by
  obtain ⟨b', off', cs, hA, hr, hc⟩ := h.at h0 h1
  injection hA with hA
  injection hA with h1 h2
  subst h1 h2
  exact ⟨cs, hr, hc⟩
theorem lim63 {n b : Nat} (h : n * b ≤ 140737488355328) (hb : 0 < b) : n ≤ maxLen := by
  have h1 : n ≤ n * b := Nat.le_mul_of_pos_right n hb
  have : maxLen = 9223372036854775807 := by decide
  omega
theorem bind_some {α β : Type} {x : Option α} {g : α → Option β} {r : β} (h : x.bind g = some r) : ∃ v, x = some v ∧ g v = some r := by
  cases x with
  | none => cases h
  | some v => exact ⟨v, rfl, h⟩
theorem guard_some {β : Type} {p : Prop} [Decidable p] {x : Option β} {r : β} (h : (if p then x else none) = some r) : p ∧ x = some r := by
  by_cases hp : p
  · rw [if_pos hp] at h; exact ⟨hp, h⟩
  · rw [if_neg hp] at h; cases h
theorem ite_some {β : Type} {p : Prop} [Decidable p] {x y : Option β} {r : β} (h : (if p then x else y) = some r) : (p ∧ x = some r) ∨ (¬ p ∧ y = some r) := by
  by_cases hp : p
  · rw [if_pos hp] at h; exact .inl ⟨hp, h⟩
  · rw [if_neg hp] at h; exact .inr ⟨hp, h⟩
variable {S : World → Prop} {md : Region.Mode}
theorem Does.wpOp {i : Nat} {o : Oper} {K' : Act → World → Prop} (hi : ops[i]? = some o) (hw : Region.wanted o (yielded ops a.tmps) = true) (h : Does P a w o (fun v w' => K' (a.put o.dst v) w')) : wpOp P ops Q i K' a w := by
  unfold Go.wpOp
  rw [hi]
  dsimp only
  rw [if_pos hw]
  exact .inl (h K' Q fun v w' hv => hv)
def takeOps (P : Program) (md : Region.Mode) (ops : Array Oper) : List Nat → Array Bool → Act → Option (Array Bool × Act)
  | [], listed, a => some (listed, a)
  | i :: is, listed, a =>
    match ops[i]? with
    | some o =>
      match Region.free md ops listed i && (Region.ready md ops listed).contains i with
      | true =>
        match Region.wanted o (yielded ops a.tmps) with
        | true => match still P (execOp a.eval o) with
          | some (.value v) => takeOps P md ops is (listed.setIfInBounds i true) (a.put o.dst v)
          | _ => none
        | false => takeOps P md ops is (listed.setIfInBounds i true) (a.put o.dst undef)
      | false => none
    | none => none
end
theorem SlR.at {α : Type} [Inhabited α] {e : Ty α} {f : FM} {A : Option Addr} {c : Nat} {xs : List α} (h : SlR e f A c xs) {i : Int} (h0 : 0 ≤ i) (h1 : i < (xs.length : Int)) :
    ∃ b off cs, A = some ⟨b, off, none⟩ ∧ e.rep f cs (rd xs i) ∧ ∀ {t w : World} {g : FM} {H : List Seg}, FM.le f g → St t w g H → ∀ j, j < e.sz → w.cell? ⟨b, off + i.toNat * e.sz + j, none⟩ = cs[j]? := by
  obtain ⟨hl, er⟩ := rd_lt h0 h1
  rw [er]
  rcases h.2 with rfl | ⟨b, off, arr, et, fr, cs, rfl, hb, hr, hc⟩
  · simp at hl
  · refine ⟨b, off, _, rfl, hr.at i.toNat hl, fun {t w g H} hg hS j hj => ?_⟩
    rw [cell_of_row w b _ arr et fr (hS.fz b _ (hg _ _ hb)), take_drop_get hj, Nat.add_assoc]
    refine hc _ ?_
    rw [hr.length]
    have : i.toNat * e.sz + e.sz ≤ xs.length * e.sz := by rw [← Nat.succ_mul]; exact Nat.mul_le_mul_right _ hl
    omega
theorem SlR.at' {α : Type} [Inhabited α] {e : Ty α} {f : FM} {b off c : Nat} {xs : List α} (h : SlR e f (some ⟨b, off, none⟩) c xs) {i : Int} (h0 : 0 ≤ i) (h1 : i < (xs.length : Int)) :
    ∃ cs, e.rep f cs (rd xs i) ∧ ∀ {t w : World} {g : FM} {H : List Seg}, FM.le f g → St t w g H → ∀ j, j < e.sz → w.cell? ⟨b, off + i.toNat * e.sz + j, none⟩ = cs[j]? := by
  obtain ⟨b', off', cs, hA, hr, hc⟩ := h.at h0 h1
  injection hA with hA
  injection hA with h1 h2
  subst h1 h2
  exact ⟨cs, hr, hc⟩
theorem Own.at {α : Type} [Inhabited α] {e : Ty α} {E : TypeId} {f : FM} {A : Option Addr} {c : Nat} {s : Seg} {xs : List α} (h : Own e E f A c s xs) {i : Int} (h0 : 0 ≤ i) (h1 : i < (xs.length : Int)) :
    ∃ b off cs, A = some ⟨b, off, none⟩ ∧ e.rep f cs (rd xs i) ∧ ∀ {t w : World} {g : FM} {H : List Seg}, St t w g (s :: H) → ∀ j, j < e.sz → w.cell? ⟨b, off + i.toNat * e.sz + j, none⟩ = cs[j]? := by
  obtain ⟨hl, er⟩ := rd_lt h0 h1
  rw [er]
  rcases h with ⟨rfl, rfl, rfl, rfl⟩ | ⟨b, arr, rfl, ⟨fr, hz, rfl⟩, h1, h2, h3, hr⟩
  · simp at hl
  · refine ⟨b, 0, _, rfl, hr.at i.toNat hl, fun {t w g H} hS j hj => ?_⟩
    have : i.toNat * e.sz + e.sz ≤ xs.length * e.sz := by rw [← Nat.succ_mul]; exact Nat.mul_le_mul_right _ hl
    rw [cell_of_row w b _ arr E fr hS.blk, take_drop_get hj, List.getElem?_take, if_pos (by omega), Array.getElem?_toList, Nat.zero_add]
theorem Own.at' {α : Type} [Inhabited α] {e : Ty α} {E : TypeId} {f : FM} {b off c : Nat} {s : Seg} {xs : List α} (h : Own e E f (some ⟨b, off, none⟩) c s xs) {i : Int} (h0 : 0 ≤ i) (h1 : i < (xs.length : Int)) :
    ∃ cs, e.rep f cs (rd xs i) ∧ ∀ {t w : World} {g : FM} {H : List Seg}, St t w g (s :: H) → ∀ j, j < e.sz → w.cell? ⟨b, off + i.toNat * e.sz + j, none⟩ = cs[j]? := by
  obtain ⟨b', off', cs, hA, hr, hc⟩ := h.at h0 h1
  injection hA with hA
  injection hA with h1 h2
  subst h1 h2
  exact ⟨cs, hr, hc⟩
theorem St.cell {t w : World} {f : FM} {H : List Seg} {b : Nat} {cs : Array Value} {E : TypeId} {fr : Nat × Nat} (h : St t w f ([(b, .cells cs E fr)] :: H)) (j : Nat) : w.cell? ⟨b, j, none⟩ = cs[j]? := cell_of_row w b j cs E fr h.blk
theorem St.cells {t w : World} {f : FM} {H : List Seg} {b : Nat} {cs : Array Value} {E : TypeId} {fr : Nat × Nat} (h : St t w f ([(b, .cells cs E fr)] :: H)) (off n : Nat) (l : List Value) (hl : l = (cs.toList.drop off).take n) : ∀ j, j < n → w.cell? ⟨b, off + j, none⟩ = l[j]? := by
  intro j hj
  rw [h.cell, hl, take_drop_get hj, Array.getElem?_toList]
theorem run_div {P : Program} {a : Act} {o : Oper} {T T' : TypeId} {x y : Operand} {k : IntKind} {m n : Int} (ho : o.op = .binOp .quo T x y T') (hx : a.eval x = .int k m) (hy : a.eval y = .int k n) (h : ¬ n = 0) (w : World) :
    (execOp a.eval o).run P w = .ok (.value (.int k (k.wrap (m.tdiv n)))) w := by
  simp [execOp, ho, hx, hy, eqGuard, binOp, Op.intDiv, h]
theorem run_rem {P : Program} {a : Act} {o : Oper} {T T' : TypeId} {x y : Operand} {k : IntKind} {m n : Int} (ho : o.op = .binOp .rem T x y T') (hx : a.eval x = .int k m) (hy : a.eval y = .int k n) (h : ¬ n = 0) (w : World) :
    (execOp a.eval o).run P w = .ok (.value (.int k (m.tmod n))) w := by
  simp [execOp, ho, hx, hy, eqGuard, binOp, Op.intDiv, h]
end Go.Sp
