/- slices.SortedFunc at what maps.Keys has handed back, keys [2]int, by optics.add's order: in this memory logic. -/
import Derived.Test.YtcnhbfdkediodaaSpKeysA
import Derived.Test.YtcnhbfdkediodaaSpCmpA
import Derived.Test.YtcnhbfdkediodaaSrt
import Derived.RangeFuncBound
import Derived.Test.YtcnhbfdkediodaaSpThree
namespace Go.Sp
open Go Go.Proofs Go.RowKit Go.Maps Go.Sort Go.Shelf Go.Lib
set_option linter.unusedVariables false
theorem flat2_get : ∀ (ss : List (Int × Int)) (t : Nat), t < 2 * ss.length → (ss.flatMap cA)[t]? = (cA ss[t / 2]!)[t % 2]?
  | [], t, h => by simp at h
  | x :: ss, 0, h => rfl
  | x :: ss, 1, h => rfl
  | x :: ss, t + 2, h => by
    have ih := flat2_get ss t (by simp at h; omega)
    rw [List.flatMap_cons, show (cA x ++ ss.flatMap cA)[t + 2]? = (ss.flatMap cA)[t]? from rfl, ih, show (t + 2) / 2 = t / 2 + 1 by omega, show (t + 2) % 2 = t % 2 by omega]
    rfl
theorem flat2_len (ss : List (Int × Int)) : (ss.flatMap cA).length = ss.length * 2 := by
  induction ss with
  | nil => rfl
  | cons x ss ih => rw [List.flatMap_cons, List.length_append, ih, List.length_cons]; simp; omega
theorem flatK_list (ss : List (Int × Int)) : (flatK cA 2 ss.toArray).toList = ss.flatMap cA := by
  apply List.ext_getElem?
  intro t
  by_cases h : t < 2 * ss.length
  · rw [flat2_get ss t h]
    have e := get_flatK cA 2 ss.toArray t (by simp; omega)
    have hs : t < (flatK cA 2 ss.toArray).size := by simp; omega
    rw [getElem!_pos _ t hs] at e
    rw [Array.getElem?_toList, Array.getElem?_eq_getElem hs, e]
    have hm : t % 2 < (cA ss[t / 2]!).length := by simp; omega
    have hx : ss.toArray[t / 2]! = ss[t / 2]! := by simp
    rw [List.getElem?_eq_getElem hm, hx, getElem!_pos (cA ss[t / 2]!) (t % 2) hm]
  · rw [List.getElem?_eq_none (by simp; omega), List.getElem?_eq_none (by rw [flat2_len]; omega)]
theorem holds_of_blockA {w : World} {g : Nat} {cur : Array Value} {e : TypeId} {ss : List (Int × Int)} (hb : w.heap[g]? = some (.cells cur e (0, 0))) (ht : cur.toList.take (ss.length * 2) = ss.flatMap cA) : HoldsK cA 2 w g 0 ss.toArray := by
  intro j hj
  have hj' : j < ss.length * 2 := by simpa using hj
  refine ⟨?_, by simp [World.frozen?, hb]⟩
  have h1 : (cur.toList.take (ss.length * 2))[j]? = (ss.flatMap cA)[j]? := by rw [ht]
  rw [List.getElem?_take_of_lt hj', ← flatK_list] at h1
  simp only [World.cell?, hb, Nat.zero_add]
  simp only [Option.isSome_none, Bool.false_eq_true, if_false]
  rw [← Array.getElem?_toList, h1, Array.getElem?_toList, Array.getElem?_eq_getElem hj]
  show _ = some ((flatK cA 2 ss.toArray)[j]!)
  rw [getElem!_pos (flatK cA 2 ss.toArray) j hj]
theorem heap_sortedA {w : World} {g n : Nat} {os : Array Obj} {cur : Array Value} {e : TypeId} {fr : Nat × Nat} (d : Array (Int × Int)) (hb : w.heap[g]? = some (.cells cur e fr)) :
    (sortWorldK cA 2 w g 0 n d os).heap[g]? = some (.cells (Go.Sort.putCells id 0 (flatK cA 2 d) cur) e fr) := by
  have hg : g < w.heap.size := (Array.getElem?_eq_some_iff.1 hb).1
  unfold sortWorldK putRowK
  rw [heap_grow_old _ _ (by simpa using hg)]
  simp [putRow, mapBlock, Sort.ahead, Array.getElem?_modify, hb, onCells]
theorem grownBy_sortedA {w : World} {g n : Nat} {os : Array Obj} (d : Array (Int × Int)) : w.grownBy (sortWorldK cA 2 w g 0 n d os) (some g) := by
  unfold sortWorldK putRowK
  refine ⟨rfl, rfl, rfl, by simp, fun k hk hne => ?_⟩
  rw [heap_grow_old _ _ (by simpa using hk)]
  have : g ≠ k := fun e => hne (by rw [e])
  simp [putRow, mapBlock, Sort.ahead, Array.getElem?_modify, this]
theorem take_putCellsA (cur : Array Value) (ts : List (Int × Int)) (h : ts.length * 2 ≤ cur.size) : (Go.Sort.putCells id 0 (flatK cA 2 ts.toArray) cur).toList.take (ts.length * 2) = ts.flatMap cA := by
  rw [← flatK_list]
  have hs : (flatK cA 2 ts.toArray).size = ts.length * 2 := by simp
  apply List.ext_getElem?
  intro j
  by_cases hj : j < ts.length * 2
  · rw [List.getElem?_take_of_lt hj, Array.getElem?_toList, Array.getElem?_toList]
    have hj2 : j < cur.size := by omega
    have hj3 : j < (flatK cA 2 ts.toArray).size := by omega
    rw [Array.getElem?_eq_getElem hj3]
    simp [Go.Sort.putCells, hj, hj2, hs, hj3]
  · rw [List.getElem?_take_eq_none (by omega), List.getElem?_eq_none (by rw [Array.length_toList, hs]; omega)]
theorem ownsRow_sortedA {w : World} {base g cap n : Nat} {e : TypeId} {os : Array Obj} {cur : Array Value} {ss ts : List (Int × Int)} (hl : ts.length = ss.length) (hbase : base ≤ g) (hb : w.heap[g]? = some (.cells cur e (0, 0)))
    (h1 : ss.length ≤ cap) (h2 : cap ≤ maxLen) (h3 : cur.size = cap * 2) :
    (sortWorldK cA 2 w g 0 n ts.toArray os).ownsRow base e 2 (.slice (some ⟨g, 0, none⟩) ss.length cap) ss.length (ts.flatMap cA) :=
  ⟨by rw [flat2_len, hl], .inr ⟨g, cap, _, rfl, hbase, heap_sortedA _ hb, h1, h2, by simp [Go.Sort.putCells, h3], by rw [← hl]; exact take_putCellsA cur ts (by omega)⟩⟩
theorem leA_lt (x y : Int × Int) : (!(ltOf cfA) y x) = leA x y := by
  rw [ltA]
  unfold leA
  by_cases h : x.1 < y.1 ∨ (x.1 = y.1 ∧ x.2 ≤ y.2)
  · rw [decide_eq_true h, decide_eq_false (by omega)]; rfl
  · rw [decide_eq_false h, decide_eq_true (by omega)]; rfl
theorem leA_perm {l l' : List (Int × Int)} (h : l.Perm l') : l.mergeSort leA = l'.mergeSort leA := by
  have tr : ∀ a b c : Int × Int, leA a b = true → leA b c = true → leA a c = true := fun a b c h1 h2 => by simp only [leA, decide_eq_true_eq] at *; omega
  have to : ∀ a b : Int × Int, (leA a b || leA b a) = true := fun a b => by simp only [leA, Bool.or_eq_true, decide_eq_true_eq]; omega
  refine List.Perm.eq_of_pairwise (le := fun a b => leA a b = true) (fun a b _ _ h1 h2 => ?_) (List.pairwise_mergeSort tr to l) (List.pairwise_mergeSort tr to l') (((List.mergeSort_perm l leA).trans h).trans (List.mergeSort_perm l' leA).symm)
  simp only [leA, decide_eq_true_eq] at h1 h2
  exact Prod.ext (by omega) (by omega)
theorem sortA_calls (gb cap : Nat) (ss : List (Int × Int)) (W : World) (hH : HoldsK cA 2 W gb 0 ss.toArray) (hgl : gb < W.heap.size) (hsz : ss.length < 4611686018427387904) :
    Calls Try.prog 46 #[.slice (some ⟨gb, 0, none⟩) ss.length cap, .func (.func 35) #[] #[]] W fun e w' => e = .returned (.tuple #[]) ∧ ∃ n os, w' = sortWorldK cA 2 W gb 0 n (ss.mergeSort leA).toArray os := by
  have h := AnyQ.slices_SortFunc_total Try.sortA 2 (fun w => Try.isAgg73 w) (fun w => Try.sizeOf73 w) cA (fun _ => rfl) (fun x v hv => by simp at hv; rcases hv with rfl | rfl <;> rfl) cfA swoA 35 #[] gb 0 cap ss.toArray W (enters_of Try.func35 (by kernel_rfl) rfl) (cmpLaysA gb 0 _ W) hH hgl (by simpa using hsz) totA
  have e : (fun x y : Int × Int => !(ltOf cfA) y x) = leA := funext fun x => funext fun y => leA_lt x y
  rw [e] at h
  simp only [List.size_toArray] at h
  exact h
theorem sortA_none (p : Option Addr) (cap : Nat) (fv : Value) (W : World) : Calls Try.prog 46 #[.slice p 0 cap, fv] W fun e w' => e = .returned (.tuple #[]) ∧ w' = W :=
  AnyF.slices_SortFunc_none Try.sortA p cap fv W
def SortsInA (F : Fence) (m : Nat) : Prop :=
  (∀ (gb cap : Nat) (ss : List (Int × Int)) (W : World), HoldsK cA 2 W gb 0 ss.toArray → gb < W.heap.size → ss.length < 4611686018427387904 →
    CallsIn F m Try.prog 46 #[.slice (some ⟨gb, 0, none⟩) ss.length cap, .func (.func 35) #[] #[]] W fun e w' => e = .returned (.tuple #[]) ∧ ∃ n os, w' = sortWorldK cA 2 W gb 0 n (ss.mergeSort leA).toArray os) ∧
  (∀ (p : Option Addr) (cap : Nat) (fv : Value) (W : World), CallsIn F m Try.prog 46 #[.slice p 0 cap, fv] W fun e w' => e = .returned (.tuple #[]) ∧ w' = W)
set_option maxRecDepth 100000 in
set_option maxHeartbeats 2000000 in
theorem sortedA_in (F : Fence) (n : Nat) (h6 : F.fn 33) (h8 : F.fn 45) (h9 : F.fn 46) (h11 : F.fn 51) (hro : F.round = none) (hn : 4 ≤ n) (hsort : SortsInA F (n - 1)) (g : Nat) (lb : Array Value) (hFg : F.fn g) (eg : ∀ args w, (callFunc g args).run Try.prog w = .ok (.enter g args) w)
    (S : List (Int × Int) → Prop) (N : Nat) (hN : N ≤ maxLen) (hNb : N * 16 ≤ 140737488355328) (w : World) (hseq : SeqGives F (n - 1 - 1 - 1) Try.prog g lb kA S N w) :
    CallsIn F n Try.prog 33 #[.func (.func g) #[] lb, .func (.func 35) #[] #[]] w fun e w' => ∃ (v : Value) (ss : List (Int × Int)), e = .returned v ∧ S ss ∧
      w'.ownsRow w.heap.size 73 2 v ss.length ((ss.mergeSort leA).flatMap cA) ∧ (v = .slice none 0 0 ↔ ss = []) ∧ Below w.heap.size w w' := by
  have h1 : 1 ≤ n := by omega
  refine callsIn_of_wp Try.func33 rfl h6 ?_ hro
  simp only [Try.ntmps33, List.size_toArray, List.length_cons, List.length_nil, Nat.reduceAdd, Nat.reduceSub, Array.replicate_succ, Array.replicate_zero, List.push_toArray, List.append_toArray, List.nil_append, List.cons_append]
  gi_wp2_with (gi_at_call 45; refine (collectA F (n - 1) h8 h11 hro (by omega) g lb hFg eg _ N hN hNb _ hseq.bounded).mono ?_; rintro e W ⟨v, ss, rfl, ⟨hS, hlen⟩, hrow, hnil, hb⟩)
  rcases hrow.2 with ⟨rfl, hz⟩ | ⟨gb, cap, cur, rfl, hbase, hgb, r1, r2, r3, r4⟩
  · have hss : ss = [] := List.eq_nil_of_length_eq_zero hz
    subst hss
    gi_wp2_with (gi_at_call 46; refine (hsort.2 none 0 _ W).mono ?_; rintro e w' ⟨rfl, rfl⟩)
    go_ret
    exact ⟨.slice none 0 0, [], rfl, hS, by simpa using hrow, by simp, hb⟩
  · have hH : HoldsK cA 2 W gb 0 ss.toArray := holds_of_blockA hgb r4
    have hgl : gb < W.heap.size := (Array.getElem?_eq_some_iff.1 hgb).1
    have hsz : ss.length < 4611686018427387904 := by omega
    have cS := hsort.1 gb cap ss W hH hgl hsz
    gi_wp2_with (gi_at_call 46; refine cS.mono ?_; rintro e w' ⟨rfl, nn, os, rfl⟩)
    go_ret
    exact ⟨_, ss, rfl, hS, ownsRow_sortedA (by simp) hbase hgb r1 r2 r3, hnil, hb.grown (grownBy_sortedA _) hb.size (fun j hj => by cases hj; exact hbase)⟩
theorem sortsA_wide (m : Nat) : SortsInA Fence.wide m :=
  ⟨fun gb cap ss W hH hgl hsz => callsIn_wide.2 (sortA_calls gb cap ss W hH hgl hsz), fun p cap fv W => callsIn_wide.2 (sortA_none p cap fv W)⟩
end Go.Sp
