/- slices.SortFunc of structs of three whole numbers, by the first two: the kit's contract, told of a row of one's own. -/
import Derived.Test.YtiibkbligihgoaaGreatSpCopy
import Derived.Shelf.SlSortCmp.KitK
namespace Go.Sp
open Go Go.RowKit Go.Sort Go.Proofs Go.Shelf
set_option linter.unusedVariables false
section
variable {β : Type} [Inhabited β] (enc : β → List Value) (k : Nat)
theorem flatG_get (k0 : 0 < k) (hk : ∀ x, (enc x).length = k) : ∀ (ss : List β) (t : Nat), t < ss.length * k → (ss.flatMap enc)[t]? = (enc ss[t / k]!)[t % k]?
  | [], t, h => by simp at h
  | x :: ss, t, h => by
    rw [List.flatMap_cons]
    by_cases c : t < k
    · rw [List.getElem?_append_left (by rw [hk]; exact c), Nat.div_eq_of_lt c, Nat.mod_eq_of_lt c]; rfl
    · obtain ⟨u, rfl⟩ : ∃ u, t = u + k := ⟨t - k, by omega⟩
      have hu : u < ss.length * k := by rw [List.length_cons, Nat.add_mul, Nat.one_mul] at h; omega
      rw [List.getElem?_append_right (by rw [hk]; omega), hk, Nat.add_sub_cancel, flatG_get k0 hk ss u hu, Nat.add_div_right _ k0, Nat.add_mod_right]
      rfl
omit [Inhabited β] in
theorem flatG_len (hk : ∀ x, (enc x).length = k) (ss : List β) : (ss.flatMap enc).length = ss.length * k := by
  induction ss with
  | nil => simp
  | cons x ss ih => rw [List.flatMap_cons, List.length_append, ih, hk, List.length_cons, Nat.add_mul, Nat.one_mul]; omega
theorem flatKG_list (k0 : 0 < k) (hk : ∀ x, (enc x).length = k) (d : Array β) : (flatK enc k d).toList = d.toList.flatMap enc := by
  apply List.ext_getElem?
  intro t
  by_cases h : t < d.toList.length * k
  · rw [flatG_get enc k k0 hk d.toList t h]
    have h' : t < d.size * k := by simpa using h
    have e := get_flatK enc k d t h'
    have hs : t < (flatK enc k d).size := by simp; omega
    rw [getElem!_pos _ t hs] at e
    have hd : t / k < d.size := Nat.div_lt_of_lt_mul (by rw [Nat.mul_comm]; exact h')
    have hm : t % k < (enc d[t / k]!).length := by rw [hk]; exact Nat.mod_lt _ k0
    rw [getElem!_pos (enc d[t / k]!) (t % k) hm] at e
    have hx : d.toList[t / k]! = d[t / k]! := by rw [getElem!_pos d.toList _ (by simp; exact hd), getElem!_pos d _ hd, Array.getElem_toList]
    rw [Array.getElem?_toList, Array.getElem?_eq_getElem hs, e, hx, List.getElem?_eq_getElem hm]
  · rw [List.getElem?_eq_none (by simp at h ⊢; omega), List.getElem?_eq_none (by rw [flatG_len enc k hk]; omega)]
theorem holdsG {w : World} {g : Nat} {cur : Array Value} {e : TypeId} {fr : Nat × Nat} {ss : List β} (k0 : 0 < k) (hk : ∀ x, (enc x).length = k) (hz : NoFz cur.size fr) (hb : w.heap[g]? = some (.cells cur e fr)) (ht : cur.toList.take (ss.length * k) = ss.flatMap enc) :
    HoldsK enc k w g 0 ss.toArray := by
  intro j hj
  have hj' : j < ss.length * k := by simpa using hj
  have hle : ss.length * k ≤ cur.size := by
    have h9 := congrArg List.length ht
    rw [List.length_take, flatG_len enc k hk] at h9
    have e9 : cur.toList.length = cur.size := Array.length_toList
    omega
  have h1 : (cur.toList.take (ss.length * k))[j]? = (ss.flatMap enc)[j]? := by rw [ht]
  rw [List.getElem?_take_of_lt hj', show ss.flatMap enc = (flatK enc k ss.toArray).toList by rw [flatKG_list enc k k0 hk]] at h1
  refine ⟨?_, ?_⟩
  · simp only [World.cell?, hb, Nat.zero_add]
    simp only [Option.isSome_none, Bool.false_eq_true, if_false]
    rw [← Array.getElem?_toList, h1, Array.getElem?_toList, Array.getElem?_eq_getElem hj]
    show _ = some ((flatK enc k ss.toArray)[j]!)
    rw [getElem!_pos (flatK enc k ss.toArray) j hj]
  · have hq := hz j (by omega)
    obtain ⟨lo, hi⟩ := fr
    simp only [World.frozen?, hb, Nat.zero_add]
    rw [Bool.and_eq_false_iff, decide_eq_false_iff_not, decide_eq_false_iff_not]
    dsimp only at hq
    omega
theorem heap_sortedG {w : World} {g n : Nat} {os : Array Obj} {cur : Array Value} {e : TypeId} {fr : Nat × Nat} (d : Array β) (hb : w.heap[g]? = some (.cells cur e fr)) :
    (sortWorldK enc k w g 0 n d os).heap[g]? = some (.cells (Go.Sort.putCells id 0 (flatK enc k d) cur) e fr) := by
  have hg : g < w.heap.size := (Array.getElem?_eq_some_iff.1 hb).1
  unfold sortWorldK putRowK
  rw [heap_grow_old _ _ (by simpa using hg)]
  simp [putRow, mapBlock, Sort.ahead, Array.getElem?_modify, hb, onCells]
theorem grownBy_sortedG {w : World} {g n : Nat} {os : Array Obj} (d : Array β) : w.grownBy (sortWorldK enc k w g 0 n d os) (some g) := by
  unfold sortWorldK putRowK
  refine ⟨rfl, rfl, rfl, by simp, fun k hk hne => ?_⟩
  rw [heap_grow_old _ _ (by simpa using hk)]
  have : g ≠ k := fun e => hne (by rw [e])
  simp [putRow, mapBlock, Sort.ahead, Array.getElem?_modify, this]
theorem take_putCellsG (k0 : 0 < k) (hk : ∀ x, (enc x).length = k) (cur : Array Value) (d : Array β) (h : d.size * k ≤ cur.size) : (Go.Sort.putCells id 0 (flatK enc k d) cur).toList.take (d.size * k) = d.toList.flatMap enc := by
  rw [← flatKG_list enc k k0 hk]
  have hs : (flatK enc k d).size = d.size * k := by simp
  apply List.ext_getElem?
  intro j
  by_cases hj : j < d.size * k
  · rw [List.getElem?_take_of_lt hj, Array.getElem?_toList, Array.getElem?_toList]
    have hj2 : j < cur.size := by omega
    have hj3 : j < (flatK enc k d).size := by omega
    rw [Array.getElem?_eq_getElem hj3]
    simp [Go.Sort.putCells, hj, hj2, hs, hj3]
  · rw [List.getElem?_take_eq_none (by omega), List.getElem?_eq_none (by rw [Array.length_toList, hs]; omega)]
end
section
variable {α : Type} (pa pb pc : α → Int)
def B3 (x : α) : Prop := (-2147483648 ≤ pa x ∧ pa x ≤ 2147483648) ∧ (-2147483648 ≤ pb x ∧ pb x ≤ 2147483648)
abbrev T3 := {x : α // B3 pa pb x}
def c3 (x : T3 pa pb) : List Value := [.int .i64 (pa x.1), .int .i64 (pb x.1), .int .i64 (pc x.1)]
def cf3 (x y : T3 pa pb) : Int := if pa x.1 - pa y.1 ≠ 0 then pa x.1 - pa y.1 else pb x.1 - pb y.1
def le3 (x y : α) : Bool := decide (pa x < pa y ∨ (pa x = pa y ∧ pb x ≤ pb y))
theorem lt3 (x y : T3 pa pb) : ltOf (cf3 pa pb) x y = decide (pa x.1 < pa y.1 ∨ (pa x.1 = pa y.1 ∧ pb x.1 < pb y.1)) := by
  unfold ltOf cf3
  rw [decide_eq_decide]
  split <;> omega
theorem swo3 : SWO (ltOf (cf3 pa pb)) where
  irrefl x := by rw [lt3, decide_eq_false_iff_not]; omega
  trans x y z h1 h2 := by rw [lt3, decide_eq_true_eq] at *; omega
  ntrans x y z h1 h2 := by rw [lt3, decide_eq_false_iff_not] at *; omega
theorem key_inj {xs : List α} (hD : xs.Pairwise fun x y => ¬ (pa x = pa y ∧ pb x = pb y)) : ∀ {x y : α}, x ∈ xs → y ∈ xs → pa x = pa y → pb x = pb y → x = y := by
  induction xs with
  | nil => intro x y h; cases h
  | cons z xs ih =>
    intro x y hx hy h1 h2
    rw [List.pairwise_cons] at hD
    rcases List.mem_cons.mp hx with rfl | hx'
    · rcases List.mem_cons.mp hy with rfl | hy'
      · rfl
      · exact absurd ⟨h1, h2⟩ (hD.1 y hy')
    · rcases List.mem_cons.mp hy with rfl | hy'
      · exact absurd ⟨h1.symm, h2.symm⟩ (hD.1 x hx')
      · exact ih hD.2 hx' hy' h1 h2
theorem merge3 {xs ys : List α} (hD : xs.Pairwise fun x y => ¬ (pa x = pa y ∧ pb x = pb y)) (hp : ys.Perm xs) (hs : ys.Pairwise fun x y => le3 pa pb x y = true) : ys = xs.mergeSort (le3 pa pb) := by
  have tr : ∀ a b c : α, le3 pa pb a b = true → le3 pa pb b c = true → le3 pa pb a c = true := fun a b c h1 h2 => by simp only [le3, decide_eq_true_eq] at *; omega
  have to : ∀ a b : α, (le3 pa pb a b || le3 pa pb b a) = true := fun a b => by simp only [le3, Bool.or_eq_true, decide_eq_true_eq]; omega
  refine List.Perm.eq_of_pairwise (le := fun a b => le3 pa pb a b = true) (fun a b ha hb h1 h2 => ?_) hs (List.pairwise_mergeSort tr to xs) (hp.trans (List.mergeSort_perm xs _).symm)
  simp only [le3, decide_eq_true_eq] at h1 h2
  exact key_inj pa pb hD (hp.mem_iff.mp ha) ((List.mergeSort_perm xs _).mem_iff.mp hb) (by omega) (by omega)
variable {e : Ty α}
theorem reps3 (he : ∀ f cs x, e.rep f cs x ↔ cs = [.int .i64 (pa x), .int .i64 (pb x), .int .i64 (pc x)]) {f : FM} {cs : List Value} {xs : List α} : Reps e f cs xs ↔ cs = xs.flatMap fun x => [.int .i64 (pa x), .int .i64 (pb x), .int .i64 (pc x)] := by
  induction xs generalizing cs with
  | nil => simp [Reps]
  | cons x xs ih =>
    constructor
    · rintro ⟨c, cs', rfl, hc, h⟩
      rw [(he _ _ _).mp hc, ih.mp h, List.flatMap_cons]
    · intro h
      exact ⟨_, _, by rw [h, List.flatMap_cons], (he _ _ _).mpr rfl, ih.mpr rfl⟩
theorem sort3_own {P : Program} {t w : World} {f : FM} {H : List Seg} {fn : Nat} {fv : Value} {E : TypeId} {A : Option Addr} {c : Nat} {s : Seg} {xs : List α} (hsz : e.sz = 3) (he : ∀ f cs x, e.rep f cs x ↔ cs = [.int .i64 (pa x), .int .i64 (pb x), .int .i64 (pc x)])
    (hsort : ∀ [Inhabited (T3 pa pb)] (blk cap : Nat) (zs : List (T3 pa pb)) (w : World), HoldsK (c3 pa pb pc) 3 w blk 0 zs.toArray → blk < w.heap.size → zs.length < 4611686018427387904 → Calls P fn #[.slice (some ⟨blk, 0, none⟩) zs.length cap, fv] w fun e w' =>
      e = .returned (.tuple #[]) ∧ ∃ d' n os, PermIn 0 zs.length zs.toArray d' ∧ SortedIn (ltOf (cf3 pa pb)) 0 zs.length d' ∧ w' = sortWorldK (c3 pa pb pc) 3 w blk 0 n d' os)
    (hnone : ∀ (p : Option Addr) (cap : Nat) (w : World), Calls P fn #[.slice p 0 cap, fv] w fun e w' => e = .returned (.tuple #[]) ∧ w' = w)
    (HS : St t w f (s :: H)) (HO : Own e E f A c s xs) (hl : xs.length < 4611686018427387904) (hB : ∀ x ∈ xs, B3 pa pb x) (hD : xs.Pairwise fun x y => ¬ (pa x = pa y ∧ pb x = pb y)) :
    Calls P fn #[.slice A xs.length c, fv] w fun e' w' => ∃ (g : FM) (s' : Seg), e' = .returned (.tuple #[]) ∧ FM.le f g ∧ St t w' g (s' :: H) ∧ Own e E g A c s' (xs.mergeSort (le3 pa pb)) ∧ (xs.mergeSort (le3 pa pb)).length = xs.length := by
  by_cases hx : xs = []
  · subst hx
    refine (hnone A c w).mono fun e' w' ⟨h1, h2⟩ => ?_
    subst h2
    exact ⟨f, s, h1, FM.le.refl _, HS, by simpa using HO, by simp⟩
  have hx0 := List.exists_mem_of_ne_nil xs hx
  obtain ⟨x0, hx0⟩ := hx0
  haveI : Inhabited (T3 pa pb) := ⟨⟨x0, hB x0 hx0⟩⟩
  rcases HO with ⟨rfl, rfl, rfl, rfl⟩ | ⟨b, arr, rfl, ⟨fr, hfr, rfl⟩, h1, h2, h3, h4⟩
  · cases hx0
  have hk : ∀ x, (c3 pa pb pc x).length = 3 := fun _ => rfl
  obtain ⟨zs, hzs⟩ : ∃ zs : List (T3 pa pb), zs.map Subtype.val = xs := ⟨xs.attachWith _ hB, by simp⟩
  have hzl : zs.length = xs.length := by rw [← hzs, List.length_map]
  rw [hsz] at h3 h4
  have h5 := (reps3 pa pb pc he).mp h4
  have h6 : xs.flatMap (fun x => [Value.int .i64 (pa x), .int .i64 (pb x), .int .i64 (pc x)]) = zs.flatMap (c3 pa pb pc) := by rw [← hzs, List.flatMap_map]; rfl
  rw [h6, ← hzl] at h5
  have hH := holdsG (c3 pa pb pc) 3 (by decide) hk hfr HS.blk h5
  have hc := hsort b c zs w hH (lt_of_some HS.blk) (by omega)
  rw [hzl] at hc
  refine hc.mono fun e' w' ⟨he', d', n, os, hp, hs, hw⟩ => ?_
  have hsize : d'.size = xs.length := by have := hp.1; simpa [hzl] using this
  have hperm : d'.toList.Perm zs := by
    have := hp.2.2
    rw [← hzl] at this hsize
    have e1 : d'.extract 0 zs.length = d' := by rw [← hsize]; simp
    have e2 : zs.toArray.extract 0 zs.length = zs.toArray := by simp
    rw [e1, e2] at this
    simpa using this
  have hys : d'.toList.map Subtype.val = xs.mergeSort (le3 pa pb) := by
    refine merge3 pa pb hD (by rw [← hzs]; exact hperm.map _) ?_
    rw [List.pairwise_map, List.pairwise_iff_getElem]
    intro i j hi hj hij
    rw [Array.length_toList] at hi hj
    have := hs i j (Nat.zero_le _) hij (by omega)
    rw [getElem!_pos d' j hj, getElem!_pos d' i hi, lt3, decide_eq_false_iff_not] at this
    simp only [le3, decide_eq_true_eq, Array.getElem_toList]
    omega
  have hb := heap_sortedG (c3 pa pb pc) 3 (n := n) (os := os) d' HS.blk
  have hg := grownBy_sortedG (c3 pa pb pc) 3 (w := w) (g := b) (n := n) (os := os) d'
  rw [← hw] at hb hg
  obtain ⟨g1, g2, g3, g4, g5⟩ := hg
  have hS' := HS.turn g1 g2 g3 (fun k hk x hx => by
    rw [g5 k (lt_of_some hx) (fun e => hk (Option.some.inj e))]; exact hx) hb
  have hlen : (xs.mergeSort (le3 pa pb)).length = xs.length := List.length_mergeSort xs
  have has : (Go.Sort.putCells id 0 (flatK (c3 pa pb pc) 3 d') arr).size = arr.size := by simp [Go.Sort.putCells]
  refine ⟨f, _, he', FM.le.refl _, hS', .inr ⟨b, _, rfl, ⟨fr, by rw [has]; exact hfr, rfl⟩, by rw [hlen]; exact h1, h2, by rw [hsz, has]; exact h3, ?_⟩, hlen⟩
  rw [reps3 pa pb pc he, hsz, hlen, ← hsize, take_putCellsG (c3 pa pb pc) 3 (by decide) hk arr d' (by rw [hsize]; omega), ← hys, List.flatMap_map]
  rfl
end
end Go.Sp
