/- strings.Builder, of the walk's own; a string's bytes appended to a row of one's own. -/
import Derived.Test.YtjnehahcpeiheaaGreatDoorSpLib
import Derived.Lib.AppendStr
import Derived.Laws.IdiomStrings
import Derived.Shelf.Strings.Builder1
import Derived.MapKept
namespace Go.Sp
open Go Go.RowKit Go.Sort Go.Lib Go.Shelf Go.Proofs
set_option linter.unusedVariables false
def sby (s : ByteArray) : List Int := s.data.toList.map fun b => (b.toNat : Int)
theorem sby_len (s : ByteArray) : (sby s).length = s.size := by unfold sby; rw [List.length_map, Array.length_toList]; rfl
theorem strCells_sby (s : ByteArray) : strCells s = (sby s).map (Value.int .u8) := by unfold strCells sby; rw [List.map_map]; rfl
def Full (s : Seg) (c : Nat) : Prop := ∀ b arr E fr, s = [(b, .cells arr E fr)] → arr.size = c
section
variable {P : Program} {t w : World} {f g : FM} {H : List Seg} {a : Act} {o : Oper} {x y z : Operand} {s : Seg}
theorem run_append_str {T U E : Nat} {i : TypeInfo} {A : Option Addr} {c : Nat} {xs : List Int} (ty : TypeId) (hT : P.underlying T = some (.slice E)) (hU : P.underlying U = some .string) (hi : P.info? E = some i) (hz : i.zero = some (.int .u8 0)) (h1 : i.size = 1) (hb : i.bytes = 1)
    (hO : Own (tInt .u8) E f A c s xs) (hS : St t w f (s :: H)) (str : ByteArray) (hlim : xs.length + str.size ≤ 140737488355328) :
    ∃ A' c' s' w', (Builtin.append_ #[T, U] ty #[.slice A xs.length c, .string str]).run P w = .ok (.slice A' (xs ++ sby str).length c') w' ∧ St t w' f (s' :: H) ∧ Own (tInt .u8) E f A' c' s' (xs ++ sby str) ∧ (Full s c → Full s' c') := by
  have hml : maxLen = 9223372036854775807 := by decide
  have hl : (xs ++ sby str).length = xs.length + str.size := by rw [List.length_append, sby_len]
  have hsz : (tInt .u8).sz = 1 := rfl
  have hmap : ∀ l : List Int, Reps (tInt .u8) f (l.map (Value.int .u8)) l := fun l => reps_int.mpr rfl
  have fresh : ∀ (old : Nat) (w1 : World), St t w1 f (s :: H) →
      ∃ s', St t (w1.alloc (.cells ((xs.map (Value.int .u8)).toArray ++ (strCells str).toArray ++ Builtin.zeroCells (Value.int .u8 0).cells (grownCap w (xs.length + str.size) old E - (xs.length + str.size))) E)) f (s' :: H) ∧
        Own (tInt .u8) E f (some ⟨w1.heap.size, 0, none⟩) (grownCap w (xs.length + str.size) old E) s' (xs ++ sby str) ∧ Full s' (grownCap w (xs.length + str.size) old E) := by
    intro old w1 hS1
    have hge := grownCap_ge w (xs.length + str.size) old E
    have hcm : grownCap w (xs.length + str.size) old E ≤ maxLen := grownCap_le_maxLen w _ old E (by omega)
    have hz1 : (Value.int IntKind.u8 0).cells.size = 1 := rfl
    have hsize : ((xs.map (Value.int .u8)).toArray ++ (strCells str).toArray ++ Builtin.zeroCells (Value.int .u8 0).cells (grownCap w (xs.length + str.size) old E - (xs.length + str.size))).size = grownCap w (xs.length + str.size) old E := by
      simp only [Array.size_append, List.size_toArray, size_zeroCells, hz1, strCells_length, List.length_map]
      omega
    refine ⟨_, (hS1.drop.alloc _), .inr ⟨_, _, rfl, ⟨_, noFz0, rfl⟩, by rw [hl]; exact hge, hcm, ?_, ?_⟩, fun b arr E2 fr e => ?_⟩
    · rw [hsize, hsz]; omega
    · rw [hl, hsz, Nat.mul_one]
      simp only [Array.toList_append, List.append_assoc]
      rw [← List.append_assoc, List.take_left' (by rw [List.length_append, List.length_map, strCells_length]), strCells_sby, ← List.map_append]
      exact hmap _
    · injection e with e e'
      injection e with e1 e2
      injection e2 with e2
      rw [← e2]; exact hsize
  by_cases h0 : str.size = 0
  · have hs0 : sby str = [] := List.eq_nil_of_length_eq_zero (by rw [sby_len]; exact h0)
    have hle : xs.length ≤ c := hO.le
    have hs : (sizeOf E).run P w = .ok 1 w := by simp [sizeOf, typeInfo, hi, h1]
    have hf0 := run_firstCells_string (P := P) w 1 str
    have hc0 : strCells str = [] := List.eq_nil_of_length_eq_zero (by rw [strCells_length]; exact h0)
    rw [hc0, h0] at hf0
    refine ⟨A, c, s, w, ?_, hS, by rw [hs0, List.append_nil]; exact hO, id⟩
    rw [hl, h0, Nat.add_zero]
    cases A with
    | none => simp [Builtin.append_, run_underlying hT, run_underlying hU, hs, Builtin.lenOf, h0, hle, hf0]
    | some ad => simp [Builtin.append_, run_underlying hT, run_underlying hU, hs, Builtin.lenOf, h0, hle, hf0, storeCells]
  · rcases hO with ⟨rfl, rfl, rfl, rfl⟩ | ⟨b, arr, rfl, ⟨fr, hfr, rfl⟩, g1, g2, g3, hr⟩
    · have hrun := run_append_nil_string (P := P) w T U ty E i _ hT hU hi hz str (by omega) (by simp at hlim; omega) (by rw [hb]; simp at hlim; omega)
      obtain ⟨s', hS', hO', hF'⟩ := fresh 0 w.drew hS.drew
      refine ⟨_, _, s', _, ?_, hS', hO', fun _ => hF'⟩
      rw [hl]
      simp only [List.length_nil, Nat.zero_add] at hrun ⊢
      rw [show Array.map (fun b : UInt8 => Value.int .u8 (b.toNat : Int)) str.data = (strCells str).toArray from by apply Array.ext'; simp [strCells]] at hrun
      rw [hrun]
      simp
    · have hr' := reps_int.mp hr
      rw [hsz, Nat.mul_one] at hr'
      by_cases hroom : xs.length + str.size ≤ c
      · have hf := run_firstCells_string (P := P) w 1 str
        have hle := congrArg List.length hr'
        simp only [List.length_take, List.length_map, Array.length_toList] at hle
        have g3' : c ≤ arr.size := by rw [hsz] at g3; omega
        obtain ⟨w', hst, hS'⟩ := run_storeCells_own P (strCells str) xs.length 0 arr w hfr hS (by rw [strCells_length]; omega) (strCells_oneCell str)
        refine ⟨_, _, _, w', ?_, hS', .inr ⟨b, _, rfl, ⟨fr, by rw [putCells_size]; exact hfr, rfl⟩, by rw [hl]; exact hroom, g2, by rw [putCells_size]; exact g3, ?_⟩, fun hF b2 arr2 E2 fr2 e => ?_⟩
        · rw [hl]
          simp [Builtin.append_, run_underlying hT, run_underlying hU, sizeOf, typeInfo, hi, h1, Builtin.lenOf, hroom, hf, Addr.add_lit, hst]
        · rw [putCells_eq _ _ _ (by rw [strCells_length]; omega), hl, hsz, Nat.mul_one, Nat.add_zero, hr', strCells_sby, ← List.map_append]
          show Reps _ _ (List.take _ (List.map _ _ ++ _)) _
          rw [List.take_left' (by rw [List.length_map, hl])]
          exact hmap _
        · injection e with e e'
          injection e with e1 e2
          injection e2 with e2
          rw [← e2, putCells_size]
          exact hF _ _ _ _ rfl
      · have holds : ∀ j u, (xs.map (Value.int .u8))[j]? = some u → w.cell? ((⟨b, 0, none⟩ : Addr).add j) = some u := by
          intro j u hu
          rw [← hr', List.getElem?_take] at hu
          rw [add_plain, cell_of_row w b _ arr E fr hS.blk, Nat.zero_add]
          split at hu
          · rw [← Array.getElem?_toList]; exact hu
          · cases hu
        have hrun := run_append_grow_string (P := P) w T U ty E i _ hT hU hi hz ⟨b, 0, none⟩ xs.length c (xs.map (Value.int .u8)) (by rw [List.length_map, h1, Nat.mul_one]) holds str (by omega) (by omega) (by
          have := growslice_fits (need := xs.length + str.size) (bytes := i.bytes) (old := c) (by omega) (by rw [hb]; omega)
          exact this)
        obtain ⟨s', hS', hO', hF'⟩ := fresh c w.drew hS.drew
        refine ⟨_, _, s', _, ?_, hS', hO', fun _ => hF'⟩
        rw [hl, hrun]
        rfl
theorem does_bytes {src dst E : TypeId} {str : ByteArray} {K : Value → World → Prop} (ho : o.op = .convert src dst x) (hs : P.underlying src = some .string) (hd : P.underlying dst = some (.slice E)) (he : P.underlying E = some (.int .u8)) (hx : a.eval x = .string str) (hl : str.size ≤ 140737488355328)
    (hS : St t w f H) (hK : ∀ b c s' w', St t w' f (s' :: H) → Own (tInt .u8) E f (some ⟨b, 0, none⟩) c s' (sby str) → K (.slice (some ⟨b, 0, none⟩) (sby str).length c) w') : Does P a w o K := by
  have hr := run_bytes_of_string w src dst E str hs hd he
  have hge := grownCap_ge w str.size 0 E
  have hcm : grownCap w str.size 0 E ≤ maxLen := grownCap_le_maxLen w _ 0 E (by unfold maxLen; omega)
  have hsz : (bytesRow str (grownCap w str.size 0 E)).size = grownCap w str.size 0 E := by
    have : str.data.size = str.size := rfl
    simp [bytesRow]; omega
  refine does_run (v := .slice (some ⟨w.heap.size, 0, none⟩) (sby str).length (grownCap w str.size 0 E)) (w' := w.drew.alloc (.cells (bytesRow str (grownCap w str.size 0 E)) E ((bytesRow str (grownCap w str.size 0 E)).size, (bytesRow str (grownCap w str.size 0 E)).size + 1))) ?_ (hK _ _ _ _ (hS.drew.alloc _) (.inr ⟨_, _, rfl, ⟨_, fun j hj h => ?_, rfl⟩, by rw [sby_len]; exact hge, hcm, ?_, ?_⟩))
  · simp [execOp, ho, hx, hr, sby_len]
  · omega
  · rw [hsz]; show _ * 1 ≤ _; omega
  · rw [sby_len]
    show Reps _ _ (List.take (str.size * 1) _) _
    rw [Nat.mul_one]
    have e : (bytesRow str (grownCap w str.size 0 E)).toList = (sby str).map (Value.int .u8) ++ List.replicate (grownCap w str.size 0 E - str.size) (.int .u8 0) := by
      rw [← strCells_sby]; simp [bytesRow, strCells]
    rw [e, List.take_left' (by rw [List.length_map, sby_len])]
    exact reps_int.mpr rfl
theorem wpList_does_str {ops : Array Oper} {rest : List Oper} {Q : Exit → Act → World → Prop} (hgd : o.guard = none) (sl x : Operand) (T U : TypeId) (ho : o.op = .call { callee := .builtin .append, args := #[sl, x], argTypes := #[T, U] })
    (E : TypeId) (i : TypeInfo) (hT : P.underlying T = some (.slice E)) (hU : P.underlying U = some .string) (hi : P.info? E = some i) (hz : i.zero = some (.int .u8 0)) (h1 : i.size = 1) (hb : i.bytes = 1) {A : Option Addr} {c : Nat} {xs : List Int} {str : ByteArray}
    (hs : a.eval sl = .slice A xs.length c) (hx : a.eval x = .string str) (hO : Own (tInt .u8) E f A c s xs) (hS : St t w f (s :: H)) (hlim : xs.length + str.size ≤ 140737488355328)
    (h : ∀ A' c' s' w', St t w' f (s' :: H) → Own (tInt .u8) E f A' c' s' (xs ++ sby str) → (Full s c → Full s' c') → wpList P ops Q rest (a.put o.dst (.slice A' (xs ++ sby str).length c')) w') : wpList P ops Q (o :: rest) a w := by
  refine wpList_plain hgd fun K hK => ?_
  obtain ⟨A', c', s', w', hr, hS', hO', hF'⟩ := run_append_str o.type hT hU hi hz h1 hb hO hS str hlim
  unfold Oper.wp execOp
  simp only [ho, resolve, invoke, builtin, Sem.run_bind, Sem.run_pure, Result.andThen_ok, List.map_toArray, List.map_cons, List.map_nil, hs, hx, hr]
  exact hK _ _ (h A' c' s' w' hS' hO' hF')
def ints (l : List UInt8) : List Int := l.map fun b => (b.toNat : Int)
theorem ints_len (l : List UInt8) : (ints l).length = l.length := List.length_map ..
theorem ints_append (l m : List UInt8) : ints (l ++ m) = ints l ++ ints m := List.map_append
def OwnB (T E : Nat) (f : FM) (A : Option Addr) (c : Nat) (s : Seg) (l : List UInt8) : Prop :=
  ∃ b p A2 c2 s2, A = some ⟨b, 0, none⟩ ∧ c = 0 ∧ s = (b, .cells #[p, .slice A2 (ints l).length c2] T (0, 0)) :: s2 ∧ (p = .pointer none ∨ p = .pointer (some ⟨b, 0, none⟩)) ∧ Own (tInt .u8) E f A2 c2 s2 (ints l) ∧ Full s2 c2
theorem OwnB.mono {T E : Nat} {A : Option Addr} {c : Nat} {l : List UInt8} (h : OwnB T E f A c s l) (hl : FM.le f g) : OwnB T E g A c s l := by
  obtain ⟨b, p, A2, c2, s2, h1, h2, h3, h4, h5, h6⟩ := h
  exact ⟨b, p, A2, c2, s2, h1, h2, h3, h4, h5.mono hl, h6⟩
theorem does_bld {T E : Nat} {K : Value → World → Prop} (ho : o.op = .alloc T) (hz : (P.info? T).bind (·.zero) = some (.agg #[.pointer none, .slice none 0 0])) (hS : St t w f H)
    (hK : ∀ A s' w', St t w' f (s' :: H) → OwnB T E f A 0 s' [] → K (.pointer A) w') : Does P a w o K :=
  does_alloc ho hz rfl hS fun b w' hS' => hK _ _ _ hS' ⟨_, _, none, 0, [], rfl, rfl, rfl, .inl rfl, Own.nil _, fun b arr E fr e => by cases e⟩
theorem ptr_turn {b : Nat} {o1 o2 : Obj} {s2 : Seg} (h : St t w f (((b, o1) :: s2) :: H)) : St t { w with heap := w.heap.setIfInBounds b o2 } f (((b, o2) :: s2) :: H) := by
  have h1 : St t w f ([(b, o1)] :: s2 :: H) := h.perm (by simp [flat_cons])
  have h2 : St t { w with heap := w.heap.setIfInBounds b o2 } f ([(b, o2)] :: s2 :: H) := h1.turn rfl rfl rfl (fun k hk x hx => by rw [← hx]; exact (MapKept.heap_set (o' := o2) h1.blk).2 k hk) (MapKept.heap_set h1.blk).1
  exact h2.perm (by simp [flat_cons])
theorem setCell_put {w : World} {b k : Nat} {cs : Array Value} {T : Nat} {v : Value} (h : w.heap[b]? = some (.cells cs T (0, 0))) : w.setCell ⟨b, k, none⟩ v = { w with heap := w.heap.setIfInBounds b (.cells (cs.setIfInBounds k v) T (0, 0)) } := by
  have hl := lt_of_some h
  have h' : w.heap[b] = .cells cs T (0, 0) := by rw [Array.getElem?_eq_getElem hl] at h; injection h
  unfold World.setCell
  congr 1
  apply Array.ext
  · simp
  · intro i h1 h2
    by_cases e : b = i
    · subst e; simp [Array.getElem_modify, h']
    · have h3 := (MapKept.heap_set (o' := Obj.cells (cs.setIfInBounds k v) T (0, 0)) h).2 i (fun x => e x.symm)
      rw [Array.getElem?_eq_getElem h2, Array.getElem?_eq_getElem (by simpa using h1)] at h3
      injection h3 with h3
      rw [h3]
      simp [Array.getElem_modify, e]
theorem check_calls {ρ : Ren} {b : Nat} {p v : Value} {s2 : Seg} (L : Lays.n240 P ρ) (X : Builder.X72 P ρ) (hp : p = .pointer none ∨ p = .pointer (some ⟨b, 0, none⟩)) (HS : St t w f (((b, .cells #[p, v] (ρ.t 72) (0, 0)) :: s2) :: H)) :
    Calls P (ρ.f 240) #[.pointer (some ⟨b, 0, none⟩)] w fun e w' => e = .returned (.tuple #[]) ∧ St t w' f (((b, .cells #[.pointer (some ⟨b, 0, none⟩), v] (ρ.t 72) (0, 0)) :: s2) :: H) := by
  have hb : w.heap[b]? = some (.cells #[p, v] (ρ.t 72) (0, 0)) := (HS.own (b, .cells #[p, v] (ρ.t 72) (0, 0)) (by simp [flat_cons])).1
  rcases hp with rfl | rfl
  · refine (Any.Builder_copyCheck_fresh L X b w (by rw [Lib.cell_of_heap hb]; rfl) (by simp [World.shape?, hb]) (Lib.frozen_of_heap hb 0)).mono ?_
    rintro e w' ⟨rfl, rfl⟩
    rw [setCell_put hb]
    exact ⟨rfl, ptr_turn HS⟩
  · refine (Any.Builder_copyCheck_used L X b w (by rw [Lib.cell_of_heap hb]; rfl)).mono ?_
    rintro e w' ⟨rfl, rfl⟩
    exact ⟨rfl, HS⟩
set_option maxHeartbeats 2000000 in
set_option maxRecDepth 100000 in
theorem write_calls {ρ : Ren} {A : Option Addr} {c : Nat} {l : List UInt8} (L : Lays.n166 P ρ) (X : Builder.Extra P ρ) (HS : St t w f (s :: H)) (HB : OwnB (ρ.t 72) (ρ.t 5) f A c s l) (str : ByteArray) (hlim : l.length + str.size ≤ 140737488355328) :
    Calls P (ρ.f 166) #[.pointer A, .string str] w fun e w' => ∃ s', e = .returned (.tuple #[.int .i64 str.size, .nilIface]) ∧ St t w' f (s' :: H) ∧ OwnB (ρ.t 72) (ρ.t 5) f A c s' (l ++ str.data.toList) := by
  obtain ⟨b, p, A2, c2, s2, rfl, rfl, rfl, hp, hO, hF⟩ := HB
  have hlim : (ints l).length + str.size ≤ 140737488355328 := by rw [ints_len]; exact hlim
  have eI : ints (l ++ str.data.toList) = ints l ++ sby str := ints_append l _
  generalize hxs : ints l = xs at *
  obtain ⟨i0, hi, hz0, hz1, hz2⟩ := info_parts X.infoByte
  have mixed := L.mixed
  have t72 := L.t72; have a72 := L.a72; have z72 := L.z72; have v72 := L.v72; have u72 := run_underlying L.t72
  have t70 := L.t70; have a70 := L.a70; have z70 := L.z70; have v70 := L.v70; have u70 := run_underlying L.t70
  have t37 := L.t37; have a37 := L.a37; have z37 := L.z37; have v37 := L.v37; have u37 := run_underlying L.t37
  have t3 := L.t3; have a3 := L.a3; have z3 := L.z3; have v3 := L.v3; have u3 := run_underlying L.t3
  have t9 := L.t9; have a9 := L.a9; have z9 := L.z9; have v9 := L.v9; have u9 := run_underlying L.t9
  have t4 := L.t4; have a4 := L.a4; have z4 := L.z4; have v4 := L.v4; have u4 := run_underlying L.t4
  have t164 := L.t164; have a164 := L.a164; have z164 := L.z164; have v164 := L.v164; have u164 := run_underlying L.t164
  have t5 := X.t5; have a5 := X.a5; have z5 := X.z5; have v5 := X.v5; have u5 := run_underlying X.t5
  have e240 : ∀ args w, (callFunc (ρ.f 240) args).run P w = .ok (.enter (ρ.f 240) args) w := enters_of L.f240 (by kernel_rfl) rfl
  have hcc := check_calls { L with } X.toX72 hp HS
  go_enter L.f166, Body.n166_ntmps ρ
  go_wp2_with (go_at_fn (ρ.f 240); refine hcc.mono ?_)
  rintro e w1 ⟨rfl, h1⟩
  have hbk : w1.heap[b]? = some (.cells #[.pointer (some ⟨b, 0, none⟩), .slice A2 xs.length c2] (ρ.t 72) (0, 0)) := (h1.own (b, _) (by simp [flat_cons])).1
  have c0 : w1.cell? ⟨b, 0, none⟩ = some (.pointer (some ⟨b, 0, none⟩)) := by rw [Lib.cell_of_heap hbk]; rfl
  have c1 : w1.cell? ⟨b, 1, none⟩ = some (.slice A2 xs.length c2) := by rw [Lib.cell_of_heap hbk]; rfl
  have h2 : St t w1 f (s2 :: [(b, .cells #[.pointer (some ⟨b, 0, none⟩), .slice A2 xs.length c2] (ρ.t 72) (0, 0))] :: H) := h1.perm (by rw [flat_cons, flat_cons, flat_cons]; simpa using (List.perm_middle (l₁ := s2)).symm)
  go_wp2_with (at_builtin; (refine wpList_does_str rfl _ _ (ρ.t 37) (ρ.t 9) rfl (ρ.t 5) i0 L.t37 L.t9 hi hz0 hz1 hz2 rfl rfl hO h2 (by omega) ?_))
  intro A3 c3 s3 w2 h3 hO3 hF3
  have hF4 : Full s3 c3 := by first | exact hF3 | exact hF3 hF
  have h4 : St t w2 f (((b, .cells #[.pointer (some ⟨b, 0, none⟩), .slice A2 xs.length c2] (ρ.t 72) (0, 0)) :: s3) :: H) := h3.perm (by rw [flat_cons, flat_cons, flat_cons]; simp)
  have hb2 : w2.heap[b]? = some (.cells #[.pointer (some ⟨b, 0, none⟩), .slice A2 xs.length c2] (ρ.t 72) (0, 0)) := (h4.own (b, _) (by simp [flat_cons])).1
  have d0 : w2.cell? ⟨b, 0, none⟩ = some (.pointer (some ⟨b, 0, none⟩)) := by rw [Lib.cell_of_heap hb2]; rfl
  have d1 : w2.cell? ⟨b, 1, none⟩ = some (.slice A2 xs.length c2) := by rw [Lib.cell_of_heap hb2]; rfl
  have f1 : w2.frozen? ⟨b, 1, none⟩ = false := Lib.frozen_of_heap hb2 1
  go_wp2
  go_ret2
  refine ⟨_, rfl, ?_, ⟨b, _, A3, c3, s3, rfl, rfl, rfl, .inr rfl, by rw [eI]; exact hO3, hF4⟩⟩
  rw [eI]
  rw [setCell_put hb2]
  have h5 := ptr_turn (o2 := .cells #[.pointer (some ⟨b, 0, none⟩), .slice A3 (xs ++ sby str).length c3] (ρ.t 72) (0, 0)) h4
  rw [List.length_append] at h5 ⊢
  exact h5
theorem len_calls {ρ : Ren} {A : Option Addr} {c : Nat} {l : List UInt8} (L : Lays.n170 P ρ) (HS : St t w f (s :: H)) (HB : OwnB (ρ.t 72) (ρ.t 5) f A c s l) :
    Calls P (ρ.f 170) #[.pointer A] w fun e w' => e = .returned (.int .i64 (l.length : Int)) ∧ St t w' f (s :: H) := by
  obtain ⟨b, p, A2, c2, s2, rfl, rfl, rfl, hp, hO, hF⟩ := HB
  have hbk : w.heap[b]? = some (.cells #[p, .slice A2 (ints l).length c2] (ρ.t 72) (0, 0)) := (HS.own (b, _) (by simp [flat_cons])).1
  have c1 : w.cell? ⟨b, 1, none⟩ = some (.slice A2 (ints l).length c2) := by rw [Lib.cell_of_heap hbk]; rfl
  have mixed := L.mixed
  have t72 := L.t72; have a72 := L.a72; have z72 := L.z72; have v72 := L.v72; have u72 := run_underlying L.t72
  have t70 := L.t70; have a70 := L.a70; have z70 := L.z70; have v70 := L.v70; have u70 := run_underlying L.t70
  have t37 := L.t37; have a37 := L.a37; have z37 := L.z37; have v37 := L.v37; have u37 := run_underlying L.t37
  have t3 := L.t3; have a3 := L.a3; have z3 := L.z3; have v3 := L.v3; have u3 := run_underlying L.t3
  go_enter L.f170, Body.n170_ntmps ρ
  go_wp2
  go_ret
  refine ⟨?_, HS⟩
  simp [ints_len]
set_option maxHeartbeats 1000000 in
set_option maxRecDepth 100000 in
theorem string_calls {ρ : Ren} {A : Option Addr} {c : Nat} {l : List UInt8} (L : Lays.n169 P ρ) (X : Builder.Extra P ρ) (HS : St t w f (s :: H)) (HB : OwnB (ρ.t 72) (ρ.t 5) f A c s l) (h0 : l ≠ []) :
    Calls P (ρ.f 169) #[.pointer A] w fun e w' => e = .returned (.string ⟨l.toArray⟩) ∧ St t w' f H := by
  obtain ⟨b, p, A2, c2, s2, rfl, rfl, rfl, hp, hO, hF⟩ := HB
  have hl0 : l.length ≠ 0 := by simpa using h0
  rcases hO with ⟨_, _, _, hz⟩ | ⟨g, cur, rfl, ⟨fr, hfr, rfl⟩, g1, g2, g3, hr⟩
  · exact absurd (by rw [← ints_len, hz]; rfl) hl0
  have hsz := hF _ _ _ _ rfl
  have hbk : w.heap[b]? = some (.cells #[p, .slice (some ⟨g, 0, none⟩) (ints l).length c2] (ρ.t 72) (0, 0)) := (HS.own (b, _) (by simp [flat_cons])).1
  have hg : w.heap[g]? = some (.cells cur (ρ.t 5) fr) := (HS.own (g, _) (by simp [flat_cons])).1
  rw [ints_len] at hbk g1
  have hr' := reps_int.mp hr
  rw [ints_len, show (tInt .u8).sz = 1 from rfl, Nat.mul_one] at hr'
  have c1 : w.drew.cell? ⟨b, 1, none⟩ = some (.slice (some ⟨g, 0, none⟩) l.length c2) := by
    have : w.drew.heap[b]? = some (.cells #[p, .slice (some ⟨g, 0, none⟩) l.length c2] (ρ.t 72) (0, 0)) := hbk
    rw [Lib.cell_of_heap this]; rfl
  have hSD : (Builtin.unsafeSliceData_ #[(ρ.t 37)] (ρ.t 127) #[.slice (some ⟨g, 0, none⟩) l.length c2]).run P w.drew = .ok (.pointer (some ⟨g, 0, none⟩)) w.drew := Lib.run_unsafeSliceData_row _ _ _ _ _ _ (by omega)
  have hUS : (Builtin.unsafeString_ #[(ρ.t 127), (ρ.t 3)] (ρ.t 9) #[.pointer (some ⟨g, 0, none⟩), .int .i64 l.length]).run P w.drew = .ok (.string ⟨l.toArray⟩) (w.drew.freeze ⟨g, 0, none⟩ l.length) := by
    refine Lib.run_unsafeString_row w.drew (ρ.t 127) (ρ.t 3) (ρ.t 9) (ρ.t 5) L.t127 X.cellsByte g cur.size (by have hg' : w.drew.heap[g]? = some (.cells cur (ρ.t 5) fr) := hg; simp [World.shape?, hg']) l h0 (by omega) (by unfold maxLen at g2; omega) ?_
    intro j x hx
    have hj : j < l.length := by
      rcases Nat.lt_or_ge j l.length with h | h
      · exact h
      · rw [List.getElem?_eq_none h] at hx; cases hx
    have e1 : cur[j]? = some (.int .u8 x.toNat) := by
      have := congrArg (·[j]?) hr'
      simp only [List.getElem?_take_of_lt hj, Array.getElem?_toList] at this
      rw [this]
      simp [ints, hx]
    have hg' : w.drew.heap[g]? = some (.cells cur (ρ.t 5) fr) := hg
    rw [add_plain, Nat.zero_add, cell_of_row _ g _ cur (ρ.t 5) fr hg']
    exact e1
  have hfin : St t (w.drew.freeze ⟨g, 0, none⟩ l.length) f H := by
    have h1 : St t w f ([(g, .cells cur (ρ.t 5) fr)] :: [(b, .cells #[p, .slice (some ⟨g, 0, none⟩) (ints l).length c2] (ρ.t 72) (0, 0))] :: H) := HS.perm (by rw [flat_cons, flat_cons, flat_cons]; simp; exact List.Perm.swap ..)
    have h2 := h1.drew
    have hlt := lt_of_some h2.blk
    have hfz : (w.drew.freeze ⟨g, 0, none⟩ l.length).heap[g]? = ((w.drew.freeze ⟨g, 0, none⟩ l.length).heap[g]?) := rfl
    have hlt' : g < (w.drew.freeze ⟨g, 0, none⟩ l.length).heap.size := by simpa [World.freeze, hl0] using hlt
    have h3 := h2.turn (w' := w.drew.freeze ⟨g, 0, none⟩ l.length) (o' := (w.drew.freeze ⟨g, 0, none⟩ l.length).heap[g]) (by simp [World.freeze, hl0]) (by simp [World.freeze, hl0]) (by simp [World.freeze, hl0]) (fun k hk x hx => by
      rw [← hx]; simp [World.freeze, hl0, Array.getElem?_modify, Ne.symm hk]) (Array.getElem?_eq_getElem hlt')
    exact h3.drop.drop
  have mixed := L.mixed
  have t72 := L.t72; have a72 := L.a72; have z72 := L.z72; have v72 := L.v72; have u72 := run_underlying L.t72
  have t70 := L.t70; have a70 := L.a70; have z70 := L.z70; have v70 := L.v70; have u70 := run_underlying L.t70
  have t37 := L.t37; have a37 := L.a37; have z37 := L.z37; have v37 := L.v37; have u37 := run_underlying L.t37
  have t127 := L.t127; have a127 := L.a127; have z127 := L.z127; have v127 := L.v127; have u127 := run_underlying L.t127
  have t3 := L.t3; have a3 := L.a3; have z3 := L.z3; have v3 := L.v3; have u3 := run_underlying L.t3
  have t9 := L.t9; have a9 := L.a9; have z9 := L.z9; have v9 := L.v9; have u9 := run_underlying L.t9
  have t5 := X.t5; have a5 := X.a5; have z5 := X.z5; have v5 := X.v5; have u5 := run_underlying X.t5
  clear hr hr' HS hbk hg hF hfr
  go_enter L.f169, Body.n169_ntmps ρ
  go_wp2
  go_region_o
  all_goals (go_wp2; go_ret; exact ⟨rfl, hfin⟩)
end
end Go.Sp
