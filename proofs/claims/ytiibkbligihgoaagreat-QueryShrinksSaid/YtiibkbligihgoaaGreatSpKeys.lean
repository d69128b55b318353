/- slices.Sorted(maps.Keys(m)) of a map of one's own: the kit's contracts, told in this memory logic. -/
import Derived.Test.YtiibkbligihgoaaGreatSpMapR
import Derived.Test.YtiibkbligihgoaaGreatSpRepS
import Derived.Shelf.SlIterI.Sorted
namespace Go.Sp
open Go Go.RowKit Go.Maps Go.Sort Go.Proofs Go.MapKept Go.Shelf
open Go.WideElems (Fit rg)
set_option linter.unusedVariables false
section
variable {α : Type} {e : Ty α} {P : Program} {t w : World} {f : FM} {H : List Seg} {A : Option Addr} {c E : Nat} {s : Seg} {m : List (Int × α)}
abbrev rd0 : Value → Option (DataW Unit × List MemPlace) := fun _ => some (.nil, [])
theorem keyOf_int {K : TypeId} {a : Int} (hk : P.underlying K = some (.int .i64)) (hw : (Lit.int .i64 a).wf = true) : keyOf P K (.int .i64 a) = some (.int .i64 a) := by
  simp [keyOf, hk, mapKey, hw]
theorem ERep.reads {K : TypeId} (hk : P.underlying K = some (.int .i64)) : ∀ {es : List MapEntry} {m : List (Int × α)}, ERep .i64 e f es m → (m.all fun p => (Lit.int .i64 p.1).wf) = true →
    (∀ x ∈ es, ∃ y, Go.WideElems.rd P K rd0 x = some y) ∧ es.map (rg P K rd0) = m.map fun p => (Lit.int .i64 p.1, DataW.nil)
  | [], [], _, _ => ⟨by simp, rfl⟩
  | x :: es, p :: m, h, hw => by
    rw [List.all_cons, Bool.and_eq_true] at hw
    obtain ⟨h1, h2⟩ := ERep.reads hk h.2.2 hw.2
    have hr : Go.WideElems.rd P K rd0 x = some (Lit.int .i64 p.1, DataW.nil) := by
      rw [Go.WideElems.rd, h.1, keyOf_int hk hw.1]; rfl
    refine ⟨fun y hy => ?_, ?_⟩
    · rcases List.mem_cons.mp hy with rfl | hy
      · exact ⟨_, hr⟩
      · exact h1 y hy
    · rw [List.map_cons, List.map_cons, h2, rg, hr]; rfl
  | [], _ :: _, h, _ => h.elim
  | _ :: _, [], h, _ => h.elim
def keysD (m : List (Int × α)) : DataW Unit := .map ((m.map fun p => (Lit.int .i64 p.1, (DataW.nil : DataW Unit))).foldr DataW.insert [])
theorem keysD_size : Maps.size (keysD m) = m.length := by
  show ((m.map fun p => (Lit.int .i64 p.1, (DataW.nil : DataW Unit))).foldr DataW.insert []).length = _
  rw [(Go.WideShapes.sorted_perm _).length_eq, List.length_map]
theorem keysD_keys : (intKeys (keysD m)).Perm (m.map fun p => p.1) := by
  show ((((m.map fun p => (Lit.int .i64 p.1, (DataW.nil : DataW Unit))).foldr DataW.insert [])).map fun p => intOf p.1).Perm _
  refine ((Go.WideShapes.sorted_perm _).map _).trans ?_
  rw [List.map_map]
  exact List.Perm.refl _
theorem keysD_owns {K b : TypeId} {es : Array MapEntry} {clock : Nat} (hk : P.underlying K = some (.int .i64)) (hb : w.heap[b]? = some (.map es clock)) (hE : ERep .i64 e f es.toList m) (hst : Stamped es clock)
    (hw : (m.all fun p => (Lit.int .i64 p.1).wf) = true) (hl : m.length ≤ maxLen) : w.ownsMap P K rd0 b m.length (keysD m) := by
  obtain ⟨h1, h2⟩ := hE.reads hk hw
  have hle := hE.len
  rw [Array.length_toList] at hle
  exact ⟨es, clock, hb, ⟨by omega, hst, h1⟩, by omega, by rw [keysD, h2]⟩
/-- What a call has made: a row of one's own. -/
theorem St.rowOf {w' : World} {v : Value} {E : TypeId} {xs : List Int} (HS : St t w f H) (hb : Below w.heap.size w w') (hr : w'.ownsRow w.heap.size E 1 v xs.length (xs.map encZ)) :
    ∃ (A : Option Addr) (c : Nat) (s : Seg), v = .slice A xs.length c ∧ St t w' f (s :: H) ∧ Own (tInt .i64) E f A c s xs := by
  have hS := HS.below hb
  rcases hr.2 with ⟨rfl, h0⟩ | ⟨g, cap, cur, rfl, hg, hc, h1, h2, h3, h4⟩
  · have hx : xs = [] := List.eq_nil_of_length_eq_zero h0
    subst hx
    exact ⟨none, 0, [], rfl, hS.cons_nil, .inl ⟨rfl, rfl, rfl, rfl⟩⟩
  · refine ⟨some ⟨g, 0, none⟩, cap, [(g, .cells cur E (0, 0))], rfl, ?_, .inr ⟨g, cur, rfl, ⟨_, noFz0, rfl⟩, h1, h2, ?_, ?_⟩⟩
    · have hno : ∀ b o, w.heap[b]? = some o → b ≠ g := fun b o h hbg => by have := lt_of_some h; omega
      refine ⟨hS.os, hS.tape, hS.out, hS.fz, ?_, ?_⟩
      · intro p hp
        rw [flat_cons] at hp
        rcases List.mem_append.mp hp with hp | hp
        · simp only [List.mem_singleton] at hp
          subst hp
          refine ⟨hc, ?_⟩
          cases hf : f g with
          | none => rfl
          | some o => exact absurd rfl (hno g o (HS.fz g o hf))
        · exact hS.own p hp
      · rw [flat_cons]
        simp only [List.map_append, List.map_cons, List.map_nil, List.singleton_append, List.nodup_cons]
        refine ⟨?_, hS.nd⟩
        intro hm
        obtain ⟨p, hp, e⟩ := List.mem_map.mp hm
        exact hno p.1 p.2 (HS.own p hp).1 e
    · show cap * 1 ≤ cur.size
      omega
    · rw [reps_sorted, show (tInt .i64).sz = 1 from rfl]; exact h4
/-- maps.Keys(m): a function value that has captured m. -/
theorem keys_calls {ρ : Ren} {κ g M : Nat} {mb0 : Option Nat} (L : SlLaysZI.n7 P ρ) (h7 : ρ.f 7 = κ) (h10 : ρ.f 10 = g) (h23 : ρ.t 23 = M) (HS : St t w f H) :
    Calls P κ #[.map mb0] w fun e w' => ∃ (b : Nat), e = .returned (.func (.func g) #[] #[.pointer (some ⟨b, 0, none⟩)]) ∧ St t w' f ([(b, .cells #[.map mb0] M (0, 0))] :: H) := by
  subst h7 h10 h23
  refine callsIn_wide.1 ((AnyZI.keys_in L Fence.wide 5 trivial rfl mb0 w).mono ?_)
  rintro e w' ⟨rfl, rfl⟩
  exact ⟨_, rfl, HS.alloc _⟩
/-- slices.Sorted at what maps.Keys has handed back. -/
theorem sorted_calls {ρ ρ2 : Ren} {g M b fn srt_ K : Nat} (L7 : SlLaysZI.n7 P ρ) (L6 : SlLaysZI.n6 P ρ2) (h10 : ρ.f 10 = g) (h6 : ρ2.f 6 = fn) (h9 : ρ2.f 9 = srt_) (hK : ρ.t 26 = K) (hK2 : ρ2.t 26 = K) (hk : P.underlying K = some (.int .i64))
    (hsort : ∀ (blk off cap : Nat) (zs : List Int) (w : World), Holds (Value.int .i64) w blk off zs.toArray → blk < w.heap.size → zs.length < 4611686018427387904 → Calls P srt_ #[.slice (some ⟨blk, off, none⟩) zs.length cap] w fun e w' =>
      e = .returned (.tuple #[]) ∧ ∃ n os, w' = grow (putRow (Value.int .i64) (Sort.ahead w n) blk off (zs.mergeSort fun x y => decide (x ≤ y)).toArray) os)
    (hnone : ∀ (p : Option Addr) (cap : Nat) (w : World), Calls P srt_ #[.slice p 0 cap] w fun e w' => e = .returned (.tuple #[]) ∧ w' = w)
    (e9 : ∀ args w, (callFunc srt_ args).run P w = .ok (.enter srt_ args) w) (eg : ∀ args w, (callFunc g args).run P w = .ok (.enter g args) w)
    (HO : OwnM e E f A c s m) (HS : St t w f ([(b, .cells #[.map (mb A)] M (0, 0))] :: s :: H)) (r : List Int) (h : sortedKeys m = some r) :
    Calls P fn #[.func (.func g) #[] #[.pointer (some ⟨b, 0, none⟩)]] w fun e w' => ∃ (A' : Option Addr) (c' : Nat) (s' : Seg), e = .returned (.slice A' r.length c') ∧ St t w' f (s' :: [(b, .cells #[.map (mb A)] M (0, 0))] :: s :: H) ∧ Own (tInt .i64) K f A' c' s' r := by
  unfold sortedKeys at h
  have hq_ := guard_some h; clear h; obtain ⟨hw, h⟩ := hq_
  have hq_ := guard_some h; clear h; obtain ⟨hl, h⟩ := hq_
  injection h with h
  obtain ⟨bm, es, clock, rfl, rfl, hE, hst⟩ := HO
  subst h10 h6 h9 hK
  have hbm : w.heap[bm]? = some (.map es clock) := HS.swap.blk
  have hlm : m.length ≤ maxLen := by unfold maxLen; omega
  have hown := keysD_owns hk hbm hE hst hw hlm
  have hseq : SeqGives Fence.wide 2 P (ρ.f 10) #[.pointer (some ⟨b, 0, none⟩)] encZ (fun ss => ss.Perm (intKeys (keysD m))) (Maps.size (keysD m)) w :=
    AnyZI.keys_gives { L7 with } Fence.wide _ trivial rfl (by omega) b bm m.length (keysD m) w (lt_of_some HS.blk) (by
      have h0 := HS.blk
      simp [World.cell?, h0, mb]) hown
  have hss : AnyZI.SortsIn P ρ2 Fence.wide 4 := ⟨fun blk off cap ss W hH hblk hsz => callsIn_wide.2 (hsort blk off cap ss W hH hblk hsz), fun p cap W => callsIn_wide.2 (hnone p cap W)⟩
  refine callsIn_wide.1 ((AnyZI.sorted_in L6 Fence.wide 5 trivial trivial trivial trivial rfl (by omega) hss e9 (ρ.f 10) _ trivial eg _ _ (by rw [keysD_size]; exact hlm) (by rw [keysD_size]; exact hl) w hseq).mono ?_)
  rintro e w' ⟨v, ss, rfl, hS, hrow, _, hb⟩
  have hr : (ss.mergeSort fun x y => decide (x ≤ y)) = r := by
    rw [← h]
    exact mergeSort_of_perm_i (hS.trans keysD_keys)
  have hsl : ss.length = r.length := by rw [← hr, List.length_mergeSort]
  rw [hr, hsl, hK2] at hrow
  obtain ⟨A', c', s', rfl, h1, h2⟩ := HS.rowOf hb hrow
  exact ⟨A', c', s', rfl, h1, h2⟩
end
end Go.Sp
