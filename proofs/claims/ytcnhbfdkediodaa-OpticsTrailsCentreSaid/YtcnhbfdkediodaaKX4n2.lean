import Derived.Test.YtcnhbfdkediodaaProg
import Derived.Test.YtcnhbfdkediodaaSpCopy
import Derived.Test.YtcnhbfdkediodaaFX4
import Derived.Test.YtcnhbfdkediodaaSpMapsA
import Derived.Test.YtcnhbfdkediodaaKX4n0
import Derived.Test.YtcnhbfdkediodaaKX4n1
namespace Go.Sp.X4
open Go Go.Sp Go.Proofs
set_option linter.unusedVariables false
attribute [local irreducible] wpList AnyL Code.wp Calls Does
set_option maxRecDepth 100000 in
set_option maxHeartbeats 4000000 in
theorem optics_Centre.calls (k : Nat) (A2 : Option Addr) (c3 : Nat) (l1 : List S_Spot) {t w : World} {f : FM} {H : List Seg} (HS : St t w f (H)) (HR4 : SlR ty_Spot f A2 c3 l1) (rr1 : S_Frac) (rr2 : S_Frac) (rr3 : Int) (h : optics_Centre k l1 = some (rr1, rr2, rr3)) :
    Calls Try.prog 14 #[.slice A2 l1.length c3] w (fun e w' => ∃ (g : FM), e = .returned (Value.tuple #[.agg #[.int .i64 rr1.Num, .int .i64 rr1.Den], .agg #[.int .i64 rr2.Num, .int .i64 rr2.Den], .int .i64 rr3]) ∧ FM.le f g ∧ St t w' g (H)) := by
 unfold optics_Centre at h
 refine enter Try.func14 rfl (tm := #[.slice A2 l1.length c3, uV, uV, uV, uV, uV, uV, uV, uV, uV, uV, uV, uV, uV, uV, uV, uV, uV, uV, uV, uV, uV, uV, uV, uV, uV, uV, uV, uV, uV, uV, uV, uV, uV, uV, uV, uV, uV, uV, uV, uV, uV, uV, uV, uV, uV, uV, uV, uV, uV, uV, uV, uV, uV, uV, uV, uV, uV, uV, uV, uV, uV, uV, uV, uV, uV, uV, uV, uV, uV, uV, uV, uV, uV, uV, uV, uV, uV, uV, uV, uV, uV, uV, uV, uV, uV, uV, uV]) kr ?_
 intro B hret hnor hnp
 refine wp_seq_k fun K5 hK6 => rl ?_
 refine seqK rfl (does_alloc (z := Value.agg #[.int .i64 0, .int .i64 0]) (cs := #[.int .i64 0, .int .i64 0]) rfl kr rfl HS ?_)
 intro b7 W8 HS9
 refine seqK rfl (does_alloc (z := Value.agg #[.int .i64 0, .int .i64 0]) (cs := #[.int .i64 0, .int .i64 0]) rfl kr rfl HS9 ?_)
 intro b11 W12 HS13
 refine seqK rfl (does_alloc (z := Value.int .i64 0) (cs := #[.int .i64 0]) rfl kr rfl HS13 ?_)
 intro b15 W16 HS17
 refine nl (hK6 _ _ ?_)
 refine wp_seq_k fun K19 hK20 => rl ?_
 refine seqK rfl (does_alloc (z := Value.int .i64 0) (cs := #[.int .i64 0]) rfl kr rfl HS17 ?_)
 intro b21 W22 HS23
 refine seqL2 kr ?_
 refine nl (hK20 _ _ ?_)
 refine wp_seq_k (fun K25 hK26 => ?_)
 refine wp_seq_k fun K27 hK28 => rl ?_
 refine seqL3 kr ?_
 refine nl (hK28 _ _ ?_)
 refine blockK (fun B29 hx30 hn31 hr32 ho33 hp34 => ?_)
 have hq_ := bind_some h; clear h; obtain ⟨o147, hv268, h⟩ := hq_
 have JR270 : ∀ z_, some (Sum.inl z_) = some o147 → some z_ = some (rr1, rr2, rr3) := by
  intro z_ e_; injection e_ with e_; subst e_; exact h
 have J269 : ∀ (f260 : FM) (sx265 : Int) (sy266 : Int) (x267 : Int) (j264 : Nat → Value) (W262 : World) (a_ : Act), FM.le f f260 → some (Sum.inr (sx265, sy266, x267)) = some o147 → St t W262 f260 ([(b21, .cells #[.int .i64 x267] 2 (0, 0))] :: [(b15, .cells #[.int .i64 0] 34 (0, 0))] :: [(b11, .cells #[.int .i64 0, .int .i64 0] 47 (0, 0))] :: [(b7, .cells #[.int .i64 0, .int .i64 0] 47 (0, 0))] :: H) → a_ = ⟨#[.slice A2 l1.length c3, uV, pV b7 0, pV b11 0, pV b15 0, pV b21 0, iV sx265, iV sy266, uV, (j264 0), uV, .slice A2 l1.length c3, iV (l1.length : Int), (j264 1), (j264 2), (j264 3), (j264 4), (j264 5), (j264 6), (j264 7), (j264 8), (j264 9), (j264 10), (j264 11), (j264 12), (j264 13), (j264 14), (j264 15), (j264 16), (j264 17), (j264 18), (j264 19), (j264 20), (j264 21), (j264 22), (j264 23), (j264 24), (j264 25), (j264 26), (j264 27), (j264 28), (j264 29), (j264 30), (j264 31), (j264 32), (j264 33), (j264 34), (j264 35), (j264 36), (j264 37), (j264 38), (j264 39), (j264 40), (j264 41), (j264 42), (j264 43), (j264 44), (j264 45), (j264 46), (j264 47), (j264 48), (j264 49), (j264 50), (j264 51), (j264 52), (j264 53), (j264 54), (j264 55), (j264 56), (j264 57), uV, uV, uV, uV, uV, uV, uV, uV, uV, uV, uV, uV, uV, uV, uV, uV, uV, uV], []⟩ → K25 a_ W262 := by
  intro f260 sx265 sy266 x267 j264 W262 a_ L261 hj271 HS263  hfr_; subst hfr_
  injection hj271 with hj271; subst hj271; try dsimp only at h
  simp only [Sum.elim_inr] at h
  refine hK26 _ _ ?_
  refine wp_seq_k (fun K278 hK279 => ?_)
  refine wp_seq_k fun K280 hK281 => rl ?_
  refine seqK rfl (does_run (run_load rfl Try.underlying2 rfl (kv (.pointer (some ⟨b21, 0, none⟩))) (HS263.cell 0)) ?_)
  refine seqL1 kr ?_
  refine nl (hK281 _ _ ?_)
  have hq_ := ite_some h; clear h; rcases hq_ with ⟨c283, h⟩ | ⟨c283, h⟩
  · have c283 : x267 = 0 := c283
    refine wpRwI 71 kr (beq_iff_eq.mpr c283) ?_
    refine condT kr ?_
    refine wp_seq_k fun K284 hK285 => rl ?_
    have HS286 := HS263.u3
    refine seqL2 kr ?_
    refine seqK rfl (does_storeA (vs := [.int .i64 0, .int .i64 0]) rfl kr kr kr rfl (ones rfl) HS286 kr ?_)
    intro W287 HS288
    have HS289 := HS288.u3
    refine seqK rfl (does_storeA (vs := [.int .i64 0, .int .i64 0]) rfl kr kr kr rfl (ones rfl) HS289 kr ?_)
    intro W290 HS291
    have HS292 := HS291.u3
    refine seqK rfl (does_store (n := 1) (vs := [.int .i64 8]) (cs' := #[.int .i64 8]) rfl kr (kv (.pointer (some ⟨b15, 0, none⟩))) (kv (.int .i64 8)) rfl rfl (ones rfl) HS292 (Nat.le_of_ble_eq_true rfl) kr ?_)
    intro W293 HS294
    refine nl (hK285 _ _ ?_)
    refine wp_ret ?_
    refine hret _ _ ?_
    refine ends (v := Value.tuple #[.agg #[.int .i64 0, .int .i64 0], .agg #[.int .i64 0, .int .i64 0], .int .i64 8]) (results3 (q1 := .cell 2 47) (q2 := .cell 3 47) (q3 := .cell 4 34) kr (resN (n := 2) (cs := [.int .i64 0, .int .i64 0]) (kv (.pointer (some ⟨b7, 0, none⟩))) Try.underlying47 rfl kr rfl (HS294.u2.cells 0 2 _ rfl)) (resN (n := 2) (cs := [.int .i64 0, .int .i64 0]) (kv (.pointer (some ⟨b11, 0, none⟩))) Try.underlying47 rfl kr rfl (HS294.u1.cells 0 2 _ rfl)) (resC (kv (.pointer (some ⟨b15, 0, none⟩))) Try.underlying34 rfl (HS294.cell 0))) kr ?_
    have HS383 := HS294.drop
    have HS384 := HS383.drop
    have HS385 := HS384.drop
    have HS386 := HS385.drop
    injection h with h
    injection h with h0_ h
    injection h with h1_ h
    subst h0_ h1_ h
    exact ⟨f260, rfl, L261, HS386⟩
  · have c283 : ¬ (x267 = 0) := c283
    refine wpRwI 71 kr (beq_eq_false_iff_ne.mpr c283) ?_
    refine condF kr ?_
    refine wp_skip ?_
    refine hK279 _ _ ?_
    refine wp_seq_k fun K295 hK296 => rl ?_
    refine seqL2 kr ?_
    refine nl (hK296 _ _ ?_)
    refine wp_seq_k (fun K297 hK298 => ?_)
    refine wp_seq_k fun K299 hK300 => rl ?_
    have HS302 := HS263.u1.u1
    have hq_ := bind_some h; clear h; obtain ⟨⟨vt303, vt304⟩, hc305, h⟩ := hq_
    refine seqL2 kr ?_
    refine seqK rfl (does_call (f := 24) (args := #[.int .i64 sx265, .pointer (some ⟨b21, 0, none⟩), .pointer (some ⟨b15, 0, none⟩)]) kr (optics_Centre_1.calls k b21 b15 x267 0 sx265 HS302 vt303 vt304 hc305) ?_)
    rintro _ W308 ⟨f306, rfl, L307, HS309⟩
    refine ⟨_, rfl, ?_⟩
    have HS311 := HS309.u1.u1
    have hq_ := bind_some h; clear h; obtain ⟨⟨vt312, vt313⟩, hc314, h⟩ := hq_
    refine seqL2 kr ?_
    refine seqK rfl (does_call (f := 24) (args := #[.int .i64 sy266, .pointer (some ⟨b21, 0, none⟩), .pointer (some ⟨b15, 0, none⟩)]) kr (optics_Centre_1.calls k b21 b15 x267 vt304 sy266 HS311 vt312 vt313 hc314) ?_)
    rintro _ W317 ⟨f315, rfl, L316, HS318⟩
    refine ⟨_, rfl, ?_⟩
    have HS319 := HS318.u3
    refine seqK rfl (does_storeA (vs := [.int .i64 vt303.Num, .int .i64 vt303.Den]) rfl kr kr kr rfl (ones rfl) HS319 kr ?_)
    intro W320 HS321
    have HS322 := HS321.u3
    refine seqK rfl (does_storeA (vs := [.int .i64 vt312.Num, .int .i64 vt312.Den]) rfl kr kr kr rfl (ones rfl) HS322 kr ?_)
    intro W323 HS324
    refine nl (hK300 _ _ ?_)
    refine wp_seq_k fun K325 hK326 => rl ?_
    refine seqK rfl (does_run (run_load rfl Try.underlying34 rfl (kv (.pointer (some ⟨b15, 0, none⟩))) (HS324.u3.cell 0)) ?_)
    refine seqL1 kr ?_
    refine nl (hK326 _ _ ?_)
    have hq_ := ite_some h; clear h; rcases hq_ with ⟨c328, h⟩ | ⟨c328, h⟩
    · have c328 : vt313 ≠ 0 := c328
      refine wpRwI 82 kr (bne_iff_ne.mpr c328) ?_
      refine condT kr ?_
      refine wp_seq_k (fun K329 hK330 => ?_)
      have HS334 := HS324.u2.u3.u3.u3
      refine heldG (S := Sg t f315 ([(b21, .cells #[.int .i64 x267] 2 (0, 0))] :: H) [(4, [(b11, .cells #[.int .i64 vt312.Num, .int .i64 vt312.Den] 47 (0, 0))]), (3, [(b7, .cells #[.int .i64 vt303.Num, .int .i64 vt303.Den] 47 (0, 0))]), (5, [(b15, .cells #[.int .i64 vt313] 34 (0, 0))])]) (n := 6) kr rfl HS334 ?_
      intro W335 HS336
      refine takeGL [0, 1] (n := 6) (fuel := 4) #[true, true, false, false, false, false] rfl kr kr kr hnp (Sg.g3 (Sx.of [[(b11, .cells #[.int .i64 vt312.Num, .int .i64 vt312.Den] 47 (0, 0))], [(b7, .cells #[.int .i64 vt303.Num, .int .i64 vt303.Den] 47 (0, 0))], [(b15, .cells #[.int .i64 vt313] 34 (0, 0))]] fL HS336) (fun _ => St.only [] HS336 fL) (fun _ => St.only [[(b11, .cells #[.int .i64 vt312.Num, .int .i64 vt312.Den] 47 (0, 0))]] HS336 fL) (fun _ => St.only [[(b11, .cells #[.int .i64 vt312.Num, .int .i64 vt312.Den] 47 (0, 0))], [(b7, .cells #[.int .i64 vt303.Num, .int .i64 vt303.Den] 47 (0, 0))]] HS336 fL)) ?_
      refine takeGQ 2 [5] rfl kr kr kr kr kr kr hnp (Sg.g3 (Sx.of [[(b11, .cells #[.int .i64 vt312.Num, .int .i64 vt312.Den] 47 (0, 0))], [(b7, .cells #[.int .i64 vt303.Num, .int .i64 vt303.Den] 47 (0, 0))], [(b15, .cells #[.int .i64 vt313] 34 (0, 0))]] fL HS336) (fun _ => St.only [] HS336 fL) (fun _ => St.only [[(b11, .cells #[.int .i64 vt312.Num, .int .i64 vt312.Den] 47 (0, 0))]] HS336 fL) (fun _ => St.only [[(b11, .cells #[.int .i64 vt312.Num, .int .i64 vt312.Den] 47 (0, 0))], [(b7, .cells #[.int .i64 vt303.Num, .int .i64 vt303.Den] 47 (0, 0))]] HS336 fL)) (fun w_ hw_ => by obtain ⟨g_, hl_, hS_⟩ := hw_.seg (j := 5) (s := [(b15, .cells #[.int .i64 vt313] 34 (0, 0))]) (by simp) (by simp); exact run_load rfl Try.underlying34 rfl (kv (.pointer (some ⟨b15, 0, none⟩))) (hS_.cell 0)) ?_
      have HS337 := HS336.u1
      refine takeGE 3 kr rfl kr (does_storeA (vs := [.int .i64 0, .int .i64 0]) rfl kr kr kr rfl (ones rfl) HS337 kr ?_)
      intro W338 HS339
      refine ⟨(Sg.g3 (Sx.of [[(b7, .cells #[.int .i64 0, .int .i64 0] 47 (0, 0))], [(b11, .cells #[.int .i64 vt312.Num, .int .i64 vt312.Den] 47 (0, 0))], [(b15, .cells #[.int .i64 vt313] 34 (0, 0))]] fL HS339) (fun _ => St.only [[(b7, .cells #[.int .i64 0, .int .i64 0] 47 (0, 0))]] HS339 fL) (fun hl_ => Bool.noConfusion (show true = false from hl_)) (fun _ => St.only [[(b7, .cells #[.int .i64 0, .int .i64 0] 47 (0, 0))], [(b11, .cells #[.int .i64 vt312.Num, .int .i64 vt312.Den] 47 (0, 0))]] HS339 fL)), ?_⟩
      have HS340 := HS339.u1
      refine takeGE 4 kr rfl kr (does_storeA (vs := [.int .i64 0, .int .i64 0]) rfl kr kr kr rfl (ones rfl) HS340 kr ?_)
      intro W341 HS342
      refine ⟨(Sg.g3 (Sx.of [[(b11, .cells #[.int .i64 0, .int .i64 0] 47 (0, 0))], [(b7, .cells #[.int .i64 0, .int .i64 0] 47 (0, 0))], [(b15, .cells #[.int .i64 vt313] 34 (0, 0))]] fL HS342) (fun hl_ => Bool.noConfusion (show true = false from hl_)) (fun hl_ => Bool.noConfusion (show true = false from hl_)) (fun _ => St.only [[(b11, .cells #[.int .i64 0, .int .i64 0] 47 (0, 0))], [(b7, .cells #[.int .i64 0, .int .i64 0] 47 (0, 0))]] HS342 fL)), ?_⟩
      have HS343 := HS342.u2
      refine takeGE 5 kr rfl kr (does_store (n := 1) (vs := [.int .i64 vt313]) (cs' := #[.int .i64 vt313]) rfl kr (kv (.pointer (some ⟨b15, 0, none⟩))) (kv (.int .i64 vt313)) rfl rfl (ones rfl) HS343 (Nat.le_of_ble_eq_true rfl) kr ?_)
      intro W344 HS345
      refine ⟨(Sg.g3 (Sx.of [[(b15, .cells #[.int .i64 vt313] 34 (0, 0))], [(b11, .cells #[.int .i64 0, .int .i64 0] 47 (0, 0))], [(b7, .cells #[.int .i64 0, .int .i64 0] 47 (0, 0))]] fL HS345) (fun hl_ => Bool.noConfusion (show true = false from hl_)) (fun hl_ => Bool.noConfusion (show true = false from hl_)) (fun hl_ => Bool.noConfusion (show true = false from hl_))), ?_⟩
      refine doneG kr ?_ _
      refine hK330 _ _ ?_
      refine wp_ret ?_
      refine hret _ _ ?_
      refine ends (v := Value.tuple #[.agg #[.int .i64 0, .int .i64 0], .agg #[.int .i64 0, .int .i64 0], .int .i64 vt313]) (results3 (q1 := .cell 2 47) (q2 := .cell 3 47) (q3 := .cell 4 34) kr (resN (n := 2) (cs := [.int .i64 0, .int .i64 0]) (kv (.pointer (some ⟨b7, 0, none⟩))) Try.underlying47 rfl kr rfl (HS345.u2.cells 0 2 _ rfl)) (resN (n := 2) (cs := [.int .i64 0, .int .i64 0]) (kv (.pointer (some ⟨b11, 0, none⟩))) Try.underlying47 rfl kr rfl (HS345.u1.cells 0 2 _ rfl)) (resC (kv (.pointer (some ⟨b15, 0, none⟩))) Try.underlying34 rfl (HS345.cell 0))) kr ?_
      have HS387 := HS345.drop
      have HS388 := HS387.drop
      have HS389 := HS388.drop
      have HS390 := HS389.drop
      injection h with h
      injection h with h0_ h
      injection h with h1_ h
      subst h0_ h1_ h
      exact ⟨f315, rfl, (L261.trans (L307.trans L316)), HS390⟩
    · have c328 : ¬ (vt313 ≠ 0) := c328
      refine wpRwI 82 (x := (vt313 != 0)) (v := false) kr (bne_eq_false_iff_eq.mpr (Decidable.of_not_not c328)) ?_
      refine condF kr ?_
      refine wp_skip ?_
      refine hK298 _ _ ?_
      refine wp_seq_k (fun K346 hK347 => ?_)
      have HS351 := HS324.u2.u3.u3.u3
      refine heldG (S := Sg t f315 ([(b21, .cells #[.int .i64 x267] 2 (0, 0))] :: H) [(3, [(b11, .cells #[.int .i64 vt312.Num, .int .i64 vt312.Den] 47 (0, 0))]), (2, [(b7, .cells #[.int .i64 vt303.Num, .int .i64 vt303.Den] 47 (0, 0))]), (4, [(b15, .cells #[.int .i64 vt313] 34 (0, 0))])]) (n := 5) kr rfl HS351 ?_
      intro W352 HS353
      refine takeGQ 0 [2] rfl kr kr kr kr kr kr hnp (Sg.g3 (Sx.of [[(b11, .cells #[.int .i64 vt312.Num, .int .i64 vt312.Den] 47 (0, 0))], [(b7, .cells #[.int .i64 vt303.Num, .int .i64 vt303.Den] 47 (0, 0))], [(b15, .cells #[.int .i64 vt313] 34 (0, 0))]] fL HS353) (fun _ => St.only [] HS353 fL) (fun _ => St.only [[(b11, .cells #[.int .i64 vt312.Num, .int .i64 vt312.Den] 47 (0, 0))]] HS353 fL) (fun _ => St.only [[(b11, .cells #[.int .i64 vt312.Num, .int .i64 vt312.Den] 47 (0, 0))], [(b7, .cells #[.int .i64 vt303.Num, .int .i64 vt303.Den] 47 (0, 0))]] HS353 fL)) (fun w_ hw_ => by obtain ⟨g_, hl_, hS_⟩ := hw_.seg (j := 2) (s := [(b7, .cells #[.int .i64 vt303.Num, .int .i64 vt303.Den] 47 (0, 0))]) (by simp) (by simp); exact run_loadN (n := 2) rfl Try.underlying47 rfl kr (kv (.pointer (some ⟨b7, 0, none⟩))) (cs := [.int .i64 vt303.Num, .int .i64 vt303.Den]) rfl (hS_.cells 0 2 _ rfl)) ?_
      refine takeGQ 1 [3] rfl kr kr kr kr kr kr hnp (Sg.g3 (Sx.of [[(b11, .cells #[.int .i64 vt312.Num, .int .i64 vt312.Den] 47 (0, 0))], [(b7, .cells #[.int .i64 vt303.Num, .int .i64 vt303.Den] 47 (0, 0))], [(b15, .cells #[.int .i64 vt313] 34 (0, 0))]] fL HS353) (fun _ => St.only [] HS353 fL) (fun _ => St.only [[(b11, .cells #[.int .i64 vt312.Num, .int .i64 vt312.Den] 47 (0, 0))]] HS353 fL) (fun _ => St.only [[(b11, .cells #[.int .i64 vt312.Num, .int .i64 vt312.Den] 47 (0, 0))], [(b7, .cells #[.int .i64 vt303.Num, .int .i64 vt303.Den] 47 (0, 0))]] HS353 fL)) (fun w_ hw_ => by obtain ⟨g_, hl_, hS_⟩ := hw_.seg (j := 3) (s := [(b11, .cells #[.int .i64 vt312.Num, .int .i64 vt312.Den] 47 (0, 0))]) (by simp) (by simp); exact run_loadN (n := 2) rfl Try.underlying47 rfl kr (kv (.pointer (some ⟨b11, 0, none⟩))) (cs := [.int .i64 vt312.Num, .int .i64 vt312.Den]) rfl (hS_.cells 0 2 _ rfl)) ?_
      have HS354 := HS353.u1
      refine takeGE 2 kr rfl kr (does_storeA (vs := [.int .i64 vt303.Num, .int .i64 vt303.Den]) rfl kr kr kr rfl (ones rfl) HS354 kr ?_)
      intro W355 HS356
      refine ⟨(Sg.g3 (Sx.of [[(b7, .cells #[.int .i64 vt303.Num, .int .i64 vt303.Den] 47 (0, 0))], [(b11, .cells #[.int .i64 vt312.Num, .int .i64 vt312.Den] 47 (0, 0))], [(b15, .cells #[.int .i64 vt313] 34 (0, 0))]] fL HS356) (fun _ => St.only [[(b7, .cells #[.int .i64 vt303.Num, .int .i64 vt303.Den] 47 (0, 0))]] HS356 fL) (fun hl_ => Bool.noConfusion (show true = false from hl_)) (fun _ => St.only [[(b7, .cells #[.int .i64 vt303.Num, .int .i64 vt303.Den] 47 (0, 0))], [(b11, .cells #[.int .i64 vt312.Num, .int .i64 vt312.Den] 47 (0, 0))]] HS356 fL)), ?_⟩
      have HS357 := HS356.u1
      refine takeGE 3 kr rfl kr (does_storeA (vs := [.int .i64 vt312.Num, .int .i64 vt312.Den]) rfl kr kr kr rfl (ones rfl) HS357 kr ?_)
      intro W358 HS359
      refine ⟨(Sg.g3 (Sx.of [[(b11, .cells #[.int .i64 vt312.Num, .int .i64 vt312.Den] 47 (0, 0))], [(b7, .cells #[.int .i64 vt303.Num, .int .i64 vt303.Den] 47 (0, 0))], [(b15, .cells #[.int .i64 vt313] 34 (0, 0))]] fL HS359) (fun hl_ => Bool.noConfusion (show true = false from hl_)) (fun hl_ => Bool.noConfusion (show true = false from hl_)) (fun _ => St.only [[(b11, .cells #[.int .i64 vt312.Num, .int .i64 vt312.Den] 47 (0, 0))], [(b7, .cells #[.int .i64 vt303.Num, .int .i64 vt303.Den] 47 (0, 0))]] HS359 fL)), ?_⟩
      have HS360 := HS359.u2
      refine takeGE 4 kr rfl kr (does_store (n := 1) (vs := [.int .i64 0]) (cs' := #[.int .i64 0]) rfl kr (kv (.pointer (some ⟨b15, 0, none⟩))) (kv (.int .i64 0)) rfl rfl (ones rfl) HS360 (Nat.le_of_ble_eq_true rfl) kr ?_)
      intro W361 HS362
      refine ⟨(Sg.g3 (Sx.of [[(b15, .cells #[.int .i64 0] 34 (0, 0))], [(b11, .cells #[.int .i64 vt312.Num, .int .i64 vt312.Den] 47 (0, 0))], [(b7, .cells #[.int .i64 vt303.Num, .int .i64 vt303.Den] 47 (0, 0))]] fL HS362) (fun hl_ => Bool.noConfusion (show true = false from hl_)) (fun hl_ => Bool.noConfusion (show true = false from hl_)) (fun hl_ => Bool.noConfusion (show true = false from hl_))), ?_⟩
      refine doneG kr ?_ _
      refine hK347 _ _ ?_
      refine wp_ret ?_
      refine hret _ _ ?_
      refine ends (v := Value.tuple #[.agg #[.int .i64 vt303.Num, .int .i64 vt303.Den], .agg #[.int .i64 vt312.Num, .int .i64 vt312.Den], .int .i64 0]) (results3 (q1 := .cell 2 47) (q2 := .cell 3 47) (q3 := .cell 4 34) kr (resN (n := 2) (cs := [.int .i64 vt303.Num, .int .i64 vt303.Den]) (kv (.pointer (some ⟨b7, 0, none⟩))) Try.underlying47 rfl kr rfl (HS362.u2.cells 0 2 _ rfl)) (resN (n := 2) (cs := [.int .i64 vt312.Num, .int .i64 vt312.Den]) (kv (.pointer (some ⟨b11, 0, none⟩))) Try.underlying47 rfl kr rfl (HS362.u1.cells 0 2 _ rfl)) (resC (kv (.pointer (some ⟨b15, 0, none⟩))) Try.underlying34 rfl (HS362.cell 0))) kr ?_
      have HS391 := HS362.drop
      have HS392 := HS391.drop
      have HS393 := HS392.drop
      have HS394 := HS393.drop
      injection h with h
      injection h with h0_ h
      injection h with h1_ h
      subst h0_ h1_ h
      exact ⟨f315, rfl, (L261.trans (L307.trans L316)), HS394⟩
 clear h; have h := hv268; clear hv268
 refine loopK (fun n_ a_ w_ => ∃ (f151 : FM) (sx156 : Int) (sy157 : Int) (x158 : Int) (x159 : Int) (j155 : Nat → Value), FM.le f f151 ∧ St t w_ f151 ([(b21, .cells #[.int .i64 x159] 2 (0, 0))] :: [(b15, .cells #[.int .i64 0] 34 (0, 0))] :: [(b11, .cells #[.int .i64 0, .int .i64 0] 47 (0, 0))] :: [(b7, .cells #[.int .i64 0, .int .i64 0] 47 (0, 0))] :: H) ∧ optics_Centre.l0 k l1 n_ sx156 sy157 x158 x159 = some o147 ∧ a_ = ⟨#[.slice A2 l1.length c3, uV, pV b7 0, pV b11 0, pV b15 0, pV b21 0, iV sx156, iV sy157, uV, (j155 0), uV, .slice A2 l1.length c3, iV (l1.length : Int), iV x158, (j155 1), (j155 2), (j155 3), (j155 4), (j155 5), (j155 6), (j155 7), (j155 8), (j155 9), (j155 10), (j155 11), (j155 12), (j155 13), (j155 14), (j155 15), (j155 16), (j155 17), (j155 18), (j155 19), (j155 20), (j155 21), (j155 22), (j155 23), (j155 24), (j155 25), (j155 26), (j155 27), (j155 28), (j155 29), (j155 30), (j155 31), (j155 32), (j155 33), (j155 34), (j155 35), (j155 36), (j155 37), (j155 38), (j155 39), (j155 40), (j155 41), (j155 42), (j155 43), (j155 44), (j155 45), (j155 46), (j155 47), (j155 48), (j155 49), (j155 50), (j155 51), (j155 52), (j155 53), (j155 54), (j155 55), (j155 56), uV, uV, uV, uV, uV, uV, uV, uV, uV, uV, uV, uV, uV, uV, uV, uV, uV, uV], []⟩) k ⟨f, 0, 0, 0, 0, (jL []), fL, HS23, h, kr⟩ ?_
 clear h
 rintro n150 _ W153 ⟨f151, sx156, sy157, x158, x159, j155, L152, HS154, h, rfl⟩ K148 hK149
 obtain _ | n150 := n150
 · exact nomatch h
 simp only [optics_Centre.l0] at h
 refine wp_seq_k fun K160 hK161 => rl ?_
 refine seqL1 kr ?_
 refine nl (hK161 _ _ ?_)
 refine wp_seq_k (fun K162 hK163 => ?_)
 have hq_ := ite_some h; clear h; rcases hq_ with ⟨c165, h⟩ | ⟨c165, h⟩
 · have c165 : x158 < (l1.length : Int) := c165
   refine wpRwI 14 kr (decide_eq_true c165) ?_
   refine condT kr ?_
   refine wp_skip ?_
   refine hK163 _ _ ?_
   refine wp_seq_k (fun K166 hK167 => ?_)
   refine blockK (fun B168 hx169 hn170 hr171 ho172 hp173 => ?_)
   refine wp_seq_k fun K175 hK176 => rl ?_
   have hq_ := guard_some h; clear h; obtain ⟨c177, h⟩ := hq_
   have c177 : 0 ≤ x158 := c177
   obtain ⟨b181, of182, cs178, hA183, hr179, hc180⟩ := (HR4.mono L152).at (i := x158) c177 c165
   obtain rfl := hr179
   refine seqK rfl (does_run (run_indexE hA183 (sz := 3) rfl Try.underlying33 kr (kv (.slice A2 l1.length c3)) (kv (.int .i64 x158)) c177 c165 W153) ?_)
   refine seqK rfl (does_run (run_loadN (n := 3) rfl Try.underlying42 rfl kr (kv (.pointer (some ⟨b181, of182 + (x158 : Int).toNat * 3, none⟩))) (cs := [.int .i64 ((rd l1 x158).X), .int .i64 ((rd l1 x158).Y), .int .i64 ((rd l1 x158).Light)]) rfl (fun j_ hj_ => ((hc180 fL HS154) j_ hj_))) ?_)
   refine seqK rfl (does_alloc (z := Value.agg #[.int .i64 0, .int .i64 0, .int .i64 0]) (cs := #[.int .i64 0, .int .i64 0, .int .i64 0]) rfl kr rfl HS154 ?_)
   intro b184 W185 HS186
   refine seqK rfl (does_storeA (vs := [.int .i64 ((rd l1 x158).X), .int .i64 ((rd l1 x158).Y), .int .i64 ((rd l1 x158).Light)]) rfl kr kr kr rfl (ones rfl) HS186 kr ?_)
   intro W188 HS189
   refine nl (hK176 _ _ ?_)
   refine wp_seq_k (fun K190 hK191 => ?_)
   refine blockK (fun B192 hx193 hn194 hr195 ho196 hp197 => ?_)
   refine wp_seq_k fun K199 hK200 => rl ?_
   refine seqL1 kr ?_
   refine seqK rfl (does_run (run_load rfl Try.underlying3 rfl (kv (.pointer (some ⟨b184, 0, none⟩))) (HS189.cell 0)) ?_)
   refine seqL1 kr ?_
   refine seqK rfl (does_run (run_load rfl Try.underlying3 rfl (kv (.pointer (some ⟨b184, 1, none⟩))) (HS189.cell 1)) ?_)
   refine seqL3 kr ?_
   have hq_ := ite_some h; clear h; rcases hq_ with ⟨c201, h⟩ | ⟨c201, h⟩
   · have c201 : (mx ((rd l1 x158).X) ((rd l1 x158).Y)) > 300 := c201
     refine seqRwI 23 kr (decide_eq_true c201) ?_
     refine seqRwI 24 kr (decide_eq_true c201) ?_
     refine seqL13 kr ?_
     refine nl (hK200 _ _ ?_)
     refine condT kr ?_
     refine wp_seq_k fun K202 hK203 => rl ?_
     have HS204 := HS189.u4
     refine seqL2 kr ?_
     refine seqK rfl (does_storeA (vs := [.int .i64 0, .int .i64 0]) rfl kr kr kr rfl (ones rfl) HS204 kr ?_)
     intro W205 HS206
     have HS207 := HS206.u4
     refine seqK rfl (does_storeA (vs := [.int .i64 0, .int .i64 0]) rfl kr kr kr rfl (ones rfl) HS207 kr ?_)
     intro W208 HS209
     have HS210 := HS209.u4
     refine seqK rfl (does_store (n := 1) (vs := [.int .i64 4]) (cs' := #[.int .i64 4]) rfl kr (kv (.pointer (some ⟨b15, 0, none⟩))) (kv (.int .i64 4)) rfl rfl (ones rfl) HS210 (Nat.le_of_ble_eq_true rfl) kr ?_)
     intro W211 HS212
     refine nl (hK203 _ _ ?_)
     refine wp_ret ?_
     refine hr195 _ _ ?_
     refine hr171 _ _ ?_
     refine hr32 _ _ ?_
     refine hret _ _ ?_
     refine ends (v := Value.tuple #[.agg #[.int .i64 0, .int .i64 0], .agg #[.int .i64 0, .int .i64 0], .int .i64 4]) (results3 (q1 := .cell 2 47) (q2 := .cell 3 47) (q3 := .cell 4 34) kr (resN (n := 2) (cs := [.int .i64 0, .int .i64 0]) (kv (.pointer (some ⟨b7, 0, none⟩))) Try.underlying47 rfl kr rfl (HS212.u2.cells 0 2 _ rfl)) (resN (n := 2) (cs := [.int .i64 0, .int .i64 0]) (kv (.pointer (some ⟨b11, 0, none⟩))) Try.underlying47 rfl kr rfl (HS212.u1.cells 0 2 _ rfl)) (resC (kv (.pointer (some ⟨b15, 0, none⟩))) Try.underlying34 rfl (HS212.cell 0))) kr ?_
     have HS363 := HS212.drop
     have HS364 := HS363.drop
     have HS365 := HS364.drop
     have HS366 := HS365.drop
     have HS367 := HS366.drop
     replace h := JR270 _ h
     injection h with h
     injection h with h0_ h
     injection h with h1_ h
     subst h0_ h1_ h
     exact ⟨f151, rfl, L152, HS367⟩
   · have c201 : ¬ ((mx ((rd l1 x158).X) ((rd l1 x158).Y)) > 300) := c201
     refine seqRwI 23 kr (decide_eq_false c201) ?_
     refine seqRwI 24 kr (decide_eq_false c201) ?_
     refine seqL1 kr ?_
     refine seqG kr (does_run (run_load rfl Try.underlying3 rfl (kv (.pointer (some ⟨b184, 0, none⟩))) (HS189.cell 0)) ?_)
     refine seqL1 kr ?_
     refine seqG kr (does_run (run_load rfl Try.underlying3 rfl (kv (.pointer (some ⟨b184, 1, none⟩))) (HS189.cell 1)) ?_)
     refine seqL4 kr ?_
     have hq_ := ite_some h; clear h; rcases hq_ with ⟨c213, h⟩ | ⟨c213, h⟩
     · have c213 : (mn ((rd l1 x158).X) ((rd l1 x158).Y)) < (-300) := c213
       refine seqRwI 30 kr (decide_eq_true c213) ?_
       refine seqRwI 31 kr (decide_eq_true c213) ?_
       refine seqRwI 32 kr (decide_eq_true c213) ?_
       refine seqL5 kr ?_
       refine nl (hK200 _ _ ?_)
       refine condT kr ?_
       refine wp_seq_k fun K214 hK215 => rl ?_
       have HS216 := HS189.u4
       refine seqL2 kr ?_
       refine seqK rfl (does_storeA (vs := [.int .i64 0, .int .i64 0]) rfl kr kr kr rfl (ones rfl) HS216 kr ?_)
       intro W217 HS218
       have HS219 := HS218.u4
       refine seqK rfl (does_storeA (vs := [.int .i64 0, .int .i64 0]) rfl kr kr kr rfl (ones rfl) HS219 kr ?_)
       intro W220 HS221
       have HS222 := HS221.u4
       refine seqK rfl (does_store (n := 1) (vs := [.int .i64 4]) (cs' := #[.int .i64 4]) rfl kr (kv (.pointer (some ⟨b15, 0, none⟩))) (kv (.int .i64 4)) rfl rfl (ones rfl) HS222 (Nat.le_of_ble_eq_true rfl) kr ?_)
       intro W223 HS224
       refine nl (hK215 _ _ ?_)
       refine wp_ret ?_
       refine hr195 _ _ ?_
       refine hr171 _ _ ?_
       refine hr32 _ _ ?_
       refine hret _ _ ?_
       refine ends (v := Value.tuple #[.agg #[.int .i64 0, .int .i64 0], .agg #[.int .i64 0, .int .i64 0], .int .i64 4]) (results3 (q1 := .cell 2 47) (q2 := .cell 3 47) (q3 := .cell 4 34) kr (resN (n := 2) (cs := [.int .i64 0, .int .i64 0]) (kv (.pointer (some ⟨b7, 0, none⟩))) Try.underlying47 rfl kr rfl (HS224.u2.cells 0 2 _ rfl)) (resN (n := 2) (cs := [.int .i64 0, .int .i64 0]) (kv (.pointer (some ⟨b11, 0, none⟩))) Try.underlying47 rfl kr rfl (HS224.u1.cells 0 2 _ rfl)) (resC (kv (.pointer (some ⟨b15, 0, none⟩))) Try.underlying34 rfl (HS224.cell 0))) kr ?_
       have HS368 := HS224.drop
       have HS369 := HS368.drop
       have HS370 := HS369.drop
       have HS371 := HS370.drop
       have HS372 := HS371.drop
       replace h := JR270 _ h
       injection h with h
       injection h with h0_ h
       injection h with h1_ h
       subst h0_ h1_ h
       exact ⟨f151, rfl, L152, HS372⟩
     · have c213 : ¬ ((mn ((rd l1 x158).X) ((rd l1 x158).Y)) < (-300)) := c213
       refine seqRwI 30 kr (decide_eq_false c213) ?_
       refine seqRwI 31 kr (decide_eq_false c213) ?_
       refine seqRwI 32 kr (decide_eq_false c213) ?_
       refine seqL1 kr ?_
       refine seqG kr (does_run (run_load rfl Try.underlying38 rfl (kv (.pointer (some ⟨b184, 2, none⟩))) (HS189.cell 2)) ?_)
       refine seqL3 kr ?_
       refine nl (hK200 _ _ ?_)
       have hq_ := ite_some h; clear h; rcases hq_ with ⟨c226, h⟩ | ⟨c226, h⟩
       · have c226 : ((rd l1 x158).Light) < 0 := c226
         refine wpRwI 17 kr (decide_eq_true c226) ?_
         refine wpRwI 35 kr (decide_eq_true c226) ?_
         refine wpRwI 36 kr (decide_eq_true c226) ?_
         refine condT kr ?_
         refine wp_seq_k fun K227 hK228 => rl ?_
         have HS229 := HS189.u4
         refine seqL2 kr ?_
         refine seqK rfl (does_storeA (vs := [.int .i64 0, .int .i64 0]) rfl kr kr kr rfl (ones rfl) HS229 kr ?_)
         intro W230 HS231
         have HS232 := HS231.u4
         refine seqK rfl (does_storeA (vs := [.int .i64 0, .int .i64 0]) rfl kr kr kr rfl (ones rfl) HS232 kr ?_)
         intro W233 HS234
         have HS235 := HS234.u4
         refine seqK rfl (does_store (n := 1) (vs := [.int .i64 4]) (cs' := #[.int .i64 4]) rfl kr (kv (.pointer (some ⟨b15, 0, none⟩))) (kv (.int .i64 4)) rfl rfl (ones rfl) HS235 (Nat.le_of_ble_eq_true rfl) kr ?_)
         intro W236 HS237
         refine nl (hK228 _ _ ?_)
         refine wp_ret ?_
         refine hr195 _ _ ?_
         refine hr171 _ _ ?_
         refine hr32 _ _ ?_
         refine hret _ _ ?_
         refine ends (v := Value.tuple #[.agg #[.int .i64 0, .int .i64 0], .agg #[.int .i64 0, .int .i64 0], .int .i64 4]) (results3 (q1 := .cell 2 47) (q2 := .cell 3 47) (q3 := .cell 4 34) kr (resN (n := 2) (cs := [.int .i64 0, .int .i64 0]) (kv (.pointer (some ⟨b7, 0, none⟩))) Try.underlying47 rfl kr rfl (HS237.u2.cells 0 2 _ rfl)) (resN (n := 2) (cs := [.int .i64 0, .int .i64 0]) (kv (.pointer (some ⟨b11, 0, none⟩))) Try.underlying47 rfl kr rfl (HS237.u1.cells 0 2 _ rfl)) (resC (kv (.pointer (some ⟨b15, 0, none⟩))) Try.underlying34 rfl (HS237.cell 0))) kr ?_
         have HS373 := HS237.drop
         have HS374 := HS373.drop
         have HS375 := HS374.drop
         have HS376 := HS375.drop
         have HS377 := HS376.drop
         replace h := JR270 _ h
         injection h with h
         injection h with h0_ h
         injection h with h1_ h
         subst h0_ h1_ h
         exact ⟨f151, rfl, L152, HS377⟩
       · have c226 : ¬ (((rd l1 x158).Light) < 0) := c226
         refine wpRwI 17 kr (decide_eq_false c226) ?_
         refine wpRwI 35 kr (decide_eq_false c226) ?_
         refine wpRwI 36 kr (decide_eq_false c226) ?_
         refine condF kr ?_
         refine wp_seq_k fun K238 hK239 => rl ?_
         refine seqL1 kr ?_
         refine seqK rfl (does_run (run_load rfl Try.underlying38 rfl (kv (.pointer (some ⟨b184, 2, none⟩))) (HS189.cell 2)) ?_)
         refine seqK rfl (does_run (run_load rfl Try.underlying2 rfl (kv (.pointer (some ⟨b21, 0, none⟩))) (HS189.u1.cell 0)) ?_)
         refine seqL3 kr ?_
         refine nl (hK239 _ _ ?_)
         have hq_ := ite_some h; clear h; rcases hq_ with ⟨c241, h⟩ | ⟨c241, h⟩
         · have c241 : ((rd l1 x158).Light) > (w64 (281474976710656 - x159)) := c241
           refine wpRwI 39 kr (decide_eq_true c241) ?_
           refine wpRwI 44 kr (decide_eq_true c241) ?_
           refine condT kr ?_
           refine wp_seq_k fun K242 hK243 => rl ?_
           have HS244 := HS189.u4
           refine seqL2 kr ?_
           refine seqK rfl (does_storeA (vs := [.int .i64 0, .int .i64 0]) rfl kr kr kr rfl (ones rfl) HS244 kr ?_)
           intro W245 HS246
           have HS247 := HS246.u4
           refine seqK rfl (does_storeA (vs := [.int .i64 0, .int .i64 0]) rfl kr kr kr rfl (ones rfl) HS247 kr ?_)
           intro W248 HS249
           have HS250 := HS249.u4
           refine seqK rfl (does_store (n := 1) (vs := [.int .i64 2]) (cs' := #[.int .i64 2]) rfl kr (kv (.pointer (some ⟨b15, 0, none⟩))) (kv (.int .i64 2)) rfl rfl (ones rfl) HS250 (Nat.le_of_ble_eq_true rfl) kr ?_)
           intro W251 HS252
           refine nl (hK243 _ _ ?_)
           refine wp_ret ?_
           refine hr195 _ _ ?_
           refine hr171 _ _ ?_
           refine hr32 _ _ ?_
           refine hret _ _ ?_
           refine ends (v := Value.tuple #[.agg #[.int .i64 0, .int .i64 0], .agg #[.int .i64 0, .int .i64 0], .int .i64 2]) (results3 (q1 := .cell 2 47) (q2 := .cell 3 47) (q3 := .cell 4 34) kr (resN (n := 2) (cs := [.int .i64 0, .int .i64 0]) (kv (.pointer (some ⟨b7, 0, none⟩))) Try.underlying47 rfl kr rfl (HS252.u2.cells 0 2 _ rfl)) (resN (n := 2) (cs := [.int .i64 0, .int .i64 0]) (kv (.pointer (some ⟨b11, 0, none⟩))) Try.underlying47 rfl kr rfl (HS252.u1.cells 0 2 _ rfl)) (resC (kv (.pointer (some ⟨b15, 0, none⟩))) Try.underlying34 rfl (HS252.cell 0))) kr ?_
           have HS378 := HS252.drop
           have HS379 := HS378.drop
           have HS380 := HS379.drop
           have HS381 := HS380.drop
           have HS382 := HS381.drop
           replace h := JR270 _ h
           injection h with h
           injection h with h0_ h
           injection h with h1_ h
           subst h0_ h1_ h
           exact ⟨f151, rfl, L152, HS382⟩
         · have c241 : ¬ (((rd l1 x158).Light) > (w64 (281474976710656 - x159))) := c241
           refine wpRwI 39 kr (decide_eq_false c241) ?_
           refine wpRwI 44 kr (decide_eq_false c241) ?_
           refine condF kr ?_
           refine wp_skip ?_
           refine hn194 _ _ ?_
           refine hK191 _ _ ?_
           refine wp_seq_k fun K253 hK254 => rl ?_
           refine seqK rfl (does_run (run_load rfl Try.underlying2 rfl (kv (.pointer (some ⟨b21, 0, none⟩))) (HS189.u1.cell 0)) ?_)
           refine seqL1 kr ?_
           refine seqK rfl (does_run (run_load rfl Try.underlying38 rfl (kv (.pointer (some ⟨b184, 2, none⟩))) (HS189.cell 2)) ?_)
           have HS255 := HS189.u1
           refine seqL1 kr ?_
           refine seqK rfl (does_store (n := 1) (vs := [.int .i64 (w64 (x159 + ((rd l1 x158).Light)))]) (cs' := #[.int .i64 (w64 (x159 + ((rd l1 x158).Light)))]) rfl kr (kv (.pointer (some ⟨b21, 0, none⟩))) (kv (.int .i64 (w64 (x159 + ((rd l1 x158).Light))))) rfl rfl (ones rfl) HS255 (Nat.le_of_ble_eq_true rfl) kr ?_)
           intro W256 HS257
           refine nl (hK254 _ _ ?_)
           refine wp_seq_k fun K258 hK259 => rl ?_
           refine seqL2 kr ?_
           refine seqK rfl (does_run (run_load rfl Try.underlying38 rfl (kv (.pointer (some ⟨b184, 2, none⟩))) (HS257.u1.cell 2)) ?_)
           refine seqL1 kr ?_
           refine seqK rfl (does_run (run_load rfl Try.underlying3 rfl (kv (.pointer (some ⟨b184, 0, none⟩))) (HS257.u1.cell 0)) ?_)
           refine seqL5 kr ?_
           refine nl (hK259 _ _ ?_)
           refine rl ?_
           refine seqL2 kr ?_
           refine seqK rfl (does_run (run_load rfl Try.underlying38 rfl (kv (.pointer (some ⟨b184, 2, none⟩))) (HS257.u1.cell 2)) ?_)
           refine seqL1 kr ?_
           refine seqK rfl (does_run (run_load rfl Try.underlying3 rfl (kv (.pointer (some ⟨b184, 1, none⟩))) (HS257.u1.cell 1)) ?_)
           refine seqL5 kr ?_
           refine nl ?_
           refine hn170 _ _ ?_
           refine hK167 _ _ ?_
           refine rl ?_
           refine seqL2 kr ?_
           refine nl ?_
           refine hK149 n150 _ _ (Nat.lt_succ_self _) ?_
           have HS276 := HS257.u4.u4.u4.u3.u4
           have HS277 := HS276.drop
           exact ⟨f151, (w64 (sx156 + (w64 (((rd l1 x158).Light) * (w64 ((w64 (2 * ((rd l1 x158).X))) + 1)))))), (w64 (sy157 + (w64 (((rd l1 x158).Light) * (w64 ((w64 (2 * ((rd l1 x158).Y))) + 1)))))), (w64 (x158 + 1)), (w64 (x159 + ((rd l1 x158).Light))), (jL [.pointer (some ⟨b184, 0, none⟩), tV, .pointer (some ⟨b181, of182 + (x158 : Int).toNat * 3, none⟩), (ag_Spot (rd l1 x158)), fV, .pointer (some ⟨b184, 0, none⟩), iV ((rd l1 x158).X), .pointer (some ⟨b184, 1, none⟩), iV ((rd l1 x158).Y), iV (mx ((rd l1 x158).X) ((rd l1 x158).Y)), fV, fV, .pointer (some ⟨b184, 0, none⟩), iV ((rd l1 x158).X), .pointer (some ⟨b184, 1, none⟩), iV ((rd l1 x158).Y), iV (mn ((rd l1 x158).X) ((rd l1 x158).Y)), fV, fV, fV, .pointer (some ⟨b184, 2, none⟩), iV ((rd l1 x158).Light), fV, fV, (j155 24), (j155 25), fV, .pointer (some ⟨b184, 2, none⟩), iV ((rd l1 x158).Light), iV x159, iV (w64 (281474976710656 - x159)), fV, (j155 32), (j155 33), iV x159, .pointer (some ⟨b184, 2, none⟩), iV ((rd l1 x158).Light), iV (w64 (x159 + ((rd l1 x158).Light))), iV sx156, .pointer (some ⟨b184, 2, none⟩), iV ((rd l1 x158).Light), .pointer (some ⟨b184, 0, none⟩), iV ((rd l1 x158).X), iV (w64 (2 * ((rd l1 x158).X))), iV (w64 ((w64 (2 * ((rd l1 x158).X))) + 1)), iV (w64 (((rd l1 x158).Light) * (w64 ((w64 (2 * ((rd l1 x158).X))) + 1)))), iV (w64 (sx156 + (w64 (((rd l1 x158).Light) * (w64 ((w64 (2 * ((rd l1 x158).X))) + 1)))))), iV sy157, .pointer (some ⟨b184, 2, none⟩), iV ((rd l1 x158).Light), .pointer (some ⟨b184, 1, none⟩), iV ((rd l1 x158).Y), iV (w64 (2 * ((rd l1 x158).Y))), iV (w64 ((w64 (2 * ((rd l1 x158).Y))) + 1)), iV (w64 (((rd l1 x158).Light) * (w64 ((w64 (2 * ((rd l1 x158).Y))) + 1)))), iV (w64 (sy157 + (w64 (((rd l1 x158).Light) * (w64 ((w64 (2 * ((rd l1 x158).Y))) + 1)))))), iV (w64 (x158 + 1))]), L152, HS277, h, kr⟩
 · have c165 : ¬ (x158 < (l1.length : Int)) := c165
   refine wpRwI 14 kr (decide_eq_false c165) ?_
   refine condF kr ?_
   refine wp_exit ?_
   refine hx30 _ _ ?_
   exact J269 f151 sx156 sy157 x159 (jL [(j155 0), iV x158, fV, (j155 2), (j155 3), (j155 4), (j155 5), (j155 6), (j155 7), (j155 8), (j155 9), (j155 10), (j155 11), (j155 12), (j155 13), (j155 14), (j155 15), (j155 16), (j155 17), (j155 18), (j155 19), (j155 20), (j155 21), (j155 22), (j155 23), (j155 24), (j155 25), (j155 26), (j155 27), (j155 28), (j155 29), (j155 30), (j155 31), (j155 32), (j155 33), (j155 34), (j155 35), (j155 36), (j155 37), (j155 38), (j155 39), (j155 40), (j155 41), (j155 42), (j155 43), (j155 44), (j155 45), (j155 46), (j155 47), (j155 48), (j155 49), (j155 50), (j155 51), (j155 52), (j155 53), (j155 54), (j155 55), (j155 56)]) W153 _ L152 h HS154 kr

set_option maxRecDepth 100000 in
set_option maxHeartbeats 4000000 in
theorem spykeep3_spreads.calls (k : Nat)   {t w : World} {f : FM} {H : List Seg} (HS : St t w f (H)) (rr1 : Bool) (h : spykeep3_spreads k = some rr1) :
    Calls Try.prog 9 #[] w (fun e w' => ∃ (g : FM), e = .returned (Value.bool rr1) ∧ FM.le f g ∧ St t w' g (H)) := by
 unfold spykeep3_spreads at h
 refine enter Try.func9 rfl (tm := #[uV, uV, uV, uV, uV, uV, uV, uV, uV, uV, uV, uV, uV, uV, uV, uV, uV, uV, uV, uV, uV, uV]) kr ?_
 intro B hret hnor hnp
 refine wp_seq_k fun K1 hK2 => rl ?_
 refine seqL1 kr ?_
 refine nl (hK2 _ _ ?_)
 refine wp_seq_k fun K3 hK4 => rl ?_
 have hq_ := bind_some h; clear h; obtain ⟨⟨vt5, vt6⟩, hc7, h⟩ := hq_
 refine seqL1 kr ?_
 refine seqK rfl (does_call (f := 21) (args := #[.agg #[.int .i64 128, .int .i64 128], .int .i64 1, .int .i64 1]) kr (optics_Point.calls k (⟨128, 128⟩ : S_Point) 1 1 HS vt5 vt6 hc7) ?_)
 rintro _ W10 ⟨f8, A12, c13, s14, rfl, L9, HS11, HO15⟩
 refine ⟨_, rfl, ?_⟩
 refine seqL5 kr ?_
 refine nl (hK4 _ _ ?_)
 refine wp_seq_k fun K17 hK18 => rl ?_
 refine seqL3 kr ?_
 have hq_ := ite_some h; clear h; rcases hq_ with ⟨c19, h⟩ | ⟨c19, h⟩
 · have c19 : vt6 = 0 := c19
   refine seqRwI 9 kr (beq_iff_eq.mpr c19) ?_
   refine seqRwI 10 kr (beq_iff_eq.mpr c19) ?_
   refine seqL5 kr ?_
   have hq_ := ite_some h; clear h; rcases hq_ with ⟨c20, h⟩ | ⟨c20, h⟩
   · have c20 : (vt5.length : Int) = 9 := c20
     refine seqRwI 13 kr (beq_iff_eq.mpr c20) ?_
     refine seqRwI 14 kr (beq_iff_eq.mpr c20) ?_
     refine seqRwI 15 kr (beq_iff_eq.mpr c20) ?_
     have hq_ := guard_some h; clear h; obtain ⟨c21, h⟩ := hq_
     have c21 : 4 < (vt5.length : Int) := c21
     obtain ⟨b25, of26, cs22, hA27, hr23, hc24⟩ := HO15.at (i := 4) (by decide) c21
     obtain rfl := hr23
     refine seqL1 kr ?_
     refine seqG kr (does_run (run_indexE hA27 (sz := 3) rfl Try.underlying33 kr (kv (.slice A12 vt5.length c13)) (kv (.int .i64 4)) (by decide) c21 W10) ?_)
     refine seqG kr (does_run (run_loadN (n := 3) rfl Try.underlying42 rfl kr (kv (.pointer (some ⟨b25, of26 + (4 : Int).toNat * 3, none⟩))) (cs := [.int .i64 ((rd vt5 4).X), .int .i64 ((rd vt5 4).Y), .int .i64 ((rd vt5 4).Light)]) rfl (fun j_ hj_ => ((hc24 HS11) j_ hj_))) ?_)
     refine seqL1 kr ?_
     refine seqG kr (does_run (run_eqS (b := ((((rd vt5 4).X) == 0) && ((((rd vt5 4).Y) == 0) && ((((rd vt5 4).Light) == 9437184) && true)))) rfl (kv (.agg #[.int .i64 ((rd vt5 4).X), .int .i64 ((rd vt5 4).Y), .int .i64 ((rd vt5 4).Light)])) (kv (.agg #[.int .i64 0, .int .i64 0, .int .i64 9437184])) kr kr W10) ?_)
     refine seqL2 kr ?_
     refine nl (hK18 _ _ ?_)
     refine wp_ret ?_
     refine hret _ _ ?_
     refine ends_still (v := Value.bool ((((rd vt5 4).X) == 0) && ((((rd vt5 4).Y) == 0) && ((((rd vt5 4).Light) == 9437184) && true)))) kr kr ?_
     have HS28 := HS11.drop
     injection h with h
     subst h
     exact ⟨f8, rfl, L9, HS28⟩
   · have c20 : ¬ ((vt5.length : Int) = 9) := c20
     refine seqRwI 13 kr (beq_eq_false_iff_ne.mpr c20) ?_
     refine seqRwI 14 kr (beq_eq_false_iff_ne.mpr c20) ?_
     refine seqRwI 15 kr (beq_eq_false_iff_ne.mpr c20) ?_
     refine seqL7 kr ?_
     refine nl (hK18 _ _ ?_)
     refine wp_ret ?_
     refine hret _ _ ?_
     refine ends_still (v := Value.bool false) kr kr ?_
     have HS29 := HS11.drop
     injection h with h
     subst h
     exact ⟨f8, rfl, L9, HS29⟩
 · have c19 : ¬ (vt6 = 0) := c19
   refine seqRwI 9 kr (beq_eq_false_iff_ne.mpr c19) ?_
   refine seqRwI 10 kr (beq_eq_false_iff_ne.mpr c19) ?_
   refine seqL12 kr ?_
   refine nl (hK18 _ _ ?_)
   refine wp_ret ?_
   refine hret _ _ ?_
   refine ends_still (v := Value.bool false) kr kr ?_
   have HS30 := HS11.drop
   injection h with h
   subst h
   exact ⟨f8, rfl, L9, HS30⟩

set_option maxRecDepth 100000 in
set_option maxHeartbeats 4000000 in
theorem frac_rounded__num_FloorDiv.calls (k : Nat)  (x1 : S_Frac) {t w : World} {f : FM} {H : List Seg} (HS : St t w f (H)) (rr1 : Int) (h : frac_rounded__num_FloorDiv k x1 = some rr1) :
    Calls Try.prog 28 #[.agg #[.int .i64 x1.Num, .int .i64 x1.Den], .func (.func 29) #[] #[]] w (fun e w' => ∃ (g : FM), e = .returned (Value.int .i64 rr1) ∧ FM.le f g ∧ St t w' g (H)) := by
 unfold frac_rounded__num_FloorDiv at h
 refine enter Try.func28 rfl (tm := #[.agg #[iV x1.Num, iV x1.Den], .func (.func 29) #[] #[], uV, uV, uV, uV, uV, uV, uV, uV, uV, uV, uV, uV]) kr ?_
 intro B hret hnor hnp
 refine wp_seq_k fun K2 hK3 => rl ?_
 refine seqK rfl (does_box (cs := #[.int .i64 x1.Num, .int .i64 x1.Den]) rfl (kv (.agg #[.int .i64 x1.Num, .int .i64 x1.Den])) rfl HS ?_)
 intro b4 W5 HS6
 refine seqL1 kr ?_
 refine nl (hK3 _ _ ?_)
 refine wp_seq_k (fun K8 hK9 => ?_)
 refine wp_seq_k fun K10 hK11 => rl ?_
 refine seqK rfl (does_run (run_loadN (n := 2) rfl Try.underlying47 rfl kr (kv (.pointer (some ⟨b4, 0, none⟩))) (cs := [.int .i64 x1.Num, .int .i64 x1.Den]) rfl (HS6.cells 0 2 _ rfl)) ?_)
 have hq_ := bind_some h; clear h; obtain ⟨vt12, hc13, h⟩ := hq_
 refine seqK rfl (does_call (f := 42) (args := #[.agg #[.int .i64 x1.Num, .int .i64 x1.Den]]) kr (frac_Check.calls k x1 HS6 vt12 hc13) ?_)
 rintro _ W16 ⟨f14, rfl, L15, HS17⟩
 refine ⟨_, rfl, ?_⟩
 refine seqL1 kr ?_
 refine nl (hK11 _ _ ?_)
 have hq_ := ite_some h; clear h; rcases hq_ with ⟨c19, h⟩ | ⟨c19, h⟩
 · have c19 : vt12 ≠ 0 := c19
   refine wpRwI 7 kr (bne_iff_ne.mpr c19) ?_
   refine condT kr ?_
   refine wp_seq_k fun K20 hK21 => rl ?_
   refine seqL1 kr ?_
   refine nl (hK21 _ _ ?_)
   refine wp_ret ?_
   refine hret _ _ ?_
   refine ends_still (v := Value.int .i64 0) kr kr ?_
   have HS30 := HS17.drop
   injection h with h
   subst h
   exact ⟨f14, rfl, L15, HS30⟩
 · have c19 : ¬ (vt12 ≠ 0) := c19
   refine wpRwI 7 (x := (vt12 != 0)) (v := false) kr (bne_eq_false_iff_eq.mpr (Decidable.of_not_not c19)) ?_
   refine condF kr ?_
   refine wp_skip ?_
   refine hK9 _ _ ?_
   refine wp_seq_k fun K22 hK23 => rl ?_
   refine seqL2 kr ?_
   refine seqK rfl (does_run (run_load rfl Try.underlying2 rfl (kv (.pointer (some ⟨b4, 0, none⟩))) (HS17.cell 0)) ?_)
   refine seqL1 kr ?_
   refine seqK rfl (does_run (run_load rfl Try.underlying2 rfl (kv (.pointer (some ⟨b4, 1, none⟩))) (HS17.cell 1)) ?_)
   have hq_ := bind_some h; clear h; obtain ⟨vt24, hc25, h⟩ := hq_
   refine seqK rfl (does_call (f := 29) (args := #[.int .i64 x1.Num, .int .i64 x1.Den]) kr (num_FloorDiv.calls k x1.Num x1.Den HS17 vt24 hc25) ?_)
   rintro _ W28 ⟨f26, rfl, L27, HS29⟩
   refine ⟨_, rfl, ?_⟩
   refine seqL1 kr ?_
   refine nl (hK23 _ _ ?_)
   refine wp_ret ?_
   refine hret _ _ ?_
   refine ends_still (v := Value.int .i64 vt24) kr kr ?_
   have HS31 := HS29.drop
   injection h with h
   subst h
   exact ⟨f26, rfl, (L15.trans L27), HS31⟩

set_option maxRecDepth 100000 in
set_option maxHeartbeats 4000000 in
theorem frac_Floor.calls (k : Nat)  (x1 : S_Frac) {t w : World} {f : FM} {H : List Seg} (HS : St t w f (H)) (rr1 : Int) (h : frac_Floor k x1 = some rr1) :
    Calls Try.prog 16 #[.agg #[.int .i64 x1.Num, .int .i64 x1.Den]] w (fun e w' => ∃ (g : FM), e = .returned (Value.int .i64 rr1) ∧ FM.le f g ∧ St t w' g (H)) := by
 unfold frac_Floor at h
 refine enter Try.func16 rfl (tm := #[.agg #[iV x1.Num, iV x1.Den], uV, uV, uV, uV]) kr ?_
 intro B hret hnor hnp
 refine wp_seq_k fun K2 hK3 => rl ?_
 refine seqK rfl (does_box (cs := #[.int .i64 x1.Num, .int .i64 x1.Den]) rfl (kv (.agg #[.int .i64 x1.Num, .int .i64 x1.Den])) rfl HS ?_)
 intro b4 W5 HS6
 refine seqL1 kr ?_
 refine nl (hK3 _ _ ?_)
 refine wp_seq_k fun K8 hK9 => rl ?_
 refine seqK rfl (does_run (run_loadN (n := 2) rfl Try.underlying47 rfl kr (kv (.pointer (some ⟨b4, 0, none⟩))) (cs := [.int .i64 x1.Num, .int .i64 x1.Den]) rfl (HS6.cells 0 2 _ rfl)) ?_)
 have hq_ := bind_some h; clear h; obtain ⟨vt10, hc11, h⟩ := hq_
 refine seqK rfl (does_call (f := 28) (args := #[.agg #[.int .i64 x1.Num, .int .i64 x1.Den], .func (.func 29) #[] #[]]) kr (frac_rounded__num_FloorDiv.calls k x1 HS6 vt10 hc11) ?_)
 rintro _ W14 ⟨f12, rfl, L13, HS15⟩
 refine ⟨_, rfl, ?_⟩
 refine seqL1 kr ?_
 refine nl (hK9 _ _ ?_)
 refine wp_ret ?_
 refine hret _ _ ?_
 refine ends_still (v := Value.int .i64 vt10) kr kr ?_
 have HS16 := HS15.drop
 injection h with h
 subst h
 exact ⟨f12, rfl, L13, HS16⟩

set_option maxRecDepth 100000 in
set_option maxHeartbeats 4000000 in
theorem num_CeilDiv.calls (k : Nat)  (a1 : Int) (b2 : Int) {t w : World} {f : FM} {H : List Seg} (HS : St t w f (H)) (rr1 : Int) (h : num_CeilDiv k a1 b2 = some rr1) :
    Calls Try.prog 30 #[.int .i64 a1, .int .i64 b2] w (fun e w' => ∃ (g : FM), e = .returned (Value.int .i64 rr1) ∧ FM.le f g ∧ St t w' g (H)) := by
 unfold num_CeilDiv at h
 refine enter Try.func30 rfl (tm := #[iV a1, iV b2, uV, uV, uV, uV, uV, uV, uV, uV, uV, uV, uV, uV, uV, uV, uV, uV]) kr ?_
 intro B hret hnor hnp
 refine wp_seq_k fun K3 hK4 => rl ?_
 refine seqL1 kr ?_
 refine nl (hK4 _ _ ?_)
 refine wp_seq_k (fun K5 hK6 => ?_)
 refine wp_seq_k fun K7 hK8 => rl ?_
 refine seqL2 kr ?_
 refine nl (hK8 _ _ ?_)
 have hq_ := ite_some h; clear h; rcases hq_ with ⟨c10, h⟩ | ⟨c10, h⟩
 · have c10 : b2 < 1 := c10
   refine wpRwI 7 kr (decide_eq_true c10) ?_
   refine condT kr ?_
   refine wp_seq_k fun K11 hK12 => rl ?_
   refine seqL1 kr ?_
   refine nl (hK12 _ _ ?_)
   refine wp_ret ?_
   refine hret _ _ ?_
   refine ends_still (v := Value.int .i64 0) kr kr ?_
   injection h with h
   subst h
   exact ⟨f, rfl, FM.le.refl _, HS⟩
 · have c10 : ¬ (b2 < 1) := c10
   refine wpRwI 7 kr (decide_eq_false c10) ?_
   refine condF kr ?_
   refine wp_skip ?_
   refine hK6 _ _ ?_
   refine wp_seq_k fun K13 hK14 => rl ?_
   have hq_ := guard_some h; clear h; obtain ⟨c15, h⟩ := hq_
   have c15 : ¬ (b2 = 0) := c15
   refine seqL2 kr ?_
   refine seqK rfl (does_run (run_div rfl (kv (.int .i64 a1)) (kv (.int .i64 b2)) c15 w) ?_)
   refine seqL1 kr ?_
   refine nl (hK14 _ _ ?_)
   refine wp_seq_k (fun K16 hK17 => ?_)
   refine wp_seq_k fun K18 hK19 => rl ?_
   refine seqL2 kr ?_
   refine seqK rfl (does_run (run_rem rfl (kv (.int .i64 a1)) (kv (.int .i64 b2)) c15 w) ?_)
   refine seqL1 kr ?_
   refine nl (hK19 _ _ ?_)
   have hq_ := ite_some h; clear h; rcases hq_ with ⟨c21, h⟩ | ⟨c21, h⟩
   · have c21 : (Int.tmod a1 b2) > 0 := c21
     refine wpRwI 14 kr (decide_eq_true c21) ?_
     refine condT kr ?_
     refine rl ?_
     refine seqL3 kr ?_
     refine nl (hK17 _ _ ?_)
     refine wp_seq_k fun K22 hK23 => rl ?_
     refine seqL2 kr ?_
     refine nl (hK23 _ _ ?_)
     refine wp_ret ?_
     refine hret _ _ ?_
     refine ends_still (v := Value.int .i64 (w64 ((w64 (Int.tdiv a1 b2)) + 1))) kr kr ?_
     injection h with h
     subst h
     exact ⟨f, rfl, FM.le.refl _, HS⟩
   · have c21 : ¬ ((Int.tmod a1 b2) > 0) := c21
     refine wpRwI 14 kr (decide_eq_false c21) ?_
     refine condF kr ?_
     refine wp_skip ?_
     refine hK17 _ _ ?_
     refine wp_seq_k fun K24 hK25 => rl ?_
     refine seqL2 kr ?_
     refine nl (hK25 _ _ ?_)
     refine wp_ret ?_
     refine hret _ _ ?_
     refine ends_still (v := Value.int .i64 (w64 (Int.tdiv a1 b2))) kr kr ?_
     injection h with h
     subst h
     exact ⟨f, rfl, FM.le.refl _, HS⟩

set_option maxRecDepth 100000 in
set_option maxHeartbeats 4000000 in
theorem frac_rounded__num_CeilDiv.calls (k : Nat)  (x1 : S_Frac) {t w : World} {f : FM} {H : List Seg} (HS : St t w f (H)) (rr1 : Int) (h : frac_rounded__num_CeilDiv k x1 = some rr1) :
    Calls Try.prog 28 #[.agg #[.int .i64 x1.Num, .int .i64 x1.Den], .func (.func 30) #[] #[]] w (fun e w' => ∃ (g : FM), e = .returned (Value.int .i64 rr1) ∧ FM.le f g ∧ St t w' g (H)) := by
 unfold frac_rounded__num_CeilDiv at h
 refine enter Try.func28 rfl (tm := #[.agg #[iV x1.Num, iV x1.Den], .func (.func 30) #[] #[], uV, uV, uV, uV, uV, uV, uV, uV, uV, uV, uV, uV]) kr ?_
 intro B hret hnor hnp
 refine wp_seq_k fun K2 hK3 => rl ?_
 refine seqK rfl (does_box (cs := #[.int .i64 x1.Num, .int .i64 x1.Den]) rfl (kv (.agg #[.int .i64 x1.Num, .int .i64 x1.Den])) rfl HS ?_)
 intro b4 W5 HS6
 refine seqL1 kr ?_
 refine nl (hK3 _ _ ?_)
 refine wp_seq_k (fun K8 hK9 => ?_)
 refine wp_seq_k fun K10 hK11 => rl ?_
 refine seqK rfl (does_run (run_loadN (n := 2) rfl Try.underlying47 rfl kr (kv (.pointer (some ⟨b4, 0, none⟩))) (cs := [.int .i64 x1.Num, .int .i64 x1.Den]) rfl (HS6.cells 0 2 _ rfl)) ?_)
 have hq_ := bind_some h; clear h; obtain ⟨vt12, hc13, h⟩ := hq_
 refine seqK rfl (does_call (f := 42) (args := #[.agg #[.int .i64 x1.Num, .int .i64 x1.Den]]) kr (frac_Check.calls k x1 HS6 vt12 hc13) ?_)
 rintro _ W16 ⟨f14, rfl, L15, HS17⟩
 refine ⟨_, rfl, ?_⟩
 refine seqL1 kr ?_
 refine nl (hK11 _ _ ?_)
 have hq_ := ite_some h; clear h; rcases hq_ with ⟨c19, h⟩ | ⟨c19, h⟩
 · have c19 : vt12 ≠ 0 := c19
   refine wpRwI 7 kr (bne_iff_ne.mpr c19) ?_
   refine condT kr ?_
   refine wp_seq_k fun K20 hK21 => rl ?_
   refine seqL1 kr ?_
   refine nl (hK21 _ _ ?_)
   refine wp_ret ?_
   refine hret _ _ ?_
   refine ends_still (v := Value.int .i64 0) kr kr ?_
   have HS30 := HS17.drop
   injection h with h
   subst h
   exact ⟨f14, rfl, L15, HS30⟩
 · have c19 : ¬ (vt12 ≠ 0) := c19
   refine wpRwI 7 (x := (vt12 != 0)) (v := false) kr (bne_eq_false_iff_eq.mpr (Decidable.of_not_not c19)) ?_
   refine condF kr ?_
   refine wp_skip ?_
   refine hK9 _ _ ?_
   refine wp_seq_k fun K22 hK23 => rl ?_
   refine seqL2 kr ?_
   refine seqK rfl (does_run (run_load rfl Try.underlying2 rfl (kv (.pointer (some ⟨b4, 0, none⟩))) (HS17.cell 0)) ?_)
   refine seqL1 kr ?_
   refine seqK rfl (does_run (run_load rfl Try.underlying2 rfl (kv (.pointer (some ⟨b4, 1, none⟩))) (HS17.cell 1)) ?_)
   have hq_ := bind_some h; clear h; obtain ⟨vt24, hc25, h⟩ := hq_
   refine seqK rfl (does_call (f := 30) (args := #[.int .i64 x1.Num, .int .i64 x1.Den]) kr (num_CeilDiv.calls k x1.Num x1.Den HS17 vt24 hc25) ?_)
   rintro _ W28 ⟨f26, rfl, L27, HS29⟩
   refine ⟨_, rfl, ?_⟩
   refine seqL1 kr ?_
   refine nl (hK23 _ _ ?_)
   refine wp_ret ?_
   refine hret _ _ ?_
   refine ends_still (v := Value.int .i64 vt24) kr kr ?_
   have HS31 := HS29.drop
   injection h with h
   subst h
   exact ⟨f26, rfl, (L15.trans L27), HS31⟩

set_option maxRecDepth 100000 in
set_option maxHeartbeats 4000000 in
theorem frac_Ceil.calls (k : Nat)  (x1 : S_Frac) {t w : World} {f : FM} {H : List Seg} (HS : St t w f (H)) (rr1 : Int) (h : frac_Ceil k x1 = some rr1) :
    Calls Try.prog 17 #[.agg #[.int .i64 x1.Num, .int .i64 x1.Den]] w (fun e w' => ∃ (g : FM), e = .returned (Value.int .i64 rr1) ∧ FM.le f g ∧ St t w' g (H)) := by
 unfold frac_Ceil at h
 refine enter Try.func17 rfl (tm := #[.agg #[iV x1.Num, iV x1.Den], uV, uV, uV, uV]) kr ?_
 intro B hret hnor hnp
 refine wp_seq_k fun K2 hK3 => rl ?_
 refine seqK rfl (does_box (cs := #[.int .i64 x1.Num, .int .i64 x1.Den]) rfl (kv (.agg #[.int .i64 x1.Num, .int .i64 x1.Den])) rfl HS ?_)
 intro b4 W5 HS6
 refine seqL1 kr ?_
 refine nl (hK3 _ _ ?_)
 refine wp_seq_k fun K8 hK9 => rl ?_
 refine seqK rfl (does_run (run_loadN (n := 2) rfl Try.underlying47 rfl kr (kv (.pointer (some ⟨b4, 0, none⟩))) (cs := [.int .i64 x1.Num, .int .i64 x1.Den]) rfl (HS6.cells 0 2 _ rfl)) ?_)
 have hq_ := bind_some h; clear h; obtain ⟨vt10, hc11, h⟩ := hq_
 refine seqK rfl (does_call (f := 28) (args := #[.agg #[.int .i64 x1.Num, .int .i64 x1.Den], .func (.func 30) #[] #[]]) kr (frac_rounded__num_CeilDiv.calls k x1 HS6 vt10 hc11) ?_)
 rintro _ W14 ⟨f12, rfl, L13, HS15⟩
 refine ⟨_, rfl, ?_⟩
 refine seqL1 kr ?_
 refine nl (hK9 _ _ ?_)
 refine wp_ret ?_
 refine hret _ _ ?_
 refine ends_still (v := Value.int .i64 vt10) kr kr ?_
 have HS16 := HS15.drop
 injection h with h
 subst h
 exact ⟨f12, rfl, L13, HS16⟩

set_option maxRecDepth 100000 in
set_option maxHeartbeats 4000000 in
theorem spykeep3_OpticsTrailsCentre_1.calls (k : Nat) (b1 : Nat) (A4 : Option Addr) (c5 : Nat) (v3 : List Int) (c7 : S_Frac) (vat8 : Int) (d9 : Int) {t w : World} {f : FM} {H : List Seg} (HS : St t w f ([(b1, .cells #[.slice A4 v3.length c5] 29 (0, 0))] :: H)) (HR6 : SlR (tInt .i64) f A4 c5 v3) (rr1 : Bool) (h : spykeep3_OpticsTrailsCentre_1 k v3 c7 vat8 d9 = some rr1) :
    Calls Try.prog 15 #[.agg #[.int .i64 c7.Num, .int .i64 c7.Den], .int .i64 vat8, .int .i64 d9, .pointer (some ⟨b1, 0, none⟩)] w (fun e w' => ∃ (g : FM), e = .returned (Value.bool rr1) ∧ FM.le f g ∧ St t w' g ([(b1, .cells #[.slice A4 v3.length c5] 29 (0, 0))] :: H)) := by
 unfold spykeep3_OpticsTrailsCentre_1 at h
 refine enter Try.func15 rfl (tm := #[.agg #[iV c7.Num, iV c7.Den], iV vat8, iV d9, pV b1 0, uV, uV, uV, uV, uV, uV, uV, uV, uV, uV, uV, uV, uV, uV, uV, uV, uV, uV, uV, uV, uV, uV, uV, uV, uV, uV, uV, uV]) kr ?_
 intro B hret hnor hnp
 refine wp_seq_k fun K10 hK11 => rl ?_
 refine seqK rfl (does_box (cs := #[.int .i64 c7.Num, .int .i64 c7.Den]) rfl (kv (.agg #[.int .i64 c7.Num, .int .i64 c7.Den])) rfl HS ?_)
 intro b12 W13 HS14
 refine seqL1 kr ?_
 refine nl (hK11 _ _ ?_)
 refine wp_seq_k fun K16 hK17 => rl ?_
 refine seqL1 kr ?_
 refine seqK rfl (does_run (run_load rfl Try.underlying29 rfl (kv (.pointer (some ⟨b1, 0, none⟩))) (HS14.u1.cell 0)) ?_)
 refine seqL4 kr ?_
 refine nl (hK17 _ _ ?_)
 refine wp_seq_k fun K18 hK19 => rl ?_
 refine seqK rfl (does_run (run_loadN (n := 2) rfl Try.underlying47 rfl kr (kv (.pointer (some ⟨b12, 0, none⟩))) (cs := [.int .i64 c7.Num, .int .i64 c7.Den]) rfl (HS14.cells 0 2 _ rfl)) ?_)
 have hq_ := bind_some h; clear h; obtain ⟨vt20, hc21, h⟩ := hq_
 refine seqK rfl (does_call (f := 16) (args := #[.agg #[.int .i64 c7.Num, .int .i64 c7.Den]]) kr (frac_Floor.calls k c7 HS14 vt20 hc21) ?_)
 rintro _ W24 ⟨f22, rfl, L23, HS25⟩
 refine ⟨_, rfl, ?_⟩
 refine seqL7 kr ?_
 have hq_ := ite_some h; clear h; rcases hq_ with ⟨c26, h⟩ | ⟨c26, h⟩
 · have c26 : vt20 ≥ (w64 ((w64 (vat8 - 7)) + (mn 0 (w64 (d9 * (w64 ((v3.length : Int) - 1))))))) := c26
   refine seqRwI 21 kr (decide_eq_true c26) ?_
   refine seqRwI 22 kr (decide_eq_true c26) ?_
   refine seqG kr (does_run (run_loadN (n := 2) rfl Try.underlying47 rfl kr (kv (.pointer (some ⟨b12, 0, none⟩))) (cs := [.int .i64 c7.Num, .int .i64 c7.Den]) rfl (HS25.cells 0 2 _ rfl)) ?_)
   have hq_ := bind_some h; clear h; obtain ⟨vt27, hc28, h⟩ := hq_
   refine seqG kr (does_call (f := 17) (args := #[.agg #[.int .i64 c7.Num, .int .i64 c7.Den]]) kr (frac_Ceil.calls k c7 HS25 vt27 hc28) ?_)
   rintro _ W31 ⟨f29, rfl, L30, HS32⟩
   refine ⟨_, rfl, ?_⟩
   refine seqL8 kr ?_
   refine nl (hK19 _ _ ?_)
   refine wp_ret ?_
   refine hret _ _ ?_
   refine ends_still (v := Value.bool (decide (vt27 ≤ (w64 ((w64 (vat8 + 8)) + (mx 0 (w64 (d9 * (w64 ((v3.length : Int) - 1)))))))))) kr kr ?_
   have HS33 := HS32.drop
   injection h with h
   subst h
   exact ⟨f29, rfl, (L23.trans L30), HS33⟩
 · have c26 : ¬ (vt20 ≥ (w64 ((w64 (vat8 - 7)) + (mn 0 (w64 (d9 * (w64 ((v3.length : Int) - 1)))))))) := c26
   refine seqRwI 21 kr (decide_eq_false c26) ?_
   refine seqRwI 22 kr (decide_eq_false c26) ?_
   refine seqL10 kr ?_
   refine nl (hK19 _ _ ?_)
   refine wp_ret ?_
   refine hret _ _ ?_
   refine ends_still (v := Value.bool false) kr kr ?_
   have HS34 := HS25.drop
   injection h with h
   subst h
   exact ⟨f22, rfl, L23, HS34⟩

set_option maxRecDepth 100000 in
set_option maxHeartbeats 4000000 in
theorem spykeep3_OpticsTrailsCentre.calls (k : Nat) (A5 : Option Addr) (c6 : Nat) (p1 : S_Point) (dx2 : Int) (dy3 : Int) (l4 : List Int) (n8 : Int) {t w : World} {f : FM} {H : List Seg} (HS : St t w f (H)) (HR7 : SlR (tInt .i64) f A5 c6 l4) (rr1 : Bool) (h : spykeep3_OpticsTrailsCentre k p1 dx2 dy3 l4 n8 = some rr1) :
    Calls Try.prog 4 #[.agg #[.int .i64 p1.X, .int .i64 p1.Y], .int .i64 dx2, .int .i64 dy3, .slice A5 l4.length c6, .int .i64 n8] w (fun e w' => ∃ (g : FM), e = .returned (Value.bool rr1) ∧ FM.le f g ∧ St t w' g (H)) := by
 unfold spykeep3_OpticsTrailsCentre at h
 refine enter Try.func4 rfl (tm := #[.agg #[iV p1.X, iV p1.Y], iV dx2, iV dy3, .slice A5 l4.length c6, iV n8, uV, uV, uV, uV, uV, uV, uV, uV, uV, uV, uV, uV, uV, uV, uV, uV, uV, uV, uV, uV, uV, uV, uV, uV, uV, uV, uV, uV, uV, uV, uV, uV, uV, uV, uV, uV, uV, uV, uV, uV, uV, uV, uV, uV, uV, uV, uV, uV, uV, uV, uV, uV, uV, uV, uV, uV, uV, uV, uV, uV, uV, uV, uV, uV, uV, uV, uV, uV, uV, uV, uV, uV, uV, uV, uV, uV, uV, uV, uV, uV, uV, uV, uV, uV, uV]) kr ?_
 intro B hret hnor hnp
 refine wp_seq_k fun K9 hK10 => rl ?_
 refine seqK rfl (does_box (cs := #[.int .i64 p1.X, .int .i64 p1.Y]) rfl (kv (.agg #[.int .i64 p1.X, .int .i64 p1.Y])) rfl HS ?_)
 intro b11 W12 HS13
 refine seqL1 kr ?_
 refine nl (hK10 _ _ ?_)
 refine wp_seq_k fun K15 hK16 => rl ?_
 refine seqL2 kr ?_
 refine seqK rfl (does_box (cs := #[.slice A5 l4.length c6, .int .i64 0]) rfl (kv (.agg #[.slice A5 l4.length c6, .int .i64 0])) rfl HS13 ?_)
 intro b17 W18 HS19
 refine seqL1 kr ?_
 refine nl (hK16 _ _ ?_)
 refine wp_seq_k fun K21 hK22 => rl ?_
 refine seqL1 kr ?_
 refine seqK rfl (does_run (run_load rfl Try.underlying22 rfl (kv (.pointer (some ⟨b11, 0, none⟩))) (HS19.u1.cell 0)) ?_)
 refine seqL2 kr ?_
 refine seqK rfl (does_run (run_load rfl Try.underlying22 rfl (kv (.pointer (some ⟨b11, 1, none⟩))) (HS19.u1.cell 1)) ?_)
 have HS23 := HS19.u1
 refine seqL2 kr ?_
 refine seqK rfl (does_storeA (vs := [.int .i64 (Int.tmod p1.X 20000), .int .i64 (Int.tmod p1.Y 20000)]) rfl kr kr kr rfl (ones rfl) HS23 kr ?_)
 intro W24 HS25
 refine nl (hK22 _ _ ?_)
 refine wp_seq_k fun K26 hK27 => rl ?_
 refine seqL6 kr ?_
 refine nl (hK27 _ _ ?_)
 refine wp_seq_k fun K28 hK29 => rl ?_
 have HS30 := HS25.u1
 have hq_ := bind_some h; clear h; obtain ⟨⟨vt31, vt32⟩, hc33, h⟩ := hq_
 refine seqL1 kr ?_
 refine seqK rfl (does_call (f := 13) (args := #[.pointer (some ⟨b17, 0, none⟩), .int .i64 1, .int .i64 5000]) kr (spymake_Stream_Range.calls k b17 A5 c6 (⟨l4, 0⟩ : S_Stream) 1 5000 HS30 HR7 vt31 vt32 hc33) ?_)
 rintro _ W36 ⟨f34, rfl, L35, HS37⟩
 refine ⟨_, rfl, ?_⟩
 refine seqK rfl (does_lit (e := (tInt .i64)) (E := 31) (vs := #[(0, Value.int .i64 vt31)]) (cs := #[.int .i64 vt31]) (xs := ([vt31] : List Int)) rfl Try.underlying29 kr kr ⟨[.int .i64 vt31], _, rfl, rfl, rfl⟩ rfl HS37 ?_ (by decide))
 intro b38 W39 s40 HS41 _ HO42
 refine seqK rfl (does_alloc (z := Value.slice none 0 0) (cs := #[.slice none 0 0]) rfl kr rfl HS41 ?_)
 intro b44 W45 HS46
 refine seqK rfl (does_store (n := 1) (vs := [.slice (some ⟨b38, 0, none⟩) ([vt31] : List Int).length 1]) (cs' := #[.slice (some ⟨b38, 0, none⟩) ([vt31] : List Int).length 1]) rfl kr (kv (.pointer (some ⟨b44, 0, none⟩))) (kv (.slice (some ⟨b38, 0, none⟩) ([vt31] : List Int).length 1)) rfl rfl (ones rfl) HS46 (Nat.le_of_ble_eq_true rfl) kr ?_)
 intro W48 HS49
 refine nl (hK29 _ _ ?_)
 refine wp_seq_k (fun K50 hK51 => ?_)
 refine wp_seq_k fun K52 hK53 => rl ?_
 have HS54 := HS49.u2
 have hq_ := bind_some h; clear h; obtain ⟨⟨vt55, vt56⟩, hc57, h⟩ := hq_
 refine seqL1 kr ?_
 refine seqK rfl (does_call (f := 6) (args := #[.pointer (some ⟨b17, 0, none⟩), .int .i64 16]) kr (spymake_Stream_Next.calls k b17 A5 c6 (⟨l4, vt32⟩ : S_Stream) 16 HS54 (HR7.mono L35) vt55 vt56 hc57) ?_)
 rintro _ W60 ⟨f58, rfl, L59, HS61⟩
 refine ⟨_, rfl, ?_⟩
 refine seqL1 kr ?_
 refine nl (hK53 _ _ ?_)
 refine blockK (fun B62 hx63 hn64 hr65 ho66 hp67 => ?_)
 have hq_ := bind_some h; clear h; obtain ⟨o185, hv258, h⟩ := hq_
 have J259 : ∀ (f247 : FM) (A254 : Option Addr) (c255 : Nat) (s256 : Seg) (x252 : Int) (x253 : List Int) (j251 : Nat → Value) (W249 : World) (a_ : Act), FM.le f58 f247 → some ((x252, x253)) = some o185 → St t W249 f247 ([(b17, .cells #[.slice A5 l4.length c6, .int .i64 x252] 28 (0, 0))] :: [(b44, .cells #[.slice A254 x253.length c255] 29 (0, 0))] :: s256 :: [(b11, .cells #[.int .i64 (Int.tmod p1.X 20000), .int .i64 (Int.tmod p1.Y 20000)] 24 (0, 0))] :: H) → Own (tInt .i64) 31 f247 A254 c255 s256 x253 → a_ = ⟨#[.agg #[iV p1.X, iV p1.Y], iV (Int.tmod dx2 65), iV (Int.tmod dy3 65), .slice A5 l4.length c6, iV n8, pV b11 0, uV, uV, uV, uV, fV, pV b17 0, pV b44 0, uV, uV, uV, uV, uV, uV, .slice A5 l4.length c6, .agg #[.slice A5 l4.length c6, iV 0], pV b17 0, pV b11 0, iV p1.X, iV (Int.tmod p1.X 20000), pV b11 1, iV p1.Y, iV (Int.tmod p1.Y 20000), .agg #[iV (Int.tmod p1.X 20000), iV (Int.tmod p1.Y 20000)], iV dx2, iV (Int.tmod dx2 65), iV dy3, iV (Int.tmod dy3 65), pV b17 0, iV vt31, (j251 0), pV b17 0, iV vt55, (j251 1), (j251 2), (j251 3), (j251 4), (j251 5), (j251 6), (j251 7), (j251 8), uV, uV, uV, uV, uV, uV, uV, uV, uV, uV, uV, uV, uV, uV, uV, uV, uV, uV, uV, uV, uV, uV, uV, uV, uV, uV, uV, uV, uV, uV, uV, uV, uV, uV, uV, uV, uV, uV, uV, uV, uV, uV, uV, uV], []⟩ → K50 a_ W249 := by
  intro f247 A254 c255 s256 x252 x253 j251 W249 a_ L248 hj260 HS250 HO257 hfr_; subst hfr_
  injection hj260 with hj260; subst hj260; try dsimp only at h
  refine hK51 _ _ ?_
  refine wp_seq_k (fun K265 hK266 => ?_)
  refine heldG (S := Sg t f247 ([(b17, .cells #[.slice A5 l4.length c6, .int .i64 x252] 28 (0, 0))] :: [(b44, .cells #[.slice A254 x253.length c255] 29 (0, 0))] :: s256 :: [(b11, .cells #[.int .i64 (Int.tmod p1.X 20000), .int .i64 (Int.tmod p1.Y 20000)] 24 (0, 0))] :: H) []) (n := 15) kr rfl HS250 ?_
  intro W267 HS268
  refine takeGQ 0 [] rfl kr kr kr kr kr kr hnp (Sg.g0 (Sx.of [] fL HS268)) (fun w_ hw_ => by obtain ⟨g_, hl_, hS_⟩ := hw_.st; exact run_loadN (n := 2) rfl Try.underlying24 rfl kr (kv (.pointer (some ⟨b11, 0, none⟩))) (cs := [.int .i64 (Int.tmod p1.X 20000), .int .i64 (Int.tmod p1.Y 20000)]) rfl (hS_.u3.cells 0 2 _ rfl)) ?_
  refine takeGL [1, 2] (n := 14) (fuel := 12) #[true, true, true, false, false, false, false, false, false, false, false, false, false, false, false] rfl kr kr kr hnp (Sg.g0 (Sx.of [] fL HS268)) ?_
  refine takeGQ 3 [] rfl kr kr kr kr kr kr hnp (Sg.g0 (Sx.of [] fL HS268)) (fun w_ hw_ => by obtain ⟨g_, hl_, hS_⟩ := hw_.st; exact run_load rfl Try.underlying29 rfl (kv (.pointer (some ⟨b44, 0, none⟩))) (hS_.u1.cell 0)) ?_
  refine takeGL [4, 6, 7] (n := 11) (fuel := 8) #[true, true, true, true, true, false, true, true, false, false, false, false, false, false, false] rfl kr kr kr hnp (Sg.g0 (Sx.of [] fL HS268)) ?_
  have hq_ := bind_some h; clear h; obtain ⟨vt269, hc270, h⟩ := hq_
  refine takeGE 5 kr rfl kr (does_call (f := 8) (args := #[.int .i64 n8]) kr (spykeep3_half.calls k n8 HS268 vt269 hc270) ?_)
  rintro _ W273 ⟨f271, rfl, L272, HS274⟩
  refine ⟨_, rfl, ?_⟩
  refine ⟨(Sg.g0 (Sx.of [] L272 HS274)), ?_⟩
  have hq_ := bind_some h; clear h; obtain ⟨vt275, hc276, h⟩ := hq_
  refine takeGE 8 kr rfl kr (does_call (f := 8) (args := #[.int .i64 (w64 (Int.tdiv n8 3))]) kr (spykeep3_half.calls k (w64 (Int.tdiv n8 3)) HS274 vt275 hc276) ?_)
  rintro _ W279 ⟨f277, rfl, L278, HS280⟩
  refine ⟨_, rfl, ?_⟩
  refine ⟨(Sg.g0 (Sx.of [] (L272.trans L278) HS280)), ?_⟩
  have HS281 := HS280.u2
  obtain ⟨f282, L283, HS284, HR285, th286⟩ := (HO257.mono (L272.trans L278)).lend HS281
  have hq_ := bind_some h; clear h; obtain ⟨⟨vt287, vt288⟩, hc289, h⟩ := hq_
  refine takeGE 9 kr rfl kr (does_call (f := 7) (args := #[.agg #[.int .i64 (Int.tmod p1.X 20000), .int .i64 (Int.tmod p1.Y 20000)], .int .i64 (Int.tmod dx2 65), .int .i64 (Int.tmod dy3 65), .slice A254 x253.length c255, .int .i64 vt269, .int .i64 vt275]) kr (optics_Trail.calls k A254 c255 (⟨Int.tmod p1.X 20000, Int.tmod p1.Y 20000⟩ : S_Point) (Int.tmod dx2 65) (Int.tmod dy3 65) x253 vt269 vt275 HS284 HR285 vt287 vt288 hc289) ?_)
  rintro _ W292 ⟨f290, A294, c295, s296, rfl, L291, HS293, HO297⟩
  refine ⟨_, rfl, ?_⟩
  obtain ⟨f299, L300, HS301⟩ := th286 L291 HS293
  replace HO297 := HO297.flat (g := f299) (fun _ _ _ _ h_ => h_)
  have HS306 := HS301.u4.u1.u4.u4.u4
  refine ⟨(Sg.g0 (Sx.of [s296] (L272.trans (L278.trans L300)) HS306)), ?_⟩
  refine takeGL [10, 11, 12, 13, 14] (n := 5) (fuel := 0) #[true, true, true, true, true, true, true, true, true, true, true, true, true, true, true] rfl kr kr kr hnp (Sg.g0 (Sx.of [s296] (L272.trans (L278.trans L300)) HS306)) ?_
  refine doneG kr ?_ _
  refine hK266 _ _ ?_
  refine wp_seq_k fun K307 hK308 => rl ?_
  obtain ⟨f309, L310, HS311, HR312, th313⟩ := HO297.lend HS306
  have hq_ := bind_some h; clear h; obtain ⟨⟨vt314, vt315, vt316⟩, hc317, h⟩ := hq_
  refine seqL1 kr ?_
  refine seqK rfl (does_call (f := 14) (args := #[.slice A294 vt287.length c295]) kr (optics_Centre.calls k A294 c295 vt287 HS311 HR312 vt314 vt315 vt316 hc317) ?_)
  rintro _ W320 ⟨f318, rfl, L319, HS321⟩
  refine ⟨_, rfl, ?_⟩
  obtain ⟨f322, L323, HS324⟩ := th313 L319 HS321
  refine seqL4 kr ?_
  refine seqK rfl (does_alloc (z := Value.agg #[.int .i64 0, .int .i64 0]) (cs := #[.int .i64 0, .int .i64 0]) rfl kr rfl HS324 ?_)
  intro b325 W326 HS327
  refine seqK rfl (does_alloc (z := Value.agg #[.int .i64 0, .int .i64 0]) (cs := #[.int .i64 0, .int .i64 0]) rfl kr rfl HS327 ?_)
  intro b329 W330 HS331
  have HS333 := HS331.u1
  refine seqK rfl (does_storeA (vs := [.int .i64 vt314.Num, .int .i64 vt314.Den]) rfl kr kr kr rfl (ones rfl) HS333 kr ?_)
  intro W334 HS335
  have HS336 := HS335.u1
  refine seqK rfl (does_storeA (vs := [.int .i64 vt315.Num, .int .i64 vt315.Den]) rfl kr kr kr rfl (ones rfl) HS336 kr ?_)
  intro W337 HS338
  refine seqL1 kr ?_
  refine nl (hK308 _ _ ?_)
  refine wp_seq_k (fun K339 hK340 => ?_)
  refine wp_seq_k fun K341 hK342 => rl ?_
  have hq_ := bind_some h; clear h; obtain ⟨vt343, hc344, h⟩ := hq_
  refine seqK rfl (does_call (f := 9) (args := #[]) kr (spykeep3_spreads.calls k  HS338 vt343 hc344) ?_)
  rintro _ W347 ⟨f345, rfl, L346, HS348⟩
  refine ⟨_, rfl, ?_⟩
  refine seqL2 kr ?_
  have hq_ := ite_some h; clear h; rcases hq_ with ⟨c349, h⟩ | ⟨c349, h⟩
  · have c349 : ¬ (vt343 = true) := c349
    refine seqRwI 66 kr (congrArg (fun b_ => !b_) (show vt343 = false from (Bool.eq_false_iff.mpr c349)) : (!vt343) = true) ?_
    refine seqRwI 67 kr (congrArg (fun b_ => !b_) (show vt343 = false from (Bool.eq_false_iff.mpr c349)) : (!vt343) = true) ?_
    refine seqL7 kr ?_
    refine nl (hK342 _ _ ?_)
    refine condT kr ?_
    refine wp_seq_k fun K350 hK351 => rl ?_
    refine seqL1 kr ?_
    refine nl (hK351 _ _ ?_)
    refine wp_ret ?_
    refine hret _ _ ?_
    refine ends_still (v := Value.bool false) kr kr ?_
    have HS394 := HS348.drop
    have HS395 := HS394.drop
    have HS396 := HS395.drop
    have HS397 := HS396.drop
    have HS398 := HS397.drop
    have HS399 := HS398.drop
    have HS400 := HS399.drop
    injection h with h
    subst h
    exact ⟨f345, rfl, (L35.trans (L59.trans (L248.trans (L272.trans (L278.trans (L300.trans (L323.trans L346))))))), HS400⟩
  · have c349 : ¬ (¬ (vt343 = true)) := c349
    refine seqRwI 66 (x := (!vt343)) (v := false) kr (congrArg (fun b_ => !b_) (show vt343 = true from (Decidable.of_not_not c349)) : (!vt343) = false) ?_
    refine seqRwI 67 (x := (!vt343)) (v := false) kr (congrArg (fun b_ => !b_) (show vt343 = true from (Decidable.of_not_not c349)) : (!vt343) = false) ?_
    refine seqL4 kr ?_
    have hq_ := ite_some h; clear h; rcases hq_ with ⟨c352, h⟩ | ⟨c352, h⟩
    · have c352 : vt288 ≠ 0 := c352
      refine seqRwI 69 kr (bne_iff_ne.mpr c352) ?_
      refine seqRwI 70 kr (bne_iff_ne.mpr c352) ?_
      refine seqRwI 71 kr (bne_iff_ne.mpr c352) ?_
      refine seqL3 kr ?_
      refine nl (hK342 _ _ ?_)
      refine condT kr ?_
      refine wp_seq_k fun K353 hK354 => rl ?_
      refine seqL1 kr ?_
      refine nl (hK354 _ _ ?_)
      refine wp_ret ?_
      refine hret _ _ ?_
      refine ends_still (v := Value.bool false) kr kr ?_
      have HS401 := HS348.drop
      have HS402 := HS401.drop
      have HS403 := HS402.drop
      have HS404 := HS403.drop
      have HS405 := HS404.drop
      have HS406 := HS405.drop
      have HS407 := HS406.drop
      injection h with h
      subst h
      exact ⟨f345, rfl, (L35.trans (L59.trans (L248.trans (L272.trans (L278.trans (L300.trans (L323.trans L346))))))), HS407⟩
    · have c352 : ¬ (vt288 ≠ 0) := c352
      refine seqRwI 69 (x := (vt288 != 0)) (v := false) kr (bne_eq_false_iff_eq.mpr (Decidable.of_not_not c352)) ?_
      refine seqRwI 70 (x := (vt288 != 0)) (v := false) kr (bne_eq_false_iff_eq.mpr (Decidable.of_not_not c352)) ?_
      refine seqRwI 71 (x := (vt288 != 0)) (v := false) kr (bne_eq_false_iff_eq.mpr (Decidable.of_not_not c352)) ?_
      refine seqL3 kr ?_
      refine nl (hK342 _ _ ?_)
      have hq_ := ite_some h; clear h; rcases hq_ with ⟨c356, h⟩ | ⟨c356, h⟩
      · have c356 : vt316 ≠ 0 := c356
        refine wpRwI 73 kr (bne_iff_ne.mpr c356) ?_
        refine wpRwI 74 kr (bne_iff_ne.mpr c356) ?_
        refine condT kr ?_
        refine wp_seq_k fun K357 hK358 => rl ?_
        refine seqL1 kr ?_
        refine nl (hK358 _ _ ?_)
        refine wp_ret ?_
        refine hret _ _ ?_
        refine ends_still (v := Value.bool false) kr kr ?_
        have HS408 := HS348.drop
        have HS409 := HS408.drop
        have HS410 := HS409.drop
        have HS411 := HS410.drop
        have HS412 := HS411.drop
        have HS413 := HS412.drop
        have HS414 := HS413.drop
        injection h with h
        subst h
        exact ⟨f345, rfl, (L35.trans (L59.trans (L248.trans (L272.trans (L278.trans (L300.trans (L323.trans L346))))))), HS414⟩
      · have c356 : ¬ (vt316 ≠ 0) := c356
        refine wpRwI 73 (x := (vt316 != 0)) (v := false) kr (bne_eq_false_iff_eq.mpr (Decidable.of_not_not c356)) ?_
        refine wpRwI 74 (x := (vt316 != 0)) (v := false) kr (bne_eq_false_iff_eq.mpr (Decidable.of_not_not c356)) ?_
        refine condF kr ?_
        refine wp_skip ?_
        refine hK340 _ _ ?_
        refine wp_seq_k fun K359 hK360 => rl ?_
        refine seqL2 kr ?_
        refine nl (hK360 _ _ ?_)
        refine wp_seq_k fun K361 hK362 => rl ?_
        refine seqL1 kr ?_
        refine seqK rfl (does_run (run_loadN (n := 2) rfl Try.underlying47 rfl kr (kv (.pointer (some ⟨b325, 0, none⟩))) (cs := [.int .i64 vt314.Num, .int .i64 vt314.Den]) rfl (HS348.u1.cells 0 2 _ rfl)) ?_)
        refine seqL1 kr ?_
        refine seqK rfl (does_run (run_load rfl Try.underlying22 rfl (kv (.pointer (some ⟨b11, 0, none⟩))) (HS348.u6.cell 0)) ?_)
        have HS363 := HS348.u5
        obtain ⟨f364, L365, HS366, HR367, th368⟩ := (HO257.mono (L272.trans (L278.trans (L300.trans (L323.trans L346))))).lend HS363
        have HS369 := HS366.u4
        have hq_ := bind_some h; clear h; obtain ⟨vt370, hc371, h⟩ := hq_
        refine seqL1 kr ?_
        refine seqK rfl (does_call (f := 15) (args := #[.agg #[.int .i64 vt314.Num, .int .i64 vt314.Den], .int .i64 (Int.tmod p1.X 20000), .int .i64 (Int.tmod dx2 65), .pointer (some ⟨b44, 0, none⟩)]) kr (spykeep3_OpticsTrailsCentre_1.calls k b44 A254 c255 x253 vt314 (Int.tmod p1.X 20000) (Int.tmod dx2 65) HS369 HR367 vt370 hc371) ?_)
        rintro _ W374 ⟨f372, rfl, L373, HS375⟩
        refine ⟨_, rfl, ?_⟩
        obtain ⟨f376, L377, HS378⟩ := th368 L373 HS375
        refine seqL1 kr ?_
        have hq_ := ite_some h; clear h; rcases hq_ with ⟨c379, h⟩ | ⟨c379, h⟩
        · have c379 : vt370 = true := c379
          refine seqRwI 81 kr c379 ?_
          refine seqRwI 82 kr c379 ?_
          refine seqL1 kr ?_
          refine seqG kr (does_run (run_loadN (n := 2) rfl Try.underlying47 rfl kr (kv (.pointer (some ⟨b329, 0, none⟩))) (cs := [.int .i64 vt315.Num, .int .i64 vt315.Den]) rfl (HS378.u2.cells 0 2 _ rfl)) ?_)
          refine seqL1 kr ?_
          refine seqG kr (does_run (run_load rfl Try.underlying22 rfl (kv (.pointer (some ⟨b11, 1, none⟩))) (HS378.u6.cell 1)) ?_)
          obtain ⟨f380, L381, HS382, HR383, th384⟩ := (HO257.mono (L272.trans (L278.trans (L300.trans (L323.trans (L346.trans L377)))))).lend HS378
          have hq_ := bind_some h; clear h; obtain ⟨vt385, hc386, h⟩ := hq_
          refine seqL1 kr ?_
          refine seqG kr (does_call (f := 15) (args := #[.agg #[.int .i64 vt315.Num, .int .i64 vt315.Den], .int .i64 (Int.tmod p1.Y 20000), .int .i64 (Int.tmod dy3 65), .pointer (some ⟨b44, 0, none⟩)]) kr (spykeep3_OpticsTrailsCentre_1.calls k b44 A254 c255 x253 vt315 (Int.tmod p1.Y 20000) (Int.tmod dy3 65) HS382 HR383 vt385 hc386) ?_)
          rintro _ W389 ⟨f387, rfl, L388, HS390⟩
          refine ⟨_, rfl, ?_⟩
          obtain ⟨f391, L392, HS393⟩ := th384 L388 HS390
          refine seqL2 kr ?_
          refine nl (hK362 _ _ ?_)
          refine wp_ret ?_
          refine hret _ _ ?_
          refine ends_still (v := Value.bool vt385) kr kr ?_
          have HS415 := HS393.drop
          have HS416 := HS415.drop
          have HS417 := HS416.drop
          have HS418 := HS417.drop
          have HS419 := HS418.drop
          have HS420 := HS419.drop
          have HS421 := HS420.drop
          injection h with h
          subst h
          exact ⟨f391, rfl, (L35.trans (L59.trans (L248.trans (L272.trans (L278.trans (L300.trans (L323.trans (L346.trans (L377.trans L392))))))))), HS421⟩
        · have c379 : ¬ (vt370 = true) := c379
          refine seqRwI 81 kr (Bool.eq_false_iff.mpr c379) ?_
          refine seqRwI 82 kr (Bool.eq_false_iff.mpr c379) ?_
          refine seqL8 kr ?_
          refine nl (hK362 _ _ ?_)
          refine wp_ret ?_
          refine hret _ _ ?_
          refine ends_still (v := Value.bool false) kr kr ?_
          have HS422 := HS378.drop
          have HS423 := HS422.drop
          have HS424 := HS423.drop
          have HS425 := HS424.drop
          have HS426 := HS425.drop
          have HS427 := HS426.drop
          have HS428 := HS427.drop
          injection h with h
          subst h
          exact ⟨f376, rfl, (L35.trans (L59.trans (L248.trans (L272.trans (L278.trans (L300.trans (L323.trans (L346.trans L377)))))))), HS428⟩
 clear h; have h := hv258; clear hv258
 refine loopK (fun n_ a_ w_ => ∃ (f189 : FM) (A197 : Option Addr) (c198 : Nat) (s199 : Seg) (x194 : Int) (x195 : Int) (x196 : List Int) (j193 : Nat → Value), FM.le f58 f189 ∧ St t w_ f189 ([(b17, .cells #[.slice A5 l4.length c6, .int .i64 x195] 28 (0, 0))] :: [(b44, .cells #[.slice A197 x196.length c198] 29 (0, 0))] :: s199 :: [(b11, .cells #[.int .i64 (Int.tmod p1.X 20000), .int .i64 (Int.tmod p1.Y 20000)] 24 (0, 0))] :: H) ∧ Own (tInt .i64) 31 f189 A197 c198 s199 x196 ∧ spykeep3_OpticsTrailsCentre.l0 k vt55 l4 n_ x194 x195 x196 = some o185 ∧ a_ = ⟨#[.agg #[iV p1.X, iV p1.Y], iV (Int.tmod dx2 65), iV (Int.tmod dy3 65), .slice A5 l4.length c6, iV n8, pV b11 0, uV, uV, uV, uV, fV, pV b17 0, pV b44 0, uV, uV, uV, uV, uV, uV, .slice A5 l4.length c6, .agg #[.slice A5 l4.length c6, iV 0], pV b17 0, pV b11 0, iV p1.X, iV (Int.tmod p1.X 20000), pV b11 1, iV p1.Y, iV (Int.tmod p1.Y 20000), .agg #[iV (Int.tmod p1.X 20000), iV (Int.tmod p1.Y 20000)], iV dx2, iV (Int.tmod dx2 65), iV dy3, iV (Int.tmod dy3 65), pV b17 0, iV vt31, .slice (some ⟨b38, 0, none⟩) ([vt31] : List Int).length 1, pV b17 0, iV vt55, iV x194, (j193 0), (j193 1), (j193 2), (j193 3), (j193 4), (j193 5), (j193 6), uV, uV, uV, uV, uV, uV, uV, uV, uV, uV, uV, uV, uV, uV, uV, uV, uV, uV, uV, uV, uV, uV, uV, uV, uV, uV, uV, uV, uV, uV, uV, uV, uV, uV, uV, uV, uV, uV, uV, uV, uV, uV, uV, uV], []⟩) k ⟨f58, (some ⟨b38, 0, none⟩), 1, s40, 0, vt56, ([vt31] : List Int), (jL []), fL, HS61, (HO42.mono L59), h, kr⟩ ?_
 clear h
 rintro n188 _ W191 ⟨f189, A197, c198, s199, x194, x195, x196, j193, L190, HS192, HO200, h, rfl⟩ K186 hK187
 obtain _ | n188 := n188
 · exact nomatch h
 simp only [spykeep3_OpticsTrailsCentre.l0] at h
 refine wp_seq_k fun K201 hK202 => rl ?_
 refine seqL1 kr ?_
 refine nl (hK202 _ _ ?_)
 refine wp_seq_k (fun K203 hK204 => ?_)
 have hq_ := ite_some h; clear h; rcases hq_ with ⟨c206, h⟩ | ⟨c206, h⟩
 · have c206 : x194 < vt55 := c206
   refine wpRwI 39 kr (decide_eq_true c206) ?_
   refine condT kr ?_
   refine wp_skip ?_
   refine hK204 _ _ ?_
   refine wp_seq_k (fun K207 hK208 => ?_)
   refine blockK (fun B209 hx210 hn211 hr212 ho213 hp214 => ?_)
   have HS219 := HS192.u3.u3.u3.u3
   refine heldG (S := Sg t f189 ([(b11, .cells #[.int .i64 (Int.tmod p1.X 20000), .int .i64 (Int.tmod p1.Y 20000)] 24 (0, 0))] :: H) [(2, [(b17, .cells #[.slice A5 l4.length c6, .int .i64 x195] 28 (0, 0))]), (4, [(b44, .cells #[.slice A197 x196.length c198] 29 (0, 0))]), (4, s199)]) (n := 6) kr rfl HS219 ?_
   intro W220 HS221
   refine takeGQ 0 [4] rfl kr kr kr kr kr kr (fun ch_ a_ w_ q_ => (fun ch_ a_ w_ q_ => hnp ch_ a_ w_ (hp67 ch_ a_ w_ q_)) ch_ a_ w_ (hp214 ch_ a_ w_ q_)) (Sg.g3 (Sx.of [[(b17, .cells #[.slice A5 l4.length c6, .int .i64 x195] 28 (0, 0))], [(b44, .cells #[.slice A197 x196.length c198] 29 (0, 0))], s199] fL HS221) (fun _ => St.only [] HS221 fL) (fun _ => St.only [[(b17, .cells #[.slice A5 l4.length c6, .int .i64 x195] 28 (0, 0))]] HS221 fL) (fun _ => St.only [[(b17, .cells #[.slice A5 l4.length c6, .int .i64 x195] 28 (0, 0))], [(b44, .cells #[.slice A197 x196.length c198] 29 (0, 0))]] HS221 fL)) (fun w_ hw_ => by obtain ⟨g_, hl_, hS_⟩ := hw_.seg (j := 4) (s := [(b44, .cells #[.slice A197 x196.length c198] 29 (0, 0))]) (by simp) (by simp); exact run_load rfl Try.underlying29 rfl (kv (.pointer (some ⟨b44, 0, none⟩))) (hS_.cell 0)) ?_
   refine takeGL [1] (n := 5) (fuel := 4) #[true, true, false, false, false, false] rfl kr kr kr (fun ch_ a_ w_ q_ => (fun ch_ a_ w_ q_ => hnp ch_ a_ w_ (hp67 ch_ a_ w_ q_)) ch_ a_ w_ (hp214 ch_ a_ w_ q_)) (Sg.g3 (Sx.of [[(b17, .cells #[.slice A5 l4.length c6, .int .i64 x195] 28 (0, 0))], [(b44, .cells #[.slice A197 x196.length c198] 29 (0, 0))], s199] fL HS221) (fun _ => St.only [] HS221 fL) (fun _ => St.only [[(b17, .cells #[.slice A5 l4.length c6, .int .i64 x195] 28 (0, 0))]] HS221 fL) (fun _ => St.only [[(b17, .cells #[.slice A5 l4.length c6, .int .i64 x195] 28 (0, 0))], [(b44, .cells #[.slice A197 x196.length c198] 29 (0, 0))]] HS221 fL)) ?_
   have hq_ := bind_some h; clear h; obtain ⟨⟨vt222, vt223⟩, hc224, h⟩ := hq_
   refine takeGE 2 kr rfl kr (does_call (f := 6) (args := #[.pointer (some ⟨b17, 0, none⟩), .int .i64 5000]) kr (spymake_Stream_Next.calls k b17 A5 c6 (⟨l4, x195⟩ : S_Stream) 5000 HS221 (HR7.mono (L35.trans (L59.trans L190))) vt222 vt223 hc224) ?_)
   rintro _ W227 ⟨f225, rfl, L226, HS228⟩
   refine ⟨_, rfl, ?_⟩
   refine ⟨(Sg.g3 (Sx.of [[(b17, .cells #[.slice A5 l4.length c6, .int .i64 vt223] 28 (0, 0))], [(b44, .cells #[.slice A197 x196.length c198] 29 (0, 0))], s199] L226 HS228) (fun hl_ => Bool.noConfusion (show true = false from hl_)) (fun _ => St.only [[(b17, .cells #[.slice A5 l4.length c6, .int .i64 vt223] 28 (0, 0))]] HS228 L226) (fun _ => St.only [[(b17, .cells #[.slice A5 l4.length c6, .int .i64 vt223] 28 (0, 0))], [(b44, .cells #[.slice A197 x196.length c198] 29 (0, 0))]] HS228 L226)), ?_⟩
   refine takeGE 3 kr rfl kr (does_lit (e := (tInt .i64)) (E := 31) (vs := #[(0, Value.int .i64 vt222)]) (cs := #[.int .i64 vt222]) (xs := ([vt222] : List Int)) rfl Try.underlying29 kr kr ⟨[.int .i64 vt222], _, rfl, rfl, rfl⟩ rfl HS228 ?_ (by decide))
   intro b229 W230 s231 HS232 _ HO233
   refine ⟨(Sg.g3 (Sx.of [s231, [(b17, .cells #[.slice A5 l4.length c6, .int .i64 vt223] 28 (0, 0))], [(b44, .cells #[.slice A197 x196.length c198] 29 (0, 0))], s199] L226 HS232) (fun hl_ => Bool.noConfusion (show true = false from hl_)) (fun _ => St.only [s231, [(b17, .cells #[.slice A5 l4.length c6, .int .i64 vt223] 28 (0, 0))]] HS232 L226) (fun _ => St.only [s231, [(b17, .cells #[.slice A5 l4.length c6, .int .i64 vt223] 28 (0, 0))], [(b44, .cells #[.slice A197 x196.length c198] 29 (0, 0))]] HS232 L226)), ?_⟩
   have hq_ := guard_some h; clear h; obtain ⟨c235, h⟩ := hq_
   have c235 : (x196.length + 1) * 8 ≤ 140737488355328 := c235
   have HS237 := HS232.u3.u1
   refine takeGE 4 kr rfl kr (does_append1 (e := (tInt .i64)) (E := 31) (xs := x196) (ys := ([vt222] : List Int)) rfl (kv (.slice A197 x196.length c198)) (kv (.slice (some ⟨b229, 0, none⟩) ([vt222] : List Int).length 1)) Try.underlying29 inf31 (HO200.mono L226) HO233 HS237 c235 (lim63 c235 (by decide)) ?_)
   intro A238 c239 s240 W241 HS242 HO243
   refine ⟨(Sg.g3 (Sx.of [s240, [(b17, .cells #[.slice A5 l4.length c6, .int .i64 vt223] 28 (0, 0))], [(b44, .cells #[.slice A197 x196.length c198] 29 (0, 0))]] L226 HS242) (fun hl_ => Bool.noConfusion (show true = false from hl_)) (fun hl_ => Bool.noConfusion (show true = false from hl_)) (fun hl_ => Bool.noConfusion (show true = false from hl_))), ?_⟩
   have HS244 := HS242.u2
   refine takeGE 5 kr rfl kr (does_store (n := 1) (vs := [.slice A238 (x196 ++ ([vt222] : List Int)).length c239]) (cs' := #[.slice A238 (x196 ++ ([vt222] : List Int)).length c239]) rfl kr (kv (.pointer (some ⟨b44, 0, none⟩))) (kv (.slice A238 (x196 ++ ([vt222] : List Int)).length c239)) rfl rfl (ones rfl) HS244 (Nat.le_of_ble_eq_true rfl) kr ?_)
   intro W245 HS246
   refine ⟨(Sg.g3 (Sx.of [[(b44, .cells #[.slice A238 (x196 ++ ([vt222] : List Int)).length c239] 29 (0, 0))], s240, [(b17, .cells #[.slice A5 l4.length c6, .int .i64 vt223] 28 (0, 0))]] L226 HS246) (fun hl_ => Bool.noConfusion (show true = false from hl_)) (fun hl_ => Bool.noConfusion (show true = false from hl_)) (fun hl_ => Bool.noConfusion (show true = false from hl_))), ?_⟩
   refine doneG kr ?_ _
   refine hn211 _ _ ?_
   refine hK208 _ _ ?_
   refine rl ?_
   refine seqL2 kr ?_
   refine nl ?_
   refine hK187 n188 _ _ (Nat.lt_succ_self _) ?_
   have HS264 := HS246.u3.u2.u2.u3
   exact ⟨f225, A238, c239, s240, (w64 (x194 + 1)), vt223, (x196 ++ ([vt222] : List Int)), (jL [tV, .slice A197 x196.length c198, .pointer (some ⟨b17, 0, none⟩), iV vt222, .slice (some ⟨b229, 0, none⟩) ([vt222] : List Int).length 1, .slice A238 (x196 ++ ([vt222] : List Int)).length c239, iV (w64 (x194 + 1))]), (L190.trans L226), HS264, HO243, h, kr⟩
 · have c206 : ¬ (x194 < vt55) := c206
   refine wpRwI 39 kr (decide_eq_false c206) ?_
   refine condF kr ?_
   refine wp_exit ?_
   refine hx63 _ _ ?_
   exact J259 f189 A197 c198 s199 x195 x196 (jL [.slice (some ⟨b38, 0, none⟩) ([vt31] : List Int).length 1, iV x194, fV, (j193 1), (j193 2), (j193 3), (j193 4), (j193 5), (j193 6)]) W191 _ L190 h HS192 HO200 kr

end Go.Sp.X4
