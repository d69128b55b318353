import Derived.Test.YtjnehahcpeiheaaGreatDoorProg
import Derived.Test.YtjnehahcpeiheaaGreatDoorSpCopy
import Derived.Test.YtjnehahcpeiheaaGreatDoorFU5
import Derived.Test.YtjnehahcpeiheaaGreatDoorSpStr
import Derived.Test.YtjnehahcpeiheaaGreatDoorSpLib
import Derived.Test.YtjnehahcpeiheaaGreatDoorSpBld
import Derived.Test.YtjnehahcpeiheaaGreatDoorConv
import Derived.Test.YtjnehahcpeiheaaGreatDoorLibs
import Derived.Test.YtjnehahcpeiheaaGreatDoorSpNest
import Derived.Test.YtjnehahcpeiheaaGreatDoorSpWays
import Derived.Test.YtjnehahcpeiheaaGreatDoorSpRound
import Derived.Test.YtjnehahcpeiheaaGreatDoorKU5n0
import Derived.Test.YtjnehahcpeiheaaGreatDoorKU5n1
import Derived.Test.YtjnehahcpeiheaaGreatDoorKU5n2
import Derived.Test.YtjnehahcpeiheaaGreatDoorKU5n3
namespace Go.Sp.U5
open Go Go.Sp Go.Proofs
set_option linter.unusedVariables false
attribute [local irreducible] wpList AnyL Code.wp Calls Does Code.wpIn wpListIn CallsIn bodyPostM LeavesInM
set_option maxRecDepth 100000 in
set_option maxHeartbeats 4000000 in
theorem frame_Decode.calls (k : Nat) (A2 : Option Addr) (c3 : Nat) (b1 : List Int) {t w : World} {f : FM} {H : List Seg} (HS : St t w f (H)) (HR4 : SlR (tInt .u8) f A2 c3 b1) (HA : TabF Tryz.prog "strings.asciiSpace" .u8 Go.Lib.asciiSpaceTab f) (HM : VarI 5 f) (HT : TabF Tryz.prog "internal/strconv.uint64pow10" .u64 Go.Lib.pow10Tab f) (rr1 : S_Frame) (rr2 : Int) (h : frame_Decode k b1 = some (rr1, rr2)) :
    Calls Tryz.prog 12 #[.slice A2 b1.length c3] w (fun e w' => ∃ (g : FM) (A519 : Option Addr) (c520 : Nat) (A521 : Option Addr) (c522 : Nat) (s523 : Seg), e = .returned (Value.tuple #[.agg #[.int .i64 rr1.W, .int .i64 rr1.H, .slice A519 rr1.Cards.length c520, .slice A521 rr1.Counts.length c522], .int .i64 rr2]) ∧ FM.le f g ∧ St t w' g (s523 :: H) ∧ SlR ty_Card g A519 c520 rr1.Cards ∧ Own (tInt .i64) 3 g A521 c522 s523 rr1.Counts) := by
 unfold frame_Decode at h
 refine enter Tryz.func12 rfl (tm := #[.slice A2 b1.length c3, uV, uV, uV, uV, uV, uV, uV, uV, uV, uV, uV, uV, uV, uV, uV, uV, uV, uV, uV, uV, uV, uV, uV, uV, uV, uV, uV, uV, uV, uV, uV, uV, uV, uV, uV, uV, uV, uV, uV, uV, uV, uV, uV, uV, uV, uV, uV, uV, uV, uV, uV, uV, uV, uV, uV, uV, uV, uV, uV, uV, uV, uV, uV, uV, uV, uV, uV, uV, uV, uV, uV, uV, uV, uV, uV, uV, uV, uV, uV, uV, uV, uV, uV, uV, uV, uV, uV, uV, uV, uV, uV, uV, uV, uV, uV, uV, uV, uV, uV, uV, uV, uV, uV, uV, uV, uV, uV, uV, uV, uV, uV, uV, uV, uV]) kr ?_
 intro B hret hnor hnp
 refine wp_seq_k fun K5 hK6 => rl ?_
 refine seqK rfl (does_alloc (z := Value.agg #[.int .i64 0, .int .i64 0, .slice none 0 0, .slice none 0 0]) (cs := #[.int .i64 0, .int .i64 0, .slice none 0 0, .slice none 0 0]) rfl kr rfl HS ?_)
 intro b7 W8 HS9
 refine seqL1 kr ?_
 refine nl (hK6 _ _ ?_)
 refine wp_seq_k fun K11 hK12 => rl ?_
 have hq_ := bind_some h; clear h; obtain ⟨⟨vt13, vt14⟩, hc15, h⟩ := hq_
 refine seqL1 kr ?_
 refine seqK rfl (does_call (f := 11) (args := #[.slice A2 b1.length c3]) kr (frame_Verify.calls k A2 c3 b1 HS9 HR4 vt13 vt14 hc15) ?_)
 rintro _ W18 ⟨f16, A20, c21, s22, rfl, L17, HS19, HO23⟩
 refine ⟨_, rfl, ?_⟩
 refine seqL5 kr ?_
 refine nl (hK12 _ _ ?_)
 refine wp_seq_k (fun K25 hK26 => ?_)
 refine blockK (fun B27 hx28 hn29 hr30 ho31 hp32 => ?_)
 refine wp_seq_k fun K34 hK35 => rl ?_
 refine seqL3 kr ?_
 refine nl (hK35 _ _ ?_)
 have hq_ := ite_some h; clear h; rcases hq_ with ⟨c37, h⟩ | ⟨c37, h⟩
 · have c37 : vt14 ≠ 0 := c37
   refine wpRwI 21 (x := (vt14 != 0)) (v := true) kr (bne_iff_ne.mpr c37) ?_
   refine wpRwI 23 (x := (vt14 != 0)) (v := true) kr (bne_iff_ne.mpr c37) ?_
   refine condT kr ?_
   refine wp_seq_k fun K38 hK39 => rl ?_
   have HS40 := HS19.u1
   refine seqL2 kr ?_
   refine seqK rfl (does_store (n := 4) (vs := [.int .i64 0, .int .i64 0, .slice none 0 0, .slice none 0 0]) (cs' := #[.int .i64 0, .int .i64 0, .slice none 0 0, .slice none 0 0]) rfl kr (kv (.pointer (some ⟨b7, 0, none⟩))) (kv (.agg #[.int .i64 0, .int .i64 0, .slice none 0 0, .slice none 0 0])) rfl rfl (by intro u_ hu_; simp only [List.mem_cons, List.not_mem_nil, or_false] at hu_; rcases hu_ with rfl | rfl | rfl | rfl <;> rfl) HS40 (Nat.le_of_ble_eq_true rfl) kr ?_)
   intro W41 HS42
   refine seqL1 kr ?_
   refine nl (hK39 _ _ ?_)
   refine wp_ret ?_
   refine hr30 _ _ ?_
   refine hret _ _ ?_
   have HS444 := HS42.cons_nil
   refine ends (v := Value.tuple #[.agg #[.int .i64 0, .int .i64 0, .slice none 0 0, .slice none 0 0], .int .i64 vt14]) (results2 (q1 := .cell 2 29) (q2 := .tmp 3) kr (resN (n := 4) (cs := [.int .i64 0, .int .i64 0, .slice none 0 0, .slice none 0 0]) (kv (.pointer (some ⟨b7, 0, none⟩))) Tryz.underlying29 rfl kr rfl (HS444.u1.cells 0 4 _ rfl)) (resT (kv (.int .i64 vt14)))) kr ?_
   have HS446 := HS444.u2
   have HS447 := HS446.u2
   have HS448 := HS447.drop
   have HS449 := HS448.drop
   injection h with h
   injection h with h0_ h
   subst h0_ h
   exact ⟨f16, none, 0, none, 0, [], rfl, L17, HS449, (SlR.nil _ _), (Own.nil _)⟩
 · have c37 : ¬ (vt14 ≠ 0) := c37
   refine wpRwI 21 (x := (vt14 != 0)) (v := false) kr (bne_eq_false_iff_eq.mpr (Decidable.of_not_not c37)) ?_
   refine wpRwI 23 (x := (vt14 != 0)) (v := false) kr (bne_eq_false_iff_eq.mpr (Decidable.of_not_not c37)) ?_
   refine condF kr ?_
   refine wp_seq_k fun K43 hK44 => rl ?_
   refine seqL4 kr ?_
   refine nl (hK44 _ _ ?_)
   have hq_ := ite_some h; clear h; rcases hq_ with ⟨c46, h⟩ | ⟨c46, h⟩
   · have c46 : (vt13.length : Int) > 0 := c46
     refine wpRwI 26 (x := (decide ((vt13.length : Int) > 0))) (v := true) kr (decide_eq_true c46) ?_
     refine wpRwI 29 (x := (decide ((vt13.length : Int) > 0))) (v := true) kr (decide_eq_true c46) ?_
     refine condT kr ?_
     refine wp_seq_k fun K47 hK48 => rl ?_
     have HS49 := HS19.u1
     refine seqL1 kr ?_
     refine seqK rfl (does_store (n := 4) (vs := [.int .i64 0, .int .i64 0, .slice none 0 0, .slice none 0 0]) (cs' := #[.int .i64 0, .int .i64 0, .slice none 0 0, .slice none 0 0]) rfl kr (kv (.pointer (some ⟨b7, 0, none⟩))) (kv (.agg #[.int .i64 0, .int .i64 0, .slice none 0 0, .slice none 0 0])) rfl rfl (by intro u_ hu_; simp only [List.mem_cons, List.not_mem_nil, or_false] at hu_; rcases hu_ with rfl | rfl | rfl | rfl <;> rfl) HS49 (Nat.le_of_ble_eq_true rfl) kr ?_)
     intro W50 HS51
     refine seqL1 kr ?_
     refine nl (hK48 _ _ ?_)
     refine wp_ret ?_
     refine hr30 _ _ ?_
     refine hret _ _ ?_
     have HS450 := HS51.cons_nil
     refine ends (v := Value.tuple #[.agg #[.int .i64 0, .int .i64 0, .slice none 0 0, .slice none 0 0], .int .i64 13]) (results2 (q1 := .cell 2 29) (q2 := .tmp 3) kr (resN (n := 4) (cs := [.int .i64 0, .int .i64 0, .slice none 0 0, .slice none 0 0]) (kv (.pointer (some ⟨b7, 0, none⟩))) Tryz.underlying29 rfl kr rfl (HS450.u1.cells 0 4 _ rfl)) (resT (kv (.int .i64 13)))) kr ?_
     have HS452 := HS450.u2
     have HS453 := HS452.u2
     have HS454 := HS453.drop
     have HS455 := HS454.drop
     injection h with h
     injection h with h0_ h
     subst h0_ h
     exact ⟨f16, none, 0, none, 0, [], rfl, L17, HS455, (SlR.nil _ _), (Own.nil _)⟩
   · have c46 : ¬ ((vt13.length : Int) > 0) := c46
     refine wpRwI 26 (x := (decide ((vt13.length : Int) > 0))) (v := false) kr (decide_eq_false c46) ?_
     refine wpRwI 29 (x := (decide ((vt13.length : Int) > 0))) (v := false) kr (decide_eq_false c46) ?_
     refine condF kr ?_
     refine wp_skip ?_
     refine hn29 _ _ ?_
     refine hK26 _ _ ?_
     refine wp_seq_k fun K52 hK53 => rl ?_
     refine seqL1 kr ?_
     refine nl (hK53 _ _ ?_)
     refine wp_seq_k (fun K54 hK55 => ?_)
     refine wp_seq_k fun K56 hK57 => rl ?_
     refine seqL1 kr ?_
     refine nl (hK57 _ _ ?_)
     refine blockK (fun B58 hx59 hn60 hr61 ho62 hp63 => ?_)
     have hq_ := bind_some h; clear h; obtain ⟨o64, hv119, h⟩ := hq_
     have J120 : ∀ (f108 : FM) (A114 : Option Addr) (c115 : Nat) (s116 : Seg) (body113 : List Int) (j112 : Nat → Value) (W110 : World) (a_ : Act), FM.le f16 f108 → some (body113) = some o64 → St t W110 f108 (s116 :: s22 :: [(b7, .cells #[.int .i64 0, .int .i64 0, .slice none 0 0, .slice none 0 0] 29 (0, 0))] :: H) → Own (tInt .u8) 5 f108 A114 c115 s116 body113 → a_ = ⟨#[.slice A2 b1.length c3, uV, pV b7 0, iV 0, .slice A20 vt13.length c21, iV vt14, .slice A114 body113.length c115, (j112 0), uV, uV, uV, uV, uV, uV, uV, uV, .tuple #[.slice A20 vt13.length c21, iV vt14], .slice A2 b1.length c3, .tuple #[.slice A20 vt13.length c21, iV vt14], .slice A20 vt13.length c21, iV vt14, fV, iV vt14, fV, uV, uV, fV, .slice A20 vt13.length c21, iV (vt13.length : Int), fV, uV, (j112 1), (j112 2), (j112 3), (j112 4), (j112 5), (j112 6), (j112 7), (j112 8), (j112 9), (j112 10), (j112 11), (j112 12), (j112 13), uV, uV, uV, uV, uV, uV, uV, uV, uV, uV, uV, uV, uV, uV, uV, uV, uV, uV, uV, uV, uV, uV, uV, uV, uV, uV, uV, uV, uV, uV, uV, uV, uV, uV, uV, uV, uV, uV, uV, uV, uV, uV, uV, uV, uV, uV, uV, uV, uV, uV, uV, uV, uV, uV, uV, uV, uV, uV, uV, uV, uV, uV, uV, uV, uV, uV, uV, uV, uV, uV, uV], []⟩ → K54 a_ W110 := by
      intro f108 A114 c115 s116 body113 j112 W110 a_ L109 hj121 HS111 HO117 hfr_; subst hfr_
      injection hj121 with hj121; subst hj121; try dsimp only at h
      refine hK55 _ _ ?_
      refine wp_seq_k fun K124 hK125 => rl ?_
      refine seqL1 kr ?_
      refine nl (hK125 _ _ ?_)
      refine wp_seq_k fun K126 hK127 => rl ?_
      refine seqL1 kr ?_
      refine nl (hK127 _ _ ?_)
      refine wp_seq_k (fun K128 hK129 => ?_)
      refine blockK (fun B130 hx131 hn132 hr133 ho134 hp135 => ?_)
      obtain ⟨f235, L236, HS237, HR238⟩ := HO117.freeze HS111
      have hq_ := bind_some h; clear h; obtain ⟨o239, hv345, h⟩ := hq_
      have JR347 : ∀ z_, some (Sum.inl z_) = some o239 → some z_ = some (rr1, rr2) := by
       intro z_ e_; injection e_ with e_; subst e_; exact h
      have J346 : ∀ (f333 : FM) (A339 : Option Addr) (c340 : Nat) (s341 : Seg) (cards338 : List S_Card) (vat344 : Int) (j337 : Nat → Value) (W335 : World) (a_ : Act), FM.le f235 f333 → some (Sum.inr (cards338, vat344)) = some o239 → St t W335 f333 (s341 :: s22 :: [(b7, .cells #[.int .i64 0, .int .i64 0, .slice none 0 0, .slice none 0 0] 29 (0, 0))] :: H) → Own ty_Card 51 f333 A339 c340 s341 cards338 → a_ = ⟨#[.slice A2 b1.length c3, uV, pV b7 0, (j337 0), .slice A20 vt13.length c21, iV vt14, .slice A114 body113.length c115, (j112 0), .slice A339 cards338.length c340, iV vat344, (j337 1), (j337 2), uV, uV, uV, uV, .tuple #[.slice A20 vt13.length c21, iV vt14], .slice A2 b1.length c3, .tuple #[.slice A20 vt13.length c21, iV vt14], .slice A20 vt13.length c21, iV vt14, fV, iV vt14, fV, uV, uV, fV, .slice A20 vt13.length c21, iV (vt13.length : Int), fV, uV, (j112 1), (j112 2), (j112 3), (j112 4), (j112 5), (j112 6), (j112 7), (j112 8), (j112 9), (j112 10), (j112 11), (j112 12), (j112 13), (j337 3), (j337 4), (j337 5), (j337 6), (j337 7), (j337 8), (j337 9), (j337 10), (j337 11), (j337 12), (j337 13), (j337 14), (j337 15), (j337 16), (j337 17), (j337 18), (j337 19), (j337 20), (j337 21), (j337 22), (j337 23), (j337 24), (j337 25), (j337 26), (j337 27), (j337 28), (j337 29), (j337 30), (j337 31), (j337 32), (j337 33), (j337 34), (j337 35), (j337 36), (j337 37), (j337 38), (j337 39), (j337 40), uV, uV, uV, uV, uV, uV, uV, uV, uV, uV, uV, uV, uV, uV, uV, uV, uV, uV, uV, uV, uV, uV, uV, uV, uV, uV, uV, uV, uV, uV, uV, uV, uV], []⟩ → K128 a_ W335 := by
       intro f333 A339 c340 s341 cards338 vat344 j337 W335 a_ L334 hj348 HS336 HO342 hfr_; subst hfr_
       injection hj348 with hj348; subst hj348; try dsimp only at h
       simp only [Sum.elim_inr] at h
       refine hK129 _ _ ?_
       refine wp_seq_k fun K356 hK357 => rl ?_
       have hq_ := guard_some h; clear h; obtain ⟨c358, h⟩ := hq_
       have c358 : 0 ≤ (mn (body113.length : Int) (w64 ((w64 ((w64 (Int.tdiv vat344 256)) + 1)) * 256))) := c358
       have hq_ := guard_some h; clear h; obtain ⟨c359, h⟩ := hq_
       have c359 : (mn (body113.length : Int) (w64 ((w64 ((w64 (Int.tdiv vat344 256)) + 1)) * 256))) ≤ (body113.length : Int) := c359
       refine seqL9 kr ?_
       refine seqK rfl (does_cutL (e := (tInt .u8)) (xs := body113) rfl Tryz.underlying23 kr (kv (.slice A114 body113.length c115)) (kv (.int .i64 (mn (body113.length : Int) (w64 ((w64 ((w64 (Int.tdiv vat344 256)) + 1)) * 256))))) c358 c359 HR238 ?_)
       intro A360 c361 HR362
       obtain ⟨f363, L364, HS365, HR366⟩ := HO342.freeze HS336
       have hq_ := bind_some h; clear h; obtain ⟨⟨vt367, vt368⟩, hc369, h⟩ := hq_
       refine seqK rfl (does_call (f := 32) (args := #[.slice A339 cards338.length c340, .slice A360 (body113.drop (mn (body113.length : Int) (w64 ((w64 ((w64 (Int.tdiv vat344 256)) + 1)) * 256))).toNat).length c361]) kr (frame_whole.calls k A339 c340 A360 c361 cards338 (body113.drop (mn (body113.length : Int) (w64 ((w64 ((w64 (Int.tdiv vat344 256)) + 1)) * 256))).toNat) HS365 HR366 (HR362.mono (L334.trans L364)) vt367 vt368 hc369) ?_)
       rintro _ W372 ⟨f370, A374, c375, A377, c378, s379, rfl, L371, HS373, HR376, HO380⟩
       refine ⟨_, rfl, ?_⟩
       refine seqL3 kr ?_
       refine seqK rfl (does_alloc (z := Value.agg #[.int .i64 0, .int .i64 0, .slice none 0 0, .slice none 0 0]) (cs := #[.int .i64 0, .int .i64 0, .slice none 0 0, .slice none 0 0]) rfl kr rfl HS373 ?_)
       intro b382 W383 HS384
       refine seqK rfl (does_store (n := 4) (vs := [.int .i64 vt367.W, .int .i64 vt367.H, .slice A374 vt367.Cards.length c375, .slice A377 vt367.Counts.length c378]) (cs' := #[.int .i64 vt367.W, .int .i64 vt367.H, .slice A374 vt367.Cards.length c375, .slice A377 vt367.Counts.length c378]) rfl kr (kv (.pointer (some ⟨b382, 0, none⟩))) (kv (.agg #[.int .i64 vt367.W, .int .i64 vt367.H, .slice A374 vt367.Cards.length c375, .slice A377 vt367.Counts.length c378])) rfl rfl (by intro u_ hu_; simp only [List.mem_cons, List.not_mem_nil, or_false] at hu_; rcases hu_ with rfl | rfl | rfl | rfl <;> rfl) HS384 (Nat.le_of_ble_eq_true rfl) kr ?_)
       intro W386 HS387
       refine seqL1 kr ?_
       refine nl (hK357 _ _ ?_)
       refine wp_seq_k (fun K388 hK389 => ?_)
       refine wp_seq_k fun K390 hK391 => rl ?_
       refine seqL2 kr ?_
       refine nl (hK391 _ _ ?_)
       have hq_ := ite_some h; clear h; rcases hq_ with ⟨c393, h⟩ | ⟨c393, h⟩
       · have c393 : ¬ (vt368 = true) := c393
         refine wpRwI 97 (x := (!vt368)) (v := true) kr (congrArg (fun b_ => !b_) (show vt368 = false from (Bool.eq_false_iff.mpr c393)) : (!vt368) = true) ?_
         refine condT kr ?_
         refine wp_seq_k fun K394 hK395 => rl ?_
         have HS396 := HS387.u3
         refine seqL1 kr ?_
         refine seqK rfl (does_store (n := 4) (vs := [.int .i64 0, .int .i64 0, .slice none 0 0, .slice none 0 0]) (cs' := #[.int .i64 0, .int .i64 0, .slice none 0 0, .slice none 0 0]) rfl kr (kv (.pointer (some ⟨b7, 0, none⟩))) (kv (.agg #[.int .i64 0, .int .i64 0, .slice none 0 0, .slice none 0 0])) rfl rfl (by intro u_ hu_; simp only [List.mem_cons, List.not_mem_nil, or_false] at hu_; rcases hu_ with rfl | rfl | rfl | rfl <;> rfl) HS396 (Nat.le_of_ble_eq_true rfl) kr ?_)
         intro W397 HS398
         refine seqL1 kr ?_
         refine nl (hK395 _ _ ?_)
         refine wp_ret ?_
         refine hret _ _ ?_
         have HS476 := HS398.cons_nil
         refine ends (v := Value.tuple #[.agg #[.int .i64 0, .int .i64 0, .slice none 0 0, .slice none 0 0], .int .i64 3]) (results2 (q1 := .cell 2 29) (q2 := .tmp 3) kr (resN (n := 4) (cs := [.int .i64 0, .int .i64 0, .slice none 0 0, .slice none 0 0]) (kv (.pointer (some ⟨b7, 0, none⟩))) Tryz.underlying29 rfl kr rfl (HS476.u1.cells 0 4 _ rfl)) (resT (kv (.int .i64 3)))) kr ?_
         have HS478 := HS476.u4
         have HS479 := HS478.u4
         have HS480 := HS479.u4
         have HS481 := HS480.u4
         have HS482 := HS481.drop
         have HS483 := HS482.drop
         have HS484 := HS483.drop
         have HS485 := HS484.drop
         injection h with h
         injection h with h0_ h
         subst h0_ h
         exact ⟨f370, none, 0, none, 0, [], rfl, (L17.trans (L109.trans (L236.trans (L334.trans (L364.trans L371))))), HS485, (SlR.nil _ _), (Own.nil _)⟩
       · have c393 : ¬ (¬ (vt368 = true)) := c393
         refine wpRwI 97 (x := (!vt368)) (v := false) kr (congrArg (fun b_ => !b_) (show vt368 = true from (Decidable.of_not_not c393)) : (!vt368) = false) ?_
         refine condF kr ?_
         refine wp_skip ?_
         refine hK389 _ _ ?_
         refine wp_seq_k (fun K399 hK400 => ?_)
         refine wp_seq_k fun K401 hK402 => rl ?_
         refine seqK rfl (does_run (run_loadN (n := 4) rfl Tryz.underlying29 rfl kr (kv (.pointer (some ⟨b382, 0, none⟩))) (cs := [.int .i64 vt367.W, .int .i64 vt367.H, .slice A374 vt367.Cards.length c375, .slice A377 vt367.Counts.length c378]) rfl (HS387.cells 0 4 _ rfl)) ?_)
         have HS403 := HS387.u1
         obtain ⟨f404, L405, HS406, HR407, th408⟩ := HO380.lend HS403
         have hq_ := bind_some h; clear h; obtain ⟨⟨vt409, vt410⟩, hc411, h⟩ := hq_
         refine seqK rfl (does_call (f := 7) (args := #[.agg #[.int .i64 vt367.W, .int .i64 vt367.H, .slice A374 vt367.Cards.length c375, .slice A377 vt367.Counts.length c378]]) kr (frame_Encode.calls k A374 c375 A377 c378 vt367 HS406 (HR376.mono L405) HR407 (HA.mono (L17.trans (L109.trans (L236.trans (L334.trans (L364.trans (L371.trans L405))))))) (HT.mono (L17.trans (L109.trans (L236.trans (L334.trans (L364.trans (L371.trans L405))))))) vt409 vt410 hc411) ?_)
         rintro _ W414 ⟨f412, A416, c417, s418, rfl, L413, HS415, HO419⟩
         refine ⟨_, rfl, ?_⟩
         obtain ⟨f421, L422, HS423⟩ := th408 L413 HS415
         replace HO419 := HO419.flat (g := f421) (fun _ _ _ _ h_ => h_)
         refine seqL5 kr ?_
         refine nl (hK402 _ _ ?_)
         refine wp_seq_k fun K424 hK425 => rl ?_
         refine seqL3 kr ?_
         have hq_ := ite_some h; clear h; rcases hq_ with ⟨c426, h⟩ | ⟨c426, h⟩
         · have c426 : vt410 ≠ 0 := c426
           refine seqRwI 105 (x := (vt410 != 0)) (v := true) kr (bne_iff_ne.mpr c426) ?_
           refine seqRwI 106 (x := (vt410 != 0)) (v := true) kr (bne_iff_ne.mpr c426) ?_
           refine seqL6 kr ?_
           refine nl (hK425 _ _ ?_)
           refine condT kr ?_
           refine wp_seq_k fun K427 hK428 => rl ?_
           have HS429 := HS423.u4
           refine seqL1 kr ?_
           refine seqK rfl (does_store (n := 4) (vs := [.int .i64 0, .int .i64 0, .slice none 0 0, .slice none 0 0]) (cs' := #[.int .i64 0, .int .i64 0, .slice none 0 0, .slice none 0 0]) rfl kr (kv (.pointer (some ⟨b7, 0, none⟩))) (kv (.agg #[.int .i64 0, .int .i64 0, .slice none 0 0, .slice none 0 0])) rfl rfl (by intro u_ hu_; simp only [List.mem_cons, List.not_mem_nil, or_false] at hu_; rcases hu_ with rfl | rfl | rfl | rfl <;> rfl) HS429 (Nat.le_of_ble_eq_true rfl) kr ?_)
           intro W430 HS431
           refine seqL1 kr ?_
           refine nl (hK428 _ _ ?_)
           refine wp_ret ?_
           refine hret _ _ ?_
           have HS486 := HS431.cons_nil
           refine ends (v := Value.tuple #[.agg #[.int .i64 0, .int .i64 0, .slice none 0 0, .slice none 0 0], .int .i64 3]) (results2 (q1 := .cell 2 29) (q2 := .tmp 3) kr (resN (n := 4) (cs := [.int .i64 0, .int .i64 0, .slice none 0 0, .slice none 0 0]) (kv (.pointer (some ⟨b7, 0, none⟩))) Tryz.underlying29 rfl kr rfl (HS486.u1.cells 0 4 _ rfl)) (resT (kv (.int .i64 3)))) kr ?_
           have HS488 := HS486.u5
           have HS489 := HS488.u5
           have HS490 := HS489.u5
           have HS491 := HS490.u5
           have HS492 := HS491.u5
           have HS493 := HS492.drop
           have HS494 := HS493.drop
           have HS495 := HS494.drop
           have HS496 := HS495.drop
           have HS497 := HS496.drop
           injection h with h
           injection h with h0_ h
           subst h0_ h
           exact ⟨f421, none, 0, none, 0, [], rfl, (L17.trans (L109.trans (L236.trans (L334.trans (L364.trans (L371.trans L422)))))), HS497, (SlR.nil _ _), (Own.nil _)⟩
         · have c426 : ¬ (vt410 ≠ 0) := c426
           refine seqRwI 105 (x := (vt410 != 0)) (v := false) kr (bne_eq_false_iff_eq.mpr (Decidable.of_not_not c426)) ?_
           refine seqRwI 106 (x := (vt410 != 0)) (v := false) kr (bne_eq_false_iff_eq.mpr (Decidable.of_not_not c426)) ?_
           refine seqL1 kr ?_
           refine seqG kr (does_run (run_bstr (f := _) rfl Tryz.underlying23 Tryz.underlying5 Tryz.underlying9 (kv (.slice A416 vt409.length c417)) ((HO419.mono (FM.le.refl _)).rc HS423.u1)) ?_)
           refine seqL1 kr ?_
           refine seqG kr (does_run (run_bstr (f := _) rfl Tryz.underlying23 Tryz.underlying5 Tryz.underlying9 (kv (.slice A2 b1.length c3)) ((HR4.mono (L17.trans (L109.trans (L236.trans (L334.trans (L364.trans (L371.trans L422))))))).rc HS423)) ?_)
           refine seqL2 kr ?_
           refine nl (hK425 _ _ ?_)
           have hq_ := ite_some h; clear h; rcases hq_ with ⟨c433, h⟩ | ⟨c433, h⟩
           · have c433 : (!((bstr vt409).toList == (bstr b1).toList)) = true := c433
             refine wpRwI 111 (x := (!((bstr vt409).toList == (bstr b1).toList))) (v := true) kr c433 ?_
             refine wpRwI 112 (x := (!((bstr vt409).toList == (bstr b1).toList))) (v := true) kr c433 ?_
             refine condT kr ?_
             refine wp_seq_k fun K434 hK435 => rl ?_
             have HS436 := HS423.u4
             refine seqL1 kr ?_
             refine seqK rfl (does_store (n := 4) (vs := [.int .i64 0, .int .i64 0, .slice none 0 0, .slice none 0 0]) (cs' := #[.int .i64 0, .int .i64 0, .slice none 0 0, .slice none 0 0]) rfl kr (kv (.pointer (some ⟨b7, 0, none⟩))) (kv (.agg #[.int .i64 0, .int .i64 0, .slice none 0 0, .slice none 0 0])) rfl rfl (by intro u_ hu_; simp only [List.mem_cons, List.not_mem_nil, or_false] at hu_; rcases hu_ with rfl | rfl | rfl | rfl <;> rfl) HS436 (Nat.le_of_ble_eq_true rfl) kr ?_)
             intro W437 HS438
             refine seqL1 kr ?_
             refine nl (hK435 _ _ ?_)
             refine wp_ret ?_
             refine hret _ _ ?_
             have HS498 := HS438.cons_nil
             refine ends (v := Value.tuple #[.agg #[.int .i64 0, .int .i64 0, .slice none 0 0, .slice none 0 0], .int .i64 3]) (results2 (q1 := .cell 2 29) (q2 := .tmp 3) kr (resN (n := 4) (cs := [.int .i64 0, .int .i64 0, .slice none 0 0, .slice none 0 0]) (kv (.pointer (some ⟨b7, 0, none⟩))) Tryz.underlying29 rfl kr rfl (HS498.u1.cells 0 4 _ rfl)) (resT (kv (.int .i64 3)))) kr ?_
             have HS500 := HS498.u5
             have HS501 := HS500.u5
             have HS502 := HS501.u5
             have HS503 := HS502.u5
             have HS504 := HS503.u5
             have HS505 := HS504.drop
             have HS506 := HS505.drop
             have HS507 := HS506.drop
             have HS508 := HS507.drop
             have HS509 := HS508.drop
             injection h with h
             injection h with h0_ h
             subst h0_ h
             exact ⟨f421, none, 0, none, 0, [], rfl, (L17.trans (L109.trans (L236.trans (L334.trans (L364.trans (L371.trans L422)))))), HS509, (SlR.nil _ _), (Own.nil _)⟩
           · have c433 : ¬ ((!((bstr vt409).toList == (bstr b1).toList)) = true) := c433
             refine wpRwI 111 (x := (!((bstr vt409).toList == (bstr b1).toList))) (v := false) kr (Bool.eq_false_iff.mpr c433) ?_
             refine wpRwI 112 (x := (!((bstr vt409).toList == (bstr b1).toList))) (v := false) kr (Bool.eq_false_iff.mpr c433) ?_
             refine condF kr ?_
             refine wp_skip ?_
             refine hK400 _ _ ?_
             refine wp_seq_k fun K439 hK440 => rl ?_
             refine seqK rfl (does_run (run_loadN (n := 4) rfl Tryz.underlying29 rfl kr (kv (.pointer (some ⟨b382, 0, none⟩))) (cs := [.int .i64 vt367.W, .int .i64 vt367.H, .slice A374 vt367.Cards.length c375, .slice A377 vt367.Counts.length c378]) rfl (HS423.u2.cells 0 4 _ rfl)) ?_)
             have HS441 := HS423.u4
             refine seqK rfl (does_store (n := 4) (vs := [.int .i64 vt367.W, .int .i64 vt367.H, .slice A374 vt367.Cards.length c375, .slice A377 vt367.Counts.length c378]) (cs' := #[.int .i64 vt367.W, .int .i64 vt367.H, .slice A374 vt367.Cards.length c375, .slice A377 vt367.Counts.length c378]) rfl kr (kv (.pointer (some ⟨b7, 0, none⟩))) (kv (.agg #[.int .i64 vt367.W, .int .i64 vt367.H, .slice A374 vt367.Cards.length c375, .slice A377 vt367.Counts.length c378])) rfl rfl (by intro u_ hu_; simp only [List.mem_cons, List.not_mem_nil, or_false] at hu_; rcases hu_ with rfl | rfl | rfl | rfl <;> rfl) HS441 (Nat.le_of_ble_eq_true rfl) kr ?_)
             intro W442 HS443
             refine seqL1 kr ?_
             refine nl (hK440 _ _ ?_)
             refine wp_ret ?_
             refine hret _ _ ?_
             refine ends (v := Value.tuple #[.agg #[.int .i64 vt367.W, .int .i64 vt367.H, .slice A374 vt367.Cards.length c375, .slice A377 vt367.Counts.length c378], .int .i64 0]) (results2 (q1 := .cell 2 29) (q2 := .tmp 3) kr (resN (n := 4) (cs := [.int .i64 vt367.W, .int .i64 vt367.H, .slice A374 vt367.Cards.length c375, .slice A377 vt367.Counts.length c378]) (kv (.pointer (some ⟨b7, 0, none⟩))) Tryz.underlying29 rfl kr rfl (HS443.cells 0 4 _ rfl)) (resT (kv (.int .i64 0)))) kr ?_
             have HS510 := HS443.u1
             have HS511 := HS510.u4
             have HS512 := HS511.u4
             have HS513 := HS512.u4
             have HS514 := HS513.u4
             have HS515 := HS514.drop
             have HS516 := HS515.drop
             have HS517 := HS516.drop
             have HS518 := HS517.drop
             injection h with h
             injection h with h0_ h
             subst h0_ h
             exact ⟨f421, A374, c375, A377, c378, s379, rfl, (L17.trans (L109.trans (L236.trans (L334.trans (L364.trans (L371.trans L422)))))), HS518, (HR376.mono L422), (HO380.mono L422)⟩
      clear h; have h := hv345; clear hv345
      have HS349 := HS237.cons_nil
      refine loopK (fun n_ a_ w_ => ∃ (f243 : FM) (A249 : Option Addr) (c250 : Nat) (s251 : Seg) (cards248 : List S_Card) (vat254 : Int) (j247 : Nat → Value), FM.le f235 f243 ∧ St t w_ f243 (s251 :: s22 :: [(b7, .cells #[.int .i64 0, .int .i64 0, .slice none 0 0, .slice none 0 0] 29 (0, 0))] :: H) ∧ Own ty_Card 51 f243 A249 c250 s251 cards248 ∧ frame_Decode.l1 k body113 n_ cards248 vat254 = some o239 ∧ a_ = ⟨#[.slice A2 b1.length c3, uV, pV b7 0, (j247 0), .slice A20 vt13.length c21, iV vt14, .slice A114 body113.length c115, (j112 0), .slice A249 cards248.length c250, iV vat254, (j247 1), (j247 2), uV, uV, uV, uV, .tuple #[.slice A20 vt13.length c21, iV vt14], .slice A2 b1.length c3, .tuple #[.slice A20 vt13.length c21, iV vt14], .slice A20 vt13.length c21, iV vt14, fV, iV vt14, fV, uV, uV, fV, .slice A20 vt13.length c21, iV (vt13.length : Int), fV, uV, (j112 1), (j112 2), (j112 3), (j112 4), (j112 5), (j112 6), (j112 7), (j112 8), (j112 9), (j112 10), (j112 11), (j112 12), (j112 13), (j247 3), (j247 4), (j247 5), (j247 6), (j247 7), (j247 8), (j247 9), (j247 10), (j247 11), (j247 12), (j247 13), (j247 14), (j247 15), (j247 16), (j247 17), (j247 18), (j247 19), (j247 20), (j247 21), (j247 22), (j247 23), (j247 24), (j247 25), (j247 26), (j247 27), (j247 28), (j247 29), (j247 30), (j247 31), (j247 32), (j247 33), (j247 34), (j247 35), (j247 36), (j247 37), (j247 38), (j247 39), (j247 40), uV, uV, uV, uV, uV, uV, uV, uV, uV, uV, uV, uV, uV, uV, uV, uV, uV, uV, uV, uV, uV, uV, uV, uV, uV, uV, uV, uV, uV, uV, uV, uV, uV], []⟩) k ⟨f235, none, 0, [], ([] : List S_Card), 0, (fun i_ => [Value.int .i64 0, undef, undef, undef, undef, undef, undef, undef, undef, undef, undef, undef, undef, undef, undef, undef, undef, undef, undef, undef, undef, undef, undef, undef, undef, undef, undef, undef, undef, undef, undef, undef, undef, undef, undef, undef, undef, undef, undef, undef, undef].getD i_ undef), (FM.le.refl _), HS349, (Own.nil _), h, kr⟩ ?_
      clear h
      rintro n242 _ W245 ⟨f243, A249, c250, s251, cards248, vat254, j247, L244, HS246, HO252, h, rfl⟩ K240 hK241
      obtain _ | n242 := n242
      · exact nomatch h
      simp only [frame_Decode.l1] at h
      refine wp_seq_k (fun K255 hK256 => ?_)
      refine wp_seq_k fun K257 hK258 => rl ?_
      refine seqL5 kr ?_
      have hq_ := ite_some h; clear h; rcases hq_ with ⟨c259, h⟩ | ⟨c259, h⟩
      · have c259 : vat254 < (body113.length : Int) := c259
        refine seqRwI 47 (x := (decide (vat254 < (body113.length : Int)))) (v := true) kr (decide_eq_true c259) ?_
        refine seqRwI 48 (x := (decide (vat254 < (body113.length : Int)))) (v := true) kr (decide_eq_true c259) ?_
        have hq_ := guard_some h; clear h; obtain ⟨c260, h⟩ := hq_
        have c260 : 0 ≤ vat254 := c260
        have hq_ := guard_some h; clear h; obtain ⟨c261, h⟩ := hq_
        have c261 : vat254 ≤ (w64 (vat254 + 64)) := c261
        have hq_ := guard_some h; clear h; obtain ⟨c262, h⟩ := hq_
        have c262 : (w64 (vat254 + 64)) ≤ (body113.length : Int) := c262
        refine seqL4 kr ?_
        refine seqG kr (does_cutLH (e := (tInt .u8)) (xs := body113) rfl Tryz.underlying23 kr (kv (.slice A114 body113.length c115)) (kv (.int .i64 vat254)) (kv (.int .i64 (w64 (vat254 + 64))))  c260 c261 c262 HR238 ?_)
        intro A263 c264 HR265
        refine seqG kr (does_run (run_bstr (f := _) rfl Tryz.underlying23 Tryz.underlying5 Tryz.underlying9 (kv (.slice A263 ((body113.take (w64 (vat254 + 64)).toNat).drop (vat254).toNat).length c264)) ((HR265.mono L244).rc HS246)) ?_)
        have hq_ := bind_some h; clear h; obtain ⟨vt266, hc267, h⟩ := hq_
        refine seqG kr (does_call (f := 30) (args := #[.string (bstr ((body113.take (w64 (vat254 + 64)).toNat).drop (vat254).toNat)), .string ⟨#[32]⟩]) kr (strings_TrimRight.calls k (bstr ((body113.take (w64 (vat254 + 64)).toNat).drop (vat254).toNat)) (⟨#[32]⟩ : ByteArray) HS246 vt266 hc267) ?_)
        rintro _ W270 ⟨f268, rfl, L269, HS271⟩
        refine ⟨_, rfl, ?_⟩
        refine seqL2 kr ?_
        refine nl (hK258 _ _ ?_)
        have hq_ := ite_some h; clear h; rcases hq_ with ⟨c273, h⟩ | ⟨c273, h⟩
        · have c273 : (!(vt266.toList == (⟨#[69, 78, 68]⟩ : ByteArray).toList)) = true := c273
          refine wpRwI 56 (x := (!(vt266.toList == (⟨#[69, 78, 68]⟩ : ByteArray).toList))) (v := true) kr c273 ?_
          refine wpRwI 57 (x := (!(vt266.toList == (⟨#[69, 78, 68]⟩ : ByteArray).toList))) (v := true) kr c273 ?_
          refine condT kr ?_
          refine wp_skip ?_
          refine hK256 _ _ ?_
          refine wp_seq_k (fun K274 hK275 => ?_)
          refine blockK (fun B276 hx277 hn278 hr279 ho280 hp281 => ?_)
          refine wp_seq_k fun K283 hK284 => rl ?_
          refine seqL4 kr ?_
          refine seqK rfl (does_cutLH (e := (tInt .u8)) (xs := body113) rfl Tryz.underlying23 kr (kv (.slice A114 body113.length c115)) (kv (.int .i64 vat254)) (kv (.int .i64 (w64 (vat254 + 64))))  c260 c261 c262 HR238 ?_)
          intro A285 c286 HR287
          refine seqK rfl (does_run (run_bstr (f := _) rfl Tryz.underlying23 Tryz.underlying5 Tryz.underlying9 (kv (.slice A285 ((body113.take (w64 (vat254 + 64)).toNat).drop (vat254).toNat).length c286)) ((HR287.mono (L244.trans L269)).rc HS271)) ?_)
          have hq_ := bind_some h; clear h; obtain ⟨⟨vt288, vt289⟩, hc290, h⟩ := hq_
          refine seqK rfl (does_call (f := 31) (args := #[.string (bstr ((body113.take (w64 (vat254 + 64)).toNat).drop (vat254).toNat))]) kr (frame_card.calls k (bstr ((body113.take (w64 (vat254 + 64)).toNat).drop (vat254).toNat)) HS271 (HM.mono (L17.trans (L109.trans (L236.trans (L244.trans L269))))) vt288 vt289 hc290) ?_)
          rintro _ W293 ⟨f291, rfl, L292, HS294⟩
          refine ⟨_, rfl, ?_⟩
          refine seqL3 kr ?_
          refine seqK rfl (does_alloc (z := Value.agg #[.string ⟨#[]⟩, .string ⟨#[]⟩, .string ⟨#[]⟩, .string ⟨#[]⟩]) (cs := #[.string ⟨#[]⟩, .string ⟨#[]⟩, .string ⟨#[]⟩, .string ⟨#[]⟩]) rfl kr rfl HS294 ?_)
          intro b295 W296 HS297
          refine seqK rfl (does_store (n := 4) (vs := [.string vt288.Key, .string vt288.Value, .string vt288.Unit, .string vt288.Note]) (cs' := #[.string vt288.Key, .string vt288.Value, .string vt288.Unit, .string vt288.Note]) rfl kr (kv (.pointer (some ⟨b295, 0, none⟩))) (kv (.agg #[.string vt288.Key, .string vt288.Value, .string vt288.Unit, .string vt288.Note])) rfl rfl (by intro u_ hu_; simp only [List.mem_cons, List.not_mem_nil, or_false] at hu_; rcases hu_ with rfl | rfl | rfl | rfl <;> rfl) HS297 (Nat.le_of_ble_eq_true rfl) kr ?_)
          intro W299 HS300
          refine seqL1 kr ?_
          refine nl (hK284 _ _ ?_)
          refine wp_seq_k (fun K301 hK302 => ?_)
          refine wp_seq_k fun K303 hK304 => rl ?_
          refine seqL3 kr ?_
          have hq_ := ite_some h; clear h; rcases hq_ with ⟨c305, h⟩ | ⟨c305, h⟩
          · have c305 : ¬ (vt289 = true) := c305
            refine seqRwI 71 (x := (!vt289)) (v := true) kr (congrArg (fun b_ => !b_) (show vt289 = false from (Bool.eq_false_iff.mpr c305)) : (!vt289) = true) ?_
            refine seqRwI 72 (x := (!vt289)) (v := true) kr (congrArg (fun b_ => !b_) (show vt289 = false from (Bool.eq_false_iff.mpr c305)) : (!vt289) = true) ?_
            refine seqL4 kr ?_
            refine nl (hK304 _ _ ?_)
            refine condT kr ?_
            refine wp_seq_k fun K306 hK307 => rl ?_
            have HS308 := HS300.u3
            refine seqL1 kr ?_
            refine seqK rfl (does_store (n := 4) (vs := [.int .i64 0, .int .i64 0, .slice none 0 0, .slice none 0 0]) (cs' := #[.int .i64 0, .int .i64 0, .slice none 0 0, .slice none 0 0]) rfl kr (kv (.pointer (some ⟨b7, 0, none⟩))) (kv (.agg #[.int .i64 0, .int .i64 0, .slice none 0 0, .slice none 0 0])) rfl rfl (by intro u_ hu_; simp only [List.mem_cons, List.not_mem_nil, or_false] at hu_; rcases hu_ with rfl | rfl | rfl | rfl <;> rfl) HS308 (Nat.le_of_ble_eq_true rfl) kr ?_)
            intro W309 HS310
            refine seqL1 kr ?_
            refine nl (hK307 _ _ ?_)
            refine wp_ret ?_
            refine hr279 _ _ ?_
            refine hr133 _ _ ?_
            refine hret _ _ ?_
            have HS456 := HS310.cons_nil
            refine ends (v := Value.tuple #[.agg #[.int .i64 0, .int .i64 0, .slice none 0 0, .slice none 0 0], .int .i64 3]) (results2 (q1 := .cell 2 29) (q2 := .tmp 3) kr (resN (n := 4) (cs := [.int .i64 0, .int .i64 0, .slice none 0 0, .slice none 0 0]) (kv (.pointer (some ⟨b7, 0, none⟩))) Tryz.underlying29 rfl kr rfl (HS456.u1.cells 0 4 _ rfl)) (resT (kv (.int .i64 3)))) kr ?_
            have HS458 := HS456.u4
            have HS459 := HS458.u4
            have HS460 := HS459.u4
            have HS461 := HS460.u4
            have HS462 := HS461.drop
            have HS463 := HS462.drop
            have HS464 := HS463.drop
            have HS465 := HS464.drop
            replace h := JR347 _ h
            injection h with h
            injection h with h0_ h
            subst h0_ h
            exact ⟨f291, none, 0, none, 0, [], rfl, (L17.trans (L109.trans (L236.trans (L244.trans (L269.trans L292))))), HS465, (SlR.nil _ _), (Own.nil _)⟩
          · have c305 : ¬ (¬ (vt289 = true)) := c305
            refine seqRwI 71 (x := (!vt289)) (v := false) kr (congrArg (fun b_ => !b_) (show vt289 = true from (Decidable.of_not_not c305)) : (!vt289) = false) ?_
            refine seqRwI 72 (x := (!vt289)) (v := false) kr (congrArg (fun b_ => !b_) (show vt289 = true from (Decidable.of_not_not c305)) : (!vt289) = false) ?_
            refine seqL4 kr ?_
            refine nl (hK304 _ _ ?_)
            have hq_ := ite_some h; clear h; rcases hq_ with ⟨c312, h⟩ | ⟨c312, h⟩
            · have c312 : (cards248.length : Int) > 31 := c312
              refine wpRwI 75 (x := (decide ((cards248.length : Int) > 31))) (v := true) kr (decide_eq_true c312) ?_
              refine wpRwI 76 (x := (decide ((cards248.length : Int) > 31))) (v := true) kr (decide_eq_true c312) ?_
              refine condT kr ?_
              refine wp_seq_k fun K313 hK314 => rl ?_
              have HS315 := HS300.u3
              refine seqL1 kr ?_
              refine seqK rfl (does_store (n := 4) (vs := [.int .i64 0, .int .i64 0, .slice none 0 0, .slice none 0 0]) (cs' := #[.int .i64 0, .int .i64 0, .slice none 0 0, .slice none 0 0]) rfl kr (kv (.pointer (some ⟨b7, 0, none⟩))) (kv (.agg #[.int .i64 0, .int .i64 0, .slice none 0 0, .slice none 0 0])) rfl rfl (by intro u_ hu_; simp only [List.mem_cons, List.not_mem_nil, or_false] at hu_; rcases hu_ with rfl | rfl | rfl | rfl <;> rfl) HS315 (Nat.le_of_ble_eq_true rfl) kr ?_)
              intro W316 HS317
              refine seqL1 kr ?_
              refine nl (hK314 _ _ ?_)
              refine wp_ret ?_
              refine hr279 _ _ ?_
              refine hr133 _ _ ?_
              refine hret _ _ ?_
              have HS466 := HS317.cons_nil
              refine ends (v := Value.tuple #[.agg #[.int .i64 0, .int .i64 0, .slice none 0 0, .slice none 0 0], .int .i64 3]) (results2 (q1 := .cell 2 29) (q2 := .tmp 3) kr (resN (n := 4) (cs := [.int .i64 0, .int .i64 0, .slice none 0 0, .slice none 0 0]) (kv (.pointer (some ⟨b7, 0, none⟩))) Tryz.underlying29 rfl kr rfl (HS466.u1.cells 0 4 _ rfl)) (resT (kv (.int .i64 3)))) kr ?_
              have HS468 := HS466.u4
              have HS469 := HS468.u4
              have HS470 := HS469.u4
              have HS471 := HS470.u4
              have HS472 := HS471.drop
              have HS473 := HS472.drop
              have HS474 := HS473.drop
              have HS475 := HS474.drop
              replace h := JR347 _ h
              injection h with h
              injection h with h0_ h
              subst h0_ h
              exact ⟨f291, none, 0, none, 0, [], rfl, (L17.trans (L109.trans (L236.trans (L244.trans (L269.trans L292))))), HS475, (SlR.nil _ _), (Own.nil _)⟩
            · have c312 : ¬ ((cards248.length : Int) > 31) := c312
              refine wpRwI 75 (x := (decide ((cards248.length : Int) > 31))) (v := false) kr (decide_eq_false c312) ?_
              refine wpRwI 76 (x := (decide ((cards248.length : Int) > 31))) (v := false) kr (decide_eq_false c312) ?_
              refine condF kr ?_
              refine wp_skip ?_
              refine hK302 _ _ ?_
              refine rl ?_
              refine seqL1 kr ?_
              refine seqK rfl (does_run (run_loadN (n := 4) rfl Tryz.underlying51 rfl kr (kv (.pointer (some ⟨b295, 0, none⟩))) (cs := [.string vt288.Key, .string vt288.Value, .string vt288.Unit, .string vt288.Note]) rfl (HS300.cells 0 4 _ rfl)) ?_)
              refine seqK rfl (does_lit (e := ty_Card) (E := 51) (vs := #[(0, Value.agg #[.string vt288.Key, .string vt288.Value, .string vt288.Unit, .string vt288.Note])]) (cs := #[.string vt288.Key, .string vt288.Value, .string vt288.Unit, .string vt288.Note]) (xs := ([vt288] : List S_Card)) rfl Tryz.underlying27 kr kr ⟨[.string vt288.Key, .string vt288.Value, .string vt288.Unit, .string vt288.Note], _, rfl, rfl, rfl⟩ rfl HS300 ?_ (by decide))
              intro b318 W319 s320 HS321 _ HO322
              have hq_ := guard_some h; clear h; obtain ⟨c324, h⟩ := hq_
              have c324 : (cards248.length + 1) * 64 ≤ 140737488355328 := c324
              have HS325 := HS321.u2
              have HS326 := HS325.u1
              refine seqK rfl (does_append1 (e := ty_Card) (E := 51) (xs := cards248) (ys := ([vt288] : List S_Card)) rfl (kv (.slice A249 cards248.length c250)) (kv (.slice (some ⟨b318, 0, none⟩) ([vt288] : List S_Card).length 1)) Tryz.underlying27 inf51 (HO252.mono (L269.trans L292)) HO322 HS326 c324 (lim63 c324 (by decide)) ?_)
              intro A327 c328 s329 W330 HS331 HO332
              refine seqL1 kr ?_
              refine nl ?_
              refine hn278 _ _ ?_
              refine hK275 _ _ ?_
              refine rl ?_
              refine seqL3 kr ?_
              refine nl ?_
              refine hK241 n242 _ _ (Nat.lt_succ_self _) ?_
              have HS351 := HS331.u3
              have HS352 := HS351.u3
              have HS353 := HS352.u2
              have HS354 := HS353.u3
              have HS355 := HS354.drop
              exact ⟨f291, A327, c328, s329, (cards248 ++ ([vt288] : List S_Card)), (w64 (vat254 + 64)), (fun i_ => [(j247 0), Value.pointer (some ⟨b295, 0, none⟩), Value.bool vt289, Value.int .i64 vat254, Value.slice A114 body113.length c115, Value.int .i64 (body113.length : Int), Value.bool true, Value.bool true, Value.slice A114 body113.length c115, Value.int .i64 vat254, Value.int .i64 vat254, Value.int .i64 (w64 (vat254 + 64)), Value.slice A263 ((body113.take (w64 (vat254 + 64)).toNat).drop (vat254).toNat).length c264, Value.string (bstr ((body113.take (w64 (vat254 + 64)).toNat).drop (vat254).toNat)), Value.string vt266, Value.bool true, Value.bool true, Value.int .i64 vat254, Value.int .i64 (w64 (vat254 + 64)), Value.tuple #[(ag_Card vt288), .bool vt289], Value.slice A114 body113.length c115, Value.int .i64 vat254, Value.int .i64 vat254, Value.int .i64 (w64 (vat254 + 64)), Value.slice A285 ((body113.take (w64 (vat254 + 64)).toNat).drop (vat254).toNat).length c286, Value.string (bstr ((body113.take (w64 (vat254 + 64)).toNat).drop (vat254).toNat)), Value.tuple #[(ag_Card vt288), .bool vt289], (ag_Card vt288), Value.bool vt289, Value.bool vt289, Value.bool false, Value.bool false, Value.slice A249 cards248.length c250, Value.int .i64 (cards248.length : Int), Value.bool false, Value.bool false, (j247 36), Value.slice A249 cards248.length c250, (ag_Card vt288), Value.slice (some ⟨b318, 0, none⟩) ([vt288] : List S_Card).length 1, Value.slice A327 (cards248 ++ ([vt288] : List S_Card)).length c328].getD i_ undef), (L244.trans (L269.trans L292)), HS355, HO332, h, kr⟩
        · have c273 : ¬ ((!(vt266.toList == (⟨#[69, 78, 68]⟩ : ByteArray).toList)) = true) := c273
          refine wpRwI 56 (x := (!(vt266.toList == (⟨#[69, 78, 68]⟩ : ByteArray).toList))) (v := false) kr (Bool.eq_false_iff.mpr c273) ?_
          refine wpRwI 57 (x := (!(vt266.toList == (⟨#[69, 78, 68]⟩ : ByteArray).toList))) (v := false) kr (Bool.eq_false_iff.mpr c273) ?_
          refine condF kr ?_
          refine wp_exit ?_
          refine hx131 _ _ ?_
          exact J346 f268 A249 c250 s251 cards248 vat254 (fun i_ => [(j247 0), (j247 1), (j247 2), Value.int .i64 vat254, Value.slice A114 body113.length c115, Value.int .i64 (body113.length : Int), Value.bool true, Value.bool true, Value.slice A114 body113.length c115, Value.int .i64 vat254, Value.int .i64 vat254, Value.int .i64 (w64 (vat254 + 64)), Value.slice A263 ((body113.take (w64 (vat254 + 64)).toNat).drop (vat254).toNat).length c264, Value.string (bstr ((body113.take (w64 (vat254 + 64)).toNat).drop (vat254).toNat)), Value.string vt266, Value.bool false, Value.bool false, (j247 17), (j247 18), (j247 19), (j247 20), (j247 21), (j247 22), (j247 23), (j247 24), (j247 25), (j247 26), (j247 27), (j247 28), (j247 29), (j247 30), (j247 31), (j247 32), (j247 33), (j247 34), (j247 35), (j247 36), (j247 37), (j247 38), (j247 39), (j247 40)].getD i_ undef) W270 _ (L244.trans L269) h HS271 (HO252.mono L269) kr
      · have c259 : ¬ (vat254 < (body113.length : Int)) := c259
        refine seqRwI 47 (x := (decide (vat254 < (body113.length : Int)))) (v := false) kr (decide_eq_false c259) ?_
        refine seqRwI 48 (x := (decide (vat254 < (body113.length : Int)))) (v := false) kr (decide_eq_false c259) ?_
        refine seqL9 kr ?_
        refine nl (hK258 _ _ ?_)
        refine condF kr ?_
        refine wp_exit ?_
        refine hx131 _ _ ?_
        exact J346 f243 A249 c250 s251 cards248 vat254 (fun i_ => [(j247 0), (j247 1), (j247 2), Value.int .i64 vat254, Value.slice A114 body113.length c115, Value.int .i64 (body113.length : Int), Value.bool false, Value.bool false, undef, undef, undef, undef, undef, undef, undef, undef, Value.bool false, (j247 17), (j247 18), (j247 19), (j247 20), (j247 21), (j247 22), (j247 23), (j247 24), (j247 25), (j247 26), (j247 27), (j247 28), (j247 29), (j247 30), (j247 31), (j247 32), (j247 33), (j247 34), (j247 35), (j247 36), (j247 37), (j247 38), (j247 39), (j247 40)].getD i_ undef) W245 _ L244 h HS246 HO252 kr
     clear h; have h := hv119; clear hv119
     have HS122 := HS19.cons_nil
     refine loopK (fun n_ a_ w_ => ∃ (f68 : FM) (A74 : Option Addr) (c75 : Nat) (s76 : Seg) (body73 : List Int) (i79 : Int) (j72 : Nat → Value), FM.le f16 f68 ∧ St t w_ f68 (s76 :: s22 :: [(b7, .cells #[.int .i64 0, .int .i64 0, .slice none 0 0, .slice none 0 0] 29 (0, 0))] :: H) ∧ Own (tInt .u8) 5 f68 A74 c75 s76 body73 ∧ frame_Decode.l0 k b1 n_ body73 i79 = some o64 ∧ a_ = ⟨#[.slice A2 b1.length c3, uV, pV b7 0, iV 0, .slice A20 vt13.length c21, iV vt14, .slice A74 body73.length c75, iV i79, uV, uV, uV, uV, uV, uV, uV, uV, .tuple #[.slice A20 vt13.length c21, iV vt14], .slice A2 b1.length c3, .tuple #[.slice A20 vt13.length c21, iV vt14], .slice A20 vt13.length c21, iV vt14, fV, iV vt14, fV, uV, uV, fV, .slice A20 vt13.length c21, iV (vt13.length : Int), fV, uV, (j72 0), (j72 1), (j72 2), (j72 3), (j72 4), (j72 5), (j72 6), (j72 7), (j72 8), (j72 9), (j72 10), (j72 11), (j72 12), uV, uV, uV, uV, uV, uV, uV, uV, uV, uV, uV, uV, uV, uV, uV, uV, uV, uV, uV, uV, uV, uV, uV, uV, uV, uV, uV, uV, uV, uV, uV, uV, uV, uV, uV, uV, uV, uV, uV, uV, uV, uV, uV, uV, uV, uV, uV, uV, uV, uV, uV, uV, uV, uV, uV, uV, uV, uV, uV, uV, uV, uV, uV, uV, uV, uV, uV, uV, uV, uV, uV], []⟩) k ⟨f16, none, 0, [], ([] : List Int), 0, (fun i_ => [undef, undef, undef, undef, undef, undef, undef, undef, undef, undef, undef, undef, undef].getD i_ undef), (FM.le.refl _), HS122, (Own.nil _), h, kr⟩ ?_
     clear h
     rintro n67 _ W70 ⟨f68, A74, c75, s76, body73, i79, j72, L69, HS71, HO77, h, rfl⟩ K65 hK66
     obtain _ | n67 := n67
     · exact nomatch h
     simp only [frame_Decode.l0] at h
     refine wp_seq_k (fun K80 hK81 => ?_)
     refine wp_seq_k fun K82 hK83 => rl ?_
     refine seqL4 kr ?_
     refine nl (hK83 _ _ ?_)
     have hq_ := ite_some h; clear h; rcases hq_ with ⟨c85, h⟩ | ⟨c85, h⟩
     · have c85 : i79 < (b1.length : Int) := c85
       refine wpRwI 34 (x := (decide (i79 < (b1.length : Int)))) (v := true) kr (decide_eq_true c85) ?_
       refine condT kr ?_
       refine wp_skip ?_
       refine hK81 _ _ ?_
       refine wp_seq_k (fun K86 hK87 => ?_)
       refine blockK (fun B88 hx89 hn90 hr91 ho92 hp93 => ?_)
       refine rl ?_
       have hq_ := guard_some h; clear h; obtain ⟨c95, h⟩ := hq_
       have c95 : 0 ≤ i79 := c95
       have hq_ := guard_some h; clear h; obtain ⟨c96, h⟩ := hq_
       have c96 : i79 ≤ (w64 (i79 + 256)) := c96
       have hq_ := guard_some h; clear h; obtain ⟨c97, h⟩ := hq_
       have c97 : (w64 (i79 + 256)) ≤ (b1.length : Int) := c97
       refine seqL5 kr ?_
       refine seqK rfl (does_cutLH (e := (tInt .u8)) (xs := b1) rfl Tryz.underlying23 kr (kv (.slice A2 b1.length c3)) (kv (.int .i64 i79)) (kv (.int .i64 (w64 (i79 + 256))))  c95 c96 c97 HR4 ?_)
       intro A98 c99 HR100
       have hq_ := guard_some h; clear h; obtain ⟨c101, h⟩ := hq_
       have c101 : (body73.length + ((b1.take (w64 (i79 + 256)).toNat).drop (i79).toNat).length) * 1 ≤ 140737488355328 := c101
       refine seqK rfl (does_append (e := (tInt .u8)) (E := 5) (xs := body73) (ys := ((b1.take (w64 (i79 + 256)).toNat).drop (i79).toNat)) rfl (kv (.slice A74 body73.length c75)) (kv (.slice A98 ((b1.take (w64 (i79 + 256)).toNat).drop (i79).toNat).length c99)) Tryz.underlying23 inf5 HO77 HS71 ((HR100.mono (L17.trans L69)).rc HS71) c101 (lim63 c101 (by decide)) ?_)
       intro A102 c103 s104 W105 HS106 HO107
       refine seqL1 kr ?_
       refine nl ?_
       refine hn90 _ _ ?_
       refine hK87 _ _ ?_
       refine rl ?_
       refine seqL3 kr ?_
       refine nl ?_
       refine hK66 n67 _ _ (Nat.lt_succ_self _) ?_
       exact ⟨f68, A102, c103, s104, (body73 ++ ((b1.take (w64 (i79 + 256)).toNat).drop (i79).toNat)), (w64 (i79 + 260)), (fun i_ => [Value.int .i64 i79, Value.slice A2 b1.length c3, Value.int .i64 (b1.length : Int), Value.bool true, Value.int .i64 i79, Value.int .i64 (w64 (i79 + 260)), Value.slice A74 body73.length c75, Value.slice A2 b1.length c3, Value.int .i64 i79, Value.int .i64 i79, Value.int .i64 (w64 (i79 + 256)), Value.slice A98 ((b1.take (w64 (i79 + 256)).toNat).drop (i79).toNat).length c99, Value.slice A102 (body73 ++ ((b1.take (w64 (i79 + 256)).toNat).drop (i79).toNat)).length c103].getD i_ undef), L69, HS106, HO107, h, kr⟩
     · have c85 : ¬ (i79 < (b1.length : Int)) := c85
       refine wpRwI 34 (x := (decide (i79 < (b1.length : Int)))) (v := false) kr (decide_eq_false c85) ?_
       refine condF kr ?_
       refine wp_exit ?_
       refine hx59 _ _ ?_
       exact J120 f68 A74 c75 s76 body73 (fun i_ => [Value.int .i64 i79, Value.int .i64 i79, Value.slice A2 b1.length c3, Value.int .i64 (b1.length : Int), Value.bool false, (j72 4), (j72 5), (j72 6), (j72 7), (j72 8), (j72 9), (j72 10), (j72 11), (j72 12)].getD i_ undef) W70 _ L69 h HS71 HO77 kr

set_option maxRecDepth 100000 in
set_option maxHeartbeats 4000000 in
theorem spykeep3_filed.calls (k : Nat)   {t w : World} {f : FM} {H : List Seg} (HS : St t w f (H)) (HA : TabF Tryz.prog "strings.asciiSpace" .u8 Go.Lib.asciiSpaceTab f) (HM : VarI 5 f) (HT : TabF Tryz.prog "internal/strconv.uint64pow10" .u64 Go.Lib.pow10Tab f) (rr1 : Bool) (h : spykeep3_filed k = some rr1) :
    Calls Tryz.prog 9 #[] w (fun e w' => ∃ (g : FM), e = .returned (Value.bool rr1) ∧ FM.le f g ∧ St t w' g (H)) := by
 unfold spykeep3_filed at h
 refine enter Tryz.func9 rfl (tm := #[uV, uV, uV, uV, uV, uV, uV, uV, uV, uV, uV, uV, uV, uV, uV, uV, uV, uV, uV, uV, uV, uV, uV, uV, uV, uV, uV, uV, uV, uV, uV, uV, uV, uV, uV, uV, uV, uV, uV, uV, uV, uV, uV, uV, uV, uV]) kr ?_
 intro B hret hnor hnp
 refine wp_seq_k fun K1 hK2 => rl ?_
 refine seqL1 kr ?_
 refine nl (hK2 _ _ ?_)
 refine wp_seq_k fun K3 hK4 => rl ?_
 refine seqL1 kr ?_
 refine seqK rfl (does_lit (e := ty_Card) (E := 51) (vs := #[(0, Value.agg #[.string ⟨#[65]⟩, .string ⟨#[51]⟩, .string ⟨#[98, 101, 97, 116]⟩, .string ⟨#[]⟩])]) (cs := #[.string ⟨#[65]⟩, .string ⟨#[51]⟩, .string ⟨#[98, 101, 97, 116]⟩, .string ⟨#[]⟩]) (xs := ([(⟨(⟨#[65]⟩ : ByteArray), (⟨#[51]⟩ : ByteArray), (⟨#[98, 101, 97, 116]⟩ : ByteArray), (⟨#[]⟩ : ByteArray)⟩ : S_Card)] : List S_Card)) rfl Tryz.underlying27 kr kr ⟨[.string ⟨#[65]⟩, .string ⟨#[51]⟩, .string ⟨#[98, 101, 97, 116]⟩, .string ⟨#[]⟩], _, rfl, rfl, rfl⟩ rfl HS ?_ (by decide))
 intro b5 W6 s7 HS8 _ HO9
 refine seqK rfl (does_lit (e := (tInt .i64)) (E := 3) (vs := #[(0, Value.int .i64 9)]) (cs := #[.int .i64 9]) (xs := ([9] : List Int)) rfl Tryz.underlying22 kr kr ⟨[.int .i64 9], _, rfl, rfl, rfl⟩ rfl HS8 ?_ (by decide))
 intro b11 W12 s13 HS14 _ HO15
 refine seqL1 kr ?_
 refine seqK rfl (does_alloc (z := Value.agg #[.int .i64 0, .int .i64 0, .slice none 0 0, .slice none 0 0]) (cs := #[.int .i64 0, .int .i64 0, .slice none 0 0, .slice none 0 0]) rfl kr rfl HS14 ?_)
 intro b17 W18 HS19
 refine seqK rfl (does_store (n := 4) (vs := [.int .i64 1, .int .i64 1, .slice (some ⟨b5, 0, none⟩) ([(⟨(⟨#[65]⟩ : ByteArray), (⟨#[51]⟩ : ByteArray), (⟨#[98, 101, 97, 116]⟩ : ByteArray), (⟨#[]⟩ : ByteArray)⟩ : S_Card)] : List S_Card).length 1, .slice (some ⟨b11, 0, none⟩) ([9] : List Int).length 1]) (cs' := #[.int .i64 1, .int .i64 1, .slice (some ⟨b5, 0, none⟩) ([(⟨(⟨#[65]⟩ : ByteArray), (⟨#[51]⟩ : ByteArray), (⟨#[98, 101, 97, 116]⟩ : ByteArray), (⟨#[]⟩ : ByteArray)⟩ : S_Card)] : List S_Card).length 1, .slice (some ⟨b11, 0, none⟩) ([9] : List Int).length 1]) rfl kr (kv (.pointer (some ⟨b17, 0, none⟩))) (kv (.agg #[.int .i64 1, .int .i64 1, .slice (some ⟨b5, 0, none⟩) ([(⟨(⟨#[65]⟩ : ByteArray), (⟨#[51]⟩ : ByteArray), (⟨#[98, 101, 97, 116]⟩ : ByteArray), (⟨#[]⟩ : ByteArray)⟩ : S_Card)] : List S_Card).length 1, .slice (some ⟨b11, 0, none⟩) ([9] : List Int).length 1])) rfl rfl (by intro u_ hu_; simp only [List.mem_cons, List.not_mem_nil, or_false] at hu_; rcases hu_ with rfl | rfl | rfl | rfl <;> rfl) HS19 (Nat.le_of_ble_eq_true rfl) kr ?_)
 intro W21 HS22
 refine nl (hK4 _ _ ?_)
 refine wp_seq_k fun K23 hK24 => rl ?_
 refine seqK rfl (does_run (run_loadN (n := 4) rfl Tryz.underlying29 rfl kr (kv (.pointer (some ⟨b17, 0, none⟩))) (cs := [.int .i64 1, .int .i64 1, .slice (some ⟨b5, 0, none⟩) ([(⟨(⟨#[65]⟩ : ByteArray), (⟨#[51]⟩ : ByteArray), (⟨#[98, 101, 97, 116]⟩ : ByteArray), (⟨#[]⟩ : ByteArray)⟩ : S_Card)] : List S_Card).length 1, .slice (some ⟨b11, 0, none⟩) ([9] : List Int).length 1]) rfl (HS22.cells 0 4 _ rfl)) ?_)
 have HS25 := HS22.u2
 obtain ⟨f26, L27, HS28, HR29, th30⟩ := HO9.lend HS25
 have HS31 := HS28.u1
 obtain ⟨f32, L33, HS34, HR35, th36⟩ := (HO15.mono L27).lend HS31
 have hq_ := bind_some h; clear h; obtain ⟨⟨vt37, vt38⟩, hc39, h⟩ := hq_
 refine seqK rfl (does_call (f := 7) (args := #[.agg #[.int .i64 1, .int .i64 1, .slice (some ⟨b5, 0, none⟩) ([(⟨(⟨#[65]⟩ : ByteArray), (⟨#[51]⟩ : ByteArray), (⟨#[98, 101, 97, 116]⟩ : ByteArray), (⟨#[]⟩ : ByteArray)⟩ : S_Card)] : List S_Card).length 1, .slice (some ⟨b11, 0, none⟩) ([9] : List Int).length 1]]) kr (frame_Encode.calls k (some ⟨b5, 0, none⟩) 1 (some ⟨b11, 0, none⟩) 1 (⟨1, 1, ([(⟨(⟨#[65]⟩ : ByteArray), (⟨#[51]⟩ : ByteArray), (⟨#[98, 101, 97, 116]⟩ : ByteArray), (⟨#[]⟩ : ByteArray)⟩ : S_Card)] : List S_Card), ([9] : List Int)⟩ : S_Frame) HS34 (HR29.mono L33) HR35 (HA.mono (L27.trans L33)) (HT.mono (L27.trans L33)) vt37 vt38 hc39) ?_)
 rintro _ W42 ⟨f40, A44, c45, s46, rfl, L41, HS43, HO47⟩
 refine ⟨_, rfl, ?_⟩
 obtain ⟨f49, L50, HS51⟩ := th36 L41 HS43
 obtain ⟨f52, L53, HS54⟩ := th30 L50 HS51
 replace HO47 := HO47.flat (g := f52) (fun _ _ _ _ h_ => h_)
 refine seqL5 kr ?_
 refine nl (hK24 _ _ ?_)
 refine wp_seq_k fun K55 hK56 => rl ?_
 have HS57 := HS54.u2
 obtain ⟨f58, L59, HS60, HR61⟩ := HO47.freeze HS57
 have hq_ := bind_some h; clear h; obtain ⟨⟨vt62, vt63⟩, hc64, h⟩ := hq_
 refine seqL1 kr ?_
 refine seqK rfl (does_call (f := 12) (args := #[.slice A44 vt37.length c45]) kr (frame_Decode.calls k A44 c45 vt37 HS60 HR61 (HA.mono (L53.trans L59)) (HM.mono (L53.trans L59)) (HT.mono (L53.trans L59)) vt62 vt63 hc64) ?_)
 rintro _ W67 ⟨f65, A69, c70, A72, c73, s74, rfl, L66, HS68, HR71, HO75⟩
 refine ⟨_, rfl, ?_⟩
 refine seqL3 kr ?_
 refine seqK rfl (does_alloc (z := Value.agg #[.int .i64 0, .int .i64 0, .slice none 0 0, .slice none 0 0]) (cs := #[.int .i64 0, .int .i64 0, .slice none 0 0, .slice none 0 0]) rfl kr rfl HS68 ?_)
 intro b77 W78 HS79
 refine seqK rfl (does_store (n := 4) (vs := [.int .i64 vt62.W, .int .i64 vt62.H, .slice A69 vt62.Cards.length c70, .slice A72 vt62.Counts.length c73]) (cs' := #[.int .i64 vt62.W, .int .i64 vt62.H, .slice A69 vt62.Cards.length c70, .slice A72 vt62.Counts.length c73]) rfl kr (kv (.pointer (some ⟨b77, 0, none⟩))) (kv (.agg #[.int .i64 vt62.W, .int .i64 vt62.H, .slice A69 vt62.Cards.length c70, .slice A72 vt62.Counts.length c73])) rfl rfl (by intro u_ hu_; simp only [List.mem_cons, List.not_mem_nil, or_false] at hu_; rcases hu_ with rfl | rfl | rfl | rfl <;> rfl) HS79 (Nat.le_of_ble_eq_true rfl) kr ?_)
 intro W81 HS82
 refine seqL1 kr ?_
 refine nl (hK56 _ _ ?_)
 refine wp_seq_k fun K83 hK84 => rl ?_
 refine seqK rfl (does_run (run_loadN (n := 4) rfl Tryz.underlying29 rfl kr (kv (.pointer (some ⟨b77, 0, none⟩))) (cs := [.int .i64 vt62.W, .int .i64 vt62.H, .slice A69 vt62.Cards.length c70, .slice A72 vt62.Counts.length c73]) rfl (HS82.cells 0 4 _ rfl)) ?_)
 have HS85 := HS82.u1
 obtain ⟨f86, L87, HS88, HR89, th90⟩ := HO75.lend HS85
 have hq_ := bind_some h; clear h; obtain ⟨⟨vt91, vt92⟩, hc93, h⟩ := hq_
 refine seqK rfl (does_call (f := 19) (args := #[.agg #[.int .i64 vt62.W, .int .i64 vt62.H, .slice A69 vt62.Cards.length c70, .slice A72 vt62.Counts.length c73], .string ⟨#[65]⟩, .string ⟨#[116, 105, 99, 107]⟩]) kr (frame_Number.calls k A69 c70 A72 c73 vt62 (⟨#[65]⟩ : ByteArray) (⟨#[116, 105, 99, 107]⟩ : ByteArray) HS88 (HR71.mono L87) HR89 (HT.mono (L53.trans (L59.trans (L66.trans L87)))) vt91 vt92 hc93) ?_)
 rintro _ W96 ⟨f94, rfl, L95, HS97⟩
 refine ⟨_, rfl, ?_⟩
 obtain ⟨f98, L99, HS100⟩ := th90 L95 HS97
 refine seqL5 kr ?_
 refine nl (hK84 _ _ ?_)
 refine wp_seq_k fun K101 hK102 => rl ?_
 refine seqL3 kr ?_
 have hq_ := ite_some h; clear h; rcases hq_ with ⟨c103, h⟩ | ⟨c103, h⟩
 · have c103 : vt38 = 0 := c103
   refine seqRwI 28 (x := (vt38 == 0)) (v := true) kr (beq_iff_eq.mpr c103) ?_
   refine seqRwI 29 (x := (vt38 == 0)) (v := true) kr (beq_iff_eq.mpr c103) ?_
   refine seqL4 kr ?_
   have hq_ := ite_some h; clear h; rcases hq_ with ⟨c104, h⟩ | ⟨c104, h⟩
   · have c104 : vt63 = 0 := c104
     refine seqRwI 31 (x := (vt63 == 0)) (v := true) kr (beq_iff_eq.mpr c104) ?_
     refine seqRwI 32 (x := (vt63 == 0)) (v := true) kr (beq_iff_eq.mpr c104) ?_
     refine seqRwI 33 (x := (vt63 == 0)) (v := true) kr (beq_iff_eq.mpr c104) ?_
     refine seqL4 kr ?_
     have hq_ := ite_some h; clear h; rcases hq_ with ⟨c105, h⟩ | ⟨c105, h⟩
     · have c105 : vt92 = 0 := c105
       refine seqRwI 35 (x := (vt92 == 0)) (v := true) kr (beq_iff_eq.mpr c105) ?_
       refine seqRwI 36 (x := (vt92 == 0)) (v := true) kr (beq_iff_eq.mpr c105) ?_
       refine seqRwI 37 (x := (vt92 == 0)) (v := true) kr (beq_iff_eq.mpr c105) ?_
       refine seqL4 kr ?_
       have hq_ := ite_some h; clear h; rcases hq_ with ⟨c106, h⟩ | ⟨c106, h⟩
       · have c106 : vt91 = 3000 := c106
         refine seqRwI 39 (x := (vt91 == 3000)) (v := true) kr (beq_iff_eq.mpr c106) ?_
         refine seqRwI 40 (x := (vt91 == 3000)) (v := true) kr (beq_iff_eq.mpr c106) ?_
         refine seqRwI 41 (x := (vt91 == 3000)) (v := true) kr (beq_iff_eq.mpr c106) ?_
         refine seqL5 kr ?_
         refine nl (hK102 _ _ ?_)
         refine wp_ret ?_
         refine hret _ _ ?_
         refine ends_still (v := Value.bool ((vt37.length : Int) == 780)) kr kr ?_
         have HS107 := HS100.drop
         have HS108 := HS107.drop
         have HS109 := HS108.drop
         have HS110 := HS109.drop
         have HS111 := HS110.drop
         injection h with h
         subst h
         exact ⟨f98, rfl, (L53.trans (L59.trans (L66.trans L99))), HS111⟩
       · have c106 : ¬ (vt91 = 3000) := c106
         refine seqRwI 39 (x := (vt91 == 3000)) (v := false) kr (beq_eq_false_iff_ne.mpr c106) ?_
         refine seqRwI 40 (x := (vt91 == 3000)) (v := false) kr (beq_eq_false_iff_ne.mpr c106) ?_
         refine seqRwI 41 (x := (vt91 == 3000)) (v := false) kr (beq_eq_false_iff_ne.mpr c106) ?_
         refine seqL5 kr ?_
         refine nl (hK102 _ _ ?_)
         refine wp_ret ?_
         refine hret _ _ ?_
         refine ends_still (v := Value.bool false) kr kr ?_
         have HS112 := HS100.drop
         have HS113 := HS112.drop
         have HS114 := HS113.drop
         have HS115 := HS114.drop
         have HS116 := HS115.drop
         injection h with h
         subst h
         exact ⟨f98, rfl, (L53.trans (L59.trans (L66.trans L99))), HS116⟩
     · have c105 : ¬ (vt92 = 0) := c105
       refine seqRwI 35 (x := (vt92 == 0)) (v := false) kr (beq_eq_false_iff_ne.mpr c105) ?_
       refine seqRwI 36 (x := (vt92 == 0)) (v := false) kr (beq_eq_false_iff_ne.mpr c105) ?_
       refine seqRwI 37 (x := (vt92 == 0)) (v := false) kr (beq_eq_false_iff_ne.mpr c105) ?_
       refine seqL9 kr ?_
       refine nl (hK102 _ _ ?_)
       refine wp_ret ?_
       refine hret _ _ ?_
       refine ends_still (v := Value.bool false) kr kr ?_
       have HS117 := HS100.drop
       have HS118 := HS117.drop
       have HS119 := HS118.drop
       have HS120 := HS119.drop
       have HS121 := HS120.drop
       injection h with h
       subst h
       exact ⟨f98, rfl, (L53.trans (L59.trans (L66.trans L99))), HS121⟩
   · have c104 : ¬ (vt63 = 0) := c104
     refine seqRwI 31 (x := (vt63 == 0)) (v := false) kr (beq_eq_false_iff_ne.mpr c104) ?_
     refine seqRwI 32 (x := (vt63 == 0)) (v := false) kr (beq_eq_false_iff_ne.mpr c104) ?_
     refine seqRwI 33 (x := (vt63 == 0)) (v := false) kr (beq_eq_false_iff_ne.mpr c104) ?_
     refine seqL13 kr ?_
     refine nl (hK102 _ _ ?_)
     refine wp_ret ?_
     refine hret _ _ ?_
     refine ends_still (v := Value.bool false) kr kr ?_
     have HS122 := HS100.drop
     have HS123 := HS122.drop
     have HS124 := HS123.drop
     have HS125 := HS124.drop
     have HS126 := HS125.drop
     injection h with h
     subst h
     exact ⟨f98, rfl, (L53.trans (L59.trans (L66.trans L99))), HS126⟩
 · have c103 : ¬ (vt38 = 0) := c103
   refine seqRwI 28 (x := (vt38 == 0)) (v := false) kr (beq_eq_false_iff_ne.mpr c103) ?_
   refine seqRwI 29 (x := (vt38 == 0)) (v := false) kr (beq_eq_false_iff_ne.mpr c103) ?_
   refine seqL17 kr ?_
   refine nl (hK102 _ _ ?_)
   refine wp_ret ?_
   refine hret _ _ ?_
   refine ends_still (v := Value.bool false) kr kr ?_
   have HS127 := HS100.drop
   have HS128 := HS127.drop
   have HS129 := HS128.drop
   have HS130 := HS129.drop
   have HS131 := HS130.drop
   injection h with h
   subst h
   exact ⟨f98, rfl, (L53.trans (L59.trans (L66.trans L99))), HS131⟩

end Go.Sp.U5
