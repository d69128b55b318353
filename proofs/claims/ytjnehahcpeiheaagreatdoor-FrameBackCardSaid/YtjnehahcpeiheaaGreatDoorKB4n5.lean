import Derived.Test.YtjnehahcpeiheaaGreatDoorProg
import Derived.Test.YtjnehahcpeiheaaGreatDoorSpCopy
import Derived.Test.YtjnehahcpeiheaaGreatDoorFB4
import Derived.Test.YtjnehahcpeiheaaGreatDoorSpStr
import Derived.Test.YtjnehahcpeiheaaGreatDoorSpLib
import Derived.Test.YtjnehahcpeiheaaGreatDoorSpBld
import Derived.Test.YtjnehahcpeiheaaGreatDoorConv
import Derived.Test.YtjnehahcpeiheaaGreatDoorLibs
import Derived.Test.YtjnehahcpeiheaaGreatDoorSpRound
import Derived.Test.YtjnehahcpeiheaaGreatDoorKB4n0
import Derived.Test.YtjnehahcpeiheaaGreatDoorKB4n1
import Derived.Test.YtjnehahcpeiheaaGreatDoorKB4n2
import Derived.Test.YtjnehahcpeiheaaGreatDoorKB4n3
import Derived.Test.YtjnehahcpeiheaaGreatDoorKB4n4
namespace Go.Sp.B4
open Go Go.Sp Go.Proofs
set_option linter.unusedVariables false
attribute [local irreducible] wpList AnyL Code.wp Calls Does Code.wpIn wpListIn CallsIn bodyPostM LeavesInM
set_option maxRecDepth 100000 in
set_option maxHeartbeats 4000000 in
theorem frame_Decode.calls (k : Nat) (A2 : Option Addr) (c3 : Nat) (b1 : List Int) {t w : World} {f : FM} {H : List Seg} (HS : St t w f (H)) (HR4 : SlR (tInt .u8) f A2 c3 b1) (HA : TabF Tryz.prog "strings.asciiSpace" .u8 Go.Lib.asciiSpaceTab f) (HM : VarI 5 f) (HT : TabF Tryz.prog "internal/strconv.uint64pow10" .u64 Go.Lib.pow10Tab f) (rr1 : S_Frame) (rr2 : Int) (h : frame_Decode k b1 = some (rr1, rr2)) :
    Calls Tryz.prog 12 #[.slice A2 b1.length c3] w (fun e w' => ∃ (g : FM) (A519 : Option Addr) (c520 : Nat) (A521 : Option Addr) (c522 : Nat) (s523 : Seg), e = .returned (Value.tuple #[.agg #[.int .i64 rr1.W, .int .i64 rr1.H, .slice A519 rr1.Cards.length c520, .slice A521 rr1.Counts.length c522], .int .i64 rr2]) ∧ FM.le f g ∧ St t w' g (s523 :: H) ∧ SlR ty_Card g A519 c520 rr1.Cards ∧ Own (tInt .i64) 3 g A521 c522 s523 rr1.Counts) := by
 unfold frame_Decode at h
 refine enter Tryz.func12 rfl (tm := #[.slice A2 b1.length c3, uV, uV, uV, uV, uV, uV, uV, uV, uV, uV, uV, uV, uV, uV, uV, uV, uV, uV, uV, uV, uV, uV, uV, uV, uV, uV, uV, uV, uV, uV, uV, uV, uV, uV, uV, uV, uV, uV, uV, uV, uV, uV, uV, uV, uV, uV, uV, uV, uV, uV, uV, uV, uV, uV, uV, uV, uV, uV, uV, uV, uV, uV, uV, uV, uV, uV, uV, uV, uV, uV, uV, uV, uV, uV, uV, uV, uV, uV, uV, uV, uV, uV, uV, uV, uV, uV, uV, uV, uV, uV, uV, uV, uV, uV, uV, uV, uV, uV, uV, uV, uV, uV, uV, uV, uV, uV, uV, uV, uV, uV, uV, uV, uV, uV]) kr ?_
 intro B hret hnor hnp
 refine wp_seq_k fun K5 hK6 => rl ?_
 refine seqK rfl (does_alloc (z := Value.agg #[.int .i64 0, .int .i64 0, .slice none 0 0, .slice none 0 0]) (cs := #[.int .i64 0, .int .i64 0, .slice none 0 0, .slice none 0 0]) rfl kr rfl HS ?_)
 intro b7 W8 HS9
 refine seqL1 kr ?_
 refine nl (hK6 _ _ ?_)
 refine wp_seq_k fun K11 hK12 => rl ?_
 have hq_ := bind_some h; clear h; obtain ⟨⟨vt13, vt14⟩, hc15, h⟩ := hq_
 refine seqL1 kr ?_
 refine seqK rfl (does_call (f := 11) (args := #[.slice A2 b1.length c3]) kr (frame_Verify.calls k A2 c3 b1 HS9 HR4 vt13 vt14 hc15) ?_)
 rintro _ W18 ⟨f16, A20, c21, s22, rfl, L17, HS19, HO23⟩
 refine ⟨_, rfl, ?_⟩
 refine seqL5 kr ?_
 refine nl (hK12 _ _ ?_)
 refine wp_seq_k (fun K25 hK26 => ?_)
 refine blockK (fun B27 hx28 hn29 hr30 ho31 hp32 => ?_)
 refine wp_seq_k fun K34 hK35 => rl ?_
 refine seqL3 kr ?_
 refine nl (hK35 _ _ ?_)
 have hq_ := ite_some h; clear h; rcases hq_ with ⟨c37, h⟩ | ⟨c37, h⟩
 · have c37 : vt14 ≠ 0 := c37
   refine wpRwI 21 (x := (vt14 != 0)) (v := true) kr (bne_iff_ne.mpr c37) ?_
   refine wpRwI 23 (x := (vt14 != 0)) (v := true) kr (bne_iff_ne.mpr c37) ?_
   refine condT kr ?_
   refine wp_seq_k fun K38 hK39 => rl ?_
   have HS40 := HS19.u1
   refine seqL2 kr ?_
   refine seqK rfl (does_store (n := 4) (vs := [.int .i64 0, .int .i64 0, .slice none 0 0, .slice none 0 0]) (cs' := #[.int .i64 0, .int .i64 0, .slice none 0 0, .slice none 0 0]) rfl kr (kv (.pointer (some ⟨b7, 0, none⟩))) (kv (.agg #[.int .i64 0, .int .i64 0, .slice none 0 0, .slice none 0 0])) rfl rfl (by intro u_ hu_; simp only [List.mem_cons, List.not_mem_nil, or_false] at hu_; rcases hu_ with rfl | rfl | rfl | rfl <;> rfl) HS40 (Nat.le_of_ble_eq_true rfl) kr ?_)
   intro W41 HS42
   refine seqL1 kr ?_
   refine nl (hK39 _ _ ?_)
   refine wp_ret ?_
   refine hr30 _ _ ?_
   refine hret _ _ ?_
   have HS444 := HS42.cons_nil
   refine ends (v := Value.tuple #[.agg #[.int .i64 0, .int .i64 0, .slice none 0 0, .slice none 0 0], .int .i64 vt14]) (results2 (q1 := .cell 2 29) (q2 := .tmp 3) kr (resN (n := 4) (cs := [.int .i64 0, .int .i64 0, .slice none 0 0, .slice none 0 0]) (kv (.pointer (some ⟨b7, 0, none⟩))) Tryz.underlying29 rfl kr rfl (HS444.u1.cells 0 4 _ rfl)) (resT (kv (.int .i64 vt14)))) kr ?_
   have HS446 := HS444.u2
   have HS447 := HS446.u2
   have HS448 := HS447.drop
   have HS449 := HS448.drop
   injection h with h
   injection h with h0_ h
   subst h0_ h
   exact ⟨f16, none, 0, none, 0, [], rfl, L17, HS449, (SlR.nil _ _), (Own.nil _)⟩
 · have c37 : ¬ (vt14 ≠ 0) := c37
   refine wpRwI 21 (x := (vt14 != 0)) (v := false) kr (bne_eq_false_iff_eq.mpr (Decidable.of_not_not c37)) ?_
   refine wpRwI 23 (x := (vt14 != 0)) (v := false) kr (bne_eq_false_iff_eq.mpr (Decidable.of_not_not c37)) ?_
   refine condF kr ?_
   refine wp_seq_k fun K43 hK44 => rl ?_
   refine seqL4 kr ?_
   refine nl (hK44 _ _ ?_)
   have hq_ := ite_some h; clear h; rcases hq_ with ⟨c46, h⟩ | ⟨c46, h⟩
   · have c46 : (vt13.length : Int) > 0 := c46
     refine wpRwI 26 (x := (decide ((vt13.length : Int) > 0))) (v := true) kr (decide_eq_true c46) ?_
     refine wpRwI 29 (x := (decide ((vt13.length : Int) > 0))) (v := true) kr (decide_eq_true c46) ?_
     refine condT kr ?_
     refine wp_seq_k fun K47 hK48 => rl ?_
     have HS49 := HS19.u1
     refine seqL1 kr ?_
     refine seqK rfl (does_store (n := 4) (vs := [.int .i64 0, .int .i64 0, .slice none 0 0, .slice none 0 0]) (cs' := #[.int .i64 0, .int .i64 0, .slice none 0 0, .slice none 0 0]) rfl kr (kv (.pointer (some ⟨b7, 0, none⟩))) (kv (.agg #[.int .i64 0, .int .i64 0, .slice none 0 0, .slice none 0 0])) rfl rfl (by intro u_ hu_; simp only [List.mem_cons, List.not_mem_nil, or_false] at hu_; rcases hu_ with rfl | rfl | rfl | rfl <;> rfl) HS49 (Nat.le_of_ble_eq_true rfl) kr ?_)
     intro W50 HS51
     refine seqL1 kr ?_
     refine nl (hK48 _ _ ?_)
     refine wp_ret ?_
     refine hr30 _ _ ?_
     refine hret _ _ ?_
     have HS450 := HS51.cons_nil
     refine ends (v := Value.tuple #[.agg #[.int .i64 0, .int .i64 0, .slice none 0 0, .slice none 0 0], .int .i64 13]) (results2 (q1 := .cell 2 29) (q2 := .tmp 3) kr (resN (n := 4) (cs := [.int .i64 0, .int .i64 0, .slice none 0 0, .slice none 0 0]) (kv (.pointer (some ⟨b7, 0, none⟩))) Tryz.underlying29 rfl kr rfl (HS450.u1.cells 0 4 _ rfl)) (resT (kv (.int .i64 13)))) kr ?_
     have HS452 := HS450.u2
     have HS453 := HS452.u2
     have HS454 := HS453.drop
     have HS455 := HS454.drop
     injection h with h
     injection h with h0_ h
     subst h0_ h
     exact ⟨f16, none, 0, none, 0, [], rfl, L17, HS455, (SlR.nil _ _), (Own.nil _)⟩
   · have c46 : ¬ ((vt13.length : Int) > 0) := c46
     refine wpRwI 26 (x := (decide ((vt13.length : Int) > 0))) (v := false) kr (decide_eq_false c46) ?_
     refine wpRwI 29 (x := (decide ((vt13.length : Int) > 0))) (v := false) kr (decide_eq_false c46) ?_
     refine condF kr ?_
     refine wp_skip ?_
     refine hn29 _ _ ?_
     refine hK26 _ _ ?_
     refine wp_seq_k fun K52 hK53 => rl ?_
     refine seqL1 kr ?_
     refine nl (hK53 _ _ ?_)
     refine wp_seq_k (fun K54 hK55 => ?_)
     refine wp_seq_k fun K56 hK57 => rl ?_
     refine seqL1 kr ?_
     refine nl (hK57 _ _ ?_)
     refine blockK (fun B58 hx59 hn60 hr61 ho62 hp63 => ?_)
     have hq_ := bind_some h; clear h; obtain ⟨o64, hv119, h⟩ := hq_
     have J120 : ∀ (f108 : FM) (A114 : Option Addr) (c115 : Nat) (s116 : Seg) (body113 : List Int) (j112 : Nat → Value) (W110 : World) (a_ : Act), FM.le f16 f108 → some (body113) = some o64 → St t W110 f108 (s116 :: s22 :: [(b7, .cells #[.int .i64 0, .int .i64 0, .slice none 0 0, .slice none 0 0] 29 (0, 0))] :: H) → Own (tInt .u8) 5 f108 A114 c115 s116 body113 → a_ = ⟨#[.slice A2 b1.length c3, uV, pV b7 0, iV 0, .slice A20 vt13.length c21, iV vt14, .slice A114 body113.length c115, (j112 0), uV, uV, uV, uV, uV, uV, uV, uV, .tuple #[.slice A20 vt13.length c21, iV vt14], .slice A2 b1.length c3, .tuple #[.slice A20 vt13.length c21, iV vt14], .slice A20 vt13.length c21, iV vt14, fV, iV vt14, fV, uV, uV, fV, .slice A20 vt13.length c21, iV (vt13.length : Int), fV, uV, (j112 1), (j112 2), (j112 3), (j112 4), (j112 5), (j112 6), (j112 7), (j112 8), (j112 9), (j112 10), (j112 11), (j112 12), (j112 13), uV, uV, uV, uV, uV, uV, uV, uV, uV, uV, uV, uV, uV, uV, uV, uV, uV, uV, uV, uV, uV, uV, uV, uV, uV, uV, uV, uV, uV, uV, uV, uV, uV, uV, uV, uV, uV, uV, uV, uV, uV, uV, uV, uV, uV, uV, uV, uV, uV, uV, uV, uV, uV, uV, uV, uV, uV, uV, uV, uV, uV, uV, uV, uV, uV, uV, uV, uV, uV, uV, uV], []⟩ → K54 a_ W110 := by
      intro f108 A114 c115 s116 body113 j112 W110 a_ L109 hj121 HS111 HO117 hfr_; subst hfr_
      injection hj121 with hj121; subst hj121; try dsimp only at h
      refine hK55 _ _ ?_
      refine wp_seq_k fun K124 hK125 => rl ?_
      refine seqL1 kr ?_
      refine nl (hK125 _ _ ?_)
      refine wp_seq_k fun K126 hK127 => rl ?_
      refine seqL1 kr ?_
      refine nl (hK127 _ _ ?_)
      refine wp_seq_k (fun K128 hK129 => ?_)
      refine blockK (fun B130 hx131 hn132 hr133 ho134 hp135 => ?_)
      obtain ⟨f235, L236, HS237, HR238⟩ := HO117.freeze HS111
      have hq_ := bind_some h; clear h; obtain ⟨o239, hv345, h⟩ := hq_
      have JR347 : ∀ z_, some (Sum.inl z_) = some o239 → some z_ = some (rr1, rr2) := by
       intro z_ e_; injection e_ with e_; subst e_; exact h
      have J346 : ∀ (f333 : FM) (A339 : Option Addr) (c340 : Nat) (s341 : Seg) (cards338 : List S_Card) (vat344 : Int) (j337 : Nat → Value) (W335 : World) (a_ : Act), FM.le f235 f333 → some (Sum.inr (cards338, vat344)) = some o239 → St t W335 f333 (s341 :: s22 :: [(b7, .cells #[.int .i64 0, .int .i64 0, .slice none 0 0, .slice none 0 0] 29 (0, 0))] :: H) → Own ty_Card 51 f333 A339 c340 s341 cards338 → a_ = ⟨#[.slice A2 b1.length c3, uV, pV b7 0, (j337 0), .slice A20 vt13.length c21, iV vt14, .slice A114 body113.length c115, (j112 0), .slice A339 cards338.length c340, iV vat344, (j337 1), (j337 2), uV, uV, uV, uV, .tuple #[.slice A20 vt13.length c21, iV vt14], .slice A2 b1.length c3, .tuple #[.slice A20 vt13.length c21, iV vt14], .slice A20 vt13.length c21, iV vt14, fV, iV vt14, fV, uV, uV, fV, .slice A20 vt13.length c21, iV (vt13.length : Int), fV, uV, (j112 1), (j112 2), (j112 3), (j112 4), (j112 5), (j112 6), (j112 7), (j112 8), (j112 9), (j112 10), (j112 11), (j112 12), (j112 13), (j337 3), (j337 4), (j337 5), (j337 6), (j337 7), (j337 8), (j337 9), (j337 10), (j337 11), (j337 12), (j337 13), (j337 14), (j337 15), (j337 16), (j337 17), (j337 18), (j337 19), (j337 20), (j337 21), (j337 22), (j337 23), (j337 24), (j337 25), (j337 26), (j337 27), (j337 28), (j337 29), (j337 30), (j337 31), (j337 32), (j337 33), (j337 34), (j337 35), (j337 36), (j337 37), (j337 38), (j337 39), (j337 40), uV, uV, uV, uV, uV, uV, uV, uV, uV, uV, uV, uV, uV, uV, uV, uV, uV, uV, uV, uV, uV, uV, uV, uV, uV, uV, uV, uV, uV, uV, uV, uV, uV], []⟩ → K128 a_ W335 := by
       intro f333 A339 c340 s341 cards338 vat344 j337 W335 a_ L334 hj348 HS336 HO342 hfr_; subst hfr_
       injection hj348 with hj348; subst hj348; try dsimp only at h
       simp only [Sum.elim_inr] at h
       refine hK129 _ _ ?_
       refine wp_seq_k fun K356 hK357 => rl ?_
       have hq_ := guard_some h; clear h; obtain ⟨c358, h⟩ := hq_
       have c358 : 0 ≤ (mn (body113.length : Int) (w64 ((w64 ((w64 (Int.tdiv vat344 256)) + 1)) * 256))) := c358
       have hq_ := guard_some h; clear h; obtain ⟨c359, h⟩ := hq_
       have c359 : (mn (body113.length : Int) (w64 ((w64 ((w64 (Int.tdiv vat344 256)) + 1)) * 256))) ≤ (body113.length : Int) := c359
       refine seqL9 kr ?_
       refine seqK rfl (does_cutL (e := (tInt .u8)) (xs := body113) rfl Tryz.underlying23 kr (kv (.slice A114 body113.length c115)) (kv (.int .i64 (mn (body113.length : Int) (w64 ((w64 ((w64 (Int.tdiv vat344 256)) + 1)) * 256))))) c358 c359 HR238 ?_)
       intro A360 c361 HR362
       obtain ⟨f363, L364, HS365, HR366⟩ := HO342.freeze HS336
       have hq_ := bind_some h; clear h; obtain ⟨⟨vt367, vt368⟩, hc369, h⟩ := hq_
       refine seqK rfl (does_call (f := 32) (args := #[.slice A339 cards338.length c340, .slice A360 (body113.drop (mn (body113.length : Int) (w64 ((w64 ((w64 (Int.tdiv vat344 256)) + 1)) * 256))).toNat).length c361]) kr (frame_whole.calls k A339 c340 A360 c361 cards338 (body113.drop (mn (body113.length : Int) (w64 ((w64 ((w64 (Int.tdiv vat344 256)) + 1)) * 256))).toNat) HS365 HR366 (HR362.mono (L334.trans L364)) vt367 vt368 hc369) ?_)
       rintro _ W372 ⟨f370, A374, c375, A377, c378, s379, rfl, L371, HS373, HR376, HO380⟩
       refine ⟨_, rfl, ?_⟩
       refine seqL3 kr ?_
       refine seqK rfl (does_alloc (z := Value.agg #[.int .i64 0, .int .i64 0, .slice none 0 0, .slice none 0 0]) (cs := #[.int .i64 0, .int .i64 0, .slice none 0 0, .slice none 0 0]) rfl kr rfl HS373 ?_)
       intro b382 W383 HS384
       refine seqK rfl (does_store (n := 4) (vs := [.int .i64 vt367.W, .int .i64 vt367.H, .slice A374 vt367.Cards.length c375, .slice A377 vt367.Counts.length c378]) (cs' := #[.int .i64 vt367.W, .int .i64 vt367.H, .slice A374 vt367.Cards.length c375, .slice A377 vt367.Counts.length c378]) rfl kr (kv (.pointer (some ⟨b382, 0, none⟩))) (kv (.agg #[.int .i64 vt367.W, .int .i64 vt367.H, .slice A374 vt367.Cards.length c375, .slice A377 vt367.Counts.length c378])) rfl rfl (by intro u_ hu_; simp only [List.mem_cons, List.not_mem_nil, or_false] at hu_; rcases hu_ with rfl | rfl | rfl | rfl <;> rfl) HS384 (Nat.le_of_ble_eq_true rfl) kr ?_)
       intro W386 HS387
       refine seqL1 kr ?_
       refine nl (hK357 _ _ ?_)
       refine wp_seq_k (fun K388 hK389 => ?_)
       refine wp_seq_k fun K390 hK391 => rl ?_
       refine seqL2 kr ?_
       refine nl (hK391 _ _ ?_)
       have hq_ := ite_some h; clear h; rcases hq_ with ⟨c393, h⟩ | ⟨c393, h⟩
       · have c393 : ¬ (vt368 = true) := c393
         refine wpRwI 97 (x := (!vt368)) (v := true) kr (congrArg (fun b_ => !b_) (show vt368 = false from (Bool.eq_false_iff.mpr c393)) : (!vt368) = true) ?_
         refine condT kr ?_
         refine wp_seq_k fun K394 hK395 => rl ?_
         have HS396 := HS387.u3
         refine seqL1 kr ?_
         refine seqK rfl (does_store (n := 4) (vs := [.int .i64 0, .int .i64 0, .slice none 0 0, .slice none 0 0]) (cs' := #[.int .i64 0, .int .i64 0, .slice none 0 0, .slice none 0 0]) rfl kr (kv (.pointer (some ⟨b7, 0, none⟩))) (kv (.agg #[.int .i64 0, .int .i64 0, .slice none 0 0, .slice none 0 0])) rfl rfl (by intro u_ hu_; simp only [List.mem_cons, List.not_mem_nil, or_false] at hu_; rcases hu_ with rfl | rfl | rfl | rfl <;> rfl) HS396 (Nat.le_of_ble_eq_true rfl) kr ?_)
         intro W397 HS398
         refine seqL1 kr ?_
         refine nl (hK395 _ _ ?_)
         refine wp_ret ?_
         refine hret _ _ ?_
         have HS476 := HS398.cons_nil
         refine ends (v := Value.tuple #[.agg #[.int .i64 0, .int .i64 0, .slice none 0 0, .slice none 0 0], .int .i64 3]) (results2 (q1 := .cell 2 29) (q2 := .tmp 3) kr (resN (n := 4) (cs := [.int .i64 0, .int .i64 0, .slice none 0 0, .slice none 0 0]) (kv (.pointer (some ⟨b7, 0, none⟩))) Tryz.underlying29 rfl kr rfl (HS476.u1.cells 0 4 _ rfl)) (resT (kv (.int .i64 3)))) kr ?_
         have HS478 := HS476.u4
         have HS479 := HS478.u4
         have HS480 := HS479.u4
         have HS481 := HS480.u4
         have HS482 := HS481.drop
         have HS483 := HS482.drop
         have HS484 := HS483.drop
         have HS485 := HS484.drop
         injection h with h
         injection h with h0_ h
         subst h0_ h
         exact ⟨f370, none, 0, none, 0, [], rfl, (L17.trans (L109.trans (L236.trans (L334.trans (L364.trans L371))))), HS485, (SlR.nil _ _), (Own.nil _)⟩
       · have c393 : ¬ (¬ (vt368 = true)) := c393
         refine wpRwI 97 (x := (!vt368)) (v := false) kr (congrArg (fun b_ => !b_) (show vt368 = true from (Decidable.of_not_not c393)) : (!vt368) = false) ?_
         refine condF kr ?_
         refine wp_skip ?_
         refine hK389 _ _ ?_
         refine wp_seq_k (fun K399 hK400 => ?_)
         refine wp_seq_k fun K401 hK402 => rl ?_
         refine seqK rfl (does_run (run_loadN (n := 4) rfl Tryz.underlying29 rfl kr (kv (.pointer (some ⟨b382, 0, none⟩))) (cs := [.int .i64 vt367.W, .int .i64 vt367.H, .slice A374 vt367.Cards.length c375, .slice A377 vt367.Counts.length c378]) rfl (HS387.cells 0 4 _ rfl)) ?_)
         have HS403 := HS387.u1
         obtain ⟨f404, L405, HS406, HR407, th408⟩ := HO380.lend HS403
         have hq_ := bind_some h; clear h; obtain ⟨⟨vt409, vt410⟩, hc411, h⟩ := hq_
         refine seqK rfl (does_call (f := 7) (args := #[.agg #[.int .i64 vt367.W, .int .i64 vt367.H, .slice A374 vt367.Cards.length c375, .slice A377 vt367.Counts.length c378]]) kr (frame_Encode.calls k A374 c375 A377 c378 vt367 HS406 (HR376.mono L405) HR407 (HA.mono (L17.trans (L109.trans (L236.trans (L334.trans (L364.trans (L371.trans L405))))))) (HT.mono (L17.trans (L109.trans (L236.trans (L334.trans (L364.trans (L371.trans L405))))))) vt409 vt410 hc411) ?_)
         rintro _ W414 ⟨f412, A416, c417, s418, rfl, L413, HS415, HO419⟩
         refine ⟨_, rfl, ?_⟩
         obtain ⟨f421, L422, HS423⟩ := th408 L413 HS415
         replace HO419 := HO419.flat (g := f421) (fun _ _ _ _ h_ => h_)
         refine seqL5 kr ?_
         refine nl (hK402 _ _ ?_)
         refine wp_seq_k fun K424 hK425 => rl ?_
         refine seqL3 kr ?_
         have hq_ := ite_some h; clear h; rcases hq_ with ⟨c426, h⟩ | ⟨c426, h⟩
         · have c426 : vt410 ≠ 0 := c426
           refine seqRwI 105 (x := (vt410 != 0)) (v := true) kr (bne_iff_ne.mpr c426) ?_
           refine seqRwI 106 (x := (vt410 != 0)) (v := true) kr (bne_iff_ne.mpr c426) ?_
           refine seqL6 kr ?_
           refine nl (hK425 _ _ ?_)
           refine condT kr ?_
           refine wp_seq_k fun K427 hK428 => rl ?_
           have HS429 := HS423.u4
           refine seqL1 kr ?_
           refine seqK rfl (does_store (n := 4) (vs := [.int .i64 0, .int .i64 0, .slice none 0 0, .slice none 0 0]) (cs' := #[.int .i64 0, .int .i64 0, .slice none 0 0, .slice none 0 0]) rfl kr (kv (.pointer (some ⟨b7, 0, none⟩))) (kv (.agg #[.int .i64 0, .int .i64 0, .slice none 0 0, .slice none 0 0])) rfl rfl (by intro u_ hu_; simp only [List.mem_cons, List.not_mem_nil, or_false] at hu_; rcases hu_ with rfl | rfl | rfl | rfl <;> rfl) HS429 (Nat.le_of_ble_eq_true rfl) kr ?_)
           intro W430 HS431
           refine seqL1 kr ?_
           refine nl (hK428 _ _ ?_)
           refine wp_ret ?_
           refine hret _ _ ?_
           have HS486 := HS431.cons_nil
           refine ends (v := Value.tuple #[.agg #[.int .i64 0, .int .i64 0, .slice none 0 0, .slice none 0 0], .int .i64 3]) (results2 (q1 := .cell 2 29) (q2 := .tmp 3) kr (resN (n := 4) (cs := [.int .i64 0, .int .i64 0, .slice none 0 0, .slice none 0 0]) (kv (.pointer (some ⟨b7, 0, none⟩))) Tryz.underlying29 rfl kr rfl (HS486.u1.cells 0 4 _ rfl)) (resT (kv (.int .i64 3)))) kr ?_
           have HS488 := HS486.u5
           have HS489 := HS488.u5
           have HS490 := HS489.u5
           have HS491 := HS490.u5
           have HS492 := HS491.u5
           have HS493 := HS492.drop
           have HS494 := HS493.drop
           have HS495 := HS494.drop
           have HS496 := HS495.drop
           have HS497 := HS496.drop
           injection h with h
           injection h with h0_ h
           subst h0_ h
           exact ⟨f421, none, 0, none, 0, [], rfl, (L17.trans (L109.trans (L236.trans (L334.trans (L364.trans (L371.trans L422)))))), HS497, (SlR.nil _ _), (Own.nil _)⟩
         · have c426 : ¬ (vt410 ≠ 0) := c426
           refine seqRwI 105 (x := (vt410 != 0)) (v := false) kr (bne_eq_false_iff_eq.mpr (Decidable.of_not_not c426)) ?_
           refine seqRwI 106 (x := (vt410 != 0)) (v := false) kr (bne_eq_false_iff_eq.mpr (Decidable.of_not_not c426)) ?_
           refine seqL1 kr ?_
           refine seqG kr (does_run (run_bstr (f := _) rfl Tryz.underlying23 Tryz.underlying5 Tryz.underlying9 (kv (.slice A416 vt409.length c417)) ((HO419.mono (FM.le.refl _)).rc HS423.u1)) ?_)
           refine seqL1 kr ?_
           refine seqG kr (does_run (run_bstr (f := _) rfl Tryz.underlying23 Tryz.underlying5 Tryz.underlying9 (kv (.slice A2 b1.length c3)) ((HR4.mono (L17.trans (L109.trans (L236.trans (L334.trans (L364.trans (L371.trans L422))))))).rc HS423)) ?_)
           refine seqL2 kr ?_
           refine nl (hK425 _ _ ?_)
           have hq_ := ite_some h; clear h; rcases hq_ with ⟨c433, h⟩ | ⟨c433, h⟩
           · have c433 : (!((bstr vt409).toList == (bstr b1).toList)) = true := c433
             refine wpRwI 111 (x := (!((bstr vt409).toList == (bstr b1).toList))) (v := true) kr c433 ?_
             refine wpRwI 112 (x := (!((bstr vt409).toList == (bstr b1).toList))) (v := true) kr c433 ?_
             refine condT kr ?_
             refine wp_seq_k fun K434 hK435 => rl ?_
             have HS436 := HS423.u4
             refine seqL1 kr ?_
             refine seqK rfl (does_store (n := 4) (vs := [.int .i64 0, .int .i64 0, .slice none 0 0, .slice none 0 0]) (cs' := #[.int .i64 0, .int .i64 0, .slice none 0 0, .slice none 0 0]) rfl kr (kv (.pointer (some ⟨b7, 0, none⟩))) (kv (.agg #[.int .i64 0, .int .i64 0, .slice none 0 0, .slice none 0 0])) rfl rfl (by intro u_ hu_; simp only [List.mem_cons, List.not_mem_nil, or_false] at hu_; rcases hu_ with rfl | rfl | rfl | rfl <;> rfl) HS436 (Nat.le_of_ble_eq_true rfl) kr ?_)
             intro W437 HS438
             refine seqL1 kr ?_
             refine nl (hK435 _ _ ?_)
             refine wp_ret ?_
             refine hret _ _ ?_
             have HS498 := HS438.cons_nil
             refine ends (v := Value.tuple #[.agg #[.int .i64 0, .int .i64 0, .slice none 0 0, .slice none 0 0], .int .i64 3]) (results2 (q1 := .cell 2 29) (q2 := .tmp 3) kr (resN (n := 4) (cs := [.int .i64 0, .int .i64 0, .slice none 0 0, .slice none 0 0]) (kv (.pointer (some ⟨b7, 0, none⟩))) Tryz.underlying29 rfl kr rfl (HS498.u1.cells 0 4 _ rfl)) (resT (kv (.int .i64 3)))) kr ?_
             have HS500 := HS498.u5
             have HS501 := HS500.u5
             have HS502 := HS501.u5
             have HS503 := HS502.u5
             have HS504 := HS503.u5
             have HS505 := HS504.drop
             have HS506 := HS505.drop
             have HS507 := HS506.drop
             have HS508 := HS507.drop
             have HS509 := HS508.drop
             injection h with h
             injection h with h0_ h
             subst h0_ h
             exact ⟨f421, none, 0, none, 0, [], rfl, (L17.trans (L109.trans (L236.trans (L334.trans (L364.trans (L371.trans L422)))))), HS509, (SlR.nil _ _), (Own.nil _)⟩
           · have c433 : ¬ ((!((bstr vt409).toList == (bstr b1).toList)) = true) := c433
             refine wpRwI 111 (x := (!((bstr vt409).toList == (bstr b1).toList))) (v := false) kr (Bool.eq_false_iff.mpr c433) ?_
             refine wpRwI 112 (x := (!((bstr vt409).toList == (bstr b1).toList))) (v := false) kr (Bool.eq_false_iff.mpr c433) ?_
             refine condF kr ?_
             refine wp_skip ?_
             refine hK400 _ _ ?_
             refine wp_seq_k fun K439 hK440 => rl ?_
             refine seqK rfl (does_run (run_loadN (n := 4) rfl Tryz.underlying29 rfl kr (kv (.pointer (some ⟨b382, 0, none⟩))) (cs := [.int .i64 vt367.W, .int .i64 vt367.H, .slice A374 vt367.Cards.length c375, .slice A377 vt367.Counts.length c378]) rfl (HS423.u2.cells 0 4 _ rfl)) ?_)
             have HS441 := HS423.u4
             refine seqK rfl (does_store (n := 4) (vs := [.int .i64 vt367.W, .int .i64 vt367.H, .slice A374 vt367.Cards.length c375, .slice A377 vt367.Counts.length c378]) (cs' := #[.int .i64 vt367.W, .int .i64 vt367.H, .slice A374 vt367.Cards.length c375, .slice A377 vt367.Counts.length c378]) rfl kr (kv (.pointer (some ⟨b7, 0, none⟩))) (kv (.agg #[.int .i64 vt367.W, .int .i64 vt367.H, .slice A374 vt367.Cards.length c375, .slice A377 vt367.Counts.length c378])) rfl rfl (by intro u_ hu_; simp only [List.mem_cons, List.not_mem_nil, or_false] at hu_; rcases hu_ with rfl | rfl | rfl | rfl <;> rfl) HS441 (Nat.le_of_ble_eq_true rfl) kr ?_)
             intro W442 HS443
             refine seqL1 kr ?_
             refine nl (hK440 _ _ ?_)
             refine wp_ret ?_
             refine hret _ _ ?_
             refine ends (v := Value.tuple #[.agg #[.int .i64 vt367.W, .int .i64 vt367.H, .slice A374 vt367.Cards.length c375, .slice A377 vt367.Counts.length c378], .int .i64 0]) (results2 (q1 := .cell 2 29) (q2 := .tmp 3) kr (resN (n := 4) (cs := [.int .i64 vt367.W, .int .i64 vt367.H, .slice A374 vt367.Cards.length c375, .slice A377 vt367.Counts.length c378]) (kv (.pointer (some ⟨b7, 0, none⟩))) Tryz.underlying29 rfl kr rfl (HS443.cells 0 4 _ rfl)) (resT (kv (.int .i64 0)))) kr ?_
             have HS510 := HS443.u1
             have HS511 := HS510.u4
             have HS512 := HS511.u4
             have HS513 := HS512.u4
             have HS514 := HS513.u4
             have HS515 := HS514.drop
             have HS516 := HS515.drop
             have HS517 := HS516.drop
             have HS518 := HS517.drop
             injection h with h
             injection h with h0_ h
             subst h0_ h
             exact ⟨f421, A374, c375, A377, c378, s379, rfl, (L17.trans (L109.trans (L236.trans (L334.trans (L364.trans (L371.trans L422)))))), HS518, (HR376.mono L422), (HO380.mono L422)⟩
      clear h; have h := hv345; clear hv345
      have HS349 := HS237.cons_nil
      refine loopK (fun n_ a_ w_ => ∃ (f243 : FM) (A249 : Option Addr) (c250 : Nat) (s251 : Seg) (cards248 : List S_Card) (vat254 : Int) (j247 : Nat → Value), FM.le f235 f243 ∧ St t w_ f243 (s251 :: s22 :: [(b7, .cells #[.int .i64 0, .int .i64 0, .slice none 0 0, .slice none 0 0] 29 (0, 0))] :: H) ∧ Own ty_Card 51 f243 A249 c250 s251 cards248 ∧ frame_Decode.l1 k body113 n_ cards248 vat254 = some o239 ∧ a_ = ⟨#[.slice A2 b1.length c3, uV, pV b7 0, (j247 0), .slice A20 vt13.length c21, iV vt14, .slice A114 body113.length c115, (j112 0), .slice A249 cards248.length c250, iV vat254, (j247 1), (j247 2), uV, uV, uV, uV, .tuple #[.slice A20 vt13.length c21, iV vt14], .slice A2 b1.length c3, .tuple #[.slice A20 vt13.length c21, iV vt14], .slice A20 vt13.length c21, iV vt14, fV, iV vt14, fV, uV, uV, fV, .slice A20 vt13.length c21, iV (vt13.length : Int), fV, uV, (j112 1), (j112 2), (j112 3), (j112 4), (j112 5), (j112 6), (j112 7), (j112 8), (j112 9), (j112 10), (j112 11), (j112 12), (j112 13), (j247 3), (j247 4), (j247 5), (j247 6), (j247 7), (j247 8), (j247 9), (j247 10), (j247 11), (j247 12), (j247 13), (j247 14), (j247 15), (j247 16), (j247 17), (j247 18), (j247 19), (j247 20), (j247 21), (j247 22), (j247 23), (j247 24), (j247 25), (j247 26), (j247 27), (j247 28), (j247 29), (j247 30), (j247 31), (j247 32), (j247 33), (j247 34), (j247 35), (j247 36), (j247 37), (j247 38), (j247 39), (j247 40), uV, uV, uV, uV, uV, uV, uV, uV, uV, uV, uV, uV, uV, uV, uV, uV, uV, uV, uV, uV, uV, uV, uV, uV, uV, uV, uV, uV, uV, uV, uV, uV, uV], []⟩) k ⟨f235, none, 0, [], ([] : List S_Card), 0, (fun i_ => [Value.int .i64 0, undef, undef, undef, undef, undef, undef, undef, undef, undef, undef, undef, undef, undef, undef, undef, undef, undef, undef, undef, undef, undef, undef, undef, undef, undef, undef, undef, undef, undef, undef, undef, undef, undef, undef, undef, undef, undef, undef, undef, undef].getD i_ undef), (FM.le.refl _), HS349, (Own.nil _), h, kr⟩ ?_
      clear h
      rintro n242 _ W245 ⟨f243, A249, c250, s251, cards248, vat254, j247, L244, HS246, HO252, h, rfl⟩ K240 hK241
      obtain _ | n242 := n242
      · exact nomatch h
      simp only [frame_Decode.l1] at h
      refine wp_seq_k (fun K255 hK256 => ?_)
      refine wp_seq_k fun K257 hK258 => rl ?_
      refine seqL5 kr ?_
      have hq_ := ite_some h; clear h; rcases hq_ with ⟨c259, h⟩ | ⟨c259, h⟩
      · have c259 : vat254 < (body113.length : Int) := c259
        refine seqRwI 47 (x := (decide (vat254 < (body113.length : Int)))) (v := true) kr (decide_eq_true c259) ?_
        refine seqRwI 48 (x := (decide (vat254 < (body113.length : Int)))) (v := true) kr (decide_eq_true c259) ?_
        have hq_ := guard_some h; clear h; obtain ⟨c260, h⟩ := hq_
        have c260 : 0 ≤ vat254 := c260
        have hq_ := guard_some h; clear h; obtain ⟨c261, h⟩ := hq_
        have c261 : vat254 ≤ (w64 (vat254 + 64)) := c261
        have hq_ := guard_some h; clear h; obtain ⟨c262, h⟩ := hq_
        have c262 : (w64 (vat254 + 64)) ≤ (body113.length : Int) := c262
        refine seqL4 kr ?_
        refine seqG kr (does_cutLH (e := (tInt .u8)) (xs := body113) rfl Tryz.underlying23 kr (kv (.slice A114 body113.length c115)) (kv (.int .i64 vat254)) (kv (.int .i64 (w64 (vat254 + 64))))  c260 c261 c262 HR238 ?_)
        intro A263 c264 HR265
        refine seqG kr (does_run (run_bstr (f := _) rfl Tryz.underlying23 Tryz.underlying5 Tryz.underlying9 (kv (.slice A263 ((body113.take (w64 (vat254 + 64)).toNat).drop (vat254).toNat).length c264)) ((HR265.mono L244).rc HS246)) ?_)
        have hq_ := bind_some h; clear h; obtain ⟨vt266, hc267, h⟩ := hq_
        refine seqG kr (does_call (f := 30) (args := #[.string (bstr ((body113.take (w64 (vat254 + 64)).toNat).drop (vat254).toNat)), .string ⟨#[32]⟩]) kr (strings_TrimRight.calls k (bstr ((body113.take (w64 (vat254 + 64)).toNat).drop (vat254).toNat)) (⟨#[32]⟩ : ByteArray) HS246 vt266 hc267) ?_)
        rintro _ W270 ⟨f268, rfl, L269, HS271⟩
        refine ⟨_, rfl, ?_⟩
        refine seqL2 kr ?_
        refine nl (hK258 _ _ ?_)
        have hq_ := ite_some h; clear h; rcases hq_ with ⟨c273, h⟩ | ⟨c273, h⟩
        · have c273 : (!(vt266.toList == (⟨#[69, 78, 68]⟩ : ByteArray).toList)) = true := c273
          refine wpRwI 56 (x := (!(vt266.toList == (⟨#[69, 78, 68]⟩ : ByteArray).toList))) (v := true) kr c273 ?_
          refine wpRwI 57 (x := (!(vt266.toList == (⟨#[69, 78, 68]⟩ : ByteArray).toList))) (v := true) kr c273 ?_
          refine condT kr ?_
          refine wp_skip ?_
          refine hK256 _ _ ?_
          refine wp_seq_k (fun K274 hK275 => ?_)
          refine blockK (fun B276 hx277 hn278 hr279 ho280 hp281 => ?_)
          refine wp_seq_k fun K283 hK284 => rl ?_
          refine seqL4 kr ?_
          refine seqK rfl (does_cutLH (e := (tInt .u8)) (xs := body113) rfl Tryz.underlying23 kr (kv (.slice A114 body113.length c115)) (kv (.int .i64 vat254)) (kv (.int .i64 (w64 (vat254 + 64))))  c260 c261 c262 HR238 ?_)
          intro A285 c286 HR287
          refine seqK rfl (does_run (run_bstr (f := _) rfl Tryz.underlying23 Tryz.underlying5 Tryz.underlying9 (kv (.slice A285 ((body113.take (w64 (vat254 + 64)).toNat).drop (vat254).toNat).length c286)) ((HR287.mono (L244.trans L269)).rc HS271)) ?_)
          have hq_ := bind_some h; clear h; obtain ⟨⟨vt288, vt289⟩, hc290, h⟩ := hq_
          refine seqK rfl (does_call (f := 31) (args := #[.string (bstr ((body113.take (w64 (vat254 + 64)).toNat).drop (vat254).toNat))]) kr (frame_card.calls k (bstr ((body113.take (w64 (vat254 + 64)).toNat).drop (vat254).toNat)) HS271 (HM.mono (L17.trans (L109.trans (L236.trans (L244.trans L269))))) vt288 vt289 hc290) ?_)
          rintro _ W293 ⟨f291, rfl, L292, HS294⟩
          refine ⟨_, rfl, ?_⟩
          refine seqL3 kr ?_
          refine seqK rfl (does_alloc (z := Value.agg #[.string ⟨#[]⟩, .string ⟨#[]⟩, .string ⟨#[]⟩, .string ⟨#[]⟩]) (cs := #[.string ⟨#[]⟩, .string ⟨#[]⟩, .string ⟨#[]⟩, .string ⟨#[]⟩]) rfl kr rfl HS294 ?_)
          intro b295 W296 HS297
          refine seqK rfl (does_store (n := 4) (vs := [.string vt288.Key, .string vt288.Value, .string vt288.Unit, .string vt288.Note]) (cs' := #[.string vt288.Key, .string vt288.Value, .string vt288.Unit, .string vt288.Note]) rfl kr (kv (.pointer (some ⟨b295, 0, none⟩))) (kv (.agg #[.string vt288.Key, .string vt288.Value, .string vt288.Unit, .string vt288.Note])) rfl rfl (by intro u_ hu_; simp only [List.mem_cons, List.not_mem_nil, or_false] at hu_; rcases hu_ with rfl | rfl | rfl | rfl <;> rfl) HS297 (Nat.le_of_ble_eq_true rfl) kr ?_)
          intro W299 HS300
          refine seqL1 kr ?_
          refine nl (hK284 _ _ ?_)
          refine wp_seq_k (fun K301 hK302 => ?_)
          refine wp_seq_k fun K303 hK304 => rl ?_
          refine seqL3 kr ?_
          have hq_ := ite_some h; clear h; rcases hq_ with ⟨c305, h⟩ | ⟨c305, h⟩
          · have c305 : ¬ (vt289 = true) := c305
            refine seqRwI 71 (x := (!vt289)) (v := true) kr (congrArg (fun b_ => !b_) (show vt289 = false from (Bool.eq_false_iff.mpr c305)) : (!vt289) = true) ?_
            refine seqRwI 72 (x := (!vt289)) (v := true) kr (congrArg (fun b_ => !b_) (show vt289 = false from (Bool.eq_false_iff.mpr c305)) : (!vt289) = true) ?_
            refine seqL4 kr ?_
            refine nl (hK304 _ _ ?_)
            refine condT kr ?_
            refine wp_seq_k fun K306 hK307 => rl ?_
            have HS308 := HS300.u3
            refine seqL1 kr ?_
            refine seqK rfl (does_store (n := 4) (vs := [.int .i64 0, .int .i64 0, .slice none 0 0, .slice none 0 0]) (cs' := #[.int .i64 0, .int .i64 0, .slice none 0 0, .slice none 0 0]) rfl kr (kv (.pointer (some ⟨b7, 0, none⟩))) (kv (.agg #[.int .i64 0, .int .i64 0, .slice none 0 0, .slice none 0 0])) rfl rfl (by intro u_ hu_; simp only [List.mem_cons, List.not_mem_nil, or_false] at hu_; rcases hu_ with rfl | rfl | rfl | rfl <;> rfl) HS308 (Nat.le_of_ble_eq_true rfl) kr ?_)
            intro W309 HS310
            refine seqL1 kr ?_
            refine nl (hK307 _ _ ?_)
            refine wp_ret ?_
            refine hr279 _ _ ?_
            refine hr133 _ _ ?_
            refine hret _ _ ?_
            have HS456 := HS310.cons_nil
            refine ends (v := Value.tuple #[.agg #[.int .i64 0, .int .i64 0, .slice none 0 0, .slice none 0 0], .int .i64 3]) (results2 (q1 := .cell 2 29) (q2 := .tmp 3) kr (resN (n := 4) (cs := [.int .i64 0, .int .i64 0, .slice none 0 0, .slice none 0 0]) (kv (.pointer (some ⟨b7, 0, none⟩))) Tryz.underlying29 rfl kr rfl (HS456.u1.cells 0 4 _ rfl)) (resT (kv (.int .i64 3)))) kr ?_
            have HS458 := HS456.u4
            have HS459 := HS458.u4
            have HS460 := HS459.u4
            have HS461 := HS460.u4
            have HS462 := HS461.drop
            have HS463 := HS462.drop
            have HS464 := HS463.drop
            have HS465 := HS464.drop
            replace h := JR347 _ h
            injection h with h
            injection h with h0_ h
            subst h0_ h
            exact ⟨f291, none, 0, none, 0, [], rfl, (L17.trans (L109.trans (L236.trans (L244.trans (L269.trans L292))))), HS465, (SlR.nil _ _), (Own.nil _)⟩
          · have c305 : ¬ (¬ (vt289 = true)) := c305
            refine seqRwI 71 (x := (!vt289)) (v := false) kr (congrArg (fun b_ => !b_) (show vt289 = true from (Decidable.of_not_not c305)) : (!vt289) = false) ?_
            refine seqRwI 72 (x := (!vt289)) (v := false) kr (congrArg (fun b_ => !b_) (show vt289 = true from (Decidable.of_not_not c305)) : (!vt289) = false) ?_
            refine seqL4 kr ?_
            refine nl (hK304 _ _ ?_)
            have hq_ := ite_some h; clear h; rcases hq_ with ⟨c312, h⟩ | ⟨c312, h⟩
            · have c312 : (cards248.length : Int) > 31 := c312
              refine wpRwI 75 (x := (decide ((cards248.length : Int) > 31))) (v := true) kr (decide_eq_true c312) ?_
              refine wpRwI 76 (x := (decide ((cards248.length : Int) > 31))) (v := true) kr (decide_eq_true c312) ?_
              refine condT kr ?_
              refine wp_seq_k fun K313 hK314 => rl ?_
              have HS315 := HS300.u3
              refine seqL1 kr ?_
              refine seqK rfl (does_store (n := 4) (vs := [.int .i64 0, .int .i64 0, .slice none 0 0, .slice none 0 0]) (cs' := #[.int .i64 0, .int .i64 0, .slice none 0 0, .slice none 0 0]) rfl kr (kv (.pointer (some ⟨b7, 0, none⟩))) (kv (.agg #[.int .i64 0, .int .i64 0, .slice none 0 0, .slice none 0 0])) rfl rfl (by intro u_ hu_; simp only [List.mem_cons, List.not_mem_nil, or_false] at hu_; rcases hu_ with rfl | rfl | rfl | rfl <;> rfl) HS315 (Nat.le_of_ble_eq_true rfl) kr ?_)
              intro W316 HS317
              refine seqL1 kr ?_
              refine nl (hK314 _ _ ?_)
              refine wp_ret ?_
              refine hr279 _ _ ?_
              refine hr133 _ _ ?_
              refine hret _ _ ?_
              have HS466 := HS317.cons_nil
              refine ends (v := Value.tuple #[.agg #[.int .i64 0, .int .i64 0, .slice none 0 0, .slice none 0 0], .int .i64 3]) (results2 (q1 := .cell 2 29) (q2 := .tmp 3) kr (resN (n := 4) (cs := [.int .i64 0, .int .i64 0, .slice none 0 0, .slice none 0 0]) (kv (.pointer (some ⟨b7, 0, none⟩))) Tryz.underlying29 rfl kr rfl (HS466.u1.cells 0 4 _ rfl)) (resT (kv (.int .i64 3)))) kr ?_
              have HS468 := HS466.u4
              have HS469 := HS468.u4
              have HS470 := HS469.u4
              have HS471 := HS470.u4
              have HS472 := HS471.drop
              have HS473 := HS472.drop
              have HS474 := HS473.drop
              have HS475 := HS474.drop
              replace h := JR347 _ h
              injection h with h
              injection h with h0_ h
              subst h0_ h
              exact ⟨f291, none, 0, none, 0, [], rfl, (L17.trans (L109.trans (L236.trans (L244.trans (L269.trans L292))))), HS475, (SlR.nil _ _), (Own.nil _)⟩
            · have c312 : ¬ ((cards248.length : Int) > 31) := c312
              refine wpRwI 75 (x := (decide ((cards248.length : Int) > 31))) (v := false) kr (decide_eq_false c312) ?_
              refine wpRwI 76 (x := (decide ((cards248.length : Int) > 31))) (v := false) kr (decide_eq_false c312) ?_
              refine condF kr ?_
              refine wp_skip ?_
              refine hK302 _ _ ?_
              refine rl ?_
              refine seqL1 kr ?_
              refine seqK rfl (does_run (run_loadN (n := 4) rfl Tryz.underlying51 rfl kr (kv (.pointer (some ⟨b295, 0, none⟩))) (cs := [.string vt288.Key, .string vt288.Value, .string vt288.Unit, .string vt288.Note]) rfl (HS300.cells 0 4 _ rfl)) ?_)
              refine seqK rfl (does_lit (e := ty_Card) (E := 51) (vs := #[(0, Value.agg #[.string vt288.Key, .string vt288.Value, .string vt288.Unit, .string vt288.Note])]) (cs := #[.string vt288.Key, .string vt288.Value, .string vt288.Unit, .string vt288.Note]) (xs := ([vt288] : List S_Card)) rfl Tryz.underlying27 kr kr ⟨[.string vt288.Key, .string vt288.Value, .string vt288.Unit, .string vt288.Note], _, rfl, rfl, rfl⟩ rfl HS300 ?_ (by decide))
              intro b318 W319 s320 HS321 _ HO322
              have hq_ := guard_some h; clear h; obtain ⟨c324, h⟩ := hq_
              have c324 : (cards248.length + 1) * 64 ≤ 140737488355328 := c324
              have HS325 := HS321.u2
              have HS326 := HS325.u1
              refine seqK rfl (does_append1 (e := ty_Card) (E := 51) (xs := cards248) (ys := ([vt288] : List S_Card)) rfl (kv (.slice A249 cards248.length c250)) (kv (.slice (some ⟨b318, 0, none⟩) ([vt288] : List S_Card).length 1)) Tryz.underlying27 inf51 (HO252.mono (L269.trans L292)) HO322 HS326 c324 (lim63 c324 (by decide)) ?_)
              intro A327 c328 s329 W330 HS331 HO332
              refine seqL1 kr ?_
              refine nl ?_
              refine hn278 _ _ ?_
              refine hK275 _ _ ?_
              refine rl ?_
              refine seqL3 kr ?_
              refine nl ?_
              refine hK241 n242 _ _ (Nat.lt_succ_self _) ?_
              have HS351 := HS331.u3
              have HS352 := HS351.u3
              have HS353 := HS352.u2
              have HS354 := HS353.u3
              have HS355 := HS354.drop
              exact ⟨f291, A327, c328, s329, (cards248 ++ ([vt288] : List S_Card)), (w64 (vat254 + 64)), (fun i_ => [(j247 0), Value.pointer (some ⟨b295, 0, none⟩), Value.bool vt289, Value.int .i64 vat254, Value.slice A114 body113.length c115, Value.int .i64 (body113.length : Int), Value.bool true, Value.bool true, Value.slice A114 body113.length c115, Value.int .i64 vat254, Value.int .i64 vat254, Value.int .i64 (w64 (vat254 + 64)), Value.slice A263 ((body113.take (w64 (vat254 + 64)).toNat).drop (vat254).toNat).length c264, Value.string (bstr ((body113.take (w64 (vat254 + 64)).toNat).drop (vat254).toNat)), Value.string vt266, Value.bool true, Value.bool true, Value.int .i64 vat254, Value.int .i64 (w64 (vat254 + 64)), Value.tuple #[(ag_Card vt288), .bool vt289], Value.slice A114 body113.length c115, Value.int .i64 vat254, Value.int .i64 vat254, Value.int .i64 (w64 (vat254 + 64)), Value.slice A285 ((body113.take (w64 (vat254 + 64)).toNat).drop (vat254).toNat).length c286, Value.string (bstr ((body113.take (w64 (vat254 + 64)).toNat).drop (vat254).toNat)), Value.tuple #[(ag_Card vt288), .bool vt289], (ag_Card vt288), Value.bool vt289, Value.bool vt289, Value.bool false, Value.bool false, Value.slice A249 cards248.length c250, Value.int .i64 (cards248.length : Int), Value.bool false, Value.bool false, (j247 36), Value.slice A249 cards248.length c250, (ag_Card vt288), Value.slice (some ⟨b318, 0, none⟩) ([vt288] : List S_Card).length 1, Value.slice A327 (cards248 ++ ([vt288] : List S_Card)).length c328].getD i_ undef), (L244.trans (L269.trans L292)), HS355, HO332, h, kr⟩
        · have c273 : ¬ ((!(vt266.toList == (⟨#[69, 78, 68]⟩ : ByteArray).toList)) = true) := c273
          refine wpRwI 56 (x := (!(vt266.toList == (⟨#[69, 78, 68]⟩ : ByteArray).toList))) (v := false) kr (Bool.eq_false_iff.mpr c273) ?_
          refine wpRwI 57 (x := (!(vt266.toList == (⟨#[69, 78, 68]⟩ : ByteArray).toList))) (v := false) kr (Bool.eq_false_iff.mpr c273) ?_
          refine condF kr ?_
          refine wp_exit ?_
          refine hx131 _ _ ?_
          exact J346 f268 A249 c250 s251 cards248 vat254 (fun i_ => [(j247 0), (j247 1), (j247 2), Value.int .i64 vat254, Value.slice A114 body113.length c115, Value.int .i64 (body113.length : Int), Value.bool true, Value.bool true, Value.slice A114 body113.length c115, Value.int .i64 vat254, Value.int .i64 vat254, Value.int .i64 (w64 (vat254 + 64)), Value.slice A263 ((body113.take (w64 (vat254 + 64)).toNat).drop (vat254).toNat).length c264, Value.string (bstr ((body113.take (w64 (vat254 + 64)).toNat).drop (vat254).toNat)), Value.string vt266, Value.bool false, Value.bool false, (j247 17), (j247 18), (j247 19), (j247 20), (j247 21), (j247 22), (j247 23), (j247 24), (j247 25), (j247 26), (j247 27), (j247 28), (j247 29), (j247 30), (j247 31), (j247 32), (j247 33), (j247 34), (j247 35), (j247 36), (j247 37), (j247 38), (j247 39), (j247 40)].getD i_ undef) W270 _ (L244.trans L269) h HS271 (HO252.mono L269) kr
      · have c259 : ¬ (vat254 < (body113.length : Int)) := c259
        refine seqRwI 47 (x := (decide (vat254 < (body113.length : Int)))) (v := false) kr (decide_eq_false c259) ?_
        refine seqRwI 48 (x := (decide (vat254 < (body113.length : Int)))) (v := false) kr (decide_eq_false c259) ?_
        refine seqL9 kr ?_
        refine nl (hK258 _ _ ?_)
        refine condF kr ?_
        refine wp_exit ?_
        refine hx131 _ _ ?_
        exact J346 f243 A249 c250 s251 cards248 vat254 (fun i_ => [(j247 0), (j247 1), (j247 2), Value.int .i64 vat254, Value.slice A114 body113.length c115, Value.int .i64 (body113.length : Int), Value.bool false, Value.bool false, undef, undef, undef, undef, undef, undef, undef, undef, Value.bool false, (j247 17), (j247 18), (j247 19), (j247 20), (j247 21), (j247 22), (j247 23), (j247 24), (j247 25), (j247 26), (j247 27), (j247 28), (j247 29), (j247 30), (j247 31), (j247 32), (j247 33), (j247 34), (j247 35), (j247 36), (j247 37), (j247 38), (j247 39), (j247 40)].getD i_ undef) W245 _ L244 h HS246 HO252 kr
     clear h; have h := hv119; clear hv119
     have HS122 := HS19.cons_nil
     refine loopK (fun n_ a_ w_ => ∃ (f68 : FM) (A74 : Option Addr) (c75 : Nat) (s76 : Seg) (body73 : List Int) (i79 : Int) (j72 : Nat → Value), FM.le f16 f68 ∧ St t w_ f68 (s76 :: s22 :: [(b7, .cells #[.int .i64 0, .int .i64 0, .slice none 0 0, .slice none 0 0] 29 (0, 0))] :: H) ∧ Own (tInt .u8) 5 f68 A74 c75 s76 body73 ∧ frame_Decode.l0 k b1 n_ body73 i79 = some o64 ∧ a_ = ⟨#[.slice A2 b1.length c3, uV, pV b7 0, iV 0, .slice A20 vt13.length c21, iV vt14, .slice A74 body73.length c75, iV i79, uV, uV, uV, uV, uV, uV, uV, uV, .tuple #[.slice A20 vt13.length c21, iV vt14], .slice A2 b1.length c3, .tuple #[.slice A20 vt13.length c21, iV vt14], .slice A20 vt13.length c21, iV vt14, fV, iV vt14, fV, uV, uV, fV, .slice A20 vt13.length c21, iV (vt13.length : Int), fV, uV, (j72 0), (j72 1), (j72 2), (j72 3), (j72 4), (j72 5), (j72 6), (j72 7), (j72 8), (j72 9), (j72 10), (j72 11), (j72 12), uV, uV, uV, uV, uV, uV, uV, uV, uV, uV, uV, uV, uV, uV, uV, uV, uV, uV, uV, uV, uV, uV, uV, uV, uV, uV, uV, uV, uV, uV, uV, uV, uV, uV, uV, uV, uV, uV, uV, uV, uV, uV, uV, uV, uV, uV, uV, uV, uV, uV, uV, uV, uV, uV, uV, uV, uV, uV, uV, uV, uV, uV, uV, uV, uV, uV, uV, uV, uV, uV, uV], []⟩) k ⟨f16, none, 0, [], ([] : List Int), 0, (fun i_ => [undef, undef, undef, undef, undef, undef, undef, undef, undef, undef, undef, undef, undef].getD i_ undef), (FM.le.refl _), HS122, (Own.nil _), h, kr⟩ ?_
     clear h
     rintro n67 _ W70 ⟨f68, A74, c75, s76, body73, i79, j72, L69, HS71, HO77, h, rfl⟩ K65 hK66
     obtain _ | n67 := n67
     · exact nomatch h
     simp only [frame_Decode.l0] at h
     refine wp_seq_k (fun K80 hK81 => ?_)
     refine wp_seq_k fun K82 hK83 => rl ?_
     refine seqL4 kr ?_
     refine nl (hK83 _ _ ?_)
     have hq_ := ite_some h; clear h; rcases hq_ with ⟨c85, h⟩ | ⟨c85, h⟩
     · have c85 : i79 < (b1.length : Int) := c85
       refine wpRwI 34 (x := (decide (i79 < (b1.length : Int)))) (v := true) kr (decide_eq_true c85) ?_
       refine condT kr ?_
       refine wp_skip ?_
       refine hK81 _ _ ?_
       refine wp_seq_k (fun K86 hK87 => ?_)
       refine blockK (fun B88 hx89 hn90 hr91 ho92 hp93 => ?_)
       refine rl ?_
       have hq_ := guard_some h; clear h; obtain ⟨c95, h⟩ := hq_
       have c95 : 0 ≤ i79 := c95
       have hq_ := guard_some h; clear h; obtain ⟨c96, h⟩ := hq_
       have c96 : i79 ≤ (w64 (i79 + 256)) := c96
       have hq_ := guard_some h; clear h; obtain ⟨c97, h⟩ := hq_
       have c97 : (w64 (i79 + 256)) ≤ (b1.length : Int) := c97
       refine seqL5 kr ?_
       refine seqK rfl (does_cutLH (e := (tInt .u8)) (xs := b1) rfl Tryz.underlying23 kr (kv (.slice A2 b1.length c3)) (kv (.int .i64 i79)) (kv (.int .i64 (w64 (i79 + 256))))  c95 c96 c97 HR4 ?_)
       intro A98 c99 HR100
       have hq_ := guard_some h; clear h; obtain ⟨c101, h⟩ := hq_
       have c101 : (body73.length + ((b1.take (w64 (i79 + 256)).toNat).drop (i79).toNat).length) * 1 ≤ 140737488355328 := c101
       refine seqK rfl (does_append (e := (tInt .u8)) (E := 5) (xs := body73) (ys := ((b1.take (w64 (i79 + 256)).toNat).drop (i79).toNat)) rfl (kv (.slice A74 body73.length c75)) (kv (.slice A98 ((b1.take (w64 (i79 + 256)).toNat).drop (i79).toNat).length c99)) Tryz.underlying23 inf5 HO77 HS71 ((HR100.mono (L17.trans L69)).rc HS71) c101 (lim63 c101 (by decide)) ?_)
       intro A102 c103 s104 W105 HS106 HO107
       refine seqL1 kr ?_
       refine nl ?_
       refine hn90 _ _ ?_
       refine hK87 _ _ ?_
       refine rl ?_
       refine seqL3 kr ?_
       refine nl ?_
       refine hK66 n67 _ _ (Nat.lt_succ_self _) ?_
       exact ⟨f68, A102, c103, s104, (body73 ++ ((b1.take (w64 (i79 + 256)).toNat).drop (i79).toNat)), (w64 (i79 + 260)), (fun i_ => [Value.int .i64 i79, Value.slice A2 b1.length c3, Value.int .i64 (b1.length : Int), Value.bool true, Value.int .i64 i79, Value.int .i64 (w64 (i79 + 260)), Value.slice A74 body73.length c75, Value.slice A2 b1.length c3, Value.int .i64 i79, Value.int .i64 i79, Value.int .i64 (w64 (i79 + 256)), Value.slice A98 ((b1.take (w64 (i79 + 256)).toNat).drop (i79).toNat).length c99, Value.slice A102 (body73 ++ ((b1.take (w64 (i79 + 256)).toNat).drop (i79).toNat)).length c103].getD i_ undef), L69, HS106, HO107, h, kr⟩
     · have c85 : ¬ (i79 < (b1.length : Int)) := c85
       refine wpRwI 34 (x := (decide (i79 < (b1.length : Int)))) (v := false) kr (decide_eq_false c85) ?_
       refine condF kr ?_
       refine wp_exit ?_
       refine hx59 _ _ ?_
       exact J120 f68 A74 c75 s76 body73 (fun i_ => [Value.int .i64 i79, Value.int .i64 i79, Value.slice A2 b1.length c3, Value.int .i64 (b1.length : Int), Value.bool false, (j72 4), (j72 5), (j72 6), (j72 7), (j72 8), (j72 9), (j72 10), (j72 11), (j72 12)].getD i_ undef) W70 _ L69 h HS71 HO77 kr

set_option maxRecDepth 100000 in
set_option maxHeartbeats 4000000 in
theorem slices_Clone_byte.calls (k : Nat) (A2 : Option Addr) (c3 : Nat) (s1 : List Int) {t w : World} {f : FM} {H : List Seg} (HS : St t w f (H)) (HR4 : SlR (tInt .u8) f A2 c3 s1) (rr1 : List Int) (h : slices_Clone_byte k s1 = some rr1) :
    Calls Tryz.prog 14 #[.slice A2 s1.length c3] w (fun e w' => ∃ (g : FM) (A31 : Option Addr) (c32 : Nat) (s33 : Seg), e = .returned (Value.slice A31 rr1.length c32) ∧ FM.le f g ∧ St t w' g (s33 :: H) ∧ Own (tInt .u8) 5 g A31 c32 s33 rr1) := by
 unfold slices_Clone_byte at h
 refine enter Tryz.func14 rfl (tm := #[.slice A2 s1.length c3, uV, uV, uV, uV, uV, uV, uV]) kr ?_
 intro B hret hnor hnp
 refine wp_seq_k fun K5 hK6 => rl ?_
 refine seqL1 kr ?_
 refine nl (hK6 _ _ ?_)
 refine wp_seq_k (fun K7 hK8 => ?_)
 refine wp_seq_k fun K9 hK10 => rl ?_
 refine seqL1 kr ?_
 obtain _ | ad11 := A2
 · obtain rfl := HR4.nil_eq
   have hq_ := guard_some h; clear h; obtain ⟨_, h⟩ := hq_
   refine seqL1 kr ?_
   refine nl (hK10 _ _ ?_)
   refine condT kr ?_
   refine wp_seq_k fun K27 hK28 => rl ?_
   refine seqL1 kr ?_
   refine nl (hK28 _ _ ?_)
   refine wp_ret ?_
   refine hret _ _ ?_
   have HS29 := HS.cons_nil
   refine ends_still (v := Value.slice none 0 0) kr kr ?_
   injection h with h
   subst h
   exact ⟨f, none, 0, [], rfl, FM.le.refl _, HS29, (Own.nil _)⟩
 · refine seqL1 kr ?_
   refine nl (hK10 _ _ ?_)
   refine condF kr ?_
   refine wp_skip ?_
   refine hK8 _ _ ?_
   refine wp_seq_k fun K12 hK13 => rl ?_
   refine seqK rfl (does_lit (e := (tInt .u8)) (E := 5) (vs := #[]) (cs := #[]) (xs := ([] : List Int)) rfl Tryz.underlying23 kr kr rfl rfl HS ?_ (by decide))
   intro b14 W15 s16 HS17 _ HO18
   have hq_ := guard_some h; clear h; obtain ⟨c20, h⟩ := hq_
   have c20 : (([] : List Int).length + s1.length) * 1 ≤ 140737488355328 := c20
   refine seqL1 kr ?_
   refine seqK rfl (does_append (e := (tInt .u8)) (E := 5) (xs := ([] : List Int)) (ys := s1) rfl (kv (.slice (some ⟨b14, 0, none⟩) ([] : List Int).length 0)) (kv (.slice (some ad11) s1.length c3)) Tryz.underlying23 inf5 HO18 HS17 (HR4.rc HS17) c20 (lim63 c20 (by decide)) ?_)
   intro A21 c22 s23 W24 HS25 HO26
   refine seqL1 kr ?_
   refine nl (hK13 _ _ ?_)
   refine wp_ret ?_
   refine hret _ _ ?_
   refine ends_still (v := Value.slice A21 (([] : List Int) ++ s1).length c22) kr kr ?_
   injection h with h
   subst h
   exact ⟨f, A21, c22, s23, rfl, FM.le.refl _, HS25, HO26⟩

set_option maxRecDepth 100000 in
set_option maxHeartbeats 4000000 in
theorem frame_Get.calls (k : Nat) (A2 : Option Addr) (c3 : Nat) (A5 : Option Addr) (c6 : Nat) (vf1 : S_Frame) (key8 : ByteArray) {t w : World} {f : FM} {H : List Seg} (HS : St t w f (H)) (HR4 : SlR ty_Card f A2 c3 vf1.Cards) (HR7 : SlR (tInt .i64) f A5 c6 vf1.Counts) (rr1 : S_Card) (rr2 : Bool) (h : frame_Get k vf1 key8 = some (rr1, rr2)) :
    Calls Tryz.prog 20 #[.agg #[.int .i64 vf1.W, .int .i64 vf1.H, .slice A2 vf1.Cards.length c3, .slice A5 vf1.Counts.length c6], .string key8] w (fun e w' => ∃ (g : FM), e = .returned (Value.tuple #[.agg #[.string rr1.Key, .string rr1.Value, .string rr1.Unit, .string rr1.Note], .bool rr2]) ∧ FM.le f g ∧ St t w' g (H)) := by
 unfold frame_Get at h
 refine enter Tryz.func20 rfl (tm := #[(ag_Frame vf1 A2 c3 A5 c6), .string key8, uV, uV, uV, uV, uV, uV, uV, uV, uV, uV, uV, uV, uV, uV, uV, uV, uV]) kr ?_
 intro B hret hnor hnp
 refine wp_seq_k fun K9 hK10 => rl ?_
 refine seqK rfl (does_box (cs := #[.int .i64 vf1.W, .int .i64 vf1.H, .slice A2 vf1.Cards.length c3, .slice A5 vf1.Counts.length c6]) rfl (kv (.agg #[.int .i64 vf1.W, .int .i64 vf1.H, .slice A2 vf1.Cards.length c3, .slice A5 vf1.Counts.length c6])) rfl HS ?_)
 intro b11 W12 HS13
 refine seqK rfl (does_alloc (z := Value.agg #[.string ⟨#[]⟩, .string ⟨#[]⟩, .string ⟨#[]⟩, .string ⟨#[]⟩]) (cs := #[.string ⟨#[]⟩, .string ⟨#[]⟩, .string ⟨#[]⟩, .string ⟨#[]⟩]) rfl kr rfl HS13 ?_)
 intro b15 W16 HS17
 refine seqL1 kr ?_
 refine nl (hK10 _ _ ?_)
 refine wp_seq_k (fun K19 hK20 => ?_)
 refine wp_seq_k fun K21 hK22 => rl ?_
 refine seqL1 kr ?_
 refine seqK rfl (does_run (run_load rfl Tryz.underlying27 rfl (kv (.pointer (some ⟨b11, 2, none⟩))) (HS17.u1.cell 2)) ?_)
 have hq_ := bind_some h; clear h; obtain ⟨vt23, hc24, h⟩ := hq_
 refine seqL1 kr ?_
 refine seqK rfl (does_call (f := 36) (args := #[.slice A2 vf1.Cards.length c3, .string key8]) kr (frame_find.calls k A2 c3 vf1.Cards key8 HS17 HR4 vt23 hc24) ?_)
 rintro _ W27 ⟨f25, rfl, L26, HS28⟩
 refine ⟨_, rfl, ?_⟩
 refine seqL1 kr ?_
 refine nl (hK22 _ _ ?_)
 refine wp_seq_k fun K29 hK30 => rl ?_
 refine seqL2 kr ?_
 refine nl (hK30 _ _ ?_)
 have hq_ := ite_some h; clear h; rcases hq_ with ⟨c32, h⟩ | ⟨c32, h⟩
 · have c32 : vt23 ≥ 0 := c32
   refine wpRwI 12 (x := (decide (vt23 ≥ 0))) (v := true) kr (decide_eq_true c32) ?_
   refine condT kr ?_
   refine wp_seq_k fun K33 hK34 => rl ?_
   refine seqL1 kr ?_
   refine seqK rfl (does_run (run_load rfl Tryz.underlying27 rfl (kv (.pointer (some ⟨b11, 2, none⟩))) (HS28.u1.cell 2)) ?_)
   have hq_ := guard_some h; clear h; obtain ⟨c35, h⟩ := hq_
   have c35 : 0 ≤ vt23 := c35
   have hq_ := guard_some h; clear h; obtain ⟨c36, h⟩ := hq_
   have c36 : vt23 < (vf1.Cards.length : Int) := c36
   obtain ⟨b40, of41, cs37, hA42, hr38, hc39⟩ := (HR4.mono L26).at (i := vt23) c35 c36
   obtain rfl := hr38
   refine seqL1 kr ?_
   refine seqK rfl (does_run (run_indexE hA42 (sz := 4) rfl Tryz.underlying27 kr (kv (.slice A2 vf1.Cards.length c3)) (kv (.int .i64 vt23)) c35 c36 W27) ?_)
   refine seqK rfl (does_run (run_loadN (n := 4) rfl Tryz.underlying51 rfl kr (kv (.pointer (some ⟨b40, of41 + (vt23 : Int).toNat * 4, none⟩))) (cs := [.string ((rd vf1.Cards vt23).Key), .string ((rd vf1.Cards vt23).Value), .string ((rd vf1.Cards vt23).Unit), .string ((rd vf1.Cards vt23).Note)]) rfl (fun j_ hj_ => ((hc39 (FM.le.refl _) HS28) j_ hj_))) ?_)
   refine seqK rfl (does_store (n := 4) (vs := [.string ((rd vf1.Cards vt23).Key), .string ((rd vf1.Cards vt23).Value), .string ((rd vf1.Cards vt23).Unit), .string ((rd vf1.Cards vt23).Note)]) (cs' := #[.string ((rd vf1.Cards vt23).Key), .string ((rd vf1.Cards vt23).Value), .string ((rd vf1.Cards vt23).Unit), .string ((rd vf1.Cards vt23).Note)]) rfl kr (kv (.pointer (some ⟨b15, 0, none⟩))) (kv (.agg #[.string ((rd vf1.Cards vt23).Key), .string ((rd vf1.Cards vt23).Value), .string ((rd vf1.Cards vt23).Unit), .string ((rd vf1.Cards vt23).Note)])) rfl rfl (by intro u_ hu_; simp only [List.mem_cons, List.not_mem_nil, or_false] at hu_; rcases hu_ with rfl | rfl | rfl | rfl <;> rfl) HS28 (Nat.le_of_ble_eq_true rfl) kr ?_)
   intro W43 HS44
   refine seqL1 kr ?_
   refine nl (hK34 _ _ ?_)
   refine wp_ret ?_
   refine hret _ _ ?_
   refine ends (v := Value.tuple #[.agg #[.string ((rd vf1.Cards vt23).Key), .string ((rd vf1.Cards vt23).Value), .string ((rd vf1.Cards vt23).Unit), .string ((rd vf1.Cards vt23).Note)], .bool true]) (results2 (q1 := .cell 4 51) (q2 := .tmp 5) kr (resN (n := 4) (cs := [.string ((rd vf1.Cards vt23).Key), .string ((rd vf1.Cards vt23).Value), .string ((rd vf1.Cards vt23).Unit), .string ((rd vf1.Cards vt23).Note)]) (kv (.pointer (some ⟨b15, 0, none⟩))) Tryz.underlying51 rfl kr rfl (HS44.cells 0 4 _ rfl)) (resT (kv (.bool true)))) kr ?_
   have HS49 := HS44.drop
   have HS50 := HS49.drop
   injection h with h
   injection h with h0_ h
   subst h0_ h
   exact ⟨f25, rfl, L26, HS50⟩
 · have c32 : ¬ (vt23 ≥ 0) := c32
   refine wpRwI 12 (x := (decide (vt23 ≥ 0))) (v := false) kr (decide_eq_false c32) ?_
   refine condF kr ?_
   refine wp_skip ?_
   refine hK20 _ _ ?_
   refine wp_seq_k fun K45 hK46 => rl ?_
   refine seqL1 kr ?_
   refine seqK rfl (does_store (n := 4) (vs := [.string ⟨#[]⟩, .string ⟨#[]⟩, .string ⟨#[]⟩, .string ⟨#[]⟩]) (cs' := #[.string ⟨#[]⟩, .string ⟨#[]⟩, .string ⟨#[]⟩, .string ⟨#[]⟩]) rfl kr (kv (.pointer (some ⟨b15, 0, none⟩))) (kv (.agg #[.string ⟨#[]⟩, .string ⟨#[]⟩, .string ⟨#[]⟩, .string ⟨#[]⟩])) rfl rfl (by intro u_ hu_; simp only [List.mem_cons, List.not_mem_nil, or_false] at hu_; rcases hu_ with rfl | rfl | rfl | rfl <;> rfl) HS28 (Nat.le_of_ble_eq_true rfl) kr ?_)
   intro W47 HS48
   refine seqL1 kr ?_
   refine nl (hK46 _ _ ?_)
   refine wp_ret ?_
   refine hret _ _ ?_
   refine ends (v := Value.tuple #[.agg #[.string ⟨#[]⟩, .string ⟨#[]⟩, .string ⟨#[]⟩, .string ⟨#[]⟩], .bool false]) (results2 (q1 := .cell 4 51) (q2 := .tmp 5) kr (resN (n := 4) (cs := [.string ⟨#[]⟩, .string ⟨#[]⟩, .string ⟨#[]⟩, .string ⟨#[]⟩]) (kv (.pointer (some ⟨b15, 0, none⟩))) Tryz.underlying51 rfl kr rfl (HS48.cells 0 4 _ rfl)) (resT (kv (.bool false)))) kr ?_
   have HS51 := HS48.drop
   have HS52 := HS51.drop
   injection h with h
   injection h with h0_ h
   subst h0_ h
   exact ⟨f25, rfl, L26, HS52⟩

theorem strconv_ParseInt.calls (k : Nat) (s : ByteArray) (b : Int) (n : Int) {t w : World} {f : FM} {H : List Seg} (HS : St t w f H) (r1 : Int) (h : strconv_ParseInt k s b n = some r1) :
    Calls Tryz.prog 37 #[.string s, .int .i64 b, .int .i64 n] w (fun e w' => ∃ (g : FM), e = .returned (Value.tuple #[Value.int .i64 r1, Value.nilIface]) ∧ FM.le f g ∧ St t w' g H) := by
  unfold strconv_ParseInt at h
  have hq_ := guard_some h; clear h; obtain ⟨h1, h⟩ := hq_
  have hq_ := guard_some h; clear h; obtain ⟨h2, h⟩ := hq_
  have hq_ := guard_some h; clear h; obtain ⟨h3, h⟩ := hq_
  have hv : Go.Lib.parseIntB 64 s.data.toList = .ok r1 := by
    cases hc_ : Go.Lib.parseIntB 64 s.data.toList with
    | ok v_ => rw [hc_] at h; injection h with h; rw [h]
    | _ => rw [hc_] at h; cases h
  subst h1 h2
  exact lib_calls (Tryz.strconv_ParseInt_10_at64_ok s h3 r1 hv w) q_bytes2 HS

set_option maxRecDepth 100000 in
set_option maxHeartbeats 4000000 in
theorem frame_unit.calls (k : Nat)  (s1 : ByteArray) {t w : World} {f : FM} {H : List Seg} (HS : St t w f (H)) (rr1 : ByteArray) (rr2 : Int) (h : frame_unit k s1 = some (rr1, rr2)) :
    Calls Tryz.prog 39 #[.string s1] w (fun e w' => ∃ (g : FM), e = .returned (Value.tuple #[.string rr1, .int .i64 rr2]) ∧ FM.le f g ∧ St t w' g (H)) := by
 unfold frame_unit at h
 refine enter Tryz.func39 rfl (tm := #[.string s1, uV, uV, uV, uV, uV, uV, uV, uV, uV, uV, uV, uV, uV, uV, uV, uV, uV, uV, uV, uV, uV, uV, uV]) kr ?_
 intro B hret hnor hnp
 refine wp_seq_k fun K2 hK3 => rl ?_
 refine seqL2 kr ?_
 refine nl (hK3 _ _ ?_)
 refine wp_seq_k (fun K4 hK5 => ?_)
 refine wp_seq_k fun K6 hK7 => rl ?_
 refine seqL1 kr ?_
 refine nl (hK7 _ _ ?_)
 refine blockK (fun B8 hx9 hn10 hr11 ho12 hp13 => ?_)
 refine wp_seq_k fun K15 hK16 => rl ?_
 refine seqL2 kr ?_
 refine nl (hK16 _ _ ?_)
 have hq_ := ite_some h; clear h; rcases hq_ with ⟨c18, h⟩ | ⟨c18, h⟩
 · have c18 : (s1.toList == (⟨#[116, 105, 99, 107]⟩ : ByteArray).toList) = true := c18
   refine wpRwI 5 (x := (s1.toList == (⟨#[116, 105, 99, 107]⟩ : ByteArray).toList)) (v := true) kr c18 ?_
   refine wpRwI 6 (x := (s1.toList == (⟨#[116, 105, 99, 107]⟩ : ByteArray).toList)) (v := true) kr c18 ?_
   refine condT kr ?_
   refine wp_seq_k fun K19 hK20 => rl ?_
   refine seqL2 kr ?_
   refine nl (hK20 _ _ ?_)
   refine wp_ret ?_
   refine hr11 _ _ ?_
   refine hret _ _ ?_
   refine ends_still (v := Value.tuple #[.string ⟨#[116, 105, 109, 101]⟩, .int .i64 1]) kr kr ?_
   injection h with h
   injection h with h0_ h
   subst h0_ h
   exact ⟨f, rfl, FM.le.refl _, HS⟩
 · have c18 : ¬ ((s1.toList == (⟨#[116, 105, 99, 107]⟩ : ByteArray).toList) = true) := c18
   refine wpRwI 5 (x := (s1.toList == (⟨#[116, 105, 99, 107]⟩ : ByteArray).toList)) (v := false) kr (Bool.eq_false_iff.mpr c18) ?_
   refine wpRwI 6 (x := (s1.toList == (⟨#[116, 105, 99, 107]⟩ : ByteArray).toList)) (v := false) kr (Bool.eq_false_iff.mpr c18) ?_
   refine condF kr ?_
   refine wp_seq_k (fun K21 hK22 => ?_)
   refine wp_seq_k fun K23 hK24 => rl ?_
   refine seqL2 kr ?_
   refine nl (hK24 _ _ ?_)
   have hq_ := bind_some h; clear h; obtain ⟨v25, hv33, h⟩ := hq_
   have J34 : ∀ (f27 : FM) (x32 : Bool) (j31 : Nat → Value) (W29 : World) (a_ : Act), FM.le f f27 → some (x32) = some v25 → St t W29 f27 (H) → a_ = ⟨#[.string s1, uV, .string ⟨#[]⟩, iV 0, .string s1, fV, fV, .bool x32, .bool (s1.toList == (⟨#[98, 101, 97, 116]⟩ : ByteArray).toList), (j31 0), uV, uV, uV, uV, uV, uV, uV, uV, uV, uV, uV, uV, uV, uV], []⟩ → K21 a_ W29 := by
    intro f27 x32 j31 W29 a_ L28 hj35 HS30  hfr_; subst hfr_
    injection hj35 with hj35; subst hj35; try dsimp only at h
    refine hK22 _ _ ?_
    have hq_ := ite_some h; clear h; rcases hq_ with ⟨c37, h⟩ | ⟨c37, h⟩
    · have c37 : x32 = true := c37
      refine wpRwI 7 (x := x32) (v := true) kr c37 ?_
      refine condT kr ?_
      refine wp_seq_k fun K38 hK39 => rl ?_
      refine seqL2 kr ?_
      refine nl (hK39 _ _ ?_)
      refine wp_ret ?_
      refine hr11 _ _ ?_
      refine hret _ _ ?_
      refine ends_still (v := Value.tuple #[.string ⟨#[116, 105, 109, 101]⟩, .int .i64 1000]) kr kr ?_
      injection h with h
      injection h with h0_ h
      subst h0_ h
      exact ⟨f27, rfl, L28, HS30⟩
    · have c37 : ¬ (x32 = true) := c37
      refine wpRwI 7 (x := x32) (v := false) kr (Bool.eq_false_iff.mpr c37) ?_
      refine condF kr ?_
      refine wp_seq_k fun K40 hK41 => rl ?_
      refine seqL2 kr ?_
      refine nl (hK41 _ _ ?_)
      have hq_ := ite_some h; clear h; rcases hq_ with ⟨c43, h⟩ | ⟨c43, h⟩
      · have c43 : (s1.toList == (⟨#[109, 105, 110, 117, 116, 101]⟩ : ByteArray).toList) = true := c43
        refine wpRwI 10 (x := (s1.toList == (⟨#[109, 105, 110, 117, 116, 101]⟩ : ByteArray).toList)) (v := true) kr c43 ?_
        refine wpRwI 11 (x := (s1.toList == (⟨#[109, 105, 110, 117, 116, 101]⟩ : ByteArray).toList)) (v := true) kr c43 ?_
        refine condT kr ?_
        refine wp_seq_k fun K44 hK45 => rl ?_
        refine seqL2 kr ?_
        refine nl (hK45 _ _ ?_)
        refine wp_ret ?_
        refine hr11 _ _ ?_
        refine hret _ _ ?_
        refine ends_still (v := Value.tuple #[.string ⟨#[116, 105, 109, 101]⟩, .int .i64 60000]) kr kr ?_
        injection h with h
        injection h with h0_ h
        subst h0_ h
        exact ⟨f27, rfl, L28, HS30⟩
      · have c43 : ¬ ((s1.toList == (⟨#[109, 105, 110, 117, 116, 101]⟩ : ByteArray).toList) = true) := c43
        refine wpRwI 10 (x := (s1.toList == (⟨#[109, 105, 110, 117, 116, 101]⟩ : ByteArray).toList)) (v := false) kr (Bool.eq_false_iff.mpr c43) ?_
        refine wpRwI 11 (x := (s1.toList == (⟨#[109, 105, 110, 117, 116, 101]⟩ : ByteArray).toList)) (v := false) kr (Bool.eq_false_iff.mpr c43) ?_
        refine condF kr ?_
        refine wp_seq_k fun K46 hK47 => rl ?_
        refine seqL2 kr ?_
        refine nl (hK47 _ _ ?_)
        have hq_ := ite_some h; clear h; rcases hq_ with ⟨c49, h⟩ | ⟨c49, h⟩
        · have c49 : (s1.toList == (⟨#[104, 111, 117, 114]⟩ : ByteArray).toList) = true := c49
          refine wpRwI 12 (x := (s1.toList == (⟨#[104, 111, 117, 114]⟩ : ByteArray).toList)) (v := true) kr c49 ?_
          refine wpRwI 13 (x := (s1.toList == (⟨#[104, 111, 117, 114]⟩ : ByteArray).toList)) (v := true) kr c49 ?_
          refine condT kr ?_
          refine wp_seq_k fun K50 hK51 => rl ?_
          refine seqL2 kr ?_
          refine nl (hK51 _ _ ?_)
          refine wp_ret ?_
          refine hr11 _ _ ?_
          refine hret _ _ ?_
          refine ends_still (v := Value.tuple #[.string ⟨#[116, 105, 109, 101]⟩, .int .i64 3600000]) kr kr ?_
          injection h with h
          injection h with h0_ h
          subst h0_ h
          exact ⟨f27, rfl, L28, HS30⟩
        · have c49 : ¬ ((s1.toList == (⟨#[104, 111, 117, 114]⟩ : ByteArray).toList) = true) := c49
          refine wpRwI 12 (x := (s1.toList == (⟨#[104, 111, 117, 114]⟩ : ByteArray).toList)) (v := false) kr (Bool.eq_false_iff.mpr c49) ?_
          refine wpRwI 13 (x := (s1.toList == (⟨#[104, 111, 117, 114]⟩ : ByteArray).toList)) (v := false) kr (Bool.eq_false_iff.mpr c49) ?_
          refine condF kr ?_
          refine wp_seq_k fun K52 hK53 => rl ?_
          refine seqL2 kr ?_
          refine nl (hK53 _ _ ?_)
          have hq_ := ite_some h; clear h; rcases hq_ with ⟨c55, h⟩ | ⟨c55, h⟩
          · have c55 : (s1.toList == (⟨#[100, 97, 121]⟩ : ByteArray).toList) = true := c55
            refine wpRwI 14 (x := (s1.toList == (⟨#[100, 97, 121]⟩ : ByteArray).toList)) (v := true) kr c55 ?_
            refine wpRwI 15 (x := (s1.toList == (⟨#[100, 97, 121]⟩ : ByteArray).toList)) (v := true) kr c55 ?_
            refine condT kr ?_
            refine wp_seq_k fun K56 hK57 => rl ?_
            refine seqL2 kr ?_
            refine nl (hK57 _ _ ?_)
            refine wp_ret ?_
            refine hr11 _ _ ?_
            refine hret _ _ ?_
            refine ends_still (v := Value.tuple #[.string ⟨#[116, 105, 109, 101]⟩, .int .i64 86400000]) kr kr ?_
            injection h with h
            injection h with h0_ h
            subst h0_ h
            exact ⟨f27, rfl, L28, HS30⟩
          · have c55 : ¬ ((s1.toList == (⟨#[100, 97, 121]⟩ : ByteArray).toList) = true) := c55
            refine wpRwI 14 (x := (s1.toList == (⟨#[100, 97, 121]⟩ : ByteArray).toList)) (v := false) kr (Bool.eq_false_iff.mpr c55) ?_
            refine wpRwI 15 (x := (s1.toList == (⟨#[100, 97, 121]⟩ : ByteArray).toList)) (v := false) kr (Bool.eq_false_iff.mpr c55) ?_
            refine condF kr ?_
            refine wp_seq_k fun K58 hK59 => rl ?_
            refine seqL2 kr ?_
            refine nl (hK59 _ _ ?_)
            have hq_ := ite_some h; clear h; rcases hq_ with ⟨c61, h⟩ | ⟨c61, h⟩
            · have c61 : (s1.toList == (⟨#[115, 117, 98]⟩ : ByteArray).toList) = true := c61
              refine wpRwI 16 (x := (s1.toList == (⟨#[115, 117, 98]⟩ : ByteArray).toList)) (v := true) kr c61 ?_
              refine wpRwI 17 (x := (s1.toList == (⟨#[115, 117, 98]⟩ : ByteArray).toList)) (v := true) kr c61 ?_
              refine condT kr ?_
              refine wp_seq_k fun K62 hK63 => rl ?_
              refine seqL2 kr ?_
              refine nl (hK63 _ _ ?_)
              refine wp_ret ?_
              refine hr11 _ _ ?_
              refine hret _ _ ?_
              refine ends_still (v := Value.tuple #[.string ⟨#[108, 101, 110, 103, 116, 104]⟩, .int .i64 1]) kr kr ?_
              injection h with h
              injection h with h0_ h
              subst h0_ h
              exact ⟨f27, rfl, L28, HS30⟩
            · have c61 : ¬ ((s1.toList == (⟨#[115, 117, 98]⟩ : ByteArray).toList) = true) := c61
              refine wpRwI 16 (x := (s1.toList == (⟨#[115, 117, 98]⟩ : ByteArray).toList)) (v := false) kr (Bool.eq_false_iff.mpr c61) ?_
              refine wpRwI 17 (x := (s1.toList == (⟨#[115, 117, 98]⟩ : ByteArray).toList)) (v := false) kr (Bool.eq_false_iff.mpr c61) ?_
              refine condF kr ?_
              refine wp_seq_k fun K64 hK65 => rl ?_
              refine seqL2 kr ?_
              refine nl (hK65 _ _ ?_)
              have hq_ := ite_some h; clear h; rcases hq_ with ⟨c67, h⟩ | ⟨c67, h⟩
              · have c67 : (s1.toList == (⟨#[99, 101, 108, 108]⟩ : ByteArray).toList) = true := c67
                refine wpRwI 18 (x := (s1.toList == (⟨#[99, 101, 108, 108]⟩ : ByteArray).toList)) (v := true) kr c67 ?_
                refine wpRwI 19 (x := (s1.toList == (⟨#[99, 101, 108, 108]⟩ : ByteArray).toList)) (v := true) kr c67 ?_
                refine condT kr ?_
                refine wp_seq_k fun K68 hK69 => rl ?_
                refine seqL2 kr ?_
                refine nl (hK69 _ _ ?_)
                refine wp_ret ?_
                refine hr11 _ _ ?_
                refine hret _ _ ?_
                refine ends_still (v := Value.tuple #[.string ⟨#[108, 101, 110, 103, 116, 104]⟩, .int .i64 256]) kr kr ?_
                injection h with h
                injection h with h0_ h
                subst h0_ h
                exact ⟨f27, rfl, L28, HS30⟩
              · have c67 : ¬ ((s1.toList == (⟨#[99, 101, 108, 108]⟩ : ByteArray).toList) = true) := c67
                refine wpRwI 18 (x := (s1.toList == (⟨#[99, 101, 108, 108]⟩ : ByteArray).toList)) (v := false) kr (Bool.eq_false_iff.mpr c67) ?_
                refine wpRwI 19 (x := (s1.toList == (⟨#[99, 101, 108, 108]⟩ : ByteArray).toList)) (v := false) kr (Bool.eq_false_iff.mpr c67) ?_
                refine condF kr ?_
                refine wp_seq_k fun K70 hK71 => rl ?_
                refine seqL2 kr ?_
                refine nl (hK71 _ _ ?_)
                have hq_ := ite_some h; clear h; rcases hq_ with ⟨c73, h⟩ | ⟨c73, h⟩
                · have c73 : (s1.toList == (⟨#[97, 114, 99]⟩ : ByteArray).toList) = true := c73
                  refine wpRwI 20 (x := (s1.toList == (⟨#[97, 114, 99]⟩ : ByteArray).toList)) (v := true) kr c73 ?_
                  refine wpRwI 21 (x := (s1.toList == (⟨#[97, 114, 99]⟩ : ByteArray).toList)) (v := true) kr c73 ?_
                  refine condT kr ?_
                  refine wp_seq_k fun K74 hK75 => rl ?_
                  refine seqL2 kr ?_
                  refine nl (hK75 _ _ ?_)
                  refine wp_ret ?_
                  refine hr11 _ _ ?_
                  refine hret _ _ ?_
                  refine ends_still (v := Value.tuple #[.string ⟨#[97, 110, 103, 108, 101]⟩, .int .i64 1]) kr kr ?_
                  injection h with h
                  injection h with h0_ h
                  subst h0_ h
                  exact ⟨f27, rfl, L28, HS30⟩
                · have c73 : ¬ ((s1.toList == (⟨#[97, 114, 99]⟩ : ByteArray).toList) = true) := c73
                  refine wpRwI 20 (x := (s1.toList == (⟨#[97, 114, 99]⟩ : ByteArray).toList)) (v := false) kr (Bool.eq_false_iff.mpr c73) ?_
                  refine wpRwI 21 (x := (s1.toList == (⟨#[97, 114, 99]⟩ : ByteArray).toList)) (v := false) kr (Bool.eq_false_iff.mpr c73) ?_
                  refine condF kr ?_
                  refine wp_seq_k fun K76 hK77 => rl ?_
                  refine seqL2 kr ?_
                  refine nl (hK77 _ _ ?_)
                  have hq_ := ite_some h; clear h; rcases hq_ with ⟨c79, h⟩ | ⟨c79, h⟩
                  · have c79 : (s1.toList == (⟨#[116, 117, 114, 110]⟩ : ByteArray).toList) = true := c79
                    refine wpRwI 22 (x := (s1.toList == (⟨#[116, 117, 114, 110]⟩ : ByteArray).toList)) (v := true) kr c79 ?_
                    refine wpRwI 23 (x := (s1.toList == (⟨#[116, 117, 114, 110]⟩ : ByteArray).toList)) (v := true) kr c79 ?_
                    refine condT kr ?_
                    refine wp_seq_k fun K80 hK81 => rl ?_
                    refine seqL2 kr ?_
                    refine nl (hK81 _ _ ?_)
                    refine wp_ret ?_
                    refine hr11 _ _ ?_
                    refine hret _ _ ?_
                    refine ends_still (v := Value.tuple #[.string ⟨#[97, 110, 103, 108, 101]⟩, .int .i64 4294967296]) kr kr ?_
                    injection h with h
                    injection h with h0_ h
                    subst h0_ h
                    exact ⟨f27, rfl, L28, HS30⟩
                  · have c79 : ¬ ((s1.toList == (⟨#[116, 117, 114, 110]⟩ : ByteArray).toList) = true) := c79
                    refine wpRwI 22 (x := (s1.toList == (⟨#[116, 117, 114, 110]⟩ : ByteArray).toList)) (v := false) kr (Bool.eq_false_iff.mpr c79) ?_
                    refine wpRwI 23 (x := (s1.toList == (⟨#[116, 117, 114, 110]⟩ : ByteArray).toList)) (v := false) kr (Bool.eq_false_iff.mpr c79) ?_
                    refine condF kr ?_
                    refine wp_skip ?_
                    refine hn10 _ _ ?_
                    refine hK5 _ _ ?_
                    refine wp_seq_k fun K82 hK83 => rl ?_
                    refine seqL2 kr ?_
                    refine nl (hK83 _ _ ?_)
                    refine wp_ret ?_
                    refine hret _ _ ?_
                    refine ends_still (v := Value.tuple #[.string ⟨#[]⟩, .int .i64 0]) kr kr ?_
                    injection h with h
                    injection h with h0_ h
                    subst h0_ h
                    exact ⟨f27, rfl, L28, HS30⟩
   clear h; have h := hv33; clear hv33
   have hq_ := ite_some h; clear h; rcases hq_ with ⟨c26, h⟩ | ⟨c26, h⟩
   · have c26 : (s1.toList == (⟨#[98, 101, 97, 116]⟩ : ByteArray).toList) = true := c26
     refine wpRwI 7 (x := (s1.toList == (⟨#[98, 101, 97, 116]⟩ : ByteArray).toList)) (v := true) kr c26 ?_
     refine wpRwI 8 (x := (s1.toList == (⟨#[98, 101, 97, 116]⟩ : ByteArray).toList)) (v := true) kr c26 ?_
     refine condT kr ?_
     refine wp_skip ?_
     refine fnRwI (F := K21) 8 (x := true) (v := (s1.toList == (⟨#[98, 101, 97, 116]⟩ : ByteArray).toList)) kr (Eq.symm c26) ?_
     refine fnRwI (F := K21) 7 (x := true) (v := (s1.toList == (⟨#[98, 101, 97, 116]⟩ : ByteArray).toList)) kr (Eq.symm c26) ?_
     exact J34 f (s1.toList == (⟨#[98, 101, 97, 116]⟩ : ByteArray).toList) (fun i_ => [undef].getD i_ undef) w _ (FM.le.refl _) h HS kr
   · have c26 : ¬ ((s1.toList == (⟨#[98, 101, 97, 116]⟩ : ByteArray).toList) = true) := c26
     refine wpRwI 7 (x := (s1.toList == (⟨#[98, 101, 97, 116]⟩ : ByteArray).toList)) (v := false) kr (Bool.eq_false_iff.mpr c26) ?_
     refine wpRwI 8 (x := (s1.toList == (⟨#[98, 101, 97, 116]⟩ : ByteArray).toList)) (v := false) kr (Bool.eq_false_iff.mpr c26) ?_
     refine condF kr ?_
     refine rl ?_
     refine seqL2 kr ?_
     refine nl ?_
     refine fnRwI (F := K21) 8 (x := false) (v := (s1.toList == (⟨#[98, 101, 97, 116]⟩ : ByteArray).toList)) kr (Eq.symm (Bool.eq_false_iff.mpr c26)) ?_
     exact J34 f (s1.toList == (⟨#[115, 101, 99, 111, 110, 100]⟩ : ByteArray).toList) (fun i_ => [Value.bool (s1.toList == (⟨#[115, 101, 99, 111, 110, 100]⟩ : ByteArray).toList)].getD i_ undef) w _ (FM.le.refl _) h HS kr

set_option maxRecDepth 100000 in
set_option maxHeartbeats 4000000 in
theorem num_size.calls (k : Nat)  (a1 : Int) {t w : World} {f : FM} {H : List Seg} (HS : St t w f (H)) (rr1 : Int) (h : num_size k a1 = some rr1) :
    Calls Tryz.prog 101 #[.int .i64 a1] w (fun e w' => ∃ (g : FM), e = .returned (Value.int .u64 rr1) ∧ FM.le f g ∧ St t w' g (H)) := by
 unfold num_size at h
 refine enter Tryz.func101 rfl (tm := #[iV a1, uV, uV, uV, uV, uV, uV, uV, uV, uV]) kr ?_
 intro B hret hnor hnp
 refine wp_seq_k fun K2 hK3 => rl ?_
 refine seqL1 kr ?_
 refine nl (hK3 _ _ ?_)
 refine wp_seq_k (fun K4 hK5 => ?_)
 refine wp_seq_k fun K6 hK7 => rl ?_
 refine seqL2 kr ?_
 refine nl (hK7 _ _ ?_)
 have hq_ := ite_some h; clear h; rcases hq_ with ⟨c9, h⟩ | ⟨c9, h⟩
 · have c9 : a1 < 0 := c9
   refine wpRwI 4 (x := (decide (a1 < 0))) (v := true) kr (decide_eq_true c9) ?_
   refine condT kr ?_
   refine wp_seq_k fun K10 hK11 => rl ?_
   refine seqL4 kr ?_
   refine nl (hK11 _ _ ?_)
   refine wp_ret ?_
   refine hret _ _ ?_
   refine ends_still (v := Value.int .u64 (u64 (0 - (u64 (a1))))) kr kr ?_
   injection h with h
   subst h
   exact ⟨f, rfl, FM.le.refl _, HS⟩
 · have c9 : ¬ (a1 < 0) := c9
   refine wpRwI 4 (x := (decide (a1 < 0))) (v := false) kr (decide_eq_false c9) ?_
   refine condF kr ?_
   refine wp_skip ?_
   refine hK5 _ _ ?_
   refine wp_seq_k fun K12 hK13 => rl ?_
   refine seqL3 kr ?_
   refine nl (hK13 _ _ ?_)
   refine wp_ret ?_
   refine hret _ _ ?_
   refine ends_still (v := Value.int .u64 (u64 (a1))) kr kr ?_
   injection h with h
   subst h
   exact ⟨f, rfl, FM.le.refl _, HS⟩

set_option maxRecDepth 100000 in
set_option maxHeartbeats 4000000 in
theorem bits_Mul64.calls (k : Nat)  (x1 : Int) (y2 : Int) {t w : World} {f : FM} {H : List Seg} (HS : St t w f (H)) (rr1 : Int) (rr2 : Int) (h : bits_Mul64 k x1 y2 = some (rr1, rr2)) :
    Calls Tryz.prog 100 #[.int .u64 x1, .int .u64 y2] w (fun e w' => ∃ (g : FM), e = .returned (Value.tuple #[.int .u64 rr1, .int .u64 rr2]) ∧ FM.le f g ∧ St t w' g (H)) := by
 unfold bits_Mul64 at h
 refine enter Tryz.func100 rfl (tm := #[.int .u64 x1, .int .u64 y2, uV, uV, uV, uV, uV, uV, uV, uV, uV, uV, uV, uV, uV, uV, uV, uV, uV, uV, uV, uV, uV, uV, uV, uV, uV, uV, uV, uV, uV, uV, uV, uV, uV, uV, uV, uV, uV, uV, uV, uV, uV, uV, uV, uV, uV, uV, uV, uV, uV]) kr ?_
 intro B hret hnor hnp
 refine wp_seq_k fun K3 hK4 => rl ?_
 refine seqL2 kr ?_
 refine nl (hK4 _ _ ?_)
 refine wp_seq_k fun K5 hK6 => rl ?_
 refine seqL3 kr ?_
 refine nl (hK6 _ _ ?_)
 refine wp_seq_k fun K7 hK8 => rl ?_
 refine seqL3 kr ?_
 refine nl (hK8 _ _ ?_)
 refine wp_seq_k fun K9 hK10 => rl ?_
 refine seqL3 kr ?_
 refine nl (hK10 _ _ ?_)
 refine wp_seq_k fun K11 hK12 => rl ?_
 refine seqL3 kr ?_
 refine nl (hK12 _ _ ?_)
 refine wp_seq_k fun K13 hK14 => rl ?_
 refine seqL4 kr ?_
 refine nl (hK14 _ _ ?_)
 refine wp_seq_k fun K15 hK16 => rl ?_
 refine seqL7 kr ?_
 refine nl (hK16 _ _ ?_)
 refine wp_seq_k fun K17 hK18 => rl ?_
 refine seqL3 kr ?_
 refine nl (hK18 _ _ ?_)
 refine wp_seq_k fun K19 hK20 => rl ?_
 refine seqL3 kr ?_
 refine nl (hK20 _ _ ?_)
 refine wp_seq_k fun K21 hK22 => rl ?_
 refine seqL6 kr ?_
 refine nl (hK22 _ _ ?_)
 refine wp_seq_k fun K23 hK24 => rl ?_
 refine seqL9 kr ?_
 refine nl (hK24 _ _ ?_)
 refine wp_seq_k fun K25 hK26 => rl ?_
 refine seqL4 kr ?_
 refine nl (hK26 _ _ ?_)
 refine wp_ret ?_
 refine hret _ _ ?_
 refine ends_still (v := Value.tuple #[.int .u64 (u64 ((u64 ((u64 ((shr x1 32) * (shr y2 32))) + (shr (u64 ((u64 ((shr x1 32) * (Go.bits .and .u64 y2 4294967295))) + (shr (u64 ((Go.bits .and .u64 x1 4294967295) * (Go.bits .and .u64 y2 4294967295))) 32))) 32))) + (shr (u64 ((Go.bits .and .u64 (u64 ((u64 ((shr x1 32) * (Go.bits .and .u64 y2 4294967295))) + (shr (u64 ((Go.bits .and .u64 x1 4294967295) * (Go.bits .and .u64 y2 4294967295))) 32))) 4294967295) + (u64 ((Go.bits .and .u64 x1 4294967295) * (shr y2 32))))) 32))), .int .u64 (u64 (x1 * y2))]) kr kr ?_
 injection h with h
 injection h with h0_ h
 subst h0_ h
 exact ⟨f, rfl, FM.le.refl _, HS⟩

set_option maxRecDepth 100000 in
set_option maxHeartbeats 4000000 in
theorem num_Wide_Neg.calls (k : Nat)  (vw1 : S_Wide) {t w : World} {f : FM} {H : List Seg} (HS : St t w f (H)) (rr1 : S_Wide) (h : num_Wide_Neg k vw1 = some rr1) :
    Calls Tryz.prog 102 #[.agg #[.int .i64 vw1.Hi, .int .u64 vw1.Lo]] w (fun e w' => ∃ (g : FM), e = .returned (Value.agg #[.int .i64 rr1.Hi, .int .u64 rr1.Lo]) ∧ FM.le f g ∧ St t w' g (H)) := by
 unfold num_Wide_Neg at h
 refine enter Tryz.func102 rfl (tm := #[.agg #[iV vw1.Hi, .int .u64 vw1.Lo], uV, uV, uV, uV, uV, uV, uV, uV, uV, uV, uV, uV, uV, uV, uV, uV, uV, uV, uV, uV, uV, uV, uV, uV, uV, uV]) kr ?_
 intro B hret hnor hnp
 refine wp_seq_k fun K2 hK3 => rl ?_
 refine seqK rfl (does_box (cs := #[.int .i64 vw1.Hi, .int .u64 vw1.Lo]) rfl (kv (.agg #[.int .i64 vw1.Hi, .int .u64 vw1.Lo])) rfl HS ?_)
 intro b4 W5 HS6
 refine seqK rfl (does_alloc (z := Value.agg #[.int .i64 0, .int .u64 0]) (cs := #[.int .i64 0, .int .u64 0]) rfl kr rfl HS6 ?_)
 intro b8 W9 HS10
 refine nl (hK3 _ _ ?_)
 refine wp_seq_k fun K12 hK13 => rl ?_
 refine seqL1 kr ?_
 refine seqK rfl (does_run (run_load rfl Tryz.underlying69 rfl (kv (.pointer (some ⟨b4, 1, none⟩))) (HS10.u1.cell 1)) ?_)
 have hq_ := guard_some h; clear h; obtain ⟨c14, h⟩ := hq_
 have c14 : 0 ≤ (Go.bits .xor .u64 IntKind.u64.max vw1.Lo) := c14
 refine seqL1 kr ?_
 refine seqK rfl (does_run (run_add64op (x := Go.bits .xor .u64 IntKind.u64.max vw1.Lo) (y := 1) (c := 0) kr Tryz.func124 kr kr kr kr c14 (by decide) (by decide) (by decide) W9) ?_)
 refine seqL5 kr ?_
 refine nl (hK13 _ _ ?_)
 refine wp_seq_k fun K15 hK16 => rl ?_
 refine seqL1 kr ?_
 refine seqK rfl (does_run (run_load rfl Tryz.underlying2 rfl (kv (.pointer (some ⟨b4, 0, none⟩))) (HS10.u1.cell 0)) ?_)
 have hq_ := guard_some h; clear h; obtain ⟨c17, h⟩ := hq_
 have c17 : 0 ≤ (Go.bits .xor .u64 IntKind.u64.max (u64 (vw1.Hi))) := c17
 have hq_ := guard_some h; clear h; obtain ⟨c18, h⟩ := hq_
 have c18 : 0 ≤ (((Go.bits .xor .u64 IntKind.u64.max vw1.Lo) + 1 + 0) / 18446744073709551616) := c18
 have hq_ := guard_some h; clear h; obtain ⟨c19, h⟩ := hq_
 have c19 : (((Go.bits .xor .u64 IntKind.u64.max vw1.Lo) + 1 + 0) / 18446744073709551616) ≤ 1 := c19
 refine seqL3 kr ?_
 refine seqK rfl (does_run (run_add64op (x := Go.bits .xor .u64 IntKind.u64.max (u64 (vw1.Hi))) (y := 0) (c := ((Go.bits .xor .u64 IntKind.u64.max vw1.Lo) + 1 + 0) / 18446744073709551616) kr Tryz.func124 kr kr kr kr c17 (by decide) c18 c19 W9) ?_)
 refine seqL5 kr ?_
 refine nl (hK16 _ _ ?_)
 refine wp_seq_k fun K20 hK21 => rl ?_
 refine seqL4 kr ?_
 refine seqK rfl (does_store (n := 2) (vs := [.int .i64 (w64 (((Go.bits .xor .u64 IntKind.u64.max (u64 (vw1.Hi))) + 0 + (((Go.bits .xor .u64 IntKind.u64.max vw1.Lo) + 1 + 0) / 18446744073709551616)) % 18446744073709551616)), .int .u64 (((Go.bits .xor .u64 IntKind.u64.max vw1.Lo) + 1 + 0) % 18446744073709551616)]) (cs' := #[.int .i64 (w64 (((Go.bits .xor .u64 IntKind.u64.max (u64 (vw1.Hi))) + 0 + (((Go.bits .xor .u64 IntKind.u64.max vw1.Lo) + 1 + 0) / 18446744073709551616)) % 18446744073709551616)), .int .u64 (((Go.bits .xor .u64 IntKind.u64.max vw1.Lo) + 1 + 0) % 18446744073709551616)]) rfl kr (kv (.pointer (some ⟨b8, 0, none⟩))) (kv (.agg #[.int .i64 (w64 (((Go.bits .xor .u64 IntKind.u64.max (u64 (vw1.Hi))) + 0 + (((Go.bits .xor .u64 IntKind.u64.max vw1.Lo) + 1 + 0) / 18446744073709551616)) % 18446744073709551616)), .int .u64 (((Go.bits .xor .u64 IntKind.u64.max vw1.Lo) + 1 + 0) % 18446744073709551616)])) rfl rfl (by intro u_ hu_; simp only [List.mem_cons, List.not_mem_nil, or_false] at hu_; rcases hu_ with rfl | rfl <;> rfl) HS10 (Nat.le_of_ble_eq_true rfl) kr ?_)
 intro W22 HS23
 refine nl (hK21 _ _ ?_)
 refine wp_ret ?_
 refine hret _ _ ?_
 refine ends (v := Value.agg #[.int .i64 (w64 (((Go.bits .xor .u64 IntKind.u64.max (u64 (vw1.Hi))) + 0 + (((Go.bits .xor .u64 IntKind.u64.max vw1.Lo) + 1 + 0) / 18446744073709551616)) % 18446744073709551616)), .int .u64 (((Go.bits .xor .u64 IntKind.u64.max vw1.Lo) + 1 + 0) % 18446744073709551616)]) (results1 (q1 := .cell 2 132) kr (resN (n := 2) (cs := [.int .i64 (w64 (((Go.bits .xor .u64 IntKind.u64.max (u64 (vw1.Hi))) + 0 + (((Go.bits .xor .u64 IntKind.u64.max vw1.Lo) + 1 + 0) / 18446744073709551616)) % 18446744073709551616)), .int .u64 (((Go.bits .xor .u64 IntKind.u64.max vw1.Lo) + 1 + 0) % 18446744073709551616)]) (kv (.pointer (some ⟨b8, 0, none⟩))) Tryz.underlying132 rfl kr rfl (HS23.cells 0 2 _ rfl))) kr ?_
 have HS24 := HS23.drop
 have HS25 := HS24.drop
 injection h with h
 subst h
 exact ⟨f, rfl, FM.le.refl _, HS25⟩

set_option maxRecDepth 100000 in
set_option maxHeartbeats 4000000 in
theorem num_Product.calls (k : Nat)  (a1 : Int) (b2 : Int) {t w : World} {f : FM} {H : List Seg} (HS : St t w f (H)) (rr1 : S_Wide) (h : num_Product k a1 b2 = some rr1) :
    Calls Tryz.prog 68 #[.int .i64 a1, .int .i64 b2] w (fun e w' => ∃ (g : FM), e = .returned (Value.agg #[.int .i64 rr1.Hi, .int .u64 rr1.Lo]) ∧ FM.le f g ∧ St t w' g (H)) := by
 unfold num_Product at h
 refine enter Tryz.func68 rfl (tm := #[iV a1, iV b2, uV, uV, uV, uV, uV, uV, uV, uV, uV, uV, uV, uV, uV, uV, uV, uV, uV, uV, uV, uV, uV, uV, uV, uV, uV, uV]) kr ?_
 intro B hret hnor hnp
 refine wp_seq_k fun K3 hK4 => rl ?_
 refine seqK rfl (does_alloc (z := Value.agg #[.int .i64 0, .int .u64 0]) (cs := #[.int .i64 0, .int .u64 0]) rfl kr rfl HS ?_)
 intro b5 W6 HS7
 refine nl (hK4 _ _ ?_)
 refine wp_seq_k fun K9 hK10 => rl ?_
 have hq_ := bind_some h; clear h; obtain ⟨vt11, hc12, h⟩ := hq_
 refine seqL1 kr ?_
 refine seqK rfl (does_call (f := 101) (args := #[.int .i64 a1]) kr (num_size.calls k a1 HS7 vt11 hc12) ?_)
 rintro _ W15 ⟨f13, rfl, L14, HS16⟩
 refine ⟨_, rfl, ?_⟩
 have hq_ := bind_some h; clear h; obtain ⟨vt17, hc18, h⟩ := hq_
 refine seqL1 kr ?_
 refine seqK rfl (does_call (f := 101) (args := #[.int .i64 b2]) kr (num_size.calls k b2 HS16 vt17 hc18) ?_)
 rintro _ W21 ⟨f19, rfl, L20, HS22⟩
 refine ⟨_, rfl, ?_⟩
 have hq_ := bind_some h; clear h; obtain ⟨⟨vt23, vt24⟩, hc25, h⟩ := hq_
 refine seqK rfl (does_call (f := 100) (args := #[.int .u64 vt11, .int .u64 vt17]) kr (bits_Mul64.calls k vt11 vt17 HS22 vt23 vt24 hc25) ?_)
 rintro _ W28 ⟨f26, rfl, L27, HS29⟩
 refine ⟨_, rfl, ?_⟩
 refine seqL5 kr ?_
 refine nl (hK10 _ _ ?_)
 refine wp_seq_k fun K30 hK31 => rl ?_
 refine seqL4 kr ?_
 refine seqK rfl (does_alloc (z := Value.agg #[.int .i64 0, .int .u64 0]) (cs := #[.int .i64 0, .int .u64 0]) rfl kr rfl HS29 ?_)
 intro b32 W33 HS34
 refine seqK rfl (does_store (n := 2) (vs := [.int .i64 (w64 (vt23)), .int .u64 vt24]) (cs' := #[.int .i64 (w64 (vt23)), .int .u64 vt24]) rfl kr (kv (.pointer (some ⟨b32, 0, none⟩))) (kv (.agg #[.int .i64 (w64 (vt23)), .int .u64 vt24])) rfl rfl (by intro u_ hu_; simp only [List.mem_cons, List.not_mem_nil, or_false] at hu_; rcases hu_ with rfl | rfl <;> rfl) HS34 (Nat.le_of_ble_eq_true rfl) kr ?_)
 intro W36 HS37
 refine nl (hK31 _ _ ?_)
 refine wp_seq_k (fun K38 hK39 => ?_)
 refine wp_seq_k fun K40 hK41 => rl ?_
 refine seqL5 kr ?_
 refine nl (hK41 _ _ ?_)
 have hq_ := ite_some h; clear h; rcases hq_ with ⟨c43, h⟩ | ⟨c43, h⟩
 · have c43 : ((decide (a1 < 0)) != (decide (b2 < 0))) = true := c43
   refine wpRwI 24 (x := ((decide (a1 < 0)) != (decide (b2 < 0)))) (v := true) kr c43 ?_
   refine condT kr ?_
   refine wp_seq_k fun K44 hK45 => rl ?_
   refine seqK rfl (does_run (run_loadN (n := 2) rfl Tryz.underlying132 rfl kr (kv (.pointer (some ⟨b32, 0, none⟩))) (cs := [.int .i64 (w64 (vt23)), .int .u64 vt24]) rfl (HS37.cells 0 2 _ rfl)) ?_)
   have hq_ := bind_some h; clear h; obtain ⟨vt46, hc47, h⟩ := hq_
   refine seqK rfl (does_call (f := 102) (args := #[.agg #[.int .i64 (w64 (vt23)), .int .u64 vt24]]) kr (num_Wide_Neg.calls k (⟨w64 (vt23), vt24⟩ : S_Wide) HS37 vt46 hc47) ?_)
   rintro _ W50 ⟨f48, rfl, L49, HS51⟩
   refine ⟨_, rfl, ?_⟩
   have HS52 := HS51.u1
   refine seqK rfl (does_store (n := 2) (vs := [.int .i64 vt46.Hi, .int .u64 vt46.Lo]) (cs' := #[.int .i64 vt46.Hi, .int .u64 vt46.Lo]) rfl kr (kv (.pointer (some ⟨b5, 0, none⟩))) (kv (.agg #[.int .i64 vt46.Hi, .int .u64 vt46.Lo])) rfl rfl (by intro u_ hu_; simp only [List.mem_cons, List.not_mem_nil, or_false] at hu_; rcases hu_ with rfl | rfl <;> rfl) HS52 (Nat.le_of_ble_eq_true rfl) kr ?_)
   intro W53 HS54
   refine nl (hK45 _ _ ?_)
   refine wp_ret ?_
   refine hret _ _ ?_
   refine ends (v := Value.agg #[.int .i64 vt46.Hi, .int .u64 vt46.Lo]) (results1 (q1 := .cell 4 132) kr (resN (n := 2) (cs := [.int .i64 vt46.Hi, .int .u64 vt46.Lo]) (kv (.pointer (some ⟨b5, 0, none⟩))) Tryz.underlying132 rfl kr rfl (HS54.cells 0 2 _ rfl))) kr ?_
   have HS60 := HS54.drop
   have HS61 := HS60.drop
   injection h with h
   subst h
   exact ⟨f48, rfl, (L14.trans (L20.trans (L27.trans L49))), HS61⟩
 · have c43 : ¬ (((decide (a1 < 0)) != (decide (b2 < 0))) = true) := c43
   refine wpRwI 24 (x := ((decide (a1 < 0)) != (decide (b2 < 0)))) (v := false) kr (Bool.eq_false_iff.mpr c43) ?_
   refine condF kr ?_
   refine wp_skip ?_
   refine hK39 _ _ ?_
   refine wp_seq_k fun K55 hK56 => rl ?_
   refine seqK rfl (does_run (run_loadN (n := 2) rfl Tryz.underlying132 rfl kr (kv (.pointer (some ⟨b32, 0, none⟩))) (cs := [.int .i64 (w64 (vt23)), .int .u64 vt24]) rfl (HS37.cells 0 2 _ rfl)) ?_)
   have HS57 := HS37.u1
   refine seqK rfl (does_store (n := 2) (vs := [.int .i64 (w64 (vt23)), .int .u64 vt24]) (cs' := #[.int .i64 (w64 (vt23)), .int .u64 vt24]) rfl kr (kv (.pointer (some ⟨b5, 0, none⟩))) (kv (.agg #[.int .i64 (w64 (vt23)), .int .u64 vt24])) rfl rfl (by intro u_ hu_; simp only [List.mem_cons, List.not_mem_nil, or_false] at hu_; rcases hu_ with rfl | rfl <;> rfl) HS57 (Nat.le_of_ble_eq_true rfl) kr ?_)
   intro W58 HS59
   refine nl (hK56 _ _ ?_)
   refine wp_ret ?_
   refine hret _ _ ?_
   refine ends (v := Value.agg #[.int .i64 (w64 (vt23)), .int .u64 vt24]) (results1 (q1 := .cell 4 132) kr (resN (n := 2) (cs := [.int .i64 (w64 (vt23)), .int .u64 vt24]) (kv (.pointer (some ⟨b5, 0, none⟩))) Tryz.underlying132 rfl kr rfl (HS59.cells 0 2 _ rfl))) kr ?_
   have HS62 := HS59.drop
   have HS63 := HS62.drop
   injection h with h
   subst h
   exact ⟨f26, rfl, (L14.trans (L20.trans L27)), HS63⟩

set_option maxRecDepth 100000 in
set_option maxHeartbeats 4000000 in
theorem num_Mul.calls (k : Nat)  (a1 : Int) (b2 : Int) {t w : World} {f : FM} {H : List Seg} (HS : St t w f (H)) (rr1 : Int) (rr2 : Bool) (h : num_Mul k a1 b2 = some (rr1, rr2)) :
    Calls Tryz.prog 40 #[.int .i64 a1, .int .i64 b2] w (fun e w' => ∃ (g : FM), e = .returned (Value.tuple #[.int .i64 rr1, .bool rr2]) ∧ FM.le f g ∧ St t w' g (H)) := by
 unfold num_Mul at h
 refine enter Tryz.func40 rfl (tm := #[iV a1, iV b2, uV, uV, uV, uV, uV, uV, uV, uV, uV, uV, uV, uV, uV, uV, uV, uV, uV, uV]) kr ?_
 intro B hret hnor hnp
 refine wp_seq_k fun K3 hK4 => rl ?_
 refine seqL2 kr ?_
 refine nl (hK4 _ _ ?_)
 refine wp_seq_k fun K5 hK6 => rl ?_
 have hq_ := bind_some h; clear h; obtain ⟨vt7, hc8, h⟩ := hq_
 refine seqL2 kr ?_
 refine seqK rfl (does_call (f := 68) (args := #[.int .i64 a1, .int .i64 b2]) kr (num_Product.calls k a1 b2 HS vt7 hc8) ?_)
 rintro _ W11 ⟨f9, rfl, L10, HS12⟩
 refine ⟨_, rfl, ?_⟩
 refine seqK rfl (does_alloc (z := Value.agg #[.int .i64 0, .int .u64 0]) (cs := #[.int .i64 0, .int .u64 0]) rfl kr rfl HS12 ?_)
 intro b13 W14 HS15
 refine seqK rfl (does_store (n := 2) (vs := [.int .i64 vt7.Hi, .int .u64 vt7.Lo]) (cs' := #[.int .i64 vt7.Hi, .int .u64 vt7.Lo]) rfl kr (kv (.pointer (some ⟨b13, 0, none⟩))) (kv (.agg #[.int .i64 vt7.Hi, .int .u64 vt7.Lo])) rfl rfl (by intro u_ hu_; simp only [List.mem_cons, List.not_mem_nil, or_false] at hu_; rcases hu_ with rfl | rfl <;> rfl) HS15 (Nat.le_of_ble_eq_true rfl) kr ?_)
 intro W17 HS18
 refine nl (hK6 _ _ ?_)
 refine wp_seq_k (fun K19 hK20 => ?_)
 refine wp_seq_k fun K21 hK22 => rl ?_
 refine seqL1 kr ?_
 refine seqK rfl (does_run (run_load rfl Tryz.underlying2 rfl (kv (.pointer (some ⟨b13, 0, none⟩))) (HS18.cell 0)) ?_)
 refine seqL1 kr ?_
 refine seqK rfl (does_run (run_load rfl Tryz.underlying69 rfl (kv (.pointer (some ⟨b13, 1, none⟩))) (HS18.cell 1)) ?_)
 refine seqL3 kr ?_
 refine nl (hK22 _ _ ?_)
 have hq_ := ite_some h; clear h; rcases hq_ with ⟨c24, h⟩ | ⟨c24, h⟩
 · have c24 : vt7.Hi ≠ (shr (w64 (vt7.Lo)) 63) := c24
   refine wpRwI 16 (x := (vt7.Hi != (shr (w64 (vt7.Lo)) 63))) (v := true) kr (bne_iff_ne.mpr c24) ?_
   refine condT kr ?_
   refine wp_seq_k fun K25 hK26 => rl ?_
   refine seqL2 kr ?_
   refine nl (hK26 _ _ ?_)
   refine wp_ret ?_
   refine hret _ _ ?_
   refine ends_still (v := Value.tuple #[.int .i64 0, .bool false]) kr kr ?_
   have HS29 := HS18.drop
   injection h with h
   injection h with h0_ h
   subst h0_ h
   exact ⟨f9, rfl, L10, HS29⟩
 · have c24 : ¬ (vt7.Hi ≠ (shr (w64 (vt7.Lo)) 63)) := c24
   refine wpRwI 16 (x := (vt7.Hi != (shr (w64 (vt7.Lo)) 63))) (v := false) kr (bne_eq_false_iff_eq.mpr (Decidable.of_not_not c24)) ?_
   refine condF kr ?_
   refine wp_skip ?_
   refine hK20 _ _ ?_
   refine wp_seq_k fun K27 hK28 => rl ?_
   refine seqL1 kr ?_
   refine seqK rfl (does_run (run_load rfl Tryz.underlying69 rfl (kv (.pointer (some ⟨b13, 1, none⟩))) (HS18.cell 1)) ?_)
   refine seqL3 kr ?_
   refine nl (hK28 _ _ ?_)
   refine wp_ret ?_
   refine hret _ _ ?_
   refine ends_still (v := Value.tuple #[.int .i64 (w64 (vt7.Lo)), .bool true]) kr kr ?_
   have HS30 := HS18.drop
   injection h with h
   injection h with h0_ h
   subst h0_ h
   exact ⟨f9, rfl, L10, HS30⟩

set_option maxRecDepth 100000 in
set_option maxHeartbeats 4000000 in
theorem frame_Number.calls (k : Nat) (A2 : Option Addr) (c3 : Nat) (A5 : Option Addr) (c6 : Nat) (vf1 : S_Frame) (key8 : ByteArray) (vto9 : ByteArray) {t w : World} {f : FM} {H : List Seg} (HS : St t w f (H)) (HR4 : SlR ty_Card f A2 c3 vf1.Cards) (HR7 : SlR (tInt .i64) f A5 c6 vf1.Counts) (HT : TabF Tryz.prog "internal/strconv.uint64pow10" .u64 Go.Lib.pow10Tab f) (rr1 : Int) (rr2 : Int) (h : frame_Number k vf1 key8 vto9 = some (rr1, rr2)) :
    Calls Tryz.prog 19 #[.agg #[.int .i64 vf1.W, .int .i64 vf1.H, .slice A2 vf1.Cards.length c3, .slice A5 vf1.Counts.length c6], .string key8, .string vto9] w (fun e w' => ∃ (g : FM), e = .returned (Value.tuple #[.int .i64 rr1, .int .i64 rr2]) ∧ FM.le f g ∧ St t w' g (H)) := by
 unfold frame_Number at h
 refine enter Tryz.func19 rfl (tm := #[(ag_Frame vf1 A2 c3 A5 c6), .string key8, .string vto9, uV, uV, uV, uV, uV, uV, uV, uV, uV, uV, uV, uV, uV, uV, uV, uV, uV, uV, uV, uV, uV, uV, uV, uV, uV, uV, uV, uV, uV, uV, uV, uV, uV, uV, uV, uV, uV, uV, uV, uV, uV, uV, uV, uV, uV, uV, uV, uV, uV, uV, uV, uV, uV, uV, uV, uV, uV, uV, uV, uV, uV, uV, uV, uV, uV, uV, uV, uV, uV, uV, uV, uV, uV, uV, uV, uV, uV]) kr ?_
 intro B hret hnor hnp
 refine wp_seq_k fun K10 hK11 => rl ?_
 refine seqK rfl (does_box (cs := #[.int .i64 vf1.W, .int .i64 vf1.H, .slice A2 vf1.Cards.length c3, .slice A5 vf1.Counts.length c6]) rfl (kv (.agg #[.int .i64 vf1.W, .int .i64 vf1.H, .slice A2 vf1.Cards.length c3, .slice A5 vf1.Counts.length c6])) rfl HS ?_)
 intro b12 W13 HS14
 refine seqL2 kr ?_
 refine nl (hK11 _ _ ?_)
 refine wp_seq_k fun K16 hK17 => rl ?_
 refine seqK rfl (does_run (run_loadN (n := 4) rfl Tryz.underlying29 rfl kr (kv (.pointer (some ⟨b12, 0, none⟩))) (cs := [.int .i64 vf1.W, .int .i64 vf1.H, .slice A2 vf1.Cards.length c3, .slice A5 vf1.Counts.length c6]) rfl (HS14.cells 0 4 _ rfl)) ?_)
 have hq_ := bind_some h; clear h; obtain ⟨⟨vt18, vt19⟩, hc20, h⟩ := hq_
 refine seqL1 kr ?_
 refine seqK rfl (does_call (f := 20) (args := #[.agg #[.int .i64 vf1.W, .int .i64 vf1.H, .slice A2 vf1.Cards.length c3, .slice A5 vf1.Counts.length c6], .string key8]) kr (frame_Get.calls k A2 c3 A5 c6 vf1 key8 HS14 HR4 HR7 vt18 vt19 hc20) ?_)
 rintro _ W23 ⟨f21, rfl, L22, HS24⟩
 refine ⟨_, rfl, ?_⟩
 refine seqL3 kr ?_
 refine seqK rfl (does_alloc (z := Value.agg #[.string ⟨#[]⟩, .string ⟨#[]⟩, .string ⟨#[]⟩, .string ⟨#[]⟩]) (cs := #[.string ⟨#[]⟩, .string ⟨#[]⟩, .string ⟨#[]⟩, .string ⟨#[]⟩]) rfl kr rfl HS24 ?_)
 intro b25 W26 HS27
 refine seqK rfl (does_store (n := 4) (vs := [.string vt18.Key, .string vt18.Value, .string vt18.Unit, .string vt18.Note]) (cs' := #[.string vt18.Key, .string vt18.Value, .string vt18.Unit, .string vt18.Note]) rfl kr (kv (.pointer (some ⟨b25, 0, none⟩))) (kv (.agg #[.string vt18.Key, .string vt18.Value, .string vt18.Unit, .string vt18.Note])) rfl rfl (by intro u_ hu_; simp only [List.mem_cons, List.not_mem_nil, or_false] at hu_; rcases hu_ with rfl | rfl | rfl | rfl <;> rfl) HS27 (Nat.le_of_ble_eq_true rfl) kr ?_)
 intro W29 HS30
 refine seqL1 kr ?_
 refine nl (hK17 _ _ ?_)
 refine wp_seq_k (fun K31 hK32 => ?_)
 refine wp_seq_k fun K33 hK34 => rl ?_
 refine seqL2 kr ?_
 refine nl (hK34 _ _ ?_)
 have hq_ := ite_some h; clear h; rcases hq_ with ⟨c36, h⟩ | ⟨c36, h⟩
 · have c36 : ¬ (vt19 = true) := c36
   refine wpRwI 24 (x := (!vt19)) (v := true) kr (congrArg (fun b_ => !b_) (show vt19 = false from (Bool.eq_false_iff.mpr c36)) : (!vt19) = true) ?_
   refine condT kr ?_
   refine wp_seq_k fun K37 hK38 => rl ?_
   refine seqL2 kr ?_
   refine nl (hK38 _ _ ?_)
   refine wp_ret ?_
   refine hret _ _ ?_
   refine ends_still (v := Value.tuple #[.int .i64 0, .int .i64 8]) kr kr ?_
   have HS133 := HS30.drop
   have HS134 := HS133.drop
   injection h with h
   injection h with h0_ h
   subst h0_ h
   exact ⟨f21, rfl, L22, HS134⟩
 · have c36 : ¬ (¬ (vt19 = true)) := c36
   refine wpRwI 24 (x := (!vt19)) (v := false) kr (congrArg (fun b_ => !b_) (show vt19 = true from (Decidable.of_not_not c36)) : (!vt19) = false) ?_
   refine condF kr ?_
   refine wp_skip ?_
   refine hK32 _ _ ?_
   refine wp_seq_k fun K39 hK40 => rl ?_
   refine seqL1 kr ?_
   refine seqK rfl (does_run (run_load rfl Tryz.underlying9 rfl (kv (.pointer (some ⟨b25, 1, none⟩))) (HS30.cell 1)) ?_)
   have hq_ := bind_some h; clear h; obtain ⟨vt41, hc42, h⟩ := hq_
   refine seqK rfl (does_call (f := 37) (args := #[.string vt18.Value, .int .i64 10, .int .i64 64]) kr (strconv_ParseInt.calls k vt18.Value 10 64 HS30 vt41 hc42) ?_)
   rintro _ W45 ⟨f43, rfl, L44, HS46⟩
   refine ⟨_, rfl, ?_⟩
   refine seqL5 kr ?_
   refine nl (hK40 _ _ ?_)
   refine wp_seq_k (fun K47 hK48 => ?_)
   refine wp_seq_k (fun K49 hK50 => ?_)
   refine heldG (S := Sg t f43 ([(b25, .cells #[.string vt18.Key, .string vt18.Value, .string vt18.Unit, .string vt18.Note] 51 (0, 0))] :: [(b12, .cells #[.int .i64 vf1.W, .int .i64 vf1.H, .slice A2 vf1.Cards.length c3, .slice A5 vf1.Counts.length c6] 29 (0, 0))] :: H) []) (n := 9) kr rfl HS46 ?_
   intro W51 HS52
   refine takeGL [0, 1, 2, 3, 5] (n := 9) (fuel := 4) #[true, true, true, true, false, true, false, false, false] rfl kr kr kr hnp (Sg.g0 (Sx.of [] (FM.le.refl _) HS52)) ?_
   refine takeGQ 6 [] rfl kr kr kr kr kr kr hnp (Sg.g0 (Sx.of [] (FM.le.refl _) HS52)) (fun w_ hw_ => by obtain ⟨g_, hl_, hS_⟩ := hw_.st; exact run_load rfl Tryz.underlying9 rfl (kv (.pointer (some ⟨b25, 1, none⟩))) (hS_.cell 1)) ?_
   have hq_ := bind_some h; clear h; obtain ⟨vt53, hc54, h⟩ := hq_
   refine takeGE 4 kr rfl kr (does_call (f := 38) (args := #[.int .i64 vt41, .int .i64 10]) kr (strconv_FormatInt.calls k vt41 10 HS52 (HT.mono (L22.trans L44)) vt53 hc54) ?_)
   rintro _ W57 ⟨f55, rfl, L56, HS58⟩
   refine ⟨_, rfl, ?_⟩
   refine ⟨(Sg.g0 (Sx.of [] L56 HS58)), ?_⟩
   refine takeGL [7, 8] (n := 2) (fuel := 0) #[true, true, true, true, true, true, true, true, true] rfl kr kr kr hnp (Sg.g0 (Sx.of [] L56 HS58)) ?_
   refine doneG kr ?_ _
   refine hK50 _ _ ?_
   have hq_ := ite_some h; clear h; rcases hq_ with ⟨c60, h⟩ | ⟨c60, h⟩
   · have c60 : (!(vt53.toList == vt18.Value.toList)) = true := c60
     refine wpRwI 38 (x := (!(vt53.toList == vt18.Value.toList))) (v := true) kr c60 ?_
     refine wpRwI 39 (x := (!(vt53.toList == vt18.Value.toList))) (v := true) kr c60 ?_
     refine condT kr ?_
     refine wp_seq_k fun K61 hK62 => rl ?_
     refine seqL2 kr ?_
     refine nl (hK62 _ _ ?_)
     refine wp_ret ?_
     refine hret _ _ ?_
     refine ends_still (v := Value.tuple #[.int .i64 0, .int .i64 5]) kr kr ?_
     have HS135 := HS58.drop
     have HS136 := HS135.drop
     injection h with h
     injection h with h0_ h
     subst h0_ h
     exact ⟨f55, rfl, (L22.trans (L44.trans L56)), HS136⟩
   · have c60 : ¬ ((!(vt53.toList == vt18.Value.toList)) = true) := c60
     refine wpRwI 38 (x := (!(vt53.toList == vt18.Value.toList))) (v := false) kr (Bool.eq_false_iff.mpr c60) ?_
     refine wpRwI 39 (x := (!(vt53.toList == vt18.Value.toList))) (v := false) kr (Bool.eq_false_iff.mpr c60) ?_
     refine condF kr ?_
     refine wp_skip ?_
     refine hK48 _ _ ?_
     refine wp_seq_k (fun K63 hK64 => ?_)
     refine wp_seq_k fun K65 hK66 => rl ?_
     refine seqL1 kr ?_
     refine seqK rfl (does_run (run_load rfl Tryz.underlying9 rfl (kv (.pointer (some ⟨b25, 2, none⟩))) (HS58.cell 2)) ?_)
     refine seqL2 kr ?_
     refine nl (hK66 _ _ ?_)
     have hq_ := ite_some h; clear h; rcases hq_ with ⟨c68, h⟩ | ⟨c68, h⟩
     · have c68 : (vt18.Unit.toList == vto9.toList) = true := c68
       refine wpRwI 43 (x := (vt18.Unit.toList == vto9.toList)) (v := true) kr c68 ?_
       refine condT kr ?_
       refine wp_seq_k fun K69 hK70 => rl ?_
       refine seqL3 kr ?_
       refine nl (hK70 _ _ ?_)
       refine wp_ret ?_
       refine hret _ _ ?_
       refine ends_still (v := Value.tuple #[.int .i64 vt41, .int .i64 0]) kr kr ?_
       have HS137 := HS58.drop
       have HS138 := HS137.drop
       injection h with h
       injection h with h0_ h
       subst h0_ h
       exact ⟨f55, rfl, (L22.trans (L44.trans L56)), HS138⟩
     · have c68 : ¬ ((vt18.Unit.toList == vto9.toList) = true) := c68
       refine wpRwI 43 (x := (vt18.Unit.toList == vto9.toList)) (v := false) kr (Bool.eq_false_iff.mpr c68) ?_
       refine condF kr ?_
       refine wp_skip ?_
       refine hK64 _ _ ?_
       refine wp_seq_k fun K71 hK72 => rl ?_
       refine seqL1 kr ?_
       refine seqK rfl (does_run (run_load rfl Tryz.underlying9 rfl (kv (.pointer (some ⟨b25, 2, none⟩))) (HS58.cell 2)) ?_)
       have hq_ := bind_some h; clear h; obtain ⟨⟨vt73, vt74⟩, hc75, h⟩ := hq_
       refine seqK rfl (does_call (f := 39) (args := #[.string vt18.Unit]) kr (frame_unit.calls k vt18.Unit HS58 vt73 vt74 hc75) ?_)
       rintro _ W78 ⟨f76, rfl, L77, HS79⟩
       refine ⟨_, rfl, ?_⟩
       refine seqL5 kr ?_
       refine nl (hK72 _ _ ?_)
       refine wp_seq_k fun K80 hK81 => rl ?_
       have hq_ := bind_some h; clear h; obtain ⟨⟨vt82, vt83⟩, hc84, h⟩ := hq_
       refine seqL1 kr ?_
       refine seqK rfl (does_call (f := 39) (args := #[.string vto9]) kr (frame_unit.calls k vto9 HS79 vt82 vt83 hc84) ?_)
       rintro _ W87 ⟨f85, rfl, L86, HS88⟩
       refine ⟨_, rfl, ?_⟩
       refine seqL5 kr ?_
       refine nl (hK81 _ _ ?_)
       refine wp_seq_k (fun K89 hK90 => ?_)
       refine wp_seq_k fun K91 hK92 => rl ?_
       refine seqL3 kr ?_
       have hq_ := ite_some h; clear h; rcases hq_ with ⟨c93, h⟩ | ⟨c93, h⟩
       · have c93 : (vt73.toList == (⟨#[]⟩ : ByteArray).toList) = true := c93
         refine seqRwI 57 (x := (vt73.toList == (⟨#[]⟩ : ByteArray).toList)) (v := true) kr c93 ?_
         refine seqRwI 58 (x := (vt73.toList == (⟨#[]⟩ : ByteArray).toList)) (v := true) kr c93 ?_
         refine seqL4 kr ?_
         refine nl (hK92 _ _ ?_)
         refine condT kr ?_
         refine wp_seq_k fun K94 hK95 => rl ?_
         refine seqL2 kr ?_
         refine nl (hK95 _ _ ?_)
         refine wp_ret ?_
         refine hret _ _ ?_
         refine ends_still (v := Value.tuple #[.int .i64 0, .int .i64 12]) kr kr ?_
         have HS139 := HS88.drop
         have HS140 := HS139.drop
         injection h with h
         injection h with h0_ h
         subst h0_ h
         exact ⟨f85, rfl, (L22.trans (L44.trans (L56.trans (L77.trans L86)))), HS140⟩
       · have c93 : ¬ ((vt73.toList == (⟨#[]⟩ : ByteArray).toList) = true) := c93
         refine seqRwI 57 (x := (vt73.toList == (⟨#[]⟩ : ByteArray).toList)) (v := false) kr (Bool.eq_false_iff.mpr c93) ?_
         refine seqRwI 58 (x := (vt73.toList == (⟨#[]⟩ : ByteArray).toList)) (v := false) kr (Bool.eq_false_iff.mpr c93) ?_
         refine seqL4 kr ?_
         refine nl (hK92 _ _ ?_)
         have hq_ := ite_some h; clear h; rcases hq_ with ⟨c97, h⟩ | ⟨c97, h⟩
         · have c97 : (!(vt73.toList == vt82.toList)) = true := c97
           refine wpRwI 61 (x := (!(vt73.toList == vt82.toList))) (v := true) kr c97 ?_
           refine wpRwI 62 (x := (!(vt73.toList == vt82.toList))) (v := true) kr c97 ?_
           refine condT kr ?_
           refine wp_seq_k fun K98 hK99 => rl ?_
           refine seqL2 kr ?_
           refine nl (hK99 _ _ ?_)
           refine wp_ret ?_
           refine hret _ _ ?_
           refine ends_still (v := Value.tuple #[.int .i64 0, .int .i64 12]) kr kr ?_
           have HS141 := HS88.drop
           have HS142 := HS141.drop
           injection h with h
           injection h with h0_ h
           subst h0_ h
           exact ⟨f85, rfl, (L22.trans (L44.trans (L56.trans (L77.trans L86)))), HS142⟩
         · have c97 : ¬ ((!(vt73.toList == vt82.toList)) = true) := c97
           refine wpRwI 61 (x := (!(vt73.toList == vt82.toList))) (v := false) kr (Bool.eq_false_iff.mpr c97) ?_
           refine wpRwI 62 (x := (!(vt73.toList == vt82.toList))) (v := false) kr (Bool.eq_false_iff.mpr c97) ?_
           refine condF kr ?_
           refine wp_skip ?_
           refine hK90 _ _ ?_
           refine wp_seq_k fun K100 hK101 => rl ?_
           have hq_ := bind_some h; clear h; obtain ⟨⟨vt102, vt103⟩, hc104, h⟩ := hq_
           refine seqL2 kr ?_
           refine seqK rfl (does_call (f := 40) (args := #[.int .i64 vt41, .int .i64 vt74]) kr (num_Mul.calls k vt41 vt74 HS88 vt102 vt103 hc104) ?_)
           rintro _ W107 ⟨f105, rfl, L106, HS108⟩
           refine ⟨_, rfl, ?_⟩
           refine seqL5 kr ?_
           refine nl (hK101 _ _ ?_)
           refine wp_seq_k (fun K109 hK110 => ?_)
           refine blockK (fun B111 hx112 hn113 hr114 ho115 hp116 => ?_)
           refine wp_seq_k fun K118 hK119 => rl ?_
           refine seqL3 kr ?_
           refine nl (hK119 _ _ ?_)
           have hq_ := ite_some h; clear h; rcases hq_ with ⟨c121, h⟩ | ⟨c121, h⟩
           · have c121 : ¬ (vt103 = true) := c121
             refine wpRwI 69 (x := (!vt103)) (v := true) kr (congrArg (fun b_ => !b_) (show vt103 = false from (Bool.eq_false_iff.mpr c121)) : (!vt103) = true) ?_
             refine wpRwI 71 (x := (!vt103)) (v := true) kr (congrArg (fun b_ => !b_) (show vt103 = false from (Bool.eq_false_iff.mpr c121)) : (!vt103) = true) ?_
             refine condT kr ?_
             refine wp_seq_k fun K122 hK123 => rl ?_
             refine seqL2 kr ?_
             refine nl (hK123 _ _ ?_)
             refine wp_ret ?_
             refine hr114 _ _ ?_
             refine hret _ _ ?_
             refine ends_still (v := Value.tuple #[.int .i64 0, .int .i64 2]) kr kr ?_
             have HS143 := HS108.drop
             have HS144 := HS143.drop
             injection h with h
             injection h with h0_ h
             subst h0_ h
             exact ⟨f105, rfl, (L22.trans (L44.trans (L56.trans (L77.trans (L86.trans L106))))), HS144⟩
           · have c121 : ¬ (¬ (vt103 = true)) := c121
             refine wpRwI 69 (x := (!vt103)) (v := false) kr (congrArg (fun b_ => !b_) (show vt103 = true from (Decidable.of_not_not c121)) : (!vt103) = false) ?_
             refine wpRwI 71 (x := (!vt103)) (v := false) kr (congrArg (fun b_ => !b_) (show vt103 = true from (Decidable.of_not_not c121)) : (!vt103) = false) ?_
             refine condF kr ?_
             refine wp_seq_k fun K124 hK125 => rl ?_
             have hq_ := guard_some h; clear h; obtain ⟨c126, h⟩ := hq_
             have c126 : ¬ (vt83 = 0) := c126
             refine seqL2 kr ?_
             refine seqK rfl (does_run (run_rem rfl (kv (.int .i64 vt102)) (kv (.int .i64 vt83)) c126 W107) ?_)
             refine seqL2 kr ?_
             refine nl (hK125 _ _ ?_)
             have hq_ := ite_some h; clear h; rcases hq_ with ⟨c128, h⟩ | ⟨c128, h⟩
             · have c128 : (Int.tmod vt102 vt83) ≠ 0 := c128
               refine wpRwI 72 (x := ((Int.tmod vt102 vt83) != 0)) (v := true) kr (bne_iff_ne.mpr c128) ?_
               refine wpRwI 76 (x := ((Int.tmod vt102 vt83) != 0)) (v := true) kr (bne_iff_ne.mpr c128) ?_
               refine condT kr ?_
               refine wp_seq_k fun K129 hK130 => rl ?_
               refine seqL2 kr ?_
               refine nl (hK130 _ _ ?_)
               refine wp_ret ?_
               refine hr114 _ _ ?_
               refine hret _ _ ?_
               refine ends_still (v := Value.tuple #[.int .i64 0, .int .i64 3]) kr kr ?_
               have HS145 := HS108.drop
               have HS146 := HS145.drop
               injection h with h
               injection h with h0_ h
               subst h0_ h
               exact ⟨f105, rfl, (L22.trans (L44.trans (L56.trans (L77.trans (L86.trans L106))))), HS146⟩
             · have c128 : ¬ ((Int.tmod vt102 vt83) ≠ 0) := c128
               refine wpRwI 72 (x := ((Int.tmod vt102 vt83) != 0)) (v := false) kr (bne_eq_false_iff_eq.mpr (Decidable.of_not_not c128)) ?_
               refine wpRwI 76 (x := ((Int.tmod vt102 vt83) != 0)) (v := false) kr (bne_eq_false_iff_eq.mpr (Decidable.of_not_not c128)) ?_
               refine condF kr ?_
               refine wp_skip ?_
               refine hn113 _ _ ?_
               refine hK110 _ _ ?_
               refine wp_seq_k fun K131 hK132 => rl ?_
               refine seqL2 kr ?_
               refine seqK rfl (does_run (run_div rfl (kv (.int .i64 vt102)) (kv (.int .i64 vt83)) c126 W107) ?_)
               refine seqS2 (a' := ⟨#[(ag_Frame vf1 A2 c3 A5 c6), .string key8, .string vto9, pV b12 0, uV, uV, iV (w64 (Int.tdiv vt102 vt83)), iV 0, pV b25 0, .bool vt103, iV vt41, .nilIface, .string vt73, iV vt74, .string vt82, iV vt83, iV vt102, .tuple #[(ag_Card vt18), .bool vt19], (ag_Frame vf1 A2 c3 A5 c6), .string key8, .tuple #[(ag_Card vt18), .bool vt19], (ag_Card vt18), .bool vt19, .bool vt19, fV, .tuple #[iV vt41, .nilIface], pV b25 1, .string vt18.Value, .tuple #[iV vt41, .nilIface], iV vt41, .nilIface, .nilIface, fV, fV, iV vt41, .string vt53, pV b25 1, .string vt18.Value, fV, fV, pV b25 2, .string vt18.Unit, .string vto9, fV, uV, .tuple #[.string vt73, iV vt74], pV b25 2, .string vt18.Unit, .tuple #[.string vt73, iV vt74], .string vt73, iV vt74, .tuple #[.string vt82, iV vt83], .string vto9, .tuple #[.string vt82, iV vt83], .string vt82, iV vt83, .string vt73, fV, fV, .string vt73, .string vt82, fV, fV, .tuple #[iV vt102, .bool vt103], iV vt41, iV vt74, .tuple #[iV vt102, .bool vt103], iV vt102, .bool vt103, fV, .bool vt103, fV, fV, iV vt102, iV vt83, iV (Int.tmod vt102 vt83), fV, iV vt102, iV vt83, iV (w64 (Int.tdiv vt102 vt83))], []⟩) kr ?_
               refine nl (hK132 _ _ ?_)
               refine wp_ret ?_
               refine hret _ _ ?_
               refine ends_still (v := Value.tuple #[.int .i64 (w64 (Int.tdiv vt102 vt83)), .int .i64 0]) kr kr ?_
               have HS147 := HS108.drop
               have HS148 := HS147.drop
               injection h with h
               injection h with h0_ h
               subst h0_ h
               exact ⟨f105, rfl, (L22.trans (L44.trans (L56.trans (L77.trans (L86.trans L106))))), HS148⟩

set_option maxRecDepth 100000 in
set_option maxHeartbeats 4000000 in
theorem spykeep3_filed.calls (k : Nat)   {t w : World} {f : FM} {H : List Seg} (HS : St t w f (H)) (HA : TabF Tryz.prog "strings.asciiSpace" .u8 Go.Lib.asciiSpaceTab f) (HM : VarI 5 f) (HT : TabF Tryz.prog "internal/strconv.uint64pow10" .u64 Go.Lib.pow10Tab f) (rr1 : Bool) (h : spykeep3_filed k = some rr1) :
    Calls Tryz.prog 9 #[] w (fun e w' => ∃ (g : FM), e = .returned (Value.bool rr1) ∧ FM.le f g ∧ St t w' g (H)) := by
 unfold spykeep3_filed at h
 refine enter Tryz.func9 rfl (tm := #[uV, uV, uV, uV, uV, uV, uV, uV, uV, uV, uV, uV, uV, uV, uV, uV, uV, uV, uV, uV, uV, uV, uV, uV, uV, uV, uV, uV, uV, uV, uV, uV, uV, uV, uV, uV, uV, uV, uV, uV, uV, uV, uV, uV, uV, uV]) kr ?_
 intro B hret hnor hnp
 refine wp_seq_k fun K1 hK2 => rl ?_
 refine seqL1 kr ?_
 refine nl (hK2 _ _ ?_)
 refine wp_seq_k fun K3 hK4 => rl ?_
 refine seqL1 kr ?_
 refine seqK rfl (does_lit (e := ty_Card) (E := 51) (vs := #[(0, Value.agg #[.string ⟨#[65]⟩, .string ⟨#[51]⟩, .string ⟨#[98, 101, 97, 116]⟩, .string ⟨#[]⟩])]) (cs := #[.string ⟨#[65]⟩, .string ⟨#[51]⟩, .string ⟨#[98, 101, 97, 116]⟩, .string ⟨#[]⟩]) (xs := ([(⟨(⟨#[65]⟩ : ByteArray), (⟨#[51]⟩ : ByteArray), (⟨#[98, 101, 97, 116]⟩ : ByteArray), (⟨#[]⟩ : ByteArray)⟩ : S_Card)] : List S_Card)) rfl Tryz.underlying27 kr kr ⟨[.string ⟨#[65]⟩, .string ⟨#[51]⟩, .string ⟨#[98, 101, 97, 116]⟩, .string ⟨#[]⟩], _, rfl, rfl, rfl⟩ rfl HS ?_ (by decide))
 intro b5 W6 s7 HS8 _ HO9
 refine seqK rfl (does_lit (e := (tInt .i64)) (E := 3) (vs := #[(0, Value.int .i64 9)]) (cs := #[.int .i64 9]) (xs := ([9] : List Int)) rfl Tryz.underlying22 kr kr ⟨[.int .i64 9], _, rfl, rfl, rfl⟩ rfl HS8 ?_ (by decide))
 intro b11 W12 s13 HS14 _ HO15
 refine seqL1 kr ?_
 refine seqK rfl (does_alloc (z := Value.agg #[.int .i64 0, .int .i64 0, .slice none 0 0, .slice none 0 0]) (cs := #[.int .i64 0, .int .i64 0, .slice none 0 0, .slice none 0 0]) rfl kr rfl HS14 ?_)
 intro b17 W18 HS19
 refine seqK rfl (does_store (n := 4) (vs := [.int .i64 1, .int .i64 1, .slice (some ⟨b5, 0, none⟩) ([(⟨(⟨#[65]⟩ : ByteArray), (⟨#[51]⟩ : ByteArray), (⟨#[98, 101, 97, 116]⟩ : ByteArray), (⟨#[]⟩ : ByteArray)⟩ : S_Card)] : List S_Card).length 1, .slice (some ⟨b11, 0, none⟩) ([9] : List Int).length 1]) (cs' := #[.int .i64 1, .int .i64 1, .slice (some ⟨b5, 0, none⟩) ([(⟨(⟨#[65]⟩ : ByteArray), (⟨#[51]⟩ : ByteArray), (⟨#[98, 101, 97, 116]⟩ : ByteArray), (⟨#[]⟩ : ByteArray)⟩ : S_Card)] : List S_Card).length 1, .slice (some ⟨b11, 0, none⟩) ([9] : List Int).length 1]) rfl kr (kv (.pointer (some ⟨b17, 0, none⟩))) (kv (.agg #[.int .i64 1, .int .i64 1, .slice (some ⟨b5, 0, none⟩) ([(⟨(⟨#[65]⟩ : ByteArray), (⟨#[51]⟩ : ByteArray), (⟨#[98, 101, 97, 116]⟩ : ByteArray), (⟨#[]⟩ : ByteArray)⟩ : S_Card)] : List S_Card).length 1, .slice (some ⟨b11, 0, none⟩) ([9] : List Int).length 1])) rfl rfl (by intro u_ hu_; simp only [List.mem_cons, List.not_mem_nil, or_false] at hu_; rcases hu_ with rfl | rfl | rfl | rfl <;> rfl) HS19 (Nat.le_of_ble_eq_true rfl) kr ?_)
 intro W21 HS22
 refine nl (hK4 _ _ ?_)
 refine wp_seq_k fun K23 hK24 => rl ?_
 refine seqK rfl (does_run (run_loadN (n := 4) rfl Tryz.underlying29 rfl kr (kv (.pointer (some ⟨b17, 0, none⟩))) (cs := [.int .i64 1, .int .i64 1, .slice (some ⟨b5, 0, none⟩) ([(⟨(⟨#[65]⟩ : ByteArray), (⟨#[51]⟩ : ByteArray), (⟨#[98, 101, 97, 116]⟩ : ByteArray), (⟨#[]⟩ : ByteArray)⟩ : S_Card)] : List S_Card).length 1, .slice (some ⟨b11, 0, none⟩) ([9] : List Int).length 1]) rfl (HS22.cells 0 4 _ rfl)) ?_)
 have HS25 := HS22.u2
 obtain ⟨f26, L27, HS28, HR29, th30⟩ := HO9.lend HS25
 have HS31 := HS28.u1
 obtain ⟨f32, L33, HS34, HR35, th36⟩ := (HO15.mono L27).lend HS31
 have hq_ := bind_some h; clear h; obtain ⟨⟨vt37, vt38⟩, hc39, h⟩ := hq_
 refine seqK rfl (does_call (f := 7) (args := #[.agg #[.int .i64 1, .int .i64 1, .slice (some ⟨b5, 0, none⟩) ([(⟨(⟨#[65]⟩ : ByteArray), (⟨#[51]⟩ : ByteArray), (⟨#[98, 101, 97, 116]⟩ : ByteArray), (⟨#[]⟩ : ByteArray)⟩ : S_Card)] : List S_Card).length 1, .slice (some ⟨b11, 0, none⟩) ([9] : List Int).length 1]]) kr (frame_Encode.calls k (some ⟨b5, 0, none⟩) 1 (some ⟨b11, 0, none⟩) 1 (⟨1, 1, ([(⟨(⟨#[65]⟩ : ByteArray), (⟨#[51]⟩ : ByteArray), (⟨#[98, 101, 97, 116]⟩ : ByteArray), (⟨#[]⟩ : ByteArray)⟩ : S_Card)] : List S_Card), ([9] : List Int)⟩ : S_Frame) HS34 (HR29.mono L33) HR35 (HA.mono (L27.trans L33)) (HT.mono (L27.trans L33)) vt37 vt38 hc39) ?_)
 rintro _ W42 ⟨f40, A44, c45, s46, rfl, L41, HS43, HO47⟩
 refine ⟨_, rfl, ?_⟩
 obtain ⟨f49, L50, HS51⟩ := th36 L41 HS43
 obtain ⟨f52, L53, HS54⟩ := th30 L50 HS51
 replace HO47 := HO47.flat (g := f52) (fun _ _ _ _ h_ => h_)
 refine seqL5 kr ?_
 refine nl (hK24 _ _ ?_)
 refine wp_seq_k fun K55 hK56 => rl ?_
 have HS57 := HS54.u2
 obtain ⟨f58, L59, HS60, HR61⟩ := HO47.freeze HS57
 have hq_ := bind_some h; clear h; obtain ⟨⟨vt62, vt63⟩, hc64, h⟩ := hq_
 refine seqL1 kr ?_
 refine seqK rfl (does_call (f := 12) (args := #[.slice A44 vt37.length c45]) kr (frame_Decode.calls k A44 c45 vt37 HS60 HR61 (HA.mono (L53.trans L59)) (HM.mono (L53.trans L59)) (HT.mono (L53.trans L59)) vt62 vt63 hc64) ?_)
 rintro _ W67 ⟨f65, A69, c70, A72, c73, s74, rfl, L66, HS68, HR71, HO75⟩
 refine ⟨_, rfl, ?_⟩
 refine seqL3 kr ?_
 refine seqK rfl (does_alloc (z := Value.agg #[.int .i64 0, .int .i64 0, .slice none 0 0, .slice none 0 0]) (cs := #[.int .i64 0, .int .i64 0, .slice none 0 0, .slice none 0 0]) rfl kr rfl HS68 ?_)
 intro b77 W78 HS79
 refine seqK rfl (does_store (n := 4) (vs := [.int .i64 vt62.W, .int .i64 vt62.H, .slice A69 vt62.Cards.length c70, .slice A72 vt62.Counts.length c73]) (cs' := #[.int .i64 vt62.W, .int .i64 vt62.H, .slice A69 vt62.Cards.length c70, .slice A72 vt62.Counts.length c73]) rfl kr (kv (.pointer (some ⟨b77, 0, none⟩))) (kv (.agg #[.int .i64 vt62.W, .int .i64 vt62.H, .slice A69 vt62.Cards.length c70, .slice A72 vt62.Counts.length c73])) rfl rfl (by intro u_ hu_; simp only [List.mem_cons, List.not_mem_nil, or_false] at hu_; rcases hu_ with rfl | rfl | rfl | rfl <;> rfl) HS79 (Nat.le_of_ble_eq_true rfl) kr ?_)
 intro W81 HS82
 refine seqL1 kr ?_
 refine nl (hK56 _ _ ?_)
 refine wp_seq_k fun K83 hK84 => rl ?_
 refine seqK rfl (does_run (run_loadN (n := 4) rfl Tryz.underlying29 rfl kr (kv (.pointer (some ⟨b77, 0, none⟩))) (cs := [.int .i64 vt62.W, .int .i64 vt62.H, .slice A69 vt62.Cards.length c70, .slice A72 vt62.Counts.length c73]) rfl (HS82.cells 0 4 _ rfl)) ?_)
 have HS85 := HS82.u1
 obtain ⟨f86, L87, HS88, HR89, th90⟩ := HO75.lend HS85
 have hq_ := bind_some h; clear h; obtain ⟨⟨vt91, vt92⟩, hc93, h⟩ := hq_
 refine seqK rfl (does_call (f := 19) (args := #[.agg #[.int .i64 vt62.W, .int .i64 vt62.H, .slice A69 vt62.Cards.length c70, .slice A72 vt62.Counts.length c73], .string ⟨#[65]⟩, .string ⟨#[116, 105, 99, 107]⟩]) kr (frame_Number.calls k A69 c70 A72 c73 vt62 (⟨#[65]⟩ : ByteArray) (⟨#[116, 105, 99, 107]⟩ : ByteArray) HS88 (HR71.mono L87) HR89 (HT.mono (L53.trans (L59.trans (L66.trans L87)))) vt91 vt92 hc93) ?_)
 rintro _ W96 ⟨f94, rfl, L95, HS97⟩
 refine ⟨_, rfl, ?_⟩
 obtain ⟨f98, L99, HS100⟩ := th90 L95 HS97
 refine seqL5 kr ?_
 refine nl (hK84 _ _ ?_)
 refine wp_seq_k fun K101 hK102 => rl ?_
 refine seqL3 kr ?_
 have hq_ := ite_some h; clear h; rcases hq_ with ⟨c103, h⟩ | ⟨c103, h⟩
 · have c103 : vt38 = 0 := c103
   refine seqRwI 28 (x := (vt38 == 0)) (v := true) kr (beq_iff_eq.mpr c103) ?_
   refine seqRwI 29 (x := (vt38 == 0)) (v := true) kr (beq_iff_eq.mpr c103) ?_
   refine seqL4 kr ?_
   have hq_ := ite_some h; clear h; rcases hq_ with ⟨c104, h⟩ | ⟨c104, h⟩
   · have c104 : vt63 = 0 := c104
     refine seqRwI 31 (x := (vt63 == 0)) (v := true) kr (beq_iff_eq.mpr c104) ?_
     refine seqRwI 32 (x := (vt63 == 0)) (v := true) kr (beq_iff_eq.mpr c104) ?_
     refine seqRwI 33 (x := (vt63 == 0)) (v := true) kr (beq_iff_eq.mpr c104) ?_
     refine seqL4 kr ?_
     have hq_ := ite_some h; clear h; rcases hq_ with ⟨c105, h⟩ | ⟨c105, h⟩
     · have c105 : vt92 = 0 := c105
       refine seqRwI 35 (x := (vt92 == 0)) (v := true) kr (beq_iff_eq.mpr c105) ?_
       refine seqRwI 36 (x := (vt92 == 0)) (v := true) kr (beq_iff_eq.mpr c105) ?_
       refine seqRwI 37 (x := (vt92 == 0)) (v := true) kr (beq_iff_eq.mpr c105) ?_
       refine seqL4 kr ?_
       have hq_ := ite_some h; clear h; rcases hq_ with ⟨c106, h⟩ | ⟨c106, h⟩
       · have c106 : vt91 = 3000 := c106
         refine seqRwI 39 (x := (vt91 == 3000)) (v := true) kr (beq_iff_eq.mpr c106) ?_
         refine seqRwI 40 (x := (vt91 == 3000)) (v := true) kr (beq_iff_eq.mpr c106) ?_
         refine seqRwI 41 (x := (vt91 == 3000)) (v := true) kr (beq_iff_eq.mpr c106) ?_
         refine seqL5 kr ?_
         refine nl (hK102 _ _ ?_)
         refine wp_ret ?_
         refine hret _ _ ?_
         refine ends_still (v := Value.bool ((vt37.length : Int) == 780)) kr kr ?_
         have HS107 := HS100.drop
         have HS108 := HS107.drop
         have HS109 := HS108.drop
         have HS110 := HS109.drop
         have HS111 := HS110.drop
         injection h with h
         subst h
         exact ⟨f98, rfl, (L53.trans (L59.trans (L66.trans L99))), HS111⟩
       · have c106 : ¬ (vt91 = 3000) := c106
         refine seqRwI 39 (x := (vt91 == 3000)) (v := false) kr (beq_eq_false_iff_ne.mpr c106) ?_
         refine seqRwI 40 (x := (vt91 == 3000)) (v := false) kr (beq_eq_false_iff_ne.mpr c106) ?_
         refine seqRwI 41 (x := (vt91 == 3000)) (v := false) kr (beq_eq_false_iff_ne.mpr c106) ?_
         refine seqL5 kr ?_
         refine nl (hK102 _ _ ?_)
         refine wp_ret ?_
         refine hret _ _ ?_
         refine ends_still (v := Value.bool false) kr kr ?_
         have HS112 := HS100.drop
         have HS113 := HS112.drop
         have HS114 := HS113.drop
         have HS115 := HS114.drop
         have HS116 := HS115.drop
         injection h with h
         subst h
         exact ⟨f98, rfl, (L53.trans (L59.trans (L66.trans L99))), HS116⟩
     · have c105 : ¬ (vt92 = 0) := c105
       refine seqRwI 35 (x := (vt92 == 0)) (v := false) kr (beq_eq_false_iff_ne.mpr c105) ?_
       refine seqRwI 36 (x := (vt92 == 0)) (v := false) kr (beq_eq_false_iff_ne.mpr c105) ?_
       refine seqRwI 37 (x := (vt92 == 0)) (v := false) kr (beq_eq_false_iff_ne.mpr c105) ?_
       refine seqL9 kr ?_
       refine nl (hK102 _ _ ?_)
       refine wp_ret ?_
       refine hret _ _ ?_
       refine ends_still (v := Value.bool false) kr kr ?_
       have HS117 := HS100.drop
       have HS118 := HS117.drop
       have HS119 := HS118.drop
       have HS120 := HS119.drop
       have HS121 := HS120.drop
       injection h with h
       subst h
       exact ⟨f98, rfl, (L53.trans (L59.trans (L66.trans L99))), HS121⟩
   · have c104 : ¬ (vt63 = 0) := c104
     refine seqRwI 31 (x := (vt63 == 0)) (v := false) kr (beq_eq_false_iff_ne.mpr c104) ?_
     refine seqRwI 32 (x := (vt63 == 0)) (v := false) kr (beq_eq_false_iff_ne.mpr c104) ?_
     refine seqRwI 33 (x := (vt63 == 0)) (v := false) kr (beq_eq_false_iff_ne.mpr c104) ?_
     refine seqL13 kr ?_
     refine nl (hK102 _ _ ?_)
     refine wp_ret ?_
     refine hret _ _ ?_
     refine ends_still (v := Value.bool false) kr kr ?_
     have HS122 := HS100.drop
     have HS123 := HS122.drop
     have HS124 := HS123.drop
     have HS125 := HS124.drop
     have HS126 := HS125.drop
     injection h with h
     subst h
     exact ⟨f98, rfl, (L53.trans (L59.trans (L66.trans L99))), HS126⟩
 · have c103 : ¬ (vt38 = 0) := c103
   refine seqRwI 28 (x := (vt38 == 0)) (v := false) kr (beq_eq_false_iff_ne.mpr c103) ?_
   refine seqRwI 29 (x := (vt38 == 0)) (v := false) kr (beq_eq_false_iff_ne.mpr c103) ?_
   refine seqL17 kr ?_
   refine nl (hK102 _ _ ?_)
   refine wp_ret ?_
   refine hret _ _ ?_
   refine ends_still (v := Value.bool false) kr kr ?_
   have HS127 := HS100.drop
   have HS128 := HS127.drop
   have HS129 := HS128.drop
   have HS130 := HS129.drop
   have HS131 := HS130.drop
   injection h with h
   subst h
   exact ⟨f98, rfl, (L53.trans (L59.trans (L66.trans L99))), HS131⟩

end Go.Sp.B4
