import Derived.Test.YtiibkbligihgoaaGreatProg
import Derived.Test.YtiibkbligihgoaaGreatSpCopy
import Derived.Test.YtiibkbligihgoaaGreatFQ4
import Derived.Test.YtiibkbligihgoaaGreatShelf
import Derived.Test.YtiibkbligihgoaaGreatSpMapR
import Derived.Test.YtiibkbligihgoaaGreatSpKeys
import Derived.Test.YtiibkbligihgoaaGreatSpRound
import Derived.Test.YtiibkbligihgoaaGreatKQ4n0
import Derived.Test.YtiibkbligihgoaaGreatKQ4n1
import Derived.Test.YtiibkbligihgoaaGreatKQ4n2
import Derived.Test.YtiibkbligihgoaaGreatKQ4n3
import Derived.Test.YtiibkbligihgoaaGreatKQ4n4
import Derived.Test.YtiibkbligihgoaaGreatKQ4n5
namespace Go.Sp.Q4
open Go Go.Sp Go.Proofs
set_option linter.unusedVariables false
attribute [local irreducible] wpList AnyL Code.wp Calls Does Code.wpIn wpListIn CallsIn bodyPostM LeavesInM
set_option maxRecDepth 100000 in
set_option maxHeartbeats 4000000 in
theorem spykeep3_QueryExact.calls (k : Nat) (A2 : Option Addr) (c3 : Nat) (l1 : List Int) (cos5 : Int) (other6 : Int) {t w : World} {f : FM} {H : List Seg} (HS : St t w f (H)) (HR4 : SlR (tInt .i64) f A2 c3 l1) (rr1 : Bool) (h : spykeep3_QueryExact k l1 cos5 other6 = some rr1) :
    Calls Tryz.prog 4 #[.slice A2 l1.length c3, .int .i64 cos5, .int .i64 other6] w (fun e w' => ∃ (g : FM), e = .returned (Value.bool rr1) ∧ FM.le f g ∧ St t w' g (H)) := by
 unfold spykeep3_QueryExact at h
 refine enter Tryz.func4 rfl (tm := #[.slice A2 l1.length c3, iV cos5, iV other6, uV, uV, uV, uV, uV, uV, uV, uV, uV, uV, uV, uV, uV, uV, uV, uV, uV, uV, uV, uV, uV, uV, uV, uV, uV, uV, uV, uV, uV, uV, uV, uV, uV, uV, uV, uV, uV, uV, uV, uV, uV, uV, uV, uV, uV, uV, uV, uV, uV, uV, uV, uV, uV, uV, uV, uV, uV, uV, uV, uV, uV, uV]) kr ?_
 intro B hret hnor hnp
 refine wp_seq_k fun K7 hK8 => rl ?_
 refine seqL1 kr ?_
 refine nl (hK8 _ _ ?_)
 refine wp_seq_k fun K9 hK10 => rl ?_
 refine seqL2 kr ?_
 refine seqK rfl (does_box (cs := #[.slice A2 l1.length c3, .int .i64 0]) rfl (kv (.agg #[.slice A2 l1.length c3, .int .i64 0])) rfl HS ?_)
 intro b11 W12 HS13
 refine seqL1 kr ?_
 refine nl (hK10 _ _ ?_)
 refine wp_seq_k fun K15 hK16 => rl ?_
 have hq_ := bind_some h; clear h; obtain ⟨⟨vt17, vt18⟩, hc19, h⟩ := hq_
 refine seqL1 kr ?_
 refine seqK rfl (does_call (f := 13) (args := #[.pointer (some ⟨b11, 0, none⟩)]) kr (spymake_Stream_Vec.calls k b11 A2 c3 (⟨l1, 0⟩ : S_Stream) HS13 HR4 vt17 vt18 hc19) ?_)
 rintro _ W22 ⟨f20, rfl, L21, HS23⟩
 refine ⟨_, rfl, ?_⟩
 refine seqK rfl (does_alloc (z := Value.agg #[.int .i64 0, .int .i64 0, .int .i64 0]) (cs := #[.int .i64 0, .int .i64 0, .int .i64 0]) rfl kr rfl HS23 ?_)
 intro b24 W25 HS26
 refine seqK rfl (does_storeA (vs := [.int .i64 vt17.X, .int .i64 vt17.Y, .int .i64 vt17.Z]) rfl kr kr kr rfl (ones rfl) HS26 kr ?_)
 intro W28 HS29
 refine nl (hK16 _ _ ?_)
 refine wp_seq_k fun K30 hK31 => rl ?_
 refine seqL1 kr ?_
 refine nl (hK31 _ _ ?_)
 refine wp_seq_k (fun K32 hK33 => ?_)
 have HS34 := HS29.u1
 refine heldG (S := Sg t f20 ([(b24, .cells #[.int .i64 vt17.X, .int .i64 vt17.Y, .int .i64 vt17.Z] 39 (0, 0))] :: H) [(6, [(b11, .cells #[.slice A2 l1.length c3, .int .i64 vt18] 26 (0, 0))])]) (n := 12) kr rfl HS34 ?_
 intro W35 HS36
 refine takeGL [0] (n := 12) (fuel := 11) #[true, false, false, false, false, false, false, false, false, false, false, false] rfl kr kr kr hnp (Sg.g1 (Sx.of [[(b11, .cells #[.slice A2 l1.length c3, .int .i64 vt18] 26 (0, 0))]] fL HS36) (fun _ => St.only [] HS36 fL)) ?_
 refine takeGQ 1 [] rfl kr kr kr kr kr kr hnp (Sg.g1 (Sx.of [[(b11, .cells #[.slice A2 l1.length c3, .int .i64 vt18] 26 (0, 0))]] fL HS36) (fun _ => St.only [] HS36 fL)) (fun w_ hw_ => by obtain ⟨g_, hl_, hS_⟩ := hw_.st; exact run_loadN (n := 3) rfl Tryz.underlying39 rfl kr (kv (.pointer (some ⟨b24, 0, none⟩))) (cs := [.int .i64 vt17.X, .int .i64 vt17.Y, .int .i64 vt17.Z]) rfl (hS_.cells 0 3 _ rfl)) ?_
 refine takeGL [3, 4] (n := 10) (fuel := 8) #[true, true, false, true, true, false, false, false, false, false, false, false] rfl kr kr kr hnp (Sg.g1 (Sx.of [[(b11, .cells #[.slice A2 l1.length c3, .int .i64 vt18] 26 (0, 0))]] fL HS36) (fun _ => St.only [] HS36 fL)) ?_
 refine takeGQ 5 [] rfl kr kr kr kr kr kr hnp (Sg.g1 (Sx.of [[(b11, .cells #[.slice A2 l1.length c3, .int .i64 vt18] 26 (0, 0))]] fL HS36) (fun _ => St.only [] HS36 fL)) (fun w_ hw_ => by obtain ⟨g_, hl_, hS_⟩ := hw_.st; exact run_loadN (n := 3) rfl Tryz.underlying39 rfl kr (kv (.pointer (some ⟨b24, 0, none⟩))) (cs := [.int .i64 vt17.X, .int .i64 vt17.Y, .int .i64 vt17.Z]) rfl (hS_.cells 0 3 _ rfl)) ?_
 have hq_ := bind_some h; clear h; obtain ⟨vt37, hc38, h⟩ := hq_
 have hq_ := bind_some h; clear h; obtain ⟨⟨vt43, vt44⟩, hc45, h⟩ := hq_
 have hq_ := bind_some h; clear h; obtain ⟨vt50, hc51, h⟩ := hq_
 refine withR #[true, true, true, true, true, true, true, true, true, true, true, true] ?_
 intro R70 hR71 hR72
 have J73 : ∀ (f39 : FM) (f46 : FM) (f52 : FM) (b56 : Nat) (b60 : Nat) (W74 : World) (a_ : Act), FM.le f20 f39 → FM.le f39 f46 → FM.le f46 f52 → St t W74 f52 ([(b60, .cells #[.int .i64 vt50.X.Lo, .int .i64 vt50.X.Hi, .bool vt50.X.Unknown, .int .i64 vt50.Y.Lo, .int .i64 vt50.Y.Hi, .bool vt50.Y.Unknown, .int .i64 vt50.Z.Lo, .int .i64 vt50.Z.Hi, .bool vt50.Z.Unknown] 31 (0, 0))] :: [(b56, .cells #[.int .i64 vt37.X.Lo, .int .i64 vt37.X.Hi, .bool vt37.X.Unknown, .int .i64 vt37.Y.Lo, .int .i64 vt37.Y.Hi, .bool vt37.Y.Unknown, .int .i64 vt37.Z.Lo, .int .i64 vt37.Z.Hi, .bool vt37.Z.Unknown] 31 (0, 0))] :: [(b11, .cells #[.slice A2 l1.length c3, .int .i64 vt44] 26 (0, 0))] :: [(b24, .cells #[.int .i64 vt17.X, .int .i64 vt17.Y, .int .i64 vt17.Z] 39 (0, 0))] :: H) → a_ = ⟨#[.slice A2 l1.length c3, iV cos5, iV other6, uV, uV, uV, fV, pV b11 0, pV b24 0, .func (.func 14) #[] #[], pV b56 0, pV b60 0, uV, uV, .slice A2 l1.length c3, .agg #[.slice A2 l1.length c3, iV 0], pV b11 0, pV b11 0, (ag_Vec vt17), .func (.func 14) #[] #[], (ag_Vec vt17), (ag_Box vt37), .func (.func 14) #[] #[], pV b11 0, (ag_Vec vt17), (ag_Vec vt43), (ag_Box vt50), uV, uV, uV, uV, uV, uV, uV, uV, uV, uV, uV, uV, uV, uV, uV, uV, uV, uV, uV, uV, uV, uV, uV, uV, uV, uV, uV, uV, uV, uV, uV, uV, uV, uV, uV, uV, uV, uV], []⟩ → R70 a_ W74 := by
  intro f39 f46 f52 b56 b60 W74 a_ L40 L47 L53 HS75 hfr_; subst hfr_
  refine hR71 _ _ ?_
  refine doneG kr ?_ _
  refine hK33 _ _ ?_
  refine wp_seq_k fun K451 hK452 => rl ?_
  have hq_ := bind_some h; clear h; obtain ⟨vt453, hc454, h⟩ := hq_
  refine seqL1 kr ?_
  refine seqK rfl (does_call (f := 9) (args := #[.int .i64 cos5, .int .i64 1073741825]) kr (spymake_Below.calls k cos5 1073741825 HS75 vt453 hc454) ?_)
  rintro _ W457 ⟨f455, rfl, L456, HS458⟩
  refine ⟨_, rfl, ?_⟩
  have hq_ := bind_some h; clear h; obtain ⟨vt459, hc460, h⟩ := hq_
  refine seqL1 kr ?_
  refine seqK rfl (does_call (f := 9) (args := #[.int .i64 other6, .int .i64 1073741825]) kr (spymake_Below.calls k other6 1073741825 HS458 vt459 hc460) ?_)
  rintro _ W463 ⟨f461, rfl, L462, HS464⟩
  refine ⟨_, rfl, ?_⟩
  refine seqL2 kr ?_
  refine nl (hK452 _ _ ?_)
  refine wp_seq_k (fun K465 hK466 => ?_)
  refine wp_seq_k fun K467 hK468 => rl ?_
  refine seqK rfl (does_run (run_loadN (n := 9) rfl Tryz.underlying31 rfl kr (kv (.pointer (some ⟨b56, 0, none⟩))) (cs := [.int .i64 vt37.X.Lo, .int .i64 vt37.X.Hi, .bool vt37.X.Unknown, .int .i64 vt37.Y.Lo, .int .i64 vt37.Y.Hi, .bool vt37.Y.Unknown, .int .i64 vt37.Z.Lo, .int .i64 vt37.Z.Hi, .bool vt37.Z.Unknown]) rfl (HS464.u1.cells 0 9 _ rfl)) ?_)
  refine seqK rfl (does_run (run_loadN (n := 9) rfl Tryz.underlying31 rfl kr (kv (.pointer (some ⟨b60, 0, none⟩))) (cs := [.int .i64 vt50.X.Lo, .int .i64 vt50.X.Hi, .bool vt50.X.Unknown, .int .i64 vt50.Y.Lo, .int .i64 vt50.Y.Hi, .bool vt50.Y.Unknown, .int .i64 vt50.Z.Lo, .int .i64 vt50.Z.Hi, .bool vt50.Z.Unknown]) rfl (HS464.cells 0 9 _ rfl)) ?_)
  have hq_ := bind_some h; clear h; obtain ⟨vt469, hc470, h⟩ := hq_
  refine seqL1 kr ?_
  refine seqK rfl (does_call (f := 10) (args := #[.agg #[.int .i64 vt37.X.Lo, .int .i64 vt37.X.Hi, .bool vt37.X.Unknown, .int .i64 vt37.Y.Lo, .int .i64 vt37.Y.Hi, .bool vt37.Y.Unknown, .int .i64 vt37.Z.Lo, .int .i64 vt37.Z.Hi, .bool vt37.Z.Unknown], .agg #[.int .i64 vt50.X.Lo, .int .i64 vt50.X.Hi, .bool vt50.X.Unknown, .int .i64 vt50.Y.Lo, .int .i64 vt50.Y.Hi, .bool vt50.Y.Unknown, .int .i64 vt50.Z.Lo, .int .i64 vt50.Z.Hi, .bool vt50.Z.Unknown], .int .i64 vt453]) kr (query_Near.calls k vt37 vt50 vt453 HS464 vt469 hc470) ?_)
  rintro _ W473 ⟨f471, rfl, L472, HS474⟩
  refine ⟨_, rfl, ?_⟩
  refine seqL2 kr ?_
  have hq_ := ite_some h; clear h; rcases hq_ with ⟨c475, h⟩ | ⟨c475, h⟩
  · have c475 : vt469 = 2 := c475
    refine seqRwI 35 kr (beq_iff_eq.mpr c475) ?_
    refine seqRwI 36 kr (beq_iff_eq.mpr c475) ?_
    refine seqG kr (does_run (run_loadN (n := 9) rfl Tryz.underlying31 rfl kr (kv (.pointer (some ⟨b56, 0, none⟩))) (cs := [.int .i64 vt37.X.Lo, .int .i64 vt37.X.Hi, .bool vt37.X.Unknown, .int .i64 vt37.Y.Lo, .int .i64 vt37.Y.Hi, .bool vt37.Y.Unknown, .int .i64 vt37.Z.Lo, .int .i64 vt37.Z.Hi, .bool vt37.Z.Unknown]) rfl (HS474.u1.cells 0 9 _ rfl)) ?_)
    refine seqG kr (does_run (run_loadN (n := 9) rfl Tryz.underlying31 rfl kr (kv (.pointer (some ⟨b60, 0, none⟩))) (cs := [.int .i64 vt50.X.Lo, .int .i64 vt50.X.Hi, .bool vt50.X.Unknown, .int .i64 vt50.Y.Lo, .int .i64 vt50.Y.Hi, .bool vt50.Y.Unknown, .int .i64 vt50.Z.Lo, .int .i64 vt50.Z.Hi, .bool vt50.Z.Unknown]) rfl (HS474.cells 0 9 _ rfl)) ?_)
    have hq_ := bind_some h; clear h; obtain ⟨vt476, hc477, h⟩ := hq_
    refine seqL1 kr ?_
    refine seqG kr (does_call (f := 10) (args := #[.agg #[.int .i64 vt37.X.Lo, .int .i64 vt37.X.Hi, .bool vt37.X.Unknown, .int .i64 vt37.Y.Lo, .int .i64 vt37.Y.Hi, .bool vt37.Y.Unknown, .int .i64 vt37.Z.Lo, .int .i64 vt37.Z.Hi, .bool vt37.Z.Unknown], .agg #[.int .i64 vt50.X.Lo, .int .i64 vt50.X.Hi, .bool vt50.X.Unknown, .int .i64 vt50.Y.Lo, .int .i64 vt50.Y.Hi, .bool vt50.Y.Unknown, .int .i64 vt50.Z.Lo, .int .i64 vt50.Z.Hi, .bool vt50.Z.Unknown], .int .i64 vt459]) kr (query_Near.calls k vt37 vt50 vt459 HS474 vt476 hc477) ?_)
    rintro _ W480 ⟨f478, rfl, L479, HS481⟩
    refine ⟨_, rfl, ?_⟩
    refine seqL3 kr ?_
    have hq_ := ite_some h; clear h; rcases hq_ with ⟨c482, h⟩ | ⟨c482, h⟩
    · have c482 : vt476 = 0 := c482
      refine seqRwI 41 kr (beq_iff_eq.mpr c482) ?_
      refine seqRwI 42 kr (beq_iff_eq.mpr c482) ?_
      refine seqRwI 43 kr (beq_iff_eq.mpr c482) ?_
      refine seqL4 kr ?_
      refine nl (hK468 _ _ ?_)
      have hq_ := ite_some h; clear h; rcases hq_ with ⟨c484, h⟩ | ⟨c484, h⟩
      · have c484 : vt453 ≥ vt459 := c484
        refine wpRwI 46 kr (decide_eq_true c484) ?_
        refine wpRwI 47 kr (decide_eq_true c484) ?_
        refine condT kr ?_
        refine wp_seq_k fun K485 hK486 => rl ?_
        refine seqL1 kr ?_
        refine nl (hK486 _ _ ?_)
        refine wp_ret ?_
        refine hret _ _ ?_
        refine ends_still (v := Value.bool false) kr kr ?_
        have HS595 := HS481.drop
        have HS596 := HS595.drop
        have HS597 := HS596.drop
        have HS598 := HS597.drop
        injection h with h
        subst h
        exact ⟨f478, rfl, (L21.trans (L40.trans (L47.trans (L53.trans (L456.trans (L462.trans (L472.trans L479))))))), HS598⟩
      · have c484 : ¬ (vt453 ≥ vt459) := c484
        refine wpRwI 46 kr (decide_eq_false c484) ?_
        refine wpRwI 47 kr (decide_eq_false c484) ?_
        refine condF kr ?_
        refine wp_skip ?_
        refine hK466 _ _ ?_
        refine wp_seq_k (fun K487 hK488 => ?_)
        refine heldG (S := Sg t f478 ([(b60, .cells #[.int .i64 vt50.X.Lo, .int .i64 vt50.X.Hi, .bool vt50.X.Unknown, .int .i64 vt50.Y.Lo, .int .i64 vt50.Y.Hi, .bool vt50.Y.Unknown, .int .i64 vt50.Z.Lo, .int .i64 vt50.Z.Hi, .bool vt50.Z.Unknown] 31 (0, 0))] :: [(b56, .cells #[.int .i64 vt37.X.Lo, .int .i64 vt37.X.Hi, .bool vt37.X.Unknown, .int .i64 vt37.Y.Lo, .int .i64 vt37.Y.Hi, .bool vt37.Y.Unknown, .int .i64 vt37.Z.Lo, .int .i64 vt37.Z.Hi, .bool vt37.Z.Unknown] 31 (0, 0))] :: [(b11, .cells #[.slice A2 l1.length c3, .int .i64 vt44] 26 (0, 0))] :: [(b24, .cells #[.int .i64 vt17.X, .int .i64 vt17.Y, .int .i64 vt17.Z] 39 (0, 0))] :: H) []) (n := 18) kr rfl HS481 ?_
        intro W489 HS490
        have hq_ := bind_some h; clear h; obtain ⟨vt491, hc492, h⟩ := hq_
        refine takeGE 0 kr rfl kr (does_call (f := 12) (args := #[]) kr (spykeep3_asked.calls k  HS490 vt491 hc492) ?_)
        rintro _ W495 ⟨f493, rfl, L494, HS496⟩
        refine ⟨_, rfl, ?_⟩
        refine ⟨(Sg.g0 (Sx.of [] L494 HS496)), ?_⟩
        refine takeGL [1] (n := 17) (fuel := 16) #[true, true, false, false, false, false, false, false, false, false, false, false, false, false, false, false, false, false] rfl kr kr kr hnp (Sg.g0 (Sx.of [] L494 HS496)) ?_
        have hq_ := ite_some h; clear h; rcases hq_ with ⟨c497, h⟩ | ⟨c497, h⟩
        · have c497 : vt491 = true := c497
          refine gateRwI 48 (x := vt491) (v := true) kr c497 ?_
          refine gateRwI 49 (x := vt491) (v := true) kr c497 ?_
          refine takeGQ 2 [] rfl kr kr kr kr kr kr hnp (Sg.g0 (Sx.of [] L494 HS496)) (fun w_ hw_ => by obtain ⟨g_, hl_, hS_⟩ := hw_.st; exact run_loadN (n := 9) rfl Tryz.underlying31 rfl kr (kv (.pointer (some ⟨b56, 0, none⟩))) (cs := [.int .i64 vt37.X.Lo, .int .i64 vt37.X.Hi, .bool vt37.X.Unknown, .int .i64 vt37.Y.Lo, .int .i64 vt37.Y.Hi, .bool vt37.Y.Unknown, .int .i64 vt37.Z.Lo, .int .i64 vt37.Z.Hi, .bool vt37.Z.Unknown]) rfl (hS_.u1.cells 0 9 _ rfl)) ?_
          refine takeGL [3] (n := 15) (fuel := 14) #[true, true, true, true, false, false, false, false, false, false, false, false, false, false, false, false, false, false] rfl kr kr kr hnp (Sg.g0 (Sx.of [] L494 HS496)) ?_
          refine takeGQ 4 [] rfl kr kr kr kr kr kr hnp (Sg.g0 (Sx.of [] L494 HS496)) (fun w_ hw_ => by obtain ⟨g_, hl_, hS_⟩ := hw_.st; exact run_loadN (n := 3) rfl Tryz.underlying39 rfl kr (kv (.pointer (some ⟨b24, 0, none⟩))) (cs := [.int .i64 vt17.X, .int .i64 vt17.Y, .int .i64 vt17.Z]) rfl (hS_.u3.cells 0 3 _ rfl)) ?_
          have hq_ := bind_some h; clear h; obtain ⟨vt498, hc499, h⟩ := hq_
          refine takeGE 5 kr rfl kr (does_call (f := 14) (args := #[.agg #[.int .i64 vt17.X, .int .i64 vt17.Y, .int .i64 vt17.Z], .int .i64 7]) kr (spykeep3_QueryExact_1.calls k vt17 7 HS496 vt498 hc499) ?_)
          rintro _ W502 ⟨f500, rfl, L501, HS503⟩
          refine ⟨_, rfl, ?_⟩
          refine ⟨(Sg.g0 (Sx.of [] (L494.trans L501) HS503)), ?_⟩
          have hq_ := bind_some h; clear h; obtain ⟨vt504, hc505, h⟩ := hq_
          refine takeGE 6 kr rfl kr (does_call (f := 10) (args := #[.agg #[.int .i64 vt37.X.Lo, .int .i64 vt37.X.Hi, .bool vt37.X.Unknown, .int .i64 vt37.Y.Lo, .int .i64 vt37.Y.Hi, .bool vt37.Y.Unknown, .int .i64 vt37.Z.Lo, .int .i64 vt37.Z.Hi, .bool vt37.Z.Unknown], .agg #[.int .i64 vt498.X.Lo, .int .i64 vt498.X.Hi, .bool vt498.X.Unknown, .int .i64 vt498.Y.Lo, .int .i64 vt498.Y.Hi, .bool vt498.Y.Unknown, .int .i64 vt498.Z.Lo, .int .i64 vt498.Z.Hi, .bool vt498.Z.Unknown], .int .i64 1073741824]) kr (query_Near.calls k vt37 vt498 1073741824 HS503 vt504 hc505) ?_)
          rintro _ W508 ⟨f506, rfl, L507, HS509⟩
          refine ⟨_, rfl, ?_⟩
          refine ⟨(Sg.g0 (Sx.of [] (L494.trans (L501.trans L507)) HS509)), ?_⟩
          refine takeGL [7, 8, 9] (n := 11) (fuel := 8) #[true, true, true, true, true, true, true, true, true, true, false, false, false, false, false, false, false, false] rfl kr kr kr hnp (Sg.g0 (Sx.of [] (L494.trans (L501.trans L507)) HS509)) ?_
          have hq_ := ite_some h; clear h; rcases hq_ with ⟨c510, h⟩ | ⟨c510, h⟩
          · have c510 : vt504 ≠ 0 := c510
            refine gateRwI 55 (x := (vt504 != 0)) (v := true) kr (bne_iff_ne.mpr c510) ?_
            refine gateRwI 56 (x := (vt504 != 0)) (v := true) kr (bne_iff_ne.mpr c510) ?_
            refine gateRwI 57 (x := (vt504 != 0)) (v := true) kr (bne_iff_ne.mpr c510) ?_
            refine takeGQ 10 [] rfl kr kr kr kr kr kr hnp (Sg.g0 (Sx.of [] (L494.trans (L501.trans L507)) HS509)) (fun w_ hw_ => by obtain ⟨g_, hl_, hS_⟩ := hw_.st; exact run_loadN (n := 9) rfl Tryz.underlying31 rfl kr (kv (.pointer (some ⟨b56, 0, none⟩))) (cs := [.int .i64 vt37.X.Lo, .int .i64 vt37.X.Hi, .bool vt37.X.Unknown, .int .i64 vt37.Y.Lo, .int .i64 vt37.Y.Hi, .bool vt37.Y.Unknown, .int .i64 vt37.Z.Lo, .int .i64 vt37.Z.Hi, .bool vt37.Z.Unknown]) rfl (hS_.u1.cells 0 9 _ rfl)) ?_
            refine takeGL [11] (n := 7) (fuel := 6) #[true, true, true, true, true, true, true, true, true, true, true, true, false, false, false, false, false, false] rfl kr kr kr hnp (Sg.g0 (Sx.of [] (L494.trans (L501.trans L507)) HS509)) ?_
            refine takeGQ 12 [] rfl kr kr kr kr kr kr hnp (Sg.g0 (Sx.of [] (L494.trans (L501.trans L507)) HS509)) (fun w_ hw_ => by obtain ⟨g_, hl_, hS_⟩ := hw_.st; exact run_loadN (n := 3) rfl Tryz.underlying39 rfl kr (kv (.pointer (some ⟨b24, 0, none⟩))) (cs := [.int .i64 vt17.X, .int .i64 vt17.Y, .int .i64 vt17.Z]) rfl (hS_.u3.cells 0 3 _ rfl)) ?_
            have hq_ := bind_some h; clear h; obtain ⟨vt511, hc512, h⟩ := hq_
            refine takeGE 13 kr rfl kr (does_call (f := 14) (args := #[.agg #[.int .i64 vt17.X, .int .i64 vt17.Y, .int .i64 vt17.Z], .int .i64 (-1)]) kr (spykeep3_QueryExact_1.calls k vt17 (-1) HS509 vt511 hc512) ?_)
            rintro _ W515 ⟨f513, rfl, L514, HS516⟩
            refine ⟨_, rfl, ?_⟩
            refine ⟨(Sg.g0 (Sx.of [] (L494.trans (L501.trans (L507.trans L514))) HS516)), ?_⟩
            have hq_ := bind_some h; clear h; obtain ⟨vt517, hc518, h⟩ := hq_
            refine takeGE 14 kr rfl kr (does_call (f := 10) (args := #[.agg #[.int .i64 vt37.X.Lo, .int .i64 vt37.X.Hi, .bool vt37.X.Unknown, .int .i64 vt37.Y.Lo, .int .i64 vt37.Y.Hi, .bool vt37.Y.Unknown, .int .i64 vt37.Z.Lo, .int .i64 vt37.Z.Hi, .bool vt37.Z.Unknown], .agg #[.int .i64 vt511.X.Lo, .int .i64 vt511.X.Hi, .bool vt511.X.Unknown, .int .i64 vt511.Y.Lo, .int .i64 vt511.Y.Hi, .bool vt511.Y.Unknown, .int .i64 vt511.Z.Lo, .int .i64 vt511.Z.Hi, .bool vt511.Z.Unknown], .int .i64 1]) kr (query_Near.calls k vt37 vt511 1 HS516 vt517 hc518) ?_)
            rintro _ W521 ⟨f519, rfl, L520, HS522⟩
            refine ⟨_, rfl, ?_⟩
            refine ⟨(Sg.g0 (Sx.of [] (L494.trans (L501.trans (L507.trans (L514.trans L520)))) HS522)), ?_⟩
            refine takeGL [15, 16, 17] (n := 3) (fuel := 0) #[true, true, true, true, true, true, true, true, true, true, true, true, true, true, true, true, true, true] rfl kr kr kr hnp (Sg.g0 (Sx.of [] (L494.trans (L501.trans (L507.trans (L514.trans L520)))) HS522)) ?_
            refine doneG kr ?_ _
            refine hK488 _ _ ?_
            refine wp_ret ?_
            refine hret _ _ ?_
            refine ends_still (v := Value.bool (vt517 == 0)) kr kr ?_
            have HS599 := HS522.drop
            have HS600 := HS599.drop
            have HS601 := HS600.drop
            have HS602 := HS601.drop
            injection h with h
            subst h
            exact ⟨f519, rfl, (L21.trans (L40.trans (L47.trans (L53.trans (L456.trans (L462.trans (L472.trans (L479.trans (L494.trans (L501.trans (L507.trans (L514.trans L520)))))))))))), HS602⟩
          · have c510 : ¬ (vt504 ≠ 0) := c510
            refine gateRwI 55 (x := (vt504 != 0)) (v := false) kr (bne_eq_false_iff_eq.mpr (Decidable.of_not_not c510)) ?_
            refine gateRwI 56 (x := (vt504 != 0)) (v := false) kr (bne_eq_false_iff_eq.mpr (Decidable.of_not_not c510)) ?_
            refine gateRwI 57 (x := (vt504 != 0)) (v := false) kr (bne_eq_false_iff_eq.mpr (Decidable.of_not_not c510)) ?_
            refine takeGL [10, 11, 12, 13, 14, 15, 16, 17] (n := 8) (fuel := 0) #[true, true, true, true, true, true, true, true, true, true, true, true, true, true, true, true, true, true] rfl kr kr kr hnp (Sg.g0 (Sx.of [] (L494.trans (L501.trans L507)) HS509)) ?_
            refine doneG kr ?_ _
            refine hK488 _ _ ?_
            refine wp_ret ?_
            refine hret _ _ ?_
            refine ends_still (v := Value.bool false) kr kr ?_
            have HS603 := HS509.drop
            have HS604 := HS603.drop
            have HS605 := HS604.drop
            have HS606 := HS605.drop
            injection h with h
            subst h
            exact ⟨f506, rfl, (L21.trans (L40.trans (L47.trans (L53.trans (L456.trans (L462.trans (L472.trans (L479.trans (L494.trans (L501.trans L507)))))))))), HS606⟩
        · have c497 : ¬ (vt491 = true) := c497
          refine gateRwI 48 (x := vt491) (v := false) kr (Bool.eq_false_iff.mpr c497) ?_
          refine gateRwI 49 (x := vt491) (v := false) kr (Bool.eq_false_iff.mpr c497) ?_
          refine takeGL [2, 3, 4, 5, 6, 7, 8, 9, 10, 11, 12, 13, 14, 15, 16, 17] (n := 16) (fuel := 0) #[true, true, true, true, true, true, true, true, true, true, true, true, true, true, true, true, true, true] rfl kr kr kr hnp (Sg.g0 (Sx.of [] L494 HS496)) ?_
          refine doneG kr ?_ _
          refine hK488 _ _ ?_
          refine wp_ret ?_
          refine hret _ _ ?_
          refine ends_still (v := Value.bool false) kr kr ?_
          have HS607 := HS496.drop
          have HS608 := HS607.drop
          have HS609 := HS608.drop
          have HS610 := HS609.drop
          injection h with h
          subst h
          exact ⟨f493, rfl, (L21.trans (L40.trans (L47.trans (L53.trans (L456.trans (L462.trans (L472.trans (L479.trans L494)))))))), HS610⟩
    · have c482 : ¬ (vt476 = 0) := c482
      refine seqRwI 41 kr (beq_eq_false_iff_ne.mpr c482) ?_
      refine seqRwI 42 kr (beq_eq_false_iff_ne.mpr c482) ?_
      refine seqRwI 43 kr (beq_eq_false_iff_ne.mpr c482) ?_
      refine seqL4 kr ?_
      refine nl (hK468 _ _ ?_)
      refine condF kr ?_
      refine wp_skip ?_
      refine hK466 _ _ ?_
      refine wp_seq_k (fun K523 hK524 => ?_)
      refine heldG (S := Sg t f478 ([(b60, .cells #[.int .i64 vt50.X.Lo, .int .i64 vt50.X.Hi, .bool vt50.X.Unknown, .int .i64 vt50.Y.Lo, .int .i64 vt50.Y.Hi, .bool vt50.Y.Unknown, .int .i64 vt50.Z.Lo, .int .i64 vt50.Z.Hi, .bool vt50.Z.Unknown] 31 (0, 0))] :: [(b56, .cells #[.int .i64 vt37.X.Lo, .int .i64 vt37.X.Hi, .bool vt37.X.Unknown, .int .i64 vt37.Y.Lo, .int .i64 vt37.Y.Hi, .bool vt37.Y.Unknown, .int .i64 vt37.Z.Lo, .int .i64 vt37.Z.Hi, .bool vt37.Z.Unknown] 31 (0, 0))] :: [(b11, .cells #[.slice A2 l1.length c3, .int .i64 vt44] 26 (0, 0))] :: [(b24, .cells #[.int .i64 vt17.X, .int .i64 vt17.Y, .int .i64 vt17.Z] 39 (0, 0))] :: H) []) (n := 18) kr rfl HS481 ?_
      intro W525 HS526
      have hq_ := bind_some h; clear h; obtain ⟨vt527, hc528, h⟩ := hq_
      refine takeGE 0 kr rfl kr (does_call (f := 12) (args := #[]) kr (spykeep3_asked.calls k  HS526 vt527 hc528) ?_)
      rintro _ W531 ⟨f529, rfl, L530, HS532⟩
      refine ⟨_, rfl, ?_⟩
      refine ⟨(Sg.g0 (Sx.of [] L530 HS532)), ?_⟩
      refine takeGL [1] (n := 17) (fuel := 16) #[true, true, false, false, false, false, false, false, false, false, false, false, false, false, false, false, false, false] rfl kr kr kr hnp (Sg.g0 (Sx.of [] L530 HS532)) ?_
      have hq_ := ite_some h; clear h; rcases hq_ with ⟨c533, h⟩ | ⟨c533, h⟩
      · have c533 : vt527 = true := c533
        refine gateRwI 48 (x := vt527) (v := true) kr c533 ?_
        refine gateRwI 49 (x := vt527) (v := true) kr c533 ?_
        refine takeGQ 2 [] rfl kr kr kr kr kr kr hnp (Sg.g0 (Sx.of [] L530 HS532)) (fun w_ hw_ => by obtain ⟨g_, hl_, hS_⟩ := hw_.st; exact run_loadN (n := 9) rfl Tryz.underlying31 rfl kr (kv (.pointer (some ⟨b56, 0, none⟩))) (cs := [.int .i64 vt37.X.Lo, .int .i64 vt37.X.Hi, .bool vt37.X.Unknown, .int .i64 vt37.Y.Lo, .int .i64 vt37.Y.Hi, .bool vt37.Y.Unknown, .int .i64 vt37.Z.Lo, .int .i64 vt37.Z.Hi, .bool vt37.Z.Unknown]) rfl (hS_.u1.cells 0 9 _ rfl)) ?_
        refine takeGL [3] (n := 15) (fuel := 14) #[true, true, true, true, false, false, false, false, false, false, false, false, false, false, false, false, false, false] rfl kr kr kr hnp (Sg.g0 (Sx.of [] L530 HS532)) ?_
        refine takeGQ 4 [] rfl kr kr kr kr kr kr hnp (Sg.g0 (Sx.of [] L530 HS532)) (fun w_ hw_ => by obtain ⟨g_, hl_, hS_⟩ := hw_.st; exact run_loadN (n := 3) rfl Tryz.underlying39 rfl kr (kv (.pointer (some ⟨b24, 0, none⟩))) (cs := [.int .i64 vt17.X, .int .i64 vt17.Y, .int .i64 vt17.Z]) rfl (hS_.u3.cells 0 3 _ rfl)) ?_
        have hq_ := bind_some h; clear h; obtain ⟨vt534, hc535, h⟩ := hq_
        refine takeGE 5 kr rfl kr (does_call (f := 14) (args := #[.agg #[.int .i64 vt17.X, .int .i64 vt17.Y, .int .i64 vt17.Z], .int .i64 7]) kr (spykeep3_QueryExact_1.calls k vt17 7 HS532 vt534 hc535) ?_)
        rintro _ W538 ⟨f536, rfl, L537, HS539⟩
        refine ⟨_, rfl, ?_⟩
        refine ⟨(Sg.g0 (Sx.of [] (L530.trans L537) HS539)), ?_⟩
        have hq_ := bind_some h; clear h; obtain ⟨vt540, hc541, h⟩ := hq_
        refine takeGE 6 kr rfl kr (does_call (f := 10) (args := #[.agg #[.int .i64 vt37.X.Lo, .int .i64 vt37.X.Hi, .bool vt37.X.Unknown, .int .i64 vt37.Y.Lo, .int .i64 vt37.Y.Hi, .bool vt37.Y.Unknown, .int .i64 vt37.Z.Lo, .int .i64 vt37.Z.Hi, .bool vt37.Z.Unknown], .agg #[.int .i64 vt534.X.Lo, .int .i64 vt534.X.Hi, .bool vt534.X.Unknown, .int .i64 vt534.Y.Lo, .int .i64 vt534.Y.Hi, .bool vt534.Y.Unknown, .int .i64 vt534.Z.Lo, .int .i64 vt534.Z.Hi, .bool vt534.Z.Unknown], .int .i64 1073741824]) kr (query_Near.calls k vt37 vt534 1073741824 HS539 vt540 hc541) ?_)
        rintro _ W544 ⟨f542, rfl, L543, HS545⟩
        refine ⟨_, rfl, ?_⟩
        refine ⟨(Sg.g0 (Sx.of [] (L530.trans (L537.trans L543)) HS545)), ?_⟩
        refine takeGL [7, 8, 9] (n := 11) (fuel := 8) #[true, true, true, true, true, true, true, true, true, true, false, false, false, false, false, false, false, false] rfl kr kr kr hnp (Sg.g0 (Sx.of [] (L530.trans (L537.trans L543)) HS545)) ?_
        have hq_ := ite_some h; clear h; rcases hq_ with ⟨c546, h⟩ | ⟨c546, h⟩
        · have c546 : vt540 ≠ 0 := c546
          refine gateRwI 55 (x := (vt540 != 0)) (v := true) kr (bne_iff_ne.mpr c546) ?_
          refine gateRwI 56 (x := (vt540 != 0)) (v := true) kr (bne_iff_ne.mpr c546) ?_
          refine gateRwI 57 (x := (vt540 != 0)) (v := true) kr (bne_iff_ne.mpr c546) ?_
          refine takeGQ 10 [] rfl kr kr kr kr kr kr hnp (Sg.g0 (Sx.of [] (L530.trans (L537.trans L543)) HS545)) (fun w_ hw_ => by obtain ⟨g_, hl_, hS_⟩ := hw_.st; exact run_loadN (n := 9) rfl Tryz.underlying31 rfl kr (kv (.pointer (some ⟨b56, 0, none⟩))) (cs := [.int .i64 vt37.X.Lo, .int .i64 vt37.X.Hi, .bool vt37.X.Unknown, .int .i64 vt37.Y.Lo, .int .i64 vt37.Y.Hi, .bool vt37.Y.Unknown, .int .i64 vt37.Z.Lo, .int .i64 vt37.Z.Hi, .bool vt37.Z.Unknown]) rfl (hS_.u1.cells 0 9 _ rfl)) ?_
          refine takeGL [11] (n := 7) (fuel := 6) #[true, true, true, true, true, true, true, true, true, true, true, true, false, false, false, false, false, false] rfl kr kr kr hnp (Sg.g0 (Sx.of [] (L530.trans (L537.trans L543)) HS545)) ?_
          refine takeGQ 12 [] rfl kr kr kr kr kr kr hnp (Sg.g0 (Sx.of [] (L530.trans (L537.trans L543)) HS545)) (fun w_ hw_ => by obtain ⟨g_, hl_, hS_⟩ := hw_.st; exact run_loadN (n := 3) rfl Tryz.underlying39 rfl kr (kv (.pointer (some ⟨b24, 0, none⟩))) (cs := [.int .i64 vt17.X, .int .i64 vt17.Y, .int .i64 vt17.Z]) rfl (hS_.u3.cells 0 3 _ rfl)) ?_
          have hq_ := bind_some h; clear h; obtain ⟨vt547, hc548, h⟩ := hq_
          refine takeGE 13 kr rfl kr (does_call (f := 14) (args := #[.agg #[.int .i64 vt17.X, .int .i64 vt17.Y, .int .i64 vt17.Z], .int .i64 (-1)]) kr (spykeep3_QueryExact_1.calls k vt17 (-1) HS545 vt547 hc548) ?_)
          rintro _ W551 ⟨f549, rfl, L550, HS552⟩
          refine ⟨_, rfl, ?_⟩
          refine ⟨(Sg.g0 (Sx.of [] (L530.trans (L537.trans (L543.trans L550))) HS552)), ?_⟩
          have hq_ := bind_some h; clear h; obtain ⟨vt553, hc554, h⟩ := hq_
          refine takeGE 14 kr rfl kr (does_call (f := 10) (args := #[.agg #[.int .i64 vt37.X.Lo, .int .i64 vt37.X.Hi, .bool vt37.X.Unknown, .int .i64 vt37.Y.Lo, .int .i64 vt37.Y.Hi, .bool vt37.Y.Unknown, .int .i64 vt37.Z.Lo, .int .i64 vt37.Z.Hi, .bool vt37.Z.Unknown], .agg #[.int .i64 vt547.X.Lo, .int .i64 vt547.X.Hi, .bool vt547.X.Unknown, .int .i64 vt547.Y.Lo, .int .i64 vt547.Y.Hi, .bool vt547.Y.Unknown, .int .i64 vt547.Z.Lo, .int .i64 vt547.Z.Hi, .bool vt547.Z.Unknown], .int .i64 1]) kr (query_Near.calls k vt37 vt547 1 HS552 vt553 hc554) ?_)
          rintro _ W557 ⟨f555, rfl, L556, HS558⟩
          refine ⟨_, rfl, ?_⟩
          refine ⟨(Sg.g0 (Sx.of [] (L530.trans (L537.trans (L543.trans (L550.trans L556)))) HS558)), ?_⟩
          refine takeGL [15, 16, 17] (n := 3) (fuel := 0) #[true, true, true, true, true, true, true, true, true, true, true, true, true, true, true, true, true, true] rfl kr kr kr hnp (Sg.g0 (Sx.of [] (L530.trans (L537.trans (L543.trans (L550.trans L556)))) HS558)) ?_
          refine doneG kr ?_ _
          refine hK524 _ _ ?_
          refine wp_ret ?_
          refine hret _ _ ?_
          refine ends_still (v := Value.bool (vt553 == 0)) kr kr ?_
          have HS611 := HS558.drop
          have HS612 := HS611.drop
          have HS613 := HS612.drop
          have HS614 := HS613.drop
          injection h with h
          subst h
          exact ⟨f555, rfl, (L21.trans (L40.trans (L47.trans (L53.trans (L456.trans (L462.trans (L472.trans (L479.trans (L530.trans (L537.trans (L543.trans (L550.trans L556)))))))))))), HS614⟩
        · have c546 : ¬ (vt540 ≠ 0) := c546
          refine gateRwI 55 (x := (vt540 != 0)) (v := false) kr (bne_eq_false_iff_eq.mpr (Decidable.of_not_not c546)) ?_
          refine gateRwI 56 (x := (vt540 != 0)) (v := false) kr (bne_eq_false_iff_eq.mpr (Decidable.of_not_not c546)) ?_
          refine gateRwI 57 (x := (vt540 != 0)) (v := false) kr (bne_eq_false_iff_eq.mpr (Decidable.of_not_not c546)) ?_
          refine takeGL [10, 11, 12, 13, 14, 15, 16, 17] (n := 8) (fuel := 0) #[true, true, true, true, true, true, true, true, true, true, true, true, true, true, true, true, true, true] rfl kr kr kr hnp (Sg.g0 (Sx.of [] (L530.trans (L537.trans L543)) HS545)) ?_
          refine doneG kr ?_ _
          refine hK524 _ _ ?_
          refine wp_ret ?_
          refine hret _ _ ?_
          refine ends_still (v := Value.bool false) kr kr ?_
          have HS615 := HS545.drop
          have HS616 := HS615.drop
          have HS617 := HS616.drop
          have HS618 := HS617.drop
          injection h with h
          subst h
          exact ⟨f542, rfl, (L21.trans (L40.trans (L47.trans (L53.trans (L456.trans (L462.trans (L472.trans (L479.trans (L530.trans (L537.trans L543)))))))))), HS618⟩
      · have c533 : ¬ (vt527 = true) := c533
        refine gateRwI 48 (x := vt527) (v := false) kr (Bool.eq_false_iff.mpr c533) ?_
        refine gateRwI 49 (x := vt527) (v := false) kr (Bool.eq_false_iff.mpr c533) ?_
        refine takeGL [2, 3, 4, 5, 6, 7, 8, 9, 10, 11, 12, 13, 14, 15, 16, 17] (n := 16) (fuel := 0) #[true, true, true, true, true, true, true, true, true, true, true, true, true, true, true, true, true, true] rfl kr kr kr hnp (Sg.g0 (Sx.of [] L530 HS532)) ?_
        refine doneG kr ?_ _
        refine hK524 _ _ ?_
        refine wp_ret ?_
        refine hret _ _ ?_
        refine ends_still (v := Value.bool false) kr kr ?_
        have HS619 := HS532.drop
        have HS620 := HS619.drop
        have HS621 := HS620.drop
        have HS622 := HS621.drop
        injection h with h
        subst h
        exact ⟨f529, rfl, (L21.trans (L40.trans (L47.trans (L53.trans (L456.trans (L462.trans (L472.trans (L479.trans L530)))))))), HS622⟩
  · have c475 : ¬ (vt469 = 2) := c475
    refine seqRwI 35 kr (beq_eq_false_iff_ne.mpr c475) ?_
    refine seqRwI 36 kr (beq_eq_false_iff_ne.mpr c475) ?_
    refine seqL11 kr ?_
    refine nl (hK468 _ _ ?_)
    refine condF kr ?_
    refine wp_skip ?_
    refine hK466 _ _ ?_
    refine wp_seq_k (fun K559 hK560 => ?_)
    refine heldG (S := Sg t f471 ([(b60, .cells #[.int .i64 vt50.X.Lo, .int .i64 vt50.X.Hi, .bool vt50.X.Unknown, .int .i64 vt50.Y.Lo, .int .i64 vt50.Y.Hi, .bool vt50.Y.Unknown, .int .i64 vt50.Z.Lo, .int .i64 vt50.Z.Hi, .bool vt50.Z.Unknown] 31 (0, 0))] :: [(b56, .cells #[.int .i64 vt37.X.Lo, .int .i64 vt37.X.Hi, .bool vt37.X.Unknown, .int .i64 vt37.Y.Lo, .int .i64 vt37.Y.Hi, .bool vt37.Y.Unknown, .int .i64 vt37.Z.Lo, .int .i64 vt37.Z.Hi, .bool vt37.Z.Unknown] 31 (0, 0))] :: [(b11, .cells #[.slice A2 l1.length c3, .int .i64 vt44] 26 (0, 0))] :: [(b24, .cells #[.int .i64 vt17.X, .int .i64 vt17.Y, .int .i64 vt17.Z] 39 (0, 0))] :: H) []) (n := 18) kr rfl HS474 ?_
    intro W561 HS562
    have hq_ := bind_some h; clear h; obtain ⟨vt563, hc564, h⟩ := hq_
    refine takeGE 0 kr rfl kr (does_call (f := 12) (args := #[]) kr (spykeep3_asked.calls k  HS562 vt563 hc564) ?_)
    rintro _ W567 ⟨f565, rfl, L566, HS568⟩
    refine ⟨_, rfl, ?_⟩
    refine ⟨(Sg.g0 (Sx.of [] L566 HS568)), ?_⟩
    refine takeGL [1] (n := 17) (fuel := 16) #[true, true, false, false, false, false, false, false, false, false, false, false, false, false, false, false, false, false] rfl kr kr kr hnp (Sg.g0 (Sx.of [] L566 HS568)) ?_
    have hq_ := ite_some h; clear h; rcases hq_ with ⟨c569, h⟩ | ⟨c569, h⟩
    · have c569 : vt563 = true := c569
      refine gateRwI 48 (x := vt563) (v := true) kr c569 ?_
      refine gateRwI 49 (x := vt563) (v := true) kr c569 ?_
      refine takeGQ 2 [] rfl kr kr kr kr kr kr hnp (Sg.g0 (Sx.of [] L566 HS568)) (fun w_ hw_ => by obtain ⟨g_, hl_, hS_⟩ := hw_.st; exact run_loadN (n := 9) rfl Tryz.underlying31 rfl kr (kv (.pointer (some ⟨b56, 0, none⟩))) (cs := [.int .i64 vt37.X.Lo, .int .i64 vt37.X.Hi, .bool vt37.X.Unknown, .int .i64 vt37.Y.Lo, .int .i64 vt37.Y.Hi, .bool vt37.Y.Unknown, .int .i64 vt37.Z.Lo, .int .i64 vt37.Z.Hi, .bool vt37.Z.Unknown]) rfl (hS_.u1.cells 0 9 _ rfl)) ?_
      refine takeGL [3] (n := 15) (fuel := 14) #[true, true, true, true, false, false, false, false, false, false, false, false, false, false, false, false, false, false] rfl kr kr kr hnp (Sg.g0 (Sx.of [] L566 HS568)) ?_
      refine takeGQ 4 [] rfl kr kr kr kr kr kr hnp (Sg.g0 (Sx.of [] L566 HS568)) (fun w_ hw_ => by obtain ⟨g_, hl_, hS_⟩ := hw_.st; exact run_loadN (n := 3) rfl Tryz.underlying39 rfl kr (kv (.pointer (some ⟨b24, 0, none⟩))) (cs := [.int .i64 vt17.X, .int .i64 vt17.Y, .int .i64 vt17.Z]) rfl (hS_.u3.cells 0 3 _ rfl)) ?_
      have hq_ := bind_some h; clear h; obtain ⟨vt570, hc571, h⟩ := hq_
      refine takeGE 5 kr rfl kr (does_call (f := 14) (args := #[.agg #[.int .i64 vt17.X, .int .i64 vt17.Y, .int .i64 vt17.Z], .int .i64 7]) kr (spykeep3_QueryExact_1.calls k vt17 7 HS568 vt570 hc571) ?_)
      rintro _ W574 ⟨f572, rfl, L573, HS575⟩
      refine ⟨_, rfl, ?_⟩
      refine ⟨(Sg.g0 (Sx.of [] (L566.trans L573) HS575)), ?_⟩
      have hq_ := bind_some h; clear h; obtain ⟨vt576, hc577, h⟩ := hq_
      refine takeGE 6 kr rfl kr (does_call (f := 10) (args := #[.agg #[.int .i64 vt37.X.Lo, .int .i64 vt37.X.Hi, .bool vt37.X.Unknown, .int .i64 vt37.Y.Lo, .int .i64 vt37.Y.Hi, .bool vt37.Y.Unknown, .int .i64 vt37.Z.Lo, .int .i64 vt37.Z.Hi, .bool vt37.Z.Unknown], .agg #[.int .i64 vt570.X.Lo, .int .i64 vt570.X.Hi, .bool vt570.X.Unknown, .int .i64 vt570.Y.Lo, .int .i64 vt570.Y.Hi, .bool vt570.Y.Unknown, .int .i64 vt570.Z.Lo, .int .i64 vt570.Z.Hi, .bool vt570.Z.Unknown], .int .i64 1073741824]) kr (query_Near.calls k vt37 vt570 1073741824 HS575 vt576 hc577) ?_)
      rintro _ W580 ⟨f578, rfl, L579, HS581⟩
      refine ⟨_, rfl, ?_⟩
      refine ⟨(Sg.g0 (Sx.of [] (L566.trans (L573.trans L579)) HS581)), ?_⟩
      refine takeGL [7, 8, 9] (n := 11) (fuel := 8) #[true, true, true, true, true, true, true, true, true, true, false, false, false, false, false, false, false, false] rfl kr kr kr hnp (Sg.g0 (Sx.of [] (L566.trans (L573.trans L579)) HS581)) ?_
      have hq_ := ite_some h; clear h; rcases hq_ with ⟨c582, h⟩ | ⟨c582, h⟩
      · have c582 : vt576 ≠ 0 := c582
        refine gateRwI 55 (x := (vt576 != 0)) (v := true) kr (bne_iff_ne.mpr c582) ?_
        refine gateRwI 56 (x := (vt576 != 0)) (v := true) kr (bne_iff_ne.mpr c582) ?_
        refine gateRwI 57 (x := (vt576 != 0)) (v := true) kr (bne_iff_ne.mpr c582) ?_
        refine takeGQ 10 [] rfl kr kr kr kr kr kr hnp (Sg.g0 (Sx.of [] (L566.trans (L573.trans L579)) HS581)) (fun w_ hw_ => by obtain ⟨g_, hl_, hS_⟩ := hw_.st; exact run_loadN (n := 9) rfl Tryz.underlying31 rfl kr (kv (.pointer (some ⟨b56, 0, none⟩))) (cs := [.int .i64 vt37.X.Lo, .int .i64 vt37.X.Hi, .bool vt37.X.Unknown, .int .i64 vt37.Y.Lo, .int .i64 vt37.Y.Hi, .bool vt37.Y.Unknown, .int .i64 vt37.Z.Lo, .int .i64 vt37.Z.Hi, .bool vt37.Z.Unknown]) rfl (hS_.u1.cells 0 9 _ rfl)) ?_
        refine takeGL [11] (n := 7) (fuel := 6) #[true, true, true, true, true, true, true, true, true, true, true, true, false, false, false, false, false, false] rfl kr kr kr hnp (Sg.g0 (Sx.of [] (L566.trans (L573.trans L579)) HS581)) ?_
        refine takeGQ 12 [] rfl kr kr kr kr kr kr hnp (Sg.g0 (Sx.of [] (L566.trans (L573.trans L579)) HS581)) (fun w_ hw_ => by obtain ⟨g_, hl_, hS_⟩ := hw_.st; exact run_loadN (n := 3) rfl Tryz.underlying39 rfl kr (kv (.pointer (some ⟨b24, 0, none⟩))) (cs := [.int .i64 vt17.X, .int .i64 vt17.Y, .int .i64 vt17.Z]) rfl (hS_.u3.cells 0 3 _ rfl)) ?_
        have hq_ := bind_some h; clear h; obtain ⟨vt583, hc584, h⟩ := hq_
        refine takeGE 13 kr rfl kr (does_call (f := 14) (args := #[.agg #[.int .i64 vt17.X, .int .i64 vt17.Y, .int .i64 vt17.Z], .int .i64 (-1)]) kr (spykeep3_QueryExact_1.calls k vt17 (-1) HS581 vt583 hc584) ?_)
        rintro _ W587 ⟨f585, rfl, L586, HS588⟩
        refine ⟨_, rfl, ?_⟩
        refine ⟨(Sg.g0 (Sx.of [] (L566.trans (L573.trans (L579.trans L586))) HS588)), ?_⟩
        have hq_ := bind_some h; clear h; obtain ⟨vt589, hc590, h⟩ := hq_
        refine takeGE 14 kr rfl kr (does_call (f := 10) (args := #[.agg #[.int .i64 vt37.X.Lo, .int .i64 vt37.X.Hi, .bool vt37.X.Unknown, .int .i64 vt37.Y.Lo, .int .i64 vt37.Y.Hi, .bool vt37.Y.Unknown, .int .i64 vt37.Z.Lo, .int .i64 vt37.Z.Hi, .bool vt37.Z.Unknown], .agg #[.int .i64 vt583.X.Lo, .int .i64 vt583.X.Hi, .bool vt583.X.Unknown, .int .i64 vt583.Y.Lo, .int .i64 vt583.Y.Hi, .bool vt583.Y.Unknown, .int .i64 vt583.Z.Lo, .int .i64 vt583.Z.Hi, .bool vt583.Z.Unknown], .int .i64 1]) kr (query_Near.calls k vt37 vt583 1 HS588 vt589 hc590) ?_)
        rintro _ W593 ⟨f591, rfl, L592, HS594⟩
        refine ⟨_, rfl, ?_⟩
        refine ⟨(Sg.g0 (Sx.of [] (L566.trans (L573.trans (L579.trans (L586.trans L592)))) HS594)), ?_⟩
        refine takeGL [15, 16, 17] (n := 3) (fuel := 0) #[true, true, true, true, true, true, true, true, true, true, true, true, true, true, true, true, true, true] rfl kr kr kr hnp (Sg.g0 (Sx.of [] (L566.trans (L573.trans (L579.trans (L586.trans L592)))) HS594)) ?_
        refine doneG kr ?_ _
        refine hK560 _ _ ?_
        refine wp_ret ?_
        refine hret _ _ ?_
        refine ends_still (v := Value.bool (vt589 == 0)) kr kr ?_
        have HS623 := HS594.drop
        have HS624 := HS623.drop
        have HS625 := HS624.drop
        have HS626 := HS625.drop
        injection h with h
        subst h
        exact ⟨f591, rfl, (L21.trans (L40.trans (L47.trans (L53.trans (L456.trans (L462.trans (L472.trans (L566.trans (L573.trans (L579.trans (L586.trans L592))))))))))), HS626⟩
      · have c582 : ¬ (vt576 ≠ 0) := c582
        refine gateRwI 55 (x := (vt576 != 0)) (v := false) kr (bne_eq_false_iff_eq.mpr (Decidable.of_not_not c582)) ?_
        refine gateRwI 56 (x := (vt576 != 0)) (v := false) kr (bne_eq_false_iff_eq.mpr (Decidable.of_not_not c582)) ?_
        refine gateRwI 57 (x := (vt576 != 0)) (v := false) kr (bne_eq_false_iff_eq.mpr (Decidable.of_not_not c582)) ?_
        refine takeGL [10, 11, 12, 13, 14, 15, 16, 17] (n := 8) (fuel := 0) #[true, true, true, true, true, true, true, true, true, true, true, true, true, true, true, true, true, true] rfl kr kr kr hnp (Sg.g0 (Sx.of [] (L566.trans (L573.trans L579)) HS581)) ?_
        refine doneG kr ?_ _
        refine hK560 _ _ ?_
        refine wp_ret ?_
        refine hret _ _ ?_
        refine ends_still (v := Value.bool false) kr kr ?_
        have HS627 := HS581.drop
        have HS628 := HS627.drop
        have HS629 := HS628.drop
        have HS630 := HS629.drop
        injection h with h
        subst h
        exact ⟨f578, rfl, (L21.trans (L40.trans (L47.trans (L53.trans (L456.trans (L462.trans (L472.trans (L566.trans (L573.trans L579))))))))), HS630⟩
    · have c569 : ¬ (vt563 = true) := c569
      refine gateRwI 48 (x := vt563) (v := false) kr (Bool.eq_false_iff.mpr c569) ?_
      refine gateRwI 49 (x := vt563) (v := false) kr (Bool.eq_false_iff.mpr c569) ?_
      refine takeGL [2, 3, 4, 5, 6, 7, 8, 9, 10, 11, 12, 13, 14, 15, 16, 17] (n := 16) (fuel := 0) #[true, true, true, true, true, true, true, true, true, true, true, true, true, true, true, true, true, true] rfl kr kr kr hnp (Sg.g0 (Sx.of [] L566 HS568)) ?_
      refine doneG kr ?_ _
      refine hK560 _ _ ?_
      refine wp_ret ?_
      refine hret _ _ ?_
      refine ends_still (v := Value.bool false) kr kr ?_
      have HS631 := HS568.drop
      have HS632 := HS631.drop
      have HS633 := HS632.drop
      have HS634 := HS633.drop
      injection h with h
      subst h
      exact ⟨f565, rfl, (L21.trans (L40.trans (L47.trans (L53.trans (L456.trans (L462.trans (L472.trans L566))))))), HS634⟩
 refine takeAny3 2 8 9 kr (Way.mk' rfl rfl ?_) (Way.mk' rfl rfl ?_) (Way.mk' rfl rfl ?_)
 · refine does_call (f := 14) (args := #[.agg #[.int .i64 vt17.X, .int .i64 vt17.Y, .int .i64 vt17.Z], .int .i64 1]) kr (spykeep3_QueryExact_1.calls k vt17 1 HS36 vt37 hc38) ?_
   rintro _ W78 ⟨f76, rfl, L77, HS79⟩
   refine ⟨_, rfl, ?_⟩
   refine ⟨(Sg.g1 (Sx.of [[(b11, .cells #[.slice A2 l1.length c3, .int .i64 vt18] 26 (0, 0))]] L77 HS79) (fun _ => St.only [] HS79 L77)), ?_⟩
   refine takeAny3 6 8 9 kr (Way.mk' rfl rfl ?_) (Way.mk' rfl rfl ?_) (Way.mk' rfl rfl ?_)
   · refine does_call (f := 16) (args := #[.pointer (some ⟨b11, 0, none⟩), .agg #[.int .i64 vt17.X, .int .i64 vt17.Y, .int .i64 vt17.Z]]) kr (spymake_Stream_Near.calls k b11 A2 c3 (⟨l1, vt18⟩ : S_Stream) vt17 HS79 (HR4.mono (L21.trans L77)) vt43 vt44 hc45) ?_
     rintro _ W82 ⟨f80, rfl, L81, HS83⟩
     refine ⟨_, rfl, ?_⟩
     refine ⟨(Sg.g1 (Sx.of [[(b11, .cells #[.slice A2 l1.length c3, .int .i64 vt44] 26 (0, 0))]] (L77.trans L81) HS83) (fun hl_ => Bool.noConfusion (show true = false from hl_))), ?_⟩
     refine takeAny3 7 8 9 kr (Way.mk' rfl rfl ?_) (Way.mk' rfl rfl ?_) (Way.mk' rfl rfl ?_)
     · refine does_call (f := 14) (args := #[.agg #[.int .i64 vt43.X, .int .i64 vt43.Y, .int .i64 vt43.Z], .int .i64 1]) kr (spykeep3_QueryExact_1.calls k vt43 1 HS83 vt50 hc51) ?_
       rintro _ W86 ⟨f84, rfl, L85, HS87⟩
       refine ⟨_, rfl, ?_⟩
       refine ⟨(Sg.g1 (Sx.of [[(b11, .cells #[.slice A2 l1.length c3, .int .i64 vt44] 26 (0, 0))]] (L77.trans (L81.trans L85)) HS87) (fun hl_ => Bool.noConfusion (show true = false from hl_))), ?_⟩
       refine takeEither 8 9 kr rfl rfl rfl rfl ?_ ?_
       · refine does_alloc (z := Value.agg #[.int .i64 0, .int .i64 0, .bool false, .int .i64 0, .int .i64 0, .bool false, .int .i64 0, .int .i64 0, .bool false]) (cs := #[.int .i64 0, .int .i64 0, .bool false, .int .i64 0, .int .i64 0, .bool false, .int .i64 0, .int .i64 0, .bool false]) rfl kr rfl HS87 ?_
         intro b88 W89 HS90
         refine ⟨(Sg.g1 (Sx.of [[(b88, .cells #[.int .i64 0, .int .i64 0, .bool false, .int .i64 0, .int .i64 0, .bool false, .int .i64 0, .int .i64 0, .bool false] 31 (0, 0))], [(b11, .cells #[.slice A2 l1.length c3, .int .i64 vt44] 26 (0, 0))]] (L77.trans (L81.trans L85)) HS90) (fun hl_ => Bool.noConfusion (show true = false from hl_))), ?_⟩
         refine takeGE 9 kr rfl kr (does_alloc (z := Value.agg #[.int .i64 0, .int .i64 0, .bool false, .int .i64 0, .int .i64 0, .bool false, .int .i64 0, .int .i64 0, .bool false]) (cs := #[.int .i64 0, .int .i64 0, .bool false, .int .i64 0, .int .i64 0, .bool false, .int .i64 0, .int .i64 0, .bool false]) rfl kr rfl HS90 ?_)
         intro b92 W93 HS94
         refine ⟨(Sg.g1 (Sx.of [[(b92, .cells #[.int .i64 0, .int .i64 0, .bool false, .int .i64 0, .int .i64 0, .bool false, .int .i64 0, .int .i64 0, .bool false] 31 (0, 0))], [(b88, .cells #[.int .i64 0, .int .i64 0, .bool false, .int .i64 0, .int .i64 0, .bool false, .int .i64 0, .int .i64 0, .bool false] 31 (0, 0))], [(b11, .cells #[.slice A2 l1.length c3, .int .i64 vt44] 26 (0, 0))]] (L77.trans (L81.trans L85)) HS94) (fun hl_ => Bool.noConfusion (show true = false from hl_))), ?_⟩
         have HS96 := HS94.u1
         refine takeGE 10 kr rfl kr (does_storeA (vs := [.int .i64 vt37.X.Lo, .int .i64 vt37.X.Hi, .bool vt37.X.Unknown, .int .i64 vt37.Y.Lo, .int .i64 vt37.Y.Hi, .bool vt37.Y.Unknown, .int .i64 vt37.Z.Lo, .int .i64 vt37.Z.Hi, .bool vt37.Z.Unknown]) rfl kr kr kr rfl (ones rfl) HS96 kr ?_)
         intro W97 HS98
         refine ⟨(Sg.g1 (Sx.of [[(b88, .cells #[.int .i64 vt37.X.Lo, .int .i64 vt37.X.Hi, .bool vt37.X.Unknown, .int .i64 vt37.Y.Lo, .int .i64 vt37.Y.Hi, .bool vt37.Y.Unknown, .int .i64 vt37.Z.Lo, .int .i64 vt37.Z.Hi, .bool vt37.Z.Unknown] 31 (0, 0))], [(b92, .cells #[.int .i64 0, .int .i64 0, .bool false, .int .i64 0, .int .i64 0, .bool false, .int .i64 0, .int .i64 0, .bool false] 31 (0, 0))], [(b11, .cells #[.slice A2 l1.length c3, .int .i64 vt44] 26 (0, 0))]] (L77.trans (L81.trans L85)) HS98) (fun hl_ => Bool.noConfusion (show true = false from hl_))), ?_⟩
         have HS99 := HS98.u1
         refine takeGE 11 kr rfl kr (does_storeA (vs := [.int .i64 vt50.X.Lo, .int .i64 vt50.X.Hi, .bool vt50.X.Unknown, .int .i64 vt50.Y.Lo, .int .i64 vt50.Y.Hi, .bool vt50.Y.Unknown, .int .i64 vt50.Z.Lo, .int .i64 vt50.Z.Hi, .bool vt50.Z.Unknown]) rfl kr kr kr rfl (ones rfl) HS99 kr ?_)
         intro W100 HS101
         refine ⟨(Sg.g1 (Sx.of [[(b92, .cells #[.int .i64 vt50.X.Lo, .int .i64 vt50.X.Hi, .bool vt50.X.Unknown, .int .i64 vt50.Y.Lo, .int .i64 vt50.Y.Hi, .bool vt50.Y.Unknown, .int .i64 vt50.Z.Lo, .int .i64 vt50.Z.Hi, .bool vt50.Z.Unknown] 31 (0, 0))], [(b88, .cells #[.int .i64 vt37.X.Lo, .int .i64 vt37.X.Hi, .bool vt37.X.Unknown, .int .i64 vt37.Y.Lo, .int .i64 vt37.Y.Hi, .bool vt37.Y.Unknown, .int .i64 vt37.Z.Lo, .int .i64 vt37.Z.Hi, .bool vt37.Z.Unknown] 31 (0, 0))], [(b11, .cells #[.slice A2 l1.length c3, .int .i64 vt44] 26 (0, 0))]] (L77.trans (L81.trans L85)) HS101) (fun hl_ => Bool.noConfusion (show true = false from hl_))), ?_⟩
         refine hR72 _ _ ?_
         exact J73 f76 f80 f84 b88 b92 W100 _ L77 L81 L85 HS101 kr
       · refine does_alloc (z := Value.agg #[.int .i64 0, .int .i64 0, .bool false, .int .i64 0, .int .i64 0, .bool false, .int .i64 0, .int .i64 0, .bool false]) (cs := #[.int .i64 0, .int .i64 0, .bool false, .int .i64 0, .int .i64 0, .bool false, .int .i64 0, .int .i64 0, .bool false]) rfl kr rfl HS87 ?_
         intro b102 W103 HS104
         refine ⟨(Sg.g1 (Sx.of [[(b102, .cells #[.int .i64 0, .int .i64 0, .bool false, .int .i64 0, .int .i64 0, .bool false, .int .i64 0, .int .i64 0, .bool false] 31 (0, 0))], [(b11, .cells #[.slice A2 l1.length c3, .int .i64 vt44] 26 (0, 0))]] (L77.trans (L81.trans L85)) HS104) (fun hl_ => Bool.noConfusion (show true = false from hl_))), ?_⟩
         refine takeGE 8 kr rfl kr (does_alloc (z := Value.agg #[.int .i64 0, .int .i64 0, .bool false, .int .i64 0, .int .i64 0, .bool false, .int .i64 0, .int .i64 0, .bool false]) (cs := #[.int .i64 0, .int .i64 0, .bool false, .int .i64 0, .int .i64 0, .bool false, .int .i64 0, .int .i64 0, .bool false]) rfl kr rfl HS104 ?_)
         intro b106 W107 HS108
         refine ⟨(Sg.g1 (Sx.of [[(b106, .cells #[.int .i64 0, .int .i64 0, .bool false, .int .i64 0, .int .i64 0, .bool false, .int .i64 0, .int .i64 0, .bool false] 31 (0, 0))], [(b102, .cells #[.int .i64 0, .int .i64 0, .bool false, .int .i64 0, .int .i64 0, .bool false, .int .i64 0, .int .i64 0, .bool false] 31 (0, 0))], [(b11, .cells #[.slice A2 l1.length c3, .int .i64 vt44] 26 (0, 0))]] (L77.trans (L81.trans L85)) HS108) (fun hl_ => Bool.noConfusion (show true = false from hl_))), ?_⟩
         refine takeGE 10 kr rfl kr (does_storeA (vs := [.int .i64 vt37.X.Lo, .int .i64 vt37.X.Hi, .bool vt37.X.Unknown, .int .i64 vt37.Y.Lo, .int .i64 vt37.Y.Hi, .bool vt37.Y.Unknown, .int .i64 vt37.Z.Lo, .int .i64 vt37.Z.Hi, .bool vt37.Z.Unknown]) rfl kr kr kr rfl (ones rfl) HS108 kr ?_)
         intro W110 HS111
         refine ⟨(Sg.g1 (Sx.of [[(b106, .cells #[.int .i64 vt37.X.Lo, .int .i64 vt37.X.Hi, .bool vt37.X.Unknown, .int .i64 vt37.Y.Lo, .int .i64 vt37.Y.Hi, .bool vt37.Y.Unknown, .int .i64 vt37.Z.Lo, .int .i64 vt37.Z.Hi, .bool vt37.Z.Unknown] 31 (0, 0))], [(b102, .cells #[.int .i64 0, .int .i64 0, .bool false, .int .i64 0, .int .i64 0, .bool false, .int .i64 0, .int .i64 0, .bool false] 31 (0, 0))], [(b11, .cells #[.slice A2 l1.length c3, .int .i64 vt44] 26 (0, 0))]] (L77.trans (L81.trans L85)) HS111) (fun hl_ => Bool.noConfusion (show true = false from hl_))), ?_⟩
         have HS112 := HS111.u1
         refine takeGE 11 kr rfl kr (does_storeA (vs := [.int .i64 vt50.X.Lo, .int .i64 vt50.X.Hi, .bool vt50.X.Unknown, .int .i64 vt50.Y.Lo, .int .i64 vt50.Y.Hi, .bool vt50.Y.Unknown, .int .i64 vt50.Z.Lo, .int .i64 vt50.Z.Hi, .bool vt50.Z.Unknown]) rfl kr kr kr rfl (ones rfl) HS112 kr ?_)
         intro W113 HS114
         refine ⟨(Sg.g1 (Sx.of [[(b102, .cells #[.int .i64 vt50.X.Lo, .int .i64 vt50.X.Hi, .bool vt50.X.Unknown, .int .i64 vt50.Y.Lo, .int .i64 vt50.Y.Hi, .bool vt50.Y.Unknown, .int .i64 vt50.Z.Lo, .int .i64 vt50.Z.Hi, .bool vt50.Z.Unknown] 31 (0, 0))], [(b106, .cells #[.int .i64 vt37.X.Lo, .int .i64 vt37.X.Hi, .bool vt37.X.Unknown, .int .i64 vt37.Y.Lo, .int .i64 vt37.Y.Hi, .bool vt37.Y.Unknown, .int .i64 vt37.Z.Lo, .int .i64 vt37.Z.Hi, .bool vt37.Z.Unknown] 31 (0, 0))], [(b11, .cells #[.slice A2 l1.length c3, .int .i64 vt44] 26 (0, 0))]] (L77.trans (L81.trans L85)) HS114) (fun hl_ => Bool.noConfusion (show true = false from hl_))), ?_⟩
         refine hR72 _ _ ?_
         exact J73 f76 f80 f84 b106 b102 W113 _ L77 L81 L85 HS114 kr
     · refine does_alloc (z := Value.agg #[.int .i64 0, .int .i64 0, .bool false, .int .i64 0, .int .i64 0, .bool false, .int .i64 0, .int .i64 0, .bool false]) (cs := #[.int .i64 0, .int .i64 0, .bool false, .int .i64 0, .int .i64 0, .bool false, .int .i64 0, .int .i64 0, .bool false]) rfl kr rfl HS83 ?_
       intro b115 W116 HS117
       refine ⟨(Sg.g1 (Sx.of [[(b115, .cells #[.int .i64 0, .int .i64 0, .bool false, .int .i64 0, .int .i64 0, .bool false, .int .i64 0, .int .i64 0, .bool false] 31 (0, 0))], [(b11, .cells #[.slice A2 l1.length c3, .int .i64 vt44] 26 (0, 0))]] (L77.trans L81) HS117) (fun hl_ => Bool.noConfusion (show true = false from hl_))), ?_⟩
       refine takeEither 7 9 kr rfl rfl rfl rfl ?_ ?_
       · refine does_call (f := 14) (args := #[.agg #[.int .i64 vt43.X, .int .i64 vt43.Y, .int .i64 vt43.Z], .int .i64 1]) kr (spykeep3_QueryExact_1.calls k vt43 1 HS117 vt50 hc51) ?_
         rintro _ W121 ⟨f119, rfl, L120, HS122⟩
         refine ⟨_, rfl, ?_⟩
         refine ⟨(Sg.g1 (Sx.of [[(b115, .cells #[.int .i64 0, .int .i64 0, .bool false, .int .i64 0, .int .i64 0, .bool false, .int .i64 0, .int .i64 0, .bool false] 31 (0, 0))], [(b11, .cells #[.slice A2 l1.length c3, .int .i64 vt44] 26 (0, 0))]] (L77.trans (L81.trans L120)) HS122) (fun hl_ => Bool.noConfusion (show true = false from hl_))), ?_⟩
         refine takeGE 9 kr rfl kr (does_alloc (z := Value.agg #[.int .i64 0, .int .i64 0, .bool false, .int .i64 0, .int .i64 0, .bool false, .int .i64 0, .int .i64 0, .bool false]) (cs := #[.int .i64 0, .int .i64 0, .bool false, .int .i64 0, .int .i64 0, .bool false, .int .i64 0, .int .i64 0, .bool false]) rfl kr rfl HS122 ?_)
         intro b123 W124 HS125
         refine ⟨(Sg.g1 (Sx.of [[(b123, .cells #[.int .i64 0, .int .i64 0, .bool false, .int .i64 0, .int .i64 0, .bool false, .int .i64 0, .int .i64 0, .bool false] 31 (0, 0))], [(b115, .cells #[.int .i64 0, .int .i64 0, .bool false, .int .i64 0, .int .i64 0, .bool false, .int .i64 0, .int .i64 0, .bool false] 31 (0, 0))], [(b11, .cells #[.slice A2 l1.length c3, .int .i64 vt44] 26 (0, 0))]] (L77.trans (L81.trans L120)) HS125) (fun hl_ => Bool.noConfusion (show true = false from hl_))), ?_⟩
         have HS127 := HS125.u1
         refine takeGE 10 kr rfl kr (does_storeA (vs := [.int .i64 vt37.X.Lo, .int .i64 vt37.X.Hi, .bool vt37.X.Unknown, .int .i64 vt37.Y.Lo, .int .i64 vt37.Y.Hi, .bool vt37.Y.Unknown, .int .i64 vt37.Z.Lo, .int .i64 vt37.Z.Hi, .bool vt37.Z.Unknown]) rfl kr kr kr rfl (ones rfl) HS127 kr ?_)
         intro W128 HS129
         refine ⟨(Sg.g1 (Sx.of [[(b115, .cells #[.int .i64 vt37.X.Lo, .int .i64 vt37.X.Hi, .bool vt37.X.Unknown, .int .i64 vt37.Y.Lo, .int .i64 vt37.Y.Hi, .bool vt37.Y.Unknown, .int .i64 vt37.Z.Lo, .int .i64 vt37.Z.Hi, .bool vt37.Z.Unknown] 31 (0, 0))], [(b123, .cells #[.int .i64 0, .int .i64 0, .bool false, .int .i64 0, .int .i64 0, .bool false, .int .i64 0, .int .i64 0, .bool false] 31 (0, 0))], [(b11, .cells #[.slice A2 l1.length c3, .int .i64 vt44] 26 (0, 0))]] (L77.trans (L81.trans L120)) HS129) (fun hl_ => Bool.noConfusion (show true = false from hl_))), ?_⟩
         have HS130 := HS129.u1
         refine takeGE 11 kr rfl kr (does_storeA (vs := [.int .i64 vt50.X.Lo, .int .i64 vt50.X.Hi, .bool vt50.X.Unknown, .int .i64 vt50.Y.Lo, .int .i64 vt50.Y.Hi, .bool vt50.Y.Unknown, .int .i64 vt50.Z.Lo, .int .i64 vt50.Z.Hi, .bool vt50.Z.Unknown]) rfl kr kr kr rfl (ones rfl) HS130 kr ?_)
         intro W131 HS132
         refine ⟨(Sg.g1 (Sx.of [[(b123, .cells #[.int .i64 vt50.X.Lo, .int .i64 vt50.X.Hi, .bool vt50.X.Unknown, .int .i64 vt50.Y.Lo, .int .i64 vt50.Y.Hi, .bool vt50.Y.Unknown, .int .i64 vt50.Z.Lo, .int .i64 vt50.Z.Hi, .bool vt50.Z.Unknown] 31 (0, 0))], [(b115, .cells #[.int .i64 vt37.X.Lo, .int .i64 vt37.X.Hi, .bool vt37.X.Unknown, .int .i64 vt37.Y.Lo, .int .i64 vt37.Y.Hi, .bool vt37.Y.Unknown, .int .i64 vt37.Z.Lo, .int .i64 vt37.Z.Hi, .bool vt37.Z.Unknown] 31 (0, 0))], [(b11, .cells #[.slice A2 l1.length c3, .int .i64 vt44] 26 (0, 0))]] (L77.trans (L81.trans L120)) HS132) (fun hl_ => Bool.noConfusion (show true = false from hl_))), ?_⟩
         refine hR72 _ _ ?_
         exact J73 f76 f80 f119 b115 b123 W131 _ L77 L81 L120 HS132 kr
       · refine does_alloc (z := Value.agg #[.int .i64 0, .int .i64 0, .bool false, .int .i64 0, .int .i64 0, .bool false, .int .i64 0, .int .i64 0, .bool false]) (cs := #[.int .i64 0, .int .i64 0, .bool false, .int .i64 0, .int .i64 0, .bool false, .int .i64 0, .int .i64 0, .bool false]) rfl kr rfl HS117 ?_
         intro b133 W134 HS135
         refine ⟨(Sg.g1 (Sx.of [[(b133, .cells #[.int .i64 0, .int .i64 0, .bool false, .int .i64 0, .int .i64 0, .bool false, .int .i64 0, .int .i64 0, .bool false] 31 (0, 0))], [(b115, .cells #[.int .i64 0, .int .i64 0, .bool false, .int .i64 0, .int .i64 0, .bool false, .int .i64 0, .int .i64 0, .bool false] 31 (0, 0))], [(b11, .cells #[.slice A2 l1.length c3, .int .i64 vt44] 26 (0, 0))]] (L77.trans L81) HS135) (fun hl_ => Bool.noConfusion (show true = false from hl_))), ?_⟩
         refine takeGE 7 kr rfl kr (does_call (f := 14) (args := #[.agg #[.int .i64 vt43.X, .int .i64 vt43.Y, .int .i64 vt43.Z], .int .i64 1]) kr (spykeep3_QueryExact_1.calls k vt43 1 HS135 vt50 hc51) ?_)
         rintro _ W139 ⟨f137, rfl, L138, HS140⟩
         refine ⟨_, rfl, ?_⟩
         refine ⟨(Sg.g1 (Sx.of [[(b133, .cells #[.int .i64 0, .int .i64 0, .bool false, .int .i64 0, .int .i64 0, .bool false, .int .i64 0, .int .i64 0, .bool false] 31 (0, 0))], [(b115, .cells #[.int .i64 0, .int .i64 0, .bool false, .int .i64 0, .int .i64 0, .bool false, .int .i64 0, .int .i64 0, .bool false] 31 (0, 0))], [(b11, .cells #[.slice A2 l1.length c3, .int .i64 vt44] 26 (0, 0))]] (L77.trans (L81.trans L138)) HS140) (fun hl_ => Bool.noConfusion (show true = false from hl_))), ?_⟩
         have HS141 := HS140.u1
         refine takeGE 10 kr rfl kr (does_storeA (vs := [.int .i64 vt37.X.Lo, .int .i64 vt37.X.Hi, .bool vt37.X.Unknown, .int .i64 vt37.Y.Lo, .int .i64 vt37.Y.Hi, .bool vt37.Y.Unknown, .int .i64 vt37.Z.Lo, .int .i64 vt37.Z.Hi, .bool vt37.Z.Unknown]) rfl kr kr kr rfl (ones rfl) HS141 kr ?_)
         intro W142 HS143
         refine ⟨(Sg.g1 (Sx.of [[(b115, .cells #[.int .i64 vt37.X.Lo, .int .i64 vt37.X.Hi, .bool vt37.X.Unknown, .int .i64 vt37.Y.Lo, .int .i64 vt37.Y.Hi, .bool vt37.Y.Unknown, .int .i64 vt37.Z.Lo, .int .i64 vt37.Z.Hi, .bool vt37.Z.Unknown] 31 (0, 0))], [(b133, .cells #[.int .i64 0, .int .i64 0, .bool false, .int .i64 0, .int .i64 0, .bool false, .int .i64 0, .int .i64 0, .bool false] 31 (0, 0))], [(b11, .cells #[.slice A2 l1.length c3, .int .i64 vt44] 26 (0, 0))]] (L77.trans (L81.trans L138)) HS143) (fun hl_ => Bool.noConfusion (show true = false from hl_))), ?_⟩
         have HS144 := HS143.u1
         refine takeGE 11 kr rfl kr (does_storeA (vs := [.int .i64 vt50.X.Lo, .int .i64 vt50.X.Hi, .bool vt50.X.Unknown, .int .i64 vt50.Y.Lo, .int .i64 vt50.Y.Hi, .bool vt50.Y.Unknown, .int .i64 vt50.Z.Lo, .int .i64 vt50.Z.Hi, .bool vt50.Z.Unknown]) rfl kr kr kr rfl (ones rfl) HS144 kr ?_)
         intro W145 HS146
         refine ⟨(Sg.g1 (Sx.of [[(b133, .cells #[.int .i64 vt50.X.Lo, .int .i64 vt50.X.Hi, .bool vt50.X.Unknown, .int .i64 vt50.Y.Lo, .int .i64 vt50.Y.Hi, .bool vt50.Y.Unknown, .int .i64 vt50.Z.Lo, .int .i64 vt50.Z.Hi, .bool vt50.Z.Unknown] 31 (0, 0))], [(b115, .cells #[.int .i64 vt37.X.Lo, .int .i64 vt37.X.Hi, .bool vt37.X.Unknown, .int .i64 vt37.Y.Lo, .int .i64 vt37.Y.Hi, .bool vt37.Y.Unknown, .int .i64 vt37.Z.Lo, .int .i64 vt37.Z.Hi, .bool vt37.Z.Unknown] 31 (0, 0))], [(b11, .cells #[.slice A2 l1.length c3, .int .i64 vt44] 26 (0, 0))]] (L77.trans (L81.trans L138)) HS146) (fun hl_ => Bool.noConfusion (show true = false from hl_))), ?_⟩
         refine hR72 _ _ ?_
         exact J73 f76 f80 f137 b115 b133 W145 _ L77 L81 L138 HS146 kr
     · refine does_alloc (z := Value.agg #[.int .i64 0, .int .i64 0, .bool false, .int .i64 0, .int .i64 0, .bool false, .int .i64 0, .int .i64 0, .bool false]) (cs := #[.int .i64 0, .int .i64 0, .bool false, .int .i64 0, .int .i64 0, .bool false, .int .i64 0, .int .i64 0, .bool false]) rfl kr rfl HS83 ?_
       intro b147 W148 HS149
       refine ⟨(Sg.g1 (Sx.of [[(b147, .cells #[.int .i64 0, .int .i64 0, .bool false, .int .i64 0, .int .i64 0, .bool false, .int .i64 0, .int .i64 0, .bool false] 31 (0, 0))], [(b11, .cells #[.slice A2 l1.length c3, .int .i64 vt44] 26 (0, 0))]] (L77.trans L81) HS149) (fun hl_ => Bool.noConfusion (show true = false from hl_))), ?_⟩
       refine takeEither 7 8 kr rfl rfl rfl rfl ?_ ?_
       · refine does_call (f := 14) (args := #[.agg #[.int .i64 vt43.X, .int .i64 vt43.Y, .int .i64 vt43.Z], .int .i64 1]) kr (spykeep3_QueryExact_1.calls k vt43 1 HS149 vt50 hc51) ?_
         rintro _ W153 ⟨f151, rfl, L152, HS154⟩
         refine ⟨_, rfl, ?_⟩
         refine ⟨(Sg.g1 (Sx.of [[(b147, .cells #[.int .i64 0, .int .i64 0, .bool false, .int .i64 0, .int .i64 0, .bool false, .int .i64 0, .int .i64 0, .bool false] 31 (0, 0))], [(b11, .cells #[.slice A2 l1.length c3, .int .i64 vt44] 26 (0, 0))]] (L77.trans (L81.trans L152)) HS154) (fun hl_ => Bool.noConfusion (show true = false from hl_))), ?_⟩
         refine takeGE 8 kr rfl kr (does_alloc (z := Value.agg #[.int .i64 0, .int .i64 0, .bool false, .int .i64 0, .int .i64 0, .bool false, .int .i64 0, .int .i64 0, .bool false]) (cs := #[.int .i64 0, .int .i64 0, .bool false, .int .i64 0, .int .i64 0, .bool false, .int .i64 0, .int .i64 0, .bool false]) rfl kr rfl HS154 ?_)
         intro b155 W156 HS157
         refine ⟨(Sg.g1 (Sx.of [[(b155, .cells #[.int .i64 0, .int .i64 0, .bool false, .int .i64 0, .int .i64 0, .bool false, .int .i64 0, .int .i64 0, .bool false] 31 (0, 0))], [(b147, .cells #[.int .i64 0, .int .i64 0, .bool false, .int .i64 0, .int .i64 0, .bool false, .int .i64 0, .int .i64 0, .bool false] 31 (0, 0))], [(b11, .cells #[.slice A2 l1.length c3, .int .i64 vt44] 26 (0, 0))]] (L77.trans (L81.trans L152)) HS157) (fun hl_ => Bool.noConfusion (show true = false from hl_))), ?_⟩
         refine takeGE 10 kr rfl kr (does_storeA (vs := [.int .i64 vt37.X.Lo, .int .i64 vt37.X.Hi, .bool vt37.X.Unknown, .int .i64 vt37.Y.Lo, .int .i64 vt37.Y.Hi, .bool vt37.Y.Unknown, .int .i64 vt37.Z.Lo, .int .i64 vt37.Z.Hi, .bool vt37.Z.Unknown]) rfl kr kr kr rfl (ones rfl) HS157 kr ?_)
         intro W159 HS160
         refine ⟨(Sg.g1 (Sx.of [[(b155, .cells #[.int .i64 vt37.X.Lo, .int .i64 vt37.X.Hi, .bool vt37.X.Unknown, .int .i64 vt37.Y.Lo, .int .i64 vt37.Y.Hi, .bool vt37.Y.Unknown, .int .i64 vt37.Z.Lo, .int .i64 vt37.Z.Hi, .bool vt37.Z.Unknown] 31 (0, 0))], [(b147, .cells #[.int .i64 0, .int .i64 0, .bool false, .int .i64 0, .int .i64 0, .bool false, .int .i64 0, .int .i64 0, .bool false] 31 (0, 0))], [(b11, .cells #[.slice A2 l1.length c3, .int .i64 vt44] 26 (0, 0))]] (L77.trans (L81.trans L152)) HS160) (fun hl_ => Bool.noConfusion (show true = false from hl_))), ?_⟩
         have HS161 := HS160.u1
         refine takeGE 11 kr rfl kr (does_storeA (vs := [.int .i64 vt50.X.Lo, .int .i64 vt50.X.Hi, .bool vt50.X.Unknown, .int .i64 vt50.Y.Lo, .int .i64 vt50.Y.Hi, .bool vt50.Y.Unknown, .int .i64 vt50.Z.Lo, .int .i64 vt50.Z.Hi, .bool vt50.Z.Unknown]) rfl kr kr kr rfl (ones rfl) HS161 kr ?_)
         intro W162 HS163
         refine ⟨(Sg.g1 (Sx.of [[(b147, .cells #[.int .i64 vt50.X.Lo, .int .i64 vt50.X.Hi, .bool vt50.X.Unknown, .int .i64 vt50.Y.Lo, .int .i64 vt50.Y.Hi, .bool vt50.Y.Unknown, .int .i64 vt50.Z.Lo, .int .i64 vt50.Z.Hi, .bool vt50.Z.Unknown] 31 (0, 0))], [(b155, .cells #[.int .i64 vt37.X.Lo, .int .i64 vt37.X.Hi, .bool vt37.X.Unknown, .int .i64 vt37.Y.Lo, .int .i64 vt37.Y.Hi, .bool vt37.Y.Unknown, .int .i64 vt37.Z.Lo, .int .i64 vt37.Z.Hi, .bool vt37.Z.Unknown] 31 (0, 0))], [(b11, .cells #[.slice A2 l1.length c3, .int .i64 vt44] 26 (0, 0))]] (L77.trans (L81.trans L152)) HS163) (fun hl_ => Bool.noConfusion (show true = false from hl_))), ?_⟩
         refine hR72 _ _ ?_
         exact J73 f76 f80 f151 b155 b147 W162 _ L77 L81 L152 HS163 kr
       · refine does_alloc (z := Value.agg #[.int .i64 0, .int .i64 0, .bool false, .int .i64 0, .int .i64 0, .bool false, .int .i64 0, .int .i64 0, .bool false]) (cs := #[.int .i64 0, .int .i64 0, .bool false, .int .i64 0, .int .i64 0, .bool false, .int .i64 0, .int .i64 0, .bool false]) rfl kr rfl HS149 ?_
         intro b164 W165 HS166
         refine ⟨(Sg.g1 (Sx.of [[(b164, .cells #[.int .i64 0, .int .i64 0, .bool false, .int .i64 0, .int .i64 0, .bool false, .int .i64 0, .int .i64 0, .bool false] 31 (0, 0))], [(b147, .cells #[.int .i64 0, .int .i64 0, .bool false, .int .i64 0, .int .i64 0, .bool false, .int .i64 0, .int .i64 0, .bool false] 31 (0, 0))], [(b11, .cells #[.slice A2 l1.length c3, .int .i64 vt44] 26 (0, 0))]] (L77.trans L81) HS166) (fun hl_ => Bool.noConfusion (show true = false from hl_))), ?_⟩
         refine takeGE 7 kr rfl kr (does_call (f := 14) (args := #[.agg #[.int .i64 vt43.X, .int .i64 vt43.Y, .int .i64 vt43.Z], .int .i64 1]) kr (spykeep3_QueryExact_1.calls k vt43 1 HS166 vt50 hc51) ?_)
         rintro _ W170 ⟨f168, rfl, L169, HS171⟩
         refine ⟨_, rfl, ?_⟩
         refine ⟨(Sg.g1 (Sx.of [[(b164, .cells #[.int .i64 0, .int .i64 0, .bool false, .int .i64 0, .int .i64 0, .bool false, .int .i64 0, .int .i64 0, .bool false] 31 (0, 0))], [(b147, .cells #[.int .i64 0, .int .i64 0, .bool false, .int .i64 0, .int .i64 0, .bool false, .int .i64 0, .int .i64 0, .bool false] 31 (0, 0))], [(b11, .cells #[.slice A2 l1.length c3, .int .i64 vt44] 26 (0, 0))]] (L77.trans (L81.trans L169)) HS171) (fun hl_ => Bool.noConfusion (show true = false from hl_))), ?_⟩
         refine takeGE 10 kr rfl kr (does_storeA (vs := [.int .i64 vt37.X.Lo, .int .i64 vt37.X.Hi, .bool vt37.X.Unknown, .int .i64 vt37.Y.Lo, .int .i64 vt37.Y.Hi, .bool vt37.Y.Unknown, .int .i64 vt37.Z.Lo, .int .i64 vt37.Z.Hi, .bool vt37.Z.Unknown]) rfl kr kr kr rfl (ones rfl) HS171 kr ?_)
         intro W172 HS173
         refine ⟨(Sg.g1 (Sx.of [[(b164, .cells #[.int .i64 vt37.X.Lo, .int .i64 vt37.X.Hi, .bool vt37.X.Unknown, .int .i64 vt37.Y.Lo, .int .i64 vt37.Y.Hi, .bool vt37.Y.Unknown, .int .i64 vt37.Z.Lo, .int .i64 vt37.Z.Hi, .bool vt37.Z.Unknown] 31 (0, 0))], [(b147, .cells #[.int .i64 0, .int .i64 0, .bool false, .int .i64 0, .int .i64 0, .bool false, .int .i64 0, .int .i64 0, .bool false] 31 (0, 0))], [(b11, .cells #[.slice A2 l1.length c3, .int .i64 vt44] 26 (0, 0))]] (L77.trans (L81.trans L169)) HS173) (fun hl_ => Bool.noConfusion (show true = false from hl_))), ?_⟩
         have HS174 := HS173.u1
         refine takeGE 11 kr rfl kr (does_storeA (vs := [.int .i64 vt50.X.Lo, .int .i64 vt50.X.Hi, .bool vt50.X.Unknown, .int .i64 vt50.Y.Lo, .int .i64 vt50.Y.Hi, .bool vt50.Y.Unknown, .int .i64 vt50.Z.Lo, .int .i64 vt50.Z.Hi, .bool vt50.Z.Unknown]) rfl kr kr kr rfl (ones rfl) HS174 kr ?_)
         intro W175 HS176
         refine ⟨(Sg.g1 (Sx.of [[(b147, .cells #[.int .i64 vt50.X.Lo, .int .i64 vt50.X.Hi, .bool vt50.X.Unknown, .int .i64 vt50.Y.Lo, .int .i64 vt50.Y.Hi, .bool vt50.Y.Unknown, .int .i64 vt50.Z.Lo, .int .i64 vt50.Z.Hi, .bool vt50.Z.Unknown] 31 (0, 0))], [(b164, .cells #[.int .i64 vt37.X.Lo, .int .i64 vt37.X.Hi, .bool vt37.X.Unknown, .int .i64 vt37.Y.Lo, .int .i64 vt37.Y.Hi, .bool vt37.Y.Unknown, .int .i64 vt37.Z.Lo, .int .i64 vt37.Z.Hi, .bool vt37.Z.Unknown] 31 (0, 0))], [(b11, .cells #[.slice A2 l1.length c3, .int .i64 vt44] 26 (0, 0))]] (L77.trans (L81.trans L169)) HS176) (fun hl_ => Bool.noConfusion (show true = false from hl_))), ?_⟩
         refine hR72 _ _ ?_
         exact J73 f76 f80 f168 b164 b147 W175 _ L77 L81 L169 HS176 kr
   · refine does_alloc (z := Value.agg #[.int .i64 0, .int .i64 0, .bool false, .int .i64 0, .int .i64 0, .bool false, .int .i64 0, .int .i64 0, .bool false]) (cs := #[.int .i64 0, .int .i64 0, .bool false, .int .i64 0, .int .i64 0, .bool false, .int .i64 0, .int .i64 0, .bool false]) rfl kr rfl HS79 ?_
     intro b177 W178 HS179
     refine ⟨(Sg.g1 (Sx.of [[(b177, .cells #[.int .i64 0, .int .i64 0, .bool false, .int .i64 0, .int .i64 0, .bool false, .int .i64 0, .int .i64 0, .bool false] 31 (0, 0))], [(b11, .cells #[.slice A2 l1.length c3, .int .i64 vt18] 26 (0, 0))]] L77 HS179) (fun _ => St.only [[(b177, .cells #[.int .i64 0, .int .i64 0, .bool false, .int .i64 0, .int .i64 0, .bool false, .int .i64 0, .int .i64 0, .bool false] 31 (0, 0))]] HS179 L77)), ?_⟩
     refine takeEither 6 9 kr rfl rfl rfl rfl ?_ ?_
     · have HS181 := HS179.u1
       refine does_call (f := 16) (args := #[.pointer (some ⟨b11, 0, none⟩), .agg #[.int .i64 vt17.X, .int .i64 vt17.Y, .int .i64 vt17.Z]]) kr (spymake_Stream_Near.calls k b11 A2 c3 (⟨l1, vt18⟩ : S_Stream) vt17 HS181 (HR4.mono (L21.trans L77)) vt43 vt44 hc45) ?_
       rintro _ W184 ⟨f182, rfl, L183, HS185⟩
       refine ⟨_, rfl, ?_⟩
       refine ⟨(Sg.g1 (Sx.of [[(b11, .cells #[.slice A2 l1.length c3, .int .i64 vt44] 26 (0, 0))], [(b177, .cells #[.int .i64 0, .int .i64 0, .bool false, .int .i64 0, .int .i64 0, .bool false, .int .i64 0, .int .i64 0, .bool false] 31 (0, 0))]] (L77.trans L183) HS185) (fun hl_ => Bool.noConfusion (show true = false from hl_))), ?_⟩
       refine takeEither 7 9 kr rfl rfl rfl rfl ?_ ?_
       · refine does_call (f := 14) (args := #[.agg #[.int .i64 vt43.X, .int .i64 vt43.Y, .int .i64 vt43.Z], .int .i64 1]) kr (spykeep3_QueryExact_1.calls k vt43 1 HS185 vt50 hc51) ?_
         rintro _ W188 ⟨f186, rfl, L187, HS189⟩
         refine ⟨_, rfl, ?_⟩
         refine ⟨(Sg.g1 (Sx.of [[(b11, .cells #[.slice A2 l1.length c3, .int .i64 vt44] 26 (0, 0))], [(b177, .cells #[.int .i64 0, .int .i64 0, .bool false, .int .i64 0, .int .i64 0, .bool false, .int .i64 0, .int .i64 0, .bool false] 31 (0, 0))]] (L77.trans (L183.trans L187)) HS189) (fun hl_ => Bool.noConfusion (show true = false from hl_))), ?_⟩
         refine takeGE 9 kr rfl kr (does_alloc (z := Value.agg #[.int .i64 0, .int .i64 0, .bool false, .int .i64 0, .int .i64 0, .bool false, .int .i64 0, .int .i64 0, .bool false]) (cs := #[.int .i64 0, .int .i64 0, .bool false, .int .i64 0, .int .i64 0, .bool false, .int .i64 0, .int .i64 0, .bool false]) rfl kr rfl HS189 ?_)
         intro b190 W191 HS192
         refine ⟨(Sg.g1 (Sx.of [[(b190, .cells #[.int .i64 0, .int .i64 0, .bool false, .int .i64 0, .int .i64 0, .bool false, .int .i64 0, .int .i64 0, .bool false] 31 (0, 0))], [(b11, .cells #[.slice A2 l1.length c3, .int .i64 vt44] 26 (0, 0))], [(b177, .cells #[.int .i64 0, .int .i64 0, .bool false, .int .i64 0, .int .i64 0, .bool false, .int .i64 0, .int .i64 0, .bool false] 31 (0, 0))]] (L77.trans (L183.trans L187)) HS192) (fun hl_ => Bool.noConfusion (show true = false from hl_))), ?_⟩
         have HS194 := HS192.u2
         refine takeGE 10 kr rfl kr (does_storeA (vs := [.int .i64 vt37.X.Lo, .int .i64 vt37.X.Hi, .bool vt37.X.Unknown, .int .i64 vt37.Y.Lo, .int .i64 vt37.Y.Hi, .bool vt37.Y.Unknown, .int .i64 vt37.Z.Lo, .int .i64 vt37.Z.Hi, .bool vt37.Z.Unknown]) rfl kr kr kr rfl (ones rfl) HS194 kr ?_)
         intro W195 HS196
         refine ⟨(Sg.g1 (Sx.of [[(b177, .cells #[.int .i64 vt37.X.Lo, .int .i64 vt37.X.Hi, .bool vt37.X.Unknown, .int .i64 vt37.Y.Lo, .int .i64 vt37.Y.Hi, .bool vt37.Y.Unknown, .int .i64 vt37.Z.Lo, .int .i64 vt37.Z.Hi, .bool vt37.Z.Unknown] 31 (0, 0))], [(b190, .cells #[.int .i64 0, .int .i64 0, .bool false, .int .i64 0, .int .i64 0, .bool false, .int .i64 0, .int .i64 0, .bool false] 31 (0, 0))], [(b11, .cells #[.slice A2 l1.length c3, .int .i64 vt44] 26 (0, 0))]] (L77.trans (L183.trans L187)) HS196) (fun hl_ => Bool.noConfusion (show true = false from hl_))), ?_⟩
         have HS197 := HS196.u1
         refine takeGE 11 kr rfl kr (does_storeA (vs := [.int .i64 vt50.X.Lo, .int .i64 vt50.X.Hi, .bool vt50.X.Unknown, .int .i64 vt50.Y.Lo, .int .i64 vt50.Y.Hi, .bool vt50.Y.Unknown, .int .i64 vt50.Z.Lo, .int .i64 vt50.Z.Hi, .bool vt50.Z.Unknown]) rfl kr kr kr rfl (ones rfl) HS197 kr ?_)
         intro W198 HS199
         refine ⟨(Sg.g1 (Sx.of [[(b190, .cells #[.int .i64 vt50.X.Lo, .int .i64 vt50.X.Hi, .bool vt50.X.Unknown, .int .i64 vt50.Y.Lo, .int .i64 vt50.Y.Hi, .bool vt50.Y.Unknown, .int .i64 vt50.Z.Lo, .int .i64 vt50.Z.Hi, .bool vt50.Z.Unknown] 31 (0, 0))], [(b177, .cells #[.int .i64 vt37.X.Lo, .int .i64 vt37.X.Hi, .bool vt37.X.Unknown, .int .i64 vt37.Y.Lo, .int .i64 vt37.Y.Hi, .bool vt37.Y.Unknown, .int .i64 vt37.Z.Lo, .int .i64 vt37.Z.Hi, .bool vt37.Z.Unknown] 31 (0, 0))], [(b11, .cells #[.slice A2 l1.length c3, .int .i64 vt44] 26 (0, 0))]] (L77.trans (L183.trans L187)) HS199) (fun hl_ => Bool.noConfusion (show true = false from hl_))), ?_⟩
         refine hR72 _ _ ?_
         exact J73 f76 f182 f186 b177 b190 W198 _ L77 L183 L187 HS199 kr
       · refine does_alloc (z := Value.agg #[.int .i64 0, .int .i64 0, .bool false, .int .i64 0, .int .i64 0, .bool false, .int .i64 0, .int .i64 0, .bool false]) (cs := #[.int .i64 0, .int .i64 0, .bool false, .int .i64 0, .int .i64 0, .bool false, .int .i64 0, .int .i64 0, .bool false]) rfl kr rfl HS185 ?_
         intro b200 W201 HS202
         refine ⟨(Sg.g1 (Sx.of [[(b200, .cells #[.int .i64 0, .int .i64 0, .bool false, .int .i64 0, .int .i64 0, .bool false, .int .i64 0, .int .i64 0, .bool false] 31 (0, 0))], [(b11, .cells #[.slice A2 l1.length c3, .int .i64 vt44] 26 (0, 0))], [(b177, .cells #[.int .i64 0, .int .i64 0, .bool false, .int .i64 0, .int .i64 0, .bool false, .int .i64 0, .int .i64 0, .bool false] 31 (0, 0))]] (L77.trans L183) HS202) (fun hl_ => Bool.noConfusion (show true = false from hl_))), ?_⟩
         refine takeGE 7 kr rfl kr (does_call (f := 14) (args := #[.agg #[.int .i64 vt43.X, .int .i64 vt43.Y, .int .i64 vt43.Z], .int .i64 1]) kr (spykeep3_QueryExact_1.calls k vt43 1 HS202 vt50 hc51) ?_)
         rintro _ W206 ⟨f204, rfl, L205, HS207⟩
         refine ⟨_, rfl, ?_⟩
         refine ⟨(Sg.g1 (Sx.of [[(b200, .cells #[.int .i64 0, .int .i64 0, .bool false, .int .i64 0, .int .i64 0, .bool false, .int .i64 0, .int .i64 0, .bool false] 31 (0, 0))], [(b11, .cells #[.slice A2 l1.length c3, .int .i64 vt44] 26 (0, 0))], [(b177, .cells #[.int .i64 0, .int .i64 0, .bool false, .int .i64 0, .int .i64 0, .bool false, .int .i64 0, .int .i64 0, .bool false] 31 (0, 0))]] (L77.trans (L183.trans L205)) HS207) (fun hl_ => Bool.noConfusion (show true = false from hl_))), ?_⟩
         have HS208 := HS207.u2
         refine takeGE 10 kr rfl kr (does_storeA (vs := [.int .i64 vt37.X.Lo, .int .i64 vt37.X.Hi, .bool vt37.X.Unknown, .int .i64 vt37.Y.Lo, .int .i64 vt37.Y.Hi, .bool vt37.Y.Unknown, .int .i64 vt37.Z.Lo, .int .i64 vt37.Z.Hi, .bool vt37.Z.Unknown]) rfl kr kr kr rfl (ones rfl) HS208 kr ?_)
         intro W209 HS210
         refine ⟨(Sg.g1 (Sx.of [[(b177, .cells #[.int .i64 vt37.X.Lo, .int .i64 vt37.X.Hi, .bool vt37.X.Unknown, .int .i64 vt37.Y.Lo, .int .i64 vt37.Y.Hi, .bool vt37.Y.Unknown, .int .i64 vt37.Z.Lo, .int .i64 vt37.Z.Hi, .bool vt37.Z.Unknown] 31 (0, 0))], [(b200, .cells #[.int .i64 0, .int .i64 0, .bool false, .int .i64 0, .int .i64 0, .bool false, .int .i64 0, .int .i64 0, .bool false] 31 (0, 0))], [(b11, .cells #[.slice A2 l1.length c3, .int .i64 vt44] 26 (0, 0))]] (L77.trans (L183.trans L205)) HS210) (fun hl_ => Bool.noConfusion (show true = false from hl_))), ?_⟩
         have HS211 := HS210.u1
         refine takeGE 11 kr rfl kr (does_storeA (vs := [.int .i64 vt50.X.Lo, .int .i64 vt50.X.Hi, .bool vt50.X.Unknown, .int .i64 vt50.Y.Lo, .int .i64 vt50.Y.Hi, .bool vt50.Y.Unknown, .int .i64 vt50.Z.Lo, .int .i64 vt50.Z.Hi, .bool vt50.Z.Unknown]) rfl kr kr kr rfl (ones rfl) HS211 kr ?_)
         intro W212 HS213
         refine ⟨(Sg.g1 (Sx.of [[(b200, .cells #[.int .i64 vt50.X.Lo, .int .i64 vt50.X.Hi, .bool vt50.X.Unknown, .int .i64 vt50.Y.Lo, .int .i64 vt50.Y.Hi, .bool vt50.Y.Unknown, .int .i64 vt50.Z.Lo, .int .i64 vt50.Z.Hi, .bool vt50.Z.Unknown] 31 (0, 0))], [(b177, .cells #[.int .i64 vt37.X.Lo, .int .i64 vt37.X.Hi, .bool vt37.X.Unknown, .int .i64 vt37.Y.Lo, .int .i64 vt37.Y.Hi, .bool vt37.Y.Unknown, .int .i64 vt37.Z.Lo, .int .i64 vt37.Z.Hi, .bool vt37.Z.Unknown] 31 (0, 0))], [(b11, .cells #[.slice A2 l1.length c3, .int .i64 vt44] 26 (0, 0))]] (L77.trans (L183.trans L205)) HS213) (fun hl_ => Bool.noConfusion (show true = false from hl_))), ?_⟩
         refine hR72 _ _ ?_
         exact J73 f76 f182 f204 b177 b200 W212 _ L77 L183 L205 HS213 kr
     · refine does_alloc (z := Value.agg #[.int .i64 0, .int .i64 0, .bool false, .int .i64 0, .int .i64 0, .bool false, .int .i64 0, .int .i64 0, .bool false]) (cs := #[.int .i64 0, .int .i64 0, .bool false, .int .i64 0, .int .i64 0, .bool false, .int .i64 0, .int .i64 0, .bool false]) rfl kr rfl HS179 ?_
       intro b214 W215 HS216
       refine ⟨(Sg.g1 (Sx.of [[(b214, .cells #[.int .i64 0, .int .i64 0, .bool false, .int .i64 0, .int .i64 0, .bool false, .int .i64 0, .int .i64 0, .bool false] 31 (0, 0))], [(b177, .cells #[.int .i64 0, .int .i64 0, .bool false, .int .i64 0, .int .i64 0, .bool false, .int .i64 0, .int .i64 0, .bool false] 31 (0, 0))], [(b11, .cells #[.slice A2 l1.length c3, .int .i64 vt18] 26 (0, 0))]] L77 HS216) (fun _ => St.only [[(b214, .cells #[.int .i64 0, .int .i64 0, .bool false, .int .i64 0, .int .i64 0, .bool false, .int .i64 0, .int .i64 0, .bool false] 31 (0, 0))], [(b177, .cells #[.int .i64 0, .int .i64 0, .bool false, .int .i64 0, .int .i64 0, .bool false, .int .i64 0, .int .i64 0, .bool false] 31 (0, 0))]] HS216 L77)), ?_⟩
       have HS218 := HS216.u2
       refine takeGE 6 kr rfl kr (does_call (f := 16) (args := #[.pointer (some ⟨b11, 0, none⟩), .agg #[.int .i64 vt17.X, .int .i64 vt17.Y, .int .i64 vt17.Z]]) kr (spymake_Stream_Near.calls k b11 A2 c3 (⟨l1, vt18⟩ : S_Stream) vt17 HS218 (HR4.mono (L21.trans L77)) vt43 vt44 hc45) ?_)
       rintro _ W221 ⟨f219, rfl, L220, HS222⟩
       refine ⟨_, rfl, ?_⟩
       refine ⟨(Sg.g1 (Sx.of [[(b11, .cells #[.slice A2 l1.length c3, .int .i64 vt44] 26 (0, 0))], [(b214, .cells #[.int .i64 0, .int .i64 0, .bool false, .int .i64 0, .int .i64 0, .bool false, .int .i64 0, .int .i64 0, .bool false] 31 (0, 0))], [(b177, .cells #[.int .i64 0, .int .i64 0, .bool false, .int .i64 0, .int .i64 0, .bool false, .int .i64 0, .int .i64 0, .bool false] 31 (0, 0))]] (L77.trans L220) HS222) (fun hl_ => Bool.noConfusion (show true = false from hl_))), ?_⟩
       refine takeGE 7 kr rfl kr (does_call (f := 14) (args := #[.agg #[.int .i64 vt43.X, .int .i64 vt43.Y, .int .i64 vt43.Z], .int .i64 1]) kr (spykeep3_QueryExact_1.calls k vt43 1 HS222 vt50 hc51) ?_)
       rintro _ W225 ⟨f223, rfl, L224, HS226⟩
       refine ⟨_, rfl, ?_⟩
       refine ⟨(Sg.g1 (Sx.of [[(b11, .cells #[.slice A2 l1.length c3, .int .i64 vt44] 26 (0, 0))], [(b214, .cells #[.int .i64 0, .int .i64 0, .bool false, .int .i64 0, .int .i64 0, .bool false, .int .i64 0, .int .i64 0, .bool false] 31 (0, 0))], [(b177, .cells #[.int .i64 0, .int .i64 0, .bool false, .int .i64 0, .int .i64 0, .bool false, .int .i64 0, .int .i64 0, .bool false] 31 (0, 0))]] (L77.trans (L220.trans L224)) HS226) (fun hl_ => Bool.noConfusion (show true = false from hl_))), ?_⟩
       have HS227 := HS226.u2
       refine takeGE 10 kr rfl kr (does_storeA (vs := [.int .i64 vt37.X.Lo, .int .i64 vt37.X.Hi, .bool vt37.X.Unknown, .int .i64 vt37.Y.Lo, .int .i64 vt37.Y.Hi, .bool vt37.Y.Unknown, .int .i64 vt37.Z.Lo, .int .i64 vt37.Z.Hi, .bool vt37.Z.Unknown]) rfl kr kr kr rfl (ones rfl) HS227 kr ?_)
       intro W228 HS229
       refine ⟨(Sg.g1 (Sx.of [[(b177, .cells #[.int .i64 vt37.X.Lo, .int .i64 vt37.X.Hi, .bool vt37.X.Unknown, .int .i64 vt37.Y.Lo, .int .i64 vt37.Y.Hi, .bool vt37.Y.Unknown, .int .i64 vt37.Z.Lo, .int .i64 vt37.Z.Hi, .bool vt37.Z.Unknown] 31 (0, 0))], [(b11, .cells #[.slice A2 l1.length c3, .int .i64 vt44] 26 (0, 0))], [(b214, .cells #[.int .i64 0, .int .i64 0, .bool false, .int .i64 0, .int .i64 0, .bool false, .int .i64 0, .int .i64 0, .bool false] 31 (0, 0))]] (L77.trans (L220.trans L224)) HS229) (fun hl_ => Bool.noConfusion (show true = false from hl_))), ?_⟩
       have HS230 := HS229.u2
       refine takeGE 11 kr rfl kr (does_storeA (vs := [.int .i64 vt50.X.Lo, .int .i64 vt50.X.Hi, .bool vt50.X.Unknown, .int .i64 vt50.Y.Lo, .int .i64 vt50.Y.Hi, .bool vt50.Y.Unknown, .int .i64 vt50.Z.Lo, .int .i64 vt50.Z.Hi, .bool vt50.Z.Unknown]) rfl kr kr kr rfl (ones rfl) HS230 kr ?_)
       intro W231 HS232
       refine ⟨(Sg.g1 (Sx.of [[(b214, .cells #[.int .i64 vt50.X.Lo, .int .i64 vt50.X.Hi, .bool vt50.X.Unknown, .int .i64 vt50.Y.Lo, .int .i64 vt50.Y.Hi, .bool vt50.Y.Unknown, .int .i64 vt50.Z.Lo, .int .i64 vt50.Z.Hi, .bool vt50.Z.Unknown] 31 (0, 0))], [(b177, .cells #[.int .i64 vt37.X.Lo, .int .i64 vt37.X.Hi, .bool vt37.X.Unknown, .int .i64 vt37.Y.Lo, .int .i64 vt37.Y.Hi, .bool vt37.Y.Unknown, .int .i64 vt37.Z.Lo, .int .i64 vt37.Z.Hi, .bool vt37.Z.Unknown] 31 (0, 0))], [(b11, .cells #[.slice A2 l1.length c3, .int .i64 vt44] 26 (0, 0))]] (L77.trans (L220.trans L224)) HS232) (fun hl_ => Bool.noConfusion (show true = false from hl_))), ?_⟩
       refine hR72 _ _ ?_
       exact J73 f76 f219 f223 b177 b214 W231 _ L77 L220 L224 HS232 kr
   · refine does_alloc (z := Value.agg #[.int .i64 0, .int .i64 0, .bool false, .int .i64 0, .int .i64 0, .bool false, .int .i64 0, .int .i64 0, .bool false]) (cs := #[.int .i64 0, .int .i64 0, .bool false, .int .i64 0, .int .i64 0, .bool false, .int .i64 0, .int .i64 0, .bool false]) rfl kr rfl HS79 ?_
     intro b233 W234 HS235
     refine ⟨(Sg.g1 (Sx.of [[(b233, .cells #[.int .i64 0, .int .i64 0, .bool false, .int .i64 0, .int .i64 0, .bool false, .int .i64 0, .int .i64 0, .bool false] 31 (0, 0))], [(b11, .cells #[.slice A2 l1.length c3, .int .i64 vt18] 26 (0, 0))]] L77 HS235) (fun _ => St.only [[(b233, .cells #[.int .i64 0, .int .i64 0, .bool false, .int .i64 0, .int .i64 0, .bool false, .int .i64 0, .int .i64 0, .bool false] 31 (0, 0))]] HS235 L77)), ?_⟩
     refine takeEither 6 8 kr rfl rfl rfl rfl ?_ ?_
     · have HS237 := HS235.u1
       refine does_call (f := 16) (args := #[.pointer (some ⟨b11, 0, none⟩), .agg #[.int .i64 vt17.X, .int .i64 vt17.Y, .int .i64 vt17.Z]]) kr (spymake_Stream_Near.calls k b11 A2 c3 (⟨l1, vt18⟩ : S_Stream) vt17 HS237 (HR4.mono (L21.trans L77)) vt43 vt44 hc45) ?_
       rintro _ W240 ⟨f238, rfl, L239, HS241⟩
       refine ⟨_, rfl, ?_⟩
       refine ⟨(Sg.g1 (Sx.of [[(b11, .cells #[.slice A2 l1.length c3, .int .i64 vt44] 26 (0, 0))], [(b233, .cells #[.int .i64 0, .int .i64 0, .bool false, .int .i64 0, .int .i64 0, .bool false, .int .i64 0, .int .i64 0, .bool false] 31 (0, 0))]] (L77.trans L239) HS241) (fun hl_ => Bool.noConfusion (show true = false from hl_))), ?_⟩
       refine takeEither 7 8 kr rfl rfl rfl rfl ?_ ?_
       · refine does_call (f := 14) (args := #[.agg #[.int .i64 vt43.X, .int .i64 vt43.Y, .int .i64 vt43.Z], .int .i64 1]) kr (spykeep3_QueryExact_1.calls k vt43 1 HS241 vt50 hc51) ?_
         rintro _ W244 ⟨f242, rfl, L243, HS245⟩
         refine ⟨_, rfl, ?_⟩
         refine ⟨(Sg.g1 (Sx.of [[(b11, .cells #[.slice A2 l1.length c3, .int .i64 vt44] 26 (0, 0))], [(b233, .cells #[.int .i64 0, .int .i64 0, .bool false, .int .i64 0, .int .i64 0, .bool false, .int .i64 0, .int .i64 0, .bool false] 31 (0, 0))]] (L77.trans (L239.trans L243)) HS245) (fun hl_ => Bool.noConfusion (show true = false from hl_))), ?_⟩
         refine takeGE 8 kr rfl kr (does_alloc (z := Value.agg #[.int .i64 0, .int .i64 0, .bool false, .int .i64 0, .int .i64 0, .bool false, .int .i64 0, .int .i64 0, .bool false]) (cs := #[.int .i64 0, .int .i64 0, .bool false, .int .i64 0, .int .i64 0, .bool false, .int .i64 0, .int .i64 0, .bool false]) rfl kr rfl HS245 ?_)
         intro b246 W247 HS248
         refine ⟨(Sg.g1 (Sx.of [[(b246, .cells #[.int .i64 0, .int .i64 0, .bool false, .int .i64 0, .int .i64 0, .bool false, .int .i64 0, .int .i64 0, .bool false] 31 (0, 0))], [(b11, .cells #[.slice A2 l1.length c3, .int .i64 vt44] 26 (0, 0))], [(b233, .cells #[.int .i64 0, .int .i64 0, .bool false, .int .i64 0, .int .i64 0, .bool false, .int .i64 0, .int .i64 0, .bool false] 31 (0, 0))]] (L77.trans (L239.trans L243)) HS248) (fun hl_ => Bool.noConfusion (show true = false from hl_))), ?_⟩
         refine takeGE 10 kr rfl kr (does_storeA (vs := [.int .i64 vt37.X.Lo, .int .i64 vt37.X.Hi, .bool vt37.X.Unknown, .int .i64 vt37.Y.Lo, .int .i64 vt37.Y.Hi, .bool vt37.Y.Unknown, .int .i64 vt37.Z.Lo, .int .i64 vt37.Z.Hi, .bool vt37.Z.Unknown]) rfl kr kr kr rfl (ones rfl) HS248 kr ?_)
         intro W250 HS251
         refine ⟨(Sg.g1 (Sx.of [[(b246, .cells #[.int .i64 vt37.X.Lo, .int .i64 vt37.X.Hi, .bool vt37.X.Unknown, .int .i64 vt37.Y.Lo, .int .i64 vt37.Y.Hi, .bool vt37.Y.Unknown, .int .i64 vt37.Z.Lo, .int .i64 vt37.Z.Hi, .bool vt37.Z.Unknown] 31 (0, 0))], [(b11, .cells #[.slice A2 l1.length c3, .int .i64 vt44] 26 (0, 0))], [(b233, .cells #[.int .i64 0, .int .i64 0, .bool false, .int .i64 0, .int .i64 0, .bool false, .int .i64 0, .int .i64 0, .bool false] 31 (0, 0))]] (L77.trans (L239.trans L243)) HS251) (fun hl_ => Bool.noConfusion (show true = false from hl_))), ?_⟩
         have HS252 := HS251.u2
         refine takeGE 11 kr rfl kr (does_storeA (vs := [.int .i64 vt50.X.Lo, .int .i64 vt50.X.Hi, .bool vt50.X.Unknown, .int .i64 vt50.Y.Lo, .int .i64 vt50.Y.Hi, .bool vt50.Y.Unknown, .int .i64 vt50.Z.Lo, .int .i64 vt50.Z.Hi, .bool vt50.Z.Unknown]) rfl kr kr kr rfl (ones rfl) HS252 kr ?_)
         intro W253 HS254
         refine ⟨(Sg.g1 (Sx.of [[(b233, .cells #[.int .i64 vt50.X.Lo, .int .i64 vt50.X.Hi, .bool vt50.X.Unknown, .int .i64 vt50.Y.Lo, .int .i64 vt50.Y.Hi, .bool vt50.Y.Unknown, .int .i64 vt50.Z.Lo, .int .i64 vt50.Z.Hi, .bool vt50.Z.Unknown] 31 (0, 0))], [(b246, .cells #[.int .i64 vt37.X.Lo, .int .i64 vt37.X.Hi, .bool vt37.X.Unknown, .int .i64 vt37.Y.Lo, .int .i64 vt37.Y.Hi, .bool vt37.Y.Unknown, .int .i64 vt37.Z.Lo, .int .i64 vt37.Z.Hi, .bool vt37.Z.Unknown] 31 (0, 0))], [(b11, .cells #[.slice A2 l1.length c3, .int .i64 vt44] 26 (0, 0))]] (L77.trans (L239.trans L243)) HS254) (fun hl_ => Bool.noConfusion (show true = false from hl_))), ?_⟩
         refine hR72 _ _ ?_
         exact J73 f76 f238 f242 b246 b233 W253 _ L77 L239 L243 HS254 kr
       · refine does_alloc (z := Value.agg #[.int .i64 0, .int .i64 0, .bool false, .int .i64 0, .int .i64 0, .bool false, .int .i64 0, .int .i64 0, .bool false]) (cs := #[.int .i64 0, .int .i64 0, .bool false, .int .i64 0, .int .i64 0, .bool false, .int .i64 0, .int .i64 0, .bool false]) rfl kr rfl HS241 ?_
         intro b255 W256 HS257
         refine ⟨(Sg.g1 (Sx.of [[(b255, .cells #[.int .i64 0, .int .i64 0, .bool false, .int .i64 0, .int .i64 0, .bool false, .int .i64 0, .int .i64 0, .bool false] 31 (0, 0))], [(b11, .cells #[.slice A2 l1.length c3, .int .i64 vt44] 26 (0, 0))], [(b233, .cells #[.int .i64 0, .int .i64 0, .bool false, .int .i64 0, .int .i64 0, .bool false, .int .i64 0, .int .i64 0, .bool false] 31 (0, 0))]] (L77.trans L239) HS257) (fun hl_ => Bool.noConfusion (show true = false from hl_))), ?_⟩
         refine takeGE 7 kr rfl kr (does_call (f := 14) (args := #[.agg #[.int .i64 vt43.X, .int .i64 vt43.Y, .int .i64 vt43.Z], .int .i64 1]) kr (spykeep3_QueryExact_1.calls k vt43 1 HS257 vt50 hc51) ?_)
         rintro _ W261 ⟨f259, rfl, L260, HS262⟩
         refine ⟨_, rfl, ?_⟩
         refine ⟨(Sg.g1 (Sx.of [[(b255, .cells #[.int .i64 0, .int .i64 0, .bool false, .int .i64 0, .int .i64 0, .bool false, .int .i64 0, .int .i64 0, .bool false] 31 (0, 0))], [(b11, .cells #[.slice A2 l1.length c3, .int .i64 vt44] 26 (0, 0))], [(b233, .cells #[.int .i64 0, .int .i64 0, .bool false, .int .i64 0, .int .i64 0, .bool false, .int .i64 0, .int .i64 0, .bool false] 31 (0, 0))]] (L77.trans (L239.trans L260)) HS262) (fun hl_ => Bool.noConfusion (show true = false from hl_))), ?_⟩
         refine takeGE 10 kr rfl kr (does_storeA (vs := [.int .i64 vt37.X.Lo, .int .i64 vt37.X.Hi, .bool vt37.X.Unknown, .int .i64 vt37.Y.Lo, .int .i64 vt37.Y.Hi, .bool vt37.Y.Unknown, .int .i64 vt37.Z.Lo, .int .i64 vt37.Z.Hi, .bool vt37.Z.Unknown]) rfl kr kr kr rfl (ones rfl) HS262 kr ?_)
         intro W263 HS264
         refine ⟨(Sg.g1 (Sx.of [[(b255, .cells #[.int .i64 vt37.X.Lo, .int .i64 vt37.X.Hi, .bool vt37.X.Unknown, .int .i64 vt37.Y.Lo, .int .i64 vt37.Y.Hi, .bool vt37.Y.Unknown, .int .i64 vt37.Z.Lo, .int .i64 vt37.Z.Hi, .bool vt37.Z.Unknown] 31 (0, 0))], [(b11, .cells #[.slice A2 l1.length c3, .int .i64 vt44] 26 (0, 0))], [(b233, .cells #[.int .i64 0, .int .i64 0, .bool false, .int .i64 0, .int .i64 0, .bool false, .int .i64 0, .int .i64 0, .bool false] 31 (0, 0))]] (L77.trans (L239.trans L260)) HS264) (fun hl_ => Bool.noConfusion (show true = false from hl_))), ?_⟩
         have HS265 := HS264.u2
         refine takeGE 11 kr rfl kr (does_storeA (vs := [.int .i64 vt50.X.Lo, .int .i64 vt50.X.Hi, .bool vt50.X.Unknown, .int .i64 vt50.Y.Lo, .int .i64 vt50.Y.Hi, .bool vt50.Y.Unknown, .int .i64 vt50.Z.Lo, .int .i64 vt50.Z.Hi, .bool vt50.Z.Unknown]) rfl kr kr kr rfl (ones rfl) HS265 kr ?_)
         intro W266 HS267
         refine ⟨(Sg.g1 (Sx.of [[(b233, .cells #[.int .i64 vt50.X.Lo, .int .i64 vt50.X.Hi, .bool vt50.X.Unknown, .int .i64 vt50.Y.Lo, .int .i64 vt50.Y.Hi, .bool vt50.Y.Unknown, .int .i64 vt50.Z.Lo, .int .i64 vt50.Z.Hi, .bool vt50.Z.Unknown] 31 (0, 0))], [(b255, .cells #[.int .i64 vt37.X.Lo, .int .i64 vt37.X.Hi, .bool vt37.X.Unknown, .int .i64 vt37.Y.Lo, .int .i64 vt37.Y.Hi, .bool vt37.Y.Unknown, .int .i64 vt37.Z.Lo, .int .i64 vt37.Z.Hi, .bool vt37.Z.Unknown] 31 (0, 0))], [(b11, .cells #[.slice A2 l1.length c3, .int .i64 vt44] 26 (0, 0))]] (L77.trans (L239.trans L260)) HS267) (fun hl_ => Bool.noConfusion (show true = false from hl_))), ?_⟩
         refine hR72 _ _ ?_
         exact J73 f76 f238 f259 b255 b233 W266 _ L77 L239 L260 HS267 kr
     · refine does_alloc (z := Value.agg #[.int .i64 0, .int .i64 0, .bool false, .int .i64 0, .int .i64 0, .bool false, .int .i64 0, .int .i64 0, .bool false]) (cs := #[.int .i64 0, .int .i64 0, .bool false, .int .i64 0, .int .i64 0, .bool false, .int .i64 0, .int .i64 0, .bool false]) rfl kr rfl HS235 ?_
       intro b268 W269 HS270
       refine ⟨(Sg.g1 (Sx.of [[(b268, .cells #[.int .i64 0, .int .i64 0, .bool false, .int .i64 0, .int .i64 0, .bool false, .int .i64 0, .int .i64 0, .bool false] 31 (0, 0))], [(b233, .cells #[.int .i64 0, .int .i64 0, .bool false, .int .i64 0, .int .i64 0, .bool false, .int .i64 0, .int .i64 0, .bool false] 31 (0, 0))], [(b11, .cells #[.slice A2 l1.length c3, .int .i64 vt18] 26 (0, 0))]] L77 HS270) (fun _ => St.only [[(b268, .cells #[.int .i64 0, .int .i64 0, .bool false, .int .i64 0, .int .i64 0, .bool false, .int .i64 0, .int .i64 0, .bool false] 31 (0, 0))], [(b233, .cells #[.int .i64 0, .int .i64 0, .bool false, .int .i64 0, .int .i64 0, .bool false, .int .i64 0, .int .i64 0, .bool false] 31 (0, 0))]] HS270 L77)), ?_⟩
       have HS272 := HS270.u2
       refine takeGE 6 kr rfl kr (does_call (f := 16) (args := #[.pointer (some ⟨b11, 0, none⟩), .agg #[.int .i64 vt17.X, .int .i64 vt17.Y, .int .i64 vt17.Z]]) kr (spymake_Stream_Near.calls k b11 A2 c3 (⟨l1, vt18⟩ : S_Stream) vt17 HS272 (HR4.mono (L21.trans L77)) vt43 vt44 hc45) ?_)
       rintro _ W275 ⟨f273, rfl, L274, HS276⟩
       refine ⟨_, rfl, ?_⟩
       refine ⟨(Sg.g1 (Sx.of [[(b11, .cells #[.slice A2 l1.length c3, .int .i64 vt44] 26 (0, 0))], [(b268, .cells #[.int .i64 0, .int .i64 0, .bool false, .int .i64 0, .int .i64 0, .bool false, .int .i64 0, .int .i64 0, .bool false] 31 (0, 0))], [(b233, .cells #[.int .i64 0, .int .i64 0, .bool false, .int .i64 0, .int .i64 0, .bool false, .int .i64 0, .int .i64 0, .bool false] 31 (0, 0))]] (L77.trans L274) HS276) (fun hl_ => Bool.noConfusion (show true = false from hl_))), ?_⟩
       refine takeGE 7 kr rfl kr (does_call (f := 14) (args := #[.agg #[.int .i64 vt43.X, .int .i64 vt43.Y, .int .i64 vt43.Z], .int .i64 1]) kr (spykeep3_QueryExact_1.calls k vt43 1 HS276 vt50 hc51) ?_)
       rintro _ W279 ⟨f277, rfl, L278, HS280⟩
       refine ⟨_, rfl, ?_⟩
       refine ⟨(Sg.g1 (Sx.of [[(b11, .cells #[.slice A2 l1.length c3, .int .i64 vt44] 26 (0, 0))], [(b268, .cells #[.int .i64 0, .int .i64 0, .bool false, .int .i64 0, .int .i64 0, .bool false, .int .i64 0, .int .i64 0, .bool false] 31 (0, 0))], [(b233, .cells #[.int .i64 0, .int .i64 0, .bool false, .int .i64 0, .int .i64 0, .bool false, .int .i64 0, .int .i64 0, .bool false] 31 (0, 0))]] (L77.trans (L274.trans L278)) HS280) (fun hl_ => Bool.noConfusion (show true = false from hl_))), ?_⟩
       have HS281 := HS280.u1
       refine takeGE 10 kr rfl kr (does_storeA (vs := [.int .i64 vt37.X.Lo, .int .i64 vt37.X.Hi, .bool vt37.X.Unknown, .int .i64 vt37.Y.Lo, .int .i64 vt37.Y.Hi, .bool vt37.Y.Unknown, .int .i64 vt37.Z.Lo, .int .i64 vt37.Z.Hi, .bool vt37.Z.Unknown]) rfl kr kr kr rfl (ones rfl) HS281 kr ?_)
       intro W282 HS283
       refine ⟨(Sg.g1 (Sx.of [[(b268, .cells #[.int .i64 vt37.X.Lo, .int .i64 vt37.X.Hi, .bool vt37.X.Unknown, .int .i64 vt37.Y.Lo, .int .i64 vt37.Y.Hi, .bool vt37.Y.Unknown, .int .i64 vt37.Z.Lo, .int .i64 vt37.Z.Hi, .bool vt37.Z.Unknown] 31 (0, 0))], [(b11, .cells #[.slice A2 l1.length c3, .int .i64 vt44] 26 (0, 0))], [(b233, .cells #[.int .i64 0, .int .i64 0, .bool false, .int .i64 0, .int .i64 0, .bool false, .int .i64 0, .int .i64 0, .bool false] 31 (0, 0))]] (L77.trans (L274.trans L278)) HS283) (fun hl_ => Bool.noConfusion (show true = false from hl_))), ?_⟩
       have HS284 := HS283.u2
       refine takeGE 11 kr rfl kr (does_storeA (vs := [.int .i64 vt50.X.Lo, .int .i64 vt50.X.Hi, .bool vt50.X.Unknown, .int .i64 vt50.Y.Lo, .int .i64 vt50.Y.Hi, .bool vt50.Y.Unknown, .int .i64 vt50.Z.Lo, .int .i64 vt50.Z.Hi, .bool vt50.Z.Unknown]) rfl kr kr kr rfl (ones rfl) HS284 kr ?_)
       intro W285 HS286
       refine ⟨(Sg.g1 (Sx.of [[(b233, .cells #[.int .i64 vt50.X.Lo, .int .i64 vt50.X.Hi, .bool vt50.X.Unknown, .int .i64 vt50.Y.Lo, .int .i64 vt50.Y.Hi, .bool vt50.Y.Unknown, .int .i64 vt50.Z.Lo, .int .i64 vt50.Z.Hi, .bool vt50.Z.Unknown] 31 (0, 0))], [(b268, .cells #[.int .i64 vt37.X.Lo, .int .i64 vt37.X.Hi, .bool vt37.X.Unknown, .int .i64 vt37.Y.Lo, .int .i64 vt37.Y.Hi, .bool vt37.Y.Unknown, .int .i64 vt37.Z.Lo, .int .i64 vt37.Z.Hi, .bool vt37.Z.Unknown] 31 (0, 0))], [(b11, .cells #[.slice A2 l1.length c3, .int .i64 vt44] 26 (0, 0))]] (L77.trans (L274.trans L278)) HS286) (fun hl_ => Bool.noConfusion (show true = false from hl_))), ?_⟩
       refine hR72 _ _ ?_
       exact J73 f76 f273 f277 b268 b233 W285 _ L77 L274 L278 HS286 kr
 · refine does_alloc (z := Value.agg #[.int .i64 0, .int .i64 0, .bool false, .int .i64 0, .int .i64 0, .bool false, .int .i64 0, .int .i64 0, .bool false]) (cs := #[.int .i64 0, .int .i64 0, .bool false, .int .i64 0, .int .i64 0, .bool false, .int .i64 0, .int .i64 0, .bool false]) rfl kr rfl HS36 ?_
   intro b287 W288 HS289
   refine ⟨(Sg.g1 (Sx.of [[(b287, .cells #[.int .i64 0, .int .i64 0, .bool false, .int .i64 0, .int .i64 0, .bool false, .int .i64 0, .int .i64 0, .bool false] 31 (0, 0))], [(b11, .cells #[.slice A2 l1.length c3, .int .i64 vt18] 26 (0, 0))]] fL HS289) (fun _ => St.only [[(b287, .cells #[.int .i64 0, .int .i64 0, .bool false, .int .i64 0, .int .i64 0, .bool false, .int .i64 0, .int .i64 0, .bool false] 31 (0, 0))]] HS289 fL)), ?_⟩
   refine takeEither 2 9 kr rfl rfl rfl rfl ?_ ?_
   · refine does_call (f := 14) (args := #[.agg #[.int .i64 vt17.X, .int .i64 vt17.Y, .int .i64 vt17.Z], .int .i64 1]) kr (spykeep3_QueryExact_1.calls k vt17 1 HS289 vt37 hc38) ?_
     rintro _ W293 ⟨f291, rfl, L292, HS294⟩
     refine ⟨_, rfl, ?_⟩
     refine ⟨(Sg.g1 (Sx.of [[(b287, .cells #[.int .i64 0, .int .i64 0, .bool false, .int .i64 0, .int .i64 0, .bool false, .int .i64 0, .int .i64 0, .bool false] 31 (0, 0))], [(b11, .cells #[.slice A2 l1.length c3, .int .i64 vt18] 26 (0, 0))]] L292 HS294) (fun _ => St.only [[(b287, .cells #[.int .i64 0, .int .i64 0, .bool false, .int .i64 0, .int .i64 0, .bool false, .int .i64 0, .int .i64 0, .bool false] 31 (0, 0))]] HS294 L292)), ?_⟩
     refine takeEither 6 9 kr rfl rfl rfl rfl ?_ ?_
     · have HS295 := HS294.u1
       refine does_call (f := 16) (args := #[.pointer (some ⟨b11, 0, none⟩), .agg #[.int .i64 vt17.X, .int .i64 vt17.Y, .int .i64 vt17.Z]]) kr (spymake_Stream_Near.calls k b11 A2 c3 (⟨l1, vt18⟩ : S_Stream) vt17 HS295 (HR4.mono (L21.trans L292)) vt43 vt44 hc45) ?_
       rintro _ W298 ⟨f296, rfl, L297, HS299⟩
       refine ⟨_, rfl, ?_⟩
       refine ⟨(Sg.g1 (Sx.of [[(b11, .cells #[.slice A2 l1.length c3, .int .i64 vt44] 26 (0, 0))], [(b287, .cells #[.int .i64 0, .int .i64 0, .bool false, .int .i64 0, .int .i64 0, .bool false, .int .i64 0, .int .i64 0, .bool false] 31 (0, 0))]] (L292.trans L297) HS299) (fun hl_ => Bool.noConfusion (show true = false from hl_))), ?_⟩
       refine takeEither 7 9 kr rfl rfl rfl rfl ?_ ?_
       · refine does_call (f := 14) (args := #[.agg #[.int .i64 vt43.X, .int .i64 vt43.Y, .int .i64 vt43.Z], .int .i64 1]) kr (spykeep3_QueryExact_1.calls k vt43 1 HS299 vt50 hc51) ?_
         rintro _ W302 ⟨f300, rfl, L301, HS303⟩
         refine ⟨_, rfl, ?_⟩
         refine ⟨(Sg.g1 (Sx.of [[(b11, .cells #[.slice A2 l1.length c3, .int .i64 vt44] 26 (0, 0))], [(b287, .cells #[.int .i64 0, .int .i64 0, .bool false, .int .i64 0, .int .i64 0, .bool false, .int .i64 0, .int .i64 0, .bool false] 31 (0, 0))]] (L292.trans (L297.trans L301)) HS303) (fun hl_ => Bool.noConfusion (show true = false from hl_))), ?_⟩
         refine takeGE 9 kr rfl kr (does_alloc (z := Value.agg #[.int .i64 0, .int .i64 0, .bool false, .int .i64 0, .int .i64 0, .bool false, .int .i64 0, .int .i64 0, .bool false]) (cs := #[.int .i64 0, .int .i64 0, .bool false, .int .i64 0, .int .i64 0, .bool false, .int .i64 0, .int .i64 0, .bool false]) rfl kr rfl HS303 ?_)
         intro b304 W305 HS306
         refine ⟨(Sg.g1 (Sx.of [[(b304, .cells #[.int .i64 0, .int .i64 0, .bool false, .int .i64 0, .int .i64 0, .bool false, .int .i64 0, .int .i64 0, .bool false] 31 (0, 0))], [(b11, .cells #[.slice A2 l1.length c3, .int .i64 vt44] 26 (0, 0))], [(b287, .cells #[.int .i64 0, .int .i64 0, .bool false, .int .i64 0, .int .i64 0, .bool false, .int .i64 0, .int .i64 0, .bool false] 31 (0, 0))]] (L292.trans (L297.trans L301)) HS306) (fun hl_ => Bool.noConfusion (show true = false from hl_))), ?_⟩
         have HS308 := HS306.u2
         refine takeGE 10 kr rfl kr (does_storeA (vs := [.int .i64 vt37.X.Lo, .int .i64 vt37.X.Hi, .bool vt37.X.Unknown, .int .i64 vt37.Y.Lo, .int .i64 vt37.Y.Hi, .bool vt37.Y.Unknown, .int .i64 vt37.Z.Lo, .int .i64 vt37.Z.Hi, .bool vt37.Z.Unknown]) rfl kr kr kr rfl (ones rfl) HS308 kr ?_)
         intro W309 HS310
         refine ⟨(Sg.g1 (Sx.of [[(b287, .cells #[.int .i64 vt37.X.Lo, .int .i64 vt37.X.Hi, .bool vt37.X.Unknown, .int .i64 vt37.Y.Lo, .int .i64 vt37.Y.Hi, .bool vt37.Y.Unknown, .int .i64 vt37.Z.Lo, .int .i64 vt37.Z.Hi, .bool vt37.Z.Unknown] 31 (0, 0))], [(b304, .cells #[.int .i64 0, .int .i64 0, .bool false, .int .i64 0, .int .i64 0, .bool false, .int .i64 0, .int .i64 0, .bool false] 31 (0, 0))], [(b11, .cells #[.slice A2 l1.length c3, .int .i64 vt44] 26 (0, 0))]] (L292.trans (L297.trans L301)) HS310) (fun hl_ => Bool.noConfusion (show true = false from hl_))), ?_⟩
         have HS311 := HS310.u1
         refine takeGE 11 kr rfl kr (does_storeA (vs := [.int .i64 vt50.X.Lo, .int .i64 vt50.X.Hi, .bool vt50.X.Unknown, .int .i64 vt50.Y.Lo, .int .i64 vt50.Y.Hi, .bool vt50.Y.Unknown, .int .i64 vt50.Z.Lo, .int .i64 vt50.Z.Hi, .bool vt50.Z.Unknown]) rfl kr kr kr rfl (ones rfl) HS311 kr ?_)
         intro W312 HS313
         refine ⟨(Sg.g1 (Sx.of [[(b304, .cells #[.int .i64 vt50.X.Lo, .int .i64 vt50.X.Hi, .bool vt50.X.Unknown, .int .i64 vt50.Y.Lo, .int .i64 vt50.Y.Hi, .bool vt50.Y.Unknown, .int .i64 vt50.Z.Lo, .int .i64 vt50.Z.Hi, .bool vt50.Z.Unknown] 31 (0, 0))], [(b287, .cells #[.int .i64 vt37.X.Lo, .int .i64 vt37.X.Hi, .bool vt37.X.Unknown, .int .i64 vt37.Y.Lo, .int .i64 vt37.Y.Hi, .bool vt37.Y.Unknown, .int .i64 vt37.Z.Lo, .int .i64 vt37.Z.Hi, .bool vt37.Z.Unknown] 31 (0, 0))], [(b11, .cells #[.slice A2 l1.length c3, .int .i64 vt44] 26 (0, 0))]] (L292.trans (L297.trans L301)) HS313) (fun hl_ => Bool.noConfusion (show true = false from hl_))), ?_⟩
         refine hR72 _ _ ?_
         exact J73 f291 f296 f300 b287 b304 W312 _ L292 L297 L301 HS313 kr
       · refine does_alloc (z := Value.agg #[.int .i64 0, .int .i64 0, .bool false, .int .i64 0, .int .i64 0, .bool false, .int .i64 0, .int .i64 0, .bool false]) (cs := #[.int .i64 0, .int .i64 0, .bool false, .int .i64 0, .int .i64 0, .bool false, .int .i64 0, .int .i64 0, .bool false]) rfl kr rfl HS299 ?_
         intro b314 W315 HS316
         refine ⟨(Sg.g1 (Sx.of [[(b314, .cells #[.int .i64 0, .int .i64 0, .bool false, .int .i64 0, .int .i64 0, .bool false, .int .i64 0, .int .i64 0, .bool false] 31 (0, 0))], [(b11, .cells #[.slice A2 l1.length c3, .int .i64 vt44] 26 (0, 0))], [(b287, .cells #[.int .i64 0, .int .i64 0, .bool false, .int .i64 0, .int .i64 0, .bool false, .int .i64 0, .int .i64 0, .bool false] 31 (0, 0))]] (L292.trans L297) HS316) (fun hl_ => Bool.noConfusion (show true = false from hl_))), ?_⟩
         refine takeGE 7 kr rfl kr (does_call (f := 14) (args := #[.agg #[.int .i64 vt43.X, .int .i64 vt43.Y, .int .i64 vt43.Z], .int .i64 1]) kr (spykeep3_QueryExact_1.calls k vt43 1 HS316 vt50 hc51) ?_)
         rintro _ W320 ⟨f318, rfl, L319, HS321⟩
         refine ⟨_, rfl, ?_⟩
         refine ⟨(Sg.g1 (Sx.of [[(b314, .cells #[.int .i64 0, .int .i64 0, .bool false, .int .i64 0, .int .i64 0, .bool false, .int .i64 0, .int .i64 0, .bool false] 31 (0, 0))], [(b11, .cells #[.slice A2 l1.length c3, .int .i64 vt44] 26 (0, 0))], [(b287, .cells #[.int .i64 0, .int .i64 0, .bool false, .int .i64 0, .int .i64 0, .bool false, .int .i64 0, .int .i64 0, .bool false] 31 (0, 0))]] (L292.trans (L297.trans L319)) HS321) (fun hl_ => Bool.noConfusion (show true = false from hl_))), ?_⟩
         have HS322 := HS321.u2
         refine takeGE 10 kr rfl kr (does_storeA (vs := [.int .i64 vt37.X.Lo, .int .i64 vt37.X.Hi, .bool vt37.X.Unknown, .int .i64 vt37.Y.Lo, .int .i64 vt37.Y.Hi, .bool vt37.Y.Unknown, .int .i64 vt37.Z.Lo, .int .i64 vt37.Z.Hi, .bool vt37.Z.Unknown]) rfl kr kr kr rfl (ones rfl) HS322 kr ?_)
         intro W323 HS324
         refine ⟨(Sg.g1 (Sx.of [[(b287, .cells #[.int .i64 vt37.X.Lo, .int .i64 vt37.X.Hi, .bool vt37.X.Unknown, .int .i64 vt37.Y.Lo, .int .i64 vt37.Y.Hi, .bool vt37.Y.Unknown, .int .i64 vt37.Z.Lo, .int .i64 vt37.Z.Hi, .bool vt37.Z.Unknown] 31 (0, 0))], [(b314, .cells #[.int .i64 0, .int .i64 0, .bool false, .int .i64 0, .int .i64 0, .bool false, .int .i64 0, .int .i64 0, .bool false] 31 (0, 0))], [(b11, .cells #[.slice A2 l1.length c3, .int .i64 vt44] 26 (0, 0))]] (L292.trans (L297.trans L319)) HS324) (fun hl_ => Bool.noConfusion (show true = false from hl_))), ?_⟩
         have HS325 := HS324.u1
         refine takeGE 11 kr rfl kr (does_storeA (vs := [.int .i64 vt50.X.Lo, .int .i64 vt50.X.Hi, .bool vt50.X.Unknown, .int .i64 vt50.Y.Lo, .int .i64 vt50.Y.Hi, .bool vt50.Y.Unknown, .int .i64 vt50.Z.Lo, .int .i64 vt50.Z.Hi, .bool vt50.Z.Unknown]) rfl kr kr kr rfl (ones rfl) HS325 kr ?_)
         intro W326 HS327
         refine ⟨(Sg.g1 (Sx.of [[(b314, .cells #[.int .i64 vt50.X.Lo, .int .i64 vt50.X.Hi, .bool vt50.X.Unknown, .int .i64 vt50.Y.Lo, .int .i64 vt50.Y.Hi, .bool vt50.Y.Unknown, .int .i64 vt50.Z.Lo, .int .i64 vt50.Z.Hi, .bool vt50.Z.Unknown] 31 (0, 0))], [(b287, .cells #[.int .i64 vt37.X.Lo, .int .i64 vt37.X.Hi, .bool vt37.X.Unknown, .int .i64 vt37.Y.Lo, .int .i64 vt37.Y.Hi, .bool vt37.Y.Unknown, .int .i64 vt37.Z.Lo, .int .i64 vt37.Z.Hi, .bool vt37.Z.Unknown] 31 (0, 0))], [(b11, .cells #[.slice A2 l1.length c3, .int .i64 vt44] 26 (0, 0))]] (L292.trans (L297.trans L319)) HS327) (fun hl_ => Bool.noConfusion (show true = false from hl_))), ?_⟩
         refine hR72 _ _ ?_
         exact J73 f291 f296 f318 b287 b314 W326 _ L292 L297 L319 HS327 kr
     · refine does_alloc (z := Value.agg #[.int .i64 0, .int .i64 0, .bool false, .int .i64 0, .int .i64 0, .bool false, .int .i64 0, .int .i64 0, .bool false]) (cs := #[.int .i64 0, .int .i64 0, .bool false, .int .i64 0, .int .i64 0, .bool false, .int .i64 0, .int .i64 0, .bool false]) rfl kr rfl HS294 ?_
       intro b328 W329 HS330
       refine ⟨(Sg.g1 (Sx.of [[(b328, .cells #[.int .i64 0, .int .i64 0, .bool false, .int .i64 0, .int .i64 0, .bool false, .int .i64 0, .int .i64 0, .bool false] 31 (0, 0))], [(b287, .cells #[.int .i64 0, .int .i64 0, .bool false, .int .i64 0, .int .i64 0, .bool false, .int .i64 0, .int .i64 0, .bool false] 31 (0, 0))], [(b11, .cells #[.slice A2 l1.length c3, .int .i64 vt18] 26 (0, 0))]] L292 HS330) (fun _ => St.only [[(b328, .cells #[.int .i64 0, .int .i64 0, .bool false, .int .i64 0, .int .i64 0, .bool false, .int .i64 0, .int .i64 0, .bool false] 31 (0, 0))], [(b287, .cells #[.int .i64 0, .int .i64 0, .bool false, .int .i64 0, .int .i64 0, .bool false, .int .i64 0, .int .i64 0, .bool false] 31 (0, 0))]] HS330 L292)), ?_⟩
       have HS332 := HS330.u2
       refine takeGE 6 kr rfl kr (does_call (f := 16) (args := #[.pointer (some ⟨b11, 0, none⟩), .agg #[.int .i64 vt17.X, .int .i64 vt17.Y, .int .i64 vt17.Z]]) kr (spymake_Stream_Near.calls k b11 A2 c3 (⟨l1, vt18⟩ : S_Stream) vt17 HS332 (HR4.mono (L21.trans L292)) vt43 vt44 hc45) ?_)
       rintro _ W335 ⟨f333, rfl, L334, HS336⟩
       refine ⟨_, rfl, ?_⟩
       refine ⟨(Sg.g1 (Sx.of [[(b11, .cells #[.slice A2 l1.length c3, .int .i64 vt44] 26 (0, 0))], [(b328, .cells #[.int .i64 0, .int .i64 0, .bool false, .int .i64 0, .int .i64 0, .bool false, .int .i64 0, .int .i64 0, .bool false] 31 (0, 0))], [(b287, .cells #[.int .i64 0, .int .i64 0, .bool false, .int .i64 0, .int .i64 0, .bool false, .int .i64 0, .int .i64 0, .bool false] 31 (0, 0))]] (L292.trans L334) HS336) (fun hl_ => Bool.noConfusion (show true = false from hl_))), ?_⟩
       refine takeGE 7 kr rfl kr (does_call (f := 14) (args := #[.agg #[.int .i64 vt43.X, .int .i64 vt43.Y, .int .i64 vt43.Z], .int .i64 1]) kr (spykeep3_QueryExact_1.calls k vt43 1 HS336 vt50 hc51) ?_)
       rintro _ W339 ⟨f337, rfl, L338, HS340⟩
       refine ⟨_, rfl, ?_⟩
       refine ⟨(Sg.g1 (Sx.of [[(b11, .cells #[.slice A2 l1.length c3, .int .i64 vt44] 26 (0, 0))], [(b328, .cells #[.int .i64 0, .int .i64 0, .bool false, .int .i64 0, .int .i64 0, .bool false, .int .i64 0, .int .i64 0, .bool false] 31 (0, 0))], [(b287, .cells #[.int .i64 0, .int .i64 0, .bool false, .int .i64 0, .int .i64 0, .bool false, .int .i64 0, .int .i64 0, .bool false] 31 (0, 0))]] (L292.trans (L334.trans L338)) HS340) (fun hl_ => Bool.noConfusion (show true = false from hl_))), ?_⟩
       have HS341 := HS340.u2
       refine takeGE 10 kr rfl kr (does_storeA (vs := [.int .i64 vt37.X.Lo, .int .i64 vt37.X.Hi, .bool vt37.X.Unknown, .int .i64 vt37.Y.Lo, .int .i64 vt37.Y.Hi, .bool vt37.Y.Unknown, .int .i64 vt37.Z.Lo, .int .i64 vt37.Z.Hi, .bool vt37.Z.Unknown]) rfl kr kr kr rfl (ones rfl) HS341 kr ?_)
       intro W342 HS343
       refine ⟨(Sg.g1 (Sx.of [[(b287, .cells #[.int .i64 vt37.X.Lo, .int .i64 vt37.X.Hi, .bool vt37.X.Unknown, .int .i64 vt37.Y.Lo, .int .i64 vt37.Y.Hi, .bool vt37.Y.Unknown, .int .i64 vt37.Z.Lo, .int .i64 vt37.Z.Hi, .bool vt37.Z.Unknown] 31 (0, 0))], [(b11, .cells #[.slice A2 l1.length c3, .int .i64 vt44] 26 (0, 0))], [(b328, .cells #[.int .i64 0, .int .i64 0, .bool false, .int .i64 0, .int .i64 0, .bool false, .int .i64 0, .int .i64 0, .bool false] 31 (0, 0))]] (L292.trans (L334.trans L338)) HS343) (fun hl_ => Bool.noConfusion (show true = false from hl_))), ?_⟩
       have HS344 := HS343.u2
       refine takeGE 11 kr rfl kr (does_storeA (vs := [.int .i64 vt50.X.Lo, .int .i64 vt50.X.Hi, .bool vt50.X.Unknown, .int .i64 vt50.Y.Lo, .int .i64 vt50.Y.Hi, .bool vt50.Y.Unknown, .int .i64 vt50.Z.Lo, .int .i64 vt50.Z.Hi, .bool vt50.Z.Unknown]) rfl kr kr kr rfl (ones rfl) HS344 kr ?_)
       intro W345 HS346
       refine ⟨(Sg.g1 (Sx.of [[(b328, .cells #[.int .i64 vt50.X.Lo, .int .i64 vt50.X.Hi, .bool vt50.X.Unknown, .int .i64 vt50.Y.Lo, .int .i64 vt50.Y.Hi, .bool vt50.Y.Unknown, .int .i64 vt50.Z.Lo, .int .i64 vt50.Z.Hi, .bool vt50.Z.Unknown] 31 (0, 0))], [(b287, .cells #[.int .i64 vt37.X.Lo, .int .i64 vt37.X.Hi, .bool vt37.X.Unknown, .int .i64 vt37.Y.Lo, .int .i64 vt37.Y.Hi, .bool vt37.Y.Unknown, .int .i64 vt37.Z.Lo, .int .i64 vt37.Z.Hi, .bool vt37.Z.Unknown] 31 (0, 0))], [(b11, .cells #[.slice A2 l1.length c3, .int .i64 vt44] 26 (0, 0))]] (L292.trans (L334.trans L338)) HS346) (fun hl_ => Bool.noConfusion (show true = false from hl_))), ?_⟩
       refine hR72 _ _ ?_
       exact J73 f291 f333 f337 b287 b328 W345 _ L292 L334 L338 HS346 kr
   · refine does_alloc (z := Value.agg #[.int .i64 0, .int .i64 0, .bool false, .int .i64 0, .int .i64 0, .bool false, .int .i64 0, .int .i64 0, .bool false]) (cs := #[.int .i64 0, .int .i64 0, .bool false, .int .i64 0, .int .i64 0, .bool false, .int .i64 0, .int .i64 0, .bool false]) rfl kr rfl HS289 ?_
     intro b347 W348 HS349
     refine ⟨(Sg.g1 (Sx.of [[(b347, .cells #[.int .i64 0, .int .i64 0, .bool false, .int .i64 0, .int .i64 0, .bool false, .int .i64 0, .int .i64 0, .bool false] 31 (0, 0))], [(b287, .cells #[.int .i64 0, .int .i64 0, .bool false, .int .i64 0, .int .i64 0, .bool false, .int .i64 0, .int .i64 0, .bool false] 31 (0, 0))], [(b11, .cells #[.slice A2 l1.length c3, .int .i64 vt18] 26 (0, 0))]] fL HS349) (fun _ => St.only [[(b347, .cells #[.int .i64 0, .int .i64 0, .bool false, .int .i64 0, .int .i64 0, .bool false, .int .i64 0, .int .i64 0, .bool false] 31 (0, 0))], [(b287, .cells #[.int .i64 0, .int .i64 0, .bool false, .int .i64 0, .int .i64 0, .bool false, .int .i64 0, .int .i64 0, .bool false] 31 (0, 0))]] HS349 fL)), ?_⟩
     refine takeGE 2 kr rfl kr (does_call (f := 14) (args := #[.agg #[.int .i64 vt17.X, .int .i64 vt17.Y, .int .i64 vt17.Z], .int .i64 1]) kr (spykeep3_QueryExact_1.calls k vt17 1 HS349 vt37 hc38) ?_)
     rintro _ W353 ⟨f351, rfl, L352, HS354⟩
     refine ⟨_, rfl, ?_⟩
     refine ⟨(Sg.g1 (Sx.of [[(b347, .cells #[.int .i64 0, .int .i64 0, .bool false, .int .i64 0, .int .i64 0, .bool false, .int .i64 0, .int .i64 0, .bool false] 31 (0, 0))], [(b287, .cells #[.int .i64 0, .int .i64 0, .bool false, .int .i64 0, .int .i64 0, .bool false, .int .i64 0, .int .i64 0, .bool false] 31 (0, 0))], [(b11, .cells #[.slice A2 l1.length c3, .int .i64 vt18] 26 (0, 0))]] L352 HS354) (fun _ => St.only [[(b347, .cells #[.int .i64 0, .int .i64 0, .bool false, .int .i64 0, .int .i64 0, .bool false, .int .i64 0, .int .i64 0, .bool false] 31 (0, 0))], [(b287, .cells #[.int .i64 0, .int .i64 0, .bool false, .int .i64 0, .int .i64 0, .bool false, .int .i64 0, .int .i64 0, .bool false] 31 (0, 0))]] HS354 L352)), ?_⟩
     have HS355 := HS354.u2
     refine takeGE 6 kr rfl kr (does_call (f := 16) (args := #[.pointer (some ⟨b11, 0, none⟩), .agg #[.int .i64 vt17.X, .int .i64 vt17.Y, .int .i64 vt17.Z]]) kr (spymake_Stream_Near.calls k b11 A2 c3 (⟨l1, vt18⟩ : S_Stream) vt17 HS355 (HR4.mono (L21.trans L352)) vt43 vt44 hc45) ?_)
     rintro _ W358 ⟨f356, rfl, L357, HS359⟩
     refine ⟨_, rfl, ?_⟩
     refine ⟨(Sg.g1 (Sx.of [[(b11, .cells #[.slice A2 l1.length c3, .int .i64 vt44] 26 (0, 0))], [(b347, .cells #[.int .i64 0, .int .i64 0, .bool false, .int .i64 0, .int .i64 0, .bool false, .int .i64 0, .int .i64 0, .bool false] 31 (0, 0))], [(b287, .cells #[.int .i64 0, .int .i64 0, .bool false, .int .i64 0, .int .i64 0, .bool false, .int .i64 0, .int .i64 0, .bool false] 31 (0, 0))]] (L352.trans L357) HS359) (fun hl_ => Bool.noConfusion (show true = false from hl_))), ?_⟩
     refine takeGE 7 kr rfl kr (does_call (f := 14) (args := #[.agg #[.int .i64 vt43.X, .int .i64 vt43.Y, .int .i64 vt43.Z], .int .i64 1]) kr (spykeep3_QueryExact_1.calls k vt43 1 HS359 vt50 hc51) ?_)
     rintro _ W362 ⟨f360, rfl, L361, HS363⟩
     refine ⟨_, rfl, ?_⟩
     refine ⟨(Sg.g1 (Sx.of [[(b11, .cells #[.slice A2 l1.length c3, .int .i64 vt44] 26 (0, 0))], [(b347, .cells #[.int .i64 0, .int .i64 0, .bool false, .int .i64 0, .int .i64 0, .bool false, .int .i64 0, .int .i64 0, .bool false] 31 (0, 0))], [(b287, .cells #[.int .i64 0, .int .i64 0, .bool false, .int .i64 0, .int .i64 0, .bool false, .int .i64 0, .int .i64 0, .bool false] 31 (0, 0))]] (L352.trans (L357.trans L361)) HS363) (fun hl_ => Bool.noConfusion (show true = false from hl_))), ?_⟩
     have HS364 := HS363.u2
     refine takeGE 10 kr rfl kr (does_storeA (vs := [.int .i64 vt37.X.Lo, .int .i64 vt37.X.Hi, .bool vt37.X.Unknown, .int .i64 vt37.Y.Lo, .int .i64 vt37.Y.Hi, .bool vt37.Y.Unknown, .int .i64 vt37.Z.Lo, .int .i64 vt37.Z.Hi, .bool vt37.Z.Unknown]) rfl kr kr kr rfl (ones rfl) HS364 kr ?_)
     intro W365 HS366
     refine ⟨(Sg.g1 (Sx.of [[(b287, .cells #[.int .i64 vt37.X.Lo, .int .i64 vt37.X.Hi, .bool vt37.X.Unknown, .int .i64 vt37.Y.Lo, .int .i64 vt37.Y.Hi, .bool vt37.Y.Unknown, .int .i64 vt37.Z.Lo, .int .i64 vt37.Z.Hi, .bool vt37.Z.Unknown] 31 (0, 0))], [(b11, .cells #[.slice A2 l1.length c3, .int .i64 vt44] 26 (0, 0))], [(b347, .cells #[.int .i64 0, .int .i64 0, .bool false, .int .i64 0, .int .i64 0, .bool false, .int .i64 0, .int .i64 0, .bool false] 31 (0, 0))]] (L352.trans (L357.trans L361)) HS366) (fun hl_ => Bool.noConfusion (show true = false from hl_))), ?_⟩
     have HS367 := HS366.u2
     refine takeGE 11 kr rfl kr (does_storeA (vs := [.int .i64 vt50.X.Lo, .int .i64 vt50.X.Hi, .bool vt50.X.Unknown, .int .i64 vt50.Y.Lo, .int .i64 vt50.Y.Hi, .bool vt50.Y.Unknown, .int .i64 vt50.Z.Lo, .int .i64 vt50.Z.Hi, .bool vt50.Z.Unknown]) rfl kr kr kr rfl (ones rfl) HS367 kr ?_)
     intro W368 HS369
     refine ⟨(Sg.g1 (Sx.of [[(b347, .cells #[.int .i64 vt50.X.Lo, .int .i64 vt50.X.Hi, .bool vt50.X.Unknown, .int .i64 vt50.Y.Lo, .int .i64 vt50.Y.Hi, .bool vt50.Y.Unknown, .int .i64 vt50.Z.Lo, .int .i64 vt50.Z.Hi, .bool vt50.Z.Unknown] 31 (0, 0))], [(b287, .cells #[.int .i64 vt37.X.Lo, .int .i64 vt37.X.Hi, .bool vt37.X.Unknown, .int .i64 vt37.Y.Lo, .int .i64 vt37.Y.Hi, .bool vt37.Y.Unknown, .int .i64 vt37.Z.Lo, .int .i64 vt37.Z.Hi, .bool vt37.Z.Unknown] 31 (0, 0))], [(b11, .cells #[.slice A2 l1.length c3, .int .i64 vt44] 26 (0, 0))]] (L352.trans (L357.trans L361)) HS369) (fun hl_ => Bool.noConfusion (show true = false from hl_))), ?_⟩
     refine hR72 _ _ ?_
     exact J73 f351 f356 f360 b287 b347 W368 _ L352 L357 L361 HS369 kr
 · refine does_alloc (z := Value.agg #[.int .i64 0, .int .i64 0, .bool false, .int .i64 0, .int .i64 0, .bool false, .int .i64 0, .int .i64 0, .bool false]) (cs := #[.int .i64 0, .int .i64 0, .bool false, .int .i64 0, .int .i64 0, .bool false, .int .i64 0, .int .i64 0, .bool false]) rfl kr rfl HS36 ?_
   intro b370 W371 HS372
   refine ⟨(Sg.g1 (Sx.of [[(b370, .cells #[.int .i64 0, .int .i64 0, .bool false, .int .i64 0, .int .i64 0, .bool false, .int .i64 0, .int .i64 0, .bool false] 31 (0, 0))], [(b11, .cells #[.slice A2 l1.length c3, .int .i64 vt18] 26 (0, 0))]] fL HS372) (fun _ => St.only [[(b370, .cells #[.int .i64 0, .int .i64 0, .bool false, .int .i64 0, .int .i64 0, .bool false, .int .i64 0, .int .i64 0, .bool false] 31 (0, 0))]] HS372 fL)), ?_⟩
   refine takeEither 2 8 kr rfl rfl rfl rfl ?_ ?_
   · refine does_call (f := 14) (args := #[.agg #[.int .i64 vt17.X, .int .i64 vt17.Y, .int .i64 vt17.Z], .int .i64 1]) kr (spykeep3_QueryExact_1.calls k vt17 1 HS372 vt37 hc38) ?_
     rintro _ W376 ⟨f374, rfl, L375, HS377⟩
     refine ⟨_, rfl, ?_⟩
     refine ⟨(Sg.g1 (Sx.of [[(b370, .cells #[.int .i64 0, .int .i64 0, .bool false, .int .i64 0, .int .i64 0, .bool false, .int .i64 0, .int .i64 0, .bool false] 31 (0, 0))], [(b11, .cells #[.slice A2 l1.length c3, .int .i64 vt18] 26 (0, 0))]] L375 HS377) (fun _ => St.only [[(b370, .cells #[.int .i64 0, .int .i64 0, .bool false, .int .i64 0, .int .i64 0, .bool false, .int .i64 0, .int .i64 0, .bool false] 31 (0, 0))]] HS377 L375)), ?_⟩
     refine takeEither 6 8 kr rfl rfl rfl rfl ?_ ?_
     · have HS378 := HS377.u1
       refine does_call (f := 16) (args := #[.pointer (some ⟨b11, 0, none⟩), .agg #[.int .i64 vt17.X, .int .i64 vt17.Y, .int .i64 vt17.Z]]) kr (spymake_Stream_Near.calls k b11 A2 c3 (⟨l1, vt18⟩ : S_Stream) vt17 HS378 (HR4.mono (L21.trans L375)) vt43 vt44 hc45) ?_
       rintro _ W381 ⟨f379, rfl, L380, HS382⟩
       refine ⟨_, rfl, ?_⟩
       refine ⟨(Sg.g1 (Sx.of [[(b11, .cells #[.slice A2 l1.length c3, .int .i64 vt44] 26 (0, 0))], [(b370, .cells #[.int .i64 0, .int .i64 0, .bool false, .int .i64 0, .int .i64 0, .bool false, .int .i64 0, .int .i64 0, .bool false] 31 (0, 0))]] (L375.trans L380) HS382) (fun hl_ => Bool.noConfusion (show true = false from hl_))), ?_⟩
       refine takeEither 7 8 kr rfl rfl rfl rfl ?_ ?_
       · refine does_call (f := 14) (args := #[.agg #[.int .i64 vt43.X, .int .i64 vt43.Y, .int .i64 vt43.Z], .int .i64 1]) kr (spykeep3_QueryExact_1.calls k vt43 1 HS382 vt50 hc51) ?_
         rintro _ W385 ⟨f383, rfl, L384, HS386⟩
         refine ⟨_, rfl, ?_⟩
         refine ⟨(Sg.g1 (Sx.of [[(b11, .cells #[.slice A2 l1.length c3, .int .i64 vt44] 26 (0, 0))], [(b370, .cells #[.int .i64 0, .int .i64 0, .bool false, .int .i64 0, .int .i64 0, .bool false, .int .i64 0, .int .i64 0, .bool false] 31 (0, 0))]] (L375.trans (L380.trans L384)) HS386) (fun hl_ => Bool.noConfusion (show true = false from hl_))), ?_⟩
         refine takeGE 8 kr rfl kr (does_alloc (z := Value.agg #[.int .i64 0, .int .i64 0, .bool false, .int .i64 0, .int .i64 0, .bool false, .int .i64 0, .int .i64 0, .bool false]) (cs := #[.int .i64 0, .int .i64 0, .bool false, .int .i64 0, .int .i64 0, .bool false, .int .i64 0, .int .i64 0, .bool false]) rfl kr rfl HS386 ?_)
         intro b387 W388 HS389
         refine ⟨(Sg.g1 (Sx.of [[(b387, .cells #[.int .i64 0, .int .i64 0, .bool false, .int .i64 0, .int .i64 0, .bool false, .int .i64 0, .int .i64 0, .bool false] 31 (0, 0))], [(b11, .cells #[.slice A2 l1.length c3, .int .i64 vt44] 26 (0, 0))], [(b370, .cells #[.int .i64 0, .int .i64 0, .bool false, .int .i64 0, .int .i64 0, .bool false, .int .i64 0, .int .i64 0, .bool false] 31 (0, 0))]] (L375.trans (L380.trans L384)) HS389) (fun hl_ => Bool.noConfusion (show true = false from hl_))), ?_⟩
         refine takeGE 10 kr rfl kr (does_storeA (vs := [.int .i64 vt37.X.Lo, .int .i64 vt37.X.Hi, .bool vt37.X.Unknown, .int .i64 vt37.Y.Lo, .int .i64 vt37.Y.Hi, .bool vt37.Y.Unknown, .int .i64 vt37.Z.Lo, .int .i64 vt37.Z.Hi, .bool vt37.Z.Unknown]) rfl kr kr kr rfl (ones rfl) HS389 kr ?_)
         intro W391 HS392
         refine ⟨(Sg.g1 (Sx.of [[(b387, .cells #[.int .i64 vt37.X.Lo, .int .i64 vt37.X.Hi, .bool vt37.X.Unknown, .int .i64 vt37.Y.Lo, .int .i64 vt37.Y.Hi, .bool vt37.Y.Unknown, .int .i64 vt37.Z.Lo, .int .i64 vt37.Z.Hi, .bool vt37.Z.Unknown] 31 (0, 0))], [(b11, .cells #[.slice A2 l1.length c3, .int .i64 vt44] 26 (0, 0))], [(b370, .cells #[.int .i64 0, .int .i64 0, .bool false, .int .i64 0, .int .i64 0, .bool false, .int .i64 0, .int .i64 0, .bool false] 31 (0, 0))]] (L375.trans (L380.trans L384)) HS392) (fun hl_ => Bool.noConfusion (show true = false from hl_))), ?_⟩
         have HS393 := HS392.u2
         refine takeGE 11 kr rfl kr (does_storeA (vs := [.int .i64 vt50.X.Lo, .int .i64 vt50.X.Hi, .bool vt50.X.Unknown, .int .i64 vt50.Y.Lo, .int .i64 vt50.Y.Hi, .bool vt50.Y.Unknown, .int .i64 vt50.Z.Lo, .int .i64 vt50.Z.Hi, .bool vt50.Z.Unknown]) rfl kr kr kr rfl (ones rfl) HS393 kr ?_)
         intro W394 HS395
         refine ⟨(Sg.g1 (Sx.of [[(b370, .cells #[.int .i64 vt50.X.Lo, .int .i64 vt50.X.Hi, .bool vt50.X.Unknown, .int .i64 vt50.Y.Lo, .int .i64 vt50.Y.Hi, .bool vt50.Y.Unknown, .int .i64 vt50.Z.Lo, .int .i64 vt50.Z.Hi, .bool vt50.Z.Unknown] 31 (0, 0))], [(b387, .cells #[.int .i64 vt37.X.Lo, .int .i64 vt37.X.Hi, .bool vt37.X.Unknown, .int .i64 vt37.Y.Lo, .int .i64 vt37.Y.Hi, .bool vt37.Y.Unknown, .int .i64 vt37.Z.Lo, .int .i64 vt37.Z.Hi, .bool vt37.Z.Unknown] 31 (0, 0))], [(b11, .cells #[.slice A2 l1.length c3, .int .i64 vt44] 26 (0, 0))]] (L375.trans (L380.trans L384)) HS395) (fun hl_ => Bool.noConfusion (show true = false from hl_))), ?_⟩
         refine hR72 _ _ ?_
         exact J73 f374 f379 f383 b387 b370 W394 _ L375 L380 L384 HS395 kr
       · refine does_alloc (z := Value.agg #[.int .i64 0, .int .i64 0, .bool false, .int .i64 0, .int .i64 0, .bool false, .int .i64 0, .int .i64 0, .bool false]) (cs := #[.int .i64 0, .int .i64 0, .bool false, .int .i64 0, .int .i64 0, .bool false, .int .i64 0, .int .i64 0, .bool false]) rfl kr rfl HS382 ?_
         intro b396 W397 HS398
         refine ⟨(Sg.g1 (Sx.of [[(b396, .cells #[.int .i64 0, .int .i64 0, .bool false, .int .i64 0, .int .i64 0, .bool false, .int .i64 0, .int .i64 0, .bool false] 31 (0, 0))], [(b11, .cells #[.slice A2 l1.length c3, .int .i64 vt44] 26 (0, 0))], [(b370, .cells #[.int .i64 0, .int .i64 0, .bool false, .int .i64 0, .int .i64 0, .bool false, .int .i64 0, .int .i64 0, .bool false] 31 (0, 0))]] (L375.trans L380) HS398) (fun hl_ => Bool.noConfusion (show true = false from hl_))), ?_⟩
         refine takeGE 7 kr rfl kr (does_call (f := 14) (args := #[.agg #[.int .i64 vt43.X, .int .i64 vt43.Y, .int .i64 vt43.Z], .int .i64 1]) kr (spykeep3_QueryExact_1.calls k vt43 1 HS398 vt50 hc51) ?_)
         rintro _ W402 ⟨f400, rfl, L401, HS403⟩
         refine ⟨_, rfl, ?_⟩
         refine ⟨(Sg.g1 (Sx.of [[(b396, .cells #[.int .i64 0, .int .i64 0, .bool false, .int .i64 0, .int .i64 0, .bool false, .int .i64 0, .int .i64 0, .bool false] 31 (0, 0))], [(b11, .cells #[.slice A2 l1.length c3, .int .i64 vt44] 26 (0, 0))], [(b370, .cells #[.int .i64 0, .int .i64 0, .bool false, .int .i64 0, .int .i64 0, .bool false, .int .i64 0, .int .i64 0, .bool false] 31 (0, 0))]] (L375.trans (L380.trans L401)) HS403) (fun hl_ => Bool.noConfusion (show true = false from hl_))), ?_⟩
         refine takeGE 10 kr rfl kr (does_storeA (vs := [.int .i64 vt37.X.Lo, .int .i64 vt37.X.Hi, .bool vt37.X.Unknown, .int .i64 vt37.Y.Lo, .int .i64 vt37.Y.Hi, .bool vt37.Y.Unknown, .int .i64 vt37.Z.Lo, .int .i64 vt37.Z.Hi, .bool vt37.Z.Unknown]) rfl kr kr kr rfl (ones rfl) HS403 kr ?_)
         intro W404 HS405
         refine ⟨(Sg.g1 (Sx.of [[(b396, .cells #[.int .i64 vt37.X.Lo, .int .i64 vt37.X.Hi, .bool vt37.X.Unknown, .int .i64 vt37.Y.Lo, .int .i64 vt37.Y.Hi, .bool vt37.Y.Unknown, .int .i64 vt37.Z.Lo, .int .i64 vt37.Z.Hi, .bool vt37.Z.Unknown] 31 (0, 0))], [(b11, .cells #[.slice A2 l1.length c3, .int .i64 vt44] 26 (0, 0))], [(b370, .cells #[.int .i64 0, .int .i64 0, .bool false, .int .i64 0, .int .i64 0, .bool false, .int .i64 0, .int .i64 0, .bool false] 31 (0, 0))]] (L375.trans (L380.trans L401)) HS405) (fun hl_ => Bool.noConfusion (show true = false from hl_))), ?_⟩
         have HS406 := HS405.u2
         refine takeGE 11 kr rfl kr (does_storeA (vs := [.int .i64 vt50.X.Lo, .int .i64 vt50.X.Hi, .bool vt50.X.Unknown, .int .i64 vt50.Y.Lo, .int .i64 vt50.Y.Hi, .bool vt50.Y.Unknown, .int .i64 vt50.Z.Lo, .int .i64 vt50.Z.Hi, .bool vt50.Z.Unknown]) rfl kr kr kr rfl (ones rfl) HS406 kr ?_)
         intro W407 HS408
         refine ⟨(Sg.g1 (Sx.of [[(b370, .cells #[.int .i64 vt50.X.Lo, .int .i64 vt50.X.Hi, .bool vt50.X.Unknown, .int .i64 vt50.Y.Lo, .int .i64 vt50.Y.Hi, .bool vt50.Y.Unknown, .int .i64 vt50.Z.Lo, .int .i64 vt50.Z.Hi, .bool vt50.Z.Unknown] 31 (0, 0))], [(b396, .cells #[.int .i64 vt37.X.Lo, .int .i64 vt37.X.Hi, .bool vt37.X.Unknown, .int .i64 vt37.Y.Lo, .int .i64 vt37.Y.Hi, .bool vt37.Y.Unknown, .int .i64 vt37.Z.Lo, .int .i64 vt37.Z.Hi, .bool vt37.Z.Unknown] 31 (0, 0))], [(b11, .cells #[.slice A2 l1.length c3, .int .i64 vt44] 26 (0, 0))]] (L375.trans (L380.trans L401)) HS408) (fun hl_ => Bool.noConfusion (show true = false from hl_))), ?_⟩
         refine hR72 _ _ ?_
         exact J73 f374 f379 f400 b396 b370 W407 _ L375 L380 L401 HS408 kr
     · refine does_alloc (z := Value.agg #[.int .i64 0, .int .i64 0, .bool false, .int .i64 0, .int .i64 0, .bool false, .int .i64 0, .int .i64 0, .bool false]) (cs := #[.int .i64 0, .int .i64 0, .bool false, .int .i64 0, .int .i64 0, .bool false, .int .i64 0, .int .i64 0, .bool false]) rfl kr rfl HS377 ?_
       intro b409 W410 HS411
       refine ⟨(Sg.g1 (Sx.of [[(b409, .cells #[.int .i64 0, .int .i64 0, .bool false, .int .i64 0, .int .i64 0, .bool false, .int .i64 0, .int .i64 0, .bool false] 31 (0, 0))], [(b370, .cells #[.int .i64 0, .int .i64 0, .bool false, .int .i64 0, .int .i64 0, .bool false, .int .i64 0, .int .i64 0, .bool false] 31 (0, 0))], [(b11, .cells #[.slice A2 l1.length c3, .int .i64 vt18] 26 (0, 0))]] L375 HS411) (fun _ => St.only [[(b409, .cells #[.int .i64 0, .int .i64 0, .bool false, .int .i64 0, .int .i64 0, .bool false, .int .i64 0, .int .i64 0, .bool false] 31 (0, 0))], [(b370, .cells #[.int .i64 0, .int .i64 0, .bool false, .int .i64 0, .int .i64 0, .bool false, .int .i64 0, .int .i64 0, .bool false] 31 (0, 0))]] HS411 L375)), ?_⟩
       have HS413 := HS411.u2
       refine takeGE 6 kr rfl kr (does_call (f := 16) (args := #[.pointer (some ⟨b11, 0, none⟩), .agg #[.int .i64 vt17.X, .int .i64 vt17.Y, .int .i64 vt17.Z]]) kr (spymake_Stream_Near.calls k b11 A2 c3 (⟨l1, vt18⟩ : S_Stream) vt17 HS413 (HR4.mono (L21.trans L375)) vt43 vt44 hc45) ?_)
       rintro _ W416 ⟨f414, rfl, L415, HS417⟩
       refine ⟨_, rfl, ?_⟩
       refine ⟨(Sg.g1 (Sx.of [[(b11, .cells #[.slice A2 l1.length c3, .int .i64 vt44] 26 (0, 0))], [(b409, .cells #[.int .i64 0, .int .i64 0, .bool false, .int .i64 0, .int .i64 0, .bool false, .int .i64 0, .int .i64 0, .bool false] 31 (0, 0))], [(b370, .cells #[.int .i64 0, .int .i64 0, .bool false, .int .i64 0, .int .i64 0, .bool false, .int .i64 0, .int .i64 0, .bool false] 31 (0, 0))]] (L375.trans L415) HS417) (fun hl_ => Bool.noConfusion (show true = false from hl_))), ?_⟩
       refine takeGE 7 kr rfl kr (does_call (f := 14) (args := #[.agg #[.int .i64 vt43.X, .int .i64 vt43.Y, .int .i64 vt43.Z], .int .i64 1]) kr (spykeep3_QueryExact_1.calls k vt43 1 HS417 vt50 hc51) ?_)
       rintro _ W420 ⟨f418, rfl, L419, HS421⟩
       refine ⟨_, rfl, ?_⟩
       refine ⟨(Sg.g1 (Sx.of [[(b11, .cells #[.slice A2 l1.length c3, .int .i64 vt44] 26 (0, 0))], [(b409, .cells #[.int .i64 0, .int .i64 0, .bool false, .int .i64 0, .int .i64 0, .bool false, .int .i64 0, .int .i64 0, .bool false] 31 (0, 0))], [(b370, .cells #[.int .i64 0, .int .i64 0, .bool false, .int .i64 0, .int .i64 0, .bool false, .int .i64 0, .int .i64 0, .bool false] 31 (0, 0))]] (L375.trans (L415.trans L419)) HS421) (fun hl_ => Bool.noConfusion (show true = false from hl_))), ?_⟩
       have HS422 := HS421.u1
       refine takeGE 10 kr rfl kr (does_storeA (vs := [.int .i64 vt37.X.Lo, .int .i64 vt37.X.Hi, .bool vt37.X.Unknown, .int .i64 vt37.Y.Lo, .int .i64 vt37.Y.Hi, .bool vt37.Y.Unknown, .int .i64 vt37.Z.Lo, .int .i64 vt37.Z.Hi, .bool vt37.Z.Unknown]) rfl kr kr kr rfl (ones rfl) HS422 kr ?_)
       intro W423 HS424
       refine ⟨(Sg.g1 (Sx.of [[(b409, .cells #[.int .i64 vt37.X.Lo, .int .i64 vt37.X.Hi, .bool vt37.X.Unknown, .int .i64 vt37.Y.Lo, .int .i64 vt37.Y.Hi, .bool vt37.Y.Unknown, .int .i64 vt37.Z.Lo, .int .i64 vt37.Z.Hi, .bool vt37.Z.Unknown] 31 (0, 0))], [(b11, .cells #[.slice A2 l1.length c3, .int .i64 vt44] 26 (0, 0))], [(b370, .cells #[.int .i64 0, .int .i64 0, .bool false, .int .i64 0, .int .i64 0, .bool false, .int .i64 0, .int .i64 0, .bool false] 31 (0, 0))]] (L375.trans (L415.trans L419)) HS424) (fun hl_ => Bool.noConfusion (show true = false from hl_))), ?_⟩
       have HS425 := HS424.u2
       refine takeGE 11 kr rfl kr (does_storeA (vs := [.int .i64 vt50.X.Lo, .int .i64 vt50.X.Hi, .bool vt50.X.Unknown, .int .i64 vt50.Y.Lo, .int .i64 vt50.Y.Hi, .bool vt50.Y.Unknown, .int .i64 vt50.Z.Lo, .int .i64 vt50.Z.Hi, .bool vt50.Z.Unknown]) rfl kr kr kr rfl (ones rfl) HS425 kr ?_)
       intro W426 HS427
       refine ⟨(Sg.g1 (Sx.of [[(b370, .cells #[.int .i64 vt50.X.Lo, .int .i64 vt50.X.Hi, .bool vt50.X.Unknown, .int .i64 vt50.Y.Lo, .int .i64 vt50.Y.Hi, .bool vt50.Y.Unknown, .int .i64 vt50.Z.Lo, .int .i64 vt50.Z.Hi, .bool vt50.Z.Unknown] 31 (0, 0))], [(b409, .cells #[.int .i64 vt37.X.Lo, .int .i64 vt37.X.Hi, .bool vt37.X.Unknown, .int .i64 vt37.Y.Lo, .int .i64 vt37.Y.Hi, .bool vt37.Y.Unknown, .int .i64 vt37.Z.Lo, .int .i64 vt37.Z.Hi, .bool vt37.Z.Unknown] 31 (0, 0))], [(b11, .cells #[.slice A2 l1.length c3, .int .i64 vt44] 26 (0, 0))]] (L375.trans (L415.trans L419)) HS427) (fun hl_ => Bool.noConfusion (show true = false from hl_))), ?_⟩
       refine hR72 _ _ ?_
       exact J73 f374 f414 f418 b409 b370 W426 _ L375 L415 L419 HS427 kr
   · refine does_alloc (z := Value.agg #[.int .i64 0, .int .i64 0, .bool false, .int .i64 0, .int .i64 0, .bool false, .int .i64 0, .int .i64 0, .bool false]) (cs := #[.int .i64 0, .int .i64 0, .bool false, .int .i64 0, .int .i64 0, .bool false, .int .i64 0, .int .i64 0, .bool false]) rfl kr rfl HS372 ?_
     intro b428 W429 HS430
     refine ⟨(Sg.g1 (Sx.of [[(b428, .cells #[.int .i64 0, .int .i64 0, .bool false, .int .i64 0, .int .i64 0, .bool false, .int .i64 0, .int .i64 0, .bool false] 31 (0, 0))], [(b370, .cells #[.int .i64 0, .int .i64 0, .bool false, .int .i64 0, .int .i64 0, .bool false, .int .i64 0, .int .i64 0, .bool false] 31 (0, 0))], [(b11, .cells #[.slice A2 l1.length c3, .int .i64 vt18] 26 (0, 0))]] fL HS430) (fun _ => St.only [[(b428, .cells #[.int .i64 0, .int .i64 0, .bool false, .int .i64 0, .int .i64 0, .bool false, .int .i64 0, .int .i64 0, .bool false] 31 (0, 0))], [(b370, .cells #[.int .i64 0, .int .i64 0, .bool false, .int .i64 0, .int .i64 0, .bool false, .int .i64 0, .int .i64 0, .bool false] 31 (0, 0))]] HS430 fL)), ?_⟩
     refine takeGE 2 kr rfl kr (does_call (f := 14) (args := #[.agg #[.int .i64 vt17.X, .int .i64 vt17.Y, .int .i64 vt17.Z], .int .i64 1]) kr (spykeep3_QueryExact_1.calls k vt17 1 HS430 vt37 hc38) ?_)
     rintro _ W434 ⟨f432, rfl, L433, HS435⟩
     refine ⟨_, rfl, ?_⟩
     refine ⟨(Sg.g1 (Sx.of [[(b428, .cells #[.int .i64 0, .int .i64 0, .bool false, .int .i64 0, .int .i64 0, .bool false, .int .i64 0, .int .i64 0, .bool false] 31 (0, 0))], [(b370, .cells #[.int .i64 0, .int .i64 0, .bool false, .int .i64 0, .int .i64 0, .bool false, .int .i64 0, .int .i64 0, .bool false] 31 (0, 0))], [(b11, .cells #[.slice A2 l1.length c3, .int .i64 vt18] 26 (0, 0))]] L433 HS435) (fun _ => St.only [[(b428, .cells #[.int .i64 0, .int .i64 0, .bool false, .int .i64 0, .int .i64 0, .bool false, .int .i64 0, .int .i64 0, .bool false] 31 (0, 0))], [(b370, .cells #[.int .i64 0, .int .i64 0, .bool false, .int .i64 0, .int .i64 0, .bool false, .int .i64 0, .int .i64 0, .bool false] 31 (0, 0))]] HS435 L433)), ?_⟩
     have HS436 := HS435.u2
     refine takeGE 6 kr rfl kr (does_call (f := 16) (args := #[.pointer (some ⟨b11, 0, none⟩), .agg #[.int .i64 vt17.X, .int .i64 vt17.Y, .int .i64 vt17.Z]]) kr (spymake_Stream_Near.calls k b11 A2 c3 (⟨l1, vt18⟩ : S_Stream) vt17 HS436 (HR4.mono (L21.trans L433)) vt43 vt44 hc45) ?_)
     rintro _ W439 ⟨f437, rfl, L438, HS440⟩
     refine ⟨_, rfl, ?_⟩
     refine ⟨(Sg.g1 (Sx.of [[(b11, .cells #[.slice A2 l1.length c3, .int .i64 vt44] 26 (0, 0))], [(b428, .cells #[.int .i64 0, .int .i64 0, .bool false, .int .i64 0, .int .i64 0, .bool false, .int .i64 0, .int .i64 0, .bool false] 31 (0, 0))], [(b370, .cells #[.int .i64 0, .int .i64 0, .bool false, .int .i64 0, .int .i64 0, .bool false, .int .i64 0, .int .i64 0, .bool false] 31 (0, 0))]] (L433.trans L438) HS440) (fun hl_ => Bool.noConfusion (show true = false from hl_))), ?_⟩
     refine takeGE 7 kr rfl kr (does_call (f := 14) (args := #[.agg #[.int .i64 vt43.X, .int .i64 vt43.Y, .int .i64 vt43.Z], .int .i64 1]) kr (spykeep3_QueryExact_1.calls k vt43 1 HS440 vt50 hc51) ?_)
     rintro _ W443 ⟨f441, rfl, L442, HS444⟩
     refine ⟨_, rfl, ?_⟩
     refine ⟨(Sg.g1 (Sx.of [[(b11, .cells #[.slice A2 l1.length c3, .int .i64 vt44] 26 (0, 0))], [(b428, .cells #[.int .i64 0, .int .i64 0, .bool false, .int .i64 0, .int .i64 0, .bool false, .int .i64 0, .int .i64 0, .bool false] 31 (0, 0))], [(b370, .cells #[.int .i64 0, .int .i64 0, .bool false, .int .i64 0, .int .i64 0, .bool false, .int .i64 0, .int .i64 0, .bool false] 31 (0, 0))]] (L433.trans (L438.trans L442)) HS444) (fun hl_ => Bool.noConfusion (show true = false from hl_))), ?_⟩
     have HS445 := HS444.u1
     refine takeGE 10 kr rfl kr (does_storeA (vs := [.int .i64 vt37.X.Lo, .int .i64 vt37.X.Hi, .bool vt37.X.Unknown, .int .i64 vt37.Y.Lo, .int .i64 vt37.Y.Hi, .bool vt37.Y.Unknown, .int .i64 vt37.Z.Lo, .int .i64 vt37.Z.Hi, .bool vt37.Z.Unknown]) rfl kr kr kr rfl (ones rfl) HS445 kr ?_)
     intro W446 HS447
     refine ⟨(Sg.g1 (Sx.of [[(b428, .cells #[.int .i64 vt37.X.Lo, .int .i64 vt37.X.Hi, .bool vt37.X.Unknown, .int .i64 vt37.Y.Lo, .int .i64 vt37.Y.Hi, .bool vt37.Y.Unknown, .int .i64 vt37.Z.Lo, .int .i64 vt37.Z.Hi, .bool vt37.Z.Unknown] 31 (0, 0))], [(b11, .cells #[.slice A2 l1.length c3, .int .i64 vt44] 26 (0, 0))], [(b370, .cells #[.int .i64 0, .int .i64 0, .bool false, .int .i64 0, .int .i64 0, .bool false, .int .i64 0, .int .i64 0, .bool false] 31 (0, 0))]] (L433.trans (L438.trans L442)) HS447) (fun hl_ => Bool.noConfusion (show true = false from hl_))), ?_⟩
     have HS448 := HS447.u2
     refine takeGE 11 kr rfl kr (does_storeA (vs := [.int .i64 vt50.X.Lo, .int .i64 vt50.X.Hi, .bool vt50.X.Unknown, .int .i64 vt50.Y.Lo, .int .i64 vt50.Y.Hi, .bool vt50.Y.Unknown, .int .i64 vt50.Z.Lo, .int .i64 vt50.Z.Hi, .bool vt50.Z.Unknown]) rfl kr kr kr rfl (ones rfl) HS448 kr ?_)
     intro W449 HS450
     refine ⟨(Sg.g1 (Sx.of [[(b370, .cells #[.int .i64 vt50.X.Lo, .int .i64 vt50.X.Hi, .bool vt50.X.Unknown, .int .i64 vt50.Y.Lo, .int .i64 vt50.Y.Hi, .bool vt50.Y.Unknown, .int .i64 vt50.Z.Lo, .int .i64 vt50.Z.Hi, .bool vt50.Z.Unknown] 31 (0, 0))], [(b428, .cells #[.int .i64 vt37.X.Lo, .int .i64 vt37.X.Hi, .bool vt37.X.Unknown, .int .i64 vt37.Y.Lo, .int .i64 vt37.Y.Hi, .bool vt37.Y.Unknown, .int .i64 vt37.Z.Lo, .int .i64 vt37.Z.Hi, .bool vt37.Z.Unknown] 31 (0, 0))], [(b11, .cells #[.slice A2 l1.length c3, .int .i64 vt44] 26 (0, 0))]] (L433.trans (L438.trans L442)) HS450) (fun hl_ => Bool.noConfusion (show true = false from hl_))), ?_⟩
     refine hR72 _ _ ?_
     exact J73 f432 f437 f441 b428 b370 W449 _ L433 L438 L442 HS450 kr

end Go.Sp.Q4
