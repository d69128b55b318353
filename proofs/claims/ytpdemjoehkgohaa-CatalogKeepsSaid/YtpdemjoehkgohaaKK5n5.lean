import Derived.Test.YtpdemjoehkgohaaProg
import Derived.Test.YtpdemjoehkgohaaSpCopy
import Derived.Test.YtpdemjoehkgohaaFK5
import Derived.Test.YtpdemjoehkgohaaSpSort
import Derived.Test.YtpdemjoehkgohaaShelf
import Derived.Test.YtpdemjoehkgohaaSpMapR
import Derived.Test.YtpdemjoehkgohaaSpKeys
import Derived.Test.YtpdemjoehkgohaaKK5n0
import Derived.Test.YtpdemjoehkgohaaKK5n1
import Derived.Test.YtpdemjoehkgohaaKK5n2
import Derived.Test.YtpdemjoehkgohaaKK5n3
import Derived.Test.YtpdemjoehkgohaaKK5n4
namespace Go.Sp.K5
open Go Go.Sp Go.Proofs
set_option linter.unusedVariables false
attribute [local irreducible] wpList AnyL Code.wp Calls Does
set_option maxRecDepth 100000 in
set_option maxHeartbeats 4000000 in
theorem spykeep3_Versions.calls (k : Nat) (b1 : Nat) (A4 : Option Addr) (c5 : Nat) (s3 : S_Stream) (n7 : Int) {t w : World} {f : FM} {H : List Seg} (HS : St t w f ([(b1, .cells #[.slice A4 s3.L.length c5, .int .i64 s3.vat] 25 (0, 0))] :: H)) (HR6 : SlR (tInt .i64) f A4 c5 s3.L) (rr1 : S_Catalog) (rr2 : List (List S_Row)) (rr3 : Bool) (rr4 : Int) (h : spykeep3_Versions k s3 n7 = some (rr1, rr2, rr3, rr4)) :
    Calls Try.prog 16 #[.pointer (some ⟨b1, 0, none⟩), .int .i64 n7] w (fun e w' => ∃ (g : FM) (A1068 : Option Addr) (c1069 : Nat) (A1070 : Option Addr) (c1071 : Nat) (s1072 : Seg), e = .returned (Value.tuple #[.agg #[.slice A1068 rr1.Commits.length c1069], .slice A1070 rr2.length c1071, .bool rr3]) ∧ FM.le f g ∧ St t w' g (s1072 :: [(b1, .cells #[.slice A4 s3.L.length c5, .int .i64 rr4] 25 (0, 0))] :: H) ∧ SlR (tSl ty_Change) g A1068 c1069 rr1.Commits ∧ Own (tSl ty_Row) 26 g A1070 c1071 s1072 rr2) := by
 unfold spykeep3_Versions at h
 refine enter Try.func16 rfl (tm := #[pV b1 0, iV n7, uV, uV, uV, uV, uV, uV, uV, uV, uV, uV, uV, uV, uV, uV, uV, uV, uV, uV, uV, uV, uV, uV, uV, uV, uV, uV, uV, uV, uV, uV, uV, uV, uV, uV, uV, uV, uV, uV, uV, uV, uV, uV, uV, uV, uV, uV, uV, uV, uV, uV, uV, uV, uV, uV, uV, uV, uV, uV, uV, uV, uV, uV, uV, uV, uV, uV, uV, uV, uV, uV, uV, uV, uV, uV, uV, uV, uV, uV, uV, uV, uV, uV, uV, uV, uV]) (by kernel_rfl) ?_
 intro B hret hnor hnp
 refine wp_seq_k (fun K8 hK9 => ?_)
 refine wp_region_lit ?_
 refine seqK rfl (does_alloc (z := Value.agg #[.slice none 0 0]) (cs := #[.slice none 0 0]) rfl (by kernel_rfl) rfl HS ?_)
 intro b10 W11 HS12
 refine seqL2 (by kernel_rfl) ?_
 refine wpList_nil ?_
 refine hK9 _ _ ?_
 refine wp_seq_k (fun K14 hK15 => ?_)
 refine wp_region_lit ?_
 refine seqK rfl (does_alloc (z := Value.agg #[.slice none 0 0]) (cs := #[.slice none 0 0]) rfl (by kernel_rfl) rfl HS12 ?_)
 intro b16 W17 HS18
 refine wpList_nil ?_
 refine hK15 _ _ ?_
 refine wp_seq_k (fun K20 hK21 => ?_)
 refine wp_region_lit ?_
 refine seqK rfl (does_lit (e := (tSl ty_Row)) (E := 26) (vs := #[(0, Value.slice none 0 0)]) (cs := #[.slice none 0 0]) (xs := ([([] : List S_Row)] : List (List S_Row))) rfl Try.underlying47 (by kernel_rfl) (by kernel_rfl) ⟨[.slice none 0 0], _, rfl, ⟨none, 0, rfl, (SlR.nil _ _)⟩, rfl⟩ rfl HS18 ?_ (by decide))
 intro b22 W23 s24 HS25 _ HO26
 refine seqL1 (by kernel_rfl) ?_
 refine wpList_nil ?_
 refine hK21 _ _ ?_
 refine wp_seq_k (fun K28 hK29 => ?_)
 refine wp_seq_k (fun K30 hK31 => ?_)
 refine wp_region_lit ?_
 refine seqL2 (by kernel_rfl) ?_
 refine wpList_nil ?_
 refine hK31 _ _ ?_
 refine blockK (fun B32 hx33 hn34 hr35 ho36 hp37 => ?_)
 have hq_ := bind_some h; clear h; obtain ⟨o494, hv986, h⟩ := hq_
 have JR988 : ∀ z_, some (Sum.inl z_) = some o494 → some z_ = some (rr1, rr2, rr3, rr4) := by
  intro z_ e_; injection e_ with e_; subst e_; exact h
 have J987 : ∀ (f969 : FM) (A975 : Option Addr) (c976 : Nat) (s977 : Seg) (A980 : Option Addr) (c981 : Nat) (s982 : Seg) (vall974 : List (List S_Row)) (x979 : List (List S_Change)) (x985 : Int) (j973 : Nat → Value) (W971 : World) (a_ : Act), FM.le f f969 → some (Sum.inr (vall974, x979, x985)) = some o494 → St t W971 f969 (s982 :: s977 :: [(b16, .cells #[.slice A980 x979.length c981] 34 (0, 0))] :: [(b10, .cells #[.slice none 0 0] 34 (0, 0))] :: [(b1, .cells #[.slice A4 s3.L.length c5, .int .i64 x985] 25 (0, 0))] :: H) → Own (tSl ty_Row) 26 f969 A975 c976 s977 vall974 → Own (tSl ty_Change) 28 f969 A980 c981 s982 x979 → a_ = ⟨#[pV b1 0, iV n7, uV, uV, pV b10 0, (j973 0), (j973 1), pV b16 0, .slice A975 vall974.length c976, (j973 2), (j973 3), uV, (j973 4), (j973 5), (j973 6), (j973 7), (j973 8), (j973 9), .slice (some ⟨b22, 0, none⟩) ([([] : List S_Row)] : List (List S_Row)).length 1, iV n7, (j973 10), (j973 11), (j973 12), (j973 13), (j973 14), (j973 15), (j973 16), (j973 17), (j973 18), (j973 19), (j973 20), (j973 21), (j973 22), (j973 23), (j973 24), (j973 25), (j973 26), (j973 27), (j973 28), (j973 29), (j973 30), (j973 31), (j973 32), (j973 33), (j973 34), (j973 35), (j973 36), (j973 37), (j973 38), (j973 39), (j973 40), (j973 41), (j973 42), (j973 43), (j973 44), (j973 45), (j973 46), (j973 47), (j973 48), (j973 49), (j973 50), (j973 51), (j973 52), (j973 53), (j973 54), (j973 55), (j973 56), (j973 57), (j973 58), (j973 59), (j973 60), (j973 61), (j973 62), (j973 63), (j973 64), (j973 65), (j973 66), (j973 67), (j973 68), (j973 69), (j973 70), (j973 71), (j973 72), (j973 73), (j973 74), uV, uV], []⟩ → K28 a_ W971 := by
  intro f969 A975 c976 s977 A980 c981 s982 vall974 x979 x985 j973 W971 a_ L970 hj989 HS972 HO978 HO983 hfr_; subst hfr_
  injection hj989 with hj989; subst hj989; try dsimp only at h
  simp only [Sum.elim_inr] at h
  refine hK29 _ _ ?_
  refine wp_seq_k (fun K1001 hK1002 => ?_)
  refine wp_region_lit ?_
  refine seqK rfl (does_run (run_loadN (n := 1) rfl Try.underlying34 rfl (by kernel_rfl) (by kernel_rfl : _ = Value.pointer (some ⟨b16, 0, none⟩)) (cs := [.slice A980 x979.length c981]) rfl (HS972.u2.cells 0 1 _ rfl)) ?_)
  have HS1003 := HS972.u3
  refine seqL1 (by kernel_rfl) ?_
  refine seqK rfl (does_store (n := 1) (vs := [.slice A980 x979.length c981]) (cs' := #[.slice A980 x979.length c981]) rfl (by kernel_rfl) (by kernel_rfl : _ = Value.pointer (some ⟨b10, 0, none⟩)) (by kernel_rfl : _ = Value.agg #[.slice A980 x979.length c981]) rfl rfl (by intro u_ hu_; simp only [List.mem_cons, List.not_mem_nil, or_false] at hu_; subst hu_; rfl) HS1003 (Nat.le_of_ble_eq_true rfl) (by kernel_rfl) ?_)
  intro W1004 HS1005
  refine seqL2 (by kernel_rfl) ?_
  refine wpList_nil ?_
  refine hK1002 _ _ ?_
  refine wp_ret ?_
  refine hret _ _ ?_
  have HS1057 := HS1005.u1
  obtain ⟨f1058, L1059, HS1060, HR1061⟩ := HO983.freeze HS1057
  refine ends (v := Value.tuple #[.agg #[.slice A980 x979.length c981], .slice A975 vall974.length c976, .bool true]) (results3 (q1 := .cell 4 34) (q2 := .tmp 5) (q3 := .tmp 6) (by kernel_rfl) (resN (n := 1) (cs := [.slice A980 x979.length c981]) (by kernel_rfl : _ = Value.pointer (some ⟨b10, 0, none⟩)) Try.underlying34 rfl (by kernel_rfl) rfl (HS1060.cells 0 1 _ rfl)) (resT (by kernel_rfl : _ = Value.slice A975 vall974.length c976)) (resT (by kernel_rfl : _ = Value.bool true))) (by kernel_rfl) ?_
  have HS1062 := HS1060.u3
  have HS1063 := HS1062.u2
  have HS1064 := HS1063.u3
  have HS1065 := HS1064.u3
  have HS1066 := HS1065.drop
  have HS1067 := HS1066.drop
  injection h with h
  injection h with h0_ h
  injection h with h1_ h
  injection h with h2_ h
  subst h0_ h1_ h2_ h
  exact ⟨f1058, A980, c981, A975, c976, s977, rfl, (L970.trans L1059), HS1067, HR1061, (HO978.mono L1059)⟩
 clear h; have h := hv986; clear hv986
 have HS990 := HS25.cons_nil
 refine loopK (fun n_ a_ w_ => ∃ (f498 : FM) (A504 : Option Addr) (c505 : Nat) (s506 : Seg) (A510 : Option Addr) (c511 : Nat) (s512 : Seg) (vall503 : List (List S_Row)) (x508 : Int) (x509 : List (List S_Change)) (x515 : Int) (j502 : Nat → Value), FM.le f f498 ∧ St t w_ f498 (s512 :: s506 :: [(b16, .cells #[.slice A510 x509.length c511] 34 (0, 0))] :: [(b10, .cells #[.slice none 0 0] 34 (0, 0))] :: [(b1, .cells #[.slice A4 s3.L.length c5, .int .i64 x515] 25 (0, 0))] :: H) ∧ Own (tSl ty_Row) 26 f498 A504 c505 s506 vall503 ∧ Own (tSl ty_Change) 28 f498 A510 c511 s512 x509 ∧ spykeep3_Versions.l0 k n7 s3 n_ vall503 x508 x509 x515 = some o494 ∧ a_ = ⟨#[pV b1 0, iV n7, uV, uV, pV b10 0, (j502 0), (j502 1), pV b16 0, .slice A504 vall503.length c505, (j502 2), (j502 3), uV, (j502 4), (j502 5), (j502 6), (j502 7), (j502 8), (j502 9), .slice (some ⟨b22, 0, none⟩) ([([] : List S_Row)] : List (List S_Row)).length 1, iV n7, iV x508, (j502 10), (j502 11), (j502 12), (j502 13), (j502 14), (j502 15), (j502 16), (j502 17), (j502 18), (j502 19), (j502 20), (j502 21), (j502 22), (j502 23), (j502 24), (j502 25), (j502 26), (j502 27), (j502 28), (j502 29), (j502 30), (j502 31), (j502 32), (j502 33), (j502 34), (j502 35), (j502 36), (j502 37), (j502 38), (j502 39), (j502 40), (j502 41), (j502 42), (j502 43), (j502 44), (j502 45), (j502 46), (j502 47), (j502 48), (j502 49), (j502 50), (j502 51), (j502 52), (j502 53), (j502 54), (j502 55), (j502 56), (j502 57), (j502 58), (j502 59), (j502 60), (j502 61), (j502 62), (j502 63), (j502 64), (j502 65), (j502 66), (j502 67), (j502 68), (j502 69), (j502 70), (j502 71), (j502 72), (j502 73), uV, uV], []⟩) k ⟨f, (some ⟨b22, 0, none⟩), 1, s24, none, 0, [], ([([] : List S_Row)] : List (List S_Row)), 0, ([] : List (List S_Change)), s3.vat, (fun i_ => [Value.slice none 0 0, Value.bool false, undef, undef, undef, undef, undef, undef, undef, undef, undef, undef, undef, undef, undef, undef, undef, undef, undef, undef, undef, undef, undef, undef, undef, undef, undef, undef, undef, undef, undef, undef, undef, undef, undef, undef, undef, undef, undef, undef, undef, undef, undef, undef, undef, undef, undef, undef, undef, undef, undef, undef, undef, undef, undef, undef, undef, undef, undef, undef, undef, undef, undef, undef, undef, undef, undef, undef, undef, undef, undef, undef, undef, undef].getD i_ undef), (FM.le.refl _), HS990, HO26, (Own.nil _), h, (by kernel_rfl)⟩ ?_
 clear h
 rintro n497 _ W500 ⟨f498, A504, c505, s506, A510, c511, s512, vall503, x508, x509, x515, j502, L499, HS501, HO507, HO513, h, rfl⟩ K495 hK496
 obtain _ | n497 := n497
 · exact nomatch h
 simp only [spykeep3_Versions.l0] at h
 refine wp_seq_k (fun K516 hK517 => ?_)
 refine wp_region_lit ?_
 refine seqL1 (by kernel_rfl) ?_
 refine wpList_nil ?_
 refine hK517 _ _ ?_
 refine wp_seq_k (fun K518 hK519 => ?_)
 have hq_ := ite_some h; clear h; rcases hq_ with ⟨c521, h⟩ | ⟨c521, h⟩
 · have c521 : x508 < n7 := c521
   refine wpRwI 21 (x := (decide (x508 < n7))) (v := true) (by kernel_rfl) (decide_eq_true c521) ?_
   refine condT (by kernel_rfl) ?_
   refine wp_skip ?_
   refine hK519 _ _ ?_
   refine wp_seq_k (fun K522 hK523 => ?_)
   refine blockK (fun B524 hx525 hn526 hr527 ho528 hp529 => ?_)
   refine wp_seq_k (fun K531 hK532 => ?_)
   refine wp_region_lit ?_
   have hq_ := guard_some h; clear h; obtain ⟨c533, h⟩ := hq_
   have c533 : 0 ≤ (w64 ((vall503.length : Int) - 1)) := c533
   have hq_ := guard_some h; clear h; obtain ⟨c534, h⟩ := hq_
   have c534 : (w64 ((vall503.length : Int) - 1)) < (vall503.length : Int) := c534
   obtain ⟨b538, of539, cs535, hA540, hr536, hc537⟩ := HO507.at (i := w64 ((vall503.length : Int) - 1)) c533 c534
   obtain ⟨A541, c541, rfl, HR541⟩ := hr536
   refine seqL4 (by kernel_rfl) ?_
   refine seqK rfl (does_run (run_indexE hA540 (sz := 1) rfl Try.underlying47 (by kernel_rfl) (by kernel_rfl : _ = Value.slice A504 vall503.length c505) (by kernel_rfl : _ = Value.int .i64 (w64 ((vall503.length : Int) - 1))) c533 c534 W500) ?_)
   refine seqK rfl (does_run (run_load rfl Try.underlying26 rfl (by kernel_rfl : _ = Value.pointer (some ⟨b538, of539 + (w64 ((vall503.length : Int) - 1) : Int).toNat * 1, none⟩)) ((hc537 HS501.u1) 0 (by decide))) ?_)
   refine seqL1 (by kernel_rfl) ?_
   refine wpList_nil ?_
   refine hK532 _ _ ?_
   refine wp_seq_k (fun K542 hK543 => ?_)
   refine wp_region_lit ?_
   refine seqL1 (by kernel_rfl) ?_
   refine wpList_nil ?_
   refine hK543 _ _ ?_
   refine wp_seq_k (fun K544 hK545 => ?_)
   refine wp_seq_k (fun K546 hK547 => ?_)
   refine wp_region_lit ?_
   have HS548 := HS501.u4
   have hq_ := bind_some h; clear h; obtain ⟨⟨vt549, vt550⟩, hc551, h⟩ := hq_
   refine seqL1 (by kernel_rfl) ?_
   refine seqK rfl (does_call (f := 7) (args := #[.pointer (some ⟨b1, 0, none⟩), .int .i64 6]) (by kernel_rfl) (spymake_Stream_Rows.calls k b1 A4 c5 (⟨s3.L, x515⟩ : S_Stream) 6 HS548 (HR6.mono L499) vt549 vt550 hc551) ?_)
   rintro _ W554 ⟨f552, A556, c557, s558, rfl, L553, HS555, HO559⟩
   refine ⟨_, rfl, ?_⟩
   refine seqL2 (by kernel_rfl) ?_
   refine wpList_nil ?_
   refine hK547 _ _ ?_
   refine blockK (fun B561 hx562 hn563 hr564 ho565 hp566 => ?_)
   have hq_ := bind_some h; clear h; obtain ⟨o694, hv834, h⟩ := hq_
   have J835 : ∀ (f822 : FM) (A828 : Option Addr) (c829 : Nat) (s830 : Seg) (rows827 : List S_Row) (x833 : Int) (j826 : Nat → Value) (W824 : World) (a_ : Act), FM.le f552 f822 → some ((rows827, x833)) = some o694 → St t W824 f822 (s830 :: s558 :: [(b1, .cells #[.slice A4 s3.L.length c5, .int .i64 x833] 25 (0, 0))] :: s512 :: s506 :: [(b16, .cells #[.slice A510 x509.length c511] 34 (0, 0))] :: [(b10, .cells #[.slice none 0 0] 34 (0, 0))] :: H) → Own ty_Row 65 f822 A828 c829 s830 rows827 → a_ = ⟨#[pV b1 0, iV n7, uV, uV, pV b10 0, (j502 0), (j502 1), pV b16 0, .slice A504 vall503.length c505, .slice A541 (rd vall503 (w64 ((vall503.length : Int) - 1))).length c541, .slice A828 rows827.length c829, uV, (j826 0), (j826 1), (j502 6), (j502 7), (j502 8), (j502 9), .slice (some ⟨b22, 0, none⟩) ([([] : List S_Row)] : List (List S_Row)).length 1, iV n7, iV x508, tV, .slice A504 vall503.length c505, .slice A504 vall503.length c505, iV (vall503.length : Int), iV (w64 ((vall503.length : Int) - 1)), pV b538 (of539 + (w64 ((vall503.length : Int) - 1) : Int).toNat * 1), .slice A541 (rd vall503 (w64 ((vall503.length : Int) - 1))).length c541, pV b1 0, .slice A556 vt549.length c557, iV (vt549.length : Int), (j826 2), (j826 3), (j826 4), (j826 5), (j826 6), (j826 7), (j826 8), (j826 9), (j826 10), (j826 11), (j826 12), (j826 13), (j826 14), (j826 15), (j826 16), (j826 17), (j826 18), (j826 19), (j826 20), (j826 21), (j826 22), (j826 23), (j826 24), (j502 43), (j502 44), (j502 45), (j502 46), (j502 47), (j502 48), (j502 49), (j502 50), (j502 51), (j502 52), (j502 53), (j502 54), (j502 55), (j502 56), (j502 57), (j502 58), (j502 59), (j502 60), (j502 61), (j502 62), (j502 63), (j502 64), (j502 65), (j502 66), (j502 67), (j502 68), (j502 69), (j502 70), (j502 71), (j502 72), (j502 73), uV, uV], []⟩ → K544 a_ W824 := by
    intro f822 A828 c829 s830 rows827 x833 j826 W824 a_ L823 hj836 HS825 HO831 hfr_; subst hfr_
    injection hj836 with hj836; subst hj836; try dsimp only at h
    refine hK545 _ _ ?_
    refine wp_seq_k (fun K866 hK867 => ?_)
    refine wp_region_lit ?_
    obtain ⟨f868, L869, HS870, HR871⟩ := HO831.freeze HS825
    have hq_ := bind_some h; clear h; obtain ⟨⟨vt872, vt873⟩, hc874, h⟩ := hq_
    refine seqL2 (by kernel_rfl) ?_
    refine seqK rfl (does_call (f := 8) (args := #[.slice A541 (rd vall503 (w64 ((vall503.length : Int) - 1))).length c541, .slice A828 rows827.length c829]) (by kernel_rfl) (catalog_Diff.calls k A541 c541 A828 c829 (rd vall503 (w64 ((vall503.length : Int) - 1))) rows827 HS870 (HR541.mono (L553.trans (L823.trans L869))) HR871 vt872 vt873 hc874) ?_)
    rintro _ W877 ⟨f875, A879, c880, s881, rfl, L876, HS878, HO882⟩
    refine ⟨_, rfl, ?_⟩
    refine seqL5 (by kernel_rfl) ?_
    refine wpList_nil ?_
    refine hK867 _ _ ?_
    refine wp_seq_k (fun K884 hK885 => ?_)
    refine wp_seq_k (fun K886 hK887 => ?_)
    refine wp_region_lit ?_
    refine seqL2 (by kernel_rfl) ?_
    refine wpList_nil ?_
    refine hK887 _ _ ?_
    have hq_ := ite_some h; clear h; rcases hq_ with ⟨c889, h⟩ | ⟨c889, h⟩
    · have c889 : vt873 ≠ 0 := c889
      refine wpRwI 61 (x := (vt873 != 0)) (v := true) (by kernel_rfl) (bne_iff_ne.mpr c889) ?_
      refine condT (by kernel_rfl) ?_
      refine wp_seq_k (fun K890 hK891 => ?_)
      refine wp_region_lit ?_
      refine seqK rfl (does_run (run_loadN (n := 1) rfl Try.underlying34 rfl (by kernel_rfl) (by kernel_rfl : _ = Value.pointer (some ⟨b16, 0, none⟩)) (cs := [.slice A510 x509.length c511]) rfl (HS878.u5.cells 0 1 _ rfl)) ?_)
      have HS892 := HS878.u6
      refine seqK rfl (does_store (n := 1) (vs := [.slice A510 x509.length c511]) (cs' := #[.slice A510 x509.length c511]) rfl (by kernel_rfl) (by kernel_rfl : _ = Value.pointer (some ⟨b10, 0, none⟩)) (by kernel_rfl : _ = Value.agg #[.slice A510 x509.length c511]) rfl rfl (by intro u_ hu_; simp only [List.mem_cons, List.not_mem_nil, or_false] at hu_; subst hu_; rfl) HS892 (Nat.le_of_ble_eq_true rfl) (by kernel_rfl) ?_)
      intro W893 HS894
      refine seqL2 (by kernel_rfl) ?_
      refine wpList_nil ?_
      refine hK891 _ _ ?_
      refine wp_ret ?_
      refine hr527 _ _ ?_
      refine hr35 _ _ ?_
      refine hret _ _ ?_
      have HS1006 := HS894.u4
      obtain ⟨f1007, L1008, HS1009, HR1010⟩ := (HO513.mono (L553.trans (L823.trans (L869.trans L876)))).freeze HS1006
      have HS1011 := HS1009.cons_nil
      refine ends (v := Value.tuple #[.agg #[.slice A510 x509.length c511], .slice none 0 0, .bool false]) (results3 (q1 := .cell 4 34) (q2 := .tmp 5) (q3 := .tmp 6) (by kernel_rfl) (resN (n := 1) (cs := [.slice A510 x509.length c511]) (by kernel_rfl : _ = Value.pointer (some ⟨b10, 0, none⟩)) Try.underlying34 rfl (by kernel_rfl) rfl (HS1011.u1.cells 0 1 _ rfl)) (resT (by kernel_rfl : _ = Value.slice none 0 0)) (resT (by kernel_rfl : _ = Value.bool false))) (by kernel_rfl) ?_
      have HS1013 := HS1011.u4
      have HS1014 := HS1013.u1
      have HS1015 := HS1014.u6
      have HS1016 := HS1015.u6
      have HS1017 := HS1016.u6
      have HS1018 := HS1017.u6
      have HS1019 := HS1018.u6
      have HS1020 := HS1019.drop
      have HS1021 := HS1020.drop
      have HS1022 := HS1021.drop
      have HS1023 := HS1022.drop
      have HS1024 := HS1023.drop
      replace h := JR988 _ h
      injection h with h
      injection h with h0_ h
      injection h with h1_ h
      injection h with h2_ h
      subst h0_ h1_ h2_ h
      exact ⟨f1007, A510, c511, none, 0, [], rfl, (L499.trans (L553.trans (L823.trans (L869.trans (L876.trans L1008))))), HS1024, HR1010, (Own.nil _)⟩
    · have c889 : ¬ (vt873 ≠ 0) := c889
      refine wpRwI 61 (x := (vt873 != 0)) (v := false) (by kernel_rfl) (bne_eq_false_iff_eq.mpr (Decidable.of_not_not c889)) ?_
      refine condF (by kernel_rfl) ?_
      refine wp_skip ?_
      refine hK885 _ _ ?_
      refine wp_seq_k (fun K895 hK896 => ?_)
      refine wp_region_lit ?_
      refine seqK rfl (does_run (run_loadN (n := 1) rfl Try.underlying34 rfl (by kernel_rfl) (by kernel_rfl : _ = Value.pointer (some ⟨b16, 0, none⟩)) (cs := [.slice A510 x509.length c511]) rfl (HS878.u5.cells 0 1 _ rfl)) ?_)
      have HS897 := HS878.u3
      obtain ⟨f898, L899, HS900, HR901⟩ := (HO513.mono (L553.trans (L823.trans (L869.trans L876)))).freeze HS897
      obtain ⟨f902, L903, HS904, HR905⟩ := (HO882.mono L899).freeze HS900
      have hq_ := bind_some h; clear h; obtain ⟨⟨vt906, vt907, vt908⟩, hc909, h⟩ := hq_
      refine seqL1 (by kernel_rfl) ?_
      refine seqK rfl (does_call (f := 9) (args := #[.agg #[.slice A510 x509.length c511], .slice A879 vt872.length c880]) (by kernel_rfl) (catalog_Commit.calls k A510 c511 A879 c880 (⟨x509⟩ : S_Catalog) vt872 HS904 (HR901.mono L903) HR905 vt906 vt907 vt908 hc909) ?_)
      rintro _ W912 ⟨f910, A914, c915, s916, rfl, L911, HS913, HO917⟩
      refine ⟨_, rfl, ?_⟩
      refine seqL4 (by kernel_rfl) ?_
      refine seqK rfl (does_alloc (z := Value.agg #[.slice none 0 0]) (cs := #[.slice none 0 0]) rfl (by kernel_rfl) rfl HS913 ?_)
      intro b919 W920 HS921
      refine seqK rfl (does_store (n := 1) (vs := [.slice A914 vt906.Commits.length c915]) (cs' := #[.slice A914 vt906.Commits.length c915]) rfl (by kernel_rfl) (by kernel_rfl : _ = Value.pointer (some ⟨b919, 0, none⟩)) (by kernel_rfl : _ = Value.agg #[.slice A914 vt906.Commits.length c915]) rfl rfl (by intro u_ hu_; simp only [List.mem_cons, List.not_mem_nil, or_false] at hu_; subst hu_; rfl) HS921 (Nat.le_of_ble_eq_true rfl) (by kernel_rfl) ?_)
      intro W923 HS924
      refine seqS2 (a' := ⟨#[pV b1 0, iV n7, uV, uV, pV b10 0, (j502 0), (j502 1), pV b16 0, .slice A504 vall503.length c505, .slice A541 (rd vall503 (w64 ((vall503.length : Int) - 1))).length c541, .slice A828 rows827.length c829, uV, (j826 0), (j826 1), .slice A879 vt872.length c880, iV vt908, pV b919 0, iV vt907, .slice (some ⟨b22, 0, none⟩) ([([] : List S_Row)] : List (List S_Row)).length 1, iV n7, iV x508, tV, .slice A504 vall503.length c505, .slice A504 vall503.length c505, iV (vall503.length : Int), iV (w64 ((vall503.length : Int) - 1)), pV b538 (of539 + (w64 ((vall503.length : Int) - 1) : Int).toNat * 1), .slice A541 (rd vall503 (w64 ((vall503.length : Int) - 1))).length c541, pV b1 0, .slice A556 vt549.length c557, iV (vt549.length : Int), (j826 2), (j826 3), (j826 4), (j826 5), (j826 6), (j826 7), (j826 8), (j826 9), (j826 10), (j826 11), (j826 12), (j826 13), (j826 14), (j826 15), (j826 16), (j826 17), (j826 18), (j826 19), (j826 20), (j826 21), (j826 22), (j826 23), (j826 24), .tuple #[.slice A879 vt872.length c880, iV vt873], .slice A541 (rd vall503 (w64 ((vall503.length : Int) - 1))).length c541, .slice A828 rows827.length c829, .tuple #[.slice A879 vt872.length c880, iV vt873], .slice A879 vt872.length c880, iV vt873, iV vt873, fV, (j502 51), .tuple #[.agg #[.slice A914 vt906.Commits.length c915], iV vt907, iV vt908], .agg #[.slice A510 x509.length c511], .slice A879 vt872.length c880, .tuple #[.agg #[.slice A914 vt906.Commits.length c915], iV vt907, iV vt908], .agg #[.slice A914 vt906.Commits.length c915], iV vt907, iV vt908, (j502 59), (j502 60), (j502 61), (j502 62), (j502 63), (j502 64), (j502 65), (j502 66), (j502 67), (j502 68), (j502 69), (j502 70), (j502 71), (j502 72), (j502 73), uV, uV], []⟩) (by kernel_rfl) ?_
      refine wpList_nil ?_
      refine hK896 _ _ ?_
      refine wp_seq_k (fun K925 hK926 => ?_)
      refine wp_seq_k (fun K927 hK928 => ?_)
      refine wp_region_lit ?_
      refine seqL3 (by kernel_rfl) ?_
      have hq_ := ite_some h; clear h; rcases hq_ with ⟨c929, h⟩ | ⟨c929, h⟩
      · have c929 : vt908 ≠ 0 := c929
        refine seqRwI 71 (x := (vt908 != 0)) (v := true) (by kernel_rfl) (bne_iff_ne.mpr c929) ?_
        refine seqRwI 72 (x := (vt908 != 0)) (v := true) (by kernel_rfl) (bne_iff_ne.mpr c929) ?_
        refine seqL5 (by kernel_rfl) ?_
        refine wpList_nil ?_
        refine hK928 _ _ ?_
        refine condT (by kernel_rfl) ?_
        refine wp_seq_k (fun K930 hK931 => ?_)
        refine wp_region_lit ?_
        refine seqK rfl (does_run (run_loadN (n := 1) rfl Try.underlying34 rfl (by kernel_rfl) (by kernel_rfl : _ = Value.pointer (some ⟨b16, 0, none⟩)) (cs := [.slice A510 x509.length c511]) rfl (HS924.u5.cells 0 1 _ rfl)) ?_)
        have HS932 := HS924.u6
        refine seqK rfl (does_store (n := 1) (vs := [.slice A510 x509.length c511]) (cs' := #[.slice A510 x509.length c511]) rfl (by kernel_rfl) (by kernel_rfl : _ = Value.pointer (some ⟨b10, 0, none⟩)) (by kernel_rfl : _ = Value.agg #[.slice A510 x509.length c511]) rfl rfl (by intro u_ hu_; simp only [List.mem_cons, List.not_mem_nil, or_false] at hu_; subst hu_; rfl) HS932 (Nat.le_of_ble_eq_true rfl) (by kernel_rfl) ?_)
        intro W933 HS934
        refine seqL2 (by kernel_rfl) ?_
        refine wpList_nil ?_
        refine hK931 _ _ ?_
        refine wp_ret ?_
        refine hr527 _ _ ?_
        refine hr35 _ _ ?_
        refine hret _ _ ?_
        have HS1025 := HS934.cons_nil
        refine ends (v := Value.tuple #[.agg #[.slice A510 x509.length c511], .slice none 0 0, .bool false]) (results3 (q1 := .cell 4 34) (q2 := .tmp 5) (q3 := .tmp 6) (by kernel_rfl) (resN (n := 1) (cs := [.slice A510 x509.length c511]) (by kernel_rfl : _ = Value.pointer (some ⟨b10, 0, none⟩)) Try.underlying34 rfl (by kernel_rfl) rfl (HS1025.u1.cells 0 1 _ rfl)) (resT (by kernel_rfl : _ = Value.slice none 0 0)) (resT (by kernel_rfl : _ = Value.bool false))) (by kernel_rfl) ?_
        have HS1027 := HS1025.u5
        have HS1028 := HS1027.u1
        have HS1029 := HS1028.u7
        have HS1030 := HS1029.u7
        have HS1031 := HS1030.u7
        have HS1032 := HS1031.u7
        have HS1033 := HS1032.u7
        have HS1034 := HS1033.u7
        have HS1035 := HS1034.drop
        have HS1036 := HS1035.drop
        have HS1037 := HS1036.drop
        have HS1038 := HS1037.drop
        have HS1039 := HS1038.drop
        have HS1040 := HS1039.drop
        replace h := JR988 _ h
        injection h with h
        injection h with h0_ h
        injection h with h1_ h
        injection h with h2_ h
        subst h0_ h1_ h2_ h
        exact ⟨f910, A510, c511, none, 0, [], rfl, (L499.trans (L553.trans (L823.trans (L869.trans (L876.trans (L899.trans (L903.trans L911))))))), HS1040, (HR901.mono (L903.trans L911)), (Own.nil _)⟩
      · have c929 : ¬ (vt908 ≠ 0) := c929
        refine seqRwI 71 (x := (vt908 != 0)) (v := false) (by kernel_rfl) (bne_eq_false_iff_eq.mpr (Decidable.of_not_not c929)) ?_
        refine seqRwI 72 (x := (vt908 != 0)) (v := false) (by kernel_rfl) (bne_eq_false_iff_eq.mpr (Decidable.of_not_not c929)) ?_
        refine seqL5 (by kernel_rfl) ?_
        refine wpList_nil ?_
        refine hK928 _ _ ?_
        have hq_ := ite_some h; clear h; rcases hq_ with ⟨c936, h⟩ | ⟨c936, h⟩
        · have c936 : vt907 ≠ (vall503.length : Int) := c936
          refine wpRwI 76 (x := (vt907 != (vall503.length : Int))) (v := true) (by kernel_rfl) (bne_iff_ne.mpr c936) ?_
          refine wpRwI 77 (x := (vt907 != (vall503.length : Int))) (v := true) (by kernel_rfl) (bne_iff_ne.mpr c936) ?_
          refine condT (by kernel_rfl) ?_
          refine wp_seq_k (fun K937 hK938 => ?_)
          refine wp_region_lit ?_
          refine seqK rfl (does_run (run_loadN (n := 1) rfl Try.underlying34 rfl (by kernel_rfl) (by kernel_rfl : _ = Value.pointer (some ⟨b16, 0, none⟩)) (cs := [.slice A510 x509.length c511]) rfl (HS924.u5.cells 0 1 _ rfl)) ?_)
          have HS939 := HS924.u6
          refine seqK rfl (does_store (n := 1) (vs := [.slice A510 x509.length c511]) (cs' := #[.slice A510 x509.length c511]) rfl (by kernel_rfl) (by kernel_rfl : _ = Value.pointer (some ⟨b10, 0, none⟩)) (by kernel_rfl : _ = Value.agg #[.slice A510 x509.length c511]) rfl rfl (by intro u_ hu_; simp only [List.mem_cons, List.not_mem_nil, or_false] at hu_; subst hu_; rfl) HS939 (Nat.le_of_ble_eq_true rfl) (by kernel_rfl) ?_)
          intro W940 HS941
          refine seqL2 (by kernel_rfl) ?_
          refine wpList_nil ?_
          refine hK938 _ _ ?_
          refine wp_ret ?_
          refine hr527 _ _ ?_
          refine hr35 _ _ ?_
          refine hret _ _ ?_
          have HS1041 := HS941.cons_nil
          refine ends (v := Value.tuple #[.agg #[.slice A510 x509.length c511], .slice none 0 0, .bool false]) (results3 (q1 := .cell 4 34) (q2 := .tmp 5) (q3 := .tmp 6) (by kernel_rfl) (resN (n := 1) (cs := [.slice A510 x509.length c511]) (by kernel_rfl : _ = Value.pointer (some ⟨b10, 0, none⟩)) Try.underlying34 rfl (by kernel_rfl) rfl (HS1041.u1.cells 0 1 _ rfl)) (resT (by kernel_rfl : _ = Value.slice none 0 0)) (resT (by kernel_rfl : _ = Value.bool false))) (by kernel_rfl) ?_
          have HS1043 := HS1041.u5
          have HS1044 := HS1043.u1
          have HS1045 := HS1044.u7
          have HS1046 := HS1045.u7
          have HS1047 := HS1046.u7
          have HS1048 := HS1047.u7
          have HS1049 := HS1048.u7
          have HS1050 := HS1049.u7
          have HS1051 := HS1050.drop
          have HS1052 := HS1051.drop
          have HS1053 := HS1052.drop
          have HS1054 := HS1053.drop
          have HS1055 := HS1054.drop
          have HS1056 := HS1055.drop
          replace h := JR988 _ h
          injection h with h
          injection h with h0_ h
          injection h with h1_ h
          injection h with h2_ h
          subst h0_ h1_ h2_ h
          exact ⟨f910, A510, c511, none, 0, [], rfl, (L499.trans (L553.trans (L823.trans (L869.trans (L876.trans (L899.trans (L903.trans L911))))))), HS1056, (HR901.mono (L903.trans L911)), (Own.nil _)⟩
        · have c936 : ¬ (vt907 ≠ (vall503.length : Int)) := c936
          refine wpRwI 76 (x := (vt907 != (vall503.length : Int))) (v := false) (by kernel_rfl) (bne_eq_false_iff_eq.mpr (Decidable.of_not_not c936)) ?_
          refine wpRwI 77 (x := (vt907 != (vall503.length : Int))) (v := false) (by kernel_rfl) (bne_eq_false_iff_eq.mpr (Decidable.of_not_not c936)) ?_
          refine condF (by kernel_rfl) ?_
          refine wp_skip ?_
          refine hK926 _ _ ?_
          have HS942 := HS924.u6
          have HS943 := HS942.u4
          have HS944 := HS943.u4
          have HS945 := HS944.u4
          have HS946 := HS945.u4
          have HS947 := HS946.u6
          have HS948 := HS947.u6
          refine heldG (S := Sg t f910 ([(b919, .cells #[.slice A914 vt906.Commits.length c915] 34 (0, 0))] :: s916 :: s558 :: [(b1, .cells #[.slice A4 s3.L.length c5, .int .i64 x833] 25 (0, 0))] :: [(b10, .cells #[.slice none 0 0] 34 (0, 0))] :: H) [(4, s506), (5, [(b16, .cells #[.slice A510 x509.length c511] 34 (0, 0))])]) (n := 7) (by kernel_rfl) rfl HS948 ?_
          intro W949 HS950
          refine takeGQ 0 [] rfl (by kernel_rfl) (by kernel_rfl) (by kernel_rfl) (by kernel_rfl) (by kernel_rfl) (by kernel_rfl) (fun ch_ a_ w_ q_ => (fun ch_ a_ w_ q_ => hnp ch_ a_ w_ (hp37 ch_ a_ w_ q_)) ch_ a_ w_ (hp529 ch_ a_ w_ q_)) (Sg.g2 (Sx.of [s506, [(b16, .cells #[.slice A510 x509.length c511] 34 (0, 0))]] (FM.le.refl _) HS950) (fun _ => St.only [] HS950 (FM.le.refl _)) (fun _ => St.only [s506] HS950 (FM.le.refl _))) (fun w_ hw_ => by obtain ⟨g_, hl_, hS_⟩ := hw_.st; exact run_loadN (n := 1) rfl Try.underlying34 rfl (by kernel_rfl) (by kernel_rfl : _ = Value.pointer (some ⟨b919, 0, none⟩)) (cs := [.slice A914 vt906.Commits.length c915]) rfl (hS_.cells 0 1 _ rfl)) ?_
          refine takeG [1, 2] (n := 6) (fuel := 4) (l' := #[true, true, true, false, false, false, false]) (a' := ⟨#[pV b1 0, iV n7, uV, uV, pV b10 0, (j502 0), (j502 1), pV b16 0, .slice A504 vall503.length c505, .slice A541 (rd vall503 (w64 ((vall503.length : Int) - 1))).length c541, .slice A828 rows827.length c829, uV, (j826 0), (j826 1), .slice A879 vt872.length c880, iV vt908, pV b919 0, iV vt907, .slice (some ⟨b22, 0, none⟩) ([([] : List S_Row)] : List (List S_Row)).length 1, iV n7, iV x508, tV, .slice A504 vall503.length c505, .slice A504 vall503.length c505, iV (vall503.length : Int), iV (w64 ((vall503.length : Int) - 1)), pV b538 (of539 + (w64 ((vall503.length : Int) - 1) : Int).toNat * 1), .slice A541 (rd vall503 (w64 ((vall503.length : Int) - 1))).length c541, pV b1 0, .slice A556 vt549.length c557, iV (vt549.length : Int), (j826 2), (j826 3), (j826 4), (j826 5), (j826 6), (j826 7), (j826 8), (j826 9), (j826 10), (j826 11), (j826 12), (j826 13), (j826 14), (j826 15), (j826 16), (j826 17), (j826 18), (j826 19), (j826 20), (j826 21), (j826 22), (j826 23), (j826 24), .tuple #[.slice A879 vt872.length c880, iV vt873], .slice A541 (rd vall503 (w64 ((vall503.length : Int) - 1))).length c541, .slice A828 rows827.length c829, .tuple #[.slice A879 vt872.length c880, iV vt873], .slice A879 vt872.length c880, iV vt873, iV vt873, fV, (j502 51), .tuple #[.agg #[.slice A914 vt906.Commits.length c915], iV vt907, iV vt908], .agg #[.slice A510 x509.length c511], .slice A879 vt872.length c880, .tuple #[.agg #[.slice A914 vt906.Commits.length c915], iV vt907, iV vt908], .agg #[.slice A914 vt906.Commits.length c915], iV vt907, iV vt908, iV vt908, fV, fV, iV vt907, .slice A504 vall503.length c505, iV (vall503.length : Int), fV, fV, (j502 67), .agg #[.slice A914 vt906.Commits.length c915], .slice A504 vall503.length c505, .slice A828 rows827.length c829, (j502 71), (j502 72), (j502 73), uV, uV], []⟩) rfl (by kernel_rfl) (by kernel_rfl) (by kernel_rfl) (fun ch_ a_ w_ q_ => (fun ch_ a_ w_ q_ => hnp ch_ a_ w_ (hp37 ch_ a_ w_ q_)) ch_ a_ w_ (hp529 ch_ a_ w_ q_)) (Sg.g2 (Sx.of [s506, [(b16, .cells #[.slice A510 x509.length c511] 34 (0, 0))]] (FM.le.refl _) HS950) (fun _ => St.only [] HS950 (FM.le.refl _)) (fun _ => St.only [s506] HS950 (FM.le.refl _))) ?_
          refine takeGE 3 (by kernel_rfl) rfl (by kernel_rfl) (does_lit (e := (tSl ty_Row)) (E := 26) (vs := #[(0, Value.slice A828 rows827.length c829)]) (cs := #[.slice A828 rows827.length c829]) (xs := ([rows827] : List (List S_Row))) rfl Try.underlying47 (by kernel_rfl) (by kernel_rfl) ⟨[.slice A828 rows827.length c829], _, rfl, ⟨A828, c829, rfl, (HR871.mono (L876.trans (L899.trans (L903.trans L911))))⟩, rfl⟩ rfl HS950 ?_ (by decide))
          intro b951 W952 s953 HS954 _ HO955
          refine ⟨(Sg.g2 (Sx.of [s953, s506, [(b16, .cells #[.slice A510 x509.length c511] 34 (0, 0))]] (FM.le.refl _) HS954) (fun _ => St.only [s953] HS954 (FM.le.refl _)) (fun _ => St.only [s953, s506] HS954 (FM.le.refl _))), ?_⟩
          have hq_ := guard_some h; clear h; obtain ⟨c957, h⟩ := hq_
          have c957 : (vall503.length + 1) * 24 ≤ 140737488355328 := c957
          have HS958 := HS954.u1
          have HS959 := HS958.u1
          refine takeGE 4 (by kernel_rfl) rfl (by kernel_rfl) (does_append1 (e := (tSl ty_Row)) (E := 26) (xs := vall503) (ys := ([rows827] : List (List S_Row))) rfl (by kernel_rfl : _ = Value.slice A504 vall503.length c505) (by kernel_rfl : _ = Value.slice (some ⟨b951, 0, none⟩) ([rows827] : List (List S_Row)).length 1) Try.underlying47 inf26 (HO507.mono (L553.trans (L823.trans (L869.trans (L876.trans (L899.trans (L903.trans L911))))))) HO955 HS959 c957 (lim63 c957 (by decide)) ?_)
          intro A960 c961 s962 W963 HS964 HO965
          refine ⟨(Sg.g2 (Sx.of [s962, [(b16, .cells #[.slice A510 x509.length c511] 34 (0, 0))]] (FM.le.refl _) HS964) (fun hl_ => Bool.noConfusion (show true = false from hl_)) (fun _ => St.only [s962] HS964 (FM.le.refl _))), ?_⟩
          have HS966 := HS964.u1
          refine takeGE 5 (by kernel_rfl) rfl (by kernel_rfl) (does_store (n := 1) (vs := [.slice A914 vt906.Commits.length c915]) (cs' := #[.slice A914 vt906.Commits.length c915]) rfl (by kernel_rfl) (by kernel_rfl : _ = Value.pointer (some ⟨b16, 0, none⟩)) (by kernel_rfl : _ = Value.agg #[.slice A914 vt906.Commits.length c915]) rfl rfl (by intro u_ hu_; simp only [List.mem_cons, List.not_mem_nil, or_false] at hu_; subst hu_; rfl) HS966 (Nat.le_of_ble_eq_true rfl) (by kernel_rfl) ?_)
          intro W967 HS968
          refine ⟨(Sg.g2 (Sx.of [[(b16, .cells #[.slice A914 vt906.Commits.length c915] 34 (0, 0))], s962] (FM.le.refl _) HS968) (fun hl_ => Bool.noConfusion (show true = false from hl_)) (fun hl_ => Bool.noConfusion (show true = false from hl_))), ?_⟩
          refine takeG [6] (n := 1) (fuel := 0) (l' := #[true, true, true, true, true, true, true]) (a' := ⟨#[pV b1 0, iV n7, uV, uV, pV b10 0, (j502 0), (j502 1), pV b16 0, .slice A960 (vall503 ++ ([rows827] : List (List S_Row))).length c961, .slice A541 (rd vall503 (w64 ((vall503.length : Int) - 1))).length c541, .slice A828 rows827.length c829, uV, (j826 0), (j826 1), .slice A879 vt872.length c880, iV vt908, pV b919 0, iV vt907, .slice (some ⟨b22, 0, none⟩) ([([] : List S_Row)] : List (List S_Row)).length 1, iV n7, iV x508, tV, .slice A504 vall503.length c505, .slice A504 vall503.length c505, iV (vall503.length : Int), iV (w64 ((vall503.length : Int) - 1)), pV b538 (of539 + (w64 ((vall503.length : Int) - 1) : Int).toNat * 1), .slice A541 (rd vall503 (w64 ((vall503.length : Int) - 1))).length c541, pV b1 0, .slice A556 vt549.length c557, iV (vt549.length : Int), (j826 2), (j826 3), (j826 4), (j826 5), (j826 6), (j826 7), (j826 8), (j826 9), (j826 10), (j826 11), (j826 12), (j826 13), (j826 14), (j826 15), (j826 16), (j826 17), (j826 18), (j826 19), (j826 20), (j826 21), (j826 22), (j826 23), (j826 24), .tuple #[.slice A879 vt872.length c880, iV vt873], .slice A541 (rd vall503 (w64 ((vall503.length : Int) - 1))).length c541, .slice A828 rows827.length c829, .tuple #[.slice A879 vt872.length c880, iV vt873], .slice A879 vt872.length c880, iV vt873, iV vt873, fV, (j502 51), .tuple #[.agg #[.slice A914 vt906.Commits.length c915], iV vt907, iV vt908], .agg #[.slice A510 x509.length c511], .slice A879 vt872.length c880, .tuple #[.agg #[.slice A914 vt906.Commits.length c915], iV vt907, iV vt908], .agg #[.slice A914 vt906.Commits.length c915], iV vt907, iV vt908, iV vt908, fV, fV, iV vt907, .slice A504 vall503.length c505, iV (vall503.length : Int), fV, fV, (j502 67), .agg #[.slice A914 vt906.Commits.length c915], .slice A504 vall503.length c505, .slice A828 rows827.length c829, .slice (some ⟨b951, 0, none⟩) ([rows827] : List (List S_Row)).length 1, .slice A960 (vall503 ++ ([rows827] : List (List S_Row))).length c961, (j502 73), uV, uV], []⟩) rfl (by kernel_rfl) (by kernel_rfl) (by kernel_rfl) (fun ch_ a_ w_ q_ => (fun ch_ a_ w_ q_ => hnp ch_ a_ w_ (hp37 ch_ a_ w_ q_)) ch_ a_ w_ (hp529 ch_ a_ w_ q_)) (Sg.g2 (Sx.of [[(b16, .cells #[.slice A914 vt906.Commits.length c915] 34 (0, 0))], s962] (FM.le.refl _) HS968) (fun hl_ => Bool.noConfusion (show true = false from hl_)) (fun hl_ => Bool.noConfusion (show true = false from hl_))) ?_
          refine doneG (by kernel_rfl) ?_ _
          refine hn526 _ _ ?_
          refine hK523 _ _ ?_
          refine wp_region_lit ?_
          refine seqL2 (by kernel_rfl) ?_
          refine wpList_nil ?_
          refine hK496 n497 _ _ (Nat.lt_succ_self _) ?_
          have HS992 := HS968.u5
          have HS993 := HS992.u6
          have HS994 := HS993.u2
          have HS995 := HS994.u3
          have HS996 := HS995.u5
          have HS997 := HS996.u6
          have HS998 := HS997.u6
          have HS999 := HS998.drop
          have HS1000 := HS999.drop
          exact ⟨f910, A960, c961, s962, A914, c915, s916, (vall503 ++ ([rows827] : List (List S_Row))), (w64 (x508 + 1)), vt906.Commits, x833, (fun i_ => [(j502 0), (j502 1), Value.slice A541 (rd vall503 (w64 ((vall503.length : Int) - 1))).length c541, Value.slice A828 rows827.length c829, (j826 0), (j826 1), Value.slice A879 vt872.length c880, Value.int .i64 vt908, Value.pointer (some ⟨b919, 0, none⟩), Value.int .i64 vt907, Value.bool true, Value.slice A504 vall503.length c505, Value.slice A504 vall503.length c505, Value.int .i64 (vall503.length : Int), Value.int .i64 (w64 ((vall503.length : Int) - 1)), Value.pointer (some ⟨b538, of539 + (w64 ((vall503.length : Int) - 1) : Int).toNat * 1, none⟩), Value.slice A541 (rd vall503 (w64 ((vall503.length : Int) - 1))).length c541, Value.pointer (some ⟨b1, 0, none⟩), Value.slice A556 vt549.length c557, Value.int .i64 (vt549.length : Int), (j826 2), (j826 3), (j826 4), (j826 5), (j826 6), (j826 7), (j826 8), (j826 9), (j826 10), (j826 11), (j826 12), (j826 13), (j826 14), (j826 15), (j826 16), (j826 17), (j826 18), (j826 19), (j826 20), (j826 21), (j826 22), (j826 23), (j826 24), Value.tuple #[.slice A879 vt872.length c880, .int .i64 vt873], Value.slice A541 (rd vall503 (w64 ((vall503.length : Int) - 1))).length c541, Value.slice A828 rows827.length c829, Value.tuple #[.slice A879 vt872.length c880, .int .i64 vt873], Value.slice A879 vt872.length c880, Value.int .i64 vt873, Value.int .i64 vt873, Value.bool false, (j502 51), Value.tuple #[.agg #[.slice A914 vt906.Commits.length c915], .int .i64 vt907, .int .i64 vt908], Value.agg #[.slice A510 x509.length c511], Value.slice A879 vt872.length c880, Value.tuple #[.agg #[.slice A914 vt906.Commits.length c915], .int .i64 vt907, .int .i64 vt908], Value.agg #[.slice A914 vt906.Commits.length c915], Value.int .i64 vt907, Value.int .i64 vt908, Value.int .i64 vt908, Value.bool false, Value.bool false, Value.int .i64 vt907, Value.slice A504 vall503.length c505, Value.int .i64 (vall503.length : Int), Value.bool false, Value.bool false, (j502 67), Value.agg #[.slice A914 vt906.Commits.length c915], Value.slice A504 vall503.length c505, Value.slice A828 rows827.length c829, Value.slice (some ⟨b951, 0, none⟩) ([rows827] : List (List S_Row)).length 1, Value.slice A960 (vall503 ++ ([rows827] : List (List S_Row))).length c961, Value.int .i64 (w64 (x508 + 1))].getD i_ undef), (L499.trans (L553.trans (L823.trans (L869.trans (L876.trans (L899.trans (L903.trans L911))))))), HS1000, HO965, HO917, h, (by kernel_rfl)⟩
   clear h; have h := hv834; clear hv834
   have HS837 := HS555.cons_nil
   refine loopK (fun n_ a_ w_ => ∃ (f698 : FM) (A704 : Option Addr) (c705 : Nat) (s706 : Seg) (rows703 : List S_Row) (x709 : Int) (x710 : Int) (j702 : Nat → Value), FM.le f552 f698 ∧ St t w_ f698 (s706 :: s558 :: [(b1, .cells #[.slice A4 s3.L.length c5, .int .i64 x710] 25 (0, 0))] :: s512 :: s506 :: [(b16, .cells #[.slice A510 x509.length c511] 34 (0, 0))] :: [(b10, .cells #[.slice none 0 0] 34 (0, 0))] :: H) ∧ Own ty_Row 65 f698 A704 c705 s706 rows703 ∧ spykeep3_Versions.l1 k vt549 vall503 s3 n_ rows703 x709 x710 = some o694 ∧ a_ = ⟨#[pV b1 0, iV n7, uV, uV, pV b10 0, (j502 0), (j502 1), pV b16 0, .slice A504 vall503.length c505, .slice A541 (rd vall503 (w64 ((vall503.length : Int) - 1))).length c541, .slice A704 rows703.length c705, uV, (j702 0), (j702 1), (j502 6), (j502 7), (j502 8), (j502 9), .slice (some ⟨b22, 0, none⟩) ([([] : List S_Row)] : List (List S_Row)).length 1, iV n7, iV x508, tV, .slice A504 vall503.length c505, .slice A504 vall503.length c505, iV (vall503.length : Int), iV (w64 ((vall503.length : Int) - 1)), pV b538 (of539 + (w64 ((vall503.length : Int) - 1) : Int).toNat * 1), .slice A541 (rd vall503 (w64 ((vall503.length : Int) - 1))).length c541, pV b1 0, .slice A556 vt549.length c557, iV (vt549.length : Int), iV x709, (j702 2), (j702 3), (j702 4), (j702 5), (j702 6), (j702 7), (j702 8), (j702 9), (j702 10), (j702 11), (j702 12), (j702 13), (j702 14), (j702 15), (j702 16), (j702 17), (j702 18), (j702 19), (j702 20), (j702 21), (j702 22), (j702 23), (j502 43), (j502 44), (j502 45), (j502 46), (j502 47), (j502 48), (j502 49), (j502 50), (j502 51), (j502 52), (j502 53), (j502 54), (j502 55), (j502 56), (j502 57), (j502 58), (j502 59), (j502 60), (j502 61), (j502 62), (j502 63), (j502 64), (j502 65), (j502 66), (j502 67), (j502 68), (j502 69), (j502 70), (j502 71), (j502 72), (j502 73), uV, uV], []⟩) k ⟨f552, none, 0, [], ([] : List S_Row), 0, vt550, (fun i_ => [(j502 4), (j502 5), (j502 21), (j502 22), (j502 23), (j502 24), (j502 25), (j502 26), (j502 27), (j502 28), (j502 29), (j502 30), (j502 31), (j502 32), (j502 33), (j502 34), (j502 35), (j502 36), (j502 37), (j502 38), (j502 39), (j502 40), (j502 41), (j502 42)].getD i_ undef), (FM.le.refl _), HS837, (Own.nil _), h, (by kernel_rfl)⟩ ?_
   clear h
   rintro n697 _ W700 ⟨f698, A704, c705, s706, rows703, x709, x710, j702, L699, HS701, HO707, h, rfl⟩ K695 hK696
   obtain _ | n697 := n697
   · exact nomatch h
   simp only [spykeep3_Versions.l1] at h
   refine wp_seq_k (fun K711 hK712 => ?_)
   refine wp_region_lit ?_
   refine seqL1 (by kernel_rfl) ?_
   refine wpList_nil ?_
   refine hK712 _ _ ?_
   refine wp_seq_k (fun K713 hK714 => ?_)
   have hq_ := ite_some h; clear h; rcases hq_ with ⟨c716, h⟩ | ⟨c716, h⟩
   · have c716 : x709 < (vt549.length : Int) := c716
     refine wpRwI 32 (x := (decide (x709 < (vt549.length : Int)))) (v := true) (by kernel_rfl) (decide_eq_true c716) ?_
     refine condT (by kernel_rfl) ?_
     refine wp_skip ?_
     refine hK714 _ _ ?_
     refine wp_seq_k (fun K717 hK718 => ?_)
     refine blockK (fun B719 hx720 hn721 hr722 ho723 hp724 => ?_)
     refine wp_seq_k (fun K726 hK727 => ?_)
     refine wp_region_lit ?_
     have hq_ := guard_some h; clear h; obtain ⟨c728, h⟩ := hq_
     have c728 : 0 ≤ x709 := c728
     obtain ⟨b732, of733, cs729, hA734, hr730, hc731⟩ := (HO559.mono L699).at (i := x709) c728 c716
     obtain ⟨A735, c735, rfl, HR735⟩ := hr730
     refine seqK rfl (does_run (run_indexE hA734 (sz := 18) rfl Try.underlying26 (by kernel_rfl) (by kernel_rfl : _ = Value.slice A556 vt549.length c557) (by kernel_rfl : _ = Value.int .i64 x709) c728 c716 W700) ?_)
     refine seqK rfl (does_run (run_loadN (n := 18) rfl Try.underlying65 rfl (by kernel_rfl) (by kernel_rfl : _ = Value.pointer (some ⟨b732, of733 + (x709 : Int).toNat * 18, none⟩)) (cs := [.int .i64 ((rd vt549 x709).ID), .int .i64 ((((rd vt549 x709).Box).X).Lo), .int .i64 ((((rd vt549 x709).Box).X).Hi), .bool ((((rd vt549 x709).Box).X).Unknown), .int .i64 ((((rd vt549 x709).Box).Y).Lo), .int .i64 ((((rd vt549 x709).Box).Y).Hi), .bool ((((rd vt549 x709).Box).Y).Unknown), .int .i64 ((((rd vt549 x709).Box).Z).Lo), .int .i64 ((((rd vt549 x709).Box).Z).Hi), .bool ((((rd vt549 x709).Box).Z).Unknown), .int .i64 (((rd vt549 x709).Flux).Lo), .int .i64 (((rd vt549 x709).Flux).Hi), .bool (((rd vt549 x709).Flux).Unknown), .int .i64 (((rd vt549 x709).When).Lo), .int .i64 (((rd vt549 x709).When).Hi), .bool (((rd vt549 x709).When).Unknown), .slice A735 ((rd vt549 x709).Frames).length c735, .int .i64 ((rd vt549 x709).Marks)]) rfl (fun j_ hj_ => ((hc731 HS701.u1) j_ hj_))) ?_)
     refine seqK rfl (does_alloc (z := Value.agg #[.int .i64 0, .int .i64 0, .int .i64 0, .bool false, .int .i64 0, .int .i64 0, .bool false, .int .i64 0, .int .i64 0, .bool false, .int .i64 0, .int .i64 0, .bool false, .int .i64 0, .int .i64 0, .bool false, .slice none 0 0, .int .i64 0]) (cs := #[.int .i64 0, .int .i64 0, .int .i64 0, .bool false, .int .i64 0, .int .i64 0, .bool false, .int .i64 0, .int .i64 0, .bool false, .int .i64 0, .int .i64 0, .bool false, .int .i64 0, .int .i64 0, .bool false, .slice none 0 0, .int .i64 0]) rfl (by kernel_rfl) rfl HS701 ?_)
     intro b736 W737 HS738
     refine seqK rfl (does_store (n := 18) (vs := [.int .i64 ((rd vt549 x709).ID), .int .i64 ((((rd vt549 x709).Box).X).Lo), .int .i64 ((((rd vt549 x709).Box).X).Hi), .bool ((((rd vt549 x709).Box).X).Unknown), .int .i64 ((((rd vt549 x709).Box).Y).Lo), .int .i64 ((((rd vt549 x709).Box).Y).Hi), .bool ((((rd vt549 x709).Box).Y).Unknown), .int .i64 ((((rd vt549 x709).Box).Z).Lo), .int .i64 ((((rd vt549 x709).Box).Z).Hi), .bool ((((rd vt549 x709).Box).Z).Unknown), .int .i64 (((rd vt549 x709).Flux).Lo), .int .i64 (((rd vt549 x709).Flux).Hi), .bool (((rd vt549 x709).Flux).Unknown), .int .i64 (((rd vt549 x709).When).Lo), .int .i64 (((rd vt549 x709).When).Hi), .bool (((rd vt549 x709).When).Unknown), .slice A735 ((rd vt549 x709).Frames).length c735, .int .i64 ((rd vt549 x709).Marks)]) (cs' := #[.int .i64 ((rd vt549 x709).ID), .int .i64 ((((rd vt549 x709).Box).X).Lo), .int .i64 ((((rd vt549 x709).Box).X).Hi), .bool ((((rd vt549 x709).Box).X).Unknown), .int .i64 ((((rd vt549 x709).Box).Y).Lo), .int .i64 ((((rd vt549 x709).Box).Y).Hi), .bool ((((rd vt549 x709).Box).Y).Unknown), .int .i64 ((((rd vt549 x709).Box).Z).Lo), .int .i64 ((((rd vt549 x709).Box).Z).Hi), .bool ((((rd vt549 x709).Box).Z).Unknown), .int .i64 (((rd vt549 x709).Flux).Lo), .int .i64 (((rd vt549 x709).Flux).Hi), .bool (((rd vt549 x709).Flux).Unknown), .int .i64 (((rd vt549 x709).When).Lo), .int .i64 (((rd vt549 x709).When).Hi), .bool (((rd vt549 x709).When).Unknown), .slice A735 ((rd vt549 x709).Frames).length c735, .int .i64 ((rd vt549 x709).Marks)]) rfl (by kernel_rfl) (by kernel_rfl : _ = Value.pointer (some ⟨b736, 0, none⟩)) (by kernel_rfl : _ = Value.agg #[.int .i64 ((rd vt549 x709).ID), .int .i64 ((((rd vt549 x709).Box).X).Lo), .int .i64 ((((rd vt549 x709).Box).X).Hi), .bool ((((rd vt549 x709).Box).X).Unknown), .int .i64 ((((rd vt549 x709).Box).Y).Lo), .int .i64 ((((rd vt549 x709).Box).Y).Hi), .bool ((((rd vt549 x709).Box).Y).Unknown), .int .i64 ((((rd vt549 x709).Box).Z).Lo), .int .i64 ((((rd vt549 x709).Box).Z).Hi), .bool ((((rd vt549 x709).Box).Z).Unknown), .int .i64 (((rd vt549 x709).Flux).Lo), .int .i64 (((rd vt549 x709).Flux).Hi), .bool (((rd vt549 x709).Flux).Unknown), .int .i64 (((rd vt549 x709).When).Lo), .int .i64 (((rd vt549 x709).When).Hi), .bool (((rd vt549 x709).When).Unknown), .slice A735 ((rd vt549 x709).Frames).length c735, .int .i64 ((rd vt549 x709).Marks)]) rfl rfl (by intro u_ hu_; simp only [List.mem_cons, List.not_mem_nil, or_false] at hu_; rcases hu_ with rfl | rfl | rfl | rfl | rfl | rfl | rfl | rfl | rfl | rfl | rfl | rfl | rfl | rfl | rfl | rfl | rfl | rfl <;> rfl) HS738 (Nat.le_of_ble_eq_true rfl) (by kernel_rfl) ?_)
     intro W740 HS741
     refine wpList_nil ?_
     refine hK727 _ _ ?_
     refine wp_seq_k (fun K742 hK743 => ?_)
     refine wp_seq_k (fun K744 hK745 => ?_)
     refine wp_region_lit ?_
     have hq_ := bind_some h; clear h; obtain ⟨vt746, hc747, h⟩ := hq_
     refine seqL2 (by kernel_rfl) ?_
     refine seqK rfl (does_call (f := 18) (args := #[.slice A541 (rd vall503 (w64 ((vall503.length : Int) - 1))).length c541, .func (.func 39) #[] #[.pointer (some ⟨b736, 0, none⟩)]]) (by kernel_rfl) (slices_IndexFunc_Row__spykeep3_Versions_1.calls k b736 A735 c735 A541 c541 (rd vt549 x709) (rd vall503 (w64 ((vall503.length : Int) - 1))) HS741 HR735 (HR541.mono (L553.trans L699)) vt746 hc747) ?_)
     rintro _ W750 ⟨f748, rfl, L749, HS751⟩
     refine ⟨_, rfl, ?_⟩
     refine seqL1 (by kernel_rfl) ?_
     refine wpList_nil ?_
     refine hK745 _ _ ?_
     refine wp_seq_k (fun K752 hK753 => ?_)
     refine wp_region_lit ?_
     refine seqL3 (by kernel_rfl) ?_
     have hq_ := ite_some h; clear h; rcases hq_ with ⟨c754, h⟩ | ⟨c754, h⟩
     · have c754 : vt746 ≥ 0 := c754
       refine seqRwI 39 (x := (decide (vt746 ≥ 0))) (v := true) (by kernel_rfl) (decide_eq_true c754) ?_
       refine seqRwI 40 (x := (decide (vt746 ≥ 0))) (v := true) (by kernel_rfl) (decide_eq_true c754) ?_
       have HS755 := HS751.u3
       have hq_ := bind_some h; clear h; obtain ⟨⟨vt756, vt757⟩, hc758, h⟩ := hq_
       refine seqL1 (by kernel_rfl) ?_
       refine seqG (by kernel_rfl) (does_call (f := 22) (args := #[.pointer (some ⟨b1, 0, none⟩), .int .i64 2]) (by kernel_rfl) (spymake_Stream_Next.calls k b1 A4 c5 (⟨s3.L, x710⟩ : S_Stream) 2 HS755 (HR6.mono (L499.trans (L553.trans (L699.trans L749)))) vt756 vt757 hc758) ?_)
       rintro _ W761 ⟨f759, rfl, L760, HS762⟩
       refine ⟨_, rfl, ?_⟩
       refine seqL2 (by kernel_rfl) ?_
       refine wpList_nil ?_
       refine hK753 _ _ ?_
       have hq_ := ite_some h; clear h; rcases hq_ with ⟨c764, h⟩ | ⟨c764, h⟩
       · have c764 : vt756 = 0 := c764
         refine wpRwI 43 (x := (vt756 == 0)) (v := true) (by kernel_rfl) (beq_iff_eq.mpr c764) ?_
         refine wpRwI 44 (x := (vt756 == 0)) (v := true) (by kernel_rfl) (beq_iff_eq.mpr c764) ?_
         refine condT (by kernel_rfl) ?_
         refine wp_region_lit ?_
         have hq_ := guard_some h; clear h; obtain ⟨c765, h⟩ := hq_
         have c765 : 0 ≤ vt746 := c765
         have hq_ := guard_some h; clear h; obtain ⟨c766, h⟩ := hq_
         have c766 : vt746 < ((rd vall503 (w64 ((vall503.length : Int) - 1))).length : Int) := c766
         obtain ⟨b770, of771, cs767, hA772, hr768, hc769⟩ := (HR541.mono (L553.trans (L699.trans (L749.trans L760)))).at (i := vt746) c765 c766
         obtain ⟨A773, c773, rfl, HR773⟩ := hr768
         refine seqL2 (by kernel_rfl) ?_
         refine seqK rfl (does_run (run_indexE hA772 (sz := 18) rfl Try.underlying26 (by kernel_rfl) (by kernel_rfl : _ = Value.slice A541 (rd vall503 (w64 ((vall503.length : Int) - 1))).length c541) (by kernel_rfl : _ = Value.int .i64 vt746) c765 c766 W761) ?_)
         refine seqK rfl (does_run (run_loadN (n := 18) rfl Try.underlying65 rfl (by kernel_rfl) (by kernel_rfl : _ = Value.pointer (some ⟨b770, of771 + (vt746 : Int).toNat * 18, none⟩)) (cs := [.int .i64 ((rd (rd vall503 (w64 ((vall503.length : Int) - 1))) vt746).ID), .int .i64 ((((rd (rd vall503 (w64 ((vall503.length : Int) - 1))) vt746).Box).X).Lo), .int .i64 ((((rd (rd vall503 (w64 ((vall503.length : Int) - 1))) vt746).Box).X).Hi), .bool ((((rd (rd vall503 (w64 ((vall503.length : Int) - 1))) vt746).Box).X).Unknown), .int .i64 ((((rd (rd vall503 (w64 ((vall503.length : Int) - 1))) vt746).Box).Y).Lo), .int .i64 ((((rd (rd vall503 (w64 ((vall503.length : Int) - 1))) vt746).Box).Y).Hi), .bool ((((rd (rd vall503 (w64 ((vall503.length : Int) - 1))) vt746).Box).Y).Unknown), .int .i64 ((((rd (rd vall503 (w64 ((vall503.length : Int) - 1))) vt746).Box).Z).Lo), .int .i64 ((((rd (rd vall503 (w64 ((vall503.length : Int) - 1))) vt746).Box).Z).Hi), .bool ((((rd (rd vall503 (w64 ((vall503.length : Int) - 1))) vt746).Box).Z).Unknown), .int .i64 (((rd (rd vall503 (w64 ((vall503.length : Int) - 1))) vt746).Flux).Lo), .int .i64 (((rd (rd vall503 (w64 ((vall503.length : Int) - 1))) vt746).Flux).Hi), .bool (((rd (rd vall503 (w64 ((vall503.length : Int) - 1))) vt746).Flux).Unknown), .int .i64 (((rd (rd vall503 (w64 ((vall503.length : Int) - 1))) vt746).When).Lo), .int .i64 (((rd (rd vall503 (w64 ((vall503.length : Int) - 1))) vt746).When).Hi), .bool (((rd (rd vall503 (w64 ((vall503.length : Int) - 1))) vt746).When).Unknown), .slice A773 ((rd (rd vall503 (w64 ((vall503.length : Int) - 1))) vt746).Frames).length c773, .int .i64 ((rd (rd vall503 (w64 ((vall503.length : Int) - 1))) vt746).Marks)]) rfl (fun j_ hj_ => ((hc769 (FM.le.refl _) HS762) j_ hj_))) ?_)
         have HS774 := HS762.u1
         refine seqK rfl (does_store (n := 18) (vs := [.int .i64 ((rd (rd vall503 (w64 ((vall503.length : Int) - 1))) vt746).ID), .int .i64 ((((rd (rd vall503 (w64 ((vall503.length : Int) - 1))) vt746).Box).X).Lo), .int .i64 ((((rd (rd vall503 (w64 ((vall503.length : Int) - 1))) vt746).Box).X).Hi), .bool ((((rd (rd vall503 (w64 ((vall503.length : Int) - 1))) vt746).Box).X).Unknown), .int .i64 ((((rd (rd vall503 (w64 ((vall503.length : Int) - 1))) vt746).Box).Y).Lo), .int .i64 ((((rd (rd vall503 (w64 ((vall503.length : Int) - 1))) vt746).Box).Y).Hi), .bool ((((rd (rd vall503 (w64 ((vall503.length : Int) - 1))) vt746).Box).Y).Unknown), .int .i64 ((((rd (rd vall503 (w64 ((vall503.length : Int) - 1))) vt746).Box).Z).Lo), .int .i64 ((((rd (rd vall503 (w64 ((vall503.length : Int) - 1))) vt746).Box).Z).Hi), .bool ((((rd (rd vall503 (w64 ((vall503.length : Int) - 1))) vt746).Box).Z).Unknown), .int .i64 (((rd (rd vall503 (w64 ((vall503.length : Int) - 1))) vt746).Flux).Lo), .int .i64 (((rd (rd vall503 (w64 ((vall503.length : Int) - 1))) vt746).Flux).Hi), .bool (((rd (rd vall503 (w64 ((vall503.length : Int) - 1))) vt746).Flux).Unknown), .int .i64 (((rd (rd vall503 (w64 ((vall503.length : Int) - 1))) vt746).When).Lo), .int .i64 (((rd (rd vall503 (w64 ((vall503.length : Int) - 1))) vt746).When).Hi), .bool (((rd (rd vall503 (w64 ((vall503.length : Int) - 1))) vt746).When).Unknown), .slice A773 ((rd (rd vall503 (w64 ((vall503.length : Int) - 1))) vt746).Frames).length c773, .int .i64 ((rd (rd vall503 (w64 ((vall503.length : Int) - 1))) vt746).Marks)]) (cs' := #[.int .i64 ((rd (rd vall503 (w64 ((vall503.length : Int) - 1))) vt746).ID), .int .i64 ((((rd (rd vall503 (w64 ((vall503.length : Int) - 1))) vt746).Box).X).Lo), .int .i64 ((((rd (rd vall503 (w64 ((vall503.length : Int) - 1))) vt746).Box).X).Hi), .bool ((((rd (rd vall503 (w64 ((vall503.length : Int) - 1))) vt746).Box).X).Unknown), .int .i64 ((((rd (rd vall503 (w64 ((vall503.length : Int) - 1))) vt746).Box).Y).Lo), .int .i64 ((((rd (rd vall503 (w64 ((vall503.length : Int) - 1))) vt746).Box).Y).Hi), .bool ((((rd (rd vall503 (w64 ((vall503.length : Int) - 1))) vt746).Box).Y).Unknown), .int .i64 ((((rd (rd vall503 (w64 ((vall503.length : Int) - 1))) vt746).Box).Z).Lo), .int .i64 ((((rd (rd vall503 (w64 ((vall503.length : Int) - 1))) vt746).Box).Z).Hi), .bool ((((rd (rd vall503 (w64 ((vall503.length : Int) - 1))) vt746).Box).Z).Unknown), .int .i64 (((rd (rd vall503 (w64 ((vall503.length : Int) - 1))) vt746).Flux).Lo), .int .i64 (((rd (rd vall503 (w64 ((vall503.length : Int) - 1))) vt746).Flux).Hi), .bool (((rd (rd vall503 (w64 ((vall503.length : Int) - 1))) vt746).Flux).Unknown), .int .i64 (((rd (rd vall503 (w64 ((vall503.length : Int) - 1))) vt746).When).Lo), .int .i64 (((rd (rd vall503 (w64 ((vall503.length : Int) - 1))) vt746).When).Hi), .bool (((rd (rd vall503 (w64 ((vall503.length : Int) - 1))) vt746).When).Unknown), .slice A773 ((rd (rd vall503 (w64 ((vall503.length : Int) - 1))) vt746).Frames).length c773, .int .i64 ((rd (rd vall503 (w64 ((vall503.length : Int) - 1))) vt746).Marks)]) rfl (by kernel_rfl) (by kernel_rfl : _ = Value.pointer (some ⟨b736, 0, none⟩)) (by kernel_rfl : _ = Value.agg #[.int .i64 ((rd (rd vall503 (w64 ((vall503.length : Int) - 1))) vt746).ID), .int .i64 ((((rd (rd vall503 (w64 ((vall503.length : Int) - 1))) vt746).Box).X).Lo), .int .i64 ((((rd (rd vall503 (w64 ((vall503.length : Int) - 1))) vt746).Box).X).Hi), .bool ((((rd (rd vall503 (w64 ((vall503.length : Int) - 1))) vt746).Box).X).Unknown), .int .i64 ((((rd (rd vall503 (w64 ((vall503.length : Int) - 1))) vt746).Box).Y).Lo), .int .i64 ((((rd (rd vall503 (w64 ((vall503.length : Int) - 1))) vt746).Box).Y).Hi), .bool ((((rd (rd vall503 (w64 ((vall503.length : Int) - 1))) vt746).Box).Y).Unknown), .int .i64 ((((rd (rd vall503 (w64 ((vall503.length : Int) - 1))) vt746).Box).Z).Lo), .int .i64 ((((rd (rd vall503 (w64 ((vall503.length : Int) - 1))) vt746).Box).Z).Hi), .bool ((((rd (rd vall503 (w64 ((vall503.length : Int) - 1))) vt746).Box).Z).Unknown), .int .i64 (((rd (rd vall503 (w64 ((vall503.length : Int) - 1))) vt746).Flux).Lo), .int .i64 (((rd (rd vall503 (w64 ((vall503.length : Int) - 1))) vt746).Flux).Hi), .bool (((rd (rd vall503 (w64 ((vall503.length : Int) - 1))) vt746).Flux).Unknown), .int .i64 (((rd (rd vall503 (w64 ((vall503.length : Int) - 1))) vt746).When).Lo), .int .i64 (((rd (rd vall503 (w64 ((vall503.length : Int) - 1))) vt746).When).Hi), .bool (((rd (rd vall503 (w64 ((vall503.length : Int) - 1))) vt746).When).Unknown), .slice A773 ((rd (rd vall503 (w64 ((vall503.length : Int) - 1))) vt746).Frames).length c773, .int .i64 ((rd (rd vall503 (w64 ((vall503.length : Int) - 1))) vt746).Marks)]) rfl rfl (by intro u_ hu_; simp only [List.mem_cons, List.not_mem_nil, or_false] at hu_; rcases hu_ with rfl | rfl | rfl | rfl | rfl | rfl | rfl | rfl | rfl | rfl | rfl | rfl | rfl | rfl | rfl | rfl | rfl | rfl <;> rfl) HS774 (Nat.le_of_ble_eq_true rfl) (by kernel_rfl) ?_)
         intro W775 HS776
         refine wpList_nil ?_
         refine hK743 _ _ ?_
         refine wp_region_lit ?_
         refine seqL1 (by kernel_rfl) ?_
         refine seqK rfl (does_run (run_loadN (n := 18) rfl Try.underlying65 rfl (by kernel_rfl) (by kernel_rfl : _ = Value.pointer (some ⟨b736, 0, none⟩)) (cs := [.int .i64 ((rd (rd vall503 (w64 ((vall503.length : Int) - 1))) vt746).ID), .int .i64 ((((rd (rd vall503 (w64 ((vall503.length : Int) - 1))) vt746).Box).X).Lo), .int .i64 ((((rd (rd vall503 (w64 ((vall503.length : Int) - 1))) vt746).Box).X).Hi), .bool ((((rd (rd vall503 (w64 ((vall503.length : Int) - 1))) vt746).Box).X).Unknown), .int .i64 ((((rd (rd vall503 (w64 ((vall503.length : Int) - 1))) vt746).Box).Y).Lo), .int .i64 ((((rd (rd vall503 (w64 ((vall503.length : Int) - 1))) vt746).Box).Y).Hi), .bool ((((rd (rd vall503 (w64 ((vall503.length : Int) - 1))) vt746).Box).Y).Unknown), .int .i64 ((((rd (rd vall503 (w64 ((vall503.length : Int) - 1))) vt746).Box).Z).Lo), .int .i64 ((((rd (rd vall503 (w64 ((vall503.length : Int) - 1))) vt746).Box).Z).Hi), .bool ((((rd (rd vall503 (w64 ((vall503.length : Int) - 1))) vt746).Box).Z).Unknown), .int .i64 (((rd (rd vall503 (w64 ((vall503.length : Int) - 1))) vt746).Flux).Lo), .int .i64 (((rd (rd vall503 (w64 ((vall503.length : Int) - 1))) vt746).Flux).Hi), .bool (((rd (rd vall503 (w64 ((vall503.length : Int) - 1))) vt746).Flux).Unknown), .int .i64 (((rd (rd vall503 (w64 ((vall503.length : Int) - 1))) vt746).When).Lo), .int .i64 (((rd (rd vall503 (w64 ((vall503.length : Int) - 1))) vt746).When).Hi), .bool (((rd (rd vall503 (w64 ((vall503.length : Int) - 1))) vt746).When).Unknown), .slice A773 ((rd (rd vall503 (w64 ((vall503.length : Int) - 1))) vt746).Frames).length c773, .int .i64 ((rd (rd vall503 (w64 ((vall503.length : Int) - 1))) vt746).Marks)]) rfl (HS776.cells 0 18 _ rfl)) ?_)
         refine seqK rfl (does_lit (e := ty_Row) (E := 65) (vs := #[(0, Value.agg #[.int .i64 ((rd (rd vall503 (w64 ((vall503.length : Int) - 1))) vt746).ID), .int .i64 ((((rd (rd vall503 (w64 ((vall503.length : Int) - 1))) vt746).Box).X).Lo), .int .i64 ((((rd (rd vall503 (w64 ((vall503.length : Int) - 1))) vt746).Box).X).Hi), .bool ((((rd (rd vall503 (w64 ((vall503.length : Int) - 1))) vt746).Box).X).Unknown), .int .i64 ((((rd (rd vall503 (w64 ((vall503.length : Int) - 1))) vt746).Box).Y).Lo), .int .i64 ((((rd (rd vall503 (w64 ((vall503.length : Int) - 1))) vt746).Box).Y).Hi), .bool ((((rd (rd vall503 (w64 ((vall503.length : Int) - 1))) vt746).Box).Y).Unknown), .int .i64 ((((rd (rd vall503 (w64 ((vall503.length : Int) - 1))) vt746).Box).Z).Lo), .int .i64 ((((rd (rd vall503 (w64 ((vall503.length : Int) - 1))) vt746).Box).Z).Hi), .bool ((((rd (rd vall503 (w64 ((vall503.length : Int) - 1))) vt746).Box).Z).Unknown), .int .i64 (((rd (rd vall503 (w64 ((vall503.length : Int) - 1))) vt746).Flux).Lo), .int .i64 (((rd (rd vall503 (w64 ((vall503.length : Int) - 1))) vt746).Flux).Hi), .bool (((rd (rd vall503 (w64 ((vall503.length : Int) - 1))) vt746).Flux).Unknown), .int .i64 (((rd (rd vall503 (w64 ((vall503.length : Int) - 1))) vt746).When).Lo), .int .i64 (((rd (rd vall503 (w64 ((vall503.length : Int) - 1))) vt746).When).Hi), .bool (((rd (rd vall503 (w64 ((vall503.length : Int) - 1))) vt746).When).Unknown), .slice A773 ((rd (rd vall503 (w64 ((vall503.length : Int) - 1))) vt746).Frames).length c773, .int .i64 ((rd (rd vall503 (w64 ((vall503.length : Int) - 1))) vt746).Marks)])]) (cs := #[.int .i64 ((rd (rd vall503 (w64 ((vall503.length : Int) - 1))) vt746).ID), .int .i64 ((((rd (rd vall503 (w64 ((vall503.length : Int) - 1))) vt746).Box).X).Lo), .int .i64 ((((rd (rd vall503 (w64 ((vall503.length : Int) - 1))) vt746).Box).X).Hi), .bool ((((rd (rd vall503 (w64 ((vall503.length : Int) - 1))) vt746).Box).X).Unknown), .int .i64 ((((rd (rd vall503 (w64 ((vall503.length : Int) - 1))) vt746).Box).Y).Lo), .int .i64 ((((rd (rd vall503 (w64 ((vall503.length : Int) - 1))) vt746).Box).Y).Hi), .bool ((((rd (rd vall503 (w64 ((vall503.length : Int) - 1))) vt746).Box).Y).Unknown), .int .i64 ((((rd (rd vall503 (w64 ((vall503.length : Int) - 1))) vt746).Box).Z).Lo), .int .i64 ((((rd (rd vall503 (w64 ((vall503.length : Int) - 1))) vt746).Box).Z).Hi), .bool ((((rd (rd vall503 (w64 ((vall503.length : Int) - 1))) vt746).Box).Z).Unknown), .int .i64 (((rd (rd vall503 (w64 ((vall503.length : Int) - 1))) vt746).Flux).Lo), .int .i64 (((rd (rd vall503 (w64 ((vall503.length : Int) - 1))) vt746).Flux).Hi), .bool (((rd (rd vall503 (w64 ((vall503.length : Int) - 1))) vt746).Flux).Unknown), .int .i64 (((rd (rd vall503 (w64 ((vall503.length : Int) - 1))) vt746).When).Lo), .int .i64 (((rd (rd vall503 (w64 ((vall503.length : Int) - 1))) vt746).When).Hi), .bool (((rd (rd vall503 (w64 ((vall503.length : Int) - 1))) vt746).When).Unknown), .slice A773 ((rd (rd vall503 (w64 ((vall503.length : Int) - 1))) vt746).Frames).length c773, .int .i64 ((rd (rd vall503 (w64 ((vall503.length : Int) - 1))) vt746).Marks)]) (xs := ([(rd (rd vall503 (w64 ((vall503.length : Int) - 1))) vt746)] : List S_Row)) rfl Try.underlying26 (by kernel_rfl) (by kernel_rfl) ⟨[.int .i64 ((rd (rd vall503 (w64 ((vall503.length : Int) - 1))) vt746).ID), .int .i64 ((((rd (rd vall503 (w64 ((vall503.length : Int) - 1))) vt746).Box).X).Lo), .int .i64 ((((rd (rd vall503 (w64 ((vall503.length : Int) - 1))) vt746).Box).X).Hi), .bool ((((rd (rd vall503 (w64 ((vall503.length : Int) - 1))) vt746).Box).X).Unknown), .int .i64 ((((rd (rd vall503 (w64 ((vall503.length : Int) - 1))) vt746).Box).Y).Lo), .int .i64 ((((rd (rd vall503 (w64 ((vall503.length : Int) - 1))) vt746).Box).Y).Hi), .bool ((((rd (rd vall503 (w64 ((vall503.length : Int) - 1))) vt746).Box).Y).Unknown), .int .i64 ((((rd (rd vall503 (w64 ((vall503.length : Int) - 1))) vt746).Box).Z).Lo), .int .i64 ((((rd (rd vall503 (w64 ((vall503.length : Int) - 1))) vt746).Box).Z).Hi), .bool ((((rd (rd vall503 (w64 ((vall503.length : Int) - 1))) vt746).Box).Z).Unknown), .int .i64 (((rd (rd vall503 (w64 ((vall503.length : Int) - 1))) vt746).Flux).Lo), .int .i64 (((rd (rd vall503 (w64 ((vall503.length : Int) - 1))) vt746).Flux).Hi), .bool (((rd (rd vall503 (w64 ((vall503.length : Int) - 1))) vt746).Flux).Unknown), .int .i64 (((rd (rd vall503 (w64 ((vall503.length : Int) - 1))) vt746).When).Lo), .int .i64 (((rd (rd vall503 (w64 ((vall503.length : Int) - 1))) vt746).When).Hi), .bool (((rd (rd vall503 (w64 ((vall503.length : Int) - 1))) vt746).When).Unknown), .slice A773 ((rd (rd vall503 (w64 ((vall503.length : Int) - 1))) vt746).Frames).length c773, .int .i64 ((rd (rd vall503 (w64 ((vall503.length : Int) - 1))) vt746).Marks)], _, rfl, ⟨A773, c773, rfl, HR773⟩, rfl⟩ rfl HS776 ?_ (by decide))
         intro b777 W778 s779 HS780 _ HO781
         have hq_ := guard_some h; clear h; obtain ⟨c783, h⟩ := hq_
         have c783 : (rows703.length + 1) * 160 ≤ 140737488355328 := c783
         have HS784 := HS780.u3
         have HS785 := HS784.u1
         refine seqK rfl (does_append1 (e := ty_Row) (E := 65) (xs := rows703) (ys := ([(rd (rd vall503 (w64 ((vall503.length : Int) - 1))) vt746)] : List S_Row)) rfl (by kernel_rfl : _ = Value.slice A704 rows703.length c705) (by kernel_rfl : _ = Value.slice (some ⟨b777, 0, none⟩) ([(rd (rd vall503 (w64 ((vall503.length : Int) - 1))) vt746)] : List S_Row).length 1) Try.underlying26 inf65 (HO707.mono (L749.trans L760)) HO781 HS785 c783 (lim63 c783 (by decide)) ?_)
         intro A786 c787 s788 W789 HS790 HO791
         refine seqL1 (by kernel_rfl) ?_
         refine wpList_nil ?_
         refine hn721 _ _ ?_
         refine hK718 _ _ ?_
         refine wp_region_lit ?_
         refine seqS2 (a' := ⟨#[pV b1 0, iV n7, uV, uV, pV b10 0, (j502 0), (j502 1), pV b16 0, .slice A504 vall503.length c505, .slice A541 (rd vall503 (w64 ((vall503.length : Int) - 1))).length c541, .slice A786 (rows703 ++ ([(rd (rd vall503 (w64 ((vall503.length : Int) - 1))) vt746)] : List S_Row)).length c787, uV, pV b736 0, iV vt746, (j502 6), (j502 7), (j502 8), (j502 9), .slice (some ⟨b22, 0, none⟩) ([([] : List S_Row)] : List (List S_Row)).length 1, iV n7, iV x508, tV, .slice A504 vall503.length c505, .slice A504 vall503.length c505, iV (vall503.length : Int), iV (w64 ((vall503.length : Int) - 1)), pV b538 (of539 + (w64 ((vall503.length : Int) - 1) : Int).toNat * 1), .slice A541 (rd vall503 (w64 ((vall503.length : Int) - 1))).length c541, pV b1 0, .slice A556 vt549.length c557, iV (vt549.length : Int), iV (w64 (x709 + 1)), tV, pV b732 (of733 + (x709 : Int).toNat * 18), (ag_Row (rd vt549 x709) A735 c735), .slice A541 (rd vall503 (w64 ((vall503.length : Int) - 1))).length c541, .func (.func 39) #[] #[pV b736 0], iV vt746, iV vt746, tV, tV, pV b1 0, iV vt756, tV, tV, .slice A541 (rd vall503 (w64 ((vall503.length : Int) - 1))).length c541, iV vt746, pV b770 (of771 + (vt746 : Int).toNat * 18), (ag_Row (rd (rd vall503 (w64 ((vall503.length : Int) - 1))) vt746) A773 c773), .slice A704 rows703.length c705, (ag_Row (rd (rd vall503 (w64 ((vall503.length : Int) - 1))) vt746) A773 c773), .slice (some ⟨b777, 0, none⟩) ([(rd (rd vall503 (w64 ((vall503.length : Int) - 1))) vt746)] : List S_Row).length 1, .slice A786 (rows703 ++ ([(rd (rd vall503 (w64 ((vall503.length : Int) - 1))) vt746)] : List S_Row)).length c787, iV (w64 (x709 + 1)), (j502 43), (j502 44), (j502 45), (j502 46), (j502 47), (j502 48), (j502 49), (j502 50), (j502 51), (j502 52), (j502 53), (j502 54), (j502 55), (j502 56), (j502 57), (j502 58), (j502 59), (j502 60), (j502 61), (j502 62), (j502 63), (j502 64), (j502 65), (j502 66), (j502 67), (j502 68), (j502 69), (j502 70), (j502 71), (j502 72), (j502 73), uV, uV], []⟩) (by kernel_rfl) ?_
         refine wpList_nil ?_
         refine hK696 n697 _ _ (Nat.lt_succ_self _) ?_
         have HS839 := HS790.u7
         have HS840 := HS839.u7
         have HS841 := HS840.u7
         have HS842 := HS841.u7
         have HS843 := HS842.u6
         have HS844 := HS843.u7
         have HS845 := HS844.u6
         have HS846 := HS845.u7
         have HS847 := HS846.drop
         exact ⟨f759, A786, c787, s788, (rows703 ++ ([(rd (rd vall503 (w64 ((vall503.length : Int) - 1))) vt746)] : List S_Row)), (w64 (x709 + 1)), vt757, (fun i_ => [Value.pointer (some ⟨b736, 0, none⟩), Value.int .i64 vt746, Value.bool true, Value.pointer (some ⟨b732, of733 + (x709 : Int).toNat * 18, none⟩), (ag_Row (rd vt549 x709) A735 c735), Value.slice A541 (rd vall503 (w64 ((vall503.length : Int) - 1))).length c541, Value.func (.func 39) #[] #[.pointer (some ⟨b736, 0, none⟩)], Value.int .i64 vt746, Value.int .i64 vt746, Value.bool true, Value.bool true, Value.pointer (some ⟨b1, 0, none⟩), Value.int .i64 vt756, Value.bool true, Value.bool true, Value.slice A541 (rd vall503 (w64 ((vall503.length : Int) - 1))).length c541, Value.int .i64 vt746, Value.pointer (some ⟨b770, of771 + (vt746 : Int).toNat * 18, none⟩), (ag_Row (rd (rd vall503 (w64 ((vall503.length : Int) - 1))) vt746) A773 c773), Value.slice A704 rows703.length c705, (ag_Row (rd (rd vall503 (w64 ((vall503.length : Int) - 1))) vt746) A773 c773), Value.slice (some ⟨b777, 0, none⟩) ([(rd (rd vall503 (w64 ((vall503.length : Int) - 1))) vt746)] : List S_Row).length 1, Value.slice A786 (rows703 ++ ([(rd (rd vall503 (w64 ((vall503.length : Int) - 1))) vt746)] : List S_Row)).length c787, Value.int .i64 (w64 (x709 + 1))].getD i_ undef), (L699.trans (L749.trans L760)), HS847, HO791, h, (by kernel_rfl)⟩
       · have c764 : ¬ (vt756 = 0) := c764
         refine wpRwI 43 (x := (vt756 == 0)) (v := false) (by kernel_rfl) (beq_eq_false_iff_ne.mpr c764) ?_
         refine wpRwI 44 (x := (vt756 == 0)) (v := false) (by kernel_rfl) (beq_eq_false_iff_ne.mpr c764) ?_
         refine condF (by kernel_rfl) ?_
         refine wp_skip ?_
         refine hK743 _ _ ?_
         refine wp_region_lit ?_
         refine seqL1 (by kernel_rfl) ?_
         refine seqK rfl (does_run (run_loadN (n := 18) rfl Try.underlying65 rfl (by kernel_rfl) (by kernel_rfl : _ = Value.pointer (some ⟨b736, 0, none⟩)) (cs := [.int .i64 ((rd vt549 x709).ID), .int .i64 ((((rd vt549 x709).Box).X).Lo), .int .i64 ((((rd vt549 x709).Box).X).Hi), .bool ((((rd vt549 x709).Box).X).Unknown), .int .i64 ((((rd vt549 x709).Box).Y).Lo), .int .i64 ((((rd vt549 x709).Box).Y).Hi), .bool ((((rd vt549 x709).Box).Y).Unknown), .int .i64 ((((rd vt549 x709).Box).Z).Lo), .int .i64 ((((rd vt549 x709).Box).Z).Hi), .bool ((((rd vt549 x709).Box).Z).Unknown), .int .i64 (((rd vt549 x709).Flux).Lo), .int .i64 (((rd vt549 x709).Flux).Hi), .bool (((rd vt549 x709).Flux).Unknown), .int .i64 (((rd vt549 x709).When).Lo), .int .i64 (((rd vt549 x709).When).Hi), .bool (((rd vt549 x709).When).Unknown), .slice A735 ((rd vt549 x709).Frames).length c735, .int .i64 ((rd vt549 x709).Marks)]) rfl (HS762.u1.cells 0 18 _ rfl)) ?_)
         refine seqK rfl (does_lit (e := ty_Row) (E := 65) (vs := #[(0, Value.agg #[.int .i64 ((rd vt549 x709).ID), .int .i64 ((((rd vt549 x709).Box).X).Lo), .int .i64 ((((rd vt549 x709).Box).X).Hi), .bool ((((rd vt549 x709).Box).X).Unknown), .int .i64 ((((rd vt549 x709).Box).Y).Lo), .int .i64 ((((rd vt549 x709).Box).Y).Hi), .bool ((((rd vt549 x709).Box).Y).Unknown), .int .i64 ((((rd vt549 x709).Box).Z).Lo), .int .i64 ((((rd vt549 x709).Box).Z).Hi), .bool ((((rd vt549 x709).Box).Z).Unknown), .int .i64 (((rd vt549 x709).Flux).Lo), .int .i64 (((rd vt549 x709).Flux).Hi), .bool (((rd vt549 x709).Flux).Unknown), .int .i64 (((rd vt549 x709).When).Lo), .int .i64 (((rd vt549 x709).When).Hi), .bool (((rd vt549 x709).When).Unknown), .slice A735 ((rd vt549 x709).Frames).length c735, .int .i64 ((rd vt549 x709).Marks)])]) (cs := #[.int .i64 ((rd vt549 x709).ID), .int .i64 ((((rd vt549 x709).Box).X).Lo), .int .i64 ((((rd vt549 x709).Box).X).Hi), .bool ((((rd vt549 x709).Box).X).Unknown), .int .i64 ((((rd vt549 x709).Box).Y).Lo), .int .i64 ((((rd vt549 x709).Box).Y).Hi), .bool ((((rd vt549 x709).Box).Y).Unknown), .int .i64 ((((rd vt549 x709).Box).Z).Lo), .int .i64 ((((rd vt549 x709).Box).Z).Hi), .bool ((((rd vt549 x709).Box).Z).Unknown), .int .i64 (((rd vt549 x709).Flux).Lo), .int .i64 (((rd vt549 x709).Flux).Hi), .bool (((rd vt549 x709).Flux).Unknown), .int .i64 (((rd vt549 x709).When).Lo), .int .i64 (((rd vt549 x709).When).Hi), .bool (((rd vt549 x709).When).Unknown), .slice A735 ((rd vt549 x709).Frames).length c735, .int .i64 ((rd vt549 x709).Marks)]) (xs := ([(rd vt549 x709)] : List S_Row)) rfl Try.underlying26 (by kernel_rfl) (by kernel_rfl) ⟨[.int .i64 ((rd vt549 x709).ID), .int .i64 ((((rd vt549 x709).Box).X).Lo), .int .i64 ((((rd vt549 x709).Box).X).Hi), .bool ((((rd vt549 x709).Box).X).Unknown), .int .i64 ((((rd vt549 x709).Box).Y).Lo), .int .i64 ((((rd vt549 x709).Box).Y).Hi), .bool ((((rd vt549 x709).Box).Y).Unknown), .int .i64 ((((rd vt549 x709).Box).Z).Lo), .int .i64 ((((rd vt549 x709).Box).Z).Hi), .bool ((((rd vt549 x709).Box).Z).Unknown), .int .i64 (((rd vt549 x709).Flux).Lo), .int .i64 (((rd vt549 x709).Flux).Hi), .bool (((rd vt549 x709).Flux).Unknown), .int .i64 (((rd vt549 x709).When).Lo), .int .i64 (((rd vt549 x709).When).Hi), .bool (((rd vt549 x709).When).Unknown), .slice A735 ((rd vt549 x709).Frames).length c735, .int .i64 ((rd vt549 x709).Marks)], _, rfl, ⟨A735, c735, rfl, (HR735.mono (L749.trans L760))⟩, rfl⟩ rfl HS762 ?_ (by decide))
         intro b792 W793 s794 HS795 _ HO796
         have hq_ := guard_some h; clear h; obtain ⟨c798, h⟩ := hq_
         have c798 : (rows703.length + 1) * 160 ≤ 140737488355328 := c798
         have HS799 := HS795.u3
         have HS800 := HS799.u1
         refine seqK rfl (does_append1 (e := ty_Row) (E := 65) (xs := rows703) (ys := ([(rd vt549 x709)] : List S_Row)) rfl (by kernel_rfl : _ = Value.slice A704 rows703.length c705) (by kernel_rfl : _ = Value.slice (some ⟨b792, 0, none⟩) ([(rd vt549 x709)] : List S_Row).length 1) Try.underlying26 inf65 (HO707.mono (L749.trans L760)) HO796 HS800 c798 (lim63 c798 (by decide)) ?_)
         intro A801 c802 s803 W804 HS805 HO806
         refine seqL1 (by kernel_rfl) ?_
         refine wpList_nil ?_
         refine hn721 _ _ ?_
         refine hK718 _ _ ?_
         refine wp_region_lit ?_
         refine seqL2 (by kernel_rfl) ?_
         refine wpList_nil ?_
         refine hK696 n697 _ _ (Nat.lt_succ_self _) ?_
         have HS848 := HS805.u7
         have HS849 := HS848.u7
         have HS850 := HS849.u7
         have HS851 := HS850.u7
         have HS852 := HS851.u5
         have HS853 := HS852.u7
         have HS854 := HS853.u6
         have HS855 := HS854.u7
         have HS856 := HS855.drop
         exact ⟨f759, A801, c802, s803, (rows703 ++ ([(rd vt549 x709)] : List S_Row)), (w64 (x709 + 1)), vt757, (fun i_ => [Value.pointer (some ⟨b736, 0, none⟩), Value.int .i64 vt746, Value.bool true, Value.pointer (some ⟨b732, of733 + (x709 : Int).toNat * 18, none⟩), (ag_Row (rd vt549 x709) A735 c735), Value.slice A541 (rd vall503 (w64 ((vall503.length : Int) - 1))).length c541, Value.func (.func 39) #[] #[.pointer (some ⟨b736, 0, none⟩)], Value.int .i64 vt746, Value.int .i64 vt746, Value.bool true, Value.bool true, Value.pointer (some ⟨b1, 0, none⟩), Value.int .i64 vt756, Value.bool false, Value.bool false, (j702 15), (j702 16), (j702 17), (j702 18), Value.slice A704 rows703.length c705, (ag_Row (rd vt549 x709) A735 c735), Value.slice (some ⟨b792, 0, none⟩) ([(rd vt549 x709)] : List S_Row).length 1, Value.slice A801 (rows703 ++ ([(rd vt549 x709)] : List S_Row)).length c802, Value.int .i64 (w64 (x709 + 1))].getD i_ undef), (L699.trans (L749.trans L760)), HS856, HO806, h, (by kernel_rfl)⟩
     · have c754 : ¬ (vt746 ≥ 0) := c754
       refine seqRwI 39 (x := (decide (vt746 ≥ 0))) (v := false) (by kernel_rfl) (decide_eq_false c754) ?_
       refine seqRwI 40 (x := (decide (vt746 ≥ 0))) (v := false) (by kernel_rfl) (decide_eq_false c754) ?_
       refine seqL4 (by kernel_rfl) ?_
       refine wpList_nil ?_
       refine hK753 _ _ ?_
       refine condF (by kernel_rfl) ?_
       refine wp_skip ?_
       refine hK743 _ _ ?_
       refine wp_region_lit ?_
       refine seqL1 (by kernel_rfl) ?_
       refine seqK rfl (does_run (run_loadN (n := 18) rfl Try.underlying65 rfl (by kernel_rfl) (by kernel_rfl : _ = Value.pointer (some ⟨b736, 0, none⟩)) (cs := [.int .i64 ((rd vt549 x709).ID), .int .i64 ((((rd vt549 x709).Box).X).Lo), .int .i64 ((((rd vt549 x709).Box).X).Hi), .bool ((((rd vt549 x709).Box).X).Unknown), .int .i64 ((((rd vt549 x709).Box).Y).Lo), .int .i64 ((((rd vt549 x709).Box).Y).Hi), .bool ((((rd vt549 x709).Box).Y).Unknown), .int .i64 ((((rd vt549 x709).Box).Z).Lo), .int .i64 ((((rd vt549 x709).Box).Z).Hi), .bool ((((rd vt549 x709).Box).Z).Unknown), .int .i64 (((rd vt549 x709).Flux).Lo), .int .i64 (((rd vt549 x709).Flux).Hi), .bool (((rd vt549 x709).Flux).Unknown), .int .i64 (((rd vt549 x709).When).Lo), .int .i64 (((rd vt549 x709).When).Hi), .bool (((rd vt549 x709).When).Unknown), .slice A735 ((rd vt549 x709).Frames).length c735, .int .i64 ((rd vt549 x709).Marks)]) rfl (HS751.cells 0 18 _ rfl)) ?_)
       refine seqK rfl (does_lit (e := ty_Row) (E := 65) (vs := #[(0, Value.agg #[.int .i64 ((rd vt549 x709).ID), .int .i64 ((((rd vt549 x709).Box).X).Lo), .int .i64 ((((rd vt549 x709).Box).X).Hi), .bool ((((rd vt549 x709).Box).X).Unknown), .int .i64 ((((rd vt549 x709).Box).Y).Lo), .int .i64 ((((rd vt549 x709).Box).Y).Hi), .bool ((((rd vt549 x709).Box).Y).Unknown), .int .i64 ((((rd vt549 x709).Box).Z).Lo), .int .i64 ((((rd vt549 x709).Box).Z).Hi), .bool ((((rd vt549 x709).Box).Z).Unknown), .int .i64 (((rd vt549 x709).Flux).Lo), .int .i64 (((rd vt549 x709).Flux).Hi), .bool (((rd vt549 x709).Flux).Unknown), .int .i64 (((rd vt549 x709).When).Lo), .int .i64 (((rd vt549 x709).When).Hi), .bool (((rd vt549 x709).When).Unknown), .slice A735 ((rd vt549 x709).Frames).length c735, .int .i64 ((rd vt549 x709).Marks)])]) (cs := #[.int .i64 ((rd vt549 x709).ID), .int .i64 ((((rd vt549 x709).Box).X).Lo), .int .i64 ((((rd vt549 x709).Box).X).Hi), .bool ((((rd vt549 x709).Box).X).Unknown), .int .i64 ((((rd vt549 x709).Box).Y).Lo), .int .i64 ((((rd vt549 x709).Box).Y).Hi), .bool ((((rd vt549 x709).Box).Y).Unknown), .int .i64 ((((rd vt549 x709).Box).Z).Lo), .int .i64 ((((rd vt549 x709).Box).Z).Hi), .bool ((((rd vt549 x709).Box).Z).Unknown), .int .i64 (((rd vt549 x709).Flux).Lo), .int .i64 (((rd vt549 x709).Flux).Hi), .bool (((rd vt549 x709).Flux).Unknown), .int .i64 (((rd vt549 x709).When).Lo), .int .i64 (((rd vt549 x709).When).Hi), .bool (((rd vt549 x709).When).Unknown), .slice A735 ((rd vt549 x709).Frames).length c735, .int .i64 ((rd vt549 x709).Marks)]) (xs := ([(rd vt549 x709)] : List S_Row)) rfl Try.underlying26 (by kernel_rfl) (by kernel_rfl) ⟨[.int .i64 ((rd vt549 x709).ID), .int .i64 ((((rd vt549 x709).Box).X).Lo), .int .i64 ((((rd vt549 x709).Box).X).Hi), .bool ((((rd vt549 x709).Box).X).Unknown), .int .i64 ((((rd vt549 x709).Box).Y).Lo), .int .i64 ((((rd vt549 x709).Box).Y).Hi), .bool ((((rd vt549 x709).Box).Y).Unknown), .int .i64 ((((rd vt549 x709).Box).Z).Lo), .int .i64 ((((rd vt549 x709).Box).Z).Hi), .bool ((((rd vt549 x709).Box).Z).Unknown), .int .i64 (((rd vt549 x709).Flux).Lo), .int .i64 (((rd vt549 x709).Flux).Hi), .bool (((rd vt549 x709).Flux).Unknown), .int .i64 (((rd vt549 x709).When).Lo), .int .i64 (((rd vt549 x709).When).Hi), .bool (((rd vt549 x709).When).Unknown), .slice A735 ((rd vt549 x709).Frames).length c735, .int .i64 ((rd vt549 x709).Marks)], _, rfl, ⟨A735, c735, rfl, (HR735.mono L749)⟩, rfl⟩ rfl HS751 ?_ (by decide))
       intro b807 W808 s809 HS810 _ HO811
       have hq_ := guard_some h; clear h; obtain ⟨c813, h⟩ := hq_
       have c813 : (rows703.length + 1) * 160 ≤ 140737488355328 := c813
       have HS814 := HS810.u2
       have HS815 := HS814.u1
       refine seqK rfl (does_append1 (e := ty_Row) (E := 65) (xs := rows703) (ys := ([(rd vt549 x709)] : List S_Row)) rfl (by kernel_rfl : _ = Value.slice A704 rows703.length c705) (by kernel_rfl : _ = Value.slice (some ⟨b807, 0, none⟩) ([(rd vt549 x709)] : List S_Row).length 1) Try.underlying26 inf65 (HO707.mono L749) HO811 HS815 c813 (lim63 c813 (by decide)) ?_)
       intro A816 c817 s818 W819 HS820 HO821
       refine seqL1 (by kernel_rfl) ?_
       refine wpList_nil ?_
       refine hn721 _ _ ?_
       refine hK718 _ _ ?_
       refine wp_region_lit ?_
       refine seqS2 (a' := ⟨#[pV b1 0, iV n7, uV, uV, pV b10 0, (j502 0), (j502 1), pV b16 0, .slice A504 vall503.length c505, .slice A541 (rd vall503 (w64 ((vall503.length : Int) - 1))).length c541, .slice A816 (rows703 ++ ([(rd vt549 x709)] : List S_Row)).length c817, uV, pV b736 0, iV vt746, (j502 6), (j502 7), (j502 8), (j502 9), .slice (some ⟨b22, 0, none⟩) ([([] : List S_Row)] : List (List S_Row)).length 1, iV n7, iV x508, tV, .slice A504 vall503.length c505, .slice A504 vall503.length c505, iV (vall503.length : Int), iV (w64 ((vall503.length : Int) - 1)), pV b538 (of539 + (w64 ((vall503.length : Int) - 1) : Int).toNat * 1), .slice A541 (rd vall503 (w64 ((vall503.length : Int) - 1))).length c541, pV b1 0, .slice A556 vt549.length c557, iV (vt549.length : Int), iV (w64 (x709 + 1)), tV, pV b732 (of733 + (x709 : Int).toNat * 18), (ag_Row (rd vt549 x709) A735 c735), .slice A541 (rd vall503 (w64 ((vall503.length : Int) - 1))).length c541, .func (.func 39) #[] #[pV b736 0], iV vt746, iV vt746, fV, fV, uV, uV, uV, fV, (j702 15), (j702 16), (j702 17), (j702 18), .slice A704 rows703.length c705, (ag_Row (rd vt549 x709) A735 c735), .slice (some ⟨b807, 0, none⟩) ([(rd vt549 x709)] : List S_Row).length 1, .slice A816 (rows703 ++ ([(rd vt549 x709)] : List S_Row)).length c817, iV (w64 (x709 + 1)), (j502 43), (j502 44), (j502 45), (j502 46), (j502 47), (j502 48), (j502 49), (j502 50), (j502 51), (j502 52), (j502 53), (j502 54), (j502 55), (j502 56), (j502 57), (j502 58), (j502 59), (j502 60), (j502 61), (j502 62), (j502 63), (j502 64), (j502 65), (j502 66), (j502 67), (j502 68), (j502 69), (j502 70), (j502 71), (j502 72), (j502 73), uV, uV], []⟩) (by kernel_rfl) ?_
       refine wpList_nil ?_
       refine hK696 n697 _ _ (Nat.lt_succ_self _) ?_
       have HS857 := HS820.u7
       have HS858 := HS857.u7
       have HS859 := HS858.u7
       have HS860 := HS859.u7
       have HS861 := HS860.u7
       have HS862 := HS861.u7
       have HS863 := HS862.u6
       have HS864 := HS863.u7
       have HS865 := HS864.drop
       exact ⟨f748, A816, c817, s818, (rows703 ++ ([(rd vt549 x709)] : List S_Row)), (w64 (x709 + 1)), x710, (fun i_ => [Value.pointer (some ⟨b736, 0, none⟩), Value.int .i64 vt746, Value.bool true, Value.pointer (some ⟨b732, of733 + (x709 : Int).toNat * 18, none⟩), (ag_Row (rd vt549 x709) A735 c735), Value.slice A541 (rd vall503 (w64 ((vall503.length : Int) - 1))).length c541, Value.func (.func 39) #[] #[.pointer (some ⟨b736, 0, none⟩)], Value.int .i64 vt746, Value.int .i64 vt746, Value.bool false, Value.bool false, undef, undef, undef, Value.bool false, (j702 15), (j702 16), (j702 17), (j702 18), Value.slice A704 rows703.length c705, (ag_Row (rd vt549 x709) A735 c735), Value.slice (some ⟨b807, 0, none⟩) ([(rd vt549 x709)] : List S_Row).length 1, Value.slice A816 (rows703 ++ ([(rd vt549 x709)] : List S_Row)).length c817, Value.int .i64 (w64 (x709 + 1))].getD i_ undef), (L699.trans L749), HS865, HO821, h, (by kernel_rfl)⟩
   · have c716 : ¬ (x709 < (vt549.length : Int)) := c716
     refine wpRwI 32 (x := (decide (x709 < (vt549.length : Int)))) (v := false) (by kernel_rfl) (decide_eq_false c716) ?_
     refine condF (by kernel_rfl) ?_
     refine wp_exit ?_
     refine hx562 _ _ ?_
     exact J835 f698 A704 c705 s706 rows703 x710 (fun i_ => [(j702 0), (j702 1), Value.int .i64 x709, Value.bool false, (j702 3), (j702 4), (j702 5), (j702 6), (j702 7), (j702 8), (j702 9), (j702 10), (j702 11), (j702 12), (j702 13), (j702 14), (j702 15), (j702 16), (j702 17), (j702 18), (j702 19), (j702 20), (j702 21), (j702 22), (j702 23)].getD i_ undef) W700 _ L699 h HS701 HO707 (by kernel_rfl)
 · have c521 : ¬ (x508 < n7) := c521
   refine wpRwI 21 (x := (decide (x508 < n7))) (v := false) (by kernel_rfl) (decide_eq_false c521) ?_
   refine condF (by kernel_rfl) ?_
   refine wp_exit ?_
   refine hx33 _ _ ?_
   exact J987 f498 A504 c505 s506 A510 c511 s512 vall503 x509 x515 (fun i_ => [(j502 0), (j502 1), (j502 2), (j502 3), (j502 4), (j502 5), (j502 6), (j502 7), (j502 8), (j502 9), Value.int .i64 x508, Value.bool false, (j502 11), (j502 12), (j502 13), (j502 14), (j502 15), (j502 16), (j502 17), (j502 18), (j502 19), (j502 20), (j502 21), (j502 22), (j502 23), (j502 24), (j502 25), (j502 26), (j502 27), (j502 28), (j502 29), (j502 30), (j502 31), (j502 32), (j502 33), (j502 34), (j502 35), (j502 36), (j502 37), (j502 38), (j502 39), (j502 40), (j502 41), (j502 42), (j502 43), (j502 44), (j502 45), (j502 46), (j502 47), (j502 48), (j502 49), (j502 50), (j502 51), (j502 52), (j502 53), (j502 54), (j502 55), (j502 56), (j502 57), (j502 58), (j502 59), (j502 60), (j502 61), (j502 62), (j502 63), (j502 64), (j502 65), (j502 66), (j502 67), (j502 68), (j502 69), (j502 70), (j502 71), (j502 72), (j502 73)].getD i_ undef) W500 _ L499 h HS501 HO507 HO513 (by kernel_rfl)

set_option maxRecDepth 100000 in
set_option maxHeartbeats 4000000 in
theorem spykeep3_single.calls (k : Nat)  (vid1 : Int) {t w : World} {f : FM} {H : List Seg} (HS : St t w f (H)) (rr1 : S_Row) (h : spykeep3_single k vid1 = some rr1) :
    Calls Try.prog 36 #[.int .i64 vid1] w (fun e w' => ∃ (g : FM) (A20 : Option Addr) (c21 : Nat) (s22 : Seg), e = .returned (Value.agg #[.int .i64 rr1.ID, .int .i64 rr1.Box.X.Lo, .int .i64 rr1.Box.X.Hi, .bool rr1.Box.X.Unknown, .int .i64 rr1.Box.Y.Lo, .int .i64 rr1.Box.Y.Hi, .bool rr1.Box.Y.Unknown, .int .i64 rr1.Box.Z.Lo, .int .i64 rr1.Box.Z.Hi, .bool rr1.Box.Z.Unknown, .int .i64 rr1.Flux.Lo, .int .i64 rr1.Flux.Hi, .bool rr1.Flux.Unknown, .int .i64 rr1.When.Lo, .int .i64 rr1.When.Hi, .bool rr1.When.Unknown, .slice A20 rr1.Frames.length c21, .int .i64 rr1.Marks]) ∧ FM.le f g ∧ St t w' g (s22 :: H) ∧ Own (tInt .i64) 3 g A20 c21 s22 rr1.Frames) := by
 unfold spykeep3_single at h
 refine enter Try.func36 rfl (tm := #[iV vid1, uV, uV, uV, uV, uV]) (by kernel_rfl) ?_
 intro B hret hnor hnp
 refine wp_seq_k (fun K2 hK3 => ?_)
 refine wp_region_lit ?_
 refine seqK rfl (does_alloc (z := Value.agg #[.int .i64 0, .int .i64 0, .int .i64 0, .bool false, .int .i64 0, .int .i64 0, .bool false, .int .i64 0, .int .i64 0, .bool false, .int .i64 0, .int .i64 0, .bool false, .int .i64 0, .int .i64 0, .bool false, .slice none 0 0, .int .i64 0]) (cs := #[.int .i64 0, .int .i64 0, .int .i64 0, .bool false, .int .i64 0, .int .i64 0, .bool false, .int .i64 0, .int .i64 0, .bool false, .int .i64 0, .int .i64 0, .bool false, .int .i64 0, .int .i64 0, .bool false, .slice none 0 0, .int .i64 0]) rfl (by kernel_rfl) rfl HS ?_)
 intro b4 W5 HS6
 refine wpList_nil ?_
 refine hK3 _ _ ?_
 refine wp_seq_k (fun K8 hK9 => ?_)
 refine wp_region_lit ?_
 refine seqL1 (by kernel_rfl) ?_
 refine seqK rfl (does_lit (e := (tInt .i64)) (E := 3) (vs := #[(0, Value.int .i64 1)]) (cs := #[.int .i64 1]) (xs := ([1] : List Int)) rfl Try.underlying22 (by kernel_rfl) (by kernel_rfl) ⟨[.int .i64 1], _, rfl, rfl, rfl⟩ rfl HS6 ?_ (by decide))
 intro b10 W11 s12 HS13 _ HO14
 have HS16 := HS13.u1
 refine seqL1 (by kernel_rfl) ?_
 refine seqK rfl (does_store (n := 18) (vs := [.int .i64 vid1, .int .i64 0, .int .i64 0, .bool false, .int .i64 0, .int .i64 0, .bool false, .int .i64 0, .int .i64 0, .bool false, .int .i64 0, .int .i64 0, .bool false, .int .i64 0, .int .i64 0, .bool false, .slice (some ⟨b10, 0, none⟩) ([1] : List Int).length 1, .int .i64 0]) (cs' := #[.int .i64 vid1, .int .i64 0, .int .i64 0, .bool false, .int .i64 0, .int .i64 0, .bool false, .int .i64 0, .int .i64 0, .bool false, .int .i64 0, .int .i64 0, .bool false, .int .i64 0, .int .i64 0, .bool false, .slice (some ⟨b10, 0, none⟩) ([1] : List Int).length 1, .int .i64 0]) rfl (by kernel_rfl) (by kernel_rfl : _ = Value.pointer (some ⟨b4, 0, none⟩)) (by kernel_rfl : _ = Value.agg #[.int .i64 vid1, .int .i64 0, .int .i64 0, .bool false, .int .i64 0, .int .i64 0, .bool false, .int .i64 0, .int .i64 0, .bool false, .int .i64 0, .int .i64 0, .bool false, .int .i64 0, .int .i64 0, .bool false, .slice (some ⟨b10, 0, none⟩) ([1] : List Int).length 1, .int .i64 0]) rfl rfl (by intro u_ hu_; simp only [List.mem_cons, List.not_mem_nil, or_false] at hu_; rcases hu_ with rfl | rfl | rfl | rfl | rfl | rfl | rfl | rfl | rfl | rfl | rfl | rfl | rfl | rfl | rfl | rfl | rfl | rfl <;> rfl) HS16 (Nat.le_of_ble_eq_true rfl) (by kernel_rfl) ?_)
 intro W17 HS18
 refine wpList_nil ?_
 refine hK9 _ _ ?_
 refine wp_ret ?_
 refine hret _ _ ?_
 refine ends (v := Value.agg #[.int .i64 vid1, .int .i64 0, .int .i64 0, .bool false, .int .i64 0, .int .i64 0, .bool false, .int .i64 0, .int .i64 0, .bool false, .int .i64 0, .int .i64 0, .bool false, .int .i64 0, .int .i64 0, .bool false, .slice (some ⟨b10, 0, none⟩) ([1] : List Int).length 1, .int .i64 0]) (results1 (q1 := .cell 2 65) (by kernel_rfl) (resN (n := 18) (cs := [.int .i64 vid1, .int .i64 0, .int .i64 0, .bool false, .int .i64 0, .int .i64 0, .bool false, .int .i64 0, .int .i64 0, .bool false, .int .i64 0, .int .i64 0, .bool false, .int .i64 0, .int .i64 0, .bool false, .slice (some ⟨b10, 0, none⟩) ([1] : List Int).length 1, .int .i64 0]) (by kernel_rfl : _ = Value.pointer (some ⟨b4, 0, none⟩)) Try.underlying65 rfl (by kernel_rfl) rfl (HS18.cells 0 18 _ rfl))) (by kernel_rfl) ?_
 have HS19 := HS18.drop
 injection h with h
 subst h
 exact ⟨f, (some ⟨b10, 0, none⟩), 1, s12, rfl, FM.le.refl _, HS19, HO14⟩

set_option maxRecDepth 100000 in
set_option maxHeartbeats 4000000 in
theorem catalog_CheckCatalog.calls (k : Nat) (A2 : Option Addr) (c3 : Nat) (c1 : S_Catalog) {t w : World} {f : FM} {H : List Seg} (HS : St t w f (H)) (HR4 : SlR (tSl ty_Change) f A2 c3 c1.Commits) (rr1 : Int) (h : catalog_CheckCatalog k c1 = some rr1) :
    Calls Try.prog 32 #[.agg #[.slice A2 c1.Commits.length c3]] w (fun e w' => ∃ (g : FM), e = .returned (Value.int .i64 rr1) ∧ FM.le f g ∧ St t w' g (H)) := by
 unfold catalog_CheckCatalog at h
 refine enter Try.func32 rfl (tm := #[.agg #[.slice A2 c1.Commits.length c3], uV, uV, uV, uV, uV, uV, uV, uV, uV, uV, uV, uV, uV]) (by kernel_rfl) ?_
 intro B hret hnor hnp
 refine wp_seq_k (fun K5 hK6 => ?_)
 refine wp_region_lit ?_
 refine seqK rfl (does_box (cs := #[.slice A2 c1.Commits.length c3]) rfl (by kernel_rfl : _ = Value.agg #[.slice A2 c1.Commits.length c3]) rfl HS ?_)
 intro b7 W8 HS9
 refine seqL1 (by kernel_rfl) ?_
 refine wpList_nil ?_
 refine hK6 _ _ ?_
 refine wp_seq_k (fun K11 hK12 => ?_)
 refine wp_region_lit ?_
 refine seqK rfl (does_run (run_loadN (n := 1) rfl Try.underlying34 rfl (by kernel_rfl) (by kernel_rfl : _ = Value.pointer (some ⟨b7, 0, none⟩)) (cs := [.slice A2 c1.Commits.length c3]) rfl (HS9.cells 0 1 _ rfl)) ?_)
 refine seqL1 (by kernel_rfl) ?_
 refine seqK rfl (does_run (run_load rfl Try.underlying32 rfl (by kernel_rfl : _ = Value.pointer (some ⟨b7, 0, none⟩)) (HS9.cell 0)) ?_)
 have hq_ := bind_some h; clear h; obtain ⟨⟨vt13, vt14⟩, hc15, h⟩ := hq_
 refine seqL1 (by kernel_rfl) ?_
 refine seqK rfl (does_call (f := 30) (args := #[.agg #[.slice A2 c1.Commits.length c3], .int .i64 (c1.Commits.length : Int)]) (by kernel_rfl) (catalog_replay.calls k A2 c3 c1 (c1.Commits.length : Int) HS9 HR4 vt13 vt14 hc15) ?_)
 rintro _ W18 ⟨f16, A20, c21, s22, rfl, L17, HS19, HO23⟩
 refine ⟨_, rfl, ?_⟩
 refine seqL5 (by kernel_rfl) ?_
 refine wpList_nil ?_
 refine hK12 _ _ ?_
 refine wp_seq_k (fun K25 hK26 => ?_)
 refine wp_region_lit ?_
 refine seqL2 (by kernel_rfl) ?_
 refine wpList_nil ?_
 refine hK26 _ _ ?_
 refine wp_ret ?_
 refine hret _ _ ?_
 refine ends_still (v := Value.int .i64 vt14) (by kernel_rfl) (by kernel_rfl) ?_
 have HS27 := HS19.drop
 have HS28 := HS27.drop
 injection h with h
 subst h
 exact ⟨f16, rfl, L17, HS28⟩

set_option maxRecDepth 100000 in
set_option maxHeartbeats 4000000 in
theorem slices_Clone_Row.calls (k : Nat) (A2 : Option Addr) (c3 : Nat) (s1 : List S_Row) {t w : World} {f : FM} {H : List Seg} (HS : St t w f (H)) (HR4 : SlR ty_Row f A2 c3 s1) (rr1 : List S_Row) (h : slices_Clone_Row k s1 = some rr1) :
    Calls Try.prog 51 #[.slice A2 s1.length c3] w (fun e w' => ∃ (g : FM) (A31 : Option Addr) (c32 : Nat) (s33 : Seg), e = .returned (Value.slice A31 rr1.length c32) ∧ FM.le f g ∧ St t w' g (s33 :: H) ∧ Own ty_Row 65 g A31 c32 s33 rr1) := by
 unfold slices_Clone_Row at h
 refine enter Try.func51 rfl (tm := #[.slice A2 s1.length c3, uV, uV, uV, uV, uV, uV, uV]) (by kernel_rfl) ?_
 intro B hret hnor hnp
 refine wp_seq_k (fun K5 hK6 => ?_)
 refine wp_region_lit ?_
 refine seqL1 (by kernel_rfl) ?_
 refine wpList_nil ?_
 refine hK6 _ _ ?_
 refine wp_seq_k (fun K7 hK8 => ?_)
 refine wp_seq_k (fun K9 hK10 => ?_)
 refine wp_region_lit ?_
 refine seqL1 (by kernel_rfl) ?_
 obtain _ | ad11 := A2
 · obtain rfl := HR4.nil_eq
   have hq_ := guard_some h; clear h; obtain ⟨_, h⟩ := hq_
   refine seqL1 (by kernel_rfl) ?_
   refine wpList_nil ?_
   refine hK10 _ _ ?_
   refine condT (by kernel_rfl) ?_
   refine wp_seq_k (fun K27 hK28 => ?_)
   refine wp_region_lit ?_
   refine seqL1 (by kernel_rfl) ?_
   refine wpList_nil ?_
   refine hK28 _ _ ?_
   refine wp_ret ?_
   refine hret _ _ ?_
   have HS29 := HS.cons_nil
   refine ends_still (v := Value.slice none 0 0) (by kernel_rfl) (by kernel_rfl) ?_
   injection h with h
   subst h
   exact ⟨f, none, 0, [], rfl, FM.le.refl _, HS29, (Own.nil _)⟩
 · refine seqL1 (by kernel_rfl) ?_
   refine wpList_nil ?_
   refine hK10 _ _ ?_
   refine condF (by kernel_rfl) ?_
   refine wp_skip ?_
   refine hK8 _ _ ?_
   refine wp_seq_k (fun K12 hK13 => ?_)
   refine wp_region_lit ?_
   refine seqK rfl (does_lit (e := ty_Row) (E := 65) (vs := #[]) (cs := #[]) (xs := ([] : List S_Row)) rfl Try.underlying26 (by kernel_rfl) (by kernel_rfl) rfl rfl HS ?_ (by decide))
   intro b14 W15 s16 HS17 _ HO18
   have hq_ := guard_some h; clear h; obtain ⟨c20, h⟩ := hq_
   have c20 : (([] : List S_Row).length + s1.length) * 160 ≤ 140737488355328 := c20
   refine seqL1 (by kernel_rfl) ?_
   refine seqK rfl (does_append (e := ty_Row) (E := 65) (xs := ([] : List S_Row)) (ys := s1) rfl (by kernel_rfl : _ = Value.slice (some ⟨b14, 0, none⟩) ([] : List S_Row).length 0) (by kernel_rfl : _ = Value.slice (some ad11) s1.length c3) Try.underlying26 inf65 HO18 HS17 (HR4.rc HS17) c20 (lim63 c20 (by decide)) ?_)
   intro A21 c22 s23 W24 HS25 HO26
   refine seqL1 (by kernel_rfl) ?_
   refine wpList_nil ?_
   refine hK13 _ _ ?_
   refine wp_ret ?_
   refine hret _ _ ?_
   refine ends_still (v := Value.slice A21 (([] : List S_Row) ++ s1).length c22) (by kernel_rfl) (by kernel_rfl) ?_
   injection h with h
   subst h
   exact ⟨f, A21, c22, s23, rfl, FM.le.refl _, HS25, HO26⟩

set_option maxRecDepth 100000 in
set_option maxHeartbeats 4000000 in
theorem catalog_Copy.calls (k : Nat) (A2 : Option Addr) (c3 : Nat) (l1 : List S_Row) {t w : World} {f : FM} {H : List Seg} (HS : St t w f (H)) (HR4 : SlR ty_Row f A2 c3 l1) (rr1 : List S_Row) (h : catalog_Copy k l1 = some rr1) :
    Calls Try.prog 35 #[.slice A2 l1.length c3] w (fun e w' => ∃ (g : FM) (A157 : Option Addr) (c158 : Nat) (s159 : Seg), e = .returned (Value.slice A157 rr1.length c158) ∧ FM.le f g ∧ St t w' g (s159 :: H) ∧ Own ty_Row 65 g A157 c158 s159 rr1) := by
 unfold catalog_Copy at h
 refine enter Try.func35 rfl (tm := #[.slice A2 l1.length c3, uV, uV, uV, uV, uV, uV, uV, uV, uV, uV, uV, uV, uV, uV, uV, uV, uV, uV, uV, uV, uV, uV, uV]) (by kernel_rfl) ?_
 intro B hret hnor hnp
 refine wp_seq_k (fun K5 hK6 => ?_)
 refine wp_region_lit ?_
 refine seqL1 (by kernel_rfl) ?_
 refine wpList_nil ?_
 refine hK6 _ _ ?_
 refine wp_seq_k (fun K7 hK8 => ?_)
 refine wp_region_lit ?_
 have hq_ := bind_some h; clear h; obtain ⟨vt9, hc10, h⟩ := hq_
 refine seqL1 (by kernel_rfl) ?_
 refine seqK rfl (does_call (f := 51) (args := #[.slice A2 l1.length c3]) (by kernel_rfl) (slices_Clone_Row.calls k A2 c3 l1 HS HR4 vt9 hc10) ?_)
 rintro _ W13 ⟨f11, A15, c16, s17, rfl, L12, HS14, HO18⟩
 refine ⟨_, rfl, ?_⟩
 refine seqL1 (by kernel_rfl) ?_
 refine wpList_nil ?_
 refine hK8 _ _ ?_
 refine wp_seq_k (fun K20 hK21 => ?_)
 refine wp_seq_k (fun K22 hK23 => ?_)
 refine wp_region_lit ?_
 refine seqL3 (by kernel_rfl) ?_
 refine wpList_nil ?_
 refine hK23 _ _ ?_
 refine blockK (fun B24 hx25 hn26 hr27 ho28 hp29 => ?_)
 have hq_ := bind_some h; clear h; obtain ⟨o84, hv152, h⟩ := hq_
 have J153 : ∀ (f143 : FM) (s149 : Seg) (out148 : List S_Row) (j147 : Nat → Value) (W145 : World) (a_ : Act), FM.le f11 f143 → some (out148) = some o84 → St t W145 f143 (s149 :: H) → Own ty_Row 65 f143 A15 c16 s149 out148 → out148.length = vt9.length → a_ = ⟨#[.slice A2 l1.length c3, uV, .slice none 0 0, .slice A15 out148.length c16, (j147 0), .slice A2 l1.length c3, (j147 1), (j147 2), iV (vt9.length : Int), (j147 3), (j147 4), (j147 5), (j147 6), (j147 7), (j147 8), (j147 9), (j147 10), (j147 11), (j147 12), (j147 13), (j147 14), (j147 15), (j147 16), uV], []⟩ → K20 a_ W145 := by
  intro f143 s149 out148 j147 W145 a_ L144 hj154 HS146 HO150 HL151 hfr_; subst hfr_
  injection hj154 with hj154; subst hj154; try dsimp only at h
  refine hK21 _ _ ?_
  refine wp_seq_k (fun K155 hK156 => ?_)
  refine wp_region_lit ?_
  refine seqL2 (by kernel_rfl) ?_
  refine wpList_nil ?_
  refine hK156 _ _ ?_
  refine wp_ret ?_
  refine hret _ _ ?_
  refine ends_still (v := Value.slice A15 out148.length c16) (by kernel_rfl) (by kernel_rfl) ?_
  injection h with h
  subst h
  exact ⟨f143, A15, c16, s149, rfl, (L12.trans L144), HS146, HO150⟩
 clear h; have h := hv152; clear hv152
 refine loopK (fun n_ a_ w_ => ∃ (f88 : FM) (s94 : Seg) (out93 : List S_Row) (x97 : Int) (j92 : Nat → Value), FM.le f11 f88 ∧ St t w_ f88 (s94 :: H) ∧ Own ty_Row 65 f88 A15 c16 s94 out93 ∧ out93.length = vt9.length ∧ catalog_Copy.l0 k vt9 n_ out93 x97 = some o84 ∧ a_ = ⟨#[.slice A2 l1.length c3, uV, .slice none 0 0, .slice A15 out93.length c16, (j92 0), .slice A2 l1.length c3, .slice A15 vt9.length c16, .slice A15 vt9.length c16, iV (vt9.length : Int), iV x97, (j92 1), (j92 2), (j92 3), (j92 4), (j92 5), (j92 6), (j92 7), (j92 8), (j92 9), (j92 10), (j92 11), (j92 12), (j92 13), uV], []⟩) k ⟨f11, s17, vt9, 0, (fun i_ => [undef, undef, undef, undef, undef, undef, undef, undef, undef, undef, undef, undef, undef, undef].getD i_ undef), (FM.le.refl _), HS14, HO18, rfl, h, (by kernel_rfl)⟩ ?_
 clear h
 rintro n87 _ W90 ⟨f88, s94, out93, x97, j92, L89, HS91, HO95, HL96, h, rfl⟩ K85 hK86
 obtain _ | n87 := n87
 · exact nomatch h
 simp only [catalog_Copy.l0] at h
 refine wp_seq_k (fun K98 hK99 => ?_)
 refine wp_region_lit ?_
 refine seqL1 (by kernel_rfl) ?_
 refine wpList_nil ?_
 refine hK99 _ _ ?_
 refine wp_seq_k (fun K100 hK101 => ?_)
 have hq_ := ite_some h; clear h; rcases hq_ with ⟨c103, h⟩ | ⟨c103, h⟩
 · have c103 : x97 < (vt9.length : Int) := c103
   refine wpRwI 10 (x := (decide (x97 < (vt9.length : Int)))) (v := true) (by kernel_rfl) (decide_eq_true c103) ?_
   refine condT (by kernel_rfl) ?_
   refine wp_skip ?_
   refine hK101 _ _ ?_
   refine wp_seq_k (fun K104 hK105 => ?_)
   refine blockK (fun B106 hx107 hn108 hr109 ho110 hp111 => ?_)
   refine wp_seq_k (fun K113 hK114 => ?_)
   refine wp_region_lit ?_
   refine seqL2 (by kernel_rfl) ?_
   refine wpList_nil ?_
   refine hK114 _ _ ?_
   refine wp_region_lit ?_
   have hq_ := guard_some h; clear h; obtain ⟨c115, h⟩ := hq_
   have c115 : 0 ≤ x97 := c115
   have hq_ := guard_some h; clear h; obtain ⟨c116, h⟩ := hq_
   have c116 : x97 < (out93.length : Int) := c116
   obtain ⟨b120, of121, cs117, hA122, hr118, hc119⟩ := HO95.at (i := x97) c115 c116
   obtain ⟨A123, c123, rfl, HR123⟩ := hr118
   refine seqL4 (by kernel_rfl) ?_
   refine seqK rfl (does_run (run_indexE hA122 (sz := 18) rfl Try.underlying26 (by kernel_rfl) (by kernel_rfl : _ = Value.slice A15 out93.length c16) (by kernel_rfl : _ = Value.int .i64 x97) c115 c116 W90) ?_)
   refine seqL1 (by kernel_rfl) ?_
   refine seqK rfl (does_run (run_load rfl Try.underlying22 rfl (by kernel_rfl : _ = Value.pointer (some ⟨b120, of121 + (x97 : Int).toNat * 18 + 16, none⟩)) ((hc119 HS91) 16 (by decide))) ?_)
   have hq_ := bind_some h; clear h; obtain ⟨vt124, hc125, h⟩ := hq_
   refine seqK rfl (does_call (f := 46) (args := #[.slice A123 ((rd out93 x97).Frames).length c123]) (by kernel_rfl) (slices_Clone_int.calls k A123 c123 ((rd out93 x97).Frames) HS91 HR123 vt124 hc125) ?_)
   rintro _ W128 ⟨f126, A130, c131, s132, rfl, L127, HS129, HO133⟩
   refine ⟨_, rfl, ?_⟩
   refine seqK rfl (does_run (run_indexE hA122 (sz := 18) rfl Try.underlying26 (by kernel_rfl) (by kernel_rfl : _ = Value.slice A15 out93.length c16) (by kernel_rfl : _ = Value.int .i64 x97) c115 c116 W128) ?_)
   obtain ⟨f135, L136, HS137, HR138⟩ := HO133.freeze HS129
   refine seqL1 (by kernel_rfl) ?_
   refine seqK rfl (does_putP (e := ty_Row) (E := 65) (fo := 16) (vs := [.slice A130 vt124.length c131]) (u := (⟨(rd out93 x97).ID, ((rd out93 x97).Box), ((rd out93 x97).Flux), ((rd out93 x97).When), vt124, (rd out93 x97).Marks⟩ : S_Row)) (i := x97) rfl (by kernel_rfl) (HO95.mono (L127.trans L136)) HS137 hA122 (by kernel_rfl : _ = Value.pointer (some ⟨b120, of121 + (x97 : Int).toNat * 18 + 16, none⟩)) (by kernel_rfl : _ = Value.slice A130 vt124.length c131) rfl rfl (by intro u_ hu_; simp only [List.mem_cons, List.not_mem_nil, or_false] at hu_; subst hu_; rfl) (u0 := (rd out93 x97)) ⟨A123, c123, rfl, (HR123.mono (L127.trans L136))⟩ rfl ⟨A130, c131, rfl, HR138⟩ (Nat.le_of_ble_eq_true rfl) (hc119 HS137) c115 c116 ?_)
   intro W139 s140 HS141 HO142
   refine seqRwS 3 (A := A15) (m := out93.length) (n := (out93.set (x97).toNat (⟨(rd out93 x97).ID, ((rd out93 x97).Box), ((rd out93 x97).Flux), ((rd out93 x97).When), vt124, (rd out93 x97).Marks⟩ : S_Row)).length) (c := c16) (by kernel_rfl) (List.length_set).symm ?_
   refine seqRwS 12 (A := A15) (m := out93.length) (n := (out93.set (x97).toNat (⟨(rd out93 x97).ID, ((rd out93 x97).Box), ((rd out93 x97).Flux), ((rd out93 x97).When), vt124, (rd out93 x97).Marks⟩ : S_Row)).length) (c := c16) (by kernel_rfl) (List.length_set).symm ?_
   refine seqRwS 14 (A := A15) (m := out93.length) (n := (out93.set (x97).toNat (⟨(rd out93 x97).ID, ((rd out93 x97).Box), ((rd out93 x97).Flux), ((rd out93 x97).When), vt124, (rd out93 x97).Marks⟩ : S_Row)).length) (c := c16) (by kernel_rfl) (List.length_set).symm ?_
   refine wpList_nil ?_
   refine hn108 _ _ ?_
   refine hK105 _ _ ?_
   refine wp_region_lit ?_
   refine seqL2 (by kernel_rfl) ?_
   refine wpList_nil ?_
   refine hK86 n87 _ _ (Nat.lt_succ_self _) ?_
   exact ⟨f135, s140, (out93.set (x97).toNat (⟨(rd out93 x97).ID, ((rd out93 x97).Box), ((rd out93 x97).Flux), ((rd out93 x97).When), vt124, (rd out93 x97).Marks⟩ : S_Row)), (w64 (x97 + 1)), (fun i_ => [Value.int .i64 x97, Value.bool true, Value.int .i64 x97, Value.slice A15 (out93.set (x97).toNat (⟨(rd out93 x97).ID, ((rd out93 x97).Box), ((rd out93 x97).Flux), ((rd out93 x97).When), vt124, (rd out93 x97).Marks⟩ : S_Row)).length c16, Value.int .i64 x97, Value.slice A15 (out93.set (x97).toNat (⟨(rd out93 x97).ID, ((rd out93 x97).Box), ((rd out93 x97).Flux), ((rd out93 x97).When), vt124, (rd out93 x97).Marks⟩ : S_Row)).length c16, Value.int .i64 x97, Value.pointer (some ⟨b120, of121 + (x97 : Int).toNat * 18, none⟩), Value.pointer (some ⟨b120, of121 + (x97 : Int).toNat * 18 + 16, none⟩), Value.slice A123 ((rd out93 x97).Frames).length c123, Value.slice A130 vt124.length c131, Value.pointer (some ⟨b120, of121 + (x97 : Int).toNat * 18, none⟩), Value.pointer (some ⟨b120, of121 + (x97 : Int).toNat * 18 + 16, none⟩), Value.int .i64 (w64 (x97 + 1))].getD i_ undef), (L89.trans (L127.trans L136)), HS141, HO142, (List.length_set.trans HL96), h, (by kernel_rfl)⟩
 · have c103 : ¬ (x97 < (vt9.length : Int)) := c103
   refine wpRwI 10 (x := (decide (x97 < (vt9.length : Int)))) (v := false) (by kernel_rfl) (decide_eq_false c103) ?_
   refine condF (by kernel_rfl) ?_
   refine wp_exit ?_
   refine hx25 _ _ ?_
   exact J153 f88 s94 out93 (fun i_ => [(j92 0), Value.slice A15 vt9.length c16, Value.slice A15 vt9.length c16, Value.int .i64 x97, Value.bool false, (j92 2), (j92 3), (j92 4), (j92 5), (j92 6), (j92 7), (j92 8), (j92 9), (j92 10), (j92 11), (j92 12), (j92 13)].getD i_ undef) W90 _ L89 h HS91 HO95 HL96 (by kernel_rfl)

set_option maxRecDepth 100000 in
set_option maxHeartbeats 4000000 in
theorem catalog_At.calls (k : Nat) (A2 : Option Addr) (c3 : Nat) (c1 : S_Catalog) (version5 : Int) {t w : World} {f : FM} {H : List Seg} (HS : St t w f (H)) (HR4 : SlR (tSl ty_Change) f A2 c3 c1.Commits) (rr1 : List S_Row) (rr2 : Int) (h : catalog_At k c1 version5 = some (rr1, rr2)) :
    Calls Try.prog 10 #[.agg #[.slice A2 c1.Commits.length c3], .int .i64 version5] w (fun e w' => ∃ (g : FM) (A192 : Option Addr) (c193 : Nat) (s194 : Seg), e = .returned (Value.tuple #[.slice A192 rr1.length c193, .int .i64 rr2]) ∧ FM.le f g ∧ St t w' g (s194 :: H) ∧ Own ty_Row 65 g A192 c193 s194 rr1) := by
 unfold catalog_At at h
 refine enter Try.func10 rfl (tm := #[.agg #[.slice A2 c1.Commits.length c3], iV version5, uV, uV, uV, uV, uV, uV, uV, uV, uV, uV, uV, uV, uV, uV, uV, uV, uV, uV, uV, uV, uV, uV, uV, uV, uV, uV, uV, uV, uV, uV, uV, uV, uV, uV, uV, uV, uV, uV, uV, uV, uV, uV, uV, uV, uV, uV, uV]) (by kernel_rfl) ?_
 intro B hret hnor hnp
 refine wp_seq_k (fun K6 hK7 => ?_)
 refine wp_region_lit ?_
 refine seqK rfl (does_box (cs := #[.slice A2 c1.Commits.length c3]) rfl (by kernel_rfl : _ = Value.agg #[.slice A2 c1.Commits.length c3]) rfl HS ?_)
 intro b8 W9 HS10
 refine seqL2 (by kernel_rfl) ?_
 refine wpList_nil ?_
 refine hK7 _ _ ?_
 refine wp_seq_k (fun K12 hK13 => ?_)
 refine wp_seq_k (fun K14 hK15 => ?_)
 refine wp_region_lit ?_
 refine seqK rfl (does_run (run_loadN (n := 1) rfl Try.underlying34 rfl (by kernel_rfl) (by kernel_rfl : _ = Value.pointer (some ⟨b8, 0, none⟩)) (cs := [.slice A2 c1.Commits.length c3]) rfl (HS10.cells 0 1 _ rfl)) ?_)
 have hq_ := bind_some h; clear h; obtain ⟨vt16, hc17, h⟩ := hq_
 refine seqK rfl (does_call (f := 32) (args := #[.agg #[.slice A2 c1.Commits.length c3]]) (by kernel_rfl) (catalog_CheckCatalog.calls k A2 c3 c1 HS10 HR4 vt16 hc17) ?_)
 rintro _ W20 ⟨f18, rfl, L19, HS21⟩
 refine ⟨_, rfl, ?_⟩
 refine seqL1 (by kernel_rfl) ?_
 refine wpList_nil ?_
 refine hK15 _ _ ?_
 refine wp_seq_k (fun K22 hK23 => ?_)
 refine wp_region_lit ?_
 refine seqL2 (by kernel_rfl) ?_
 refine wpList_nil ?_
 refine hK23 _ _ ?_
 have hq_ := ite_some h; clear h; rcases hq_ with ⟨c25, h⟩ | ⟨c25, h⟩
 · have c25 : vt16 ≠ 0 := c25
   refine wpRwI 15 (x := (vt16 != 0)) (v := true) (by kernel_rfl) (bne_iff_ne.mpr c25) ?_
   refine condT (by kernel_rfl) ?_
   refine wp_seq_k (fun K26 hK27 => ?_)
   refine wp_region_lit ?_
   refine seqL3 (by kernel_rfl) ?_
   refine wpList_nil ?_
   refine hK27 _ _ ?_
   refine wp_ret ?_
   refine hret _ _ ?_
   have HS172 := HS21.cons_nil
   refine ends_still (v := Value.tuple #[.slice none 0 0, .int .i64 vt16]) (by kernel_rfl) (by kernel_rfl) ?_
   have HS174 := HS172.u1
   have HS175 := HS174.drop
   injection h with h
   injection h with h0_ h
   subst h0_ h
   exact ⟨f18, none, 0, [], rfl, L19, HS175, (Own.nil _)⟩
 · have c25 : ¬ (vt16 ≠ 0) := c25
   refine wpRwI 15 (x := (vt16 != 0)) (v := false) (by kernel_rfl) (bne_eq_false_iff_eq.mpr (Decidable.of_not_not c25)) ?_
   refine condF (by kernel_rfl) ?_
   refine wp_skip ?_
   refine hK13 _ _ ?_
   refine wp_seq_k (fun K28 hK29 => ?_)
   refine wp_seq_k (fun K30 hK31 => ?_)
   refine wp_region_lit ?_
   refine seqL3 (by kernel_rfl) ?_
   have hq_ := ite_some h; clear h; rcases hq_ with ⟨c32, h⟩ | ⟨c32, h⟩
   · have c32 : version5 < 0 := c32
     refine seqRwI 18 (x := (decide (version5 < 0))) (v := true) (by kernel_rfl) (decide_eq_true c32) ?_
     refine seqRwI 19 (x := (decide (version5 < 0))) (v := true) (by kernel_rfl) (decide_eq_true c32) ?_
     refine seqL6 (by kernel_rfl) ?_
     refine wpList_nil ?_
     refine hK31 _ _ ?_
     refine condT (by kernel_rfl) ?_
     refine wp_seq_k (fun K33 hK34 => ?_)
     refine wp_region_lit ?_
     refine seqS2 (a' := ⟨#[.agg #[.slice A2 c1.Commits.length c3], iV version5, pV b8 0, uV, .slice none 0 0, iV 4, iV vt16, uV, uV, uV, uV, uV, .agg #[.slice A2 c1.Commits.length c3], iV vt16, iV vt16, fV, uV, iV version5, tV, tV, uV, uV, uV, uV, uV, tV, uV, uV, uV, uV, uV, uV, uV, uV, uV, uV, uV, uV, uV, uV, uV, uV, uV, uV, uV, uV, uV, uV, uV], []⟩) (by kernel_rfl) ?_
     refine wpList_nil ?_
     refine hK34 _ _ ?_
     refine wp_ret ?_
     refine hret _ _ ?_
     have HS176 := HS21.cons_nil
     refine ends_still (v := Value.tuple #[.slice none 0 0, .int .i64 4]) (by kernel_rfl) (by kernel_rfl) ?_
     have HS178 := HS176.u1
     have HS179 := HS178.drop
     injection h with h
     injection h with h0_ h
     subst h0_ h
     exact ⟨f18, none, 0, [], rfl, L19, HS179, (Own.nil _)⟩
   · have c32 : ¬ (version5 < 0) := c32
     refine seqRwI 18 (x := (decide (version5 < 0))) (v := false) (by kernel_rfl) (decide_eq_false c32) ?_
     refine seqRwI 19 (x := (decide (version5 < 0))) (v := false) (by kernel_rfl) (decide_eq_false c32) ?_
     refine seqL2 (by kernel_rfl) ?_
     refine seqG (by kernel_rfl) (does_run (run_load rfl Try.underlying32 rfl (by kernel_rfl : _ = Value.pointer (some ⟨b8, 0, none⟩)) (HS21.cell 0)) ?_)
     refine seqL3 (by kernel_rfl) ?_
     refine wpList_nil ?_
     refine hK31 _ _ ?_
     have hq_ := ite_some h; clear h; rcases hq_ with ⟨c36, h⟩ | ⟨c36, h⟩
     · have c36 : version5 > (c1.Commits.length : Int) := c36
       refine wpRwI 24 (x := (decide (version5 > (c1.Commits.length : Int)))) (v := true) (by kernel_rfl) (decide_eq_true c36) ?_
       refine wpRwI 25 (x := (decide (version5 > (c1.Commits.length : Int)))) (v := true) (by kernel_rfl) (decide_eq_true c36) ?_
       refine condT (by kernel_rfl) ?_
       refine wp_seq_k (fun K37 hK38 => ?_)
       refine wp_region_lit ?_
       refine seqS2 (a' := ⟨#[.agg #[.slice A2 c1.Commits.length c3], iV version5, pV b8 0, uV, .slice none 0 0, iV 4, iV vt16, uV, uV, uV, uV, uV, .agg #[.slice A2 c1.Commits.length c3], iV vt16, iV vt16, fV, uV, iV version5, fV, fV, iV version5, pV b8 0, .slice A2 c1.Commits.length c3, iV (c1.Commits.length : Int), tV, tV, uV, uV, uV, uV, uV, uV, uV, uV, uV, uV, uV, uV, uV, uV, uV, uV, uV, uV, uV, uV, uV, uV, uV], []⟩) (by kernel_rfl) ?_
       refine wpList_nil ?_
       refine hK38 _ _ ?_
       refine wp_ret ?_
       refine hret _ _ ?_
       have HS180 := HS21.cons_nil
       refine ends_still (v := Value.tuple #[.slice none 0 0, .int .i64 4]) (by kernel_rfl) (by kernel_rfl) ?_
       have HS182 := HS180.u1
       have HS183 := HS182.drop
       injection h with h
       injection h with h0_ h
       subst h0_ h
       exact ⟨f18, none, 0, [], rfl, L19, HS183, (Own.nil _)⟩
     · have c36 : ¬ (version5 > (c1.Commits.length : Int)) := c36
       refine wpRwI 24 (x := (decide (version5 > (c1.Commits.length : Int)))) (v := false) (by kernel_rfl) (decide_eq_false c36) ?_
       refine wpRwI 25 (x := (decide (version5 > (c1.Commits.length : Int)))) (v := false) (by kernel_rfl) (decide_eq_false c36) ?_
       refine condF (by kernel_rfl) ?_
       refine wp_skip ?_
       refine hK29 _ _ ?_
       refine wp_seq_k (fun K39 hK40 => ?_)
       refine wp_region_lit ?_
       refine seqK rfl (does_run (run_loadN (n := 1) rfl Try.underlying34 rfl (by kernel_rfl) (by kernel_rfl : _ = Value.pointer (some ⟨b8, 0, none⟩)) (cs := [.slice A2 c1.Commits.length c3]) rfl (HS21.cells 0 1 _ rfl)) ?_)
       have hq_ := bind_some h; clear h; obtain ⟨⟨vt41, vt42⟩, hc43, h⟩ := hq_
       refine seqL1 (by kernel_rfl) ?_
       refine seqK rfl (does_call (f := 30) (args := #[.agg #[.slice A2 c1.Commits.length c3], .int .i64 version5]) (by kernel_rfl) (catalog_replay.calls k A2 c3 c1 version5 HS21 (HR4.mono L19) vt41 vt42 hc43) ?_)
       rintro _ W46 ⟨f44, A48, c49, s50, rfl, L45, HS47, HO51⟩
       refine ⟨_, rfl, ?_⟩
       refine seqS5 (a' := ⟨#[.agg #[.slice A2 c1.Commits.length c3], iV version5, pV b8 0, uV, .slice none 0 0, iV 0, iV vt16, .map (mb A48), iV vt42, uV, uV, uV, .agg #[.slice A2 c1.Commits.length c3], iV vt16, iV vt16, fV, uV, iV version5, fV, fV, iV version5, pV b8 0, .slice A2 c1.Commits.length c3, iV (c1.Commits.length : Int), fV, fV, .tuple #[.map (mb A48), iV vt42], .agg #[.slice A2 c1.Commits.length c3], iV version5, .tuple #[.map (mb A48), iV vt42], .map (mb A48), iV vt42, uV, uV, uV, uV, uV, uV, uV, uV, uV, uV, uV, uV, uV, uV, uV, uV, uV], []⟩) (by kernel_rfl) ?_
       refine wpList_nil ?_
       refine hK40 _ _ ?_
       refine wp_seq_k (fun K53 hK54 => ?_)
       refine wp_region_lit ?_
       refine seqL1 (by kernel_rfl) ?_
       refine wpList_nil ?_
       refine hK54 _ _ ?_
       refine wp_seq_k (fun K55 hK56 => ?_)
       refine wp_seq_k (fun K57 hK58 => ?_)
       refine wp_region_lit ?_
       refine seqL1 (by kernel_rfl) ?_
       refine seqK rfl (does_call (f := 34) (args := #[Value.map (mb A48)]) (by kernel_rfl) (keys_calls (M := 85) (g := 50) Try.keys34 rfl rfl rfl HS47) ?_)
       rintro _ W60 ⟨b59, rfl, HS61⟩
       refine ⟨_, rfl, ?_⟩
       have HS63 := HS61.u1
       have HS64 := HS63.u1
       have hq_ := bind_some h; clear h; obtain ⟨vt65, hc66, h⟩ := hq_
       refine seqK rfl (does_call (f := 33) (args := #[Value.func (.func 50) #[] #[.pointer (some ⟨b59, 0, none⟩)]]) (by kernel_rfl) (sorted_calls Try.keys34 Try.sorted33 rfl rfl rfl rfl rfl Try.underlying3 Try.slices_Sort_int Try.slices_Sort_int_none (Go.Proofs.enters_of Try.func49 (by kernel_rfl) rfl) (Go.Proofs.enters_of Try.func50 (by kernel_rfl) rfl) HO51 HS64 vt65 hc66) ?_)
       rintro _ W70 ⟨A67, c68, s69, rfl, HS71, HO72⟩
       refine ⟨_, rfl, ?_⟩
       refine seqL2 (by kernel_rfl) ?_
       refine wpList_nil ?_
       refine hK58 _ _ ?_
       refine blockK (fun B74 hx75 hn76 hr77 ho78 hp79 => ?_)
       have hq_ := bind_some h; clear h; obtain ⟨o80, hv150, h⟩ := hq_
       have J151 : ∀ (f139 : FM) (A145 : Option Addr) (c146 : Nat) (s147 : Seg) (out144 : List S_Row) (j143 : Nat → Value) (W141 : World) (a_ : Act), FM.le f44 f139 → some (out144) = some o80 → St t W141 f139 (s147 :: s69 :: [(b59, .cells #[.map (mb A48)] 85 (0, 0))] :: s50 :: [(b8, .cells #[.slice A2 c1.Commits.length c3] 34 (0, 0))] :: H) → Own ty_Row 65 f139 A145 c146 s147 out144 → a_ = ⟨#[.agg #[.slice A2 c1.Commits.length c3], iV version5, pV b8 0, uV, .slice none 0 0, iV 0, iV vt16, .map (mb A48), iV vt42, .slice A145 out144.length c146, uV, (j143 0), .agg #[.slice A2 c1.Commits.length c3], iV vt16, iV vt16, fV, uV, iV version5, fV, fV, iV version5, pV b8 0, .slice A2 c1.Commits.length c3, iV (c1.Commits.length : Int), fV, fV, .tuple #[.map (mb A48), iV vt42], .agg #[.slice A2 c1.Commits.length c3], iV version5, .tuple #[.map (mb A48), iV vt42], .map (mb A48), iV vt42, .map (mb A48), .func (.func 50) #[] #[pV b59 0], .slice A67 vt65.length c68, iV (vt65.length : Int), (j143 1), (j143 2), (j143 3), (j143 4), (j143 5), (j143 6), (j143 7), (j143 8), (j143 9), (j143 10), (j143 11), uV, uV], []⟩ → K55 a_ W141 := by
        intro f139 A145 c146 s147 out144 j143 W141 a_ L140 hj152 HS142 HO148 hfr_; subst hfr_
        injection hj152 with hj152; subst hj152; try dsimp only at h
        refine hK56 _ _ ?_
        refine wp_seq_k (fun K155 hK156 => ?_)
        refine wp_region_lit ?_
        obtain ⟨f157, L158, HS159, HR160⟩ := HO148.freeze HS142
        have hq_ := bind_some h; clear h; obtain ⟨vt161, hc162, h⟩ := hq_
        refine seqL1 (by kernel_rfl) ?_
        refine seqK rfl (does_call (f := 35) (args := #[.slice A145 out144.length c146]) (by kernel_rfl) (catalog_Copy.calls k A145 c146 out144 HS159 HR160 vt161 hc162) ?_)
        rintro _ W165 ⟨f163, A167, c168, s169, rfl, L164, HS166, HO170⟩
        refine ⟨_, rfl, ?_⟩
        refine seqL2 (by kernel_rfl) ?_
        refine wpList_nil ?_
        refine hK156 _ _ ?_
        refine wp_ret ?_
        refine hret _ _ ?_
        refine ends_still (v := Value.tuple #[.slice A167 vt161.length c168, .int .i64 0]) (by kernel_rfl) (by kernel_rfl) ?_
        have HS184 := HS166.u4
        have HS185 := HS184.u4
        have HS186 := HS185.u4
        have HS187 := HS186.u4
        have HS188 := HS187.drop
        have HS189 := HS188.drop
        have HS190 := HS189.drop
        have HS191 := HS190.drop
        injection h with h
        injection h with h0_ h
        subst h0_ h
        exact ⟨f163, A167, c168, s169, rfl, (L19.trans (L45.trans (L140.trans (L158.trans L164)))), HS191, HO170⟩
       clear h; have h := hv150; clear hv150
       have HS153 := HS71.cons_nil
       refine loopK (fun n_ a_ w_ => ∃ (f84 : FM) (A90 : Option Addr) (c91 : Nat) (s92 : Seg) (out89 : List S_Row) (x95 : Int) (j88 : Nat → Value), FM.le f44 f84 ∧ St t w_ f84 (s92 :: s69 :: [(b59, .cells #[.map (mb A48)] 85 (0, 0))] :: s50 :: [(b8, .cells #[.slice A2 c1.Commits.length c3] 34 (0, 0))] :: H) ∧ Own ty_Row 65 f84 A90 c91 s92 out89 ∧ catalog_At.l0 k vt65 vt41 n_ out89 x95 = some o80 ∧ a_ = ⟨#[.agg #[.slice A2 c1.Commits.length c3], iV version5, pV b8 0, uV, .slice none 0 0, iV 0, iV vt16, .map (mb A48), iV vt42, .slice A90 out89.length c91, uV, (j88 0), .agg #[.slice A2 c1.Commits.length c3], iV vt16, iV vt16, fV, uV, iV version5, fV, fV, iV version5, pV b8 0, .slice A2 c1.Commits.length c3, iV (c1.Commits.length : Int), fV, fV, .tuple #[.map (mb A48), iV vt42], .agg #[.slice A2 c1.Commits.length c3], iV version5, .tuple #[.map (mb A48), iV vt42], .map (mb A48), iV vt42, .map (mb A48), .func (.func 50) #[] #[pV b59 0], .slice A67 vt65.length c68, iV (vt65.length : Int), iV x95, (j88 1), (j88 2), (j88 3), (j88 4), (j88 5), (j88 6), (j88 7), (j88 8), (j88 9), (j88 10), uV, uV], []⟩) k ⟨f44, none, 0, [], ([] : List S_Row), 0, (fun i_ => [undef, undef, undef, undef, undef, undef, undef, undef, undef, undef, undef].getD i_ undef), (FM.le.refl _), HS153, (Own.nil _), h, (by kernel_rfl)⟩ ?_
       clear h
       rintro n83 _ W86 ⟨f84, A90, c91, s92, out89, x95, j88, L85, HS87, HO93, h, rfl⟩ K81 hK82
       obtain _ | n83 := n83
       · exact nomatch h
       simp only [catalog_At.l0] at h
       refine wp_seq_k (fun K96 hK97 => ?_)
       refine wp_region_lit ?_
       refine seqL1 (by kernel_rfl) ?_
       refine wpList_nil ?_
       refine hK97 _ _ ?_
       refine wp_seq_k (fun K98 hK99 => ?_)
       have hq_ := ite_some h; clear h; rcases hq_ with ⟨c101, h⟩ | ⟨c101, h⟩
       · have c101 : x95 < (vt65.length : Int) := c101
         refine wpRwI 37 (x := (decide (x95 < (vt65.length : Int)))) (v := true) (by kernel_rfl) (decide_eq_true c101) ?_
         refine condT (by kernel_rfl) ?_
         refine wp_skip ?_
         refine hK99 _ _ ?_
         refine wp_seq_k (fun K102 hK103 => ?_)
         refine blockK (fun B104 hx105 hn106 hr107 ho108 hp109 => ?_)
         refine wp_seq_k (fun K111 hK112 => ?_)
         refine wp_region_lit ?_
         have hq_ := guard_some h; clear h; obtain ⟨c113, h⟩ := hq_
         have c113 : 0 ≤ x95 := c113
         obtain ⟨b117, of118, cs114, hA119, hr115, hc116⟩ := (HO72.mono L85).at (i := x95) c113 c101
         obtain rfl := hr115
         refine seqK rfl (does_run (run_indexE hA119 (sz := 1) rfl Try.underlying22 (by kernel_rfl) (by kernel_rfl : _ = Value.slice A67 vt65.length c68) (by kernel_rfl : _ = Value.int .i64 x95) c113 c101 W86) ?_)
         refine seqK rfl (does_run (run_load rfl Try.underlying3 rfl (by kernel_rfl : _ = Value.pointer (some ⟨b117, of118 + (x95 : Int).toNat * 1, none⟩)) ((hc116 HS87.u1) 0 (by decide))) ?_)
         refine seqL1 (by kernel_rfl) ?_
         refine wpList_nil ?_
         refine hK112 _ _ ?_
         refine wp_region_lit ?_
         obtain ⟨cs120, hr121, hl122⟩ := (HO51.mono L85).look (z := zero_Row) (zc := #[Value.int .i64 0, Value.int .i64 0, Value.int .i64 0, Value.bool false, Value.int .i64 0, Value.int .i64 0, Value.bool false, Value.int .i64 0, Value.int .i64 0, Value.bool false, Value.int .i64 0, Value.int .i64 0, Value.bool false, Value.int .i64 0, Value.int .i64 0, Value.bool false, Value.slice none 0 0, Value.int .i64 0]) (rd vt65 x95) ⟨none, 0, rfl, SlR.nil _ _⟩
         obtain ⟨A123, c123, rfl, HR123⟩ := hr121
         refine seqL3 (by kernel_rfl) ?_
         refine seqK rfl (does_run (hl122 (ok := false) rfl Try.underlying85 Try.underlying3 (by kernel_rfl) (by kernel_rfl : _ = Value.map (mb A48)) (by kernel_rfl : _ = Value.int .i64 (rd vt65 x95)) HS87.u3) ?_)
         refine seqK rfl (does_lit (e := ty_Row) (E := 65) (vs := #[(0, Value.agg #[.int .i64 ((mget zero_Row vt41 (rd vt65 x95)).ID), .int .i64 ((((mget zero_Row vt41 (rd vt65 x95)).Box).X).Lo), .int .i64 ((((mget zero_Row vt41 (rd vt65 x95)).Box).X).Hi), .bool ((((mget zero_Row vt41 (rd vt65 x95)).Box).X).Unknown), .int .i64 ((((mget zero_Row vt41 (rd vt65 x95)).Box).Y).Lo), .int .i64 ((((mget zero_Row vt41 (rd vt65 x95)).Box).Y).Hi), .bool ((((mget zero_Row vt41 (rd vt65 x95)).Box).Y).Unknown), .int .i64 ((((mget zero_Row vt41 (rd vt65 x95)).Box).Z).Lo), .int .i64 ((((mget zero_Row vt41 (rd vt65 x95)).Box).Z).Hi), .bool ((((mget zero_Row vt41 (rd vt65 x95)).Box).Z).Unknown), .int .i64 (((mget zero_Row vt41 (rd vt65 x95)).Flux).Lo), .int .i64 (((mget zero_Row vt41 (rd vt65 x95)).Flux).Hi), .bool (((mget zero_Row vt41 (rd vt65 x95)).Flux).Unknown), .int .i64 (((mget zero_Row vt41 (rd vt65 x95)).When).Lo), .int .i64 (((mget zero_Row vt41 (rd vt65 x95)).When).Hi), .bool (((mget zero_Row vt41 (rd vt65 x95)).When).Unknown), .slice A123 ((mget zero_Row vt41 (rd vt65 x95)).Frames).length c123, .int .i64 ((mget zero_Row vt41 (rd vt65 x95)).Marks)])]) (cs := #[.int .i64 ((mget zero_Row vt41 (rd vt65 x95)).ID), .int .i64 ((((mget zero_Row vt41 (rd vt65 x95)).Box).X).Lo), .int .i64 ((((mget zero_Row vt41 (rd vt65 x95)).Box).X).Hi), .bool ((((mget zero_Row vt41 (rd vt65 x95)).Box).X).Unknown), .int .i64 ((((mget zero_Row vt41 (rd vt65 x95)).Box).Y).Lo), .int .i64 ((((mget zero_Row vt41 (rd vt65 x95)).Box).Y).Hi), .bool ((((mget zero_Row vt41 (rd vt65 x95)).Box).Y).Unknown), .int .i64 ((((mget zero_Row vt41 (rd vt65 x95)).Box).Z).Lo), .int .i64 ((((mget zero_Row vt41 (rd vt65 x95)).Box).Z).Hi), .bool ((((mget zero_Row vt41 (rd vt65 x95)).Box).Z).Unknown), .int .i64 (((mget zero_Row vt41 (rd vt65 x95)).Flux).Lo), .int .i64 (((mget zero_Row vt41 (rd vt65 x95)).Flux).Hi), .bool (((mget zero_Row vt41 (rd vt65 x95)).Flux).Unknown), .int .i64 (((mget zero_Row vt41 (rd vt65 x95)).When).Lo), .int .i64 (((mget zero_Row vt41 (rd vt65 x95)).When).Hi), .bool (((mget zero_Row vt41 (rd vt65 x95)).When).Unknown), .slice A123 ((mget zero_Row vt41 (rd vt65 x95)).Frames).length c123, .int .i64 ((mget zero_Row vt41 (rd vt65 x95)).Marks)]) (xs := ([(mget zero_Row vt41 (rd vt65 x95))] : List S_Row)) rfl Try.underlying26 (by kernel_rfl) (by kernel_rfl) ⟨[.int .i64 ((mget zero_Row vt41 (rd vt65 x95)).ID), .int .i64 ((((mget zero_Row vt41 (rd vt65 x95)).Box).X).Lo), .int .i64 ((((mget zero_Row vt41 (rd vt65 x95)).Box).X).Hi), .bool ((((mget zero_Row vt41 (rd vt65 x95)).Box).X).Unknown), .int .i64 ((((mget zero_Row vt41 (rd vt65 x95)).Box).Y).Lo), .int .i64 ((((mget zero_Row vt41 (rd vt65 x95)).Box).Y).Hi), .bool ((((mget zero_Row vt41 (rd vt65 x95)).Box).Y).Unknown), .int .i64 ((((mget zero_Row vt41 (rd vt65 x95)).Box).Z).Lo), .int .i64 ((((mget zero_Row vt41 (rd vt65 x95)).Box).Z).Hi), .bool ((((mget zero_Row vt41 (rd vt65 x95)).Box).Z).Unknown), .int .i64 (((mget zero_Row vt41 (rd vt65 x95)).Flux).Lo), .int .i64 (((mget zero_Row vt41 (rd vt65 x95)).Flux).Hi), .bool (((mget zero_Row vt41 (rd vt65 x95)).Flux).Unknown), .int .i64 (((mget zero_Row vt41 (rd vt65 x95)).When).Lo), .int .i64 (((mget zero_Row vt41 (rd vt65 x95)).When).Hi), .bool (((mget zero_Row vt41 (rd vt65 x95)).When).Unknown), .slice A123 ((mget zero_Row vt41 (rd vt65 x95)).Frames).length c123, .int .i64 ((mget zero_Row vt41 (rd vt65 x95)).Marks)], _, rfl, ⟨A123, c123, rfl, HR123⟩, rfl⟩ rfl HS87 ?_ (by decide))
         intro b124 W125 s126 HS127 _ HO128
         have hq_ := guard_some h; clear h; obtain ⟨c130, h⟩ := hq_
         have c130 : (out89.length + 1) * 160 ≤ 140737488355328 := c130
         have HS131 := HS127.u1
         have HS132 := HS131.u1
         refine seqK rfl (does_append1 (e := ty_Row) (E := 65) (xs := out89) (ys := ([(mget zero_Row vt41 (rd vt65 x95))] : List S_Row)) rfl (by kernel_rfl : _ = Value.slice A90 out89.length c91) (by kernel_rfl : _ = Value.slice (some ⟨b124, 0, none⟩) ([(mget zero_Row vt41 (rd vt65 x95))] : List S_Row).length 1) Try.underlying26 inf65 HO93 HO128 HS132 c130 (lim63 c130 (by decide)) ?_)
         intro A133 c134 s135 W136 HS137 HO138
         refine seqL1 (by kernel_rfl) ?_
         refine wpList_nil ?_
         refine hn106 _ _ ?_
         refine hK103 _ _ ?_
         refine wp_region_lit ?_
         refine seqL2 (by kernel_rfl) ?_
         refine wpList_nil ?_
         refine hK82 n83 _ _ (Nat.lt_succ_self _) ?_
         exact ⟨f84, A133, c134, s135, (out89 ++ ([(mget zero_Row vt41 (rd vt65 x95))] : List S_Row)), (w64 (x95 + 1)), (fun i_ => [Value.int .i64 (rd vt65 x95), Value.bool true, Value.pointer (some ⟨b117, of118 + (x95 : Int).toNat * 1, none⟩), Value.int .i64 (rd vt65 x95), Value.slice A90 out89.length c91, Value.map (mb A48), Value.int .i64 (rd vt65 x95), (ag_Row (mget zero_Row vt41 (rd vt65 x95)) A123 c123), Value.slice (some ⟨b124, 0, none⟩) ([(mget zero_Row vt41 (rd vt65 x95))] : List S_Row).length 1, Value.slice A133 (out89 ++ ([(mget zero_Row vt41 (rd vt65 x95))] : List S_Row)).length c134, Value.int .i64 (w64 (x95 + 1))].getD i_ undef), L85, HS137, HO138, h, (by kernel_rfl)⟩
       · have c101 : ¬ (x95 < (vt65.length : Int)) := c101
         refine wpRwI 37 (x := (decide (x95 < (vt65.length : Int)))) (v := false) (by kernel_rfl) (decide_eq_false c101) ?_
         refine condF (by kernel_rfl) ?_
         refine wp_exit ?_
         refine hx75 _ _ ?_
         exact J151 f84 A90 c91 s92 out89 (fun i_ => [(j88 0), Value.int .i64 x95, Value.bool false, (j88 2), (j88 3), (j88 4), (j88 5), (j88 6), (j88 7), (j88 8), (j88 9), (j88 10)].getD i_ undef) W86 _ L85 h HS87 HO93 (by kernel_rfl)

end Go.Sp.K5
