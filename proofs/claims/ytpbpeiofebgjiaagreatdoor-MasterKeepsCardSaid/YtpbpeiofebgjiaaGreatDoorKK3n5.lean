import Derived.Test.YtpbpeiofebgjiaaGreatDoorProg
import Derived.Test.YtpbpeiofebgjiaaGreatDoorSpCopy
import Derived.Test.YtpbpeiofebgjiaaGreatDoorFK3
import Derived.Test.YtpbpeiofebgjiaaGreatDoorSpStr
import Derived.Test.YtpbpeiofebgjiaaGreatDoorSpLib
import Derived.Test.YtpbpeiofebgjiaaGreatDoorConv
import Derived.Test.YtpbpeiofebgjiaaGreatDoorLibs
import Derived.Test.YtpbpeiofebgjiaaGreatDoorKK3n0
import Derived.Test.YtpbpeiofebgjiaaGreatDoorKK3n1
import Derived.Test.YtpbpeiofebgjiaaGreatDoorKK3n2
import Derived.Test.YtpbpeiofebgjiaaGreatDoorKK3n3
import Derived.Test.YtpbpeiofebgjiaaGreatDoorKK3n4
namespace Go.Sp.K3
open Go Go.Sp Go.Proofs
set_option linter.unusedVariables false
attribute [local irreducible] wpList AnyL Code.wp Calls Does
set_option maxRecDepth 100000 in
set_option maxHeartbeats 4000000 in
theorem master_Bias.calls (k : Nat) (A3 : Option Addr) (c4 : Nat) (vk1 : S_Camera) (l2 : List S_Frame) (vf6 : Int) {t w : World} {f : FM} {H : List Seg} (HS : St t w f (H)) (HR5 : SlR ty_Frame f A3 c4 l2) (HA : TabF Tryz.prog "strings.asciiSpace" .u8 Go.Lib.asciiSpaceTab f) (HT : TabF Tryz.prog "internal/strconv.uint64pow10" .u64 Go.Lib.pow10Tab f) (rr1 : List S_Bound) (rr2 : Int) (h : master_Bias k vk1 l2 vf6 = some (rr1, rr2)) :
    Calls Tryz.prog 24 #[.agg #[.int .i64 vk1.W, .int .i64 vk1.H, .int .i64 vk1.Full, .int .i64 vk1.Gain, .int .i64 vk1.Noise], .slice A3 l2.length c4, .int .i64 vf6] w (fun e w' => ∃ (g : FM) (A525 : Option Addr) (c526 : Nat) (s527 : Seg), e = .returned (Value.tuple #[.slice A525 rr1.length c526, .int .i64 rr2]) ∧ FM.le f g ∧ St t w' g (s527 :: H) ∧ Own ty_Bound 43 g A525 c526 s527 rr1) := by
 unfold master_Bias at h
 refine enter Tryz.func24 rfl (tm := #[(ag_Camera vk1), .slice A3 l2.length c4, iV vf6, uV, uV, uV, uV, uV, uV, uV, uV, uV, uV, uV, uV, uV, uV, uV, uV, uV, uV, uV, uV, uV, uV, uV, uV, uV, uV, uV, uV, uV, uV, uV, uV, uV, uV, uV, uV, uV, uV, uV, uV, uV, uV, uV, uV, uV, uV, uV, uV, uV, uV, uV, uV, uV, uV, uV, uV, uV, uV, uV, uV, uV, uV, uV, uV, uV, uV, uV, uV, uV, uV, uV, uV, uV, uV, uV, uV, uV, uV, uV, uV, uV, uV, uV, uV, uV, uV, uV, uV, uV, uV, uV, uV, uV, uV, uV, uV, uV, uV, uV, uV, uV, uV, uV, uV, uV, uV, uV, uV]) kr ?_
 intro B hret hnor hnp
 refine wp_seq_k fun K7 hK8 => rl ?_
 refine seqK rfl (does_box (cs := #[.int .i64 vk1.W, .int .i64 vk1.H, .int .i64 vk1.Full, .int .i64 vk1.Gain, .int .i64 vk1.Noise]) rfl (kv (.agg #[.int .i64 vk1.W, .int .i64 vk1.H, .int .i64 vk1.Full, .int .i64 vk1.Gain, .int .i64 vk1.Noise])) rfl HS ?_)
 intro b9 W10 HS11
 refine seqL2 kr ?_
 refine nl (hK8 _ _ ?_)
 refine wp_seq_k (fun K13 hK14 => ?_)
 refine wp_seq_k fun K15 hK16 => rl ?_
 refine seqK rfl (does_run (run_loadN (n := 5) rfl Tryz.underlying50 rfl kr (kv (.pointer (some ⟨b9, 0, none⟩))) (cs := [.int .i64 vk1.W, .int .i64 vk1.H, .int .i64 vk1.Full, .int .i64 vk1.Gain, .int .i64 vk1.Noise]) rfl (HS11.cells 0 5 _ rfl)) ?_)
 have hq_ := bind_some h; clear h; obtain ⟨⟨vt17, vt18⟩, hc19, h⟩ := hq_
 refine seqL2 kr ?_
 refine seqK rfl (does_call (f := 36) (args := #[.agg #[.int .i64 vk1.W, .int .i64 vk1.H, .int .i64 vk1.Full, .int .i64 vk1.Gain, .int .i64 vk1.Noise], .slice A3 l2.length c4, .int .i64 0, .int .i64 vf6]) kr (master_frames.calls k A3 c4 vk1 l2 0 vf6 HS11 HR5 HA HT vt17 vt18 hc19) ?_)
 rintro _ W22 ⟨f20, A24, c25, s26, rfl, L21, HS23, HO27⟩
 refine ⟨_, rfl, ?_⟩
 refine seqL5 kr ?_
 refine nl (hK16 _ _ ?_)
 refine wp_seq_k fun K29 hK30 => rl ?_
 refine seqL2 kr ?_
 refine nl (hK30 _ _ ?_)
 have hq_ := ite_some h; clear h; rcases hq_ with ⟨c32, h⟩ | ⟨c32, h⟩
 · have c32 : vt18 ≠ 0 := c32
   refine wpRwI 28 (x := (vt18 != 0)) (v := true) kr (bne_iff_ne.mpr c32) ?_
   refine condT kr ?_
   refine wp_seq_k fun K33 hK34 => rl ?_
   refine seqL3 kr ?_
   refine nl (hK34 _ _ ?_)
   refine wp_ret ?_
   refine hret _ _ ?_
   have HS496 := HS23.cons_nil
   refine ends_still (v := Value.tuple #[.slice none 0 0, .int .i64 vt18]) kr kr ?_
   have HS498 := HS496.u2
   have HS499 := HS498.u2
   have HS500 := HS499.drop
   have HS501 := HS500.drop
   injection h with h
   injection h with h0_ h
   subst h0_ h
   exact ⟨f20, none, 0, [], rfl, L21, HS501, (Own.nil _)⟩
 · have c32 : ¬ (vt18 ≠ 0) := c32
   refine wpRwI 28 (x := (vt18 != 0)) (v := false) kr (bne_eq_false_iff_eq.mpr (Decidable.of_not_not c32)) ?_
   refine condF kr ?_
   refine wp_skip ?_
   refine hK14 _ _ ?_
   refine wp_seq_k fun K35 hK36 => rl ?_
   refine seqL1 kr ?_
   refine seqK rfl (does_run (run_load rfl Tryz.underlying3 rfl (kv (.pointer (some ⟨b9, 0, none⟩))) (HS23.u1.cell 0)) ?_)
   refine seqL1 kr ?_
   refine seqK rfl (does_run (run_load rfl Tryz.underlying3 rfl (kv (.pointer (some ⟨b9, 1, none⟩))) (HS23.u1.cell 1)) ?_)
   have hq_ := guard_some h; clear h; obtain ⟨c37, h⟩ := hq_
   have c37 : 0 ≤ (w64 (vk1.W * vk1.H)) := c37
   have hq_ := guard_some h; clear h; obtain ⟨c38, h⟩ := hq_
   have c38 : (w64 (vk1.W * vk1.H)) * 24 ≤ 140737488355328 := c38
   refine seqL1 kr ?_
   refine seqK rfl (does_make (e := ty_Bound) (E := 43) (u := (⟨0, 0, false⟩ : S_Bound)) (n := w64 (vk1.W * vk1.H)) rfl (kv (.int .i64 (w64 (vk1.W * vk1.H)))) (kv (.int .i64 (w64 (vk1.W * vk1.H)))) Tryz.underlying40 inf43 c37 c38 (by omega) rfl HS23 ?_)
   intro b39 W40 s41 HS42 HO43
   refine seqL1 kr ?_
   refine nl (hK36 _ _ ?_)
   refine wp_seq_k (fun K45 hK46 => ?_)
   refine wp_seq_k fun K47 hK48 => rl ?_
   refine seqL3 kr ?_
   refine nl (hK48 _ _ ?_)
   refine blockK (fun B49 hx50 hn51 hr52 ho53 hp54 => ?_)
   have hq_ := bind_some h; clear h; obtain ⟨o96, hv151, h⟩ := hq_
   have J152 : ∀ (f142 : FM) (s148 : Seg) (vopen147 : List S_Bound) (j146 : Nat → Value) (W144 : World) (a_ : Act), FM.le f20 f142 → some (vopen147) = some o96 → St t W144 f142 (s148 :: s26 :: [(b9, .cells #[.int .i64 vk1.W, .int .i64 vk1.H, .int .i64 vk1.Full, .int .i64 vk1.Gain, .int .i64 vk1.Noise] 50 (0, 0))] :: H) → Own ty_Bound 43 f142 (some ⟨b39, 0, none⟩) (w64 (vk1.W * vk1.H)).toNat s148 vopen147 → vopen147.length = (List.replicate (w64 (vk1.W * vk1.H)).toNat ((⟨0, 0, false⟩ : S_Bound) : S_Bound)).length → a_ = ⟨#[(ag_Camera vk1), .slice A3 l2.length c4, iV vf6, pV b9 0, uV, uV, .slice none 0 0, iV 0, .slice A24 vt17.length c25, iV vt18, .slice (some ⟨b39, 0, none⟩) vopen147.length (w64 (vk1.W * vk1.H)).toNat, (j146 0), uV, uV, uV, uV, uV, uV, uV, uV, .tuple #[.slice A24 vt17.length c25, iV vt18], (ag_Camera vk1), .slice A3 l2.length c4, iV vf6, .tuple #[.slice A24 vt17.length c25, iV vt18], .slice A24 vt17.length c25, iV vt18, iV vt18, fV, uV, pV b9 0, iV vk1.W, pV b9 1, iV vk1.H, iV (w64 (vk1.W * vk1.H)), (j146 1), (j146 2), iV ((List.replicate (w64 (vk1.W * vk1.H)).toNat ((⟨0, 0, false⟩ : S_Bound) : S_Bound)).length : Int), (j146 3), (j146 4), (j146 5), (j146 6), (j146 7), (j146 8), (j146 9), (j146 10), uV, uV, uV, uV, uV, uV, uV, uV, uV, uV, uV, uV, uV, uV, uV, uV, uV, uV, uV, uV, uV, uV, uV, uV, uV, uV, uV, uV, uV, uV, uV, uV, uV, uV, uV, uV, uV, uV, uV, uV, uV, uV, uV, uV, uV, uV, uV, uV, uV, uV, uV, uV, uV, uV, uV, uV, uV, uV, uV, uV, uV, uV, uV, uV, uV], []⟩ → K45 a_ W144 := by
    intro f142 s148 vopen147 j146 W144 a_ L143 hj153 HS145 HO149 HL150 hfr_; subst hfr_
    injection hj153 with hj153; subst hj153; try dsimp only at h
    refine hK46 _ _ ?_
    refine wp_seq_k fun K154 hK155 => rl ?_
    refine seqL1 kr ?_
    refine nl (hK155 _ _ ?_)
    refine wp_seq_k (fun K156 hK157 => ?_)
    refine wp_seq_k fun K158 hK159 => rl ?_
    refine seqL3 kr ?_
    refine nl (hK159 _ _ ?_)
    refine blockK (fun B160 hx161 hn162 hr163 ho164 hp165 => ?_)
    have hq_ := bind_some h; clear h; obtain ⟨o166, hv461, h⟩ := hq_
    have JR463 : ∀ z_, some (Sum.inl z_) = some o166 → some z_ = some (rr1, rr2) := by
     intro z_ e_; injection e_ with e_; subst e_; exact h
    have J462 : ∀ (f450 : FM) (A456 : Option Addr) (c457 : Nat) (s458 : Seg) (vall455 : List (List S_Bound)) (j454 : Nat → Value) (W452 : World) (a_ : Act), FM.le f142 f450 → some (Sum.inr vall455) = some o166 → St t W452 f450 (s458 :: s148 :: s26 :: [(b9, .cells #[.int .i64 vk1.W, .int .i64 vk1.H, .int .i64 vk1.Full, .int .i64 vk1.Gain, .int .i64 vk1.Noise] 50 (0, 0))] :: H) → Own (tSl ty_Bound) 40 f450 A456 c457 s458 vall455 → a_ = ⟨#[(ag_Camera vk1), .slice A3 l2.length c4, iV vf6, pV b9 0, uV, uV, (j454 0), (j454 1), .slice A24 vt17.length c25, iV vt18, .slice (some ⟨b39, 0, none⟩) vopen147.length (w64 (vk1.W * vk1.H)).toNat, (j146 0), .slice A456 vall455.length c457, uV, (j454 2), (j454 3), (j454 4), (j454 5), (j454 6), (j454 7), .tuple #[.slice A24 vt17.length c25, iV vt18], (ag_Camera vk1), .slice A3 l2.length c4, iV vf6, .tuple #[.slice A24 vt17.length c25, iV vt18], .slice A24 vt17.length c25, iV vt18, iV vt18, fV, uV, pV b9 0, iV vk1.W, pV b9 1, iV vk1.H, iV (w64 (vk1.W * vk1.H)), (j146 1), (j146 2), iV ((List.replicate (w64 (vk1.W * vk1.H)).toNat ((⟨0, 0, false⟩ : S_Bound) : S_Bound)).length : Int), (j146 3), (j146 4), (j146 5), (j146 6), (j146 7), (j146 8), (j146 9), (j146 10), .slice A3 l2.length c4, iV (l2.length : Int), (j454 8), (j454 9), (j454 10), (j454 11), (j454 12), (j454 13), (j454 14), (j454 15), (j454 16), (j454 17), (j454 18), (j454 19), (j454 20), (j454 21), (j454 22), (j454 23), (j454 24), (j454 25), (j454 26), (j454 27), (j454 28), (j454 29), (j454 30), (j454 31), (j454 32), (j454 33), (j454 34), (j454 35), (j454 36), (j454 37), (j454 38), (j454 39), (j454 40), (j454 41), (j454 42), (j454 43), (j454 44), (j454 45), (j454 46), (j454 47), (j454 48), (j454 49), (j454 50), (j454 51), (j454 52), (j454 53), (j454 54), (j454 55), (j454 56), (j454 57), (j454 58), (j454 59), (j454 60), (j454 61), (j454 62), uV, uV, uV, uV, uV, uV, uV, uV], []⟩ → K156 a_ W452 := by
     intro f450 A456 c457 s458 vall455 j454 W452 a_ L451 hj464 HS453 HO459 hfr_; subst hfr_
     injection hj464 with hj464; subst hj464; try dsimp only at h
     simp only [Sum.elim_inr] at h
     refine hK157 _ _ ?_
     refine wp_seq_k fun K475 hK476 => rl ?_
     refine seqL2 kr ?_
     refine seqK rfl (does_run (run_load rfl Tryz.underlying3 rfl (kv (.pointer (some ⟨b9, 0, none⟩))) (HS453.u3.cell 0)) ?_)
     refine seqL1 kr ?_
     refine seqK rfl (does_run (run_load rfl Tryz.underlying3 rfl (kv (.pointer (some ⟨b9, 1, none⟩))) (HS453.u3.cell 1)) ?_)
     obtain ⟨f477, L478, HS479, HR480, th481⟩ := HO459.lend HS453
     have hq_ := bind_some h; clear h; obtain ⟨vt482, hc483, h⟩ := hq_
     refine seqL2 kr ?_
     refine seqK rfl (does_call (f := 38) (args := #[.slice A456 vall455.length c457, .int .i64 (w64 (vk1.W * vk1.H)), .int .i64 vf6]) kr (master_fuse_Count.calls k A456 c457 vall455 (w64 (vk1.W * vk1.H)) vf6 HS479 HR480 vt482 hc483) ?_)
     rintro _ W486 ⟨f484, A488, c489, s490, rfl, L485, HS487, HO491⟩
     refine ⟨_, rfl, ?_⟩
     obtain ⟨f493, L494, HS495⟩ := th481 L485 HS487
     replace HO491 := HO491.flat (g := f493) (fun _ _ _ _ h_ => h_)
     refine seqL2 kr ?_
     refine nl (hK476 _ _ ?_)
     refine wp_ret ?_
     refine hret _ _ ?_
     refine ends_still (v := Value.tuple #[.slice A488 vt482.length c489, .int .i64 0]) kr kr ?_
     have HS516 := HS495.u1
     have HS517 := HS516.u4
     have HS518 := HS517.u4
     have HS519 := HS518.u4
     have HS520 := HS519.u4
     have HS521 := HS520.drop
     have HS522 := HS521.drop
     have HS523 := HS522.drop
     have HS524 := HS523.drop
     injection h with h
     injection h with h0_ h
     subst h0_ h
     exact ⟨f493, A488, c489, s490, rfl, (L21.trans (L143.trans (L451.trans L494))), HS524, HO491⟩
    clear h; have h := hv461; clear hv461
    have HS465 := HS145.cons_nil
    refine loopK (fun n_ a_ w_ => ∃ (f170 : FM) (A176 : Option Addr) (c177 : Nat) (s178 : Seg) (vall175 : List (List S_Bound)) (x181 : Int) (j174 : Nat → Value), FM.le f142 f170 ∧ St t w_ f170 (s178 :: s148 :: s26 :: [(b9, .cells #[.int .i64 vk1.W, .int .i64 vk1.H, .int .i64 vk1.Full, .int .i64 vk1.Gain, .int .i64 vk1.Noise] 50 (0, 0))] :: H) ∧ Own (tSl ty_Bound) 40 f170 A176 c177 s178 vall175 ∧ master_Bias.l1 k l2 vk1 vopen147 n_ vall175 x181 = some o166 ∧ a_ = ⟨#[(ag_Camera vk1), .slice A3 l2.length c4, iV vf6, pV b9 0, uV, uV, (j174 0), (j174 1), .slice A24 vt17.length c25, iV vt18, .slice (some ⟨b39, 0, none⟩) vopen147.length (w64 (vk1.W * vk1.H)).toNat, (j146 0), .slice A176 vall175.length c177, uV, (j174 2), (j174 3), (j174 4), (j174 5), (j174 6), (j174 7), .tuple #[.slice A24 vt17.length c25, iV vt18], (ag_Camera vk1), .slice A3 l2.length c4, iV vf6, .tuple #[.slice A24 vt17.length c25, iV vt18], .slice A24 vt17.length c25, iV vt18, iV vt18, fV, uV, pV b9 0, iV vk1.W, pV b9 1, iV vk1.H, iV (w64 (vk1.W * vk1.H)), (j146 1), (j146 2), iV ((List.replicate (w64 (vk1.W * vk1.H)).toNat ((⟨0, 0, false⟩ : S_Bound) : S_Bound)).length : Int), (j146 3), (j146 4), (j146 5), (j146 6), (j146 7), (j146 8), (j146 9), (j146 10), .slice A3 l2.length c4, iV (l2.length : Int), iV x181, (j174 8), (j174 9), (j174 10), (j174 11), (j174 12), (j174 13), (j174 14), (j174 15), (j174 16), (j174 17), (j174 18), (j174 19), (j174 20), (j174 21), (j174 22), (j174 23), (j174 24), (j174 25), (j174 26), (j174 27), (j174 28), (j174 29), (j174 30), (j174 31), (j174 32), (j174 33), (j174 34), (j174 35), (j174 36), (j174 37), (j174 38), (j174 39), (j174 40), (j174 41), (j174 42), (j174 43), (j174 44), (j174 45), (j174 46), (j174 47), (j174 48), (j174 49), (j174 50), (j174 51), (j174 52), (j174 53), (j174 54), (j174 55), (j174 56), (j174 57), (j174 58), (j174 59), (j174 60), (j174 61), uV, uV, uV, uV, uV, uV, uV, uV], []⟩) k ⟨f142, none, 0, [], ([] : List (List S_Bound)), 0, (fun i_ => [Value.slice none 0 0, Value.int .i64 0, undef, undef, undef, undef, undef, undef, undef, undef, undef, undef, undef, undef, undef, undef, undef, undef, undef, undef, undef, undef, undef, undef, undef, undef, undef, undef, undef, undef, undef, undef, undef, undef, undef, undef, undef, undef, undef, undef, undef, undef, undef, undef, undef, undef, undef, undef, undef, undef, undef, undef, undef, undef, undef, undef, undef, undef, undef, undef, undef, undef].getD i_ undef), (FM.le.refl _), HS465, (Own.nil _), h, kr⟩ ?_
    clear h
    rintro n169 _ W172 ⟨f170, A176, c177, s178, vall175, x181, j174, L171, HS173, HO179, h, rfl⟩ K167 hK168
    obtain _ | n169 := n169
    · exact nomatch h
    simp only [master_Bias.l1] at h
    refine wp_seq_k fun K182 hK183 => rl ?_
    refine seqL1 kr ?_
    refine nl (hK183 _ _ ?_)
    refine wp_seq_k (fun K184 hK185 => ?_)
    have hq_ := ite_some h; clear h; rcases hq_ with ⟨c187, h⟩ | ⟨c187, h⟩
    · have c187 : x181 < (l2.length : Int) := c187
      refine wpRwI 49 (x := (decide (x181 < (l2.length : Int)))) (v := true) kr (decide_eq_true c187) ?_
      refine condT kr ?_
      refine wp_skip ?_
      refine hK185 _ _ ?_
      refine wp_seq_k (fun K188 hK189 => ?_)
      refine blockK (fun B190 hx191 hn192 hr193 ho194 hp195 => ?_)
      refine wp_seq_k fun K197 hK198 => rl ?_
      have hq_ := guard_some h; clear h; obtain ⟨c199, h⟩ := hq_
      have c199 : 0 ≤ x181 := c199
      obtain ⟨b203, of204, cs200, hA205, hr201, hc202⟩ := (HR5.mono (L21.trans (L143.trans L171))).at (i := x181) c199 c187
      obtain ⟨A206, c206, A207, c207, rfl, HR206, HR207⟩ := hr201
      refine seqK rfl (does_run (run_indexE hA205 (sz := 4) rfl Tryz.underlying78 kr (kv (.slice A3 l2.length c4)) (kv (.int .i64 x181)) c199 c187 W172) ?_)
      refine seqK rfl (does_run (run_loadN (n := 4) rfl Tryz.underlying54 rfl kr (kv (.pointer (some ⟨b203, of204 + (x181 : Int).toNat * 4, none⟩))) (cs := [.int .i64 ((rd l2 x181).W), .int .i64 ((rd l2 x181).H), .slice A206 ((rd l2 x181).Cards).length c206, .slice A207 ((rd l2 x181).Counts).length c207]) rfl (fun j_ hj_ => ((hc202 (FM.le.refl _) HS173) j_ hj_))) ?_)
      refine seqK rfl (does_alloc (z := Value.agg #[.int .i64 0, .int .i64 0, .slice none 0 0, .slice none 0 0]) (cs := #[.int .i64 0, .int .i64 0, .slice none 0 0, .slice none 0 0]) rfl kr rfl HS173 ?_)
      intro b208 W209 HS210
      refine seqK rfl (does_store (n := 4) (vs := [.int .i64 ((rd l2 x181).W), .int .i64 ((rd l2 x181).H), .slice A206 ((rd l2 x181).Cards).length c206, .slice A207 ((rd l2 x181).Counts).length c207]) (cs' := #[.int .i64 ((rd l2 x181).W), .int .i64 ((rd l2 x181).H), .slice A206 ((rd l2 x181).Cards).length c206, .slice A207 ((rd l2 x181).Counts).length c207]) rfl kr (kv (.pointer (some ⟨b208, 0, none⟩))) (kv (.agg #[.int .i64 ((rd l2 x181).W), .int .i64 ((rd l2 x181).H), .slice A206 ((rd l2 x181).Cards).length c206, .slice A207 ((rd l2 x181).Counts).length c207])) rfl rfl (by intro u_ hu_; simp only [List.mem_cons, List.not_mem_nil, or_false] at hu_; rcases hu_ with rfl | rfl | rfl | rfl <;> rfl) HS210 (Nat.le_of_ble_eq_true rfl) kr ?_)
      intro W212 HS213
      refine nl (hK198 _ _ ?_)
      refine wp_seq_k fun K214 hK215 => rl ?_
      refine seqK rfl (does_run (run_loadN (n := 5) rfl Tryz.underlying50 rfl kr (kv (.pointer (some ⟨b9, 0, none⟩))) (cs := [.int .i64 vk1.W, .int .i64 vk1.H, .int .i64 vk1.Full, .int .i64 vk1.Gain, .int .i64 vk1.Noise]) rfl (HS213.u4.cells 0 5 _ rfl)) ?_)
      refine seqL1 kr ?_
      refine seqK rfl (does_run (run_loadN (n := 4) rfl Tryz.underlying54 rfl kr (kv (.pointer (some ⟨b208, 0, none⟩))) (cs := [.int .i64 ((rd l2 x181).W), .int .i64 ((rd l2 x181).H), .slice A206 ((rd l2 x181).Cards).length c206, .slice A207 ((rd l2 x181).Counts).length c207]) rfl (HS213.cells 0 4 _ rfl)) ?_)
      have HS216 := HS213.u2
      obtain ⟨f217, L218, HS219, HR220, th221⟩ := (HO149.mono L171).lend HS216
      have hq_ := bind_some h; clear h; obtain ⟨⟨vt222, vt223⟩, hc224, h⟩ := hq_
      refine seqK rfl (does_call (f := 11) (args := #[.agg #[.int .i64 vk1.W, .int .i64 vk1.H, .int .i64 vk1.Full, .int .i64 vk1.Gain, .int .i64 vk1.Noise], .slice (some ⟨b39, 0, none⟩) vopen147.length (w64 (vk1.W * vk1.H)).toNat, .agg #[.int .i64 ((rd l2 x181).W), .int .i64 ((rd l2 x181).H), .slice A206 ((rd l2 x181).Cards).length c206, .slice A207 ((rd l2 x181).Counts).length c207]]) kr (master_Held.calls k (some ⟨b39, 0, none⟩) ((w64 (vk1.W * vk1.H)).toNat) A206 c206 A207 c207 vk1 vopen147 (rd l2 x181) HS219 HR220 (HR206.mono L218) (HR207.mono L218) vt222 vt223 hc224) ?_)
      rintro _ W227 ⟨f225, A229, c230, s231, rfl, L226, HS228, HO232⟩
      refine ⟨_, rfl, ?_⟩
      obtain ⟨f234, L235, HS236⟩ := th221 L226 HS228
      replace HO232 := HO232.flat (g := f234) (fun _ _ _ _ h_ => h_)
      refine seqL5 kr ?_
      refine nl (hK215 _ _ ?_)
      refine wp_seq_k (fun K237 hK238 => ?_)
      refine wp_seq_k fun K239 hK240 => rl ?_
      refine seqL2 kr ?_
      refine nl (hK240 _ _ ?_)
      have hq_ := ite_some h; clear h; rcases hq_ with ⟨c242, h⟩ | ⟨c242, h⟩
      · have c242 : vt223 ≠ 0 := c242
        refine wpRwI 60 (x := (vt223 != 0)) (v := true) kr (bne_iff_ne.mpr c242) ?_
        refine condT kr ?_
        refine wp_seq_k fun K243 hK244 => rl ?_
        refine seqL3 kr ?_
        refine nl (hK244 _ _ ?_)
        refine wp_ret ?_
        refine hr193 _ _ ?_
        refine hr163 _ _ ?_
        refine hret _ _ ?_
        have HS502 := HS236.cons_nil
        refine ends_still (v := Value.tuple #[.slice none 0 0, .int .i64 vt223]) kr kr ?_
        have HS504 := HS502.u6
        have HS505 := HS504.u6
        have HS506 := HS505.u6
        have HS507 := HS506.u6
        have HS508 := HS507.u6
        have HS509 := HS508.u6
        have HS510 := HS509.drop
        have HS511 := HS510.drop
        have HS512 := HS511.drop
        have HS513 := HS512.drop
        have HS514 := HS513.drop
        have HS515 := HS514.drop
        replace h := JR463 _ h
        injection h with h
        injection h with h0_ h
        subst h0_ h
        exact ⟨f234, none, 0, [], rfl, (L21.trans (L143.trans (L171.trans L235))), HS515, (Own.nil _)⟩
      · have c242 : ¬ (vt223 ≠ 0) := c242
        refine wpRwI 60 (x := (vt223 != 0)) (v := false) kr (bne_eq_false_iff_eq.mpr (Decidable.of_not_not c242)) ?_
        refine condF kr ?_
        refine wp_skip ?_
        refine hK238 _ _ ?_
        refine wp_seq_k fun K245 hK246 => rl ?_
        have hq_ := guard_some h; clear h; obtain ⟨c247, h⟩ := hq_
        have c247 : 0 ≤ (vt222.length : Int) := c247
        have hq_ := guard_some h; clear h; obtain ⟨c248, h⟩ := hq_
        have c248 : (vt222.length : Int) * 24 ≤ 140737488355328 := c248
        refine seqL2 kr ?_
        refine seqK rfl (does_make (e := ty_Bound) (E := 43) (u := (⟨0, 0, false⟩ : S_Bound)) (n := (vt222.length : Int)) rfl (kv (.int .i64 (vt222.length : Int))) (kv (.int .i64 (vt222.length : Int))) Tryz.underlying40 inf43 c247 c248 (by omega) rfl HS236 ?_)
        intro b249 W250 s251 HS252 HO253
        refine seqL1 kr ?_
        refine nl (hK246 _ _ ?_)
        refine wp_seq_k (fun K255 hK256 => ?_)
        refine wp_seq_k fun K257 hK258 => rl ?_
        refine seqL1 kr ?_
        refine seqK rfl (does_run (run_load rfl Tryz.underlying22 rfl (kv (.pointer (some ⟨b208, 3, none⟩))) (HS252.u3.cell 3)) ?_)
        refine seqL2 kr ?_
        refine nl (hK258 _ _ ?_)
        refine blockK (fun B259 hx260 hn261 hr262 ho263 hp264 => ?_)
        have hq_ := bind_some h; clear h; obtain ⟨o340, hv428, h⟩ := hq_
        have J429 : ∀ (f419 : FM) (s425 : Seg) (b424 : List S_Bound) (j423 : Nat → Value) (W421 : World) (a_ : Act), FM.le f234 f419 → some (b424) = some o340 → St t W421 f419 (s425 :: s148 :: s231 :: [(b208, .cells #[.int .i64 ((rd l2 x181).W), .int .i64 ((rd l2 x181).H), .slice A206 ((rd l2 x181).Cards).length c206, .slice A207 ((rd l2 x181).Counts).length c207] 54 (0, 0))] :: s178 :: s26 :: [(b9, .cells #[.int .i64 vk1.W, .int .i64 vk1.H, .int .i64 vk1.Full, .int .i64 vk1.Gain, .int .i64 vk1.Noise] 50 (0, 0))] :: H) → Own ty_Bound 43 f419 (some ⟨b249, 0, none⟩) ((vt222.length : Int)).toNat s425 b424 → b424.length = (List.replicate ((vt222.length : Int)).toNat ((⟨0, 0, false⟩ : S_Bound) : S_Bound)).length → a_ = ⟨#[(ag_Camera vk1), .slice A3 l2.length c4, iV vf6, pV b9 0, uV, uV, (j174 0), (j174 1), .slice A24 vt17.length c25, iV vt18, .slice (some ⟨b39, 0, none⟩) vopen147.length (w64 (vk1.W * vk1.H)).toNat, (j146 0), .slice A176 vall175.length c177, uV, pV b208 0, .slice A229 vt222.length c230, iV vt223, .slice (some ⟨b249, 0, none⟩) b424.length ((vt222.length : Int)).toNat, (j423 0), (j423 1), .tuple #[.slice A24 vt17.length c25, iV vt18], (ag_Camera vk1), .slice A3 l2.length c4, iV vf6, .tuple #[.slice A24 vt17.length c25, iV vt18], .slice A24 vt17.length c25, iV vt18, iV vt18, fV, uV, pV b9 0, iV vk1.W, pV b9 1, iV vk1.H, iV (w64 (vk1.W * vk1.H)), (j146 1), (j146 2), iV ((List.replicate (w64 (vk1.W * vk1.H)).toNat ((⟨0, 0, false⟩ : S_Bound) : S_Bound)).length : Int), (j146 3), (j146 4), (j146 5), (j146 6), (j146 7), (j146 8), (j146 9), (j146 10), .slice A3 l2.length c4, iV (l2.length : Int), iV x181, tV, pV b203 (of204 + (x181 : Int).toNat * 4), (ag_Frame (rd l2 x181) A206 c206 A207 c207), .tuple #[.slice A229 vt222.length c230, iV vt223], (ag_Camera vk1), .slice (some ⟨b39, 0, none⟩) vopen147.length (w64 (vk1.W * vk1.H)).toNat, (ag_Frame (rd l2 x181) A206 c206 A207 c207), .tuple #[.slice A229 vt222.length c230, iV vt223], .slice A229 vt222.length c230, iV vt223, iV vt223, fV, (j174 20), .slice A229 vt222.length c230, iV (vt222.length : Int), (j423 2), pV b208 3, .slice A207 ((rd l2 x181).Counts).length c207, iV (((rd l2 x181).Counts).length : Int), (j423 3), (j423 4), (j423 5), (j423 6), (j423 7), (j423 8), (j423 9), (j423 10), (j423 11), (j423 12), (j423 13), (j423 14), (j423 15), (j423 16), (j423 17), (j423 18), (j423 19), (j423 20), (j423 21), (j423 22), (j423 23), (j423 24), (j423 25), (j423 26), (j423 27), (j423 28), (j423 29), (j423 30), (j423 31), (j423 32), (j174 57), (j174 58), (j174 59), (j174 60), (j174 61), uV, uV, uV, uV, uV, uV, uV, uV], []⟩ → K255 a_ W421 := by
         intro f419 s425 b424 j423 W421 a_ L420 hj430 HS422 HO426 HL427 hfr_; subst hfr_
         injection hj430 with hj430; subst hj430; try dsimp only at h
         refine hK256 _ _ ?_
         refine rl ?_
         obtain ⟨f431, L432, HS433, HR434⟩ := HO426.freeze HS422
         refine seqL2 kr ?_
         refine seqK rfl (does_lit (e := (tSl ty_Bound)) (E := 40) (vs := #[(0, Value.slice (some ⟨b249, 0, none⟩) b424.length ((vt222.length : Int)).toNat)]) (cs := #[.slice (some ⟨b249, 0, none⟩) b424.length ((vt222.length : Int)).toNat]) (xs := ([b424] : List (List S_Bound))) rfl Tryz.underlying94 kr kr ⟨[.slice (some ⟨b249, 0, none⟩) b424.length ((vt222.length : Int)).toNat], _, rfl, ⟨(some ⟨b249, 0, none⟩), ((vt222.length : Int)).toNat, rfl, HR434⟩, rfl⟩ rfl HS433 ?_ (by decide))
         intro b435 W436 s437 HS438 _ HO439
         have hq_ := guard_some h; clear h; obtain ⟨c441, h⟩ := hq_
         have c441 : (vall175.length + 1) * 24 ≤ 140737488355328 := c441
         have HS442 := HS438.u4
         have HS443 := HS442.u1
         refine seqK rfl (does_append1 (e := (tSl ty_Bound)) (E := 40) (xs := vall175) (ys := ([b424] : List (List S_Bound))) rfl (kv (.slice A176 vall175.length c177)) (kv (.slice (some ⟨b435, 0, none⟩) ([b424] : List (List S_Bound)).length 1)) Tryz.underlying94 inf40 (HO179.mono (L235.trans (L420.trans L432))) HO439 HS443 c441 (lim63 c441 (by decide)) ?_)
         intro A444 c445 s446 W447 HS448 HO449
         refine seqL1 kr ?_
         refine nl ?_
         refine hn192 _ _ ?_
         refine hK189 _ _ ?_
         refine rl ?_
         refine seqL2 kr ?_
         refine nl ?_
         refine hK168 n169 _ _ (Nat.lt_succ_self _) ?_
         have HS467 := HS448.u5
         have HS468 := HS467.u5
         have HS469 := HS468.u3
         have HS470 := HS469.u3
         have HS471 := HS470.u5
         have HS472 := HS471.u5
         have HS473 := HS472.drop
         have HS474 := HS473.drop
         exact ⟨f431, A444, c445, s446, (vall175 ++ ([b424] : List (List S_Bound))), (w64 (x181 + 1)), (fun i_ => [(j174 0), (j174 1), Value.pointer (some ⟨b208, 0, none⟩), Value.slice A229 vt222.length c230, Value.int .i64 vt223, Value.slice (some ⟨b249, 0, none⟩) b424.length ((vt222.length : Int)).toNat, (j423 0), (j423 1), Value.bool true, Value.pointer (some ⟨b203, of204 + (x181 : Int).toNat * 4, none⟩), (ag_Frame (rd l2 x181) A206 c206 A207 c207), Value.tuple #[.slice A229 vt222.length c230, .int .i64 vt223], (ag_Camera vk1), Value.slice (some ⟨b39, 0, none⟩) vopen147.length (w64 (vk1.W * vk1.H)).toNat, (ag_Frame (rd l2 x181) A206 c206 A207 c207), Value.tuple #[.slice A229 vt222.length c230, .int .i64 vt223], Value.slice A229 vt222.length c230, Value.int .i64 vt223, Value.int .i64 vt223, Value.bool false, (j174 20), Value.slice A229 vt222.length c230, Value.int .i64 (vt222.length : Int), (j423 2), Value.pointer (some ⟨b208, 3, none⟩), Value.slice A207 ((rd l2 x181).Counts).length c207, Value.int .i64 (((rd l2 x181).Counts).length : Int), (j423 3), (j423 4), (j423 5), (j423 6), (j423 7), (j423 8), (j423 9), (j423 10), (j423 11), (j423 12), (j423 13), (j423 14), (j423 15), (j423 16), (j423 17), (j423 18), (j423 19), (j423 20), (j423 21), (j423 22), (j423 23), (j423 24), (j423 25), (j423 26), (j423 27), (j423 28), (j423 29), (j423 30), (j423 31), (j423 32), Value.slice A176 vall175.length c177, Value.slice (some ⟨b249, 0, none⟩) b424.length ((vt222.length : Int)).toNat, Value.slice (some ⟨b435, 0, none⟩) ([b424] : List (List S_Bound)).length 1, Value.slice A444 (vall175 ++ ([b424] : List (List S_Bound))).length c445, Value.int .i64 (w64 (x181 + 1))].getD i_ undef), (L171.trans (L235.trans (L420.trans L432))), HS474, HO449, h, kr⟩
        clear h; have h := hv428; clear hv428
        refine loopK (fun n_ a_ w_ => ∃ (f344 : FM) (s350 : Seg) (b349 : List S_Bound) (x353 : Int) (j348 : Nat → Value), FM.le f234 f344 ∧ St t w_ f344 (s350 :: s148 :: s231 :: [(b208, .cells #[.int .i64 ((rd l2 x181).W), .int .i64 ((rd l2 x181).H), .slice A206 ((rd l2 x181).Cards).length c206, .slice A207 ((rd l2 x181).Counts).length c207] 54 (0, 0))] :: s178 :: s26 :: [(b9, .cells #[.int .i64 vk1.W, .int .i64 vk1.H, .int .i64 vk1.Full, .int .i64 vk1.Gain, .int .i64 vk1.Noise] 50 (0, 0))] :: H) ∧ Own ty_Bound 43 f344 (some ⟨b249, 0, none⟩) ((vt222.length : Int)).toNat s350 b349 ∧ b349.length = (List.replicate ((vt222.length : Int)).toNat ((⟨0, 0, false⟩ : S_Bound) : S_Bound)).length ∧ master_Bias.l2 k l2 x181 vt222 vk1 n_ b349 x353 = some o340 ∧ a_ = ⟨#[(ag_Camera vk1), .slice A3 l2.length c4, iV vf6, pV b9 0, uV, uV, (j174 0), (j174 1), .slice A24 vt17.length c25, iV vt18, .slice (some ⟨b39, 0, none⟩) vopen147.length (w64 (vk1.W * vk1.H)).toNat, (j146 0), .slice A176 vall175.length c177, uV, pV b208 0, .slice A229 vt222.length c230, iV vt223, .slice (some ⟨b249, 0, none⟩) b349.length ((vt222.length : Int)).toNat, (j348 0), (j348 1), .tuple #[.slice A24 vt17.length c25, iV vt18], (ag_Camera vk1), .slice A3 l2.length c4, iV vf6, .tuple #[.slice A24 vt17.length c25, iV vt18], .slice A24 vt17.length c25, iV vt18, iV vt18, fV, uV, pV b9 0, iV vk1.W, pV b9 1, iV vk1.H, iV (w64 (vk1.W * vk1.H)), (j146 1), (j146 2), iV ((List.replicate (w64 (vk1.W * vk1.H)).toNat ((⟨0, 0, false⟩ : S_Bound) : S_Bound)).length : Int), (j146 3), (j146 4), (j146 5), (j146 6), (j146 7), (j146 8), (j146 9), (j146 10), .slice A3 l2.length c4, iV (l2.length : Int), iV x181, tV, pV b203 (of204 + (x181 : Int).toNat * 4), (ag_Frame (rd l2 x181) A206 c206 A207 c207), .tuple #[.slice A229 vt222.length c230, iV vt223], (ag_Camera vk1), .slice (some ⟨b39, 0, none⟩) vopen147.length (w64 (vk1.W * vk1.H)).toNat, (ag_Frame (rd l2 x181) A206 c206 A207 c207), .tuple #[.slice A229 vt222.length c230, iV vt223], .slice A229 vt222.length c230, iV vt223, iV vt223, fV, (j174 20), .slice A229 vt222.length c230, iV (vt222.length : Int), .slice (some ⟨b249, 0, none⟩) (List.replicate ((vt222.length : Int)).toNat ((⟨0, 0, false⟩ : S_Bound) : S_Bound)).length ((vt222.length : Int)).toNat, pV b208 3, .slice A207 ((rd l2 x181).Counts).length c207, iV (((rd l2 x181).Counts).length : Int), iV x353, (j348 2), (j348 3), (j348 4), (j348 5), (j348 6), (j348 7), (j348 8), (j348 9), (j348 10), (j348 11), (j348 12), (j348 13), (j348 14), (j348 15), (j348 16), (j348 17), (j348 18), (j348 19), (j348 20), (j348 21), (j348 22), (j348 23), (j348 24), (j348 25), (j348 26), (j348 27), (j348 28), (j348 29), (j348 30), (j174 57), (j174 58), (j174 59), (j174 60), (j174 61), uV, uV, uV, uV, uV, uV, uV, uV], []⟩) k ⟨f234, s251, (List.replicate ((vt222.length : Int)).toNat ((⟨0, 0, false⟩ : S_Bound) : S_Bound)), 0, (fun i_ => [(j174 6), (j174 7), (j174 28), (j174 29), (j174 30), (j174 31), (j174 32), (j174 33), (j174 34), (j174 35), (j174 36), (j174 37), (j174 38), (j174 39), (j174 40), (j174 41), (j174 42), (j174 43), (j174 44), (j174 45), (j174 46), (j174 47), (j174 48), (j174 49), (j174 50), (j174 51), (j174 52), (j174 53), (j174 54), (j174 55), (j174 56)].getD i_ undef), (FM.le.refl _), HS252, HO253, rfl, h, kr⟩ ?_
        clear h
        rintro n343 _ W346 ⟨f344, s350, b349, x353, j348, L345, HS347, HO351, HL352, h, rfl⟩ K341 hK342
        obtain _ | n343 := n343
        · exact nomatch h
        simp only [master_Bias.l2] at h
        refine wp_seq_k fun K354 hK355 => rl ?_
        refine seqL1 kr ?_
        refine nl (hK355 _ _ ?_)
        refine wp_seq_k (fun K356 hK357 => ?_)
        have hq_ := ite_some h; clear h; rcases hq_ with ⟨c359, h⟩ | ⟨c359, h⟩
        · have c359 : x353 < (((rd l2 x181).Counts).length : Int) := c359
          refine wpRwI 69 (x := (decide (x353 < (((rd l2 x181).Counts).length : Int)))) (v := true) kr (decide_eq_true c359) ?_
          refine condT kr ?_
          refine wp_skip ?_
          refine hK357 _ _ ?_
          refine wp_seq_k (fun K360 hK361 => ?_)
          refine blockK (fun B362 hx363 hn364 hr365 ho366 hp367 => ?_)
          refine wp_seq_k fun K369 hK370 => rl ?_
          have hq_ := guard_some h; clear h; obtain ⟨c371, h⟩ := hq_
          have c371 : 0 ≤ x353 := c371
          obtain ⟨b375, of376, cs372, hA377, hr373, hc374⟩ := (HR207.mono (L235.trans L345)).at (i := x353) c371 c359
          obtain rfl := hr373
          refine seqL1 kr ?_
          refine seqK rfl (does_run (run_indexE hA377 (sz := 1) rfl Tryz.underlying22 kr (kv (.slice A207 ((rd l2 x181).Counts).length c207)) (kv (.int .i64 x353)) c371 c359 W346) ?_)
          refine seqK rfl (does_run (run_load rfl Tryz.underlying3 rfl (kv (.pointer (some ⟨b375, of376 + (x353 : Int).toNat * 1, none⟩))) ((hc374 (FM.le.refl _) HS347) 0 (by decide))) ?_)
          refine seqL2 kr ?_
          refine nl (hK370 _ _ ?_)
          refine wp_seq_k fun K378 hK379 => rl ?_
          have hq_ := bind_some h; clear h; obtain ⟨vt380, hc381, h⟩ := hq_
          refine seqL2 kr ?_
          refine seqK rfl (does_call (f := 37) (args := #[]) kr (bound_None_Count.calls k  HS347 vt380 hc381) ?_)
          rintro _ W384 ⟨f382, rfl, L383, HS385⟩
          refine ⟨_, rfl, ?_⟩
          have hq_ := guard_some h; clear h; obtain ⟨c386, h⟩ := hq_
          have c386 : x353 < (b349.length : Int) := c386
          obtain ⟨cs387, hr388, hc389⟩ := (HO351.mono L383).at' (i := x353) c371 c386
          obtain rfl := hr388
          refine seqK rfl (does_run (run_index (sz := 3) rfl Tryz.underlying40 kr (kv (.slice (some ⟨b249, 0, none⟩) b349.length ((vt222.length : Int)).toNat)) (kv (.int .i64 x353)) c371 c386 W384) ?_)
          refine seqK rfl (does_put (e := ty_Bound) (E := 43) (vs := [.int .i64 vt380.Lo, .int .i64 vt380.Hi, .bool vt380.Unknown]) (u := vt380) (i := x353) rfl kr (HO351.mono L383) HS385 rfl (kv (.pointer (some ⟨b249, 0 + (x353 : Int).toNat * 3, none⟩))) (kv (.agg #[.int .i64 vt380.Lo, .int .i64 vt380.Hi, .bool vt380.Unknown])) rfl rfl c371 c386 ?_)
          intro W390 s391 HS392 HO393
          refine seqRwS 17 (A := (some ⟨b249, 0, none⟩)) (m := b349.length) (n := (b349.set (x353).toNat vt380).length) (c := ((vt222.length : Int)).toNat) kr (List.length_set).symm ?_
          refine seqRwS 73 (A := (some ⟨b249, 0, none⟩)) (m := b349.length) (n := (b349.set (x353).toNat vt380).length) (c := ((vt222.length : Int)).toNat) kr (List.length_set).symm ?_
          refine nl (hK379 _ _ ?_)
          refine wp_seq_k fun K394 hK395 => rl ?_
          have hq_ := guard_some h; clear h; obtain ⟨c396, h⟩ := hq_
          have c396 : x353 < (vt222.length : Int) := c396
          obtain ⟨b400, of401, cs397, hA402, hr398, hc399⟩ := (HO232.mono (L345.trans L383)).at (i := x353) c371 c396
          obtain rfl := hr398
          refine seqL2 kr ?_
          refine seqK rfl (does_run (run_indexE hA402 (sz := 3) rfl Tryz.underlying46 kr (kv (.slice A229 vt222.length c230)) (kv (.int .i64 x353)) c371 c396 W390) ?_)
          refine seqL1 kr ?_
          refine seqK rfl (does_run (run_load rfl Tryz.underlying4 rfl (kv (.pointer (some ⟨b400, of401 + (x353 : Int).toNat * 3 + 2, none⟩))) ((hc399 HS392.u2) 2 (by decide))) ?_)
          refine seqL1 kr ?_
          refine nl (hK395 _ _ ?_)
          have hq_ := ite_some h; clear h; rcases hq_ with ⟨c404, h⟩ | ⟨c404, h⟩
          · have c404 : ¬ (((rd vt222 x353).Unknown) = true) := c404
            refine wpRwI 82 (x := (!((rd vt222 x353).Unknown))) (v := true) kr (congrArg (fun b_ => !b_) (show (rd vt222 x353).Unknown = false from (Bool.eq_false_iff.mpr c404)) : (!((rd vt222 x353).Unknown)) = true) ?_
            refine condT kr ?_
            refine rl ?_
            refine seqL4 kr ?_
            refine seqK rfl (does_run (run_load rfl Tryz.underlying3 rfl (kv (.pointer (some ⟨b9, 4, none⟩))) (HS392.u6.cell 4)) ?_)
            refine seqL4 kr ?_
            refine seqK rfl (does_run (run_load rfl Tryz.underlying3 rfl (kv (.pointer (some ⟨b9, 4, none⟩))) (HS392.u6.cell 4)) ?_)
            have hq_ := bind_some h; clear h; obtain ⟨vt405, hc406, h⟩ := hq_
            refine seqL2 kr ?_
            refine seqK rfl (does_call (f := 9) (args := #[.int .i64 (mx 0 (w64 ((rd ((rd l2 x181).Counts) x353) - vk1.Noise))), .int .i64 (mn 65535 (w64 ((rd ((rd l2 x181).Counts) x353) + vk1.Noise)))]) kr (bound_Of_Count.calls k (mx 0 (w64 ((rd ((rd l2 x181).Counts) x353) - vk1.Noise))) (mn 65535 (w64 ((rd ((rd l2 x181).Counts) x353) + vk1.Noise))) HS392 vt405 hc406) ?_)
            rintro _ W409 ⟨f407, rfl, L408, HS410⟩
            refine ⟨_, rfl, ?_⟩
            have hq_ := guard_some h; clear h; obtain ⟨c411, h⟩ := hq_
            have c411 : x353 < ((b349.set (x353).toNat vt380).length : Int) := c411
            obtain ⟨cs412, hr413, hc414⟩ := (HO393.mono L408).at' (i := x353) c371 c411
            obtain rfl := hr413
            refine seqK rfl (does_run (run_index (sz := 3) rfl Tryz.underlying40 kr (kv (.slice (some ⟨b249, 0, none⟩) (b349.set (x353).toNat vt380).length ((vt222.length : Int)).toNat)) (kv (.int .i64 x353)) c371 c411 W409) ?_)
            refine seqK rfl (does_put (e := ty_Bound) (E := 43) (vs := [.int .i64 vt405.Lo, .int .i64 vt405.Hi, .bool vt405.Unknown]) (u := vt405) (i := x353) rfl kr (HO393.mono L408) HS410 rfl (kv (.pointer (some ⟨b249, 0 + (x353 : Int).toNat * 3, none⟩))) (kv (.agg #[.int .i64 vt405.Lo, .int .i64 vt405.Hi, .bool vt405.Unknown])) rfl rfl c371 c411 ?_)
            intro W415 s416 HS417 HO418
            refine seqRwS 17 (A := (some ⟨b249, 0, none⟩)) (m := (b349.set (x353).toNat vt380).length) (n := ((b349.set (x353).toNat vt380).set (x353).toNat vt405).length) (c := ((vt222.length : Int)).toNat) kr (List.length_set).symm ?_
            refine seqRwS 73 (A := (some ⟨b249, 0, none⟩)) (m := (b349.set (x353).toNat vt380).length) (n := ((b349.set (x353).toNat vt380).set (x353).toNat vt405).length) (c := ((vt222.length : Int)).toNat) kr (List.length_set).symm ?_
            refine seqRwS 83 (A := (some ⟨b249, 0, none⟩)) (m := (b349.set (x353).toNat vt380).length) (n := ((b349.set (x353).toNat vt380).set (x353).toNat vt405).length) (c := ((vt222.length : Int)).toNat) kr (List.length_set).symm ?_
            refine nl ?_
            refine hn364 _ _ ?_
            refine hK361 _ _ ?_
            refine rl ?_
            refine seqL2 kr ?_
            refine nl ?_
            refine hK342 n343 _ _ (Nat.lt_succ_self _) ?_
            exact ⟨f407, s416, ((b349.set (x353).toNat vt380).set (x353).toNat vt405), (w64 (x353 + 1)), (fun i_ => [Value.int .i64 x353, Value.int .i64 (rd ((rd l2 x181).Counts) x353), Value.bool true, Value.int .i64 x353, Value.pointer (some ⟨b375, of376 + (x353 : Int).toNat * 1, none⟩), Value.int .i64 (rd ((rd l2 x181).Counts) x353), Value.slice (some ⟨b249, 0, none⟩) ((b349.set (x353).toNat vt380).set (x353).toNat vt405).length ((vt222.length : Int)).toNat, Value.int .i64 x353, (ag_Bound vt380), Value.pointer (some ⟨b249, 0 + (x353 : Int).toNat * 3, none⟩), Value.slice A229 vt222.length c230, Value.int .i64 x353, Value.pointer (some ⟨b400, of401 + (x353 : Int).toNat * 3, none⟩), Value.pointer (some ⟨b400, of401 + (x353 : Int).toNat * 3 + 2, none⟩), Value.bool ((rd vt222 x353).Unknown), Value.bool true, Value.slice (some ⟨b249, 0, none⟩) ((b349.set (x353).toNat vt380).set (x353).toNat vt405).length ((vt222.length : Int)).toNat, Value.int .i64 x353, Value.int .i64 (rd ((rd l2 x181).Counts) x353), Value.pointer (some ⟨b9, 4, none⟩), Value.int .i64 vk1.Noise, Value.int .i64 (w64 ((rd ((rd l2 x181).Counts) x353) - vk1.Noise)), Value.int .i64 (mx 0 (w64 ((rd ((rd l2 x181).Counts) x353) - vk1.Noise))), Value.int .i64 (rd ((rd l2 x181).Counts) x353), Value.pointer (some ⟨b9, 4, none⟩), Value.int .i64 vk1.Noise, Value.int .i64 (w64 ((rd ((rd l2 x181).Counts) x353) + vk1.Noise)), Value.int .i64 (mn 65535 (w64 ((rd ((rd l2 x181).Counts) x353) + vk1.Noise))), (ag_Bound vt405), Value.pointer (some ⟨b249, 0 + (x353 : Int).toNat * 3, none⟩), Value.int .i64 (w64 (x353 + 1))].getD i_ undef), (L345.trans (L383.trans L408)), HS417, HO418, (List.length_set.trans (List.length_set.trans HL352)), h, kr⟩
          · have c404 : ¬ (¬ (((rd vt222 x353).Unknown) = true)) := c404
            refine wpRwI 82 (x := (!((rd vt222 x353).Unknown))) (v := false) kr (congrArg (fun b_ => !b_) (show (rd vt222 x353).Unknown = true from (Decidable.of_not_not c404)) : (!((rd vt222 x353).Unknown)) = false) ?_
            refine condF kr ?_
            refine wp_skip ?_
            refine hn364 _ _ ?_
            refine hK361 _ _ ?_
            refine rl ?_
            refine seqL2 kr ?_
            refine nl ?_
            refine hK342 n343 _ _ (Nat.lt_succ_self _) ?_
            exact ⟨f382, s391, (b349.set (x353).toNat vt380), (w64 (x353 + 1)), (fun i_ => [Value.int .i64 x353, Value.int .i64 (rd ((rd l2 x181).Counts) x353), Value.bool true, Value.int .i64 x353, Value.pointer (some ⟨b375, of376 + (x353 : Int).toNat * 1, none⟩), Value.int .i64 (rd ((rd l2 x181).Counts) x353), Value.slice (some ⟨b249, 0, none⟩) (b349.set (x353).toNat vt380).length ((vt222.length : Int)).toNat, Value.int .i64 x353, (ag_Bound vt380), Value.pointer (some ⟨b249, 0 + (x353 : Int).toNat * 3, none⟩), Value.slice A229 vt222.length c230, Value.int .i64 x353, Value.pointer (some ⟨b400, of401 + (x353 : Int).toNat * 3, none⟩), Value.pointer (some ⟨b400, of401 + (x353 : Int).toNat * 3 + 2, none⟩), Value.bool ((rd vt222 x353).Unknown), Value.bool false, (j348 16), (j348 17), (j348 18), (j348 19), (j348 20), (j348 21), (j348 22), (j348 23), (j348 24), (j348 25), (j348 26), (j348 27), (j348 28), (j348 29), Value.int .i64 (w64 (x353 + 1))].getD i_ undef), (L345.trans L383), HS392, HO393, (List.length_set.trans HL352), h, kr⟩
        · have c359 : ¬ (x353 < (((rd l2 x181).Counts).length : Int)) := c359
          refine wpRwI 69 (x := (decide (x353 < (((rd l2 x181).Counts).length : Int)))) (v := false) kr (decide_eq_false c359) ?_
          refine condF kr ?_
          refine wp_exit ?_
          refine hx260 _ _ ?_
          exact J429 f344 s350 b349 (fun i_ => [(j348 0), (j348 1), Value.slice (some ⟨b249, 0, none⟩) (List.replicate ((vt222.length : Int)).toNat ((⟨0, 0, false⟩ : S_Bound) : S_Bound)).length ((vt222.length : Int)).toNat, Value.int .i64 x353, Value.bool false, (j348 3), (j348 4), (j348 5), (j348 6), (j348 7), (j348 8), (j348 9), (j348 10), (j348 11), (j348 12), (j348 13), (j348 14), (j348 15), (j348 16), (j348 17), (j348 18), (j348 19), (j348 20), (j348 21), (j348 22), (j348 23), (j348 24), (j348 25), (j348 26), (j348 27), (j348 28), (j348 29), (j348 30)].getD i_ undef) W346 _ L345 h HS347 HO351 HL352 kr
    · have c187 : ¬ (x181 < (l2.length : Int)) := c187
      refine wpRwI 49 (x := (decide (x181 < (l2.length : Int)))) (v := false) kr (decide_eq_false c187) ?_
      refine condF kr ?_
      refine wp_exit ?_
      refine hx161 _ _ ?_
      exact J462 f170 A176 c177 s178 vall175 (fun i_ => [(j174 0), (j174 1), (j174 2), (j174 3), (j174 4), (j174 5), (j174 6), (j174 7), Value.int .i64 x181, Value.bool false, (j174 9), (j174 10), (j174 11), (j174 12), (j174 13), (j174 14), (j174 15), (j174 16), (j174 17), (j174 18), (j174 19), (j174 20), (j174 21), (j174 22), (j174 23), (j174 24), (j174 25), (j174 26), (j174 27), (j174 28), (j174 29), (j174 30), (j174 31), (j174 32), (j174 33), (j174 34), (j174 35), (j174 36), (j174 37), (j174 38), (j174 39), (j174 40), (j174 41), (j174 42), (j174 43), (j174 44), (j174 45), (j174 46), (j174 47), (j174 48), (j174 49), (j174 50), (j174 51), (j174 52), (j174 53), (j174 54), (j174 55), (j174 56), (j174 57), (j174 58), (j174 59), (j174 60), (j174 61)].getD i_ undef) W172 _ L171 h HS173 HO179 kr
   clear h; have h := hv151; clear hv151
   refine loopK (fun n_ a_ w_ => ∃ (f100 : FM) (s106 : Seg) (vopen105 : List S_Bound) (x109 : Int) (j104 : Nat → Value), FM.le f20 f100 ∧ St t w_ f100 (s106 :: s26 :: [(b9, .cells #[.int .i64 vk1.W, .int .i64 vk1.H, .int .i64 vk1.Full, .int .i64 vk1.Gain, .int .i64 vk1.Noise] 50 (0, 0))] :: H) ∧ Own ty_Bound 43 f100 (some ⟨b39, 0, none⟩) (w64 (vk1.W * vk1.H)).toNat s106 vopen105 ∧ vopen105.length = (List.replicate (w64 (vk1.W * vk1.H)).toNat ((⟨0, 0, false⟩ : S_Bound) : S_Bound)).length ∧ master_Bias.l0 k vk1 n_ vopen105 x109 = some o96 ∧ a_ = ⟨#[(ag_Camera vk1), .slice A3 l2.length c4, iV vf6, pV b9 0, uV, uV, .slice none 0 0, iV 0, .slice A24 vt17.length c25, iV vt18, .slice (some ⟨b39, 0, none⟩) vopen105.length (w64 (vk1.W * vk1.H)).toNat, (j104 0), uV, uV, uV, uV, uV, uV, uV, uV, .tuple #[.slice A24 vt17.length c25, iV vt18], (ag_Camera vk1), .slice A3 l2.length c4, iV vf6, .tuple #[.slice A24 vt17.length c25, iV vt18], .slice A24 vt17.length c25, iV vt18, iV vt18, fV, uV, pV b9 0, iV vk1.W, pV b9 1, iV vk1.H, iV (w64 (vk1.W * vk1.H)), .slice (some ⟨b39, 0, none⟩) (List.replicate (w64 (vk1.W * vk1.H)).toNat ((⟨0, 0, false⟩ : S_Bound) : S_Bound)).length (w64 (vk1.W * vk1.H)).toNat, .slice (some ⟨b39, 0, none⟩) (List.replicate (w64 (vk1.W * vk1.H)).toNat ((⟨0, 0, false⟩ : S_Bound) : S_Bound)).length (w64 (vk1.W * vk1.H)).toNat, iV ((List.replicate (w64 (vk1.W * vk1.H)).toNat ((⟨0, 0, false⟩ : S_Bound) : S_Bound)).length : Int), iV x109, (j104 1), (j104 2), (j104 3), (j104 4), (j104 5), (j104 6), (j104 7), uV, uV, uV, uV, uV, uV, uV, uV, uV, uV, uV, uV, uV, uV, uV, uV, uV, uV, uV, uV, uV, uV, uV, uV, uV, uV, uV, uV, uV, uV, uV, uV, uV, uV, uV, uV, uV, uV, uV, uV, uV, uV, uV, uV, uV, uV, uV, uV, uV, uV, uV, uV, uV, uV, uV, uV, uV, uV, uV, uV, uV, uV, uV, uV, uV], []⟩) k ⟨f20, s41, (List.replicate (w64 (vk1.W * vk1.H)).toNat ((⟨0, 0, false⟩ : S_Bound) : S_Bound)), 0, (fun i_ => [undef, undef, undef, undef, undef, undef, undef, undef].getD i_ undef), (FM.le.refl _), HS42, HO43, rfl, h, kr⟩ ?_
   clear h
   rintro n99 _ W102 ⟨f100, s106, vopen105, x109, j104, L101, HS103, HO107, HL108, h, rfl⟩ K97 hK98
   obtain _ | n99 := n99
   · exact nomatch h
   simp only [master_Bias.l0] at h
   refine wp_seq_k fun K110 hK111 => rl ?_
   refine seqL1 kr ?_
   refine nl (hK111 _ _ ?_)
   refine wp_seq_k (fun K112 hK113 => ?_)
   have hq_ := ite_some h; clear h; rcases hq_ with ⟨c115, h⟩ | ⟨c115, h⟩
   · have c115 : x109 < ((List.replicate (w64 (vk1.W * vk1.H)).toNat ((⟨0, 0, false⟩ : S_Bound) : S_Bound)).length : Int) := c115
     refine wpRwI 39 (x := (decide (x109 < ((List.replicate (w64 (vk1.W * vk1.H)).toNat ((⟨0, 0, false⟩ : S_Bound) : S_Bound)).length : Int)))) (v := true) kr (decide_eq_true c115) ?_
     refine condT kr ?_
     refine wp_skip ?_
     refine hK113 _ _ ?_
     refine wp_seq_k (fun K116 hK117 => ?_)
     refine blockK (fun B118 hx119 hn120 hr121 ho122 hp123 => ?_)
     refine wp_seq_k fun K125 hK126 => rl ?_
     refine seqL2 kr ?_
     refine nl (hK126 _ _ ?_)
     refine rl ?_
     have hq_ := bind_some h; clear h; obtain ⟨vt127, hc128, h⟩ := hq_
     refine seqL2 kr ?_
     refine seqK rfl (does_call (f := 9) (args := #[.int .i64 0, .int .i64 4096]) kr (bound_Of_Count.calls k 0 4096 HS103 vt127 hc128) ?_)
     rintro _ W131 ⟨f129, rfl, L130, HS132⟩
     refine ⟨_, rfl, ?_⟩
     have hq_ := guard_some h; clear h; obtain ⟨c133, h⟩ := hq_
     have c133 : 0 ≤ x109 := c133
     have hq_ := guard_some h; clear h; obtain ⟨c134, h⟩ := hq_
     have c134 : x109 < (vopen105.length : Int) := c134
     obtain ⟨cs135, hr136, hc137⟩ := (HO107.mono L130).at' (i := x109) c133 c134
     obtain rfl := hr136
     refine seqK rfl (does_run (run_index (sz := 3) rfl Tryz.underlying40 kr (kv (.slice (some ⟨b39, 0, none⟩) vopen105.length (w64 (vk1.W * vk1.H)).toNat)) (kv (.int .i64 x109)) c133 c134 W131) ?_)
     refine seqK rfl (does_put (e := ty_Bound) (E := 43) (vs := [.int .i64 vt127.Lo, .int .i64 vt127.Hi, .bool vt127.Unknown]) (u := vt127) (i := x109) rfl kr (HO107.mono L130) HS132 rfl (kv (.pointer (some ⟨b39, 0 + (x109 : Int).toNat * 3, none⟩))) (kv (.agg #[.int .i64 vt127.Lo, .int .i64 vt127.Hi, .bool vt127.Unknown])) rfl rfl c133 c134 ?_)
     intro W138 s139 HS140 HO141
     refine seqRwS 10 (A := (some ⟨b39, 0, none⟩)) (m := vopen105.length) (n := (vopen105.set (x109).toNat vt127).length) (c := (w64 (vk1.W * vk1.H)).toNat) kr (List.length_set).symm ?_
     refine seqRwS 41 (A := (some ⟨b39, 0, none⟩)) (m := vopen105.length) (n := (vopen105.set (x109).toNat vt127).length) (c := (w64 (vk1.W * vk1.H)).toNat) kr (List.length_set).symm ?_
     refine nl ?_
     refine hn120 _ _ ?_
     refine hK117 _ _ ?_
     refine rl ?_
     refine seqL2 kr ?_
     refine nl ?_
     refine hK98 n99 _ _ (Nat.lt_succ_self _) ?_
     exact ⟨f129, s139, (vopen105.set (x109).toNat vt127), (w64 (x109 + 1)), (fun i_ => [Value.int .i64 x109, Value.bool true, Value.int .i64 x109, Value.slice (some ⟨b39, 0, none⟩) (vopen105.set (x109).toNat vt127).length (w64 (vk1.W * vk1.H)).toNat, Value.int .i64 x109, (ag_Bound vt127), Value.pointer (some ⟨b39, 0 + (x109 : Int).toNat * 3, none⟩), Value.int .i64 (w64 (x109 + 1))].getD i_ undef), (L101.trans L130), HS140, HO141, (List.length_set.trans HL108), h, kr⟩
   · have c115 : ¬ (x109 < ((List.replicate (w64 (vk1.W * vk1.H)).toNat ((⟨0, 0, false⟩ : S_Bound) : S_Bound)).length : Int)) := c115
     refine wpRwI 39 (x := (decide (x109 < ((List.replicate (w64 (vk1.W * vk1.H)).toNat ((⟨0, 0, false⟩ : S_Bound) : S_Bound)).length : Int)))) (v := false) kr (decide_eq_false c115) ?_
     refine condF kr ?_
     refine wp_exit ?_
     refine hx50 _ _ ?_
     exact J152 f100 s106 vopen105 (fun i_ => [(j104 0), Value.slice (some ⟨b39, 0, none⟩) (List.replicate (w64 (vk1.W * vk1.H)).toNat ((⟨0, 0, false⟩ : S_Bound) : S_Bound)).length (w64 (vk1.W * vk1.H)).toNat, Value.slice (some ⟨b39, 0, none⟩) (List.replicate (w64 (vk1.W * vk1.H)).toNat ((⟨0, 0, false⟩ : S_Bound) : S_Bound)).length (w64 (vk1.W * vk1.H)).toNat, Value.int .i64 x109, Value.bool false, (j104 2), (j104 3), (j104 4), (j104 5), (j104 6), (j104 7)].getD i_ undef) W102 _ L101 h HS103 HO107 HL108 kr

set_option maxRecDepth 100000 in
set_option maxHeartbeats 4000000 in
theorem spykeep3_mastered.calls (k : Nat)   {t w : World} {f : FM} {H : List Seg} (HS : St t w f (H)) (HA : TabF Tryz.prog "strings.asciiSpace" .u8 Go.Lib.asciiSpaceTab f) (HT : TabF Tryz.prog "internal/strconv.uint64pow10" .u64 Go.Lib.pow10Tab f) (rr1 : Bool) (h : spykeep3_mastered k = some rr1) :
    Calls Tryz.prog 8 #[] w (fun e w' => ∃ (g : FM), e = .returned (Value.bool rr1) ∧ FM.le f g ∧ St t w' g (H)) := by
 unfold spykeep3_mastered at h
 refine enter Tryz.func8 rfl (tm := #[uV, uV, uV, uV, uV, uV, uV, uV, uV, uV, uV, uV, uV, uV, uV, uV, uV, uV, uV, uV, uV, uV, uV, uV, uV, uV, uV, uV, uV]) kr ?_
 intro B hret hnor hnp
 refine wp_seq_k fun K1 hK2 => rl ?_
 refine seqL1 kr ?_
 refine nl (hK2 _ _ ?_)
 refine wp_seq_k fun K3 hK4 => rl ?_
 refine seqL1 kr ?_
 refine seqK rfl (does_alloc (z := Value.agg #[.int .i64 0, .int .i64 0, .int .i64 0, .int .i64 0, .int .i64 0]) (cs := #[.int .i64 0, .int .i64 0, .int .i64 0, .int .i64 0, .int .i64 0]) rfl kr rfl HS ?_)
 intro b5 W6 HS7
 refine seqK rfl (does_store (n := 5) (vs := [.int .i64 1, .int .i64 1, .int .i64 60000, .int .i64 1, .int .i64 2]) (cs' := #[.int .i64 1, .int .i64 1, .int .i64 60000, .int .i64 1, .int .i64 2]) rfl kr (kv (.pointer (some ⟨b5, 0, none⟩))) (kv (.agg #[.int .i64 1, .int .i64 1, .int .i64 60000, .int .i64 1, .int .i64 2])) rfl rfl (by intro u_ hu_; simp only [List.mem_cons, List.not_mem_nil, or_false] at hu_; rcases hu_ with rfl | rfl | rfl | rfl | rfl <;> rfl) HS7 (Nat.le_of_ble_eq_true rfl) kr ?_)
 intro W9 HS10
 refine nl (hK4 _ _ ?_)
 refine wp_seq_k (fun K11 hK12 => ?_)
 refine heldG (S := Sg t f ([(b5, .cells #[.int .i64 1, .int .i64 1, .int .i64 60000, .int .i64 1, .int .i64 2] 50 (0, 0))] :: H) []) (n := 12) kr rfl HS10 ?_
 intro W13 HS14
 refine takeGQ 0 [] rfl kr kr kr kr kr kr hnp (Sg.g0 (Sx.of [] (FM.le.refl _) HS14)) (fun w_ hw_ => by obtain ⟨g_, hl_, hS_⟩ := hw_.st; exact run_loadN (n := 5) rfl Tryz.underlying50 rfl kr (kv (.pointer (some ⟨b5, 0, none⟩))) (cs := [.int .i64 1, .int .i64 1, .int .i64 60000, .int .i64 1, .int .i64 2]) rfl (hS_.cells 0 5 _ rfl)) ?_
 refine takeGL [1] (n := 11) (fuel := 10) #[true, true, false, false, false, false, false, false, false, false, false, false] rfl kr kr kr hnp (Sg.g0 (Sx.of [] (FM.le.refl _) HS14)) ?_
 have hq_ := bind_some h; clear h; obtain ⟨vt17, hc18, h⟩ := hq_
 refine takeTwo 2 3 (fuel := 8) (l2 := #[true, true, true, true, false, false, false, false, false, false, false, false]) kr rfl rfl rfl rfl kr kr kr kr ?_
 intro R19 hR20
 have J21 : ∀ (f22 : FM) (A26 : Option Addr) (c27 : Nat) (s28 : Seg) (b31 : Nat) (s33 : Seg) (W52 : World) (a_ : Act), FM.le f f22 → Own ty_Card 98 f22 A26 c27 s28 vt17 → Own (tInt .i64) 3 f22 (some ⟨b31, 0, none⟩) 1 s33 ([50] : List Int) → St t W52 f22 (s33 :: s28 :: [(b5, .cells #[.int .i64 1, .int .i64 1, .int .i64 60000, .int .i64 1, .int .i64 2] 50 (0, 0))] :: H) → a_ = ⟨#[fV, pV b5 0, uV, uV, .agg #[iV 1, iV 1, iV 60000, iV 1, iV 2], uV, .agg #[iV 1, iV 1, iV 60000, iV 1, iV 2], .agg #[iV 0, .int .u64 0, iV 1, iV 0, iV 0, iV 0, iV 0, iV 0, iV 0, iV 0, iV 0, iV 0, iV 0, .slice none 0 0], .slice A26 vt17.length c27, .slice (some ⟨b31, 0, none⟩) ([50] : List Int).length 1, uV, uV, uV, uV, uV, uV, uV, uV, uV, uV, uV, uV, uV, uV, uV, uV, uV, uV, uV], []⟩ → R19 a_ W52 := by
  intro f22 A26 c27 s28 b31 s33 W52 a_ L23 HO29 HO35 HS53 hfr_; subst hfr_
  refine hR20 _ _ ?_
  refine takeGL [4] (n := 8) (fuel := 7) #[true, true, true, true, true, false, false, false, false, false, false, false] rfl kr kr kr hnp (Sg.g0 (Sx.of [s33, s28] L23 HS53)) ?_
  have HS57 := HS53.u1
  obtain ⟨f58, L59, HS60, HR61⟩ := HO29.freeze HS57
  obtain ⟨f62, L63, HS64, HR65⟩ := (HO35.mono L59).freeze HS60
  refine takeGE 5 kr rfl kr (does_lit (e := ty_Frame) (E := 54) (vs := #[(0, Value.agg #[.int .i64 1, .int .i64 1, .slice A26 vt17.length c27, .slice (some ⟨b31, 0, none⟩) ([50] : List Int).length 1])]) (cs := #[.int .i64 1, .int .i64 1, .slice A26 vt17.length c27, .slice (some ⟨b31, 0, none⟩) ([50] : List Int).length 1]) (xs := ([(⟨1, 1, vt17, ([50] : List Int)⟩ : S_Frame)] : List S_Frame)) rfl Tryz.underlying78 kr kr ⟨[.int .i64 1, .int .i64 1, .slice A26 vt17.length c27, .slice (some ⟨b31, 0, none⟩) ([50] : List Int).length 1], _, rfl, ⟨A26, c27, (some ⟨b31, 0, none⟩), 1, rfl, (HR61.mono L63), HR65⟩, rfl⟩ rfl HS64 ?_ (by decide))
  intro b66 W67 s68 HS69 _ HO70
  refine ⟨(Sg.g0 (Sx.of [s68] (L23.trans (L59.trans L63)) HS69)), ?_⟩
  obtain ⟨f72, L73, HS74, HR75, th76⟩ := HO70.lend HS69
  have hq_ := bind_some h; clear h; obtain ⟨⟨vt77, vt78⟩, hc79, h⟩ := hq_
  refine takeGE 6 kr rfl kr (does_call (f := 24) (args := #[.agg #[.int .i64 1, .int .i64 1, .int .i64 60000, .int .i64 1, .int .i64 2], .slice (some ⟨b66, 0, none⟩) ([(⟨1, 1, vt17, ([50] : List Int)⟩ : S_Frame)] : List S_Frame).length 1, .int .i64 0]) kr (master_Bias.calls k (some ⟨b66, 0, none⟩) 1 (⟨1, 1, 60000, 1, 2⟩ : S_Camera) ([(⟨1, 1, vt17, ([50] : List Int)⟩ : S_Frame)] : List S_Frame) 0 HS74 HR75 (HA.mono (L23.trans (L59.trans (L63.trans L73)))) (HT.mono (L23.trans (L59.trans (L63.trans L73)))) vt77 vt78 hc79) ?_)
  rintro _ W82 ⟨f80, A84, c85, s86, rfl, L81, HS83, HO87⟩
  refine ⟨_, rfl, ?_⟩
  obtain ⟨f89, L90, HS91⟩ := th76 L81 HS83
  replace HO87 := HO87.flat (g := f89) (fun _ _ _ _ h_ => h_)
  refine ⟨(Sg.g0 (Sx.of [s68, s86] (L23.trans (L59.trans (L63.trans L90))) HS91)), ?_⟩
  refine takeGL [7, 8, 9, 10, 11] (n := 5) (fuel := 0) #[true, true, true, true, true, true, true, true, true, true, true, true] rfl kr kr kr hnp (Sg.g0 (Sx.of [s68, s86] (L23.trans (L59.trans (L63.trans L90))) HS91)) ?_
  refine doneG kr ?_ _
  refine hK12 _ _ ?_
  refine wp_seq_k fun K92 hK93 => rl ?_
  refine seqL3 kr ?_
  have hq_ := ite_some h; clear h; rcases hq_ with ⟨c94, h⟩ | ⟨c94, h⟩
  · have c94 : vt78 = 0 := c94
    refine seqRwI 16 (x := (vt78 == 0)) (v := true) kr (beq_iff_eq.mpr c94) ?_
    refine seqRwI 17 (x := (vt78 == 0)) (v := true) kr (beq_iff_eq.mpr c94) ?_
    refine seqL5 kr ?_
    have hq_ := ite_some h; clear h; rcases hq_ with ⟨c95, h⟩ | ⟨c95, h⟩
    · have c95 : (vt77.length : Int) = 1 := c95
      refine seqRwI 20 (x := ((vt77.length : Int) == 1)) (v := true) kr (beq_iff_eq.mpr c95) ?_
      refine seqRwI 21 (x := ((vt77.length : Int) == 1)) (v := true) kr (beq_iff_eq.mpr c95) ?_
      refine seqRwI 22 (x := ((vt77.length : Int) == 1)) (v := true) kr (beq_iff_eq.mpr c95) ?_
      have hq_ := guard_some h; clear h; obtain ⟨c96, h⟩ := hq_
      have c96 : 0 < (vt77.length : Int) := c96
      obtain ⟨b100, of101, cs97, hA102, hr98, hc99⟩ := HO87.at (i := 0) (by decide) c96
      obtain rfl := hr98
      refine seqL1 kr ?_
      refine seqG kr (does_run (run_indexE hA102 (sz := 3) rfl Tryz.underlying40 kr (kv (.slice A84 vt77.length c85)) (kv (.int .i64 0)) (by decide) c96 W82) ?_)
      refine seqG kr (does_run (run_loadN (n := 3) rfl Tryz.underlying43 rfl kr (kv (.pointer (some ⟨b100, of101 + (0 : Int).toNat * 3, none⟩))) (cs := [.int .i64 ((rd vt77 0).Lo), .int .i64 ((rd vt77 0).Hi), .bool ((rd vt77 0).Unknown)]) rfl (fun j_ hj_ => ((hc99 HS91.u1) j_ hj_))) ?_)
      refine seqL1 kr ?_
      refine seqG kr (does_run (run_eqS (b := ((((rd vt77 0).Lo) == 48) && ((((rd vt77 0).Hi) == 52) && ((((rd vt77 0).Unknown) == false) && true)))) rfl (kv (.agg #[.int .i64 ((rd vt77 0).Lo), .int .i64 ((rd vt77 0).Hi), .bool ((rd vt77 0).Unknown)])) (kv (.agg #[.int .i64 48, .int .i64 52, .bool false])) kr kr W82) ?_)
      refine seqL2 kr ?_
      refine nl (hK93 _ _ ?_)
      refine wp_ret ?_
      refine hret _ _ ?_
      refine ends_still (v := Value.bool ((((rd vt77 0).Lo) == 48) && ((((rd vt77 0).Hi) == 52) && ((((rd vt77 0).Unknown) == false) && true)))) kr kr ?_
      have HS103 := HS91.drop
      have HS104 := HS103.drop
      have HS105 := HS104.drop
      injection h with h
      subst h
      exact ⟨f89, rfl, (L23.trans (L59.trans (L63.trans L90))), HS105⟩
    · have c95 : ¬ ((vt77.length : Int) = 1) := c95
      refine seqRwI 20 (x := ((vt77.length : Int) == 1)) (v := false) kr (beq_eq_false_iff_ne.mpr c95) ?_
      refine seqRwI 21 (x := ((vt77.length : Int) == 1)) (v := false) kr (beq_eq_false_iff_ne.mpr c95) ?_
      refine seqRwI 22 (x := ((vt77.length : Int) == 1)) (v := false) kr (beq_eq_false_iff_ne.mpr c95) ?_
      refine seqL7 kr ?_
      refine nl (hK93 _ _ ?_)
      refine wp_ret ?_
      refine hret _ _ ?_
      refine ends_still (v := Value.bool false) kr kr ?_
      have HS106 := HS91.drop
      have HS107 := HS106.drop
      have HS108 := HS107.drop
      injection h with h
      subst h
      exact ⟨f89, rfl, (L23.trans (L59.trans (L63.trans L90))), HS108⟩
  · have c94 : ¬ (vt78 = 0) := c94
    refine seqRwI 16 (x := (vt78 == 0)) (v := false) kr (beq_eq_false_iff_ne.mpr c94) ?_
    refine seqRwI 17 (x := (vt78 == 0)) (v := false) kr (beq_eq_false_iff_ne.mpr c94) ?_
    refine seqL12 kr ?_
    refine nl (hK93 _ _ ?_)
    refine wp_ret ?_
    refine hret _ _ ?_
    refine ends_still (v := Value.bool false) kr kr ?_
    have HS109 := HS91.drop
    have HS110 := HS109.drop
    have HS111 := HS110.drop
    injection h with h
    subst h
    exact ⟨f89, rfl, (L23.trans (L59.trans (L63.trans L90))), HS111⟩
 refine ⟨?_, ?_⟩
 · refine does_call (f := 25) (args := #[.agg #[.int .i64 0, .int .u64 0, .int .i64 1, .int .i64 0, .int .i64 0, .int .i64 0, .int .i64 0, .int .i64 0, .int .i64 0, .int .i64 0, .int .i64 0, .int .i64 0, .int .i64 0, .slice none 0 0]]) kr (spymake_Cards.calls k none 0 (⟨0, 0, 1, 0, 0, (⟨0, 0, 0, 0⟩ : S_Plate), 0, 0, 0, 0, ([] : List S_Hit)⟩ : S_Shot) HS14 (SlR.nil _ _) HT vt17 hc18) ?_
   rintro _ W24 ⟨f22, A26, c27, s28, rfl, L23, HS25, HO29⟩
   refine ⟨_, rfl, ?_⟩
   refine ⟨(Sg.g0 (Sx.of [s28] L23 HS25)), ?_⟩
   refine does_lit (e := (tInt .i64)) (E := 3) (vs := #[(0, Value.int .i64 50)]) (cs := #[.int .i64 50]) (xs := ([50] : List Int)) rfl Tryz.underlying22 kr kr ⟨[.int .i64 50], _, rfl, rfl, rfl⟩ rfl HS25 ?_ (by decide)
   intro b31 W32 s33 HS34 _ HO35
   refine ⟨(Sg.g0 (Sx.of [s33, s28] L23 HS34)), ?_⟩
   exact J21 f22 A26 c27 s28 b31 s33 W32 _ L23 HO29 HO35 HS34 kr
 · refine does_lit (e := (tInt .i64)) (E := 3) (vs := #[(0, Value.int .i64 50)]) (cs := #[.int .i64 50]) (xs := ([50] : List Int)) rfl Tryz.underlying22 kr kr ⟨[.int .i64 50], _, rfl, rfl, rfl⟩ rfl HS14 ?_ (by decide)
   intro b37 W38 s39 HS40 _ HO41
   refine ⟨(Sg.g0 (Sx.of [s39] (FM.le.refl _) HS40)), ?_⟩
   refine does_call (f := 25) (args := #[.agg #[.int .i64 0, .int .u64 0, .int .i64 1, .int .i64 0, .int .i64 0, .int .i64 0, .int .i64 0, .int .i64 0, .int .i64 0, .int .i64 0, .int .i64 0, .int .i64 0, .int .i64 0, .slice none 0 0]]) kr (spymake_Cards.calls k none 0 (⟨0, 0, 1, 0, 0, (⟨0, 0, 0, 0⟩ : S_Plate), 0, 0, 0, 0, ([] : List S_Hit)⟩ : S_Shot) HS40 (SlR.nil _ _) HT vt17 hc18) ?_
   rintro _ W45 ⟨f43, A47, c48, s49, rfl, L44, HS46, HO50⟩
   refine ⟨_, rfl, ?_⟩
   refine ⟨(Sg.g0 (Sx.of [s49, s39] L44 HS46)), ?_⟩
   have HS54 := HS46.u2
   have HS55 := HS54.u1
   have HS56 := HS55.u2
   exact J21 f43 A47 c48 s49 b37 s39 W45 _ L44 HO50 HO41 HS56 kr

set_option maxRecDepth 100000 in
set_option maxHeartbeats 4000000 in
theorem master_Of.calls (k : Nat) (A2 : Option Addr) (c3 : Nat) (A5 : Option Addr) (c6 : Nat) (A8 : Option Addr) (c9 : Nat) (s1 : S_Sensor) {t w : World} {f : FM} {H : List Seg} (HS : St t w f (H)) (HR4 : SlR (tInt .i64) f A2 c3 s1.Bias) (HR7 : SlR (tInt .i64) f A5 c6 s1.Dark) (HR10 : SlR (tInt .i64) f A8 c9 s1.Flat) (rr1 : S_Camera) (h : master_Of k s1 = some rr1) :
    Calls Tryz.prog 12 #[.agg #[.int .i64 s1.W, .int .i64 s1.H, .slice A2 s1.Bias.length c3, .slice A5 s1.Dark.length c6, .slice A8 s1.Flat.length c9, .int .i64 s1.Full, .int .i64 s1.Gain, .int .i64 s1.Noise]] w (fun e w' => ∃ (g : FM), e = .returned (Value.agg #[.int .i64 rr1.W, .int .i64 rr1.H, .int .i64 rr1.Full, .int .i64 rr1.Gain, .int .i64 rr1.Noise]) ∧ FM.le f g ∧ St t w' g (H)) := by
 unfold master_Of at h
 refine enter Tryz.func12 rfl (tm := #[(ag_Sensor s1 A2 c3 A5 c6 A8 c9), uV, uV, uV, uV, uV, uV, uV, uV, uV, uV, uV, uV, uV]) kr ?_
 intro B hret hnor hnp
 refine wp_seq_k fun K11 hK12 => rl ?_
 refine seqK rfl (does_box (cs := #[.int .i64 s1.W, .int .i64 s1.H, .slice A2 s1.Bias.length c3, .slice A5 s1.Dark.length c6, .slice A8 s1.Flat.length c9, .int .i64 s1.Full, .int .i64 s1.Gain, .int .i64 s1.Noise]) rfl (kv (.agg #[.int .i64 s1.W, .int .i64 s1.H, .slice A2 s1.Bias.length c3, .slice A5 s1.Dark.length c6, .slice A8 s1.Flat.length c9, .int .i64 s1.Full, .int .i64 s1.Gain, .int .i64 s1.Noise])) rfl HS ?_)
 intro b13 W14 HS15
 refine seqK rfl (does_alloc (z := Value.agg #[.int .i64 0, .int .i64 0, .int .i64 0, .int .i64 0, .int .i64 0]) (cs := #[.int .i64 0, .int .i64 0, .int .i64 0, .int .i64 0, .int .i64 0]) rfl kr rfl HS15 ?_)
 intro b17 W18 HS19
 refine nl (hK12 _ _ ?_)
 refine wp_seq_k fun K21 hK22 => rl ?_
 refine seqL1 kr ?_
 refine seqK rfl (does_run (run_load rfl Tryz.underlying3 rfl (kv (.pointer (some ⟨b13, 0, none⟩))) (HS19.u1.cell 0)) ?_)
 refine seqL1 kr ?_
 refine seqK rfl (does_run (run_load rfl Tryz.underlying3 rfl (kv (.pointer (some ⟨b13, 1, none⟩))) (HS19.u1.cell 1)) ?_)
 refine seqL1 kr ?_
 refine seqK rfl (does_run (run_load rfl Tryz.underlying28 rfl (kv (.pointer (some ⟨b13, 5, none⟩))) (HS19.u1.cell 5)) ?_)
 refine seqL1 kr ?_
 refine seqK rfl (does_run (run_load rfl Tryz.underlying28 rfl (kv (.pointer (some ⟨b13, 6, none⟩))) (HS19.u1.cell 6)) ?_)
 refine seqL1 kr ?_
 refine seqK rfl (does_run (run_load rfl Tryz.underlying3 rfl (kv (.pointer (some ⟨b13, 7, none⟩))) (HS19.u1.cell 7)) ?_)
 refine seqL1 kr ?_
 refine seqK rfl (does_store (n := 5) (vs := [.int .i64 s1.W, .int .i64 s1.H, .int .i64 s1.Full, .int .i64 s1.Gain, .int .i64 s1.Noise]) (cs' := #[.int .i64 s1.W, .int .i64 s1.H, .int .i64 s1.Full, .int .i64 s1.Gain, .int .i64 s1.Noise]) rfl kr (kv (.pointer (some ⟨b17, 0, none⟩))) (kv (.agg #[.int .i64 s1.W, .int .i64 s1.H, .int .i64 s1.Full, .int .i64 s1.Gain, .int .i64 s1.Noise])) rfl rfl (by intro u_ hu_; simp only [List.mem_cons, List.not_mem_nil, or_false] at hu_; rcases hu_ with rfl | rfl | rfl | rfl | rfl <;> rfl) HS19 (Nat.le_of_ble_eq_true rfl) kr ?_)
 intro W23 HS24
 refine nl (hK22 _ _ ?_)
 refine wp_ret ?_
 refine hret _ _ ?_
 refine ends (v := Value.agg #[.int .i64 s1.W, .int .i64 s1.H, .int .i64 s1.Full, .int .i64 s1.Gain, .int .i64 s1.Noise]) (results1 (q1 := .cell 2 50) kr (resN (n := 5) (cs := [.int .i64 s1.W, .int .i64 s1.H, .int .i64 s1.Full, .int .i64 s1.Gain, .int .i64 s1.Noise]) (kv (.pointer (some ⟨b17, 0, none⟩))) Tryz.underlying50 rfl kr rfl (HS24.cells 0 5 _ rfl))) kr ?_
 have HS25 := HS24.drop
 have HS26 := HS25.drop
 injection h with h
 subst h
 exact ⟨f, rfl, FM.le.refl _, HS26⟩

set_option maxRecDepth 100000 in
set_option maxHeartbeats 4000000 in
theorem bound_vague_Quanta.calls (k : Nat)  (a1 : S_Bound) (b2 : S_Bound) {t w : World} {f : FM} {H : List Seg} (HS : St t w f (H)) (rr1 : Bool) (h : bound_vague_Quanta k a1 b2 = some rr1) :
    Calls Tryz.prog 31 #[.agg #[.int .i64 a1.Lo, .int .i64 a1.Hi, .bool a1.Unknown], .agg #[.int .i64 b2.Lo, .int .i64 b2.Hi, .bool b2.Unknown]] w (fun e w' => ∃ (g : FM), e = .returned (Value.bool rr1) ∧ FM.le f g ∧ St t w' g (H)) := by
 unfold bound_vague_Quanta at h
 refine enter Tryz.func31 rfl (tm := #[(ag_Bound a1), (ag_Bound b2), uV, uV, uV, uV, uV, uV, uV, uV, uV, uV, uV]) kr ?_
 intro B hret hnor hnp
 refine wp_seq_k fun K3 hK4 => rl ?_
 refine seqK rfl (does_box (cs := #[.int .i64 a1.Lo, .int .i64 a1.Hi, .bool a1.Unknown]) rfl (kv (.agg #[.int .i64 a1.Lo, .int .i64 a1.Hi, .bool a1.Unknown])) rfl HS ?_)
 intro b5 W6 HS7
 refine seqK rfl (does_box (cs := #[.int .i64 b2.Lo, .int .i64 b2.Hi, .bool b2.Unknown]) rfl (kv (.agg #[.int .i64 b2.Lo, .int .i64 b2.Hi, .bool b2.Unknown])) rfl HS7 ?_)
 intro b9 W10 HS11
 refine seqL1 kr ?_
 refine nl (hK4 _ _ ?_)
 refine wp_seq_k fun K13 hK14 => rl ?_
 refine seqK rfl (does_run (run_loadN (n := 3) rfl Tryz.underlying56 rfl kr (kv (.pointer (some ⟨b5, 0, none⟩))) (cs := [.int .i64 a1.Lo, .int .i64 a1.Hi, .bool a1.Unknown]) rfl (HS11.u1.cells 0 3 _ rfl)) ?_)
 have hq_ := bind_some h; clear h; obtain ⟨vt15, hc16, h⟩ := hq_
 refine seqK rfl (does_call (f := 43) (args := #[.agg #[.int .i64 a1.Lo, .int .i64 a1.Hi, .bool a1.Unknown]]) kr (bound_Norm_Quanta.calls k a1 HS11 vt15 hc16) ?_)
 rintro _ W19 ⟨f17, rfl, L18, HS20⟩
 refine ⟨_, rfl, ?_⟩
 refine seqL2 kr ?_
 have hq_ := ite_some h; clear h; rcases hq_ with ⟨c21, h⟩ | ⟨c21, h⟩
 · have c21 : vt15.Unknown = true := c21
   refine seqRwI 7 (x := vt15.Unknown) (v := true) kr c21 ?_
   refine seqRwI 8 (x := vt15.Unknown) (v := true) kr c21 ?_
   refine seqL5 kr ?_
   refine nl (hK14 _ _ ?_)
   refine wp_ret ?_
   refine hret _ _ ?_
   refine ends_still (v := Value.bool true) kr kr ?_
   have HS28 := HS20.drop
   have HS29 := HS28.drop
   injection h with h
   subst h
   exact ⟨f17, rfl, L18, HS29⟩
 · have c21 : ¬ (vt15.Unknown = true) := c21
   refine seqRwI 7 (x := vt15.Unknown) (v := false) kr (Bool.eq_false_iff.mpr c21) ?_
   refine seqRwI 8 (x := vt15.Unknown) (v := false) kr (Bool.eq_false_iff.mpr c21) ?_
   refine seqG kr (does_run (run_loadN (n := 3) rfl Tryz.underlying56 rfl kr (kv (.pointer (some ⟨b9, 0, none⟩))) (cs := [.int .i64 b2.Lo, .int .i64 b2.Hi, .bool b2.Unknown]) rfl (HS20.cells 0 3 _ rfl)) ?_)
   have hq_ := bind_some h; clear h; obtain ⟨vt22, hc23, h⟩ := hq_
   refine seqG kr (does_call (f := 43) (args := #[.agg #[.int .i64 b2.Lo, .int .i64 b2.Hi, .bool b2.Unknown]]) kr (bound_Norm_Quanta.calls k b2 HS20 vt22 hc23) ?_)
   rintro _ W26 ⟨f24, rfl, L25, HS27⟩
   refine ⟨_, rfl, ?_⟩
   refine seqL3 kr ?_
   refine nl (hK14 _ _ ?_)
   refine wp_ret ?_
   refine hret _ _ ?_
   refine ends_still (v := Value.bool vt22.Unknown) kr kr ?_
   have HS30 := HS27.drop
   have HS31 := HS30.drop
   injection h with h
   subst h
   exact ⟨f24, rfl, (L18.trans L25), HS31⟩

set_option maxRecDepth 100000 in
set_option maxHeartbeats 4000000 in
theorem bound_Has_Quanta.calls (k : Nat)  (b1 : S_Bound) (v2 : Int) {t w : World} {f : FM} {H : List Seg} (HS : St t w f (H)) (rr1 : Bool) (h : bound_Has_Quanta k b1 v2 = some rr1) :
    Calls Tryz.prog 13 #[.agg #[.int .i64 b1.Lo, .int .i64 b1.Hi, .bool b1.Unknown], .int .i64 v2] w (fun e w' => ∃ (g : FM), e = .returned (Value.bool rr1) ∧ FM.le f g ∧ St t w' g (H)) := by
 unfold bound_Has_Quanta at h
 refine enter Tryz.func13 rfl (tm := #[(ag_Bound b1), iV v2, uV, uV, uV, uV, uV, uV, uV, uV, uV, uV, uV, uV, uV, uV, uV, uV, uV, uV]) kr ?_
 intro B hret hnor hnp
 refine wp_seq_k fun K3 hK4 => rl ?_
 refine seqK rfl (does_box (cs := #[.int .i64 b1.Lo, .int .i64 b1.Hi, .bool b1.Unknown]) rfl (kv (.agg #[.int .i64 b1.Lo, .int .i64 b1.Hi, .bool b1.Unknown])) rfl HS ?_)
 intro b5 W6 HS7
 refine seqL1 kr ?_
 refine nl (hK4 _ _ ?_)
 refine wp_seq_k fun K9 hK10 => rl ?_
 refine seqK rfl (does_run (run_loadN (n := 3) rfl Tryz.underlying56 rfl kr (kv (.pointer (some ⟨b5, 0, none⟩))) (cs := [.int .i64 b1.Lo, .int .i64 b1.Hi, .bool b1.Unknown]) rfl (HS7.cells 0 3 _ rfl)) ?_)
 refine seqK rfl (does_run (run_loadN (n := 3) rfl Tryz.underlying56 rfl kr (kv (.pointer (some ⟨b5, 0, none⟩))) (cs := [.int .i64 b1.Lo, .int .i64 b1.Hi, .bool b1.Unknown]) rfl (HS7.cells 0 3 _ rfl)) ?_)
 have hq_ := bind_some h; clear h; obtain ⟨vt11, hc12, h⟩ := hq_
 refine seqK rfl (does_call (f := 31) (args := #[.agg #[.int .i64 b1.Lo, .int .i64 b1.Hi, .bool b1.Unknown], .agg #[.int .i64 b1.Lo, .int .i64 b1.Hi, .bool b1.Unknown]]) kr (bound_vague_Quanta.calls k b1 b1 HS7 vt11 hc12) ?_)
 rintro _ W15 ⟨f13, rfl, L14, HS16⟩
 refine ⟨_, rfl, ?_⟩
 refine seqL1 kr ?_
 have hq_ := ite_some h; clear h; rcases hq_ with ⟨c17, h⟩ | ⟨c17, h⟩
 · have c17 : vt11 = true := c17
   refine seqRwI 7 (x := vt11) (v := true) kr c17 ?_
   refine seqRwI 8 (x := vt11) (v := true) kr c17 ?_
   refine seqL12 kr ?_
   refine nl (hK10 _ _ ?_)
   refine wp_ret ?_
   refine hret _ _ ?_
   refine ends_still (v := Value.bool true) kr kr ?_
   have HS19 := HS16.drop
   injection h with h
   subst h
   exact ⟨f13, rfl, L14, HS19⟩
 · have c17 : ¬ (vt11 = true) := c17
   refine seqRwI 7 (x := vt11) (v := false) kr (Bool.eq_false_iff.mpr c17) ?_
   refine seqRwI 8 (x := vt11) (v := false) kr (Bool.eq_false_iff.mpr c17) ?_
   refine seqL1 kr ?_
   refine seqG kr (does_run (run_load rfl Tryz.underlying28 rfl (kv (.pointer (some ⟨b5, 0, none⟩))) (HS16.cell 0)) ?_)
   refine seqL3 kr ?_
   have hq_ := ite_some h; clear h; rcases hq_ with ⟨c18, h⟩ | ⟨c18, h⟩
   · have c18 : b1.Lo ≤ v2 := c18
     refine seqRwI 12 (x := (decide (b1.Lo ≤ v2))) (v := true) kr (decide_eq_true c18) ?_
     refine seqRwI 13 (x := (decide (b1.Lo ≤ v2))) (v := true) kr (decide_eq_true c18) ?_
     refine seqL2 kr ?_
     refine seqG kr (does_run (run_load rfl Tryz.underlying28 rfl (kv (.pointer (some ⟨b5, 1, none⟩))) (HS16.cell 1)) ?_)
     refine seqL4 kr ?_
     refine nl (hK10 _ _ ?_)
     refine wp_ret ?_
     refine hret _ _ ?_
     refine ends_still (v := Value.bool (decide (v2 ≤ b1.Hi))) kr kr ?_
     have HS20 := HS16.drop
     injection h with h
     subst h
     exact ⟨f13, rfl, L14, HS20⟩
   · have c18 : ¬ (b1.Lo ≤ v2) := c18
     refine seqRwI 12 (x := (decide (b1.Lo ≤ v2))) (v := false) kr (decide_eq_false c18) ?_
     refine seqRwI 13 (x := (decide (b1.Lo ≤ v2))) (v := false) kr (decide_eq_false c18) ?_
     refine seqL7 kr ?_
     refine nl (hK10 _ _ ?_)
     refine wp_ret ?_
     refine hret _ _ ?_
     refine ends_still (v := Value.bool false) kr kr ?_
     have HS21 := HS16.drop
     injection h with h
     subst h
     exact ⟨f13, rfl, L14, HS21⟩

set_option maxRecDepth 100000 in
set_option maxHeartbeats 4000000 in
theorem spykeep3_MasterKeeps.calls (k : Nat) (A2 : Option Addr) (c3 : Nat) (l1 : List Int) (seed5 : Int) {t w : World} {f : FM} {H : List Seg} (HS : St t w f (H)) (HR4 : SlR (tInt .i64) f A2 c3 l1) (HA : TabF Tryz.prog "strings.asciiSpace" .u8 Go.Lib.asciiSpaceTab f) (HT : TabF Tryz.prog "internal/strconv.uint64pow10" .u64 Go.Lib.pow10Tab f) (rr1 : Bool) (h : spykeep3_MasterKeeps k l1 seed5 = some rr1) :
    Calls Tryz.prog 3 #[.slice A2 l1.length c3, .int .u64 seed5] w (fun e w' => ∃ (g : FM), e = .returned (Value.bool rr1) ∧ FM.le f g ∧ St t w' g (H)) := by
 unfold spykeep3_MasterKeeps at h
 refine enter Tryz.func3 rfl (tm := #[.slice A2 l1.length c3, .int .u64 seed5, uV, uV, uV, uV, uV, uV, uV, uV, uV, uV, uV, uV, uV, uV, uV, uV, uV, uV, uV, uV, uV, uV, uV, uV, uV, uV, uV, uV, uV, uV, uV, uV, uV, uV, uV, uV, uV, uV, uV, uV, uV, uV, uV, uV, uV, uV, uV, uV, uV, uV, uV, uV, uV, uV, uV, uV, uV, uV, uV, uV, uV, uV, uV, uV, uV, uV, uV, uV, uV, uV, uV, uV, uV, uV, uV, uV, uV, uV, uV, uV, uV, uV, uV, uV, uV, uV, uV, uV, uV, uV, uV, uV, uV, uV, uV, uV, uV, uV, uV, uV, uV, uV, uV, uV, uV, uV, uV, uV, uV, uV, uV, uV, uV, uV, uV, uV, uV, uV, uV, uV, uV, uV, uV, uV, uV, uV, uV, uV, uV, uV, uV, uV, uV, uV, uV, uV, uV, uV, uV, uV, uV, uV, uV]) kr ?_
 intro B hret hnor hnp
 refine wp_seq_k fun K6 hK7 => rl ?_
 refine seqL1 kr ?_
 refine nl (hK7 _ _ ?_)
 refine wp_seq_k fun K8 hK9 => rl ?_
 refine seqL2 kr ?_
 refine seqK rfl (does_box (cs := #[.slice A2 l1.length c3, .int .i64 0]) rfl (kv (.agg #[.slice A2 l1.length c3, .int .i64 0])) rfl HS ?_)
 intro b10 W11 HS12
 refine seqL1 kr ?_
 refine nl (hK9 _ _ ?_)
 refine wp_seq_k fun K14 hK15 => rl ?_
 have hq_ := bind_some h; clear h; obtain ⟨⟨vt16, vt17⟩, hc18, h⟩ := hq_
 refine seqL1 kr ?_
 refine seqK rfl (does_call (f := 4) (args := #[.pointer (some ⟨b10, 0, none⟩), .int .i64 5]) kr (spymake_Stream_Sensor.calls k b10 A2 c3 (⟨l1, 0⟩ : S_Stream) 5 HS12 HR4 vt16 vt17 hc18) ?_)
 rintro _ W21 ⟨f19, A23, c24, s25, A28, c29, s30, A33, c34, s35, rfl, L20, HS22, HO26, HO31, HO36⟩
 refine ⟨_, rfl, ?_⟩
 refine seqK rfl (does_alloc (z := Value.agg #[.int .i64 0, .int .i64 0, .slice none 0 0, .slice none 0 0, .slice none 0 0, .int .i64 0, .int .i64 0, .int .i64 0]) (cs := #[.int .i64 0, .int .i64 0, .slice none 0 0, .slice none 0 0, .slice none 0 0, .int .i64 0, .int .i64 0, .int .i64 0]) rfl kr rfl HS22 ?_)
 intro b38 W39 HS40
 refine seqK rfl (does_store (n := 8) (vs := [.int .i64 vt16.W, .int .i64 vt16.H, .slice A23 vt16.Bias.length c24, .slice A28 vt16.Dark.length c29, .slice A33 vt16.Flat.length c34, .int .i64 vt16.Full, .int .i64 vt16.Gain, .int .i64 vt16.Noise]) (cs' := #[.int .i64 vt16.W, .int .i64 vt16.H, .slice A23 vt16.Bias.length c24, .slice A28 vt16.Dark.length c29, .slice A33 vt16.Flat.length c34, .int .i64 vt16.Full, .int .i64 vt16.Gain, .int .i64 vt16.Noise]) rfl kr (kv (.pointer (some ⟨b38, 0, none⟩))) (kv (.agg #[.int .i64 vt16.W, .int .i64 vt16.H, .slice A23 vt16.Bias.length c24, .slice A28 vt16.Dark.length c29, .slice A33 vt16.Flat.length c34, .int .i64 vt16.Full, .int .i64 vt16.Gain, .int .i64 vt16.Noise])) rfl rfl (by intro u_ hu_; simp only [List.mem_cons, List.not_mem_nil, or_false] at hu_; rcases hu_ with rfl | rfl | rfl | rfl | rfl | rfl | rfl | rfl <;> rfl) HS40 (Nat.le_of_ble_eq_true rfl) kr ?_)
 intro W42 HS43
 refine nl (hK15 _ _ ?_)
 refine wp_seq_k fun K44 hK45 => rl ?_
 refine seqL1 kr ?_
 refine seqK rfl (does_run (run_loadN (n := 8) rfl Tryz.underlying30 rfl kr (kv (.pointer (some ⟨b38, 0, none⟩))) (cs := [.int .i64 vt16.W, .int .i64 vt16.H, .slice A23 vt16.Bias.length c24, .slice A28 vt16.Dark.length c29, .slice A33 vt16.Flat.length c34, .int .i64 vt16.Full, .int .i64 vt16.Gain, .int .i64 vt16.Noise]) rfl (HS43.cells 0 8 _ rfl)) ?_)
 have HS46 := HS43.u1
 obtain ⟨f47, L48, HS49, HR50, th51⟩ := HO26.lend HS46
 have HS52 := HS49.u1
 obtain ⟨f53, L54, HS55, HR56, th57⟩ := (HO31.mono L48).lend HS52
 have HS58 := HS55.u1
 obtain ⟨f59, L60, HS61, HR62, th63⟩ := (HO36.mono (L48.trans L54)).lend HS58
 have HS64 := HS61.u1
 have hq_ := bind_some h; clear h; obtain ⟨⟨vt65, vt66⟩, hc67, h⟩ := hq_
 refine seqK rfl (does_call (f := 5) (args := #[.pointer (some ⟨b10, 0, none⟩), .agg #[.int .i64 vt16.W, .int .i64 vt16.H, .slice A23 vt16.Bias.length c24, .slice A28 vt16.Dark.length c29, .slice A33 vt16.Flat.length c34, .int .i64 vt16.Full, .int .i64 vt16.Gain, .int .i64 vt16.Noise]]) kr (spykeep3_filled.calls k b10 A2 c3 A23 c24 A28 c29 A33 c34 (⟨l1, vt17⟩ : S_Stream) vt16 HS64 (HR4.mono (L20.trans (L48.trans (L54.trans L60)))) (HR50.mono (L54.trans L60)) (HR56.mono L60) HR62 vt65 vt66 hc67) ?_)
 rintro _ W70 ⟨f68, A72, c73, s74, rfl, L69, HS71, HO75⟩
 refine ⟨_, rfl, ?_⟩
 obtain ⟨f77, L78, HS79⟩ := th63 L69 HS71
 obtain ⟨f80, L81, HS82⟩ := th57 L78 HS79
 obtain ⟨f83, L84, HS85⟩ := th51 L81 HS82
 replace HO75 := HO75.flat (g := f83) (fun _ _ _ _ h_ => h_)
 refine seqL1 kr ?_
 refine nl (hK45 _ _ ?_)
 refine wp_seq_k fun K86 hK87 => rl ?_
 refine seqK rfl (does_run (run_loadN (n := 8) rfl Tryz.underlying30 rfl kr (kv (.pointer (some ⟨b38, 0, none⟩))) (cs := [.int .i64 vt16.W, .int .i64 vt16.H, .slice A23 vt16.Bias.length c24, .slice A28 vt16.Dark.length c29, .slice A33 vt16.Flat.length c34, .int .i64 vt16.Full, .int .i64 vt16.Gain, .int .i64 vt16.Noise]) rfl (HS85.u5.cells 0 8 _ rfl)) ?_)
 obtain ⟨f88, L89, HS90, HR91, th92⟩ := (HO26.mono L84).lend HS85
 obtain ⟨f93, L94, HS95, HR96, th97⟩ := (HO31.mono (L84.trans L89)).lend HS90
 obtain ⟨f98, L99, HS100, HR101, th102⟩ := (HO36.mono (L84.trans (L89.trans L94))).lend HS95
 obtain ⟨f103, L104, HS105, HR106, th107⟩ := (HO75.mono (L89.trans (L94.trans L99))).lend HS100
 have hq_ := bind_some h; clear h; obtain ⟨⟨vt108, vt109, vt110⟩, hc111, h⟩ := hq_
 refine seqL1 kr ?_
 refine seqK rfl (does_call (f := 6) (args := #[.agg #[.int .i64 vt16.W, .int .i64 vt16.H, .slice A23 vt16.Bias.length c24, .slice A28 vt16.Dark.length c29, .slice A33 vt16.Flat.length c34, .int .i64 vt16.Full, .int .i64 vt16.Gain, .int .i64 vt16.Noise], .slice A72 vt65.length c73]) kr (sensor_Bleed.calls k A23 c24 A28 c29 A33 c34 A72 c73 vt16 vt65 HS105 (HR91.mono (L94.trans (L99.trans L104))) (HR96.mono (L99.trans L104)) (HR101.mono L104) HR106 vt108 vt109 vt110 hc111) ?_)
 rintro _ W114 ⟨f112, A116, c117, s118, rfl, L113, HS115, HO119⟩
 refine ⟨_, rfl, ?_⟩
 obtain ⟨f121, L122, HS123⟩ := th107 L113 HS115
 obtain ⟨f124, L125, HS126⟩ := th102 L122 HS123
 obtain ⟨f127, L128, HS129⟩ := th97 L125 HS126
 obtain ⟨f130, L131, HS132⟩ := th92 L128 HS129
 replace HO119 := HO119.flat (g := f130) (fun _ _ _ _ h_ => h_)
 refine seqL7 kr ?_
 refine nl (hK87 _ _ ?_)
 refine wp_seq_k fun K133 hK134 => rl ?_
 refine seqK rfl (does_run (run_loadN (n := 8) rfl Tryz.underlying30 rfl kr (kv (.pointer (some ⟨b38, 0, none⟩))) (cs := [.int .i64 vt16.W, .int .i64 vt16.H, .slice A23 vt16.Bias.length c24, .slice A28 vt16.Dark.length c29, .slice A33 vt16.Flat.length c34, .int .i64 vt16.Full, .int .i64 vt16.Gain, .int .i64 vt16.Noise]) rfl (HS132.u6.cells 0 8 _ rfl)) ?_)
 obtain ⟨f135, L136, HS137, HR138, th139⟩ := (HO26.mono (L84.trans L131)).lend HS132
 obtain ⟨f140, L141, HS142, HR143, th144⟩ := (HO31.mono (L84.trans (L131.trans L136))).lend HS137
 obtain ⟨f145, L146, HS147, HR148, th149⟩ := (HO36.mono (L84.trans (L131.trans (L136.trans L141)))).lend HS142
 have HS150 := HS147.u1
 obtain ⟨f151, L152, HS153, HR154, th155⟩ := (HO119.mono (L136.trans (L141.trans L146))).lend HS150
 have hq_ := bind_some h; clear h; obtain ⟨⟨vt156, vt157⟩, hc158, h⟩ := hq_
 refine seqL2 kr ?_
 refine seqK rfl (does_call (f := 7) (args := #[.agg #[.int .i64 vt16.W, .int .i64 vt16.H, .slice A23 vt16.Bias.length c24, .slice A28 vt16.Dark.length c29, .slice A33 vt16.Flat.length c34, .int .i64 vt16.Full, .int .i64 vt16.Gain, .int .i64 vt16.Noise], .int .u64 seed5, .int .i64 1, .slice A116 vt108.length c117]) kr (sensor_Read.calls k A23 c24 A28 c29 A33 c34 A116 c117 vt16 seed5 1 vt108 HS153 (HR138.mono (L141.trans (L146.trans L152))) (HR143.mono (L146.trans L152)) (HR148.mono L152) HR154 vt156 vt157 hc158) ?_)
 rintro _ W161 ⟨f159, A163, c164, s165, rfl, L160, HS162, HO166⟩
 refine ⟨_, rfl, ?_⟩
 obtain ⟨f168, L169, HS170⟩ := th155 L160 HS162
 obtain ⟨f171, L172, HS173⟩ := th149 L169 HS170
 obtain ⟨f174, L175, HS176⟩ := th144 L172 HS173
 obtain ⟨f177, L178, HS179⟩ := th139 L175 HS176
 replace HO166 := HO166.flat (g := f177) (fun _ _ _ _ h_ => h_)
 refine seqL5 kr ?_
 refine nl (hK134 _ _ ?_)
 refine wp_seq_k (fun K180 hK181 => ?_)
 refine wp_seq_k fun K182 hK183 => rl ?_
 have hq_ := bind_some h; clear h; obtain ⟨vt184, hc185, h⟩ := hq_
 refine seqK rfl (does_call (f := 8) (args := #[]) kr (spykeep3_mastered.calls k  HS179 (HA.mono (L20.trans (L84.trans (L131.trans L178)))) (HT.mono (L20.trans (L84.trans (L131.trans L178)))) vt184 hc185) ?_)
 rintro _ W188 ⟨f186, rfl, L187, HS189⟩
 refine ⟨_, rfl, ?_⟩
 refine seqL2 kr ?_
 have hq_ := ite_some h; clear h; rcases hq_ with ⟨c190, h⟩ | ⟨c190, h⟩
 · have c190 : ¬ (vt184 = true) := c190
   refine seqRwI 42 (x := (!vt184)) (v := true) kr (congrArg (fun b_ => !b_) (show vt184 = false from (Bool.eq_false_iff.mpr c190)) : (!vt184) = true) ?_
   refine seqRwI 43 (x := (!vt184)) (v := true) kr (congrArg (fun b_ => !b_) (show vt184 = false from (Bool.eq_false_iff.mpr c190)) : (!vt184) = true) ?_
   refine seqL14 kr ?_
   refine nl (hK183 _ _ ?_)
   refine condT kr ?_
   refine wp_seq_k fun K191 hK192 => rl ?_
   refine seqL1 kr ?_
   refine nl (hK192 _ _ ?_)
   refine wp_ret ?_
   refine hret _ _ ?_
   refine ends_still (v := Value.bool false) kr kr ?_
   have HS580 := HS189.drop
   have HS581 := HS580.drop
   have HS582 := HS581.drop
   have HS583 := HS582.drop
   have HS584 := HS583.drop
   have HS585 := HS584.drop
   have HS586 := HS585.drop
   have HS587 := HS586.drop
   injection h with h
   subst h
   exact ⟨f186, rfl, (L20.trans (L84.trans (L131.trans (L178.trans L187)))), HS587⟩
 · have c190 : ¬ (¬ (vt184 = true)) := c190
   refine seqRwI 42 (x := (!vt184)) (v := false) kr (congrArg (fun b_ => !b_) (show vt184 = true from (Decidable.of_not_not c190)) : (!vt184) = false) ?_
   refine seqRwI 43 (x := (!vt184)) (v := false) kr (congrArg (fun b_ => !b_) (show vt184 = true from (Decidable.of_not_not c190)) : (!vt184) = false) ?_
   refine seqL4 kr ?_
   have hq_ := ite_some h; clear h; rcases hq_ with ⟨c193, h⟩ | ⟨c193, h⟩
   · have c193 : vt110 ≠ 0 := c193
     refine seqRwI 45 (x := (vt110 != 0)) (v := true) kr (bne_iff_ne.mpr c193) ?_
     refine seqRwI 46 (x := (vt110 != 0)) (v := true) kr (bne_iff_ne.mpr c193) ?_
     refine seqRwI 47 (x := (vt110 != 0)) (v := true) kr (bne_iff_ne.mpr c193) ?_
     refine seqL10 kr ?_
     refine nl (hK183 _ _ ?_)
     refine condT kr ?_
     refine wp_seq_k fun K194 hK195 => rl ?_
     refine seqL1 kr ?_
     refine nl (hK195 _ _ ?_)
     refine wp_ret ?_
     refine hret _ _ ?_
     refine ends_still (v := Value.bool false) kr kr ?_
     have HS588 := HS189.drop
     have HS589 := HS588.drop
     have HS590 := HS589.drop
     have HS591 := HS590.drop
     have HS592 := HS591.drop
     have HS593 := HS592.drop
     have HS594 := HS593.drop
     have HS595 := HS594.drop
     injection h with h
     subst h
     exact ⟨f186, rfl, (L20.trans (L84.trans (L131.trans (L178.trans L187)))), HS595⟩
   · have c193 : ¬ (vt110 ≠ 0) := c193
     refine seqRwI 45 (x := (vt110 != 0)) (v := false) kr (bne_eq_false_iff_eq.mpr (Decidable.of_not_not c193)) ?_
     refine seqRwI 46 (x := (vt110 != 0)) (v := false) kr (bne_eq_false_iff_eq.mpr (Decidable.of_not_not c193)) ?_
     refine seqRwI 47 (x := (vt110 != 0)) (v := false) kr (bne_eq_false_iff_eq.mpr (Decidable.of_not_not c193)) ?_
     refine seqL4 kr ?_
     have hq_ := ite_some h; clear h; rcases hq_ with ⟨c196, h⟩ | ⟨c196, h⟩
     · have c196 : vt157 ≠ 0 := c196
       refine seqRwI 49 (x := (vt157 != 0)) (v := true) kr (bne_iff_ne.mpr c196) ?_
       refine seqRwI 50 (x := (vt157 != 0)) (v := true) kr (bne_iff_ne.mpr c196) ?_
       refine seqRwI 51 (x := (vt157 != 0)) (v := true) kr (bne_iff_ne.mpr c196) ?_
       refine seqL6 kr ?_
       refine nl (hK183 _ _ ?_)
       refine condT kr ?_
       refine wp_seq_k fun K197 hK198 => rl ?_
       refine seqL1 kr ?_
       refine nl (hK198 _ _ ?_)
       refine wp_ret ?_
       refine hret _ _ ?_
       refine ends_still (v := Value.bool false) kr kr ?_
       have HS596 := HS189.drop
       have HS597 := HS596.drop
       have HS598 := HS597.drop
       have HS599 := HS598.drop
       have HS600 := HS599.drop
       have HS601 := HS600.drop
       have HS602 := HS601.drop
       have HS603 := HS602.drop
       injection h with h
       subst h
       exact ⟨f186, rfl, (L20.trans (L84.trans (L131.trans (L178.trans L187)))), HS603⟩
     · have c196 : ¬ (vt157 ≠ 0) := c196
       refine seqRwI 49 (x := (vt157 != 0)) (v := false) kr (bne_eq_false_iff_eq.mpr (Decidable.of_not_not c196)) ?_
       refine seqRwI 50 (x := (vt157 != 0)) (v := false) kr (bne_eq_false_iff_eq.mpr (Decidable.of_not_not c196)) ?_
       refine seqRwI 51 (x := (vt157 != 0)) (v := false) kr (bne_eq_false_iff_eq.mpr (Decidable.of_not_not c196)) ?_
       refine seqL6 kr ?_
       refine nl (hK183 _ _ ?_)
       have hq_ := ite_some h; clear h; rcases hq_ with ⟨c200, h⟩ | ⟨c200, h⟩
       · have c200 : (vt108.length : Int) ≠ (vt65.length : Int) := c200
         refine wpRwI 56 (x := ((vt108.length : Int) != (vt65.length : Int))) (v := true) kr (bne_iff_ne.mpr c200) ?_
         refine wpRwI 57 (x := ((vt108.length : Int) != (vt65.length : Int))) (v := true) kr (bne_iff_ne.mpr c200) ?_
         refine condT kr ?_
         refine wp_seq_k fun K201 hK202 => rl ?_
         refine seqL1 kr ?_
         refine nl (hK202 _ _ ?_)
         refine wp_ret ?_
         refine hret _ _ ?_
         refine ends_still (v := Value.bool false) kr kr ?_
         have HS604 := HS189.drop
         have HS605 := HS604.drop
         have HS606 := HS605.drop
         have HS607 := HS606.drop
         have HS608 := HS607.drop
         have HS609 := HS608.drop
         have HS610 := HS609.drop
         have HS611 := HS610.drop
         injection h with h
         subst h
         exact ⟨f186, rfl, (L20.trans (L84.trans (L131.trans (L178.trans L187)))), HS611⟩
       · have c200 : ¬ ((vt108.length : Int) ≠ (vt65.length : Int)) := c200
         refine wpRwI 56 (x := ((vt108.length : Int) != (vt65.length : Int))) (v := false) kr (bne_eq_false_iff_eq.mpr (Decidable.of_not_not c200)) ?_
         refine wpRwI 57 (x := ((vt108.length : Int) != (vt65.length : Int))) (v := false) kr (bne_eq_false_iff_eq.mpr (Decidable.of_not_not c200)) ?_
         refine condF kr ?_
         refine wp_skip ?_
         refine hK181 _ _ ?_
         refine wp_seq_k fun K203 hK204 => rl ?_
         refine seqL1 kr ?_
         refine nl (hK204 _ _ ?_)
         refine wp_seq_k (fun K205 hK206 => ?_)
         refine wp_seq_k fun K207 hK208 => rl ?_
         refine seqL1 kr ?_
         refine seqK rfl (does_run (run_load rfl Tryz.underlying22 rfl (kv (.pointer (some ⟨b38, 2, none⟩))) (HS189.u7.cell 2)) ?_)
         refine seqL2 kr ?_
         refine nl (hK208 _ _ ?_)
         refine blockK (fun B209 hx210 hn211 hr212 ho213 hp214 => ?_)
         have hq_ := bind_some h; clear h; obtain ⟨o291, hv380, h⟩ := hq_
         have J381 : ∀ (f368 : FM) (A374 : Option Addr) (c375 : Nat) (s376 : Seg) (bias373 : List S_Bound) (x379 : Int) (j372 : Nat → Value) (W370 : World) (a_ : Act), FM.le f186 f368 → some ((bias373, x379)) = some o291 → St t W370 f368 (s376 :: s25 :: s30 :: s35 :: s118 :: s165 :: s74 :: [(b10, .cells #[.slice A2 l1.length c3, .int .i64 x379] 26 (0, 0))] :: [(b38, .cells #[.int .i64 vt16.W, .int .i64 vt16.H, .slice A23 vt16.Bias.length c24, .slice A28 vt16.Dark.length c29, .slice A33 vt16.Flat.length c34, .int .i64 vt16.Full, .int .i64 vt16.Gain, .int .i64 vt16.Noise] 30 (0, 0))] :: H) → Own ty_Bound 43 f368 A374 c375 s376 bias373 → a_ = ⟨#[.slice A2 l1.length c3, .int .u64 seed5, uV, uV, fV, pV b10 0, pV b38 0, .slice A72 vt65.length c73, .slice A116 vt108.length c117, iV vt109, iV vt110, .slice A163 vt156.length c164, iV vt157, .slice A374 bias373.length c375, uV, (j372 0), uV, uV, uV, .slice A2 l1.length c3, .agg #[.slice A2 l1.length c3, iV 0], pV b10 0, pV b10 0, (ag_Sensor vt16 A23 c24 A28 c29 A33 c34), pV b10 0, (ag_Sensor vt16 A23 c24 A28 c29 A33 c34), .slice A72 vt65.length c73, .tuple #[.slice A116 vt108.length c117, iV vt109, iV vt110], (ag_Sensor vt16 A23 c24 A28 c29 A33 c34), .slice A72 vt65.length c73, .tuple #[.slice A116 vt108.length c117, iV vt109, iV vt110], .slice A116 vt108.length c117, iV vt109, iV vt110, .tuple #[.slice A163 vt156.length c164, iV vt157], (ag_Sensor vt16 A23 c24 A28 c29 A33 c34), .int .u64 seed5, .slice A116 vt108.length c117, .tuple #[.slice A163 vt156.length c164, iV vt157], .slice A163 vt156.length c164, iV vt157, .bool vt184, fV, fV, iV vt110, fV, fV, fV, iV vt157, fV, fV, fV, .slice A116 vt108.length c117, iV (vt108.length : Int), .slice A72 vt65.length c73, iV (vt65.length : Int), fV, fV, pV b38 2, .slice A23 vt16.Bias.length c24, iV (vt16.Bias.length : Int), (j372 1), (j372 2), (j372 3), (j372 4), (j372 5), (j372 6), (j372 7), (j372 8), (j372 9), (j372 10), (j372 11), (j372 12), (j372 13), (j372 14), (j372 15), (j372 16), (j372 17), (j372 18), uV, uV, uV, uV, uV, uV, uV, uV, uV, uV, uV, uV, uV, uV, uV, uV, uV, uV, uV, uV, uV, uV, uV, uV, uV, uV, uV, uV, uV, uV, uV, uV, uV, uV, uV, uV, uV, uV, uV, uV, uV, uV, uV, uV, uV, uV, uV, uV, uV, uV, uV, uV, uV, uV, uV, uV, uV, uV, uV, uV, uV, uV, uV, uV, uV, uV], []⟩ → K205 a_ W370 := by
          intro f368 A374 c375 s376 bias373 x379 j372 W370 a_ L369 hj382 HS371 HO377 hfr_; subst hfr_
          injection hj382 with hj382; subst hj382; try dsimp only at h
          refine hK206 _ _ ?_
          refine wp_seq_k (fun K394 hK395 => ?_)
          refine heldG (S := Sg t f368 (s376 :: s25 :: s30 :: s35 :: s118 :: s165 :: s74 :: [(b10, .cells #[.slice A2 l1.length c3, .int .i64 x379] 26 (0, 0))] :: [(b38, .cells #[.int .i64 vt16.W, .int .i64 vt16.H, .slice A23 vt16.Bias.length c24, .slice A28 vt16.Dark.length c29, .slice A33 vt16.Flat.length c34, .int .i64 vt16.Full, .int .i64 vt16.Gain, .int .i64 vt16.Noise] 30 (0, 0))] :: H) []) (n := 15) kr rfl HS371 ?_
          intro W396 HS397
          refine takeGQ 0 [] rfl kr kr kr kr kr kr hnp (Sg.g0 (Sx.of [] (FM.le.refl _) HS397)) (fun w_ hw_ => by obtain ⟨g_, hl_, hS_⟩ := hw_.st; exact run_loadN (n := 8) rfl Tryz.underlying30 rfl kr (kv (.pointer (some ⟨b38, 0, none⟩))) (cs := [.int .i64 vt16.W, .int .i64 vt16.H, .slice A23 vt16.Bias.length c24, .slice A28 vt16.Dark.length c29, .slice A33 vt16.Flat.length c34, .int .i64 vt16.Full, .int .i64 vt16.Gain, .int .i64 vt16.Noise]) rfl (hS_.u8.cells 0 8 _ rfl)) ?_
          refine takeGL [2, 3] (n := 14) (fuel := 12) #[true, false, true, true, false, false, false, false, false, false, false, false, false, false, false] rfl kr kr kr hnp (Sg.g0 (Sx.of [] (FM.le.refl _) HS397)) ?_
          refine takeGQ 4 [] rfl kr kr kr kr kr kr hnp (Sg.g0 (Sx.of [] (FM.le.refl _) HS397)) (fun w_ hw_ => by obtain ⟨g_, hl_, hS_⟩ := hw_.st; exact run_load rfl Tryz.underlying3 rfl (kv (.pointer (some ⟨b38, 0, none⟩))) (hS_.u8.cell 0)) ?_
          refine takeGL [5] (n := 11) (fuel := 10) #[true, false, true, true, true, true, false, false, false, false, false, false, false, false, false] rfl kr kr kr hnp (Sg.g0 (Sx.of [] (FM.le.refl _) HS397)) ?_
          refine takeGQ 6 [] rfl kr kr kr kr kr kr hnp (Sg.g0 (Sx.of [] (FM.le.refl _) HS397)) (fun w_ hw_ => by obtain ⟨g_, hl_, hS_⟩ := hw_.st; exact run_load rfl Tryz.underlying3 rfl (kv (.pointer (some ⟨b38, 1, none⟩))) (hS_.u8.cell 1)) ?_
          refine takeGL [7, 8] (n := 9) (fuel := 7) #[true, false, true, true, true, true, true, true, true, false, false, false, false, false, false] rfl kr kr kr hnp (Sg.g0 (Sx.of [] (FM.le.refl _) HS397)) ?_
          have HS398 := HS397.u1
          obtain ⟨f399, L400, HS401, HR402, th403⟩ := (HO26.mono (L84.trans (L131.trans (L178.trans (L187.trans L369))))).lend HS398
          have HS404 := HS401.u1
          obtain ⟨f405, L406, HS407, HR408, th409⟩ := (HO31.mono (L84.trans (L131.trans (L178.trans (L187.trans (L369.trans L400)))))).lend HS404
          have HS410 := HS407.u1
          obtain ⟨f411, L412, HS413, HR414, th415⟩ := (HO36.mono (L84.trans (L131.trans (L178.trans (L187.trans (L369.trans (L400.trans L406))))))).lend HS410
          have hq_ := bind_some h; clear h; obtain ⟨vt416, hc417, h⟩ := hq_
          refine takeGE 1 kr rfl kr (does_call (f := 12) (args := #[.agg #[.int .i64 vt16.W, .int .i64 vt16.H, .slice A23 vt16.Bias.length c24, .slice A28 vt16.Dark.length c29, .slice A33 vt16.Flat.length c34, .int .i64 vt16.Full, .int .i64 vt16.Gain, .int .i64 vt16.Noise]]) kr (master_Of.calls k A23 c24 A28 c29 A33 c34 vt16 HS413 (HR402.mono (L406.trans L412)) (HR408.mono L412) HR414 vt416 hc417) ?_)
          rintro _ W420 ⟨f418, rfl, L419, HS421⟩
          refine ⟨_, rfl, ?_⟩
          obtain ⟨f422, L423, HS424⟩ := th415 L419 HS421
          obtain ⟨f425, L426, HS427⟩ := th409 L423 HS424
          obtain ⟨f428, L429, HS430⟩ := th403 L426 HS427
          have HS431 := HS430.u8
          have HS432 := HS431.u8
          have HS433 := HS432.u8
          have HS434 := HS433.u8
          have HS435 := HS434.u8
          have HS436 := HS435.u7
          have HS437 := HS436.u7
          have HS438 := HS437.u7
          have HS439 := HS438.u8
          refine ⟨(Sg.g0 (Sx.of [] L429 HS439)), ?_⟩
          obtain ⟨f440, L441, HS442, HR443, th444⟩ := (HO377.mono L429).lend HS439
          have HS445 := HS442.u4
          obtain ⟨f446, L447, HS448, HR449, th450⟩ := (HO166.mono (L187.trans (L369.trans (L429.trans L441)))).lend HS445
          have hq_ := bind_some h; clear h; obtain ⟨⟨vt451, vt452⟩, hc453, h⟩ := hq_
          refine takeGE 9 kr rfl kr (does_call (f := 11) (args := #[.agg #[.int .i64 vt416.W, .int .i64 vt416.H, .int .i64 vt416.Full, .int .i64 vt416.Gain, .int .i64 vt416.Noise], .slice A374 bias373.length c375, .agg #[.int .i64 vt16.W, .int .i64 vt16.H, .slice none 0 0, .slice A163 vt156.length c164]]) kr (master_Held.calls k A374 c375 none 0 A163 c164 vt416 bias373 (⟨vt16.W, vt16.H, ([] : List S_Card), vt156⟩ : S_Frame) HS448 (HR443.mono L447) (SlR.nil _ _) HR449 vt451 vt452 hc453) ?_)
          rintro _ W456 ⟨f454, A458, c459, s460, rfl, L455, HS457, HO461⟩
          refine ⟨_, rfl, ?_⟩
          obtain ⟨f463, L464, HS465⟩ := th450 L455 HS457
          obtain ⟨f466, L467, HS468⟩ := th444 L464 HS465
          replace HO461 := HO461.flat (g := f466) (fun _ _ _ _ h_ => h_)
          have HS469 := HS468.u9
          have HS470 := HS469.u9
          have HS471 := HS470.u9
          have HS472 := HS471.u4
          have HS473 := HS472.u9
          have HS474 := HS473.u9
          have HS475 := HS474.u9
          have HS476 := HS475.u9
          have HS477 := HS476.u8
          have HS478 := HS477.u9
          refine ⟨(Sg.g0 (Sx.of [s460] (L429.trans L467) HS478)), ?_⟩
          refine takeGL [10, 11, 12, 13, 14] (n := 5) (fuel := 0) #[true, true, true, true, true, true, true, true, true, true, true, true, true, true, true] rfl kr kr kr hnp (Sg.g0 (Sx.of [s460] (L429.trans L467) HS478)) ?_
          refine doneG kr ?_ _
          refine hK395 _ _ ?_
          refine wp_seq_k (fun K479 hK480 => ?_)
          refine wp_seq_k fun K481 hK482 => rl ?_
          refine seqL3 kr ?_
          have hq_ := ite_some h; clear h; rcases hq_ with ⟨c483, h⟩ | ⟨c483, h⟩
          · have c483 : vt452 ≠ 0 := c483
            refine seqRwI 93 (x := (vt452 != 0)) (v := true) kr (bne_iff_ne.mpr c483) ?_
            refine seqRwI 94 (x := (vt452 != 0)) (v := true) kr (bne_iff_ne.mpr c483) ?_
            refine seqL6 kr ?_
            refine nl (hK482 _ _ ?_)
            refine condT kr ?_
            refine wp_seq_k fun K484 hK485 => rl ?_
            refine seqL1 kr ?_
            refine nl (hK485 _ _ ?_)
            refine wp_ret ?_
            refine hret _ _ ?_
            refine ends_still (v := Value.bool false) kr kr ?_
            have HS612 := HS478.drop
            have HS613 := HS612.drop
            have HS614 := HS613.drop
            have HS615 := HS614.drop
            have HS616 := HS615.drop
            have HS617 := HS616.drop
            have HS618 := HS617.drop
            have HS619 := HS618.drop
            have HS620 := HS619.drop
            have HS621 := HS620.drop
            injection h with h
            subst h
            exact ⟨f466, rfl, (L20.trans (L84.trans (L131.trans (L178.trans (L187.trans (L369.trans (L429.trans L467))))))), HS621⟩
          · have c483 : ¬ (vt452 ≠ 0) := c483
            refine seqRwI 93 (x := (vt452 != 0)) (v := false) kr (bne_eq_false_iff_eq.mpr (Decidable.of_not_not c483)) ?_
            refine seqRwI 94 (x := (vt452 != 0)) (v := false) kr (bne_eq_false_iff_eq.mpr (Decidable.of_not_not c483)) ?_
            refine seqL6 kr ?_
            refine nl (hK482 _ _ ?_)
            have hq_ := ite_some h; clear h; rcases hq_ with ⟨c487, h⟩ | ⟨c487, h⟩
            · have c487 : (vt451.length : Int) ≠ (vt65.length : Int) := c487
              refine wpRwI 99 (x := ((vt451.length : Int) != (vt65.length : Int))) (v := true) kr (bne_iff_ne.mpr c487) ?_
              refine wpRwI 100 (x := ((vt451.length : Int) != (vt65.length : Int))) (v := true) kr (bne_iff_ne.mpr c487) ?_
              refine condT kr ?_
              refine wp_seq_k fun K488 hK489 => rl ?_
              refine seqL1 kr ?_
              refine nl (hK489 _ _ ?_)
              refine wp_ret ?_
              refine hret _ _ ?_
              refine ends_still (v := Value.bool false) kr kr ?_
              have HS622 := HS478.drop
              have HS623 := HS622.drop
              have HS624 := HS623.drop
              have HS625 := HS624.drop
              have HS626 := HS625.drop
              have HS627 := HS626.drop
              have HS628 := HS627.drop
              have HS629 := HS628.drop
              have HS630 := HS629.drop
              have HS631 := HS630.drop
              injection h with h
              subst h
              exact ⟨f466, rfl, (L20.trans (L84.trans (L131.trans (L178.trans (L187.trans (L369.trans (L429.trans L467))))))), HS631⟩
            · have c487 : ¬ ((vt451.length : Int) ≠ (vt65.length : Int)) := c487
              refine wpRwI 99 (x := ((vt451.length : Int) != (vt65.length : Int))) (v := false) kr (bne_eq_false_iff_eq.mpr (Decidable.of_not_not c487)) ?_
              refine wpRwI 100 (x := ((vt451.length : Int) != (vt65.length : Int))) (v := false) kr (bne_eq_false_iff_eq.mpr (Decidable.of_not_not c487)) ?_
              refine condF kr ?_
              refine wp_skip ?_
              refine hK480 _ _ ?_
              refine wp_seq_k (fun K490 hK491 => ?_)
              refine wp_seq_k fun K492 hK493 => rl ?_
              refine seqL3 kr ?_
              refine nl (hK493 _ _ ?_)
              refine blockK (fun B494 hx495 hn496 hr497 ho498 hp499 => ?_)
              have hq_ := bind_some h; clear h; obtain ⟨o500, hv574, h⟩ := hq_
              have JR576 : ∀ z_, some (Sum.inl z_) = some o500 → some z_ = some rr1 := by
               intro z_ e_; injection e_ with e_; subst e_; exact h
              have J575 : ∀ (f569 : FM) (j573 : Nat → Value) (W571 : World) (a_ : Act), FM.le f466 f569 → some (Sum.inr ()) = some o500 → St t W571 f569 (s460 :: s376 :: s25 :: s30 :: s35 :: s118 :: s165 :: s74 :: [(b10, .cells #[.slice A2 l1.length c3, .int .i64 x379] 26 (0, 0))] :: [(b38, .cells #[.int .i64 vt16.W, .int .i64 vt16.H, .slice A23 vt16.Bias.length c24, .slice A28 vt16.Dark.length c29, .slice A33 vt16.Flat.length c34, .int .i64 vt16.Full, .int .i64 vt16.Gain, .int .i64 vt16.Noise] 30 (0, 0))] :: H) → a_ = ⟨#[.slice A2 l1.length c3, .int .u64 seed5, uV, uV, (j573 0), pV b10 0, pV b38 0, .slice A72 vt65.length c73, .slice A116 vt108.length c117, iV vt109, iV vt110, .slice A163 vt156.length c164, iV vt157, .slice A374 bias373.length c375, uV, (j372 0), .slice A458 vt451.length c459, iV vt452, (j573 1), .slice A2 l1.length c3, .agg #[.slice A2 l1.length c3, iV 0], pV b10 0, pV b10 0, (ag_Sensor vt16 A23 c24 A28 c29 A33 c34), pV b10 0, (ag_Sensor vt16 A23 c24 A28 c29 A33 c34), .slice A72 vt65.length c73, .tuple #[.slice A116 vt108.length c117, iV vt109, iV vt110], (ag_Sensor vt16 A23 c24 A28 c29 A33 c34), .slice A72 vt65.length c73, .tuple #[.slice A116 vt108.length c117, iV vt109, iV vt110], .slice A116 vt108.length c117, iV vt109, iV vt110, .tuple #[.slice A163 vt156.length c164, iV vt157], (ag_Sensor vt16 A23 c24 A28 c29 A33 c34), .int .u64 seed5, .slice A116 vt108.length c117, .tuple #[.slice A163 vt156.length c164, iV vt157], .slice A163 vt156.length c164, iV vt157, .bool vt184, fV, fV, iV vt110, fV, fV, fV, iV vt157, fV, fV, fV, .slice A116 vt108.length c117, iV (vt108.length : Int), .slice A72 vt65.length c73, iV (vt65.length : Int), fV, fV, pV b38 2, .slice A23 vt16.Bias.length c24, iV (vt16.Bias.length : Int), (j372 1), (j372 2), (j372 3), (j372 4), (j372 5), (j372 6), (j372 7), (j372 8), (j372 9), (j372 10), (j372 11), (j372 12), (j372 13), (j372 14), (j372 15), (j372 16), (j372 17), (j372 18), .tuple #[.slice A458 vt451.length c459, iV vt452], (ag_Sensor vt16 A23 c24 A28 c29 A33 c34), (ag_Camera vt416), .slice A374 bias373.length c375, pV b38 0, iV vt16.W, pV b38 1, iV vt16.H, .slice A163 vt156.length c164, .agg #[iV vt16.W, iV vt16.H, .slice none 0 0, .slice A163 vt156.length c164], .tuple #[.slice A458 vt451.length c459, iV vt452], .slice A458 vt451.length c459, iV vt452, iV vt452, fV, fV, .slice A458 vt451.length c459, iV (vt451.length : Int), .slice A72 vt65.length c73, iV (vt65.length : Int), fV, fV, .slice A72 vt65.length c73, iV (vt65.length : Int), (j573 2), (j573 3), (j573 4), (j573 5), (j573 6), (j573 7), (j573 8), (j573 9), (j573 10), (j573 11), (j573 12), (j573 13), (j573 14), (j573 15), (j573 16), (j573 17), (j573 18), (j573 19), (j573 20), (j573 21), (j573 22), (j573 23), (j573 24), (j573 25), (j573 26), (j573 27), (j573 28), (j573 29), (j573 30), (j573 31), (j573 32), (j573 33), (j573 34), (j573 35), (j573 36), (j573 37), (j573 38), (j573 39), (j573 40), (j573 41), (j573 42), (j573 43)], []⟩ → K490 a_ W571 := by
               intro f569 j573 W571 a_ L570 hj577 HS572  hfr_; subst hfr_
               injection hj577 with hj577; subst hj577; try dsimp only at h
               simp only [Sum.elim_inr] at h
               refine hK491 _ _ ?_
               refine wp_seq_k fun K578 hK579 => rl ?_
               refine seqL1 kr ?_
               refine nl (hK579 _ _ ?_)
               refine wp_ret ?_
               refine hret _ _ ?_
               refine ends_still (v := Value.bool true) kr kr ?_
               have HS662 := HS572.drop
               have HS663 := HS662.drop
               have HS664 := HS663.drop
               have HS665 := HS664.drop
               have HS666 := HS665.drop
               have HS667 := HS666.drop
               have HS668 := HS667.drop
               have HS669 := HS668.drop
               have HS670 := HS669.drop
               have HS671 := HS670.drop
               injection h with h
               subst h
               exact ⟨f569, rfl, (L20.trans (L84.trans (L131.trans (L178.trans (L187.trans (L369.trans (L429.trans (L467.trans L570)))))))), HS671⟩
              clear h; have h := hv574; clear hv574
              refine loopK (fun n_ a_ w_ => ∃ (f504 : FM) (x509 : Int) (j508 : Nat → Value), FM.le f466 f504 ∧ St t w_ f504 (s460 :: s376 :: s25 :: s30 :: s35 :: s118 :: s165 :: s74 :: [(b10, .cells #[.slice A2 l1.length c3, .int .i64 x379] 26 (0, 0))] :: [(b38, .cells #[.int .i64 vt16.W, .int .i64 vt16.H, .slice A23 vt16.Bias.length c24, .slice A28 vt16.Dark.length c29, .slice A33 vt16.Flat.length c34, .int .i64 vt16.Full, .int .i64 vt16.Gain, .int .i64 vt16.Noise] 30 (0, 0))] :: H) ∧ spykeep3_MasterKeeps.l1 k vt65 vt451 vt108 vt16 l1 n_ x509 = some o500 ∧ a_ = ⟨#[.slice A2 l1.length c3, .int .u64 seed5, uV, uV, (j508 0), pV b10 0, pV b38 0, .slice A72 vt65.length c73, .slice A116 vt108.length c117, iV vt109, iV vt110, .slice A163 vt156.length c164, iV vt157, .slice A374 bias373.length c375, uV, (j372 0), .slice A458 vt451.length c459, iV vt452, (j508 1), .slice A2 l1.length c3, .agg #[.slice A2 l1.length c3, iV 0], pV b10 0, pV b10 0, (ag_Sensor vt16 A23 c24 A28 c29 A33 c34), pV b10 0, (ag_Sensor vt16 A23 c24 A28 c29 A33 c34), .slice A72 vt65.length c73, .tuple #[.slice A116 vt108.length c117, iV vt109, iV vt110], (ag_Sensor vt16 A23 c24 A28 c29 A33 c34), .slice A72 vt65.length c73, .tuple #[.slice A116 vt108.length c117, iV vt109, iV vt110], .slice A116 vt108.length c117, iV vt109, iV vt110, .tuple #[.slice A163 vt156.length c164, iV vt157], (ag_Sensor vt16 A23 c24 A28 c29 A33 c34), .int .u64 seed5, .slice A116 vt108.length c117, .tuple #[.slice A163 vt156.length c164, iV vt157], .slice A163 vt156.length c164, iV vt157, .bool vt184, fV, fV, iV vt110, fV, fV, fV, iV vt157, fV, fV, fV, .slice A116 vt108.length c117, iV (vt108.length : Int), .slice A72 vt65.length c73, iV (vt65.length : Int), fV, fV, pV b38 2, .slice A23 vt16.Bias.length c24, iV (vt16.Bias.length : Int), (j372 1), (j372 2), (j372 3), (j372 4), (j372 5), (j372 6), (j372 7), (j372 8), (j372 9), (j372 10), (j372 11), (j372 12), (j372 13), (j372 14), (j372 15), (j372 16), (j372 17), (j372 18), .tuple #[.slice A458 vt451.length c459, iV vt452], (ag_Sensor vt16 A23 c24 A28 c29 A33 c34), (ag_Camera vt416), .slice A374 bias373.length c375, pV b38 0, iV vt16.W, pV b38 1, iV vt16.H, .slice A163 vt156.length c164, .agg #[iV vt16.W, iV vt16.H, .slice none 0 0, .slice A163 vt156.length c164], .tuple #[.slice A458 vt451.length c459, iV vt452], .slice A458 vt451.length c459, iV vt452, iV vt452, fV, fV, .slice A458 vt451.length c459, iV (vt451.length : Int), .slice A72 vt65.length c73, iV (vt65.length : Int), fV, fV, .slice A72 vt65.length c73, iV (vt65.length : Int), iV x509, (j508 2), (j508 3), (j508 4), (j508 5), (j508 6), (j508 7), (j508 8), (j508 9), (j508 10), (j508 11), (j508 12), (j508 13), (j508 14), (j508 15), (j508 16), (j508 17), (j508 18), (j508 19), (j508 20), (j508 21), (j508 22), (j508 23), (j508 24), (j508 25), (j508 26), (j508 27), (j508 28), (j508 29), (j508 30), (j508 31), (j508 32), (j508 33), (j508 34), (j508 35), (j508 36), (j508 37), (j508 38), (j508 39), (j508 40), (j508 41), (j508 42)], []⟩) k ⟨f466, 0, (fun i_ => [Value.bool false, undef, undef, undef, undef, undef, undef, undef, undef, undef, undef, undef, undef, undef, undef, undef, undef, undef, undef, undef, undef, undef, undef, undef, undef, undef, undef, undef, undef, undef, undef, undef, undef, undef, undef, undef, undef, undef, undef, undef, undef, undef, undef].getD i_ undef), (FM.le.refl _), HS478, h, kr⟩ ?_
              clear h
              rintro n503 _ W506 ⟨f504, x509, j508, L505, HS507, h, rfl⟩ K501 hK502
              obtain _ | n503 := n503
              · exact nomatch h
              simp only [spykeep3_MasterKeeps.l1] at h
              refine wp_seq_k fun K510 hK511 => rl ?_
              refine seqL1 kr ?_
              refine nl (hK511 _ _ ?_)
              refine wp_seq_k (fun K512 hK513 => ?_)
              have hq_ := ite_some h; clear h; rcases hq_ with ⟨c515, h⟩ | ⟨c515, h⟩
              · have c515 : x509 < (vt65.length : Int) := c515
                refine wpRwI 104 (x := (decide (x509 < (vt65.length : Int)))) (v := true) kr (decide_eq_true c515) ?_
                refine condT kr ?_
                refine wp_skip ?_
                refine hK513 _ _ ?_
                refine wp_seq_k (fun K516 hK517 => ?_)
                refine blockK (fun B518 hx519 hn520 hr521 ho522 hp523 => ?_)
                refine wp_seq_k fun K525 hK526 => rl ?_
                refine seqL2 kr ?_
                refine nl (hK526 _ _ ?_)
                refine wp_seq_k (fun K527 hK528 => ?_)
                refine heldG (S := Sg t f504 (s460 :: s376 :: s25 :: s30 :: s35 :: s118 :: s165 :: s74 :: [(b10, .cells #[.slice A2 l1.length c3, .int .i64 x379] 26 (0, 0))] :: [(b38, .cells #[.int .i64 vt16.W, .int .i64 vt16.H, .slice A23 vt16.Bias.length c24, .slice A28 vt16.Dark.length c29, .slice A33 vt16.Flat.length c34, .int .i64 vt16.Full, .int .i64 vt16.Gain, .int .i64 vt16.Noise] 30 (0, 0))] :: H) []) (n := 38) kr rfl HS507 ?_
                intro W529 HS530
                have hq_ := guard_some h; clear h; obtain ⟨c531, h⟩ := hq_
                have c531 : 0 ≤ x509 := c531
                have hq_ := guard_some h; clear h; obtain ⟨c532, h⟩ := hq_
                have c532 : x509 < (vt451.length : Int) := c532
                obtain ⟨b536, of537, cs533, hA538, hr534, hc535⟩ := (HO461.mono L505).at (i := x509) c531 c532
                obtain rfl := hr534
                refine takeGL [0, 1] (n := 38) (fuel := 36) #[true, true, false, false, false, false, false, false, false, false, false, false, false, false, false, false, false, false, false, false, false, false, false, false, false, false, false, false, false, false, false, false, false, false, false, false, false, false] rfl kr kr kr (fun ch_ a_ w_ q_ => (fun ch_ a_ w_ q_ => hnp ch_ a_ w_ (hp499 ch_ a_ w_ q_)) ch_ a_ w_ (hp523 ch_ a_ w_ q_)) (Sg.g0 (Sx.of [] (FM.le.refl _) HS530)) ?_
                refine takeGQ 2 [] rfl kr kr kr kr kr kr (fun ch_ a_ w_ q_ => (fun ch_ a_ w_ q_ => hnp ch_ a_ w_ (hp499 ch_ a_ w_ q_)) ch_ a_ w_ (hp523 ch_ a_ w_ q_)) (Sg.g0 (Sx.of [] (FM.le.refl _) HS530)) (fun w_ hw_ => by obtain ⟨g_, hl_, hS_⟩ := hw_.st; exact run_indexE hA538 (sz := 3) rfl Tryz.underlying46 kr (kv (.slice A458 vt451.length c459)) (kv (.int .i64 x509)) c531 c532 w_) ?_
                refine takeGL [3] (n := 35) (fuel := 34) #[true, true, true, true, false, false, false, false, false, false, false, false, false, false, false, false, false, false, false, false, false, false, false, false, false, false, false, false, false, false, false, false, false, false, false, false, false, false] rfl kr kr kr (fun ch_ a_ w_ q_ => (fun ch_ a_ w_ q_ => hnp ch_ a_ w_ (hp499 ch_ a_ w_ q_)) ch_ a_ w_ (hp523 ch_ a_ w_ q_)) (Sg.g0 (Sx.of [] (FM.le.refl _) HS530)) ?_
                refine takeGQ 4 [] rfl kr kr kr kr kr kr (fun ch_ a_ w_ q_ => (fun ch_ a_ w_ q_ => hnp ch_ a_ w_ (hp499 ch_ a_ w_ q_)) ch_ a_ w_ (hp523 ch_ a_ w_ q_)) (Sg.g0 (Sx.of [] (FM.le.refl _) HS530)) (fun w_ hw_ => by obtain ⟨g_, hl_, hS_⟩ := hw_.st; exact run_load rfl Tryz.underlying4 rfl (kv (.pointer (some ⟨b536, of537 + (x509 : Int).toNat * 3 + 2, none⟩))) ((hc535 hS_) 2 (by decide))) ?_
                refine takeGL [5, 6] (n := 33) (fuel := 31) #[true, true, true, true, true, true, true, false, false, false, false, false, false, false, false, false, false, false, false, false, false, false, false, false, false, false, false, false, false, false, false, false, false, false, false, false, false, false] rfl kr kr kr (fun ch_ a_ w_ q_ => (fun ch_ a_ w_ q_ => hnp ch_ a_ w_ (hp499 ch_ a_ w_ q_)) ch_ a_ w_ (hp523 ch_ a_ w_ q_)) (Sg.g0 (Sx.of [] (FM.le.refl _) HS530)) ?_
                have hq_ := ite_some h; clear h; rcases hq_ with ⟨c539, h⟩ | ⟨c539, h⟩
                · have c539 : ¬ (((rd vt451 x509).Unknown) = true) := c539
                  refine gateRwI 111 (x := (!((rd vt451 x509).Unknown))) (v := true) kr (congrArg (fun b_ => !b_) (show (rd vt451 x509).Unknown = false from (Bool.eq_false_iff.mpr c539)) : (!((rd vt451 x509).Unknown)) = true) ?_
                  refine gateRwI 112 (x := (!((rd vt451 x509).Unknown))) (v := true) kr (congrArg (fun b_ => !b_) (show (rd vt451 x509).Unknown = false from (Bool.eq_false_iff.mpr c539)) : (!((rd vt451 x509).Unknown)) = true) ?_
                  refine takeGL [7, 8] (n := 31) (fuel := 29) #[true, true, true, true, true, true, true, true, true, false, false, false, false, false, false, false, false, false, false, false, false, false, false, false, false, false, false, false, false, false, false, false, false, false, false, false, false, false] rfl kr kr kr (fun ch_ a_ w_ q_ => (fun ch_ a_ w_ q_ => hnp ch_ a_ w_ (hp499 ch_ a_ w_ q_)) ch_ a_ w_ (hp523 ch_ a_ w_ q_)) (Sg.g0 (Sx.of [] (FM.le.refl _) HS530)) ?_
                  refine takeGQ 9 [] rfl kr kr kr kr kr kr (fun ch_ a_ w_ q_ => (fun ch_ a_ w_ q_ => hnp ch_ a_ w_ (hp499 ch_ a_ w_ q_)) ch_ a_ w_ (hp523 ch_ a_ w_ q_)) (Sg.g0 (Sx.of [] (FM.le.refl _) HS530)) (fun w_ hw_ => by obtain ⟨g_, hl_, hS_⟩ := hw_.st; exact run_indexE hA538 (sz := 3) rfl Tryz.underlying46 kr (kv (.slice A458 vt451.length c459)) (kv (.int .i64 x509)) c531 c532 w_) ?_
                  refine takeGQ 10 [] rfl kr kr kr kr kr kr (fun ch_ a_ w_ q_ => (fun ch_ a_ w_ q_ => hnp ch_ a_ w_ (hp499 ch_ a_ w_ q_)) ch_ a_ w_ (hp523 ch_ a_ w_ q_)) (Sg.g0 (Sx.of [] (FM.le.refl _) HS530)) (fun w_ hw_ => by obtain ⟨g_, hl_, hS_⟩ := hw_.st; exact run_loadN (n := 3) rfl Tryz.underlying56 rfl kr (kv (.pointer (some ⟨b536, of537 + (x509 : Int).toNat * 3, none⟩))) (cs := [.int .i64 ((rd vt451 x509).Lo), .int .i64 ((rd vt451 x509).Hi), .bool ((rd vt451 x509).Unknown)]) rfl (fun j_ hj_ => ((hc535 hS_) j_ hj_))) ?_
                  obtain ⟨b543, of544, cs540, hA545, hr541, hc542⟩ := (HO75.mono (L131.trans (L178.trans (L187.trans (L369.trans (L429.trans (L467.trans L505))))))).at (i := x509) c531 c515
                  obtain rfl := hr541
                  refine takeGL [11, 12] (n := 27) (fuel := 25) #[true, true, true, true, true, true, true, true, true, true, true, true, true, false, false, false, false, false, false, false, false, false, false, false, false, false, false, false, false, false, false, false, false, false, false, false, false, false] rfl kr kr kr (fun ch_ a_ w_ q_ => (fun ch_ a_ w_ q_ => hnp ch_ a_ w_ (hp499 ch_ a_ w_ q_)) ch_ a_ w_ (hp523 ch_ a_ w_ q_)) (Sg.g0 (Sx.of [] (FM.le.refl _) HS530)) ?_
                  refine takeGQ 13 [] rfl kr kr kr kr kr kr (fun ch_ a_ w_ q_ => (fun ch_ a_ w_ q_ => hnp ch_ a_ w_ (hp499 ch_ a_ w_ q_)) ch_ a_ w_ (hp523 ch_ a_ w_ q_)) (Sg.g0 (Sx.of [] (FM.le.refl _) HS530)) (fun w_ hw_ => by obtain ⟨g_, hl_, hS_⟩ := hw_.st; exact run_indexE hA545 (sz := 1) rfl Tryz.underlying32 kr (kv (.slice A72 vt65.length c73)) (kv (.int .i64 x509)) c531 c515 w_) ?_
                  refine takeGQ 14 [] rfl kr kr kr kr kr kr (fun ch_ a_ w_ q_ => (fun ch_ a_ w_ q_ => hnp ch_ a_ w_ (hp499 ch_ a_ w_ q_)) ch_ a_ w_ (hp523 ch_ a_ w_ q_)) (Sg.g0 (Sx.of [] (FM.le.refl _) HS530)) (fun w_ hw_ => by obtain ⟨g_, hl_, hS_⟩ := hw_.st; exact run_load rfl Tryz.underlying28 rfl (kv (.pointer (some ⟨b543, of544 + (x509 : Int).toNat * 1, none⟩))) ((hc542 hS_.u7) 0 (by decide))) ?_
                  have hq_ := bind_some h; clear h; obtain ⟨vt546, hc547, h⟩ := hq_
                  refine takeGE 15 kr rfl kr (does_call (f := 13) (args := #[.agg #[.int .i64 ((rd vt451 x509).Lo), .int .i64 ((rd vt451 x509).Hi), .bool ((rd vt451 x509).Unknown)], .int .i64 (rd vt65 x509)]) kr (bound_Has_Quanta.calls k (rd vt451 x509) (rd vt65 x509) HS530 vt546 hc547) ?_)
                  rintro _ W550 ⟨f548, rfl, L549, HS551⟩
                  refine ⟨_, rfl, ?_⟩
                  refine ⟨(Sg.g0 (Sx.of [] L549 HS551)), ?_⟩
                  refine takeGL [16, 17] (n := 22) (fuel := 20) #[true, true, true, true, true, true, true, true, true, true, true, true, true, true, true, true, true, true, false, false, false, false, false, false, false, false, false, false, false, false, false, false, false, false, false, false, false, false] rfl kr kr kr (fun ch_ a_ w_ q_ => (fun ch_ a_ w_ q_ => hnp ch_ a_ w_ (hp499 ch_ a_ w_ q_)) ch_ a_ w_ (hp523 ch_ a_ w_ q_)) (Sg.g0 (Sx.of [] L549 HS551)) ?_
                  have hq_ := ite_some h; clear h; rcases hq_ with ⟨c552, h⟩ | ⟨c552, h⟩
                  · have c552 : ¬ (vt546 = true) := c552
                    refine gateRwI 122 (x := (!vt546)) (v := true) kr (congrArg (fun b_ => !b_) (show vt546 = false from (Bool.eq_false_iff.mpr c552)) : (!vt546) = true) ?_
                    refine gateRwI 123 (x := (!vt546)) (v := true) kr (congrArg (fun b_ => !b_) (show vt546 = false from (Bool.eq_false_iff.mpr c552)) : (!vt546) = true) ?_
                    refine takeGL [18, 19, 20, 21, 22, 23, 24, 25, 26, 27, 28, 29, 30, 31, 32, 33, 34, 35, 36, 37] (n := 20) (fuel := 0) #[true, true, true, true, true, true, true, true, true, true, true, true, true, true, true, true, true, true, true, true, true, true, true, true, true, true, true, true, true, true, true, true, true, true, true, true, true, true] rfl kr kr kr (fun ch_ a_ w_ q_ => (fun ch_ a_ w_ q_ => hnp ch_ a_ w_ (hp499 ch_ a_ w_ q_)) ch_ a_ w_ (hp523 ch_ a_ w_ q_)) (Sg.g0 (Sx.of [] L549 HS551)) ?_
                    refine doneG kr ?_ _
                    refine hK528 _ _ ?_
                    refine condT kr ?_
                    refine wp_seq_k fun K553 hK554 => rl ?_
                    refine seqL1 kr ?_
                    refine nl (hK554 _ _ ?_)
                    refine wp_ret ?_
                    refine hr521 _ _ ?_
                    refine hr497 _ _ ?_
                    refine hret _ _ ?_
                    refine ends_still (v := Value.bool false) kr kr ?_
                    have HS632 := HS551.drop
                    have HS633 := HS632.drop
                    have HS634 := HS633.drop
                    have HS635 := HS634.drop
                    have HS636 := HS635.drop
                    have HS637 := HS636.drop
                    have HS638 := HS637.drop
                    have HS639 := HS638.drop
                    have HS640 := HS639.drop
                    have HS641 := HS640.drop
                    replace h := JR576 _ h
                    injection h with h
                    subst h
                    exact ⟨f548, rfl, (L20.trans (L84.trans (L131.trans (L178.trans (L187.trans (L369.trans (L429.trans (L467.trans (L505.trans L549))))))))), HS641⟩
                  · have c552 : ¬ (¬ (vt546 = true)) := c552
                    refine gateRwI 122 (x := (!vt546)) (v := false) kr (congrArg (fun b_ => !b_) (show vt546 = true from (Decidable.of_not_not c552)) : (!vt546) = false) ?_
                    refine gateRwI 123 (x := (!vt546)) (v := false) kr (congrArg (fun b_ => !b_) (show vt546 = true from (Decidable.of_not_not c552)) : (!vt546) = false) ?_
                    have hq_ := guard_some h; clear h; obtain ⟨c555, h⟩ := hq_
                    have c555 : x509 < (vt108.length : Int) := c555
                    obtain ⟨b559, of560, cs556, hA561, hr557, hc558⟩ := (HO119.mono (L178.trans (L187.trans (L369.trans (L429.trans (L467.trans (L505.trans L549))))))).at (i := x509) c531 c555
                    obtain rfl := hr557
                    refine takeGL [18, 19] (n := 20) (fuel := 18) #[true, true, true, true, true, true, true, true, true, true, true, true, true, true, true, true, true, true, true, true, false, false, false, false, false, false, false, false, false, false, false, false, false, false, false, false, false, false] rfl kr kr kr (fun ch_ a_ w_ q_ => (fun ch_ a_ w_ q_ => hnp ch_ a_ w_ (hp499 ch_ a_ w_ q_)) ch_ a_ w_ (hp523 ch_ a_ w_ q_)) (Sg.g0 (Sx.of [] L549 HS551)) ?_
                    refine takeGQ 20 [] rfl kr kr kr kr kr kr (fun ch_ a_ w_ q_ => (fun ch_ a_ w_ q_ => hnp ch_ a_ w_ (hp499 ch_ a_ w_ q_)) ch_ a_ w_ (hp523 ch_ a_ w_ q_)) (Sg.g0 (Sx.of [] L549 HS551)) (fun w_ hw_ => by obtain ⟨g_, hl_, hS_⟩ := hw_.st; exact run_indexE hA561 (sz := 1) rfl Tryz.underlying32 kr (kv (.slice A116 vt108.length c117)) (kv (.int .i64 x509)) c531 c555 w_) ?_
                    refine takeGQ 21 [] rfl kr kr kr kr kr kr (fun ch_ a_ w_ q_ => (fun ch_ a_ w_ q_ => hnp ch_ a_ w_ (hp499 ch_ a_ w_ q_)) ch_ a_ w_ (hp523 ch_ a_ w_ q_)) (Sg.g0 (Sx.of [] L549 HS551)) (fun w_ hw_ => by obtain ⟨g_, hl_, hS_⟩ := hw_.st; exact run_load rfl Tryz.underlying28 rfl (kv (.pointer (some ⟨b559, of560 + (x509 : Int).toNat * 1, none⟩))) ((hc558 hS_.u5) 0 (by decide))) ?_
                    refine takeGL [22, 23] (n := 16) (fuel := 14) #[true, true, true, true, true, true, true, true, true, true, true, true, true, true, true, true, true, true, true, true, true, true, true, true, false, false, false, false, false, false, false, false, false, false, false, false, false, false] rfl kr kr kr (fun ch_ a_ w_ q_ => (fun ch_ a_ w_ q_ => hnp ch_ a_ w_ (hp499 ch_ a_ w_ q_)) ch_ a_ w_ (hp523 ch_ a_ w_ q_)) (Sg.g0 (Sx.of [] L549 HS551)) ?_
                    refine takeGQ 24 [] rfl kr kr kr kr kr kr (fun ch_ a_ w_ q_ => (fun ch_ a_ w_ q_ => hnp ch_ a_ w_ (hp499 ch_ a_ w_ q_)) ch_ a_ w_ (hp523 ch_ a_ w_ q_)) (Sg.g0 (Sx.of [] L549 HS551)) (fun w_ hw_ => by obtain ⟨g_, hl_, hS_⟩ := hw_.st; exact run_indexE hA545 (sz := 1) rfl Tryz.underlying32 kr (kv (.slice A72 vt65.length c73)) (kv (.int .i64 x509)) c531 c515 w_) ?_
                    refine takeGQ 25 [] rfl kr kr kr kr kr kr (fun ch_ a_ w_ q_ => (fun ch_ a_ w_ q_ => hnp ch_ a_ w_ (hp499 ch_ a_ w_ q_)) ch_ a_ w_ (hp523 ch_ a_ w_ q_)) (Sg.g0 (Sx.of [] L549 HS551)) (fun w_ hw_ => by obtain ⟨g_, hl_, hS_⟩ := hw_.st; exact run_load rfl Tryz.underlying28 rfl (kv (.pointer (some ⟨b543, of544 + (x509 : Int).toNat * 1, none⟩))) ((hc542 hS_.u7) 0 (by decide))) ?_
                    refine takeGL [26, 27, 28] (n := 12) (fuel := 9) #[true, true, true, true, true, true, true, true, true, true, true, true, true, true, true, true, true, true, true, true, true, true, true, true, true, true, true, true, true, false, false, false, false, false, false, false, false, false] rfl kr kr kr (fun ch_ a_ w_ q_ => (fun ch_ a_ w_ q_ => hnp ch_ a_ w_ (hp499 ch_ a_ w_ q_)) ch_ a_ w_ (hp523 ch_ a_ w_ q_)) (Sg.g0 (Sx.of [] L549 HS551)) ?_
                    have hq_ := ite_some h; clear h; rcases hq_ with ⟨c562, h⟩ | ⟨c562, h⟩
                    · have c562 : (rd vt108 x509) ≠ (rd vt65 x509) := c562
                      refine gateRwI 132 (x := ((rd vt108 x509) != (rd vt65 x509))) (v := true) kr (bne_iff_ne.mpr c562) ?_
                      refine gateRwI 133 (x := ((rd vt108 x509) != (rd vt65 x509))) (v := true) kr (bne_iff_ne.mpr c562) ?_
                      refine gateRwI 134 (x := ((rd vt108 x509) != (rd vt65 x509))) (v := true) kr (bne_iff_ne.mpr c562) ?_
                      refine takeGL [29, 30, 31, 32, 33, 34, 35, 36, 37] (n := 9) (fuel := 0) #[true, true, true, true, true, true, true, true, true, true, true, true, true, true, true, true, true, true, true, true, true, true, true, true, true, true, true, true, true, true, true, true, true, true, true, true, true, true] rfl kr kr kr (fun ch_ a_ w_ q_ => (fun ch_ a_ w_ q_ => hnp ch_ a_ w_ (hp499 ch_ a_ w_ q_)) ch_ a_ w_ (hp523 ch_ a_ w_ q_)) (Sg.g0 (Sx.of [] L549 HS551)) ?_
                      refine doneG kr ?_ _
                      refine hK528 _ _ ?_
                      refine condT kr ?_
                      refine wp_seq_k fun K563 hK564 => rl ?_
                      refine seqL1 kr ?_
                      refine nl (hK564 _ _ ?_)
                      refine wp_ret ?_
                      refine hr521 _ _ ?_
                      refine hr497 _ _ ?_
                      refine hret _ _ ?_
                      refine ends_still (v := Value.bool false) kr kr ?_
                      have HS642 := HS551.drop
                      have HS643 := HS642.drop
                      have HS644 := HS643.drop
                      have HS645 := HS644.drop
                      have HS646 := HS645.drop
                      have HS647 := HS646.drop
                      have HS648 := HS647.drop
                      have HS649 := HS648.drop
                      have HS650 := HS649.drop
                      have HS651 := HS650.drop
                      replace h := JR576 _ h
                      injection h with h
                      subst h
                      exact ⟨f548, rfl, (L20.trans (L84.trans (L131.trans (L178.trans (L187.trans (L369.trans (L429.trans (L467.trans (L505.trans L549))))))))), HS651⟩
                    · have c562 : ¬ ((rd vt108 x509) ≠ (rd vt65 x509)) := c562
                      refine gateRwI 132 (x := ((rd vt108 x509) != (rd vt65 x509))) (v := false) kr (bne_eq_false_iff_eq.mpr (Decidable.of_not_not c562)) ?_
                      refine gateRwI 133 (x := ((rd vt108 x509) != (rd vt65 x509))) (v := false) kr (bne_eq_false_iff_eq.mpr (Decidable.of_not_not c562)) ?_
                      refine gateRwI 134 (x := ((rd vt108 x509) != (rd vt65 x509))) (v := false) kr (bne_eq_false_iff_eq.mpr (Decidable.of_not_not c562)) ?_
                      refine takeGL [29, 30] (n := 9) (fuel := 7) #[true, true, true, true, true, true, true, true, true, true, true, true, true, true, true, true, true, true, true, true, true, true, true, true, true, true, true, true, true, true, true, false, false, false, false, false, false, false] rfl kr kr kr (fun ch_ a_ w_ q_ => (fun ch_ a_ w_ q_ => hnp ch_ a_ w_ (hp499 ch_ a_ w_ q_)) ch_ a_ w_ (hp523 ch_ a_ w_ q_)) (Sg.g0 (Sx.of [] L549 HS551)) ?_
                      refine takeGQ 31 [] rfl kr kr kr kr kr kr (fun ch_ a_ w_ q_ => (fun ch_ a_ w_ q_ => hnp ch_ a_ w_ (hp499 ch_ a_ w_ q_)) ch_ a_ w_ (hp523 ch_ a_ w_ q_)) (Sg.g0 (Sx.of [] L549 HS551)) (fun w_ hw_ => by obtain ⟨g_, hl_, hS_⟩ := hw_.st; exact run_indexE hA545 (sz := 1) rfl Tryz.underlying32 kr (kv (.slice A72 vt65.length c73)) (kv (.int .i64 x509)) c531 c515 w_) ?_
                      refine takeGQ 32 [] rfl kr kr kr kr kr kr (fun ch_ a_ w_ q_ => (fun ch_ a_ w_ q_ => hnp ch_ a_ w_ (hp499 ch_ a_ w_ q_)) ch_ a_ w_ (hp523 ch_ a_ w_ q_)) (Sg.g0 (Sx.of [] L549 HS551)) (fun w_ hw_ => by obtain ⟨g_, hl_, hS_⟩ := hw_.st; exact run_load rfl Tryz.underlying28 rfl (kv (.pointer (some ⟨b543, of544 + (x509 : Int).toNat * 1, none⟩))) ((hc542 hS_.u7) 0 (by decide))) ?_
                      refine takeGL [33] (n := 5) (fuel := 4) #[true, true, true, true, true, true, true, true, true, true, true, true, true, true, true, true, true, true, true, true, true, true, true, true, true, true, true, true, true, true, true, true, true, true, false, false, false, false] rfl kr kr kr (fun ch_ a_ w_ q_ => (fun ch_ a_ w_ q_ => hnp ch_ a_ w_ (hp499 ch_ a_ w_ q_)) ch_ a_ w_ (hp523 ch_ a_ w_ q_)) (Sg.g0 (Sx.of [] L549 HS551)) ?_
                      refine takeGQ 34 [] rfl kr kr kr kr kr kr (fun ch_ a_ w_ q_ => (fun ch_ a_ w_ q_ => hnp ch_ a_ w_ (hp499 ch_ a_ w_ q_)) ch_ a_ w_ (hp523 ch_ a_ w_ q_)) (Sg.g0 (Sx.of [] L549 HS551)) (fun w_ hw_ => by obtain ⟨g_, hl_, hS_⟩ := hw_.st; exact run_load rfl Tryz.underlying28 rfl (kv (.pointer (some ⟨b38, 5, none⟩))) (hS_.u9.cell 5)) ?_
                      refine takeGL [35, 36, 37] (n := 3) (fuel := 0) #[true, true, true, true, true, true, true, true, true, true, true, true, true, true, true, true, true, true, true, true, true, true, true, true, true, true, true, true, true, true, true, true, true, true, true, true, true, true] rfl kr kr kr (fun ch_ a_ w_ q_ => (fun ch_ a_ w_ q_ => hnp ch_ a_ w_ (hp499 ch_ a_ w_ q_)) ch_ a_ w_ (hp523 ch_ a_ w_ q_)) (Sg.g0 (Sx.of [] L549 HS551)) ?_
                      refine doneG kr ?_ _
                      refine hK528 _ _ ?_
                      have hq_ := ite_some h; clear h; rcases hq_ with ⟨c566, h⟩ | ⟨c566, h⟩
                      · have c566 : (rd vt65 x509) ≥ vt16.Full := c566
                        refine wpRwI 141 (x := (decide ((rd vt65 x509) ≥ vt16.Full))) (v := true) kr (decide_eq_true c566) ?_
                        refine wpRwI 142 (x := (decide ((rd vt65 x509) ≥ vt16.Full))) (v := true) kr (decide_eq_true c566) ?_
                        refine wpRwI 143 (x := (decide ((rd vt65 x509) ≥ vt16.Full))) (v := true) kr (decide_eq_true c566) ?_
                        refine condT kr ?_
                        refine wp_seq_k fun K567 hK568 => rl ?_
                        refine seqL1 kr ?_
                        refine nl (hK568 _ _ ?_)
                        refine wp_ret ?_
                        refine hr521 _ _ ?_
                        refine hr497 _ _ ?_
                        refine hret _ _ ?_
                        refine ends_still (v := Value.bool false) kr kr ?_
                        have HS652 := HS551.drop
                        have HS653 := HS652.drop
                        have HS654 := HS653.drop
                        have HS655 := HS654.drop
                        have HS656 := HS655.drop
                        have HS657 := HS656.drop
                        have HS658 := HS657.drop
                        have HS659 := HS658.drop
                        have HS660 := HS659.drop
                        have HS661 := HS660.drop
                        replace h := JR576 _ h
                        injection h with h
                        subst h
                        exact ⟨f548, rfl, (L20.trans (L84.trans (L131.trans (L178.trans (L187.trans (L369.trans (L429.trans (L467.trans (L505.trans L549))))))))), HS661⟩
                      · have c566 : ¬ ((rd vt65 x509) ≥ vt16.Full) := c566
                        refine wpRwI 141 (x := (decide ((rd vt65 x509) ≥ vt16.Full))) (v := false) kr (decide_eq_false c566) ?_
                        refine wpRwI 142 (x := (decide ((rd vt65 x509) ≥ vt16.Full))) (v := false) kr (decide_eq_false c566) ?_
                        refine wpRwI 143 (x := (decide ((rd vt65 x509) ≥ vt16.Full))) (v := false) kr (decide_eq_false c566) ?_
                        refine condF kr ?_
                        refine wp_skip ?_
                        refine hn520 _ _ ?_
                        refine hK517 _ _ ?_
                        refine rl ?_
                        refine seqL2 kr ?_
                        refine nl ?_
                        refine hK502 n503 _ _ (Nat.lt_succ_self _) ?_
                        exact ⟨f548, (w64 (x509 + 1)), (fun i_ => [(j508 0), Value.int .i64 x509, Value.bool true, Value.int .i64 x509, Value.slice A458 vt451.length c459, Value.int .i64 x509, Value.pointer (some ⟨b536, of537 + (x509 : Int).toNat * 3, none⟩), Value.pointer (some ⟨b536, of537 + (x509 : Int).toNat * 3 + 2, none⟩), Value.bool ((rd vt451 x509).Unknown), Value.bool true, Value.bool true, Value.slice A458 vt451.length c459, Value.int .i64 x509, Value.pointer (some ⟨b536, of537 + (x509 : Int).toNat * 3, none⟩), (ag_Bound (rd vt451 x509)), Value.slice A72 vt65.length c73, Value.int .i64 x509, Value.pointer (some ⟨b543, of544 + (x509 : Int).toNat * 1, none⟩), Value.int .i64 (rd vt65 x509), Value.bool vt546, Value.bool false, Value.bool false, Value.slice A116 vt108.length c117, Value.int .i64 x509, Value.pointer (some ⟨b559, of560 + (x509 : Int).toNat * 1, none⟩), Value.int .i64 (rd vt108 x509), Value.slice A72 vt65.length c73, Value.int .i64 x509, Value.pointer (some ⟨b543, of544 + (x509 : Int).toNat * 1, none⟩), Value.int .i64 (rd vt65 x509), Value.bool false, Value.bool false, Value.bool false, Value.slice A72 vt65.length c73, Value.int .i64 x509, Value.pointer (some ⟨b543, of544 + (x509 : Int).toNat * 1, none⟩), Value.int .i64 (rd vt65 x509), Value.pointer (some ⟨b38, 5, none⟩), Value.int .i64 vt16.Full, Value.bool false, Value.bool false, Value.bool false, Value.int .i64 (w64 (x509 + 1))].getD i_ undef), (L505.trans L549), HS551, h, kr⟩
                · have c539 : ¬ (¬ (((rd vt451 x509).Unknown) = true)) := c539
                  refine gateRwI 111 (x := (!((rd vt451 x509).Unknown))) (v := false) kr (congrArg (fun b_ => !b_) (show (rd vt451 x509).Unknown = true from (Decidable.of_not_not c539)) : (!((rd vt451 x509).Unknown)) = false) ?_
                  refine gateRwI 112 (x := (!((rd vt451 x509).Unknown))) (v := false) kr (congrArg (fun b_ => !b_) (show (rd vt451 x509).Unknown = true from (Decidable.of_not_not c539)) : (!((rd vt451 x509).Unknown)) = false) ?_
                  refine takeGL [7, 8, 9, 10, 11, 12, 13, 14, 15, 16, 17, 18, 19, 20, 21, 22, 23, 24, 25, 26, 27, 28, 29, 30, 31, 32, 33, 34, 35, 36, 37] (n := 31) (fuel := 0) #[true, true, true, true, true, true, true, true, true, true, true, true, true, true, true, true, true, true, true, true, true, true, true, true, true, true, true, true, true, true, true, true, true, true, true, true, true, true] rfl kr kr kr (fun ch_ a_ w_ q_ => (fun ch_ a_ w_ q_ => hnp ch_ a_ w_ (hp499 ch_ a_ w_ q_)) ch_ a_ w_ (hp523 ch_ a_ w_ q_)) (Sg.g0 (Sx.of [] (FM.le.refl _) HS530)) ?_
                  refine doneG kr ?_ _
                  refine hK528 _ _ ?_
                  refine condF kr ?_
                  refine wp_skip ?_
                  refine hn520 _ _ ?_
                  refine hK517 _ _ ?_
                  refine rl ?_
                  refine seqL2 kr ?_
                  refine nl ?_
                  refine hK502 n503 _ _ (Nat.lt_succ_self _) ?_
                  exact ⟨f504, (w64 (x509 + 1)), (fun i_ => [(j508 0), Value.int .i64 x509, Value.bool true, Value.int .i64 x509, Value.slice A458 vt451.length c459, Value.int .i64 x509, Value.pointer (some ⟨b536, of537 + (x509 : Int).toNat * 3, none⟩), Value.pointer (some ⟨b536, of537 + (x509 : Int).toNat * 3 + 2, none⟩), Value.bool ((rd vt451 x509).Unknown), Value.bool false, Value.bool false, undef, undef, undef, undef, undef, undef, undef, undef, undef, undef, undef, undef, undef, undef, undef, undef, undef, undef, undef, undef, undef, undef, undef, undef, undef, undef, undef, undef, undef, undef, Value.bool false, Value.int .i64 (w64 (x509 + 1))].getD i_ undef), L505, HS530, h, kr⟩
              · have c515 : ¬ (x509 < (vt65.length : Int)) := c515
                refine wpRwI 104 (x := (decide (x509 < (vt65.length : Int)))) (v := false) kr (decide_eq_false c515) ?_
                refine condF kr ?_
                refine wp_exit ?_
                refine hx495 _ _ ?_
                exact J575 f504 (fun i_ => [(j508 0), (j508 1), Value.int .i64 x509, Value.bool false, (j508 3), (j508 4), (j508 5), (j508 6), (j508 7), (j508 8), (j508 9), (j508 10), (j508 11), (j508 12), (j508 13), (j508 14), (j508 15), (j508 16), (j508 17), (j508 18), (j508 19), (j508 20), (j508 21), (j508 22), (j508 23), (j508 24), (j508 25), (j508 26), (j508 27), (j508 28), (j508 29), (j508 30), (j508 31), (j508 32), (j508 33), (j508 34), (j508 35), (j508 36), (j508 37), (j508 38), (j508 39), (j508 40), (j508 41), (j508 42)].getD i_ undef) W506 _ L505 h HS507 kr
         clear h; have h := hv380; clear hv380
         have HS383 := HS189.cons_nil
         refine loopK (fun n_ a_ w_ => ∃ (f295 : FM) (A301 : Option Addr) (c302 : Nat) (s303 : Seg) (bias300 : List S_Bound) (x306 : Int) (x307 : Int) (j299 : Nat → Value), FM.le f186 f295 ∧ St t w_ f295 (s303 :: s25 :: s30 :: s35 :: s118 :: s165 :: s74 :: [(b10, .cells #[.slice A2 l1.length c3, .int .i64 x307] 26 (0, 0))] :: [(b38, .cells #[.int .i64 vt16.W, .int .i64 vt16.H, .slice A23 vt16.Bias.length c24, .slice A28 vt16.Dark.length c29, .slice A33 vt16.Flat.length c34, .int .i64 vt16.Full, .int .i64 vt16.Gain, .int .i64 vt16.Noise] 30 (0, 0))] :: H) ∧ Own ty_Bound 43 f295 A301 c302 s303 bias300 ∧ spykeep3_MasterKeeps.l0 k vt16 l1 n_ bias300 x306 x307 = some o291 ∧ a_ = ⟨#[.slice A2 l1.length c3, .int .u64 seed5, uV, uV, fV, pV b10 0, pV b38 0, .slice A72 vt65.length c73, .slice A116 vt108.length c117, iV vt109, iV vt110, .slice A163 vt156.length c164, iV vt157, .slice A301 bias300.length c302, uV, (j299 0), uV, uV, uV, .slice A2 l1.length c3, .agg #[.slice A2 l1.length c3, iV 0], pV b10 0, pV b10 0, (ag_Sensor vt16 A23 c24 A28 c29 A33 c34), pV b10 0, (ag_Sensor vt16 A23 c24 A28 c29 A33 c34), .slice A72 vt65.length c73, .tuple #[.slice A116 vt108.length c117, iV vt109, iV vt110], (ag_Sensor vt16 A23 c24 A28 c29 A33 c34), .slice A72 vt65.length c73, .tuple #[.slice A116 vt108.length c117, iV vt109, iV vt110], .slice A116 vt108.length c117, iV vt109, iV vt110, .tuple #[.slice A163 vt156.length c164, iV vt157], (ag_Sensor vt16 A23 c24 A28 c29 A33 c34), .int .u64 seed5, .slice A116 vt108.length c117, .tuple #[.slice A163 vt156.length c164, iV vt157], .slice A163 vt156.length c164, iV vt157, .bool vt184, fV, fV, iV vt110, fV, fV, fV, iV vt157, fV, fV, fV, .slice A116 vt108.length c117, iV (vt108.length : Int), .slice A72 vt65.length c73, iV (vt65.length : Int), fV, fV, pV b38 2, .slice A23 vt16.Bias.length c24, iV (vt16.Bias.length : Int), iV x306, (j299 1), (j299 2), (j299 3), (j299 4), (j299 5), (j299 6), (j299 7), (j299 8), (j299 9), (j299 10), (j299 11), (j299 12), (j299 13), (j299 14), (j299 15), (j299 16), (j299 17), uV, uV, uV, uV, uV, uV, uV, uV, uV, uV, uV, uV, uV, uV, uV, uV, uV, uV, uV, uV, uV, uV, uV, uV, uV, uV, uV, uV, uV, uV, uV, uV, uV, uV, uV, uV, uV, uV, uV, uV, uV, uV, uV, uV, uV, uV, uV, uV, uV, uV, uV, uV, uV, uV, uV, uV, uV, uV, uV, uV, uV, uV, uV, uV, uV, uV], []⟩) k ⟨f186, none, 0, [], ([] : List S_Bound), 0, vt66, (fun i_ => [undef, undef, undef, undef, undef, undef, undef, undef, undef, undef, undef, undef, undef, undef, undef, undef, undef, undef].getD i_ undef), (FM.le.refl _), HS383, (Own.nil _), h, kr⟩ ?_
         clear h
         rintro n294 _ W297 ⟨f295, A301, c302, s303, bias300, x306, x307, j299, L296, HS298, HO304, h, rfl⟩ K292 hK293
         obtain _ | n294 := n294
         · exact nomatch h
         simp only [spykeep3_MasterKeeps.l0] at h
         refine wp_seq_k fun K308 hK309 => rl ?_
         refine seqL1 kr ?_
         refine nl (hK309 _ _ ?_)
         refine wp_seq_k (fun K310 hK311 => ?_)
         have hq_ := ite_some h; clear h; rcases hq_ with ⟨c313, h⟩ | ⟨c313, h⟩
         · have c313 : x306 < (vt16.Bias.length : Int) := c313
           refine wpRwI 62 (x := (decide (x306 < (vt16.Bias.length : Int)))) (v := true) kr (decide_eq_true c313) ?_
           refine condT kr ?_
           refine wp_skip ?_
           refine hK311 _ _ ?_
           refine wp_seq_k (fun K314 hK315 => ?_)
           refine blockK (fun B316 hx317 hn318 hr319 ho320 hp321 => ?_)
           refine wp_seq_k fun K323 hK324 => rl ?_
           have hq_ := guard_some h; clear h; obtain ⟨c325, h⟩ := hq_
           have c325 : 0 ≤ x306 := c325
           obtain ⟨b329, of330, cs326, hA331, hr327, hc328⟩ := (HO26.mono (L84.trans (L131.trans (L178.trans (L187.trans L296))))).at (i := x306) c325 c313
           obtain rfl := hr327
           refine seqK rfl (does_run (run_indexE hA331 (sz := 1) rfl Tryz.underlying22 kr (kv (.slice A23 vt16.Bias.length c24)) (kv (.int .i64 x306)) c325 c313 W297) ?_)
           refine seqK rfl (does_run (run_load rfl Tryz.underlying3 rfl (kv (.pointer (some ⟨b329, of330 + (x306 : Int).toNat * 1, none⟩))) ((hc328 HS298.u1) 0 (by decide))) ?_)
           refine seqL1 kr ?_
           refine nl (hK324 _ _ ?_)
           refine rl ?_
           have HS332 := HS298.u7
           have hq_ := bind_some h; clear h; obtain ⟨⟨vt333, vt334⟩, hc335, h⟩ := hq_
           refine seqL3 kr ?_
           refine seqK rfl (does_call (f := 10) (args := #[.pointer (some ⟨b10, 0, none⟩), .int .i64 3]) kr (spymake_Stream_Next.calls k b10 A2 c3 (⟨l1, x307⟩ : S_Stream) 3 HS332 (HR4.mono (L20.trans (L84.trans (L131.trans (L178.trans (L187.trans L296)))))) vt333 vt334 hc335) ?_)
           rintro _ W338 ⟨f336, rfl, L337, HS339⟩
           refine ⟨_, rfl, ?_⟩
           have hq_ := bind_some h; clear h; obtain ⟨⟨vt340, vt341⟩, hc342, h⟩ := hq_
           refine seqL4 kr ?_
           refine seqK rfl (does_call (f := 10) (args := #[.pointer (some ⟨b10, 0, none⟩), .int .i64 3]) kr (spymake_Stream_Next.calls k b10 A2 c3 (⟨l1, vt334⟩ : S_Stream) 3 HS339 (HR4.mono (L20.trans (L84.trans (L131.trans (L178.trans (L187.trans (L296.trans L337))))))) vt340 vt341 hc342) ?_)
           rintro _ W345 ⟨f343, rfl, L344, HS346⟩
           refine ⟨_, rfl, ?_⟩
           have hq_ := bind_some h; clear h; obtain ⟨vt347, hc348, h⟩ := hq_
           refine seqL1 kr ?_
           refine seqK rfl (does_call (f := 9) (args := #[.int .i64 (mx 0 (w64 ((rd vt16.Bias x306) - vt333))), .int .i64 (w64 ((rd vt16.Bias x306) + vt340))]) kr (bound_Of_Count.calls k (mx 0 (w64 ((rd vt16.Bias x306) - vt333))) (w64 ((rd vt16.Bias x306) + vt340)) HS346 vt347 hc348) ?_)
           rintro _ W351 ⟨f349, rfl, L350, HS352⟩
           refine ⟨_, rfl, ?_⟩
           refine seqK rfl (does_lit (e := ty_Bound) (E := 43) (vs := #[(0, Value.agg #[.int .i64 vt347.Lo, .int .i64 vt347.Hi, .bool vt347.Unknown])]) (cs := #[.int .i64 vt347.Lo, .int .i64 vt347.Hi, .bool vt347.Unknown]) (xs := ([vt347] : List S_Bound)) rfl Tryz.underlying40 kr kr ⟨[.int .i64 vt347.Lo, .int .i64 vt347.Hi, .bool vt347.Unknown], _, rfl, rfl, rfl⟩ rfl HS352 ?_ (by decide))
           intro b353 W354 s355 HS356 _ HO357
           have hq_ := guard_some h; clear h; obtain ⟨c359, h⟩ := hq_
           have c359 : (bias300.length + 1) * 24 ≤ 140737488355328 := c359
           have HS360 := HS356.u2
           have HS361 := HS360.u1
           refine seqK rfl (does_append1 (e := ty_Bound) (E := 43) (xs := bias300) (ys := ([vt347] : List S_Bound)) rfl (kv (.slice A301 bias300.length c302)) (kv (.slice (some ⟨b353, 0, none⟩) ([vt347] : List S_Bound).length 1)) Tryz.underlying40 inf43 (HO304.mono (L337.trans (L344.trans L350))) HO357 HS361 c359 (lim63 c359 (by decide)) ?_)
           intro A362 c363 s364 W365 HS366 HO367
           refine seqL1 kr ?_
           refine nl ?_
           refine hn318 _ _ ?_
           refine hK315 _ _ ?_
           refine rl ?_
           refine seqL2 kr ?_
           refine nl ?_
           refine hK293 n294 _ _ (Nat.lt_succ_self _) ?_
           have HS385 := HS366.u8
           have HS386 := HS385.u2
           have HS387 := HS386.u8
           have HS388 := HS387.u8
           have HS389 := HS388.u8
           have HS390 := HS389.u8
           have HS391 := HS390.u8
           have HS392 := HS391.u8
           have HS393 := HS392.u8
           exact ⟨f349, A362, c363, s364, (bias300 ++ ([vt347] : List S_Bound)), (w64 (x306 + 1)), vt341, (fun i_ => [Value.int .i64 (rd vt16.Bias x306), Value.bool true, Value.pointer (some ⟨b329, of330 + (x306 : Int).toNat * 1, none⟩), Value.int .i64 (rd vt16.Bias x306), Value.slice A301 bias300.length c302, Value.int .i64 (rd vt16.Bias x306), Value.pointer (some ⟨b10, 0, none⟩), Value.int .i64 vt333, Value.int .i64 (w64 ((rd vt16.Bias x306) - vt333)), Value.int .i64 (mx 0 (w64 ((rd vt16.Bias x306) - vt333))), Value.int .i64 (rd vt16.Bias x306), Value.pointer (some ⟨b10, 0, none⟩), Value.int .i64 vt340, Value.int .i64 (w64 ((rd vt16.Bias x306) + vt340)), (ag_Bound vt347), Value.slice (some ⟨b353, 0, none⟩) ([vt347] : List S_Bound).length 1, Value.slice A362 (bias300 ++ ([vt347] : List S_Bound)).length c363, Value.int .i64 (w64 (x306 + 1))].getD i_ undef), (L296.trans (L337.trans (L344.trans L350))), HS393, HO367, h, kr⟩
         · have c313 : ¬ (x306 < (vt16.Bias.length : Int)) := c313
           refine wpRwI 62 (x := (decide (x306 < (vt16.Bias.length : Int)))) (v := false) kr (decide_eq_false c313) ?_
           refine condF kr ?_
           refine wp_exit ?_
           refine hx210 _ _ ?_
           exact J381 f295 A301 c302 s303 bias300 x307 (fun i_ => [(j299 0), Value.int .i64 x306, Value.bool false, (j299 2), (j299 3), (j299 4), (j299 5), (j299 6), (j299 7), (j299 8), (j299 9), (j299 10), (j299 11), (j299 12), (j299 13), (j299 14), (j299 15), (j299 16), (j299 17)].getD i_ undef) W297 _ L296 h HS298 HO304 kr

end Go.Sp.K3
