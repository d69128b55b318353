import Derived.Test.YtpdemjoehkgohaaProg
import Derived.Test.YtpdemjoehkgohaaSpCopy
import Derived.Test.YtpdemjoehkgohaaFD3
import Derived.Test.YtpdemjoehkgohaaSpSort
import Derived.Test.YtpdemjoehkgohaaShelf
import Derived.Test.YtpdemjoehkgohaaSpMapR
import Derived.Test.YtpdemjoehkgohaaSpKeys
import Derived.Test.YtpdemjoehkgohaaKD3n0
import Derived.Test.YtpdemjoehkgohaaKD3n1
import Derived.Test.YtpdemjoehkgohaaKD3n2
import Derived.Test.YtpdemjoehkgohaaKD3n3
import Derived.Test.YtpdemjoehkgohaaKD3n4
import Derived.Test.YtpdemjoehkgohaaKD3n5
import Derived.Test.YtpdemjoehkgohaaKD3n6
namespace Go.Sp.D3
open Go Go.Sp Go.Proofs
set_option linter.unusedVariables false
attribute [local irreducible] wpList AnyL Code.wp Calls Does
set_option maxRecDepth 100000 in
set_option maxHeartbeats 4000000 in
theorem catalog_replay.calls (k : Nat) (A2 : Option Addr) (c3 : Nat) (c1 : S_Catalog) (versions5 : Int) {t w : World} {f : FM} {H : List Seg} (HS : St t w f (H)) (HR4 : SlR (tSl ty_Change) f A2 c3 c1.Commits) (rr1 : List (Int × S_Row)) (rr2 : Int) (h : catalog_replay k c1 versions5 = some (rr1, rr2)) :
    Calls Try.prog 30 #[.agg #[.slice A2 c1.Commits.length c3], .int .i64 versions5] w (fun e w' => ∃ (g : FM) (A169 : Option Addr) (c170 : Nat) (s171 : Seg), e = .returned (Value.tuple #[.map (mb A169), .int .i64 rr2]) ∧ FM.le f g ∧ St t w' g (s171 :: H) ∧ OwnM (mty ty_Row) 100085 g A169 c170 s171 rr1) := by
  unfold catalog_replay at h
  refine enter Try.func30 rfl (tm := #[.agg #[.slice A2 c1.Commits.length c3], iV versions5, uV, uV, uV, uV, uV, uV, uV, uV, uV, uV, uV, uV, uV, uV, uV, uV, uV, uV, uV, uV, uV, uV, uV, uV, uV, uV, uV, uV, uV, uV, uV, uV]) (by kernel_rfl) ?_
  intro B hret hnor hnp
  refine wp_seq_k (fun K6 hK7 => ?_)
  refine wp_region_lit ?_
  refine seqK rfl (does_box (cs := #[.slice A2 c1.Commits.length c3]) rfl (by kernel_rfl : _ = Value.agg #[.slice A2 c1.Commits.length c3]) rfl HS ?_)
  intro b8 W9 HS10
  refine seqS2 (a' := ⟨#[.agg #[.slice A2 c1.Commits.length c3], iV versions5, .pointer (some ⟨b8, 0, none⟩), uV, .map none, iV 0, uV, uV, uV, uV, uV, uV, uV, uV, uV, uV, uV, uV, uV, uV, uV, uV, uV, uV, uV, uV, uV, uV, uV, uV, uV, uV, uV, uV], []⟩) (by kernel_rfl) ?_
  refine wpList_nil ?_
  refine hK7 _ _ ?_
  refine wp_seq_k (fun K12 hK13 => ?_)
  refine wp_region_lit ?_
  refine seqK rfl (does_makeMapR (mty ty_Row) 100085 rfl HS10 ?_)
  intro b14 W15 s16 HS17 HO18
  refine seqS1 (a' := ⟨#[.agg #[.slice A2 c1.Commits.length c3], iV versions5, .pointer (some ⟨b8, 0, none⟩), uV, .map none, iV 0, .map (mb (some ⟨b14, 0, none⟩)), uV, uV, uV, .map (mb (some ⟨b14, 0, none⟩)), uV, uV, uV, uV, uV, uV, uV, uV, uV, uV, uV, uV, uV, uV, uV, uV, uV, uV, uV, uV, uV, uV, uV], []⟩) (by kernel_rfl) ?_
  refine wpList_nil ?_
  refine hK13 _ _ ?_
  refine wp_seq_k (fun K20 hK21 => ?_)
  refine wp_seq_k (fun K22 hK23 => ?_)
  refine wp_region_lit ?_
  refine seqL1 (by kernel_rfl) ?_
  refine seqK rfl (does_run (run_load rfl Try.underlying32 rfl (by kernel_rfl : _ = Value.pointer (some ⟨b8, 0, none⟩)) (HS17.u1.cell 0)) ?_)
  refine seqS2 (a' := ⟨#[.agg #[.slice A2 c1.Commits.length c3], iV versions5, .pointer (some ⟨b8, 0, none⟩), uV, .map none, iV 0, .map (mb (some ⟨b14, 0, none⟩)), uV, uV, uV, .map (mb (some ⟨b14, 0, none⟩)), .pointer (some ⟨b8, 0, none⟩), .slice A2 c1.Commits.length c3, iV (c1.Commits.length : Int), .bool (decide ((c1.Commits.length : Int) > 32)), uV, uV, uV, uV, uV, uV, uV, uV, uV, uV, uV, uV, uV, uV, uV, uV, uV, uV, uV], []⟩) (by kernel_rfl) ?_
  refine wpList_nil ?_
  refine hK23 _ _ ?_
  have hq_ := ite_some h; clear h; rcases hq_ with ⟨c25, h⟩ | ⟨c25, h⟩
  · have c25 : (c1.Commits.length : Int) > 32 := c25
    refine wpRwI 14 (x := (decide ((c1.Commits.length : Int) > 32))) (v := true) (by kernel_rfl) (decide_eq_true c25) ?_
    refine condT (by kernel_rfl) ?_
    refine wp_seq_k (fun K26 hK27 => ?_)
    refine wp_region_lit ?_
    refine seqS3 (a' := ⟨#[.agg #[.slice A2 c1.Commits.length c3], iV versions5, .pointer (some ⟨b8, 0, none⟩), uV, .map (mb (some ⟨b14, 0, none⟩)), iV 2, .map (mb (some ⟨b14, 0, none⟩)), uV, uV, uV, .map (mb (some ⟨b14, 0, none⟩)), .pointer (some ⟨b8, 0, none⟩), .slice A2 c1.Commits.length c3, iV (c1.Commits.length : Int), .bool true, .map (mb (some ⟨b14, 0, none⟩)), uV, uV, uV, uV, uV, uV, uV, uV, uV, uV, uV, uV, uV, uV, uV, uV, uV, uV], []⟩) (by kernel_rfl) ?_
    refine wpList_nil ?_
    refine hK27 _ _ ?_
    refine wp_ret ?_
    refine hret _ _ ?_
    refine ends_still (v := Value.tuple #[.map (mb (some ⟨b14, 0, none⟩)), .int .i64 2]) (by kernel_rfl) (by kernel_rfl) ?_
    have HS163 := HS17.u1
    have HS164 := HS163.drop
    injection h with h
    injection h with h0_ h
    subst h0_ h
    exact ⟨f, (some ⟨b14, 0, none⟩), 0, s16, rfl, FM.le.refl _, HS164, HO18⟩
  · have c25 : ¬ ((c1.Commits.length : Int) > 32) := c25
    refine wpRwI 14 (x := (decide ((c1.Commits.length : Int) > 32))) (v := false) (by kernel_rfl) (decide_eq_false c25) ?_
    refine condF (by kernel_rfl) ?_
    refine wp_skip ?_
    refine hK21 _ _ ?_
    refine wp_seq_k (fun K28 hK29 => ?_)
    refine wp_seq_k (fun K30 hK31 => ?_)
    refine wp_region_lit ?_
    refine seqL1 (by kernel_rfl) ?_
    refine seqK rfl (does_run (run_load rfl Try.underlying32 rfl (by kernel_rfl : _ = Value.pointer (some ⟨b8, 0, none⟩)) (HS17.u1.cell 0)) ?_)
    have hq_ := guard_some h; clear h; obtain ⟨c32, h⟩ := hq_
    have c32 : 0 ≤ versions5 := c32
    have hq_ := guard_some h; clear h; obtain ⟨c33, h⟩ := hq_
    have c33 : versions5 ≤ (c1.Commits.length : Int) := c33
    refine seqL1 (by kernel_rfl) ?_
    refine seqK rfl (does_run (run_cutH (e := (tSl ty_Change)) (xs := c1.Commits) rfl Try.underlying32 (by kernel_rfl) (by kernel_rfl : _ = Value.slice A2 c1.Commits.length c3) (by kernel_rfl : _ = Value.int .i64 versions5) c32 c33 HR4.le W15) ?_)
    refine seqS2 (a' := ⟨#[.agg #[.slice A2 c1.Commits.length c3], iV versions5, .pointer (some ⟨b8, 0, none⟩), uV, .map none, iV 0, .map (mb (some ⟨b14, 0, none⟩)), uV, uV, uV, .map (mb (some ⟨b14, 0, none⟩)), .pointer (some ⟨b8, 0, none⟩), .slice A2 c1.Commits.length c3, iV (c1.Commits.length : Int), .bool false, uV, .pointer (some ⟨b8, 0, none⟩), .slice A2 c1.Commits.length c3, iV versions5, .slice A2 (c1.Commits.take (versions5).toNat).length c3, iV ((c1.Commits.take (versions5).toNat).length : Int), iV 0, uV, uV, uV, uV, uV, uV, uV, uV, uV, uV, uV, uV], []⟩) (by kernel_rfl) ?_
    refine wpList_nil ?_
    refine hK31 _ _ ?_
    refine blockK (fun B34 hx35 hn36 hr37 ho38 hp39 => ?_)
    have hq_ := bind_some h; clear h; obtain ⟨o93, hv157, h⟩ := hq_
    have JR159 : ∀ z_, some (Sum.inl z_) = some o93 → some z_ = some (rr1, rr2) := by
      intro z_ e_; injection e_ with e_; subst e_; exact h
    have J158 : ∀ (f149 : FM) (s155 : Seg) (s154 : List (Int × S_Row)) (j153 : Nat → Value) (W151 : World) (a_ : Act), FM.le f f149 → some (Sum.inr s154) = some o93 → St t W151 f149 (s155 :: [(b8, .cells #[.slice A2 c1.Commits.length c3] 34 (0, 0))] :: H) → OwnM (mty ty_Row) 100085 f149 (some ⟨b14, 0, none⟩) 0 s155 s154 → a_ = ⟨#[.agg #[.slice A2 c1.Commits.length c3], iV versions5, .pointer (some ⟨b8, 0, none⟩), uV, (j153 0), (j153 1), .map (mb (some ⟨b14, 0, none⟩)), uV, (j153 2), (j153 3), (j153 4), .pointer (some ⟨b8, 0, none⟩), .slice A2 c1.Commits.length c3, iV (c1.Commits.length : Int), .bool false, uV, .pointer (some ⟨b8, 0, none⟩), .slice A2 c1.Commits.length c3, iV versions5, .slice A2 (c1.Commits.take (versions5).toNat).length c3, iV ((c1.Commits.take (versions5).toNat).length : Int), (j153 5), (j153 6), (j153 7), (j153 8), (j153 9), (j153 10), (j153 11), (j153 12), (j153 13), (j153 14), (j153 15), (j153 16), uV], []⟩ → K28 a_ W151 := by
      intro f149 s155 s154 j153 W151 a_ L150 hj160 HS152 HO156 hfr_; subst hfr_
      injection hj160 with hj160; subst hj160; try dsimp only at h
      simp only [Sum.elim_inr] at h
      refine hK29 _ _ ?_
      refine wp_seq_k (fun K161 hK162 => ?_)
      refine wp_region_lit ?_
      refine seqS3 (a' := ⟨#[.agg #[.slice A2 c1.Commits.length c3], iV versions5, .pointer (some ⟨b8, 0, none⟩), uV, .map (mb (some ⟨b14, 0, none⟩)), iV 0, .map (mb (some ⟨b14, 0, none⟩)), uV, (j153 2), (j153 3), (j153 4), .pointer (some ⟨b8, 0, none⟩), .slice A2 c1.Commits.length c3, iV (c1.Commits.length : Int), .bool false, uV, .pointer (some ⟨b8, 0, none⟩), .slice A2 c1.Commits.length c3, iV versions5, .slice A2 (c1.Commits.take (versions5).toNat).length c3, iV ((c1.Commits.take (versions5).toNat).length : Int), (j153 5), (j153 6), (j153 7), (j153 8), (j153 9), (j153 10), (j153 11), (j153 12), (j153 13), (j153 14), (j153 15), (j153 16), .map (mb (some ⟨b14, 0, none⟩))], []⟩) (by kernel_rfl) ?_
      refine wpList_nil ?_
      refine hK162 _ _ ?_
      refine wp_ret ?_
      refine hret _ _ ?_
      refine ends_still (v := Value.tuple #[.map (mb (some ⟨b14, 0, none⟩)), .int .i64 0]) (by kernel_rfl) (by kernel_rfl) ?_
      have HS167 := HS152.u1
      have HS168 := HS167.drop
      injection h with h
      injection h with h0_ h
      subst h0_ h
      exact ⟨f149, (some ⟨b14, 0, none⟩), 0, s155, rfl, L150, HS168, HO156⟩
    clear h; have h := hv157; clear hv157
    refine loopK (fun n_ a_ w_ => ∃ (f97 : FM) (s103 : Seg) (s102 : List (Int × S_Row)) (x105 : Int) (j101 : Nat → Value), FM.le f f97 ∧ St t w_ f97 (s103 :: [(b8, .cells #[.slice A2 c1.Commits.length c3] 34 (0, 0))] :: H) ∧ OwnM (mty ty_Row) 100085 f97 (some ⟨b14, 0, none⟩) 0 s103 s102 ∧ catalog_replay.l0 k c1 versions5 n_ s102 x105 = some o93 ∧ a_ = ⟨#[.agg #[.slice A2 c1.Commits.length c3], iV versions5, .pointer (some ⟨b8, 0, none⟩), uV, (j101 0), (j101 1), .map (mb (some ⟨b14, 0, none⟩)), uV, (j101 2), (j101 3), .map (mb (some ⟨b14, 0, none⟩)), .pointer (some ⟨b8, 0, none⟩), .slice A2 c1.Commits.length c3, iV (c1.Commits.length : Int), .bool false, uV, .pointer (some ⟨b8, 0, none⟩), .slice A2 c1.Commits.length c3, iV versions5, .slice A2 (c1.Commits.take (versions5).toNat).length c3, iV ((c1.Commits.take (versions5).toNat).length : Int), iV x105, (j101 4), (j101 5), (j101 6), (j101 7), (j101 8), (j101 9), (j101 10), (j101 11), (j101 12), (j101 13), (j101 14), uV], []⟩) k ⟨f, s16, ([] : List (Int × S_Row)), 0, (fun i_ => [Value.map none, Value.int .i64 0, undef, undef, undef, undef, undef, undef, undef, undef, undef, undef, undef, undef, undef].getD i_ undef), (FM.le.refl _), HS17, HO18, h, (by kernel_rfl)⟩ ?_
    clear h
    rintro n96 _ W99 ⟨f97, s103, s102, x105, j101, L98, HS100, HO104, h, rfl⟩ K94 hK95
    obtain _ | n96 := n96
    · exact nomatch h
    simp only [catalog_replay.l0] at h
    refine wp_seq_k (fun K106 hK107 => ?_)
    refine wp_region_lit ?_
    refine seqS1 (a' := ⟨#[.agg #[.slice A2 c1.Commits.length c3], iV versions5, .pointer (some ⟨b8, 0, none⟩), uV, (j101 0), (j101 1), .map (mb (some ⟨b14, 0, none⟩)), uV, (j101 2), (j101 3), .map (mb (some ⟨b14, 0, none⟩)), .pointer (some ⟨b8, 0, none⟩), .slice A2 c1.Commits.length c3, iV (c1.Commits.length : Int), .bool false, uV, .pointer (some ⟨b8, 0, none⟩), .slice A2 c1.Commits.length c3, iV versions5, .slice A2 (c1.Commits.take (versions5).toNat).length c3, iV ((c1.Commits.take (versions5).toNat).length : Int), iV x105, .bool (decide (x105 < ((c1.Commits.take (versions5).toNat).length : Int))), (j101 5), (j101 6), (j101 7), (j101 8), (j101 9), (j101 10), (j101 11), (j101 12), (j101 13), (j101 14), uV], []⟩) (by kernel_rfl) ?_
    refine wpList_nil ?_
    refine hK107 _ _ ?_
    refine wp_seq_k (fun K108 hK109 => ?_)
    have hq_ := ite_some h; clear h; rcases hq_ with ⟨c111, h⟩ | ⟨c111, h⟩
    · have c111 : x105 < ((c1.Commits.take (versions5).toNat).length : Int) := c111
      refine wpRwI 22 (x := (decide (x105 < ((c1.Commits.take (versions5).toNat).length : Int)))) (v := true) (by kernel_rfl) (decide_eq_true c111) ?_
      refine condT (by kernel_rfl) ?_
      refine wp_skip ?_
      refine hK109 _ _ ?_
      refine wp_seq_k (fun K112 hK113 => ?_)
      refine blockK (fun B114 hx115 hn116 hr117 ho118 hp119 => ?_)
      refine wp_seq_k (fun K121 hK122 => ?_)
      refine wp_region_lit ?_
      have hq_ := guard_some h; clear h; obtain ⟨c123, h⟩ := hq_
      have c123 : 0 ≤ x105 := c123
      obtain ⟨b127, of128, cs124, hA129, hr125, hc126⟩ := ((HR4.take (versions5).toNat).mono L98).at (i := x105) c123 c111
      obtain ⟨A130, c130, rfl, HR130⟩ := hr125
      refine seqK rfl (does_run (run_indexE hA129 (sz := 1) rfl Try.underlying32 (by kernel_rfl) (by kernel_rfl : _ = Value.slice A2 (c1.Commits.take (versions5).toNat).length c3) (by kernel_rfl : _ = Value.int .i64 x105) c123 c111 W99) ?_)
      refine seqK rfl (does_run (run_load rfl Try.underlying28 rfl (by kernel_rfl : _ = Value.pointer (some ⟨b127, of128 + (x105 : Int).toNat * 1, none⟩)) ((hc126 (FM.le.refl _) HS100) 0 (by decide))) ?_)
      refine seqS1 (a' := ⟨#[.agg #[.slice A2 c1.Commits.length c3], iV versions5, .pointer (some ⟨b8, 0, none⟩), uV, (j101 0), (j101 1), .map (mb (some ⟨b14, 0, none⟩)), uV, .slice A130 (rd (c1.Commits.take (versions5).toNat) x105).length c130, (j101 3), .map (mb (some ⟨b14, 0, none⟩)), .pointer (some ⟨b8, 0, none⟩), .slice A2 c1.Commits.length c3, iV (c1.Commits.length : Int), .bool false, uV, .pointer (some ⟨b8, 0, none⟩), .slice A2 c1.Commits.length c3, iV versions5, .slice A2 (c1.Commits.take (versions5).toNat).length c3, iV ((c1.Commits.take (versions5).toNat).length : Int), iV x105, .bool true, .pointer (some ⟨b127, of128 + (x105 : Int).toNat * 1, none⟩), .slice A130 (rd (c1.Commits.take (versions5).toNat) x105).length c130, (j101 7), (j101 8), (j101 9), (j101 10), (j101 11), (j101 12), (j101 13), (j101 14), uV], []⟩) (by kernel_rfl) ?_
      refine wpList_nil ?_
      refine hK122 _ _ ?_
      refine wp_seq_k (fun K131 hK132 => ?_)
      refine wp_region_lit ?_
      have hq_ := bind_some h; clear h; obtain ⟨⟨vt133, vt134⟩, hc135, h⟩ := hq_
      refine seqL2 (by kernel_rfl) ?_
      refine seqK rfl (does_call (f := 31) (args := #[.map (mb (some ⟨b14, 0, none⟩)), .slice A130 (rd (c1.Commits.take (versions5).toNat) x105).length c130]) (by kernel_rfl) (catalog_state_apply.calls k (some ⟨b14, 0, none⟩) 0 s103 A130 c130 s102 (rd (c1.Commits.take (versions5).toNat) x105) HS100 HO104 HR130 vt133 vt134 hc135) ?_)
      rintro _ W138 ⟨f136, s140, rfl, L137, HS139, HO141, HL142⟩
      refine ⟨_, rfl, ?_⟩
      refine seqS1 (a' := ⟨#[.agg #[.slice A2 c1.Commits.length c3], iV versions5, .pointer (some ⟨b8, 0, none⟩), uV, (j101 0), (j101 1), .map (mb (some ⟨b14, 0, none⟩)), uV, .slice A130 (rd (c1.Commits.take (versions5).toNat) x105).length c130, iV vt133, .map (mb (some ⟨b14, 0, none⟩)), .pointer (some ⟨b8, 0, none⟩), .slice A2 c1.Commits.length c3, iV (c1.Commits.length : Int), .bool false, uV, .pointer (some ⟨b8, 0, none⟩), .slice A2 c1.Commits.length c3, iV versions5, .slice A2 (c1.Commits.take (versions5).toNat).length c3, iV ((c1.Commits.take (versions5).toNat).length : Int), iV x105, .bool true, .pointer (some ⟨b127, of128 + (x105 : Int).toNat * 1, none⟩), .slice A130 (rd (c1.Commits.take (versions5).toNat) x105).length c130, .map (mb (some ⟨b14, 0, none⟩)), .slice A130 (rd (c1.Commits.take (versions5).toNat) x105).length c130, iV vt133, (j101 10), (j101 11), (j101 12), (j101 13), (j101 14), uV], []⟩) (by kernel_rfl) ?_
      refine wpList_nil ?_
      refine hK132 _ _ ?_
      refine wp_seq_k (fun K143 hK144 => ?_)
      refine wp_region_lit ?_
      refine seqS2 (a' := ⟨#[.agg #[.slice A2 c1.Commits.length c3], iV versions5, .pointer (some ⟨b8, 0, none⟩), uV, (j101 0), (j101 1), .map (mb (some ⟨b14, 0, none⟩)), uV, .slice A130 (rd (c1.Commits.take (versions5).toNat) x105).length c130, iV vt133, .map (mb (some ⟨b14, 0, none⟩)), .pointer (some ⟨b8, 0, none⟩), .slice A2 c1.Commits.length c3, iV (c1.Commits.length : Int), .bool false, uV, .pointer (some ⟨b8, 0, none⟩), .slice A2 c1.Commits.length c3, iV versions5, .slice A2 (c1.Commits.take (versions5).toNat).length c3, iV ((c1.Commits.take (versions5).toNat).length : Int), iV x105, .bool true, .pointer (some ⟨b127, of128 + (x105 : Int).toNat * 1, none⟩), .slice A130 (rd (c1.Commits.take (versions5).toNat) x105).length c130, .map (mb (some ⟨b14, 0, none⟩)), .slice A130 (rd (c1.Commits.take (versions5).toNat) x105).length c130, iV vt133, iV vt133, .bool (vt133 != 0), (j101 12), (j101 13), (j101 14), uV], []⟩) (by kernel_rfl) ?_
      refine wpList_nil ?_
      refine hK144 _ _ ?_
      have hq_ := ite_some h; clear h; rcases hq_ with ⟨c146, h⟩ | ⟨c146, h⟩
      · have c146 : vt133 ≠ 0 := c146
        refine wpRwI 29 (x := (vt133 != 0)) (v := true) (by kernel_rfl) (bne_iff_ne.mpr c146) ?_
        refine condT (by kernel_rfl) ?_
        refine wp_seq_k (fun K147 hK148 => ?_)
        refine wp_region_lit ?_
        refine seqS4 (a' := ⟨#[.agg #[.slice A2 c1.Commits.length c3], iV versions5, .pointer (some ⟨b8, 0, none⟩), uV, .map (mb (some ⟨b14, 0, none⟩)), iV vt133, .map (mb (some ⟨b14, 0, none⟩)), uV, .slice A130 (rd (c1.Commits.take (versions5).toNat) x105).length c130, iV vt133, .map (mb (some ⟨b14, 0, none⟩)), .pointer (some ⟨b8, 0, none⟩), .slice A2 c1.Commits.length c3, iV (c1.Commits.length : Int), .bool false, uV, .pointer (some ⟨b8, 0, none⟩), .slice A2 c1.Commits.length c3, iV versions5, .slice A2 (c1.Commits.take (versions5).toNat).length c3, iV ((c1.Commits.take (versions5).toNat).length : Int), iV x105, .bool true, .pointer (some ⟨b127, of128 + (x105 : Int).toNat * 1, none⟩), .slice A130 (rd (c1.Commits.take (versions5).toNat) x105).length c130, .map (mb (some ⟨b14, 0, none⟩)), .slice A130 (rd (c1.Commits.take (versions5).toNat) x105).length c130, iV vt133, iV vt133, .bool true, .map (mb (some ⟨b14, 0, none⟩)), iV vt133, (j101 14), uV], []⟩) (by kernel_rfl) ?_
        refine wpList_nil ?_
        refine hK148 _ _ ?_
        refine wp_ret ?_
        refine hr117 _ _ ?_
        refine hr37 _ _ ?_
        refine hret _ _ ?_
        refine ends_still (v := Value.tuple #[.map (mb (some ⟨b14, 0, none⟩)), .int .i64 vt133]) (by kernel_rfl) (by kernel_rfl) ?_
        have HS165 := HS139.u1
        have HS166 := HS165.drop
        replace h := JR159 _ h
        injection h with h
        injection h with h0_ h
        subst h0_ h
        exact ⟨f136, (some ⟨b14, 0, none⟩), 0, s140, rfl, (L98.trans L137), HS166, HO141⟩
      · have c146 : ¬ (vt133 ≠ 0) := c146
        refine wpRwI 29 (x := (vt133 != 0)) (v := false) (by kernel_rfl) (bne_eq_false_iff_eq.mpr (Decidable.of_not_not c146)) ?_
        refine condF (by kernel_rfl) ?_
        refine wp_skip ?_
        refine hn116 _ _ ?_
        refine hK113 _ _ ?_
        refine wp_region_lit ?_
        refine seqS2 (a' := ⟨#[.agg #[.slice A2 c1.Commits.length c3], iV versions5, .pointer (some ⟨b8, 0, none⟩), uV, (j101 0), (j101 1), .map (mb (some ⟨b14, 0, none⟩)), uV, .slice A130 (rd (c1.Commits.take (versions5).toNat) x105).length c130, iV vt133, .map (mb (some ⟨b14, 0, none⟩)), .pointer (some ⟨b8, 0, none⟩), .slice A2 c1.Commits.length c3, iV (c1.Commits.length : Int), .bool false, uV, .pointer (some ⟨b8, 0, none⟩), .slice A2 c1.Commits.length c3, iV versions5, .slice A2 (c1.Commits.take (versions5).toNat).length c3, iV ((c1.Commits.take (versions5).toNat).length : Int), iV (w64 (x105 + 1)), .bool true, .pointer (some ⟨b127, of128 + (x105 : Int).toNat * 1, none⟩), .slice A130 (rd (c1.Commits.take (versions5).toNat) x105).length c130, .map (mb (some ⟨b14, 0, none⟩)), .slice A130 (rd (c1.Commits.take (versions5).toNat) x105).length c130, iV vt133, iV vt133, .bool false, (j101 12), (j101 13), iV (w64 (x105 + 1)), uV], []⟩) (by kernel_rfl) ?_
        refine wpList_nil ?_
        refine hK95 n96 _ _ (Nat.lt_succ_self _) ?_
        exact ⟨f136, s140, vt134, (w64 (x105 + 1)), (fun i_ => [(j101 0), (j101 1), Value.slice A130 (rd (c1.Commits.take (versions5).toNat) x105).length c130, Value.int .i64 vt133, Value.bool true, Value.pointer (some ⟨b127, of128 + (x105 : Int).toNat * 1, none⟩), Value.slice A130 (rd (c1.Commits.take (versions5).toNat) x105).length c130, Value.map (mb (some ⟨b14, 0, none⟩)), Value.slice A130 (rd (c1.Commits.take (versions5).toNat) x105).length c130, Value.int .i64 vt133, Value.int .i64 vt133, Value.bool false, (j101 12), (j101 13), Value.int .i64 (w64 (x105 + 1))].getD i_ undef), (L98.trans L137), HS139, HO141, h, (by kernel_rfl)⟩
    · have c111 : ¬ (x105 < ((c1.Commits.take (versions5).toNat).length : Int)) := c111
      refine wpRwI 22 (x := (decide (x105 < ((c1.Commits.take (versions5).toNat).length : Int)))) (v := false) (by kernel_rfl) (decide_eq_false c111) ?_
      refine condF (by kernel_rfl) ?_
      refine wp_exit ?_
      refine hx35 _ _ ?_
      exact J158 f97 s103 s102 (fun i_ => [(j101 0), (j101 1), (j101 2), (j101 3), Value.map (mb (some ⟨b14, 0, none⟩)), Value.int .i64 x105, Value.bool false, (j101 5), (j101 6), (j101 7), (j101 8), (j101 9), (j101 10), (j101 11), (j101 12), (j101 13), (j101 14)].getD i_ undef) W99 _ L98 h HS100 HO104 (by kernel_rfl)

set_option maxRecDepth 100000 in
set_option maxHeartbeats 4000000 in
theorem catalog_Commit.calls (k : Nat) (A2 : Option Addr) (c3 : Nat) (A6 : Option Addr) (c7 : Nat) (c1 : S_Catalog) (l5 : List S_Change) {t w : World} {f : FM} {H : List Seg} (HS : St t w f (H)) (HR4 : SlR (tSl ty_Change) f A2 c3 c1.Commits) (HR8 : SlR ty_Change f A6 c7 l5) (rr1 : S_Catalog) (rr2 : Int) (rr3 : Int) (h : catalog_Commit k c1 l5 = some (rr1, rr2, rr3)) :
    Calls Try.prog 9 #[.agg #[.slice A2 c1.Commits.length c3], .slice A6 l5.length c7] w (fun e w' => ∃ (g : FM) (A363 : Option Addr) (c364 : Nat) (s365 : Seg), e = .returned (Value.tuple #[.agg #[.slice A363 rr1.Commits.length c364], .int .i64 rr2, .int .i64 rr3]) ∧ FM.le f g ∧ St t w' g (s365 :: H) ∧ Own (tSl ty_Change) 28 g A363 c364 s365 rr1.Commits) := by
  unfold catalog_Commit at h
  refine enter Try.func9 rfl (tm := #[.agg #[.slice A2 c1.Commits.length c3], .slice A6 l5.length c7, uV, uV, uV, uV, uV, uV, uV, uV, uV, uV, uV, uV, uV, uV, uV, uV, uV, uV, uV, uV, uV, uV, uV, uV, uV, uV, uV, uV, uV, uV, uV, uV, uV, uV, uV, uV, uV, uV, uV, uV, uV, uV, uV, uV, uV, uV, uV, uV, uV, uV, uV, uV, uV, uV, uV, uV, uV, uV, uV, uV, uV, uV, uV]) (by kernel_rfl) ?_
  intro B hret hnor hnp
  refine wp_seq_k (fun K9 hK10 => ?_)
  refine wp_region_lit ?_
  refine seqK rfl (does_box (cs := #[.slice A2 c1.Commits.length c3]) rfl (by kernel_rfl : _ = Value.agg #[.slice A2 c1.Commits.length c3]) rfl HS ?_)
  intro b11 W12 HS13
  refine seqK rfl (does_alloc (z := Value.agg #[.slice none 0 0]) (cs := #[.slice none 0 0]) rfl (by kernel_rfl) rfl HS13 ?_)
  intro b15 W16 HS17
  refine seqS2 (a' := ⟨#[.agg #[.slice A2 c1.Commits.length c3], .slice A6 l5.length c7, .pointer (some ⟨b11, 0, none⟩), uV, .pointer (some ⟨b15, 0, none⟩), iV 0, iV 0, uV, uV, uV, uV, uV, uV, uV, uV, uV, uV, uV, uV, uV, uV, uV, uV, uV, uV, uV, uV, uV, uV, uV, uV, uV, uV, uV, uV, uV, uV, uV, uV, uV, uV, uV, uV, uV, uV, uV, uV, uV, uV, uV, uV, uV, uV, uV, uV, uV, uV, uV, uV, uV, uV, uV, uV, uV, uV], []⟩) (by kernel_rfl) ?_
  refine wpList_nil ?_
  refine hK10 _ _ ?_
  refine wp_seq_k (fun K19 hK20 => ?_)
  refine wp_region_lit ?_
  refine seqK rfl (does_run (run_loadN (n := 1) rfl Try.underlying34 rfl (by kernel_rfl) (by kernel_rfl : _ = Value.pointer (some ⟨b11, 0, none⟩)) (cs := [.slice A2 c1.Commits.length c3]) rfl (HS17.u1.cells 0 1 _ rfl)) ?_)
  refine seqL1 (by kernel_rfl) ?_
  refine seqK rfl (does_run (run_load rfl Try.underlying32 rfl (by kernel_rfl : _ = Value.pointer (some ⟨b11, 0, none⟩)) (HS17.u1.cell 0)) ?_)
  have hq_ := bind_some h; clear h; obtain ⟨⟨vt21, vt22⟩, hc23, h⟩ := hq_
  refine seqL1 (by kernel_rfl) ?_
  refine seqK rfl (does_call (f := 30) (args := #[.agg #[.slice A2 c1.Commits.length c3], .int .i64 (c1.Commits.length : Int)]) (by kernel_rfl) (catalog_replay.calls k A2 c3 c1 (c1.Commits.length : Int) HS17 HR4 vt21 vt22 hc23) ?_)
  rintro _ W26 ⟨f24, A28, c29, s30, rfl, L25, HS27, HO31⟩
  refine ⟨_, rfl, ?_⟩
  refine seqS5 (a' := ⟨#[.agg #[.slice A2 c1.Commits.length c3], .slice A6 l5.length c7, .pointer (some ⟨b11, 0, none⟩), uV, .pointer (some ⟨b15, 0, none⟩), iV 0, iV 0, .map (mb A28), iV vt22, uV, uV, uV, uV, .tuple #[.map (mb A28), iV vt22], .agg #[.slice A2 c1.Commits.length c3], .pointer (some ⟨b11, 0, none⟩), .slice A2 c1.Commits.length c3, iV (c1.Commits.length : Int), .tuple #[.map (mb A28), iV vt22], .map (mb A28), iV vt22, uV, uV, uV, uV, uV, uV, uV, uV, uV, uV, uV, uV, uV, uV, uV, uV, uV, uV, uV, uV, uV, uV, uV, uV, uV, uV, uV, uV, uV, uV, uV, uV, uV, uV, uV, uV, uV, uV, uV, uV, uV, uV, uV, uV], []⟩) (by kernel_rfl) ?_
  refine wpList_nil ?_
  refine hK20 _ _ ?_
  refine wp_seq_k (fun K33 hK34 => ?_)
  refine blockK (fun B35 hx36 hn37 hr38 ho39 hp40 => ?_)
  refine wp_seq_k (fun K42 hK43 => ?_)
  refine wp_region_lit ?_
  refine seqS3 (a' := ⟨#[.agg #[.slice A2 c1.Commits.length c3], .slice A6 l5.length c7, .pointer (some ⟨b11, 0, none⟩), uV, .pointer (some ⟨b15, 0, none⟩), iV 0, iV 0, .map (mb A28), iV vt22, uV, uV, uV, uV, .tuple #[.map (mb A28), iV vt22], .agg #[.slice A2 c1.Commits.length c3], .pointer (some ⟨b11, 0, none⟩), .slice A2 c1.Commits.length c3, iV (c1.Commits.length : Int), .tuple #[.map (mb A28), iV vt22], .map (mb A28), iV vt22, .bool (vt22 != 0), iV vt22, .bool (vt22 != 0), uV, uV, uV, uV, uV, uV, uV, uV, uV, uV, uV, uV, uV, uV, uV, uV, uV, uV, uV, uV, uV, uV, uV, uV, uV, uV, uV, uV, uV, uV, uV, uV, uV, uV, uV, uV, uV, uV, uV, uV, uV], []⟩) (by kernel_rfl) ?_
  refine wpList_nil ?_
  refine hK43 _ _ ?_
  have hq_ := ite_some h; clear h; rcases hq_ with ⟨c45, h⟩ | ⟨c45, h⟩
  · have c45 : vt22 ≠ 0 := c45
    refine wpRwI 21 (x := (vt22 != 0)) (v := true) (by kernel_rfl) (bne_iff_ne.mpr c45) ?_
    refine wpRwI 23 (x := (vt22 != 0)) (v := true) (by kernel_rfl) (bne_iff_ne.mpr c45) ?_
    refine condT (by kernel_rfl) ?_
    refine wp_seq_k (fun K46 hK47 => ?_)
    refine wp_region_lit ?_
    have HS48 := HS27.u1
    refine seqL2 (by kernel_rfl) ?_
    refine seqK rfl (does_store (n := 1) (vs := [.slice none 0 0]) (cs' := #[.slice none 0 0]) rfl (by kernel_rfl) (by kernel_rfl : _ = Value.pointer (some ⟨b15, 0, none⟩)) (by kernel_rfl : _ = Value.agg #[.slice none 0 0]) rfl rfl (by intro u_ hu_; simp only [List.mem_cons, List.not_mem_nil, or_false] at hu_; subst hu_; rfl) HS48 (Nat.le_of_ble_eq_true rfl) (by kernel_rfl) ?_)
    intro W49 HS50
    refine seqS2 (a' := ⟨#[.agg #[.slice A2 c1.Commits.length c3], .slice A6 l5.length c7, .pointer (some ⟨b11, 0, none⟩), uV, .pointer (some ⟨b15, 0, none⟩), iV 0, iV vt22, .map (mb A28), iV vt22, uV, uV, uV, uV, .tuple #[.map (mb A28), iV vt22], .agg #[.slice A2 c1.Commits.length c3], .pointer (some ⟨b11, 0, none⟩), .slice A2 c1.Commits.length c3, iV (c1.Commits.length : Int), .tuple #[.map (mb A28), iV vt22], .map (mb A28), iV vt22, .bool true, iV vt22, .bool true, .agg #[.slice none 0 0], iV vt22, uV, uV, uV, uV, uV, uV, uV, uV, uV, uV, uV, uV, uV, uV, uV, uV, uV, uV, uV, uV, uV, uV, uV, uV, uV, uV, uV, uV, uV, uV, uV, uV, uV, uV, uV, uV, uV, uV, uV], []⟩) (by kernel_rfl) ?_
    refine wpList_nil ?_
    refine hK47 _ _ ?_
    refine wp_ret ?_
    refine hr38 _ _ ?_
    refine hret _ _ ?_
    have HS330 := HS50.cons_nil
    refine ends (v := Value.tuple #[.agg #[.slice none 0 0], .int .i64 0, .int .i64 vt22]) (results3 (q1 := .cell 4 34) (q2 := .tmp 5) (q3 := .tmp 6) (by kernel_rfl) (resN (n := 1) (cs := [.slice none 0 0]) (by kernel_rfl : _ = Value.pointer (some ⟨b15, 0, none⟩)) Try.underlying34 rfl (by kernel_rfl) rfl (HS330.u1.cells 0 1 _ rfl)) (resT (by kernel_rfl : _ = Value.int .i64 0)) (resT (by kernel_rfl : _ = Value.int .i64 vt22))) (by kernel_rfl) ?_
    have HS332 := HS330.u3
    have HS333 := HS332.u3
    have HS334 := HS333.u3
    have HS335 := HS334.drop
    have HS336 := HS335.drop
    have HS337 := HS336.drop
    injection h with h
    injection h with h0_ h
    injection h with h1_ h
    subst h0_ h1_ h
    exact ⟨f24, none, 0, [], rfl, L25, HS337, (Own.nil _)⟩
  · have c45 : ¬ (vt22 ≠ 0) := c45
    refine wpRwI 21 (x := (vt22 != 0)) (v := false) (by kernel_rfl) (bne_eq_false_iff_eq.mpr (Decidable.of_not_not c45)) ?_
    refine wpRwI 23 (x := (vt22 != 0)) (v := false) (by kernel_rfl) (bne_eq_false_iff_eq.mpr (Decidable.of_not_not c45)) ?_
    refine condF (by kernel_rfl) ?_
    refine wp_seq_k (fun K51 hK52 => ?_)
    refine wp_region_lit ?_
    refine seqL1 (by kernel_rfl) ?_
    refine seqK rfl (does_run (run_load rfl Try.underlying32 rfl (by kernel_rfl : _ = Value.pointer (some ⟨b11, 0, none⟩)) (HS27.u2.cell 0)) ?_)
    refine seqS3 (a' := ⟨#[.agg #[.slice A2 c1.Commits.length c3], .slice A6 l5.length c7, .pointer (some ⟨b11, 0, none⟩), uV, .pointer (some ⟨b15, 0, none⟩), iV 0, iV 0, .map (mb A28), iV vt22, uV, uV, uV, uV, .tuple #[.map (mb A28), iV vt22], .agg #[.slice A2 c1.Commits.length c3], .pointer (some ⟨b11, 0, none⟩), .slice A2 c1.Commits.length c3, iV (c1.Commits.length : Int), .tuple #[.map (mb A28), iV vt22], .map (mb A28), iV vt22, .bool false, iV vt22, .bool false, uV, uV, .bool ((c1.Commits.length : Int) == 32), .pointer (some ⟨b11, 0, none⟩), .slice A2 c1.Commits.length c3, iV (c1.Commits.length : Int), .bool ((c1.Commits.length : Int) == 32), uV, uV, uV, uV, uV, uV, uV, uV, uV, uV, uV, uV, uV, uV, uV, uV, uV, uV, uV, uV, uV, uV, uV, uV, uV, uV, uV, uV, uV, uV, uV, uV, uV, uV], []⟩) (by kernel_rfl) ?_
    refine wpList_nil ?_
    refine hK52 _ _ ?_
    have hq_ := ite_some h; clear h; rcases hq_ with ⟨c54, h⟩ | ⟨c54, h⟩
    · have c54 : (c1.Commits.length : Int) = 32 := c54
      refine wpRwI 26 (x := ((c1.Commits.length : Int) == 32)) (v := true) (by kernel_rfl) (beq_iff_eq.mpr c54) ?_
      refine wpRwI 30 (x := ((c1.Commits.length : Int) == 32)) (v := true) (by kernel_rfl) (beq_iff_eq.mpr c54) ?_
      refine condT (by kernel_rfl) ?_
      refine wp_seq_k (fun K55 hK56 => ?_)
      refine wp_region_lit ?_
      have HS57 := HS27.u1
      refine seqL1 (by kernel_rfl) ?_
      refine seqK rfl (does_store (n := 1) (vs := [.slice none 0 0]) (cs' := #[.slice none 0 0]) rfl (by kernel_rfl) (by kernel_rfl : _ = Value.pointer (some ⟨b15, 0, none⟩)) (by kernel_rfl : _ = Value.agg #[.slice none 0 0]) rfl rfl (by intro u_ hu_; simp only [List.mem_cons, List.not_mem_nil, or_false] at hu_; subst hu_; rfl) HS57 (Nat.le_of_ble_eq_true rfl) (by kernel_rfl) ?_)
      intro W58 HS59
      refine seqS2 (a' := ⟨#[.agg #[.slice A2 c1.Commits.length c3], .slice A6 l5.length c7, .pointer (some ⟨b11, 0, none⟩), uV, .pointer (some ⟨b15, 0, none⟩), iV 0, iV 9, .map (mb A28), iV vt22, uV, uV, uV, uV, .tuple #[.map (mb A28), iV vt22], .agg #[.slice A2 c1.Commits.length c3], .pointer (some ⟨b11, 0, none⟩), .slice A2 c1.Commits.length c3, iV (c1.Commits.length : Int), .tuple #[.map (mb A28), iV vt22], .map (mb A28), iV vt22, .bool false, iV vt22, .bool false, uV, uV, .bool true, .pointer (some ⟨b11, 0, none⟩), .slice A2 c1.Commits.length c3, iV (c1.Commits.length : Int), .bool true, .agg #[.slice none 0 0], uV, uV, uV, uV, uV, uV, uV, uV, uV, uV, uV, uV, uV, uV, uV, uV, uV, uV, uV, uV, uV, uV, uV, uV, uV, uV, uV, uV, uV, uV, uV, uV, uV], []⟩) (by kernel_rfl) ?_
      refine wpList_nil ?_
      refine hK56 _ _ ?_
      refine wp_ret ?_
      refine hr38 _ _ ?_
      refine hret _ _ ?_
      have HS338 := HS59.cons_nil
      refine ends (v := Value.tuple #[.agg #[.slice none 0 0], .int .i64 0, .int .i64 9]) (results3 (q1 := .cell 4 34) (q2 := .tmp 5) (q3 := .tmp 6) (by kernel_rfl) (resN (n := 1) (cs := [.slice none 0 0]) (by kernel_rfl : _ = Value.pointer (some ⟨b15, 0, none⟩)) Try.underlying34 rfl (by kernel_rfl) rfl (HS338.u1.cells 0 1 _ rfl)) (resT (by kernel_rfl : _ = Value.int .i64 0)) (resT (by kernel_rfl : _ = Value.int .i64 9))) (by kernel_rfl) ?_
      have HS340 := HS338.u3
      have HS341 := HS340.u3
      have HS342 := HS341.u3
      have HS343 := HS342.drop
      have HS344 := HS343.drop
      have HS345 := HS344.drop
      injection h with h
      injection h with h0_ h
      injection h with h1_ h
      subst h0_ h1_ h
      exact ⟨f24, none, 0, [], rfl, L25, HS345, (Own.nil _)⟩
    · have c54 : ¬ ((c1.Commits.length : Int) = 32) := c54
      refine wpRwI 26 (x := ((c1.Commits.length : Int) == 32)) (v := false) (by kernel_rfl) (beq_eq_false_iff_ne.mpr c54) ?_
      refine wpRwI 30 (x := ((c1.Commits.length : Int) == 32)) (v := false) (by kernel_rfl) (beq_eq_false_iff_ne.mpr c54) ?_
      refine condF (by kernel_rfl) ?_
      refine wp_skip ?_
      refine hn37 _ _ ?_
      refine hK34 _ _ ?_
      refine wp_seq_k (fun K60 hK61 => ?_)
      refine wp_seq_k (fun K62 hK63 => ?_)
      refine wp_region_lit ?_
      have hq_ := bind_some h; clear h; obtain ⟨⟨vt64, vt65⟩, hc66, h⟩ := hq_
      refine seqL2 (by kernel_rfl) ?_
      refine seqK rfl (does_call (f := 31) (args := #[.map (mb A28), .slice A6 l5.length c7]) (by kernel_rfl) (catalog_state_apply.calls k A28 c29 s30 A6 c7 vt21 l5 HS27 HO31 (HR8.mono L25) vt64 vt65 hc66) ?_)
      rintro _ W69 ⟨f67, s71, rfl, L68, HS70, HO72, HL73⟩
      refine ⟨_, rfl, ?_⟩
      refine seqS1 (a' := ⟨#[.agg #[.slice A2 c1.Commits.length c3], .slice A6 l5.length c7, .pointer (some ⟨b11, 0, none⟩), uV, .pointer (some ⟨b15, 0, none⟩), iV 0, iV 0, .map (mb A28), iV vt22, iV vt64, uV, uV, uV, .tuple #[.map (mb A28), iV vt22], .agg #[.slice A2 c1.Commits.length c3], .pointer (some ⟨b11, 0, none⟩), .slice A2 c1.Commits.length c3, iV (c1.Commits.length : Int), .tuple #[.map (mb A28), iV vt22], .map (mb A28), iV vt22, .bool false, iV vt22, .bool false, uV, uV, .bool false, .pointer (some ⟨b11, 0, none⟩), .slice A2 c1.Commits.length c3, iV (c1.Commits.length : Int), .bool false, uV, .map (mb A28), .slice A6 l5.length c7, iV vt64, uV, uV, uV, uV, uV, uV, uV, uV, uV, uV, uV, uV, uV, uV, uV, uV, uV, uV, uV, uV, uV, uV, uV, uV, uV, uV, uV, uV, uV, uV], []⟩) (by kernel_rfl) ?_
      refine wpList_nil ?_
      refine hK63 _ _ ?_
      refine wp_seq_k (fun K74 hK75 => ?_)
      refine wp_region_lit ?_
      refine seqS2 (a' := ⟨#[.agg #[.slice A2 c1.Commits.length c3], .slice A6 l5.length c7, .pointer (some ⟨b11, 0, none⟩), uV, .pointer (some ⟨b15, 0, none⟩), iV 0, iV 0, .map (mb A28), iV vt22, iV vt64, uV, uV, uV, .tuple #[.map (mb A28), iV vt22], .agg #[.slice A2 c1.Commits.length c3], .pointer (some ⟨b11, 0, none⟩), .slice A2 c1.Commits.length c3, iV (c1.Commits.length : Int), .tuple #[.map (mb A28), iV vt22], .map (mb A28), iV vt22, .bool false, iV vt22, .bool false, uV, uV, .bool false, .pointer (some ⟨b11, 0, none⟩), .slice A2 c1.Commits.length c3, iV (c1.Commits.length : Int), .bool false, uV, .map (mb A28), .slice A6 l5.length c7, iV vt64, iV vt64, .bool (vt64 != 0), uV, uV, uV, uV, uV, uV, uV, uV, uV, uV, uV, uV, uV, uV, uV, uV, uV, uV, uV, uV, uV, uV, uV, uV, uV, uV, uV, uV], []⟩) (by kernel_rfl) ?_
      refine wpList_nil ?_
      refine hK75 _ _ ?_
      have hq_ := ite_some h; clear h; rcases hq_ with ⟨c77, h⟩ | ⟨c77, h⟩
      · have c77 : vt64 ≠ 0 := c77
        refine wpRwI 36 (x := (vt64 != 0)) (v := true) (by kernel_rfl) (bne_iff_ne.mpr c77) ?_
        refine condT (by kernel_rfl) ?_
        refine wp_seq_k (fun K78 hK79 => ?_)
        refine wp_region_lit ?_
        have HS80 := HS70.u1
        refine seqL2 (by kernel_rfl) ?_
        refine seqK rfl (does_store (n := 1) (vs := [.slice none 0 0]) (cs' := #[.slice none 0 0]) rfl (by kernel_rfl) (by kernel_rfl : _ = Value.pointer (some ⟨b15, 0, none⟩)) (by kernel_rfl : _ = Value.agg #[.slice none 0 0]) rfl rfl (by intro u_ hu_; simp only [List.mem_cons, List.not_mem_nil, or_false] at hu_; subst hu_; rfl) HS80 (Nat.le_of_ble_eq_true rfl) (by kernel_rfl) ?_)
        intro W81 HS82
        refine seqS2 (a' := ⟨#[.agg #[.slice A2 c1.Commits.length c3], .slice A6 l5.length c7, .pointer (some ⟨b11, 0, none⟩), uV, .pointer (some ⟨b15, 0, none⟩), iV 0, iV vt64, .map (mb A28), iV vt22, iV vt64, uV, uV, uV, .tuple #[.map (mb A28), iV vt22], .agg #[.slice A2 c1.Commits.length c3], .pointer (some ⟨b11, 0, none⟩), .slice A2 c1.Commits.length c3, iV (c1.Commits.length : Int), .tuple #[.map (mb A28), iV vt22], .map (mb A28), iV vt22, .bool false, iV vt22, .bool false, uV, uV, .bool false, .pointer (some ⟨b11, 0, none⟩), .slice A2 c1.Commits.length c3, iV (c1.Commits.length : Int), .bool false, uV, .map (mb A28), .slice A6 l5.length c7, iV vt64, iV vt64, .bool true, .agg #[.slice none 0 0], iV vt64, uV, uV, uV, uV, uV, uV, uV, uV, uV, uV, uV, uV, uV, uV, uV, uV, uV, uV, uV, uV, uV, uV, uV, uV, uV, uV], []⟩) (by kernel_rfl) ?_
        refine wpList_nil ?_
        refine hK79 _ _ ?_
        refine wp_ret ?_
        refine hret _ _ ?_
        have HS346 := HS82.cons_nil
        refine ends (v := Value.tuple #[.agg #[.slice none 0 0], .int .i64 0, .int .i64 vt64]) (results3 (q1 := .cell 4 34) (q2 := .tmp 5) (q3 := .tmp 6) (by kernel_rfl) (resN (n := 1) (cs := [.slice none 0 0]) (by kernel_rfl : _ = Value.pointer (some ⟨b15, 0, none⟩)) Try.underlying34 rfl (by kernel_rfl) rfl (HS346.u1.cells 0 1 _ rfl)) (resT (by kernel_rfl : _ = Value.int .i64 0)) (resT (by kernel_rfl : _ = Value.int .i64 vt64))) (by kernel_rfl) ?_
        have HS348 := HS346.u3
        have HS349 := HS348.u3
        have HS350 := HS349.u3
        have HS351 := HS350.drop
        have HS352 := HS351.drop
        have HS353 := HS352.drop
        injection h with h
        injection h with h0_ h
        injection h with h1_ h
        subst h0_ h1_ h
        exact ⟨f67, none, 0, [], rfl, (L25.trans L68), HS353, (Own.nil _)⟩
      · have c77 : ¬ (vt64 ≠ 0) := c77
        refine wpRwI 36 (x := (vt64 != 0)) (v := false) (by kernel_rfl) (bne_eq_false_iff_eq.mpr (Decidable.of_not_not c77)) ?_
        refine condF (by kernel_rfl) ?_
        refine wp_skip ?_
        refine hK61 _ _ ?_
        refine wp_seq_k (fun K83 hK84 => ?_)
        refine wp_region_lit ?_
        refine seqK rfl (does_alloc (z := Value.agg #[.slice none 0 0]) (cs := #[.slice none 0 0]) rfl (by kernel_rfl) rfl HS70 ?_)
        intro b85 W86 HS87
        refine wpList_nil ?_
        refine hK84 _ _ ?_
        refine wp_seq_k (fun K89 hK90 => ?_)
        refine wp_seq_k (fun K91 hK92 => ?_)
        refine wp_region_lit ?_
        refine seqL1 (by kernel_rfl) ?_
        refine seqK rfl (does_run (run_load rfl Try.underlying32 rfl (by kernel_rfl : _ = Value.pointer (some ⟨b11, 0, none⟩)) (HS87.u3.cell 0)) ?_)
        refine seqS2 (a' := ⟨#[.agg #[.slice A2 c1.Commits.length c3], .slice A6 l5.length c7, .pointer (some ⟨b11, 0, none⟩), uV, .pointer (some ⟨b15, 0, none⟩), iV 0, iV 0, .map (mb A28), iV vt22, iV vt64, .pointer (some ⟨b85, 0, none⟩), uV, uV, .tuple #[.map (mb A28), iV vt22], .agg #[.slice A2 c1.Commits.length c3], .pointer (some ⟨b11, 0, none⟩), .slice A2 c1.Commits.length c3, iV (c1.Commits.length : Int), .tuple #[.map (mb A28), iV vt22], .map (mb A28), iV vt22, .bool false, iV vt22, .bool false, uV, uV, .bool false, .pointer (some ⟨b11, 0, none⟩), .slice A2 c1.Commits.length c3, iV (c1.Commits.length : Int), .bool false, uV, .map (mb A28), .slice A6 l5.length c7, iV vt64, iV vt64, .bool false, uV, uV, .pointer (some ⟨b11, 0, none⟩), .slice A2 c1.Commits.length c3, iV (c1.Commits.length : Int), iV 0, uV, uV, uV, uV, uV, uV, uV, uV, uV, uV, uV, uV, uV, uV, uV, uV, uV, uV, uV, uV, uV, uV], []⟩) (by kernel_rfl) ?_
        refine wpList_nil ?_
        refine hK92 _ _ ?_
        refine blockK (fun B93 hx94 hn95 hr96 ho97 hp98 => ?_)
        have hq_ := bind_some h; clear h; obtain ⟨o175, hv267, h⟩ := hq_
        have J268 : ∀ (f256 : FM) (A262 : Option Addr) (c263 : Nat) (s264 : Seg) (x261 : List (List S_Change)) (j260 : Nat → Value) (W258 : World) (a_ : Act), FM.le f67 f256 → some (x261) = some o175 → St t W258 f256 (s264 :: [(b85, .cells #[.slice A262 x261.length c263] 34 (0, 0))] :: s71 :: [(b15, .cells #[.slice none 0 0] 34 (0, 0))] :: [(b11, .cells #[.slice A2 c1.Commits.length c3] 34 (0, 0))] :: H) → Own (tSl ty_Change) 28 f256 A262 c263 s264 x261 → a_ = ⟨#[.agg #[.slice A2 c1.Commits.length c3], .slice A6 l5.length c7, .pointer (some ⟨b11, 0, none⟩), uV, .pointer (some ⟨b15, 0, none⟩), iV 0, iV 0, .map (mb A28), iV vt22, iV vt64, .pointer (some ⟨b85, 0, none⟩), uV, (j260 0), .tuple #[.map (mb A28), iV vt22], .agg #[.slice A2 c1.Commits.length c3], .pointer (some ⟨b11, 0, none⟩), .slice A2 c1.Commits.length c3, iV (c1.Commits.length : Int), .tuple #[.map (mb A28), iV vt22], .map (mb A28), iV vt22, .bool false, iV vt22, .bool false, uV, uV, .bool false, .pointer (some ⟨b11, 0, none⟩), .slice A2 c1.Commits.length c3, iV (c1.Commits.length : Int), .bool false, uV, .map (mb A28), .slice A6 l5.length c7, iV vt64, iV vt64, .bool false, uV, uV, .pointer (some ⟨b11, 0, none⟩), .slice A2 c1.Commits.length c3, iV (c1.Commits.length : Int), (j260 1), (j260 2), (j260 3), (j260 4), (j260 5), (j260 6), (j260 7), (j260 8), (j260 9), (j260 10), (j260 11), (j260 12), uV, uV, uV, uV, uV, uV, uV, uV, uV, uV, uV], []⟩ → K89 a_ W258 := by
          intro f256 A262 c263 s264 x261 j260 W258 a_ L257 hj269 HS259 HO265 hfr_; subst hfr_
          injection hj269 with hj269; subst hj269; try dsimp only at h
          refine hK90 _ _ ?_
          refine wp_seq_k (fun K277 hK278 => ?_)
          have HS279 := HS259.u4
          have HS280 := HS279.u4
          have HS281 := HS280.u4
          have HS282 := HS281.u4
          have HS283 := HS282.u4
          refine heldG (S := Sg t f256 (s71 :: [(b15, .cells #[.slice none 0 0] 34 (0, 0))] :: [(b11, .cells #[.slice A2 c1.Commits.length c3] 34 (0, 0))] :: H) [(5, s264), (5, [(b85, .cells #[.slice A262 x261.length c263] 34 (0, 0))])]) (n := 8) (by kernel_rfl) rfl HS283 ?_
          intro W284 HS285
          refine takeG [0] (n := 8) (fuel := 7) (l' := #[true, false, false, false, false, false, false, false]) (a' := ⟨#[.agg #[.slice A2 c1.Commits.length c3], .slice A6 l5.length c7, .pointer (some ⟨b11, 0, none⟩), uV, .pointer (some ⟨b15, 0, none⟩), iV 0, iV 0, .map (mb A28), iV vt22, iV vt64, .pointer (some ⟨b85, 0, none⟩), uV, (j260 0), .tuple #[.map (mb A28), iV vt22], .agg #[.slice A2 c1.Commits.length c3], .pointer (some ⟨b11, 0, none⟩), .slice A2 c1.Commits.length c3, iV (c1.Commits.length : Int), .tuple #[.map (mb A28), iV vt22], .map (mb A28), iV vt22, .bool false, iV vt22, .bool false, uV, uV, .bool false, .pointer (some ⟨b11, 0, none⟩), .slice A2 c1.Commits.length c3, iV (c1.Commits.length : Int), .bool false, uV, .map (mb A28), .slice A6 l5.length c7, iV vt64, iV vt64, .bool false, uV, uV, .pointer (some ⟨b11, 0, none⟩), .slice A2 c1.Commits.length c3, iV (c1.Commits.length : Int), (j260 1), (j260 2), (j260 3), (j260 4), (j260 5), (j260 6), (j260 7), (j260 8), (j260 9), (j260 10), (j260 11), (j260 12), .pointer (some ⟨b85, 0, none⟩), uV, uV, uV, uV, uV, uV, uV, uV, uV, uV], []⟩) rfl (by kernel_rfl) (by kernel_rfl) (by kernel_rfl) hnp (Sg.g2 (Sx.of [s264, [(b85, .cells #[.slice A262 x261.length c263] 34 (0, 0))]] (FM.le.refl _) HS285) (fun _ => St.only [] HS285 (FM.le.refl _)) (fun _ => St.only [s264] HS285 (FM.le.refl _))) ?_
          refine takeGQ 1 [5] rfl (by kernel_rfl) (by kernel_rfl) (by kernel_rfl) (by kernel_rfl) (by kernel_rfl) (by kernel_rfl) hnp (Sg.g2 (Sx.of [s264, [(b85, .cells #[.slice A262 x261.length c263] 34 (0, 0))]] (FM.le.refl _) HS285) (fun _ => St.only [] HS285 (FM.le.refl _)) (fun _ => St.only [s264] HS285 (FM.le.refl _))) (fun w_ hw_ => by obtain ⟨g_, hl_, hS_⟩ := hw_.seg (j := 5) (s := [(b85, .cells #[.slice A262 x261.length c263] 34 (0, 0))]) (by simp) (by simp); exact run_load rfl Try.underlying32 rfl (by kernel_rfl : _ = Value.pointer (some ⟨b85, 0, none⟩)) (hS_.cell 0)) ?_
          refine takeG [2] (n := 6) (fuel := 5) (l' := #[true, true, true, false, false, false, false, false]) (a' := ⟨#[.agg #[.slice A2 c1.Commits.length c3], .slice A6 l5.length c7, .pointer (some ⟨b11, 0, none⟩), uV, .pointer (some ⟨b15, 0, none⟩), iV 0, iV 0, .map (mb A28), iV vt22, iV vt64, .pointer (some ⟨b85, 0, none⟩), uV, (j260 0), .tuple #[.map (mb A28), iV vt22], .agg #[.slice A2 c1.Commits.length c3], .pointer (some ⟨b11, 0, none⟩), .slice A2 c1.Commits.length c3, iV (c1.Commits.length : Int), .tuple #[.map (mb A28), iV vt22], .map (mb A28), iV vt22, .bool false, iV vt22, .bool false, uV, uV, .bool false, .pointer (some ⟨b11, 0, none⟩), .slice A2 c1.Commits.length c3, iV (c1.Commits.length : Int), .bool false, uV, .map (mb A28), .slice A6 l5.length c7, iV vt64, iV vt64, .bool false, uV, uV, .pointer (some ⟨b11, 0, none⟩), .slice A2 c1.Commits.length c3, iV (c1.Commits.length : Int), (j260 1), (j260 2), (j260 3), (j260 4), (j260 5), (j260 6), (j260 7), (j260 8), (j260 9), (j260 10), (j260 11), (j260 12), .pointer (some ⟨b85, 0, none⟩), .slice A262 x261.length c263, .slice A6 l5.length c7, uV, uV, uV, uV, uV, uV, uV, uV], []⟩) rfl (by kernel_rfl) (by kernel_rfl) (by kernel_rfl) hnp (Sg.g2 (Sx.of [s264, [(b85, .cells #[.slice A262 x261.length c263] 34 (0, 0))]] (FM.le.refl _) HS285) (fun _ => St.only [] HS285 (FM.le.refl _)) (fun _ => St.only [s264] HS285 (FM.le.refl _))) ?_
          have hq_ := bind_some h; clear h; obtain ⟨vt286, hc287, h⟩ := hq_
          refine takeGE 3 (by kernel_rfl) rfl (by kernel_rfl) (does_call (f := 29) (args := #[.slice A6 l5.length c7]) (by kernel_rfl) (catalog_copies.calls k A6 c7 l5 HS285 (HR8.mono (L25.trans (L68.trans L257))) vt286 hc287) ?_)
          rintro _ W290 ⟨f288, A292, c293, s294, rfl, L289, HS291, HO295⟩
          refine ⟨_, rfl, ?_⟩
          refine ⟨(Sg.g2 (Sx.of [s294, s264, [(b85, .cells #[.slice A262 x261.length c263] 34 (0, 0))]] L289 HS291) (fun _ => St.only [s294] HS291 L289) (fun _ => St.only [s294, s264] HS291 L289)), ?_⟩
          obtain ⟨f297, L298, HS299, HR300⟩ := HO295.freeze HS291
          refine takeGE 4 (by kernel_rfl) rfl (by kernel_rfl) (does_lit (e := (tSl ty_Change)) (E := 28) (vs := #[(0, Value.slice A292 vt286.length c293)]) (cs := #[.slice A292 vt286.length c293]) (xs := ([vt286] : List (List S_Change))) rfl Try.underlying32 (by kernel_rfl) (by kernel_rfl) ⟨[.slice A292 vt286.length c293], _, rfl, ⟨A292, c293, rfl, HR300⟩, rfl⟩ rfl HS299 ?_ (by decide))
          intro b301 W302 s303 HS304 _ HO305
          refine ⟨(Sg.g2 (Sx.of [s303, s264, [(b85, .cells #[.slice A262 x261.length c263] 34 (0, 0))]] (L289.trans L298) HS304) (fun _ => St.only [s303] HS304 (L289.trans L298)) (fun _ => St.only [s303, s264] HS304 (L289.trans L298))), ?_⟩
          have hq_ := guard_some h; clear h; obtain ⟨c307, h⟩ := hq_
          have c307 : (x261.length + 1) * 24 ≤ 140737488355328 := c307
          have HS308 := HS304.u1
          have HS309 := HS308.u1
          refine takeGE 5 (by kernel_rfl) rfl (by kernel_rfl) (does_append1 (e := (tSl ty_Change)) (E := 28) (xs := x261) (ys := ([vt286] : List (List S_Change))) rfl (by kernel_rfl : _ = Value.slice A262 x261.length c263) (by kernel_rfl : _ = Value.slice (some ⟨b301, 0, none⟩) ([vt286] : List (List S_Change)).length 1) Try.underlying32 inf28 (HO265.mono (L289.trans L298)) HO305 HS309 c307 (lim63 c307 (by decide)) ?_)
          intro A310 c311 s312 W313 HS314 HO315
          refine ⟨(Sg.g2 (Sx.of [s312, [(b85, .cells #[.slice A262 x261.length c263] 34 (0, 0))]] (L289.trans L298) HS314) (fun hl_ => Bool.noConfusion (show true = false from hl_)) (fun hl_ => Bool.noConfusion (show true = false from hl_))), ?_⟩
          refine takeG [6] (n := 2) (fuel := 1) (l' := #[true, true, true, true, true, true, true, false]) (a' := ⟨#[.agg #[.slice A2 c1.Commits.length c3], .slice A6 l5.length c7, .pointer (some ⟨b11, 0, none⟩), uV, .pointer (some ⟨b15, 0, none⟩), iV 0, iV 0, .map (mb A28), iV vt22, iV vt64, .pointer (some ⟨b85, 0, none⟩), uV, (j260 0), .tuple #[.map (mb A28), iV vt22], .agg #[.slice A2 c1.Commits.length c3], .pointer (some ⟨b11, 0, none⟩), .slice A2 c1.Commits.length c3, iV (c1.Commits.length : Int), .tuple #[.map (mb A28), iV vt22], .map (mb A28), iV vt22, .bool false, iV vt22, .bool false, uV, uV, .bool false, .pointer (some ⟨b11, 0, none⟩), .slice A2 c1.Commits.length c3, iV (c1.Commits.length : Int), .bool false, uV, .map (mb A28), .slice A6 l5.length c7, iV vt64, iV vt64, .bool false, uV, uV, .pointer (some ⟨b11, 0, none⟩), .slice A2 c1.Commits.length c3, iV (c1.Commits.length : Int), (j260 1), (j260 2), (j260 3), (j260 4), (j260 5), (j260 6), (j260 7), (j260 8), (j260 9), (j260 10), (j260 11), (j260 12), .pointer (some ⟨b85, 0, none⟩), .slice A262 x261.length c263, .slice A6 l5.length c7, .slice A292 vt286.length c293, .slice (some ⟨b301, 0, none⟩) ([vt286] : List (List S_Change)).length 1, .slice A310 (x261 ++ ([vt286] : List (List S_Change))).length c311, .pointer (some ⟨b85, 0, none⟩), uV, uV, uV, uV], []⟩) rfl (by kernel_rfl) (by kernel_rfl) (by kernel_rfl) hnp (Sg.g2 (Sx.of [s312, [(b85, .cells #[.slice A262 x261.length c263] 34 (0, 0))]] (L289.trans L298) HS314) (fun hl_ => Bool.noConfusion (show true = false from hl_)) (fun hl_ => Bool.noConfusion (show true = false from hl_))) ?_
          have HS316 := HS314.u1
          refine takeGE 7 (by kernel_rfl) rfl (by kernel_rfl) (does_store (n := 1) (vs := [.slice A310 (x261 ++ ([vt286] : List (List S_Change))).length c311]) (cs' := #[.slice A310 (x261 ++ ([vt286] : List (List S_Change))).length c311]) rfl (by kernel_rfl) (by kernel_rfl : _ = Value.pointer (some ⟨b85, 0, none⟩)) (by kernel_rfl : _ = Value.slice A310 (x261 ++ ([vt286] : List (List S_Change))).length c311) rfl rfl (by intro u_ hu_; simp only [List.mem_cons, List.not_mem_nil, or_false] at hu_; subst hu_; rfl) HS316 (Nat.le_of_ble_eq_true rfl) (by kernel_rfl) ?_)
          intro W317 HS318
          refine ⟨(Sg.g2 (Sx.of [[(b85, .cells #[.slice A310 (x261 ++ ([vt286] : List (List S_Change))).length c311] 34 (0, 0))], s312] (L289.trans L298) HS318) (fun hl_ => Bool.noConfusion (show true = false from hl_)) (fun hl_ => Bool.noConfusion (show true = false from hl_))), ?_⟩
          refine doneG (by kernel_rfl) ?_ _
          refine hK278 _ _ ?_
          refine wp_seq_k (fun K319 hK320 => ?_)
          have HS321 := HS318.u4
          have HS322 := HS321.u3
          have HS323 := HS322.u3
          have HS324 := HS323.u3
          have HS325 := HS324.u4
          refine heldG (S := Sg t f297 ([(b85, .cells #[.slice A310 (x261 ++ ([vt286] : List (List S_Change))).length c311] 34 (0, 0))] :: s312 :: s71 :: [(b11, .cells #[.slice A2 c1.Commits.length c3] 34 (0, 0))] :: H) [(4, [(b15, .cells #[.slice none 0 0] 34 (0, 0))])]) (n := 7) (by kernel_rfl) rfl HS325 ?_
          intro W326 HS327
          refine takeGQ 0 [] rfl (by kernel_rfl) (by kernel_rfl) (by kernel_rfl) (by kernel_rfl) (by kernel_rfl) (by kernel_rfl) hnp (Sg.g1 (Sx.of [[(b15, .cells #[.slice none 0 0] 34 (0, 0))]] (FM.le.refl _) HS327) (fun _ => St.only [] HS327 (FM.le.refl _))) (fun w_ hw_ => by obtain ⟨g_, hl_, hS_⟩ := hw_.st; exact run_loadN (n := 1) rfl Try.underlying34 rfl (by kernel_rfl) (by kernel_rfl : _ = Value.pointer (some ⟨b85, 0, none⟩)) (cs := [.slice A310 (x261 ++ ([vt286] : List (List S_Change))).length c311]) rfl (hS_.cells 0 1 _ rfl)) ?_
          refine takeG [1] (n := 6) (fuel := 5) (l' := #[true, true, false, false, false, false, false]) (a' := ⟨#[.agg #[.slice A2 c1.Commits.length c3], .slice A6 l5.length c7, .pointer (some ⟨b11, 0, none⟩), uV, .pointer (some ⟨b15, 0, none⟩), iV 0, iV 0, .map (mb A28), iV vt22, iV vt64, .pointer (some ⟨b85, 0, none⟩), uV, (j260 0), .tuple #[.map (mb A28), iV vt22], .agg #[.slice A2 c1.Commits.length c3], .pointer (some ⟨b11, 0, none⟩), .slice A2 c1.Commits.length c3, iV (c1.Commits.length : Int), .tuple #[.map (mb A28), iV vt22], .map (mb A28), iV vt22, .bool false, iV vt22, .bool false, uV, uV, .bool false, .pointer (some ⟨b11, 0, none⟩), .slice A2 c1.Commits.length c3, iV (c1.Commits.length : Int), .bool false, uV, .map (mb A28), .slice A6 l5.length c7, iV vt64, iV vt64, .bool false, uV, uV, .pointer (some ⟨b11, 0, none⟩), .slice A2 c1.Commits.length c3, iV (c1.Commits.length : Int), (j260 1), (j260 2), (j260 3), (j260 4), (j260 5), (j260 6), (j260 7), (j260 8), (j260 9), (j260 10), (j260 11), (j260 12), .pointer (some ⟨b85, 0, none⟩), .slice A262 x261.length c263, .slice A6 l5.length c7, .slice A292 vt286.length c293, .slice (some ⟨b301, 0, none⟩) ([vt286] : List (List S_Change)).length 1, .slice A310 (x261 ++ ([vt286] : List (List S_Change))).length c311, .pointer (some ⟨b85, 0, none⟩), .agg #[.slice A310 (x261 ++ ([vt286] : List (List S_Change))).length c311], .pointer (some ⟨b85, 0, none⟩), uV, uV], []⟩) rfl (by kernel_rfl) (by kernel_rfl) (by kernel_rfl) hnp (Sg.g1 (Sx.of [[(b15, .cells #[.slice none 0 0] 34 (0, 0))]] (FM.le.refl _) HS327) (fun _ => St.only [] HS327 (FM.le.refl _))) ?_
          refine takeGQ 2 [] rfl (by kernel_rfl) (by kernel_rfl) (by kernel_rfl) (by kernel_rfl) (by kernel_rfl) (by kernel_rfl) hnp (Sg.g1 (Sx.of [[(b15, .cells #[.slice none 0 0] 34 (0, 0))]] (FM.le.refl _) HS327) (fun _ => St.only [] HS327 (FM.le.refl _))) (fun w_ hw_ => by obtain ⟨g_, hl_, hS_⟩ := hw_.st; exact run_load rfl Try.underlying32 rfl (by kernel_rfl : _ = Value.pointer (some ⟨b85, 0, none⟩)) (hS_.cell 0)) ?_
          refine takeG [3] (n := 4) (fuel := 3) (l' := #[true, true, true, true, false, false, false]) (a' := ⟨#[.agg #[.slice A2 c1.Commits.length c3], .slice A6 l5.length c7, .pointer (some ⟨b11, 0, none⟩), uV, .pointer (some ⟨b15, 0, none⟩), iV 0, iV 0, .map (mb A28), iV vt22, iV vt64, .pointer (some ⟨b85, 0, none⟩), uV, (j260 0), .tuple #[.map (mb A28), iV vt22], .agg #[.slice A2 c1.Commits.length c3], .pointer (some ⟨b11, 0, none⟩), .slice A2 c1.Commits.length c3, iV (c1.Commits.length : Int), .tuple #[.map (mb A28), iV vt22], .map (mb A28), iV vt22, .bool false, iV vt22, .bool false, uV, uV, .bool false, .pointer (some ⟨b11, 0, none⟩), .slice A2 c1.Commits.length c3, iV (c1.Commits.length : Int), .bool false, uV, .map (mb A28), .slice A6 l5.length c7, iV vt64, iV vt64, .bool false, uV, uV, .pointer (some ⟨b11, 0, none⟩), .slice A2 c1.Commits.length c3, iV (c1.Commits.length : Int), (j260 1), (j260 2), (j260 3), (j260 4), (j260 5), (j260 6), (j260 7), (j260 8), (j260 9), (j260 10), (j260 11), (j260 12), .pointer (some ⟨b85, 0, none⟩), .slice A262 x261.length c263, .slice A6 l5.length c7, .slice A292 vt286.length c293, .slice (some ⟨b301, 0, none⟩) ([vt286] : List (List S_Change)).length 1, .slice A310 (x261 ++ ([vt286] : List (List S_Change))).length c311, .pointer (some ⟨b85, 0, none⟩), .agg #[.slice A310 (x261 ++ ([vt286] : List (List S_Change))).length c311], .pointer (some ⟨b85, 0, none⟩), .slice A310 (x261 ++ ([vt286] : List (List S_Change))).length c311, iV ((x261 ++ ([vt286] : List (List S_Change))).length : Int)], []⟩) rfl (by kernel_rfl) (by kernel_rfl) (by kernel_rfl) hnp (Sg.g1 (Sx.of [[(b15, .cells #[.slice none 0 0] 34 (0, 0))]] (FM.le.refl _) HS327) (fun _ => St.only [] HS327 (FM.le.refl _))) ?_
          refine takeGE 4 (by kernel_rfl) rfl (by kernel_rfl) (does_store (n := 1) (vs := [.slice A310 (x261 ++ ([vt286] : List (List S_Change))).length c311]) (cs' := #[.slice A310 (x261 ++ ([vt286] : List (List S_Change))).length c311]) rfl (by kernel_rfl) (by kernel_rfl : _ = Value.pointer (some ⟨b15, 0, none⟩)) (by kernel_rfl : _ = Value.agg #[.slice A310 (x261 ++ ([vt286] : List (List S_Change))).length c311]) rfl rfl (by intro u_ hu_; simp only [List.mem_cons, List.not_mem_nil, or_false] at hu_; subst hu_; rfl) HS327 (Nat.le_of_ble_eq_true rfl) (by kernel_rfl) ?_)
          intro W328 HS329
          refine ⟨(Sg.g1 (Sx.of [[(b15, .cells #[.slice A310 (x261 ++ ([vt286] : List (List S_Change))).length c311] 34 (0, 0))]] (FM.le.refl _) HS329) (fun hl_ => Bool.noConfusion (show true = false from hl_))), ?_⟩
          refine takeG [5, 6] (n := 2) (fuel := 0) (l' := #[true, true, true, true, true, true, true]) (a' := ⟨#[.agg #[.slice A2 c1.Commits.length c3], .slice A6 l5.length c7, .pointer (some ⟨b11, 0, none⟩), uV, .pointer (some ⟨b15, 0, none⟩), iV ((x261 ++ ([vt286] : List (List S_Change))).length : Int), iV 0, .map (mb A28), iV vt22, iV vt64, .pointer (some ⟨b85, 0, none⟩), uV, (j260 0), .tuple #[.map (mb A28), iV vt22], .agg #[.slice A2 c1.Commits.length c3], .pointer (some ⟨b11, 0, none⟩), .slice A2 c1.Commits.length c3, iV (c1.Commits.length : Int), .tuple #[.map (mb A28), iV vt22], .map (mb A28), iV vt22, .bool false, iV vt22, .bool false, uV, uV, .bool false, .pointer (some ⟨b11, 0, none⟩), .slice A2 c1.Commits.length c3, iV (c1.Commits.length : Int), .bool false, uV, .map (mb A28), .slice A6 l5.length c7, iV vt64, iV vt64, .bool false, uV, uV, .pointer (some ⟨b11, 0, none⟩), .slice A2 c1.Commits.length c3, iV (c1.Commits.length : Int), (j260 1), (j260 2), (j260 3), (j260 4), (j260 5), (j260 6), (j260 7), (j260 8), (j260 9), (j260 10), (j260 11), (j260 12), .pointer (some ⟨b85, 0, none⟩), .slice A262 x261.length c263, .slice A6 l5.length c7, .slice A292 vt286.length c293, .slice (some ⟨b301, 0, none⟩) ([vt286] : List (List S_Change)).length 1, .slice A310 (x261 ++ ([vt286] : List (List S_Change))).length c311, .pointer (some ⟨b85, 0, none⟩), .agg #[.slice A310 (x261 ++ ([vt286] : List (List S_Change))).length c311], .pointer (some ⟨b85, 0, none⟩), .slice A310 (x261 ++ ([vt286] : List (List S_Change))).length c311, iV ((x261 ++ ([vt286] : List (List S_Change))).length : Int)], []⟩) rfl (by kernel_rfl) (by kernel_rfl) (by kernel_rfl) hnp (Sg.g1 (Sx.of [[(b15, .cells #[.slice A310 (x261 ++ ([vt286] : List (List S_Change))).length c311] 34 (0, 0))]] (FM.le.refl _) HS329) (fun hl_ => Bool.noConfusion (show true = false from hl_))) ?_
          refine doneG (by kernel_rfl) ?_ _
          refine hK320 _ _ ?_
          refine wp_ret ?_
          refine hret _ _ ?_
          refine ends (v := Value.tuple #[.agg #[.slice A310 (x261 ++ ([vt286] : List (List S_Change))).length c311], .int .i64 ((x261 ++ ([vt286] : List (List S_Change))).length : Int), .int .i64 0]) (results3 (q1 := .cell 4 34) (q2 := .tmp 5) (q3 := .tmp 6) (by kernel_rfl) (resN (n := 1) (cs := [.slice A310 (x261 ++ ([vt286] : List (List S_Change))).length c311]) (by kernel_rfl : _ = Value.pointer (some ⟨b15, 0, none⟩)) Try.underlying34 rfl (by kernel_rfl) rfl (HS329.cells 0 1 _ rfl)) (resT (by kernel_rfl : _ = Value.int .i64 ((x261 ++ ([vt286] : List (List S_Change))).length : Int))) (resT (by kernel_rfl : _ = Value.int .i64 0))) (by kernel_rfl) ?_
          have HS354 := HS329.u2
          have HS355 := HS354.u4
          have HS356 := HS355.u4
          have HS357 := HS356.u4
          have HS358 := HS357.u4
          have HS359 := HS358.drop
          have HS360 := HS359.drop
          have HS361 := HS360.drop
          have HS362 := HS361.drop
          injection h with h
          injection h with h0_ h
          injection h with h1_ h
          subst h0_ h1_ h
          exact ⟨f297, A310, c311, s312, rfl, (L25.trans (L68.trans (L257.trans (L289.trans L298)))), HS362, HO315⟩
        clear h; have h := hv267; clear hv267
        have HS270 := HS87.cons_nil
        refine loopK (fun n_ a_ w_ => ∃ (f179 : FM) (A186 : Option Addr) (c187 : Nat) (s188 : Seg) (x184 : Int) (x185 : List (List S_Change)) (j183 : Nat → Value), FM.le f67 f179 ∧ St t w_ f179 (s188 :: [(b85, .cells #[.slice A186 x185.length c187] 34 (0, 0))] :: s71 :: [(b15, .cells #[.slice none 0 0] 34 (0, 0))] :: [(b11, .cells #[.slice A2 c1.Commits.length c3] 34 (0, 0))] :: H) ∧ Own (tSl ty_Change) 28 f179 A186 c187 s188 x185 ∧ catalog_Commit.l0 k c1 n_ x184 x185 = some o175 ∧ a_ = ⟨#[.agg #[.slice A2 c1.Commits.length c3], .slice A6 l5.length c7, .pointer (some ⟨b11, 0, none⟩), uV, .pointer (some ⟨b15, 0, none⟩), iV 0, iV 0, .map (mb A28), iV vt22, iV vt64, .pointer (some ⟨b85, 0, none⟩), uV, (j183 0), .tuple #[.map (mb A28), iV vt22], .agg #[.slice A2 c1.Commits.length c3], .pointer (some ⟨b11, 0, none⟩), .slice A2 c1.Commits.length c3, iV (c1.Commits.length : Int), .tuple #[.map (mb A28), iV vt22], .map (mb A28), iV vt22, .bool false, iV vt22, .bool false, uV, uV, .bool false, .pointer (some ⟨b11, 0, none⟩), .slice A2 c1.Commits.length c3, iV (c1.Commits.length : Int), .bool false, uV, .map (mb A28), .slice A6 l5.length c7, iV vt64, iV vt64, .bool false, uV, uV, .pointer (some ⟨b11, 0, none⟩), .slice A2 c1.Commits.length c3, iV (c1.Commits.length : Int), iV x184, (j183 1), (j183 2), (j183 3), (j183 4), (j183 5), (j183 6), (j183 7), (j183 8), (j183 9), (j183 10), (j183 11), uV, uV, uV, uV, uV, uV, uV, uV, uV, uV, uV], []⟩) k ⟨f67, none, 0, [], 0, ([] : List (List S_Change)), (fun i_ => [undef, undef, undef, undef, undef, undef, undef, undef, undef, undef, undef, undef].getD i_ undef), (FM.le.refl _), HS270, (Own.nil _), h, (by kernel_rfl)⟩ ?_
        clear h
        rintro n178 _ W181 ⟨f179, A186, c187, s188, x184, x185, j183, L180, HS182, HO189, h, rfl⟩ K176 hK177
        obtain _ | n178 := n178
        · exact nomatch h
        simp only [catalog_Commit.l0] at h
        refine wp_seq_k (fun K191 hK192 => ?_)
        refine wp_region_lit ?_
        refine seqS1 (a' := ⟨#[.agg #[.slice A2 c1.Commits.length c3], .slice A6 l5.length c7, .pointer (some ⟨b11, 0, none⟩), uV, .pointer (some ⟨b15, 0, none⟩), iV 0, iV 0, .map (mb A28), iV vt22, iV vt64, .pointer (some ⟨b85, 0, none⟩), uV, (j183 0), .tuple #[.map (mb A28), iV vt22], .agg #[.slice A2 c1.Commits.length c3], .pointer (some ⟨b11, 0, none⟩), .slice A2 c1.Commits.length c3, iV (c1.Commits.length : Int), .tuple #[.map (mb A28), iV vt22], .map (mb A28), iV vt22, .bool false, iV vt22, .bool false, uV, uV, .bool false, .pointer (some ⟨b11, 0, none⟩), .slice A2 c1.Commits.length c3, iV (c1.Commits.length : Int), .bool false, uV, .map (mb A28), .slice A6 l5.length c7, iV vt64, iV vt64, .bool false, uV, uV, .pointer (some ⟨b11, 0, none⟩), .slice A2 c1.Commits.length c3, iV (c1.Commits.length : Int), iV x184, .bool (decide (x184 < (c1.Commits.length : Int))), (j183 2), (j183 3), (j183 4), (j183 5), (j183 6), (j183 7), (j183 8), (j183 9), (j183 10), (j183 11), uV, uV, uV, uV, uV, uV, uV, uV, uV, uV, uV], []⟩) (by kernel_rfl) ?_
        refine wpList_nil ?_
        refine hK192 _ _ ?_
        refine wp_seq_k (fun K193 hK194 => ?_)
        have hq_ := ite_some h; clear h; rcases hq_ with ⟨c196, h⟩ | ⟨c196, h⟩
        · have c196 : x184 < (c1.Commits.length : Int) := c196
          refine wpRwI 43 (x := (decide (x184 < (c1.Commits.length : Int)))) (v := true) (by kernel_rfl) (decide_eq_true c196) ?_
          refine condT (by kernel_rfl) ?_
          refine wp_skip ?_
          refine hK194 _ _ ?_
          refine wp_seq_k (fun K197 hK198 => ?_)
          refine blockK (fun B199 hx200 hn201 hr202 ho203 hp204 => ?_)
          refine wp_seq_k (fun K206 hK207 => ?_)
          refine wp_region_lit ?_
          have hq_ := guard_some h; clear h; obtain ⟨c208, h⟩ := hq_
          have c208 : 0 ≤ x184 := c208
          obtain ⟨b212, of213, cs209, hA214, hr210, hc211⟩ := (HR4.mono (L25.trans (L68.trans L180))).at (i := x184) c208 c196
          obtain ⟨A215, c215, rfl, HR215⟩ := hr210
          refine seqK rfl (does_run (run_indexE hA214 (sz := 1) rfl Try.underlying32 (by kernel_rfl) (by kernel_rfl : _ = Value.slice A2 c1.Commits.length c3) (by kernel_rfl : _ = Value.int .i64 x184) c208 c196 W181) ?_)
          refine seqK rfl (does_run (run_load rfl Try.underlying28 rfl (by kernel_rfl : _ = Value.pointer (some ⟨b212, of213 + (x184 : Int).toNat * 1, none⟩)) ((hc211 (FM.le.refl _) HS182) 0 (by decide))) ?_)
          refine seqS1 (a' := ⟨#[.agg #[.slice A2 c1.Commits.length c3], .slice A6 l5.length c7, .pointer (some ⟨b11, 0, none⟩), uV, .pointer (some ⟨b15, 0, none⟩), iV 0, iV 0, .map (mb A28), iV vt22, iV vt64, .pointer (some ⟨b85, 0, none⟩), uV, .slice A215 (rd c1.Commits x184).length c215, .tuple #[.map (mb A28), iV vt22], .agg #[.slice A2 c1.Commits.length c3], .pointer (some ⟨b11, 0, none⟩), .slice A2 c1.Commits.length c3, iV (c1.Commits.length : Int), .tuple #[.map (mb A28), iV vt22], .map (mb A28), iV vt22, .bool false, iV vt22, .bool false, uV, uV, .bool false, .pointer (some ⟨b11, 0, none⟩), .slice A2 c1.Commits.length c3, iV (c1.Commits.length : Int), .bool false, uV, .map (mb A28), .slice A6 l5.length c7, iV vt64, iV vt64, .bool false, uV, uV, .pointer (some ⟨b11, 0, none⟩), .slice A2 c1.Commits.length c3, iV (c1.Commits.length : Int), iV x184, .bool true, .pointer (some ⟨b212, of213 + (x184 : Int).toNat * 1, none⟩), .slice A215 (rd c1.Commits x184).length c215, (j183 4), (j183 5), (j183 6), (j183 7), (j183 8), (j183 9), (j183 10), (j183 11), uV, uV, uV, uV, uV, uV, uV, uV, uV, uV, uV], []⟩) (by kernel_rfl) ?_
          refine wpList_nil ?_
          refine hK207 _ _ ?_
          have HS216 := HS182.u4
          have HS217 := HS216.u4
          have HS218 := HS217.u4
          have HS219 := HS218.u4
          have HS220 := HS219.u4
          refine heldG (S := Sg t f179 (s71 :: [(b15, .cells #[.slice none 0 0] 34 (0, 0))] :: [(b11, .cells #[.slice A2 c1.Commits.length c3] 34 (0, 0))] :: H) [(5, s188), (5, [(b85, .cells #[.slice A186 x185.length c187] 34 (0, 0))])]) (n := 8) (by kernel_rfl) rfl HS220 ?_
          intro W221 HS222
          refine takeG [0] (n := 8) (fuel := 7) (l' := #[true, false, false, false, false, false, false, false]) (a' := ⟨#[.agg #[.slice A2 c1.Commits.length c3], .slice A6 l5.length c7, .pointer (some ⟨b11, 0, none⟩), uV, .pointer (some ⟨b15, 0, none⟩), iV 0, iV 0, .map (mb A28), iV vt22, iV vt64, .pointer (some ⟨b85, 0, none⟩), uV, .slice A215 (rd c1.Commits x184).length c215, .tuple #[.map (mb A28), iV vt22], .agg #[.slice A2 c1.Commits.length c3], .pointer (some ⟨b11, 0, none⟩), .slice A2 c1.Commits.length c3, iV (c1.Commits.length : Int), .tuple #[.map (mb A28), iV vt22], .map (mb A28), iV vt22, .bool false, iV vt22, .bool false, uV, uV, .bool false, .pointer (some ⟨b11, 0, none⟩), .slice A2 c1.Commits.length c3, iV (c1.Commits.length : Int), .bool false, uV, .map (mb A28), .slice A6 l5.length c7, iV vt64, iV vt64, .bool false, uV, uV, .pointer (some ⟨b11, 0, none⟩), .slice A2 c1.Commits.length c3, iV (c1.Commits.length : Int), iV x184, .bool true, .pointer (some ⟨b212, of213 + (x184 : Int).toNat * 1, none⟩), .slice A215 (rd c1.Commits x184).length c215, .pointer (some ⟨b85, 0, none⟩), (j183 5), (j183 6), (j183 7), (j183 8), (j183 9), (j183 10), (j183 11), uV, uV, uV, uV, uV, uV, uV, uV, uV, uV, uV], []⟩) rfl (by kernel_rfl) (by kernel_rfl) (by kernel_rfl) (fun ch_ a_ w_ q_ => (fun ch_ a_ w_ q_ => hnp ch_ a_ w_ (hp98 ch_ a_ w_ q_)) ch_ a_ w_ (hp204 ch_ a_ w_ q_)) (Sg.g2 (Sx.of [s188, [(b85, .cells #[.slice A186 x185.length c187] 34 (0, 0))]] (FM.le.refl _) HS222) (fun _ => St.only [] HS222 (FM.le.refl _)) (fun _ => St.only [s188] HS222 (FM.le.refl _))) ?_
          refine takeGQ 1 [5] rfl (by kernel_rfl) (by kernel_rfl) (by kernel_rfl) (by kernel_rfl) (by kernel_rfl) (by kernel_rfl) (fun ch_ a_ w_ q_ => (fun ch_ a_ w_ q_ => hnp ch_ a_ w_ (hp98 ch_ a_ w_ q_)) ch_ a_ w_ (hp204 ch_ a_ w_ q_)) (Sg.g2 (Sx.of [s188, [(b85, .cells #[.slice A186 x185.length c187] 34 (0, 0))]] (FM.le.refl _) HS222) (fun _ => St.only [] HS222 (FM.le.refl _)) (fun _ => St.only [s188] HS222 (FM.le.refl _))) (fun w_ hw_ => by obtain ⟨g_, hl_, hS_⟩ := hw_.seg (j := 5) (s := [(b85, .cells #[.slice A186 x185.length c187] 34 (0, 0))]) (by simp) (by simp); exact run_load rfl Try.underlying32 rfl (by kernel_rfl : _ = Value.pointer (some ⟨b85, 0, none⟩)) (hS_.cell 0)) ?_
          refine takeG [2] (n := 6) (fuel := 5) (l' := #[true, true, true, false, false, false, false, false]) (a' := ⟨#[.agg #[.slice A2 c1.Commits.length c3], .slice A6 l5.length c7, .pointer (some ⟨b11, 0, none⟩), uV, .pointer (some ⟨b15, 0, none⟩), iV 0, iV 0, .map (mb A28), iV vt22, iV vt64, .pointer (some ⟨b85, 0, none⟩), uV, .slice A215 (rd c1.Commits x184).length c215, .tuple #[.map (mb A28), iV vt22], .agg #[.slice A2 c1.Commits.length c3], .pointer (some ⟨b11, 0, none⟩), .slice A2 c1.Commits.length c3, iV (c1.Commits.length : Int), .tuple #[.map (mb A28), iV vt22], .map (mb A28), iV vt22, .bool false, iV vt22, .bool false, uV, uV, .bool false, .pointer (some ⟨b11, 0, none⟩), .slice A2 c1.Commits.length c3, iV (c1.Commits.length : Int), .bool false, uV, .map (mb A28), .slice A6 l5.length c7, iV vt64, iV vt64, .bool false, uV, uV, .pointer (some ⟨b11, 0, none⟩), .slice A2 c1.Commits.length c3, iV (c1.Commits.length : Int), iV x184, .bool true, .pointer (some ⟨b212, of213 + (x184 : Int).toNat * 1, none⟩), .slice A215 (rd c1.Commits x184).length c215, .pointer (some ⟨b85, 0, none⟩), .slice A186 x185.length c187, .slice A215 (rd c1.Commits x184).length c215, (j183 7), (j183 8), (j183 9), (j183 10), (j183 11), uV, uV, uV, uV, uV, uV, uV, uV, uV, uV, uV], []⟩) rfl (by kernel_rfl) (by kernel_rfl) (by kernel_rfl) (fun ch_ a_ w_ q_ => (fun ch_ a_ w_ q_ => hnp ch_ a_ w_ (hp98 ch_ a_ w_ q_)) ch_ a_ w_ (hp204 ch_ a_ w_ q_)) (Sg.g2 (Sx.of [s188, [(b85, .cells #[.slice A186 x185.length c187] 34 (0, 0))]] (FM.le.refl _) HS222) (fun _ => St.only [] HS222 (FM.le.refl _)) (fun _ => St.only [s188] HS222 (FM.le.refl _))) ?_
          have hq_ := bind_some h; clear h; obtain ⟨vt223, hc224, h⟩ := hq_
          refine takeGE 3 (by kernel_rfl) rfl (by kernel_rfl) (does_call (f := 29) (args := #[.slice A215 (rd c1.Commits x184).length c215]) (by kernel_rfl) (catalog_copies.calls k A215 c215 (rd c1.Commits x184) HS222 HR215 vt223 hc224) ?_)
          rintro _ W227 ⟨f225, A229, c230, s231, rfl, L226, HS228, HO232⟩
          refine ⟨_, rfl, ?_⟩
          refine ⟨(Sg.g2 (Sx.of [s231, s188, [(b85, .cells #[.slice A186 x185.length c187] 34 (0, 0))]] L226 HS228) (fun _ => St.only [s231] HS228 L226) (fun _ => St.only [s231, s188] HS228 L226)), ?_⟩
          obtain ⟨f234, L235, HS236, HR237⟩ := HO232.freeze HS228
          refine takeGE 4 (by kernel_rfl) rfl (by kernel_rfl) (does_lit (e := (tSl ty_Change)) (E := 28) (vs := #[(0, Value.slice A229 vt223.length c230)]) (cs := #[.slice A229 vt223.length c230]) (xs := ([vt223] : List (List S_Change))) rfl Try.underlying32 (by kernel_rfl) (by kernel_rfl) ⟨[.slice A229 vt223.length c230], _, rfl, ⟨A229, c230, rfl, HR237⟩, rfl⟩ rfl HS236 ?_ (by decide))
          intro b238 W239 s240 HS241 _ HO242
          refine ⟨(Sg.g2 (Sx.of [s240, s188, [(b85, .cells #[.slice A186 x185.length c187] 34 (0, 0))]] (L226.trans L235) HS241) (fun _ => St.only [s240] HS241 (L226.trans L235)) (fun _ => St.only [s240, s188] HS241 (L226.trans L235))), ?_⟩
          have hq_ := guard_some h; clear h; obtain ⟨c244, h⟩ := hq_
          have c244 : (x185.length + 1) * 24 ≤ 140737488355328 := c244
          have HS245 := HS241.u1
          have HS246 := HS245.u1
          refine takeGE 5 (by kernel_rfl) rfl (by kernel_rfl) (does_append1 (e := (tSl ty_Change)) (E := 28) (xs := x185) (ys := ([vt223] : List (List S_Change))) rfl (by kernel_rfl : _ = Value.slice A186 x185.length c187) (by kernel_rfl : _ = Value.slice (some ⟨b238, 0, none⟩) ([vt223] : List (List S_Change)).length 1) Try.underlying32 inf28 (HO189.mono (L226.trans L235)) HO242 HS246 c244 (lim63 c244 (by decide)) ?_)
          intro A247 c248 s249 W250 HS251 HO252
          refine ⟨(Sg.g2 (Sx.of [s249, [(b85, .cells #[.slice A186 x185.length c187] 34 (0, 0))]] (L226.trans L235) HS251) (fun hl_ => Bool.noConfusion (show true = false from hl_)) (fun hl_ => Bool.noConfusion (show true = false from hl_))), ?_⟩
          refine takeG [6] (n := 2) (fuel := 1) (l' := #[true, true, true, true, true, true, true, false]) (a' := ⟨#[.agg #[.slice A2 c1.Commits.length c3], .slice A6 l5.length c7, .pointer (some ⟨b11, 0, none⟩), uV, .pointer (some ⟨b15, 0, none⟩), iV 0, iV 0, .map (mb A28), iV vt22, iV vt64, .pointer (some ⟨b85, 0, none⟩), uV, .slice A215 (rd c1.Commits x184).length c215, .tuple #[.map (mb A28), iV vt22], .agg #[.slice A2 c1.Commits.length c3], .pointer (some ⟨b11, 0, none⟩), .slice A2 c1.Commits.length c3, iV (c1.Commits.length : Int), .tuple #[.map (mb A28), iV vt22], .map (mb A28), iV vt22, .bool false, iV vt22, .bool false, uV, uV, .bool false, .pointer (some ⟨b11, 0, none⟩), .slice A2 c1.Commits.length c3, iV (c1.Commits.length : Int), .bool false, uV, .map (mb A28), .slice A6 l5.length c7, iV vt64, iV vt64, .bool false, uV, uV, .pointer (some ⟨b11, 0, none⟩), .slice A2 c1.Commits.length c3, iV (c1.Commits.length : Int), iV x184, .bool true, .pointer (some ⟨b212, of213 + (x184 : Int).toNat * 1, none⟩), .slice A215 (rd c1.Commits x184).length c215, .pointer (some ⟨b85, 0, none⟩), .slice A186 x185.length c187, .slice A215 (rd c1.Commits x184).length c215, .slice A229 vt223.length c230, .slice (some ⟨b238, 0, none⟩) ([vt223] : List (List S_Change)).length 1, .slice A247 (x185 ++ ([vt223] : List (List S_Change))).length c248, .pointer (some ⟨b85, 0, none⟩), (j183 11), uV, uV, uV, uV, uV, uV, uV, uV, uV, uV, uV], []⟩) rfl (by kernel_rfl) (by kernel_rfl) (by kernel_rfl) (fun ch_ a_ w_ q_ => (fun ch_ a_ w_ q_ => hnp ch_ a_ w_ (hp98 ch_ a_ w_ q_)) ch_ a_ w_ (hp204 ch_ a_ w_ q_)) (Sg.g2 (Sx.of [s249, [(b85, .cells #[.slice A186 x185.length c187] 34 (0, 0))]] (L226.trans L235) HS251) (fun hl_ => Bool.noConfusion (show true = false from hl_)) (fun hl_ => Bool.noConfusion (show true = false from hl_))) ?_
          have HS253 := HS251.u1
          refine takeGE 7 (by kernel_rfl) rfl (by kernel_rfl) (does_store (n := 1) (vs := [.slice A247 (x185 ++ ([vt223] : List (List S_Change))).length c248]) (cs' := #[.slice A247 (x185 ++ ([vt223] : List (List S_Change))).length c248]) rfl (by kernel_rfl) (by kernel_rfl : _ = Value.pointer (some ⟨b85, 0, none⟩)) (by kernel_rfl : _ = Value.slice A247 (x185 ++ ([vt223] : List (List S_Change))).length c248) rfl rfl (by intro u_ hu_; simp only [List.mem_cons, List.not_mem_nil, or_false] at hu_; subst hu_; rfl) HS253 (Nat.le_of_ble_eq_true rfl) (by kernel_rfl) ?_)
          intro W254 HS255
          refine ⟨(Sg.g2 (Sx.of [[(b85, .cells #[.slice A247 (x185 ++ ([vt223] : List (List S_Change))).length c248] 34 (0, 0))], s249] (L226.trans L235) HS255) (fun hl_ => Bool.noConfusion (show true = false from hl_)) (fun hl_ => Bool.noConfusion (show true = false from hl_))), ?_⟩
          refine doneG (by kernel_rfl) ?_ _
          refine hn201 _ _ ?_
          refine hK198 _ _ ?_
          refine wp_region_lit ?_
          refine seqS2 (a' := ⟨#[.agg #[.slice A2 c1.Commits.length c3], .slice A6 l5.length c7, .pointer (some ⟨b11, 0, none⟩), uV, .pointer (some ⟨b15, 0, none⟩), iV 0, iV 0, .map (mb A28), iV vt22, iV vt64, .pointer (some ⟨b85, 0, none⟩), uV, .slice A215 (rd c1.Commits x184).length c215, .tuple #[.map (mb A28), iV vt22], .agg #[.slice A2 c1.Commits.length c3], .pointer (some ⟨b11, 0, none⟩), .slice A2 c1.Commits.length c3, iV (c1.Commits.length : Int), .tuple #[.map (mb A28), iV vt22], .map (mb A28), iV vt22, .bool false, iV vt22, .bool false, uV, uV, .bool false, .pointer (some ⟨b11, 0, none⟩), .slice A2 c1.Commits.length c3, iV (c1.Commits.length : Int), .bool false, uV, .map (mb A28), .slice A6 l5.length c7, iV vt64, iV vt64, .bool false, uV, uV, .pointer (some ⟨b11, 0, none⟩), .slice A2 c1.Commits.length c3, iV (c1.Commits.length : Int), iV (w64 (x184 + 1)), .bool true, .pointer (some ⟨b212, of213 + (x184 : Int).toNat * 1, none⟩), .slice A215 (rd c1.Commits x184).length c215, .pointer (some ⟨b85, 0, none⟩), .slice A186 x185.length c187, .slice A215 (rd c1.Commits x184).length c215, .slice A229 vt223.length c230, .slice (some ⟨b238, 0, none⟩) ([vt223] : List (List S_Change)).length 1, .slice A247 (x185 ++ ([vt223] : List (List S_Change))).length c248, .pointer (some ⟨b85, 0, none⟩), iV (w64 (x184 + 1)), uV, uV, uV, uV, uV, uV, uV, uV, uV, uV, uV], []⟩) (by kernel_rfl) ?_
          refine wpList_nil ?_
          refine hK177 n178 _ _ (Nat.lt_succ_self _) ?_
          have HS272 := HS255.u4
          have HS273 := HS272.u4
          have HS274 := HS273.u4
          have HS275 := HS274.u3
          have HS276 := HS275.u4
          exact ⟨f234, A247, c248, s249, (w64 (x184 + 1)), (x185 ++ ([vt223] : List (List S_Change))), (fun i_ => [Value.slice A215 (rd c1.Commits x184).length c215, Value.bool true, Value.pointer (some ⟨b212, of213 + (x184 : Int).toNat * 1, none⟩), Value.slice A215 (rd c1.Commits x184).length c215, Value.pointer (some ⟨b85, 0, none⟩), Value.slice A186 x185.length c187, Value.slice A215 (rd c1.Commits x184).length c215, Value.slice A229 vt223.length c230, Value.slice (some ⟨b238, 0, none⟩) ([vt223] : List (List S_Change)).length 1, Value.slice A247 (x185 ++ ([vt223] : List (List S_Change))).length c248, Value.pointer (some ⟨b85, 0, none⟩), Value.int .i64 (w64 (x184 + 1))].getD i_ undef), (L180.trans (L226.trans L235)), HS276, HO252, h, (by kernel_rfl)⟩
        · have c196 : ¬ (x184 < (c1.Commits.length : Int)) := c196
          refine wpRwI 43 (x := (decide (x184 < (c1.Commits.length : Int)))) (v := false) (by kernel_rfl) (decide_eq_false c196) ?_
          refine condF (by kernel_rfl) ?_
          refine wp_exit ?_
          refine hx94 _ _ ?_
          exact J268 f179 A186 c187 s188 x185 (fun i_ => [(j183 0), Value.int .i64 x184, Value.bool false, (j183 2), (j183 3), (j183 4), (j183 5), (j183 6), (j183 7), (j183 8), (j183 9), (j183 10), (j183 11)].getD i_ undef) W181 _ L180 h HS182 HO189 (by kernel_rfl)

set_option maxRecDepth 100000 in
set_option maxHeartbeats 4000000 in
theorem catalog_CheckCatalog.calls (k : Nat) (A2 : Option Addr) (c3 : Nat) (c1 : S_Catalog) {t w : World} {f : FM} {H : List Seg} (HS : St t w f (H)) (HR4 : SlR (tSl ty_Change) f A2 c3 c1.Commits) (rr1 : Int) (h : catalog_CheckCatalog k c1 = some rr1) :
    Calls Try.prog 32 #[.agg #[.slice A2 c1.Commits.length c3]] w (fun e w' => ∃ (g : FM), e = .returned (Value.int .i64 rr1) ∧ FM.le f g ∧ St t w' g (H)) := by
  unfold catalog_CheckCatalog at h
  refine enter Try.func32 rfl (tm := #[.agg #[.slice A2 c1.Commits.length c3], uV, uV, uV, uV, uV, uV, uV, uV, uV, uV, uV, uV, uV]) (by kernel_rfl) ?_
  intro B hret hnor hnp
  refine wp_seq_k (fun K5 hK6 => ?_)
  refine wp_region_lit ?_
  refine seqK rfl (does_box (cs := #[.slice A2 c1.Commits.length c3]) rfl (by kernel_rfl : _ = Value.agg #[.slice A2 c1.Commits.length c3]) rfl HS ?_)
  intro b7 W8 HS9
  refine seqS1 (a' := ⟨#[.agg #[.slice A2 c1.Commits.length c3], .pointer (some ⟨b7, 0, none⟩), iV 0, uV, uV, uV, uV, uV, uV, uV, uV, uV, uV, uV], []⟩) (by kernel_rfl) ?_
  refine wpList_nil ?_
  refine hK6 _ _ ?_
  refine wp_seq_k (fun K11 hK12 => ?_)
  refine wp_region_lit ?_
  refine seqK rfl (does_run (run_loadN (n := 1) rfl Try.underlying34 rfl (by kernel_rfl) (by kernel_rfl : _ = Value.pointer (some ⟨b7, 0, none⟩)) (cs := [.slice A2 c1.Commits.length c3]) rfl (HS9.cells 0 1 _ rfl)) ?_)
  refine seqL1 (by kernel_rfl) ?_
  refine seqK rfl (does_run (run_load rfl Try.underlying32 rfl (by kernel_rfl : _ = Value.pointer (some ⟨b7, 0, none⟩)) (HS9.cell 0)) ?_)
  have hq_ := bind_some h; clear h; obtain ⟨⟨vt13, vt14⟩, hc15, h⟩ := hq_
  refine seqL1 (by kernel_rfl) ?_
  refine seqK rfl (does_call (f := 30) (args := #[.agg #[.slice A2 c1.Commits.length c3], .int .i64 (c1.Commits.length : Int)]) (by kernel_rfl) (catalog_replay.calls k A2 c3 c1 (c1.Commits.length : Int) HS9 HR4 vt13 vt14 hc15) ?_)
  rintro _ W18 ⟨f16, A20, c21, s22, rfl, L17, HS19, HO23⟩
  refine ⟨_, rfl, ?_⟩
  refine seqS5 (a' := ⟨#[.agg #[.slice A2 c1.Commits.length c3], .pointer (some ⟨b7, 0, none⟩), iV 0, .map (mb A20), iV vt14, .tuple #[.map (mb A20), iV vt14], .agg #[.slice A2 c1.Commits.length c3], .pointer (some ⟨b7, 0, none⟩), .slice A2 c1.Commits.length c3, iV (c1.Commits.length : Int), .tuple #[.map (mb A20), iV vt14], .map (mb A20), iV vt14, uV], []⟩) (by kernel_rfl) ?_
  refine wpList_nil ?_
  refine hK12 _ _ ?_
  refine wp_seq_k (fun K25 hK26 => ?_)
  refine wp_region_lit ?_
  refine seqS2 (a' := ⟨#[.agg #[.slice A2 c1.Commits.length c3], .pointer (some ⟨b7, 0, none⟩), iV vt14, .map (mb A20), iV vt14, .tuple #[.map (mb A20), iV vt14], .agg #[.slice A2 c1.Commits.length c3], .pointer (some ⟨b7, 0, none⟩), .slice A2 c1.Commits.length c3, iV (c1.Commits.length : Int), .tuple #[.map (mb A20), iV vt14], .map (mb A20), iV vt14, iV vt14], []⟩) (by kernel_rfl) ?_
  refine wpList_nil ?_
  refine hK26 _ _ ?_
  refine wp_ret ?_
  refine hret _ _ ?_
  refine ends_still (v := Value.int .i64 vt14) (by kernel_rfl) (by kernel_rfl) ?_
  have HS27 := HS19.drop
  have HS28 := HS27.drop
  injection h with h
  subst h
  exact ⟨f16, rfl, L17, HS28⟩

set_option maxRecDepth 100000 in
set_option maxHeartbeats 4000000 in
theorem slices_Clone_Row.calls (k : Nat) (A2 : Option Addr) (c3 : Nat) (s1 : List S_Row) {t w : World} {f : FM} {H : List Seg} (HS : St t w f (H)) (HR4 : SlR ty_Row f A2 c3 s1) (rr1 : List S_Row) (h : slices_Clone_Row k s1 = some rr1) :
    Calls Try.prog 51 #[.slice A2 s1.length c3] w (fun e w' => ∃ (g : FM) (A31 : Option Addr) (c32 : Nat) (s33 : Seg), e = .returned (Value.slice A31 rr1.length c32) ∧ FM.le f g ∧ St t w' g (s33 :: H) ∧ Own ty_Row 65 g A31 c32 s33 rr1) := by
  unfold slices_Clone_Row at h
  refine enter Try.func51 rfl (tm := #[.slice A2 s1.length c3, uV, uV, uV, uV, uV, uV, uV]) (by kernel_rfl) ?_
  intro B hret hnor hnp
  refine wp_seq_k (fun K5 hK6 => ?_)
  refine wp_region_lit ?_
  refine seqS1 (a' := ⟨#[.slice A2 s1.length c3, uV, .slice none 0 0, uV, uV, uV, uV, uV], []⟩) (by kernel_rfl) ?_
  refine wpList_nil ?_
  refine hK6 _ _ ?_
  refine wp_seq_k (fun K7 hK8 => ?_)
  refine wp_seq_k (fun K9 hK10 => ?_)
  refine wp_region_lit ?_
  refine seqS1 (a' := ⟨#[.slice A2 s1.length c3, uV, .slice none 0 0, .slice A2 s1.length c3, uV, uV, uV, uV], []⟩) (by kernel_rfl) ?_
  obtain _ | ad11 := A2
  · obtain rfl := HR4.nil_eq
    have hq_ := guard_some h; clear h; obtain ⟨_, h⟩ := hq_
    refine seqS1 (a' := ⟨#[.slice none ([] : List S_Row).length c3, uV, .slice none 0 0, .slice none ([] : List S_Row).length c3, .bool true, uV, uV, uV], []⟩) (by kernel_rfl) ?_
    refine wpList_nil ?_
    refine hK10 _ _ ?_
    refine condT (by kernel_rfl) ?_
    refine wp_seq_k (fun K27 hK28 => ?_)
    refine wp_region_lit ?_
    refine seqS1 (a' := ⟨#[.slice none ([] : List S_Row).length c3, uV, .slice none 0 0, .slice none ([] : List S_Row).length c3, .bool true, uV, uV, uV], []⟩) (by kernel_rfl) ?_
    refine wpList_nil ?_
    refine hK28 _ _ ?_
    refine wp_ret ?_
    refine hret _ _ ?_
    have HS29 := HS.cons_nil
    refine ends_still (v := Value.slice none 0 0) (by kernel_rfl) (by kernel_rfl) ?_
    injection h with h
    subst h
    exact ⟨f, none, 0, [], rfl, FM.le.refl _, HS29, (Own.nil _)⟩
  · refine seqS1 (a' := ⟨#[.slice (some ad11) s1.length c3, uV, .slice none 0 0, .slice (some ad11) s1.length c3, .bool false, uV, uV, uV], []⟩) (by kernel_rfl) ?_
    refine wpList_nil ?_
    refine hK10 _ _ ?_
    refine condF (by kernel_rfl) ?_
    refine wp_skip ?_
    refine hK8 _ _ ?_
    refine wp_seq_k (fun K12 hK13 => ?_)
    refine wp_region_lit ?_
    refine seqK rfl (does_lit (e := ty_Row) (E := 65) (vs := #[]) (cs := #[]) (xs := ([] : List S_Row)) rfl Try.underlying26 (by kernel_rfl) (by kernel_rfl) rfl rfl HS ?_ (by decide))
    intro b14 W15 s16 HS17 _ HO18
    have hq_ := guard_some h; clear h; obtain ⟨c20, h⟩ := hq_
    have c20 : (([] : List S_Row).length + s1.length) * 160 ≤ 140737488355328 := c20
    refine seqL1 (by kernel_rfl) ?_
    refine seqK rfl (does_append (e := ty_Row) (E := 65) (xs := ([] : List S_Row)) (ys := s1) rfl (by kernel_rfl : _ = Value.slice (some ⟨b14, 0, none⟩) ([] : List S_Row).length 0) (by kernel_rfl : _ = Value.slice (some ad11) s1.length c3) Try.underlying26 inf65 HO18 HS17 (HR4.rc HS17) c20 (lim63 c20 (by decide)) ?_)
    intro A21 c22 s23 W24 HS25 HO26
    refine seqS1 (a' := ⟨#[.slice (some ad11) s1.length c3, uV, .slice A21 (([] : List S_Row) ++ s1).length c22, .slice (some ad11) s1.length c3, .bool false, .slice (some ⟨b14, 0, none⟩) ([] : List S_Row).length 0, .slice (some ad11) s1.length c3, .slice A21 (([] : List S_Row) ++ s1).length c22], []⟩) (by kernel_rfl) ?_
    refine wpList_nil ?_
    refine hK13 _ _ ?_
    refine wp_ret ?_
    refine hret _ _ ?_
    refine ends_still (v := Value.slice A21 (([] : List S_Row) ++ s1).length c22) (by kernel_rfl) (by kernel_rfl) ?_
    injection h with h
    subst h
    exact ⟨f, A21, c22, s23, rfl, FM.le.refl _, HS25, HO26⟩

set_option maxRecDepth 100000 in
set_option maxHeartbeats 4000000 in
theorem catalog_Copy.calls (k : Nat) (A2 : Option Addr) (c3 : Nat) (l1 : List S_Row) {t w : World} {f : FM} {H : List Seg} (HS : St t w f (H)) (HR4 : SlR ty_Row f A2 c3 l1) (rr1 : List S_Row) (h : catalog_Copy k l1 = some rr1) :
    Calls Try.prog 35 #[.slice A2 l1.length c3] w (fun e w' => ∃ (g : FM) (A157 : Option Addr) (c158 : Nat) (s159 : Seg), e = .returned (Value.slice A157 rr1.length c158) ∧ FM.le f g ∧ St t w' g (s159 :: H) ∧ Own ty_Row 65 g A157 c158 s159 rr1) := by
  unfold catalog_Copy at h
  refine enter Try.func35 rfl (tm := #[.slice A2 l1.length c3, uV, uV, uV, uV, uV, uV, uV, uV, uV, uV, uV, uV, uV, uV, uV, uV, uV, uV, uV, uV, uV, uV, uV]) (by kernel_rfl) ?_
  intro B hret hnor hnp
  refine wp_seq_k (fun K5 hK6 => ?_)
  refine wp_region_lit ?_
  refine seqS1 (a' := ⟨#[.slice A2 l1.length c3, uV, .slice none 0 0, uV, uV, uV, uV, uV, uV, uV, uV, uV, uV, uV, uV, uV, uV, uV, uV, uV, uV, uV, uV, uV], []⟩) (by kernel_rfl) ?_
  refine wpList_nil ?_
  refine hK6 _ _ ?_
  refine wp_seq_k (fun K7 hK8 => ?_)
  refine wp_region_lit ?_
  have hq_ := bind_some h; clear h; obtain ⟨vt9, hc10, h⟩ := hq_
  refine seqL1 (by kernel_rfl) ?_
  refine seqK rfl (does_call (f := 51) (args := #[.slice A2 l1.length c3]) (by kernel_rfl) (slices_Clone_Row.calls k A2 c3 l1 HS HR4 vt9 hc10) ?_)
  rintro _ W13 ⟨f11, A15, c16, s17, rfl, L12, HS14, HO18⟩
  refine ⟨_, rfl, ?_⟩
  refine seqS1 (a' := ⟨#[.slice A2 l1.length c3, uV, .slice none 0 0, .slice A15 vt9.length c16, uV, .slice A2 l1.length c3, .slice A15 vt9.length c16, uV, uV, uV, uV, uV, uV, uV, uV, uV, uV, uV, uV, uV, uV, uV, uV, uV], []⟩) (by kernel_rfl) ?_
  refine wpList_nil ?_
  refine hK8 _ _ ?_
  refine wp_seq_k (fun K20 hK21 => ?_)
  refine wp_seq_k (fun K22 hK23 => ?_)
  refine wp_region_lit ?_
  refine seqS3 (a' := ⟨#[.slice A2 l1.length c3, uV, .slice none 0 0, .slice A15 vt9.length c16, uV, .slice A2 l1.length c3, .slice A15 vt9.length c16, .slice A15 vt9.length c16, iV (vt9.length : Int), iV 0, uV, uV, uV, uV, uV, uV, uV, uV, uV, uV, uV, uV, uV, uV], []⟩) (by kernel_rfl) ?_
  refine wpList_nil ?_
  refine hK23 _ _ ?_
  refine blockK (fun B24 hx25 hn26 hr27 ho28 hp29 => ?_)
  have hq_ := bind_some h; clear h; obtain ⟨o84, hv152, h⟩ := hq_
  have J153 : ∀ (f143 : FM) (s149 : Seg) (out148 : List S_Row) (j147 : Nat → Value) (W145 : World) (a_ : Act), FM.le f11 f143 → some (out148) = some o84 → St t W145 f143 (s149 :: H) → Own ty_Row 65 f143 A15 c16 s149 out148 → out148.length = vt9.length → a_ = ⟨#[.slice A2 l1.length c3, uV, .slice none 0 0, .slice A15 out148.length c16, (j147 0), .slice A2 l1.length c3, (j147 1), (j147 2), iV (vt9.length : Int), (j147 3), (j147 4), (j147 5), (j147 6), (j147 7), (j147 8), (j147 9), (j147 10), (j147 11), (j147 12), (j147 13), (j147 14), (j147 15), (j147 16), uV], []⟩ → K20 a_ W145 := by
    intro f143 s149 out148 j147 W145 a_ L144 hj154 HS146 HO150 HL151 hfr_; subst hfr_
    injection hj154 with hj154; subst hj154; try dsimp only at h
    refine hK21 _ _ ?_
    refine wp_seq_k (fun K155 hK156 => ?_)
    refine wp_region_lit ?_
    refine seqS2 (a' := ⟨#[.slice A2 l1.length c3, uV, .slice A15 out148.length c16, .slice A15 out148.length c16, (j147 0), .slice A2 l1.length c3, (j147 1), (j147 2), iV (vt9.length : Int), (j147 3), (j147 4), (j147 5), (j147 6), (j147 7), (j147 8), (j147 9), (j147 10), (j147 11), (j147 12), (j147 13), (j147 14), (j147 15), (j147 16), .slice A15 out148.length c16], []⟩) (by kernel_rfl) ?_
    refine wpList_nil ?_
    refine hK156 _ _ ?_
    refine wp_ret ?_
    refine hret _ _ ?_
    refine ends_still (v := Value.slice A15 out148.length c16) (by kernel_rfl) (by kernel_rfl) ?_
    injection h with h
    subst h
    exact ⟨f143, A15, c16, s149, rfl, (L12.trans L144), HS146, HO150⟩
  clear h; have h := hv152; clear hv152
  refine loopK (fun n_ a_ w_ => ∃ (f88 : FM) (s94 : Seg) (out93 : List S_Row) (x97 : Int) (j92 : Nat → Value), FM.le f11 f88 ∧ St t w_ f88 (s94 :: H) ∧ Own ty_Row 65 f88 A15 c16 s94 out93 ∧ out93.length = vt9.length ∧ catalog_Copy.l0 k vt9 n_ out93 x97 = some o84 ∧ a_ = ⟨#[.slice A2 l1.length c3, uV, .slice none 0 0, .slice A15 out93.length c16, (j92 0), .slice A2 l1.length c3, .slice A15 vt9.length c16, .slice A15 vt9.length c16, iV (vt9.length : Int), iV x97, (j92 1), (j92 2), (j92 3), (j92 4), (j92 5), (j92 6), (j92 7), (j92 8), (j92 9), (j92 10), (j92 11), (j92 12), (j92 13), uV], []⟩) k ⟨f11, s17, vt9, 0, (fun i_ => [undef, undef, undef, undef, undef, undef, undef, undef, undef, undef, undef, undef, undef, undef].getD i_ undef), (FM.le.refl _), HS14, HO18, rfl, h, (by kernel_rfl)⟩ ?_
  clear h
  rintro n87 _ W90 ⟨f88, s94, out93, x97, j92, L89, HS91, HO95, HL96, h, rfl⟩ K85 hK86
  obtain _ | n87 := n87
  · exact nomatch h
  simp only [catalog_Copy.l0] at h
  refine wp_seq_k (fun K98 hK99 => ?_)
  refine wp_region_lit ?_
  refine seqS1 (a' := ⟨#[.slice A2 l1.length c3, uV, .slice none 0 0, .slice A15 out93.length c16, (j92 0), .slice A2 l1.length c3, .slice A15 vt9.length c16, .slice A15 vt9.length c16, iV (vt9.length : Int), iV x97, .bool (decide (x97 < (vt9.length : Int))), (j92 2), (j92 3), (j92 4), (j92 5), (j92 6), (j92 7), (j92 8), (j92 9), (j92 10), (j92 11), (j92 12), (j92 13), uV], []⟩) (by kernel_rfl) ?_
  refine wpList_nil ?_
  refine hK99 _ _ ?_
  refine wp_seq_k (fun K100 hK101 => ?_)
  have hq_ := ite_some h; clear h; rcases hq_ with ⟨c103, h⟩ | ⟨c103, h⟩
  · have c103 : x97 < (vt9.length : Int) := c103
    refine wpRwI 10 (x := (decide (x97 < (vt9.length : Int)))) (v := true) (by kernel_rfl) (decide_eq_true c103) ?_
    refine condT (by kernel_rfl) ?_
    refine wp_skip ?_
    refine hK101 _ _ ?_
    refine wp_seq_k (fun K104 hK105 => ?_)
    refine blockK (fun B106 hx107 hn108 hr109 ho110 hp111 => ?_)
    refine wp_seq_k (fun K113 hK114 => ?_)
    refine wp_region_lit ?_
    refine seqS2 (a' := ⟨#[.slice A2 l1.length c3, uV, .slice none 0 0, .slice A15 out93.length c16, iV x97, .slice A2 l1.length c3, .slice A15 vt9.length c16, .slice A15 vt9.length c16, iV (vt9.length : Int), iV x97, .bool true, iV x97, (j92 3), (j92 4), (j92 5), (j92 6), (j92 7), (j92 8), (j92 9), (j92 10), (j92 11), (j92 12), (j92 13), uV], []⟩) (by kernel_rfl) ?_
    refine wpList_nil ?_
    refine hK114 _ _ ?_
    refine wp_region_lit ?_
    have hq_ := guard_some h; clear h; obtain ⟨c115, h⟩ := hq_
    have c115 : 0 ≤ x97 := c115
    have hq_ := guard_some h; clear h; obtain ⟨c116, h⟩ := hq_
    have c116 : x97 < (out93.length : Int) := c116
    obtain ⟨b120, of121, cs117, hA122, hr118, hc119⟩ := HO95.at (i := x97) c115 c116
    obtain ⟨A123, c123, rfl, HR123⟩ := hr118
    refine seqL4 (by kernel_rfl) ?_
    refine seqK rfl (does_run (run_indexE hA122 (sz := 18) rfl Try.underlying26 (by kernel_rfl) (by kernel_rfl : _ = Value.slice A15 out93.length c16) (by kernel_rfl : _ = Value.int .i64 x97) c115 c116 W90) ?_)
    refine seqL1 (by kernel_rfl) ?_
    refine seqK rfl (does_run (run_load rfl Try.underlying22 rfl (by kernel_rfl : _ = Value.pointer (some ⟨b120, of121 + (x97 : Int).toNat * 18 + 16, none⟩)) ((hc119 HS91) 16 (by decide))) ?_)
    have hq_ := bind_some h; clear h; obtain ⟨vt124, hc125, h⟩ := hq_
    refine seqK rfl (does_call (f := 46) (args := #[.slice A123 ((rd out93 x97).Frames).length c123]) (by kernel_rfl) (slices_Clone_int.calls k A123 c123 ((rd out93 x97).Frames) HS91 HR123 vt124 hc125) ?_)
    rintro _ W128 ⟨f126, A130, c131, s132, rfl, L127, HS129, HO133⟩
    refine ⟨_, rfl, ?_⟩
    refine seqK rfl (does_run (run_indexE hA122 (sz := 18) rfl Try.underlying26 (by kernel_rfl) (by kernel_rfl : _ = Value.slice A15 out93.length c16) (by kernel_rfl : _ = Value.int .i64 x97) c115 c116 W128) ?_)
    obtain ⟨f135, L136, HS137, HR138⟩ := HO133.freeze HS129
    refine seqL1 (by kernel_rfl) ?_
    refine seqK rfl (does_putP (e := ty_Row) (E := 65) (fo := 16) (vs := [.slice A130 vt124.length c131]) (u := (⟨(rd out93 x97).ID, ((rd out93 x97).Box), ((rd out93 x97).Flux), ((rd out93 x97).When), vt124, (rd out93 x97).Marks⟩ : S_Row)) (i := x97) rfl (by kernel_rfl) (HO95.mono (L127.trans L136)) HS137 hA122 (by kernel_rfl : _ = Value.pointer (some ⟨b120, of121 + (x97 : Int).toNat * 18 + 16, none⟩)) (by kernel_rfl : _ = Value.slice A130 vt124.length c131) rfl rfl (by intro u_ hu_; simp only [List.mem_cons, List.not_mem_nil, or_false] at hu_; subst hu_; rfl) (u0 := (rd out93 x97)) ⟨A123, c123, rfl, (HR123.mono (L127.trans L136))⟩ rfl ⟨A130, c131, rfl, HR138⟩ (Nat.le_of_ble_eq_true rfl) (hc119 HS137) c115 c116 ?_)
    intro W139 s140 HS141 HO142
    refine seqRwS 3 (A := A15) (m := out93.length) (n := (out93.set (x97).toNat (⟨(rd out93 x97).ID, ((rd out93 x97).Box), ((rd out93 x97).Flux), ((rd out93 x97).When), vt124, (rd out93 x97).Marks⟩ : S_Row)).length) (c := c16) (by kernel_rfl) (List.length_set).symm ?_
    refine seqRwS 12 (A := A15) (m := out93.length) (n := (out93.set (x97).toNat (⟨(rd out93 x97).ID, ((rd out93 x97).Box), ((rd out93 x97).Flux), ((rd out93 x97).When), vt124, (rd out93 x97).Marks⟩ : S_Row)).length) (c := c16) (by kernel_rfl) (List.length_set).symm ?_
    refine seqRwS 14 (A := A15) (m := out93.length) (n := (out93.set (x97).toNat (⟨(rd out93 x97).ID, ((rd out93 x97).Box), ((rd out93 x97).Flux), ((rd out93 x97).When), vt124, (rd out93 x97).Marks⟩ : S_Row)).length) (c := c16) (by kernel_rfl) (List.length_set).symm ?_
    refine wpList_nil ?_
    refine hn108 _ _ ?_
    refine hK105 _ _ ?_
    refine wp_region_lit ?_
    refine seqS2 (a' := ⟨#[.slice A2 l1.length c3, uV, .slice none 0 0, .slice A15 (out93.set (x97).toNat (⟨(rd out93 x97).ID, ((rd out93 x97).Box), ((rd out93 x97).Flux), ((rd out93 x97).When), vt124, (rd out93 x97).Marks⟩ : S_Row)).length c16, iV x97, .slice A2 l1.length c3, .slice A15 vt9.length c16, .slice A15 vt9.length c16, iV (vt9.length : Int), iV (w64 (x97 + 1)), .bool true, iV x97, .slice A15 (out93.set (x97).toNat (⟨(rd out93 x97).ID, ((rd out93 x97).Box), ((rd out93 x97).Flux), ((rd out93 x97).When), vt124, (rd out93 x97).Marks⟩ : S_Row)).length c16, iV x97, .slice A15 (out93.set (x97).toNat (⟨(rd out93 x97).ID, ((rd out93 x97).Box), ((rd out93 x97).Flux), ((rd out93 x97).When), vt124, (rd out93 x97).Marks⟩ : S_Row)).length c16, iV x97, .pointer (some ⟨b120, of121 + (x97 : Int).toNat * 18, none⟩), .pointer (some ⟨b120, of121 + (x97 : Int).toNat * 18 + 16, none⟩), .slice A123 ((rd out93 x97).Frames).length c123, .slice A130 vt124.length c131, .pointer (some ⟨b120, of121 + (x97 : Int).toNat * 18, none⟩), .pointer (some ⟨b120, of121 + (x97 : Int).toNat * 18 + 16, none⟩), iV (w64 (x97 + 1)), uV], []⟩) (by kernel_rfl) ?_
    refine wpList_nil ?_
    refine hK86 n87 _ _ (Nat.lt_succ_self _) ?_
    exact ⟨f135, s140, (out93.set (x97).toNat (⟨(rd out93 x97).ID, ((rd out93 x97).Box), ((rd out93 x97).Flux), ((rd out93 x97).When), vt124, (rd out93 x97).Marks⟩ : S_Row)), (w64 (x97 + 1)), (fun i_ => [Value.int .i64 x97, Value.bool true, Value.int .i64 x97, Value.slice A15 (out93.set (x97).toNat (⟨(rd out93 x97).ID, ((rd out93 x97).Box), ((rd out93 x97).Flux), ((rd out93 x97).When), vt124, (rd out93 x97).Marks⟩ : S_Row)).length c16, Value.int .i64 x97, Value.slice A15 (out93.set (x97).toNat (⟨(rd out93 x97).ID, ((rd out93 x97).Box), ((rd out93 x97).Flux), ((rd out93 x97).When), vt124, (rd out93 x97).Marks⟩ : S_Row)).length c16, Value.int .i64 x97, Value.pointer (some ⟨b120, of121 + (x97 : Int).toNat * 18, none⟩), Value.pointer (some ⟨b120, of121 + (x97 : Int).toNat * 18 + 16, none⟩), Value.slice A123 ((rd out93 x97).Frames).length c123, Value.slice A130 vt124.length c131, Value.pointer (some ⟨b120, of121 + (x97 : Int).toNat * 18, none⟩), Value.pointer (some ⟨b120, of121 + (x97 : Int).toNat * 18 + 16, none⟩), Value.int .i64 (w64 (x97 + 1))].getD i_ undef), (L89.trans (L127.trans L136)), HS141, HO142, (List.length_set.trans HL96), h, (by kernel_rfl)⟩
  · have c103 : ¬ (x97 < (vt9.length : Int)) := c103
    refine wpRwI 10 (x := (decide (x97 < (vt9.length : Int)))) (v := false) (by kernel_rfl) (decide_eq_false c103) ?_
    refine condF (by kernel_rfl) ?_
    refine wp_exit ?_
    refine hx25 _ _ ?_
    exact J153 f88 s94 out93 (fun i_ => [(j92 0), Value.slice A15 vt9.length c16, Value.slice A15 vt9.length c16, Value.int .i64 x97, Value.bool false, (j92 2), (j92 3), (j92 4), (j92 5), (j92 6), (j92 7), (j92 8), (j92 9), (j92 10), (j92 11), (j92 12), (j92 13)].getD i_ undef) W90 _ L89 h HS91 HO95 HL96 (by kernel_rfl)

set_option maxRecDepth 100000 in
set_option maxHeartbeats 4000000 in
theorem catalog_At.calls (k : Nat) (A2 : Option Addr) (c3 : Nat) (c1 : S_Catalog) (version5 : Int) {t w : World} {f : FM} {H : List Seg} (HS : St t w f (H)) (HR4 : SlR (tSl ty_Change) f A2 c3 c1.Commits) (rr1 : List S_Row) (rr2 : Int) (h : catalog_At k c1 version5 = some (rr1, rr2)) :
    Calls Try.prog 10 #[.agg #[.slice A2 c1.Commits.length c3], .int .i64 version5] w (fun e w' => ∃ (g : FM) (A192 : Option Addr) (c193 : Nat) (s194 : Seg), e = .returned (Value.tuple #[.slice A192 rr1.length c193, .int .i64 rr2]) ∧ FM.le f g ∧ St t w' g (s194 :: H) ∧ Own ty_Row 65 g A192 c193 s194 rr1) := by
  unfold catalog_At at h
  refine enter Try.func10 rfl (tm := #[.agg #[.slice A2 c1.Commits.length c3], iV version5, uV, uV, uV, uV, uV, uV, uV, uV, uV, uV, uV, uV, uV, uV, uV, uV, uV, uV, uV, uV, uV, uV, uV, uV, uV, uV, uV, uV, uV, uV, uV, uV, uV, uV, uV, uV, uV, uV, uV, uV, uV, uV, uV, uV, uV, uV, uV]) (by kernel_rfl) ?_
  intro B hret hnor hnp
  refine wp_seq_k (fun K6 hK7 => ?_)
  refine wp_region_lit ?_
  refine seqK rfl (does_box (cs := #[.slice A2 c1.Commits.length c3]) rfl (by kernel_rfl : _ = Value.agg #[.slice A2 c1.Commits.length c3]) rfl HS ?_)
  intro b8 W9 HS10
  refine seqS2 (a' := ⟨#[.agg #[.slice A2 c1.Commits.length c3], iV version5, .pointer (some ⟨b8, 0, none⟩), uV, .slice none 0 0, iV 0, uV, uV, uV, uV, uV, uV, uV, uV, uV, uV, uV, uV, uV, uV, uV, uV, uV, uV, uV, uV, uV, uV, uV, uV, uV, uV, uV, uV, uV, uV, uV, uV, uV, uV, uV, uV, uV, uV, uV, uV, uV, uV, uV], []⟩) (by kernel_rfl) ?_
  refine wpList_nil ?_
  refine hK7 _ _ ?_
  refine wp_seq_k (fun K12 hK13 => ?_)
  refine wp_seq_k (fun K14 hK15 => ?_)
  refine wp_region_lit ?_
  refine seqK rfl (does_run (run_loadN (n := 1) rfl Try.underlying34 rfl (by kernel_rfl) (by kernel_rfl : _ = Value.pointer (some ⟨b8, 0, none⟩)) (cs := [.slice A2 c1.Commits.length c3]) rfl (HS10.cells 0 1 _ rfl)) ?_)
  have hq_ := bind_some h; clear h; obtain ⟨vt16, hc17, h⟩ := hq_
  refine seqK rfl (does_call (f := 32) (args := #[.agg #[.slice A2 c1.Commits.length c3]]) (by kernel_rfl) (catalog_CheckCatalog.calls k A2 c3 c1 HS10 HR4 vt16 hc17) ?_)
  rintro _ W20 ⟨f18, rfl, L19, HS21⟩
  refine ⟨_, rfl, ?_⟩
  refine seqS1 (a' := ⟨#[.agg #[.slice A2 c1.Commits.length c3], iV version5, .pointer (some ⟨b8, 0, none⟩), uV, .slice none 0 0, iV 0, iV vt16, uV, uV, uV, uV, uV, .agg #[.slice A2 c1.Commits.length c3], iV vt16, uV, uV, uV, uV, uV, uV, uV, uV, uV, uV, uV, uV, uV, uV, uV, uV, uV, uV, uV, uV, uV, uV, uV, uV, uV, uV, uV, uV, uV, uV, uV, uV, uV, uV, uV], []⟩) (by kernel_rfl) ?_
  refine wpList_nil ?_
  refine hK15 _ _ ?_
  refine wp_seq_k (fun K22 hK23 => ?_)
  refine wp_region_lit ?_
  refine seqS2 (a' := ⟨#[.agg #[.slice A2 c1.Commits.length c3], iV version5, .pointer (some ⟨b8, 0, none⟩), uV, .slice none 0 0, iV 0, iV vt16, uV, uV, uV, uV, uV, .agg #[.slice A2 c1.Commits.length c3], iV vt16, iV vt16, .bool (vt16 != 0), uV, uV, uV, uV, uV, uV, uV, uV, uV, uV, uV, uV, uV, uV, uV, uV, uV, uV, uV, uV, uV, uV, uV, uV, uV, uV, uV, uV, uV, uV, uV, uV, uV], []⟩) (by kernel_rfl) ?_
  refine wpList_nil ?_
  refine hK23 _ _ ?_
  have hq_ := ite_some h; clear h; rcases hq_ with ⟨c25, h⟩ | ⟨c25, h⟩
  · have c25 : vt16 ≠ 0 := c25
    refine wpRwI 15 (x := (vt16 != 0)) (v := true) (by kernel_rfl) (bne_iff_ne.mpr c25) ?_
    refine condT (by kernel_rfl) ?_
    refine wp_seq_k (fun K26 hK27 => ?_)
    refine wp_region_lit ?_
    refine seqS3 (a' := ⟨#[.agg #[.slice A2 c1.Commits.length c3], iV version5, .pointer (some ⟨b8, 0, none⟩), uV, .slice none 0 0, iV vt16, iV vt16, uV, uV, uV, uV, uV, .agg #[.slice A2 c1.Commits.length c3], iV vt16, iV vt16, .bool true, iV vt16, uV, uV, uV, uV, uV, uV, uV, uV, uV, uV, uV, uV, uV, uV, uV, uV, uV, uV, uV, uV, uV, uV, uV, uV, uV, uV, uV, uV, uV, uV, uV, uV], []⟩) (by kernel_rfl) ?_
    refine wpList_nil ?_
    refine hK27 _ _ ?_
    refine wp_ret ?_
    refine hret _ _ ?_
    have HS172 := HS21.cons_nil
    refine ends_still (v := Value.tuple #[.slice none 0 0, .int .i64 vt16]) (by kernel_rfl) (by kernel_rfl) ?_
    have HS174 := HS172.u1
    have HS175 := HS174.drop
    injection h with h
    injection h with h0_ h
    subst h0_ h
    exact ⟨f18, none, 0, [], rfl, L19, HS175, (Own.nil _)⟩
  · have c25 : ¬ (vt16 ≠ 0) := c25
    refine wpRwI 15 (x := (vt16 != 0)) (v := false) (by kernel_rfl) (bne_eq_false_iff_eq.mpr (Decidable.of_not_not c25)) ?_
    refine condF (by kernel_rfl) ?_
    refine wp_skip ?_
    refine hK13 _ _ ?_
    refine wp_seq_k (fun K28 hK29 => ?_)
    refine wp_seq_k (fun K30 hK31 => ?_)
    refine wp_region_lit ?_
    refine seqS3 (a' := ⟨#[.agg #[.slice A2 c1.Commits.length c3], iV version5, .pointer (some ⟨b8, 0, none⟩), uV, .slice none 0 0, iV 0, iV vt16, uV, uV, uV, uV, uV, .agg #[.slice A2 c1.Commits.length c3], iV vt16, iV vt16, .bool false, uV, iV version5, .bool (decide (version5 < 0)), .bool (decide (version5 < 0)), uV, uV, uV, uV, uV, uV, uV, uV, uV, uV, uV, uV, uV, uV, uV, uV, uV, uV, uV, uV, uV, uV, uV, uV, uV, uV, uV, uV, uV], []⟩) (by kernel_rfl) ?_
    have hq_ := ite_some h; clear h; rcases hq_ with ⟨c32, h⟩ | ⟨c32, h⟩
    · have c32 : version5 < 0 := c32
      refine seqRwI 18 (x := (decide (version5 < 0))) (v := true) (by kernel_rfl) (decide_eq_true c32) ?_
      refine seqRwI 19 (x := (decide (version5 < 0))) (v := true) (by kernel_rfl) (decide_eq_true c32) ?_
      refine seqS6 (a' := ⟨#[.agg #[.slice A2 c1.Commits.length c3], iV version5, .pointer (some ⟨b8, 0, none⟩), uV, .slice none 0 0, iV 0, iV vt16, uV, uV, uV, uV, uV, .agg #[.slice A2 c1.Commits.length c3], iV vt16, iV vt16, .bool false, uV, iV version5, .bool true, .bool true, uV, uV, uV, uV, uV, .bool true, uV, uV, uV, uV, uV, uV, uV, uV, uV, uV, uV, uV, uV, uV, uV, uV, uV, uV, uV, uV, uV, uV, uV], []⟩) (by kernel_rfl) ?_
      refine wpList_nil ?_
      refine hK31 _ _ ?_
      refine condT (by kernel_rfl) ?_
      refine wp_seq_k (fun K33 hK34 => ?_)
      refine wp_region_lit ?_
      refine seqS2 (a' := ⟨#[.agg #[.slice A2 c1.Commits.length c3], iV version5, .pointer (some ⟨b8, 0, none⟩), uV, .slice none 0 0, iV 4, iV vt16, uV, uV, uV, uV, uV, .agg #[.slice A2 c1.Commits.length c3], iV vt16, iV vt16, .bool false, uV, iV version5, .bool true, .bool true, uV, uV, uV, uV, uV, .bool true, uV, uV, uV, uV, uV, uV, uV, uV, uV, uV, uV, uV, uV, uV, uV, uV, uV, uV, uV, uV, uV, uV, uV], []⟩) (by kernel_rfl) ?_
      refine wpList_nil ?_
      refine hK34 _ _ ?_
      refine wp_ret ?_
      refine hret _ _ ?_
      have HS176 := HS21.cons_nil
      refine ends_still (v := Value.tuple #[.slice none 0 0, .int .i64 4]) (by kernel_rfl) (by kernel_rfl) ?_
      have HS178 := HS176.u1
      have HS179 := HS178.drop
      injection h with h
      injection h with h0_ h
      subst h0_ h
      exact ⟨f18, none, 0, [], rfl, L19, HS179, (Own.nil _)⟩
    · have c32 : ¬ (version5 < 0) := c32
      refine seqRwI 18 (x := (decide (version5 < 0))) (v := false) (by kernel_rfl) (decide_eq_false c32) ?_
      refine seqRwI 19 (x := (decide (version5 < 0))) (v := false) (by kernel_rfl) (decide_eq_false c32) ?_
      refine seqL2 (by kernel_rfl) ?_
      refine seqG (by kernel_rfl) (does_run (run_load rfl Try.underlying32 rfl (by kernel_rfl : _ = Value.pointer (some ⟨b8, 0, none⟩)) (HS21.cell 0)) ?_)
      refine seqS3 (a' := ⟨#[.agg #[.slice A2 c1.Commits.length c3], iV version5, .pointer (some ⟨b8, 0, none⟩), uV, .slice none 0 0, iV 0, iV vt16, uV, uV, uV, uV, uV, .agg #[.slice A2 c1.Commits.length c3], iV vt16, iV vt16, .bool false, uV, iV version5, .bool false, .bool false, iV version5, .pointer (some ⟨b8, 0, none⟩), .slice A2 c1.Commits.length c3, iV (c1.Commits.length : Int), .bool (decide (version5 > (c1.Commits.length : Int))), .bool (decide (version5 > (c1.Commits.length : Int))), uV, uV, uV, uV, uV, uV, uV, uV, uV, uV, uV, uV, uV, uV, uV, uV, uV, uV, uV, uV, uV, uV, uV], []⟩) (by kernel_rfl) ?_
      refine wpList_nil ?_
      refine hK31 _ _ ?_
      have hq_ := ite_some h; clear h; rcases hq_ with ⟨c36, h⟩ | ⟨c36, h⟩
      · have c36 : version5 > (c1.Commits.length : Int) := c36
        refine wpRwI 24 (x := (decide (version5 > (c1.Commits.length : Int)))) (v := true) (by kernel_rfl) (decide_eq_true c36) ?_
        refine wpRwI 25 (x := (decide (version5 > (c1.Commits.length : Int)))) (v := true) (by kernel_rfl) (decide_eq_true c36) ?_
        refine condT (by kernel_rfl) ?_
        refine wp_seq_k (fun K37 hK38 => ?_)
        refine wp_region_lit ?_
        refine seqS2 (a' := ⟨#[.agg #[.slice A2 c1.Commits.length c3], iV version5, .pointer (some ⟨b8, 0, none⟩), uV, .slice none 0 0, iV 4, iV vt16, uV, uV, uV, uV, uV, .agg #[.slice A2 c1.Commits.length c3], iV vt16, iV vt16, .bool false, uV, iV version5, .bool false, .bool false, iV version5, .pointer (some ⟨b8, 0, none⟩), .slice A2 c1.Commits.length c3, iV (c1.Commits.length : Int), .bool true, .bool true, uV, uV, uV, uV, uV, uV, uV, uV, uV, uV, uV, uV, uV, uV, uV, uV, uV, uV, uV, uV, uV, uV, uV], []⟩) (by kernel_rfl) ?_
        refine wpList_nil ?_
        refine hK38 _ _ ?_
        refine wp_ret ?_
        refine hret _ _ ?_
        have HS180 := HS21.cons_nil
        refine ends_still (v := Value.tuple #[.slice none 0 0, .int .i64 4]) (by kernel_rfl) (by kernel_rfl) ?_
        have HS182 := HS180.u1
        have HS183 := HS182.drop
        injection h with h
        injection h with h0_ h
        subst h0_ h
        exact ⟨f18, none, 0, [], rfl, L19, HS183, (Own.nil _)⟩
      · have c36 : ¬ (version5 > (c1.Commits.length : Int)) := c36
        refine wpRwI 24 (x := (decide (version5 > (c1.Commits.length : Int)))) (v := false) (by kernel_rfl) (decide_eq_false c36) ?_
        refine wpRwI 25 (x := (decide (version5 > (c1.Commits.length : Int)))) (v := false) (by kernel_rfl) (decide_eq_false c36) ?_
        refine condF (by kernel_rfl) ?_
        refine wp_skip ?_
        refine hK29 _ _ ?_
        refine wp_seq_k (fun K39 hK40 => ?_)
        refine wp_region_lit ?_
        refine seqK rfl (does_run (run_loadN (n := 1) rfl Try.underlying34 rfl (by kernel_rfl) (by kernel_rfl : _ = Value.pointer (some ⟨b8, 0, none⟩)) (cs := [.slice A2 c1.Commits.length c3]) rfl (HS21.cells 0 1 _ rfl)) ?_)
        have hq_ := bind_some h; clear h; obtain ⟨⟨vt41, vt42⟩, hc43, h⟩ := hq_
        refine seqL1 (by kernel_rfl) ?_
        refine seqK rfl (does_call (f := 30) (args := #[.agg #[.slice A2 c1.Commits.length c3], .int .i64 version5]) (by kernel_rfl) (catalog_replay.calls k A2 c3 c1 version5 HS21 (HR4.mono L19) vt41 vt42 hc43) ?_)
        rintro _ W46 ⟨f44, A48, c49, s50, rfl, L45, HS47, HO51⟩
        refine ⟨_, rfl, ?_⟩
        refine seqS5 (a' := ⟨#[.agg #[.slice A2 c1.Commits.length c3], iV version5, .pointer (some ⟨b8, 0, none⟩), uV, .slice none 0 0, iV 0, iV vt16, .map (mb A48), iV vt42, uV, uV, uV, .agg #[.slice A2 c1.Commits.length c3], iV vt16, iV vt16, .bool false, uV, iV version5, .bool false, .bool false, iV version5, .pointer (some ⟨b8, 0, none⟩), .slice A2 c1.Commits.length c3, iV (c1.Commits.length : Int), .bool false, .bool false, .tuple #[.map (mb A48), iV vt42], .agg #[.slice A2 c1.Commits.length c3], iV version5, .tuple #[.map (mb A48), iV vt42], .map (mb A48), iV vt42, uV, uV, uV, uV, uV, uV, uV, uV, uV, uV, uV, uV, uV, uV, uV, uV, uV], []⟩) (by kernel_rfl) ?_
        refine wpList_nil ?_
        refine hK40 _ _ ?_
        refine wp_seq_k (fun K53 hK54 => ?_)
        refine wp_region_lit ?_
        refine seqS1 (a' := ⟨#[.agg #[.slice A2 c1.Commits.length c3], iV version5, .pointer (some ⟨b8, 0, none⟩), uV, .slice none 0 0, iV 0, iV vt16, .map (mb A48), iV vt42, .slice none 0 0, uV, uV, .agg #[.slice A2 c1.Commits.length c3], iV vt16, iV vt16, .bool false, uV, iV version5, .bool false, .bool false, iV version5, .pointer (some ⟨b8, 0, none⟩), .slice A2 c1.Commits.length c3, iV (c1.Commits.length : Int), .bool false, .bool false, .tuple #[.map (mb A48), iV vt42], .agg #[.slice A2 c1.Commits.length c3], iV version5, .tuple #[.map (mb A48), iV vt42], .map (mb A48), iV vt42, uV, uV, uV, uV, uV, uV, uV, uV, uV, uV, uV, uV, uV, uV, uV, uV, uV], []⟩) (by kernel_rfl) ?_
        refine wpList_nil ?_
        refine hK54 _ _ ?_
        refine wp_seq_k (fun K55 hK56 => ?_)
        refine wp_seq_k (fun K57 hK58 => ?_)
        refine wp_region_lit ?_
        refine seqL1 (by kernel_rfl) ?_
        refine seqK rfl (does_call (f := 34) (args := #[Value.map (mb A48)]) (by kernel_rfl) (keys_calls (M := 85) (g := 50) Try.keys34 rfl rfl rfl HS47) ?_)
        rintro _ W60 ⟨b59, rfl, HS61⟩
        refine ⟨_, rfl, ?_⟩
        have HS63 := HS61.u1
        have HS64 := HS63.u1
        have hq_ := bind_some h; clear h; obtain ⟨vt65, hc66, h⟩ := hq_
        refine seqK rfl (does_call (f := 33) (args := #[Value.func (.func 50) #[] #[.pointer (some ⟨b59, 0, none⟩)]]) (by kernel_rfl) (sorted_calls Try.keys34 Try.sorted33 rfl rfl rfl rfl rfl Try.underlying3 Try.slices_Sort_int Try.slices_Sort_int_none (Go.Proofs.enters_of Try.func49 (by kernel_rfl) rfl) (Go.Proofs.enters_of Try.func50 (by kernel_rfl) rfl) HO51 HS64 vt65 hc66) ?_)
        rintro _ W70 ⟨A67, c68, s69, rfl, HS71, HO72⟩
        refine ⟨_, rfl, ?_⟩
        refine seqS2 (a' := ⟨#[.agg #[.slice A2 c1.Commits.length c3], iV version5, .pointer (some ⟨b8, 0, none⟩), uV, .slice none 0 0, iV 0, iV vt16, .map (mb A48), iV vt42, .slice none 0 0, uV, uV, .agg #[.slice A2 c1.Commits.length c3], iV vt16, iV vt16, .bool false, uV, iV version5, .bool false, .bool false, iV version5, .pointer (some ⟨b8, 0, none⟩), .slice A2 c1.Commits.length c3, iV (c1.Commits.length : Int), .bool false, .bool false, .tuple #[.map (mb A48), iV vt42], .agg #[.slice A2 c1.Commits.length c3], iV version5, .tuple #[.map (mb A48), iV vt42], .map (mb A48), iV vt42, .map (mb A48), .func (.func 50) #[] #[.pointer (some ⟨b59, 0, none⟩)], .slice A67 vt65.length c68, iV (vt65.length : Int), iV 0, uV, uV, uV, uV, uV, uV, uV, uV, uV, uV, uV, uV], []⟩) (by kernel_rfl) ?_
        refine wpList_nil ?_
        refine hK58 _ _ ?_
        refine blockK (fun B74 hx75 hn76 hr77 ho78 hp79 => ?_)
        have hq_ := bind_some h; clear h; obtain ⟨o80, hv150, h⟩ := hq_
        have J151 : ∀ (f139 : FM) (A145 : Option Addr) (c146 : Nat) (s147 : Seg) (out144 : List S_Row) (j143 : Nat → Value) (W141 : World) (a_ : Act), FM.le f44 f139 → some (out144) = some o80 → St t W141 f139 (s147 :: s69 :: [(b59, .cells #[.map (mb A48)] 85 (0, 0))] :: s50 :: [(b8, .cells #[.slice A2 c1.Commits.length c3] 34 (0, 0))] :: H) → Own ty_Row 65 f139 A145 c146 s147 out144 → a_ = ⟨#[.agg #[.slice A2 c1.Commits.length c3], iV version5, .pointer (some ⟨b8, 0, none⟩), uV, .slice none 0 0, iV 0, iV vt16, .map (mb A48), iV vt42, .slice A145 out144.length c146, uV, (j143 0), .agg #[.slice A2 c1.Commits.length c3], iV vt16, iV vt16, .bool false, uV, iV version5, .bool false, .bool false, iV version5, .pointer (some ⟨b8, 0, none⟩), .slice A2 c1.Commits.length c3, iV (c1.Commits.length : Int), .bool false, .bool false, .tuple #[.map (mb A48), iV vt42], .agg #[.slice A2 c1.Commits.length c3], iV version5, .tuple #[.map (mb A48), iV vt42], .map (mb A48), iV vt42, .map (mb A48), .func (.func 50) #[] #[.pointer (some ⟨b59, 0, none⟩)], .slice A67 vt65.length c68, iV (vt65.length : Int), (j143 1), (j143 2), (j143 3), (j143 4), (j143 5), (j143 6), (j143 7), (j143 8), (j143 9), (j143 10), (j143 11), uV, uV], []⟩ → K55 a_ W141 := by
          intro f139 A145 c146 s147 out144 j143 W141 a_ L140 hj152 HS142 HO148 hfr_; subst hfr_
          injection hj152 with hj152; subst hj152; try dsimp only at h
          refine hK56 _ _ ?_
          refine wp_seq_k (fun K155 hK156 => ?_)
          refine wp_region_lit ?_
          obtain ⟨f157, L158, HS159, HR160⟩ := HO148.freeze HS142
          have hq_ := bind_some h; clear h; obtain ⟨vt161, hc162, h⟩ := hq_
          refine seqL1 (by kernel_rfl) ?_
          refine seqK rfl (does_call (f := 35) (args := #[.slice A145 out144.length c146]) (by kernel_rfl) (catalog_Copy.calls k A145 c146 out144 HS159 HR160 vt161 hc162) ?_)
          rintro _ W165 ⟨f163, A167, c168, s169, rfl, L164, HS166, HO170⟩
          refine ⟨_, rfl, ?_⟩
          refine seqS2 (a' := ⟨#[.agg #[.slice A2 c1.Commits.length c3], iV version5, .pointer (some ⟨b8, 0, none⟩), uV, .slice A167 vt161.length c168, iV 0, iV vt16, .map (mb A48), iV vt42, .slice A145 out144.length c146, uV, (j143 0), .agg #[.slice A2 c1.Commits.length c3], iV vt16, iV vt16, .bool false, uV, iV version5, .bool false, .bool false, iV version5, .pointer (some ⟨b8, 0, none⟩), .slice A2 c1.Commits.length c3, iV (c1.Commits.length : Int), .bool false, .bool false, .tuple #[.map (mb A48), iV vt42], .agg #[.slice A2 c1.Commits.length c3], iV version5, .tuple #[.map (mb A48), iV vt42], .map (mb A48), iV vt42, .map (mb A48), .func (.func 50) #[] #[.pointer (some ⟨b59, 0, none⟩)], .slice A67 vt65.length c68, iV (vt65.length : Int), (j143 1), (j143 2), (j143 3), (j143 4), (j143 5), (j143 6), (j143 7), (j143 8), (j143 9), (j143 10), (j143 11), .slice A145 out144.length c146, .slice A167 vt161.length c168], []⟩) (by kernel_rfl) ?_
          refine wpList_nil ?_
          refine hK156 _ _ ?_
          refine wp_ret ?_
          refine hret _ _ ?_
          refine ends_still (v := Value.tuple #[.slice A167 vt161.length c168, .int .i64 0]) (by kernel_rfl) (by kernel_rfl) ?_
          have HS184 := HS166.u4
          have HS185 := HS184.u4
          have HS186 := HS185.u4
          have HS187 := HS186.u4
          have HS188 := HS187.drop
          have HS189 := HS188.drop
          have HS190 := HS189.drop
          have HS191 := HS190.drop
          injection h with h
          injection h with h0_ h
          subst h0_ h
          exact ⟨f163, A167, c168, s169, rfl, (L19.trans (L45.trans (L140.trans (L158.trans L164)))), HS191, HO170⟩
        clear h; have h := hv150; clear hv150
        have HS153 := HS71.cons_nil
        refine loopK (fun n_ a_ w_ => ∃ (f84 : FM) (A90 : Option Addr) (c91 : Nat) (s92 : Seg) (out89 : List S_Row) (x95 : Int) (j88 : Nat → Value), FM.le f44 f84 ∧ St t w_ f84 (s92 :: s69 :: [(b59, .cells #[.map (mb A48)] 85 (0, 0))] :: s50 :: [(b8, .cells #[.slice A2 c1.Commits.length c3] 34 (0, 0))] :: H) ∧ Own ty_Row 65 f84 A90 c91 s92 out89 ∧ catalog_At.l0 k vt65 vt41 n_ out89 x95 = some o80 ∧ a_ = ⟨#[.agg #[.slice A2 c1.Commits.length c3], iV version5, .pointer (some ⟨b8, 0, none⟩), uV, .slice none 0 0, iV 0, iV vt16, .map (mb A48), iV vt42, .slice A90 out89.length c91, uV, (j88 0), .agg #[.slice A2 c1.Commits.length c3], iV vt16, iV vt16, .bool false, uV, iV version5, .bool false, .bool false, iV version5, .pointer (some ⟨b8, 0, none⟩), .slice A2 c1.Commits.length c3, iV (c1.Commits.length : Int), .bool false, .bool false, .tuple #[.map (mb A48), iV vt42], .agg #[.slice A2 c1.Commits.length c3], iV version5, .tuple #[.map (mb A48), iV vt42], .map (mb A48), iV vt42, .map (mb A48), .func (.func 50) #[] #[.pointer (some ⟨b59, 0, none⟩)], .slice A67 vt65.length c68, iV (vt65.length : Int), iV x95, (j88 1), (j88 2), (j88 3), (j88 4), (j88 5), (j88 6), (j88 7), (j88 8), (j88 9), (j88 10), uV, uV], []⟩) k ⟨f44, none, 0, [], ([] : List S_Row), 0, (fun i_ => [undef, undef, undef, undef, undef, undef, undef, undef, undef, undef, undef].getD i_ undef), (FM.le.refl _), HS153, (Own.nil _), h, (by kernel_rfl)⟩ ?_
        clear h
        rintro n83 _ W86 ⟨f84, A90, c91, s92, out89, x95, j88, L85, HS87, HO93, h, rfl⟩ K81 hK82
        obtain _ | n83 := n83
        · exact nomatch h
        simp only [catalog_At.l0] at h
        refine wp_seq_k (fun K96 hK97 => ?_)
        refine wp_region_lit ?_
        refine seqS1 (a' := ⟨#[.agg #[.slice A2 c1.Commits.length c3], iV version5, .pointer (some ⟨b8, 0, none⟩), uV, .slice none 0 0, iV 0, iV vt16, .map (mb A48), iV vt42, .slice A90 out89.length c91, uV, (j88 0), .agg #[.slice A2 c1.Commits.length c3], iV vt16, iV vt16, .bool false, uV, iV version5, .bool false, .bool false, iV version5, .pointer (some ⟨b8, 0, none⟩), .slice A2 c1.Commits.length c3, iV (c1.Commits.length : Int), .bool false, .bool false, .tuple #[.map (mb A48), iV vt42], .agg #[.slice A2 c1.Commits.length c3], iV version5, .tuple #[.map (mb A48), iV vt42], .map (mb A48), iV vt42, .map (mb A48), .func (.func 50) #[] #[.pointer (some ⟨b59, 0, none⟩)], .slice A67 vt65.length c68, iV (vt65.length : Int), iV x95, .bool (decide (x95 < (vt65.length : Int))), (j88 2), (j88 3), (j88 4), (j88 5), (j88 6), (j88 7), (j88 8), (j88 9), (j88 10), uV, uV], []⟩) (by kernel_rfl) ?_
        refine wpList_nil ?_
        refine hK97 _ _ ?_
        refine wp_seq_k (fun K98 hK99 => ?_)
        have hq_ := ite_some h; clear h; rcases hq_ with ⟨c101, h⟩ | ⟨c101, h⟩
        · have c101 : x95 < (vt65.length : Int) := c101
          refine wpRwI 37 (x := (decide (x95 < (vt65.length : Int)))) (v := true) (by kernel_rfl) (decide_eq_true c101) ?_
          refine condT (by kernel_rfl) ?_
          refine wp_skip ?_
          refine hK99 _ _ ?_
          refine wp_seq_k (fun K102 hK103 => ?_)
          refine blockK (fun B104 hx105 hn106 hr107 ho108 hp109 => ?_)
          refine wp_seq_k (fun K111 hK112 => ?_)
          refine wp_region_lit ?_
          have hq_ := guard_some h; clear h; obtain ⟨c113, h⟩ := hq_
          have c113 : 0 ≤ x95 := c113
          obtain ⟨b117, of118, cs114, hA119, hr115, hc116⟩ := (HO72.mono L85).at (i := x95) c113 c101
          obtain rfl := hr115
          refine seqK rfl (does_run (run_indexE hA119 (sz := 1) rfl Try.underlying22 (by kernel_rfl) (by kernel_rfl : _ = Value.slice A67 vt65.length c68) (by kernel_rfl : _ = Value.int .i64 x95) c113 c101 W86) ?_)
          refine seqK rfl (does_run (run_load rfl Try.underlying3 rfl (by kernel_rfl : _ = Value.pointer (some ⟨b117, of118 + (x95 : Int).toNat * 1, none⟩)) ((hc116 HS87.u1) 0 (by decide))) ?_)
          refine seqS1 (a' := ⟨#[.agg #[.slice A2 c1.Commits.length c3], iV version5, .pointer (some ⟨b8, 0, none⟩), uV, .slice none 0 0, iV 0, iV vt16, .map (mb A48), iV vt42, .slice A90 out89.length c91, uV, iV (rd vt65 x95), .agg #[.slice A2 c1.Commits.length c3], iV vt16, iV vt16, .bool false, uV, iV version5, .bool false, .bool false, iV version5, .pointer (some ⟨b8, 0, none⟩), .slice A2 c1.Commits.length c3, iV (c1.Commits.length : Int), .bool false, .bool false, .tuple #[.map (mb A48), iV vt42], .agg #[.slice A2 c1.Commits.length c3], iV version5, .tuple #[.map (mb A48), iV vt42], .map (mb A48), iV vt42, .map (mb A48), .func (.func 50) #[] #[.pointer (some ⟨b59, 0, none⟩)], .slice A67 vt65.length c68, iV (vt65.length : Int), iV x95, .bool true, .pointer (some ⟨b117, of118 + (x95 : Int).toNat * 1, none⟩), iV (rd vt65 x95), (j88 4), (j88 5), (j88 6), (j88 7), (j88 8), (j88 9), (j88 10), uV, uV], []⟩) (by kernel_rfl) ?_
          refine wpList_nil ?_
          refine hK112 _ _ ?_
          refine wp_region_lit ?_
          obtain ⟨cs120, hr121, hl122⟩ := (HO51.mono L85).look (z := zero_Row) (zc := #[Value.int .i64 0, Value.int .i64 0, Value.int .i64 0, Value.bool false, Value.int .i64 0, Value.int .i64 0, Value.bool false, Value.int .i64 0, Value.int .i64 0, Value.bool false, Value.int .i64 0, Value.int .i64 0, Value.bool false, Value.int .i64 0, Value.int .i64 0, Value.bool false, Value.slice none 0 0, Value.int .i64 0]) (rd vt65 x95) ⟨none, 0, rfl, SlR.nil _ _⟩
          obtain ⟨A123, c123, rfl, HR123⟩ := hr121
          refine seqL3 (by kernel_rfl) ?_
          refine seqK rfl (does_run (hl122 (ok := false) rfl Try.underlying85 Try.underlying3 (by kernel_rfl) (by kernel_rfl : _ = Value.map (mb A48)) (by kernel_rfl : _ = Value.int .i64 (rd vt65 x95)) HS87.u3) ?_)
          refine seqK rfl (does_lit (e := ty_Row) (E := 65) (vs := #[(0, Value.agg #[.int .i64 ((mget zero_Row vt41 (rd vt65 x95)).ID), .int .i64 ((((mget zero_Row vt41 (rd vt65 x95)).Box).X).Lo), .int .i64 ((((mget zero_Row vt41 (rd vt65 x95)).Box).X).Hi), .bool ((((mget zero_Row vt41 (rd vt65 x95)).Box).X).Unknown), .int .i64 ((((mget zero_Row vt41 (rd vt65 x95)).Box).Y).Lo), .int .i64 ((((mget zero_Row vt41 (rd vt65 x95)).Box).Y).Hi), .bool ((((mget zero_Row vt41 (rd vt65 x95)).Box).Y).Unknown), .int .i64 ((((mget zero_Row vt41 (rd vt65 x95)).Box).Z).Lo), .int .i64 ((((mget zero_Row vt41 (rd vt65 x95)).Box).Z).Hi), .bool ((((mget zero_Row vt41 (rd vt65 x95)).Box).Z).Unknown), .int .i64 (((mget zero_Row vt41 (rd vt65 x95)).Flux).Lo), .int .i64 (((mget zero_Row vt41 (rd vt65 x95)).Flux).Hi), .bool (((mget zero_Row vt41 (rd vt65 x95)).Flux).Unknown), .int .i64 (((mget zero_Row vt41 (rd vt65 x95)).When).Lo), .int .i64 (((mget zero_Row vt41 (rd vt65 x95)).When).Hi), .bool (((mget zero_Row vt41 (rd vt65 x95)).When).Unknown), .slice A123 ((mget zero_Row vt41 (rd vt65 x95)).Frames).length c123, .int .i64 ((mget zero_Row vt41 (rd vt65 x95)).Marks)])]) (cs := #[.int .i64 ((mget zero_Row vt41 (rd vt65 x95)).ID), .int .i64 ((((mget zero_Row vt41 (rd vt65 x95)).Box).X).Lo), .int .i64 ((((mget zero_Row vt41 (rd vt65 x95)).Box).X).Hi), .bool ((((mget zero_Row vt41 (rd vt65 x95)).Box).X).Unknown), .int .i64 ((((mget zero_Row vt41 (rd vt65 x95)).Box).Y).Lo), .int .i64 ((((mget zero_Row vt41 (rd vt65 x95)).Box).Y).Hi), .bool ((((mget zero_Row vt41 (rd vt65 x95)).Box).Y).Unknown), .int .i64 ((((mget zero_Row vt41 (rd vt65 x95)).Box).Z).Lo), .int .i64 ((((mget zero_Row vt41 (rd vt65 x95)).Box).Z).Hi), .bool ((((mget zero_Row vt41 (rd vt65 x95)).Box).Z).Unknown), .int .i64 (((mget zero_Row vt41 (rd vt65 x95)).Flux).Lo), .int .i64 (((mget zero_Row vt41 (rd vt65 x95)).Flux).Hi), .bool (((mget zero_Row vt41 (rd vt65 x95)).Flux).Unknown), .int .i64 (((mget zero_Row vt41 (rd vt65 x95)).When).Lo), .int .i64 (((mget zero_Row vt41 (rd vt65 x95)).When).Hi), .bool (((mget zero_Row vt41 (rd vt65 x95)).When).Unknown), .slice A123 ((mget zero_Row vt41 (rd vt65 x95)).Frames).length c123, .int .i64 ((mget zero_Row vt41 (rd vt65 x95)).Marks)]) (xs := ([(mget zero_Row vt41 (rd vt65 x95))] : List S_Row)) rfl Try.underlying26 (by kernel_rfl) (by kernel_rfl) ⟨[.int .i64 ((mget zero_Row vt41 (rd vt65 x95)).ID), .int .i64 ((((mget zero_Row vt41 (rd vt65 x95)).Box).X).Lo), .int .i64 ((((mget zero_Row vt41 (rd vt65 x95)).Box).X).Hi), .bool ((((mget zero_Row vt41 (rd vt65 x95)).Box).X).Unknown), .int .i64 ((((mget zero_Row vt41 (rd vt65 x95)).Box).Y).Lo), .int .i64 ((((mget zero_Row vt41 (rd vt65 x95)).Box).Y).Hi), .bool ((((mget zero_Row vt41 (rd vt65 x95)).Box).Y).Unknown), .int .i64 ((((mget zero_Row vt41 (rd vt65 x95)).Box).Z).Lo), .int .i64 ((((mget zero_Row vt41 (rd vt65 x95)).Box).Z).Hi), .bool ((((mget zero_Row vt41 (rd vt65 x95)).Box).Z).Unknown), .int .i64 (((mget zero_Row vt41 (rd vt65 x95)).Flux).Lo), .int .i64 (((mget zero_Row vt41 (rd vt65 x95)).Flux).Hi), .bool (((mget zero_Row vt41 (rd vt65 x95)).Flux).Unknown), .int .i64 (((mget zero_Row vt41 (rd vt65 x95)).When).Lo), .int .i64 (((mget zero_Row vt41 (rd vt65 x95)).When).Hi), .bool (((mget zero_Row vt41 (rd vt65 x95)).When).Unknown), .slice A123 ((mget zero_Row vt41 (rd vt65 x95)).Frames).length c123, .int .i64 ((mget zero_Row vt41 (rd vt65 x95)).Marks)], _, rfl, ⟨A123, c123, rfl, HR123⟩, rfl⟩ rfl HS87 ?_ (by decide))
          intro b124 W125 s126 HS127 _ HO128
          have hq_ := guard_some h; clear h; obtain ⟨c130, h⟩ := hq_
          have c130 : (out89.length + 1) * 160 ≤ 140737488355328 := c130
          have HS131 := HS127.u1
          have HS132 := HS131.u1
          refine seqK rfl (does_append1 (e := ty_Row) (E := 65) (xs := out89) (ys := ([(mget zero_Row vt41 (rd vt65 x95))] : List S_Row)) rfl (by kernel_rfl : _ = Value.slice A90 out89.length c91) (by kernel_rfl : _ = Value.slice (some ⟨b124, 0, none⟩) ([(mget zero_Row vt41 (rd vt65 x95))] : List S_Row).length 1) Try.underlying26 inf65 HO93 HO128 HS132 c130 (lim63 c130 (by decide)) ?_)
          intro A133 c134 s135 W136 HS137 HO138
          refine seqS1 (a' := ⟨#[.agg #[.slice A2 c1.Commits.length c3], iV version5, .pointer (some ⟨b8, 0, none⟩), uV, .slice none 0 0, iV 0, iV vt16, .map (mb A48), iV vt42, .slice A133 (out89 ++ ([(mget zero_Row vt41 (rd vt65 x95))] : List S_Row)).length c134, uV, iV (rd vt65 x95), .agg #[.slice A2 c1.Commits.length c3], iV vt16, iV vt16, .bool false, uV, iV version5, .bool false, .bool false, iV version5, .pointer (some ⟨b8, 0, none⟩), .slice A2 c1.Commits.length c3, iV (c1.Commits.length : Int), .bool false, .bool false, .tuple #[.map (mb A48), iV vt42], .agg #[.slice A2 c1.Commits.length c3], iV version5, .tuple #[.map (mb A48), iV vt42], .map (mb A48), iV vt42, .map (mb A48), .func (.func 50) #[] #[.pointer (some ⟨b59, 0, none⟩)], .slice A67 vt65.length c68, iV (vt65.length : Int), iV x95, .bool true, .pointer (some ⟨b117, of118 + (x95 : Int).toNat * 1, none⟩), iV (rd vt65 x95), .slice A90 out89.length c91, .map (mb A48), iV (rd vt65 x95), (ag_Row (mget zero_Row vt41 (rd vt65 x95)) A123 c123), .slice (some ⟨b124, 0, none⟩) ([(mget zero_Row vt41 (rd vt65 x95))] : List S_Row).length 1, .slice A133 (out89 ++ ([(mget zero_Row vt41 (rd vt65 x95))] : List S_Row)).length c134, (j88 10), uV, uV], []⟩) (by kernel_rfl) ?_
          refine wpList_nil ?_
          refine hn106 _ _ ?_
          refine hK103 _ _ ?_
          refine wp_region_lit ?_
          refine seqS2 (a' := ⟨#[.agg #[.slice A2 c1.Commits.length c3], iV version5, .pointer (some ⟨b8, 0, none⟩), uV, .slice none 0 0, iV 0, iV vt16, .map (mb A48), iV vt42, .slice A133 (out89 ++ ([(mget zero_Row vt41 (rd vt65 x95))] : List S_Row)).length c134, uV, iV (rd vt65 x95), .agg #[.slice A2 c1.Commits.length c3], iV vt16, iV vt16, .bool false, uV, iV version5, .bool false, .bool false, iV version5, .pointer (some ⟨b8, 0, none⟩), .slice A2 c1.Commits.length c3, iV (c1.Commits.length : Int), .bool false, .bool false, .tuple #[.map (mb A48), iV vt42], .agg #[.slice A2 c1.Commits.length c3], iV version5, .tuple #[.map (mb A48), iV vt42], .map (mb A48), iV vt42, .map (mb A48), .func (.func 50) #[] #[.pointer (some ⟨b59, 0, none⟩)], .slice A67 vt65.length c68, iV (vt65.length : Int), iV (w64 (x95 + 1)), .bool true, .pointer (some ⟨b117, of118 + (x95 : Int).toNat * 1, none⟩), iV (rd vt65 x95), .slice A90 out89.length c91, .map (mb A48), iV (rd vt65 x95), (ag_Row (mget zero_Row vt41 (rd vt65 x95)) A123 c123), .slice (some ⟨b124, 0, none⟩) ([(mget zero_Row vt41 (rd vt65 x95))] : List S_Row).length 1, .slice A133 (out89 ++ ([(mget zero_Row vt41 (rd vt65 x95))] : List S_Row)).length c134, iV (w64 (x95 + 1)), uV, uV], []⟩) (by kernel_rfl) ?_
          refine wpList_nil ?_
          refine hK82 n83 _ _ (Nat.lt_succ_self _) ?_
          exact ⟨f84, A133, c134, s135, (out89 ++ ([(mget zero_Row vt41 (rd vt65 x95))] : List S_Row)), (w64 (x95 + 1)), (fun i_ => [Value.int .i64 (rd vt65 x95), Value.bool true, Value.pointer (some ⟨b117, of118 + (x95 : Int).toNat * 1, none⟩), Value.int .i64 (rd vt65 x95), Value.slice A90 out89.length c91, Value.map (mb A48), Value.int .i64 (rd vt65 x95), (ag_Row (mget zero_Row vt41 (rd vt65 x95)) A123 c123), Value.slice (some ⟨b124, 0, none⟩) ([(mget zero_Row vt41 (rd vt65 x95))] : List S_Row).length 1, Value.slice A133 (out89 ++ ([(mget zero_Row vt41 (rd vt65 x95))] : List S_Row)).length c134, Value.int .i64 (w64 (x95 + 1))].getD i_ undef), L85, HS137, HO138, h, (by kernel_rfl)⟩
        · have c101 : ¬ (x95 < (vt65.length : Int)) := c101
          refine wpRwI 37 (x := (decide (x95 < (vt65.length : Int)))) (v := false) (by kernel_rfl) (decide_eq_false c101) ?_
          refine condF (by kernel_rfl) ?_
          refine wp_exit ?_
          refine hx75 _ _ ?_
          exact J151 f84 A90 c91 s92 out89 (fun i_ => [(j88 0), Value.int .i64 x95, Value.bool false, (j88 2), (j88 3), (j88 4), (j88 5), (j88 6), (j88 7), (j88 8), (j88 9), (j88 10)].getD i_ undef) W86 _ L85 h HS87 HO93 (by kernel_rfl)

set_option maxRecDepth 100000 in
set_option maxHeartbeats 4000000 in
theorem spykeep3_single.calls (k : Nat)  (vid1 : Int) {t w : World} {f : FM} {H : List Seg} (HS : St t w f (H)) (rr1 : S_Row) (h : spykeep3_single k vid1 = some rr1) :
    Calls Try.prog 36 #[.int .i64 vid1] w (fun e w' => ∃ (g : FM) (A20 : Option Addr) (c21 : Nat) (s22 : Seg), e = .returned (Value.agg #[.int .i64 rr1.ID, .int .i64 rr1.Box.X.Lo, .int .i64 rr1.Box.X.Hi, .bool rr1.Box.X.Unknown, .int .i64 rr1.Box.Y.Lo, .int .i64 rr1.Box.Y.Hi, .bool rr1.Box.Y.Unknown, .int .i64 rr1.Box.Z.Lo, .int .i64 rr1.Box.Z.Hi, .bool rr1.Box.Z.Unknown, .int .i64 rr1.Flux.Lo, .int .i64 rr1.Flux.Hi, .bool rr1.Flux.Unknown, .int .i64 rr1.When.Lo, .int .i64 rr1.When.Hi, .bool rr1.When.Unknown, .slice A20 rr1.Frames.length c21, .int .i64 rr1.Marks]) ∧ FM.le f g ∧ St t w' g (s22 :: H) ∧ Own (tInt .i64) 3 g A20 c21 s22 rr1.Frames) := by
  unfold spykeep3_single at h
  refine enter Try.func36 rfl (tm := #[iV vid1, uV, uV, uV, uV, uV]) (by kernel_rfl) ?_
  intro B hret hnor hnp
  refine wp_seq_k (fun K2 hK3 => ?_)
  refine wp_region_lit ?_
  refine seqK rfl (does_alloc (z := Value.agg #[.int .i64 0, .int .i64 0, .int .i64 0, .bool false, .int .i64 0, .int .i64 0, .bool false, .int .i64 0, .int .i64 0, .bool false, .int .i64 0, .int .i64 0, .bool false, .int .i64 0, .int .i64 0, .bool false, .slice none 0 0, .int .i64 0]) (cs := #[.int .i64 0, .int .i64 0, .int .i64 0, .bool false, .int .i64 0, .int .i64 0, .bool false, .int .i64 0, .int .i64 0, .bool false, .int .i64 0, .int .i64 0, .bool false, .int .i64 0, .int .i64 0, .bool false, .slice none 0 0, .int .i64 0]) rfl (by kernel_rfl) rfl HS ?_)
  intro b4 W5 HS6
  refine wpList_nil ?_
  refine hK3 _ _ ?_
  refine wp_seq_k (fun K8 hK9 => ?_)
  refine wp_region_lit ?_
  refine seqL1 (by kernel_rfl) ?_
  refine seqK rfl (does_lit (e := (tInt .i64)) (E := 3) (vs := #[(0, Value.int .i64 1)]) (cs := #[.int .i64 1]) (xs := ([1] : List Int)) rfl Try.underlying22 (by kernel_rfl) (by kernel_rfl) ⟨[.int .i64 1], _, rfl, rfl, rfl⟩ rfl HS6 ?_ (by decide))
  intro b10 W11 s12 HS13 _ HO14
  have HS16 := HS13.u1
  refine seqL1 (by kernel_rfl) ?_
  refine seqK rfl (does_store (n := 18) (vs := [.int .i64 vid1, .int .i64 0, .int .i64 0, .bool false, .int .i64 0, .int .i64 0, .bool false, .int .i64 0, .int .i64 0, .bool false, .int .i64 0, .int .i64 0, .bool false, .int .i64 0, .int .i64 0, .bool false, .slice (some ⟨b10, 0, none⟩) ([1] : List Int).length 1, .int .i64 0]) (cs' := #[.int .i64 vid1, .int .i64 0, .int .i64 0, .bool false, .int .i64 0, .int .i64 0, .bool false, .int .i64 0, .int .i64 0, .bool false, .int .i64 0, .int .i64 0, .bool false, .int .i64 0, .int .i64 0, .bool false, .slice (some ⟨b10, 0, none⟩) ([1] : List Int).length 1, .int .i64 0]) rfl (by kernel_rfl) (by kernel_rfl : _ = Value.pointer (some ⟨b4, 0, none⟩)) (by kernel_rfl : _ = Value.agg #[.int .i64 vid1, .int .i64 0, .int .i64 0, .bool false, .int .i64 0, .int .i64 0, .bool false, .int .i64 0, .int .i64 0, .bool false, .int .i64 0, .int .i64 0, .bool false, .int .i64 0, .int .i64 0, .bool false, .slice (some ⟨b10, 0, none⟩) ([1] : List Int).length 1, .int .i64 0]) rfl rfl (by intro u_ hu_; simp only [List.mem_cons, List.not_mem_nil, or_false] at hu_; rcases hu_ with rfl | rfl | rfl | rfl | rfl | rfl | rfl | rfl | rfl | rfl | rfl | rfl | rfl | rfl | rfl | rfl | rfl | rfl <;> rfl) HS16 (Nat.le_of_ble_eq_true rfl) (by kernel_rfl) ?_)
  intro W17 HS18
  refine wpList_nil ?_
  refine hK9 _ _ ?_
  refine wp_ret ?_
  refine hret _ _ ?_
  refine ends (v := Value.agg #[.int .i64 vid1, .int .i64 0, .int .i64 0, .bool false, .int .i64 0, .int .i64 0, .bool false, .int .i64 0, .int .i64 0, .bool false, .int .i64 0, .int .i64 0, .bool false, .int .i64 0, .int .i64 0, .bool false, .slice (some ⟨b10, 0, none⟩) ([1] : List Int).length 1, .int .i64 0]) (results1 (q1 := .cell 2 65) (by kernel_rfl) (resN (n := 18) (cs := [.int .i64 vid1, .int .i64 0, .int .i64 0, .bool false, .int .i64 0, .int .i64 0, .bool false, .int .i64 0, .int .i64 0, .bool false, .int .i64 0, .int .i64 0, .bool false, .int .i64 0, .int .i64 0, .bool false, .slice (some ⟨b10, 0, none⟩) ([1] : List Int).length 1, .int .i64 0]) (by kernel_rfl : _ = Value.pointer (some ⟨b4, 0, none⟩)) Try.underlying65 rfl (by kernel_rfl) rfl (HS18.cells 0 18 _ rfl))) (by kernel_rfl) ?_
  have HS19 := HS18.drop
  injection h with h
  subst h
  exact ⟨f, (some ⟨b10, 0, none⟩), 1, s12, rfl, FM.le.refl _, HS19, HO14⟩

end Go.Sp.D3
