import Derived.Test.YtiofgpdfnhihhaaGreatDoorProg
import Derived.Test.YtiofgpdfnhihhaaGreatDoorSpCopy
import Derived.Test.YtiofgpdfnhihhaaGreatDoorFF3
import Derived.Test.YtiofgpdfnhihhaaGreatDoorSpStr
import Derived.Test.YtiofgpdfnhihhaaGreatDoorSpLib
import Derived.Test.YtiofgpdfnhihhaaGreatDoorSpBld
import Derived.Test.YtiofgpdfnhihhaaGreatDoorConv
import Derived.Test.YtiofgpdfnhihhaaGreatDoorLibs
import Derived.Test.YtiofgpdfnhihhaaGreatDoorSpGrow
import Derived.Test.YtiofgpdfnhihhaaGreatDoorSpRound
import Derived.Test.YtiofgpdfnhihhaaGreatDoorKF3n0
import Derived.Test.YtiofgpdfnhihhaaGreatDoorKF3n1
namespace Go.Sp.F3
open Go Go.Sp Go.Proofs
set_option linter.unusedVariables false
attribute [local irreducible] wpList AnyL Code.wp Calls Does Code.wpIn wpListIn CallsIn bodyPostM LeavesInM
set_option maxRecDepth 100000 in
set_option maxHeartbeats 4000000 in
theorem frame_all__frame_inked.calls (k : Nat)  (s1 : ByteArray) {t w : World} {f : FM} {H : List Seg} (HS : St t w f (H)) (rr1 : Bool) (h : frame_all__frame_inked k s1 = some rr1) :
    Calls Tryz.prog 49 #[.string s1, .func (.func 52) #[] #[]] w (fun e w' => ∃ (g : FM), e = .returned (Value.bool rr1) ∧ FM.le f g ∧ St t w' g (H)) := by
 unfold frame_all__frame_inked at h
 refine enter Tryz.func49 rfl (tm := #[.string s1, .func (.func 52) #[] #[], uV, uV, uV, uV, uV, uV, uV, uV, uV, uV, uV, uV, uV, uV, uV, uV]) kr ?_
 intro B hret hnor hnp
 refine wp_seq_k fun K2 hK3 => rl ?_
 refine seqL1 kr ?_
 refine nl (hK3 _ _ ?_)
 refine wp_seq_k (fun K4 hK5 => ?_)
 refine wp_seq_k fun K6 hK7 => rl ?_
 refine seqL3 kr ?_
 refine nl (hK7 _ _ ?_)
 refine blockK (fun B8 hx9 hn10 hr11 ho12 hp13 => ?_)
 have hq_ := bind_some h; clear h; obtain ⟨o14, hv59, h⟩ := hq_
 have JR61 : ∀ z_, some (Sum.inl z_) = some o14 → some z_ = some rr1 := by
  intro z_ e_; injection e_ with e_; subst e_; exact h
 have J60 : ∀ (f54 : FM) (j58 : Nat → Value) (W56 : World) (a_ : Act), FM.le f f54 → some (Sum.inr ()) = some o14 → St t W56 f54 (H) → a_ = ⟨#[.string s1, .func (.func 52) #[] #[], uV, uV, (j58 0), (j58 1), .string s1, iV (s1.size : Int), (j58 2), (j58 3), (j58 4), (j58 5), (j58 6), (j58 7), (j58 8), (j58 9), (j58 10), (j58 11)], []⟩ → K4 a_ W56 := by
  intro f54 j58 W56 a_ L55 hj62 HS57  hfr_; subst hfr_
  injection hj62 with hj62; subst hj62; try dsimp only at h
  simp only [Sum.elim_inr] at h
  refine hK5 _ _ ?_
  refine wp_seq_k fun K63 hK64 => rl ?_
  refine seqL1 kr ?_
  refine nl (hK64 _ _ ?_)
  refine wp_ret ?_
  refine hret _ _ ?_
  refine ends_still (v := Value.bool true) kr kr ?_
  injection h with h
  subst h
  exact ⟨f54, rfl, L55, HS57⟩
 clear h; have h := hv59; clear hv59
 refine loopK (fun n_ a_ w_ => ∃ (f18 : FM) (x23 : Int) (j22 : Nat → Value), FM.le f f18 ∧ St t w_ f18 (H) ∧ frame_all__frame_inked.l0 k s1 n_ x23 = some o14 ∧ a_ = ⟨#[.string s1, .func (.func 52) #[] #[], uV, uV, (j22 0), (j22 1), .string s1, iV (s1.size : Int), iV x23, (j22 2), (j22 3), (j22 4), (j22 5), (j22 6), (j22 7), (j22 8), (j22 9), (j22 10)], []⟩) k ⟨f, 0, (jL [fV]), fL, HS, h, kr⟩ ?_
 clear h
 rintro n17 _ W20 ⟨f18, x23, j22, L19, HS21, h, rfl⟩ K15 hK16
 obtain _ | n17 := n17
 · exact nomatch h
 simp only [frame_all__frame_inked.l0] at h
 refine wp_seq_k fun K24 hK25 => rl ?_
 refine seqL1 kr ?_
 refine nl (hK25 _ _ ?_)
 refine wp_seq_k (fun K26 hK27 => ?_)
 have hq_ := ite_some h; clear h; rcases hq_ with ⟨c29, h⟩ | ⟨c29, h⟩
 · have c29 : x23 < (s1.size : Int) := c29
   refine wpRwI 9 kr (decide_eq_true c29) ?_
   refine condT kr ?_
   refine wp_skip ?_
   refine hK27 _ _ ?_
   refine wp_seq_k (fun K30 hK31 => ?_)
   refine blockK (fun B32 hx33 hn34 hr35 ho36 hp37 => ?_)
   refine wp_seq_k fun K39 hK40 => rl ?_
   refine seqL2 kr ?_
   refine nl (hK40 _ _ ?_)
   refine wp_seq_k fun K41 hK42 => rl ?_
   have hq_ := guard_some h; clear h; obtain ⟨c43, h⟩ := hq_
   have c43 : 0 ≤ x23 := c43
   refine seqL3 kr ?_
   refine seqK rfl (does_run (run_byte rfl Tryz.underlying9 (kv (.string s1)) (kv (.int .i64 x23)) c43 c29 W20) ?_)
   have hq_ := bind_some h; clear h; obtain ⟨vt44, hc45, h⟩ := hq_
   refine seqK rfl (does_call (f := 52) (args := #[.int .u8 (bt s1 x23)]) kr (frame_inked.calls k (bt s1 x23) HS21 vt44 hc45) ?_)
   rintro _ W48 ⟨f46, rfl, L47, HS49⟩
   refine ⟨_, rfl, ?_⟩
   refine seqL1 kr ?_
   refine nl (hK42 _ _ ?_)
   have hq_ := ite_some h; clear h; rcases hq_ with ⟨c51, h⟩ | ⟨c51, h⟩
   · have c51 : ¬ (vt44 = true) := c51
     refine wpRwI 16 kr (congrArg (fun b_ => !b_) (show vt44 = false from (Bool.eq_false_iff.mpr c51)) : (!vt44) = true) ?_
     refine condT kr ?_
     refine wp_seq_k fun K52 hK53 => rl ?_
     refine seqL1 kr ?_
     refine nl (hK53 _ _ ?_)
     refine wp_ret ?_
     refine hr35 _ _ ?_
     refine hr11 _ _ ?_
     refine hret _ _ ?_
     refine ends_still (v := Value.bool false) kr kr ?_
     replace h := JR61 _ h
     injection h with h
     subst h
     exact ⟨f46, rfl, (L19.trans L47), HS49⟩
   · have c51 : ¬ (¬ (vt44 = true)) := c51
     refine wpRwI 16 (x := (!vt44)) (v := false) kr (congrArg (fun b_ => !b_) (show vt44 = true from (Decidable.of_not_not c51)) : (!vt44) = false) ?_
     refine condF kr ?_
     refine wp_skip ?_
     refine hn34 _ _ ?_
     refine hK31 _ _ ?_
     refine rl ?_
     refine seqL2 kr ?_
     refine nl ?_
     refine hK16 n17 _ _ (Nat.lt_succ_self _) ?_
     exact ⟨f46, (w64 (x23 + 1)), (jL [(j22 0), iV x23, tV, iV x23, .func (.func 52) #[] #[], .string s1, iV x23, .int .u8 (bt s1 x23), .bool vt44, fV, iV (w64 (x23 + 1))]), (L19.trans L47), HS49, h, kr⟩
 · have c29 : ¬ (x23 < (s1.size : Int)) := c29
   refine wpRwI 9 kr (decide_eq_false c29) ?_
   refine condF kr ?_
   refine wp_exit ?_
   refine hx9 _ _ ?_
   exact J60 f18 (jL [(j22 0), (j22 1), iV x23, fV, (j22 3), (j22 4), (j22 5), (j22 6), (j22 7), (j22 8), (j22 9), (j22 10)]) W20 _ L19 h HS21 kr

set_option maxRecDepth 100000 in
set_option maxHeartbeats 4000000 in
theorem frame_lower.calls (k : Nat)  (c1 : Int) {t w : World} {f : FM} {H : List Seg} (HS : St t w f (H)) (rr1 : Bool) (h : frame_lower k c1 = some rr1) :
    Calls Tryz.prog 53 #[.int .u8 c1] w (fun e w' => ∃ (g : FM), e = .returned (Value.bool rr1) ∧ FM.le f g ∧ St t w' g (H)) := by
 unfold frame_lower at h
 refine enter Tryz.func53 rfl (tm := #[.int .u8 c1, uV, uV, uV, uV, uV, uV, uV, uV]) kr ?_
 intro B hret hnor hnp
 refine wp_seq_k fun K2 hK3 => rl ?_
 refine seqL1 kr ?_
 refine nl (hK3 _ _ ?_)
 refine wp_seq_k fun K4 hK5 => rl ?_
 refine seqL3 kr ?_
 have hq_ := ite_some h; clear h; rcases hq_ with ⟨c6, h⟩ | ⟨c6, h⟩
 · have c6 : c1 ≥ 97 := c6
   refine seqRwI 4 kr (decide_eq_true c6) ?_
   refine seqRwI 5 kr (decide_eq_true c6) ?_
   refine seqL4 kr ?_
   refine nl (hK5 _ _ ?_)
   refine wp_ret ?_
   refine hret _ _ ?_
   refine ends_still (v := Value.bool (decide (c1 ≤ 122))) kr kr ?_
   injection h with h
   subst h
   exact ⟨f, rfl, FM.le.refl _, HS⟩
 · have c6 : ¬ (c1 ≥ 97) := c6
   refine seqRwI 4 kr (decide_eq_false c6) ?_
   refine seqRwI 5 kr (decide_eq_false c6) ?_
   refine seqL4 kr ?_
   refine nl (hK5 _ _ ?_)
   refine wp_ret ?_
   refine hret _ _ ?_
   refine ends_still (v := Value.bool false) kr kr ?_
   injection h with h
   subst h
   exact ⟨f, rfl, FM.le.refl _, HS⟩

set_option maxRecDepth 100000 in
set_option maxHeartbeats 4000000 in
theorem frame_all__frame_lower.calls (k : Nat)  (s1 : ByteArray) {t w : World} {f : FM} {H : List Seg} (HS : St t w f (H)) (rr1 : Bool) (h : frame_all__frame_lower k s1 = some rr1) :
    Calls Tryz.prog 49 #[.string s1, .func (.func 53) #[] #[]] w (fun e w' => ∃ (g : FM), e = .returned (Value.bool rr1) ∧ FM.le f g ∧ St t w' g (H)) := by
 unfold frame_all__frame_lower at h
 refine enter Tryz.func49 rfl (tm := #[.string s1, .func (.func 53) #[] #[], uV, uV, uV, uV, uV, uV, uV, uV, uV, uV, uV, uV, uV, uV, uV, uV]) kr ?_
 intro B hret hnor hnp
 refine wp_seq_k fun K2 hK3 => rl ?_
 refine seqL1 kr ?_
 refine nl (hK3 _ _ ?_)
 refine wp_seq_k (fun K4 hK5 => ?_)
 refine wp_seq_k fun K6 hK7 => rl ?_
 refine seqL3 kr ?_
 refine nl (hK7 _ _ ?_)
 refine blockK (fun B8 hx9 hn10 hr11 ho12 hp13 => ?_)
 have hq_ := bind_some h; clear h; obtain ⟨o14, hv59, h⟩ := hq_
 have JR61 : ∀ z_, some (Sum.inl z_) = some o14 → some z_ = some rr1 := by
  intro z_ e_; injection e_ with e_; subst e_; exact h
 have J60 : ∀ (f54 : FM) (j58 : Nat → Value) (W56 : World) (a_ : Act), FM.le f f54 → some (Sum.inr ()) = some o14 → St t W56 f54 (H) → a_ = ⟨#[.string s1, .func (.func 53) #[] #[], uV, uV, (j58 0), (j58 1), .string s1, iV (s1.size : Int), (j58 2), (j58 3), (j58 4), (j58 5), (j58 6), (j58 7), (j58 8), (j58 9), (j58 10), (j58 11)], []⟩ → K4 a_ W56 := by
  intro f54 j58 W56 a_ L55 hj62 HS57  hfr_; subst hfr_
  injection hj62 with hj62; subst hj62; try dsimp only at h
  simp only [Sum.elim_inr] at h
  refine hK5 _ _ ?_
  refine wp_seq_k fun K63 hK64 => rl ?_
  refine seqL1 kr ?_
  refine nl (hK64 _ _ ?_)
  refine wp_ret ?_
  refine hret _ _ ?_
  refine ends_still (v := Value.bool true) kr kr ?_
  injection h with h
  subst h
  exact ⟨f54, rfl, L55, HS57⟩
 clear h; have h := hv59; clear hv59
 refine loopK (fun n_ a_ w_ => ∃ (f18 : FM) (x23 : Int) (j22 : Nat → Value), FM.le f f18 ∧ St t w_ f18 (H) ∧ frame_all__frame_lower.l0 k s1 n_ x23 = some o14 ∧ a_ = ⟨#[.string s1, .func (.func 53) #[] #[], uV, uV, (j22 0), (j22 1), .string s1, iV (s1.size : Int), iV x23, (j22 2), (j22 3), (j22 4), (j22 5), (j22 6), (j22 7), (j22 8), (j22 9), (j22 10)], []⟩) k ⟨f, 0, (jL [fV]), fL, HS, h, kr⟩ ?_
 clear h
 rintro n17 _ W20 ⟨f18, x23, j22, L19, HS21, h, rfl⟩ K15 hK16
 obtain _ | n17 := n17
 · exact nomatch h
 simp only [frame_all__frame_lower.l0] at h
 refine wp_seq_k fun K24 hK25 => rl ?_
 refine seqL1 kr ?_
 refine nl (hK25 _ _ ?_)
 refine wp_seq_k (fun K26 hK27 => ?_)
 have hq_ := ite_some h; clear h; rcases hq_ with ⟨c29, h⟩ | ⟨c29, h⟩
 · have c29 : x23 < (s1.size : Int) := c29
   refine wpRwI 9 kr (decide_eq_true c29) ?_
   refine condT kr ?_
   refine wp_skip ?_
   refine hK27 _ _ ?_
   refine wp_seq_k (fun K30 hK31 => ?_)
   refine blockK (fun B32 hx33 hn34 hr35 ho36 hp37 => ?_)
   refine wp_seq_k fun K39 hK40 => rl ?_
   refine seqL2 kr ?_
   refine nl (hK40 _ _ ?_)
   refine wp_seq_k fun K41 hK42 => rl ?_
   have hq_ := guard_some h; clear h; obtain ⟨c43, h⟩ := hq_
   have c43 : 0 ≤ x23 := c43
   refine seqL3 kr ?_
   refine seqK rfl (does_run (run_byte rfl Tryz.underlying9 (kv (.string s1)) (kv (.int .i64 x23)) c43 c29 W20) ?_)
   have hq_ := bind_some h; clear h; obtain ⟨vt44, hc45, h⟩ := hq_
   refine seqK rfl (does_call (f := 53) (args := #[.int .u8 (bt s1 x23)]) kr (frame_lower.calls k (bt s1 x23) HS21 vt44 hc45) ?_)
   rintro _ W48 ⟨f46, rfl, L47, HS49⟩
   refine ⟨_, rfl, ?_⟩
   refine seqL1 kr ?_
   refine nl (hK42 _ _ ?_)
   have hq_ := ite_some h; clear h; rcases hq_ with ⟨c51, h⟩ | ⟨c51, h⟩
   · have c51 : ¬ (vt44 = true) := c51
     refine wpRwI 16 kr (congrArg (fun b_ => !b_) (show vt44 = false from (Bool.eq_false_iff.mpr c51)) : (!vt44) = true) ?_
     refine condT kr ?_
     refine wp_seq_k fun K52 hK53 => rl ?_
     refine seqL1 kr ?_
     refine nl (hK53 _ _ ?_)
     refine wp_ret ?_
     refine hr35 _ _ ?_
     refine hr11 _ _ ?_
     refine hret _ _ ?_
     refine ends_still (v := Value.bool false) kr kr ?_
     replace h := JR61 _ h
     injection h with h
     subst h
     exact ⟨f46, rfl, (L19.trans L47), HS49⟩
   · have c51 : ¬ (¬ (vt44 = true)) := c51
     refine wpRwI 16 (x := (!vt44)) (v := false) kr (congrArg (fun b_ => !b_) (show vt44 = true from (Decidable.of_not_not c51)) : (!vt44) = false) ?_
     refine condF kr ?_
     refine wp_skip ?_
     refine hn34 _ _ ?_
     refine hK31 _ _ ?_
     refine rl ?_
     refine seqL2 kr ?_
     refine nl ?_
     refine hK16 n17 _ _ (Nat.lt_succ_self _) ?_
     exact ⟨f46, (w64 (x23 + 1)), (jL [(j22 0), iV x23, tV, iV x23, .func (.func 53) #[] #[], .string s1, iV x23, .int .u8 (bt s1 x23), .bool vt44, fV, iV (w64 (x23 + 1))]), (L19.trans L47), HS49, h, kr⟩
 · have c29 : ¬ (x23 < (s1.size : Int)) := c29
   refine wpRwI 9 kr (decide_eq_false c29) ?_
   refine condF kr ?_
   refine wp_exit ?_
   refine hx9 _ _ ?_
   exact J60 f18 (jL [(j22 0), (j22 1), iV x23, fV, (j22 3), (j22 4), (j22 5), (j22 6), (j22 7), (j22 8), (j22 9), (j22 10)]) W20 _ L19 h HS21 kr

set_option maxRecDepth 100000 in
set_option maxHeartbeats 4000000 in
theorem frame_typed.calls (k : Nat)  (c1 : Int) {t w : World} {f : FM} {H : List Seg} (HS : St t w f (H)) (rr1 : Bool) (h : frame_typed k c1 = some rr1) :
    Calls Tryz.prog 54 #[.int .u8 c1] w (fun e w' => ∃ (g : FM), e = .returned (Value.bool rr1) ∧ FM.le f g ∧ St t w' g (H)) := by
 unfold frame_typed at h
 refine enter Tryz.func54 rfl (tm := #[.int .u8 c1, uV, uV, uV, uV, uV, uV, uV, uV]) kr ?_
 intro B hret hnor hnp
 refine wp_seq_k fun K2 hK3 => rl ?_
 refine seqL1 kr ?_
 refine nl (hK3 _ _ ?_)
 refine wp_seq_k fun K4 hK5 => rl ?_
 refine seqL3 kr ?_
 have hq_ := ite_some h; clear h; rcases hq_ with ⟨c6, h⟩ | ⟨c6, h⟩
 · have c6 : c1 ≥ 32 := c6
   refine seqRwI 4 kr (decide_eq_true c6) ?_
   refine seqRwI 5 kr (decide_eq_true c6) ?_
   refine seqL4 kr ?_
   refine nl (hK5 _ _ ?_)
   refine wp_ret ?_
   refine hret _ _ ?_
   refine ends_still (v := Value.bool (decide (c1 ≤ 126))) kr kr ?_
   injection h with h
   subst h
   exact ⟨f, rfl, FM.le.refl _, HS⟩
 · have c6 : ¬ (c1 ≥ 32) := c6
   refine seqRwI 4 kr (decide_eq_false c6) ?_
   refine seqRwI 5 kr (decide_eq_false c6) ?_
   refine seqL4 kr ?_
   refine nl (hK5 _ _ ?_)
   refine wp_ret ?_
   refine hret _ _ ?_
   refine ends_still (v := Value.bool false) kr kr ?_
   injection h with h
   subst h
   exact ⟨f, rfl, FM.le.refl _, HS⟩

set_option maxRecDepth 100000 in
set_option maxHeartbeats 4000000 in
theorem frame_all__frame_typed.calls (k : Nat)  (s1 : ByteArray) {t w : World} {f : FM} {H : List Seg} (HS : St t w f (H)) (rr1 : Bool) (h : frame_all__frame_typed k s1 = some rr1) :
    Calls Tryz.prog 49 #[.string s1, .func (.func 54) #[] #[]] w (fun e w' => ∃ (g : FM), e = .returned (Value.bool rr1) ∧ FM.le f g ∧ St t w' g (H)) := by
 unfold frame_all__frame_typed at h
 refine enter Tryz.func49 rfl (tm := #[.string s1, .func (.func 54) #[] #[], uV, uV, uV, uV, uV, uV, uV, uV, uV, uV, uV, uV, uV, uV, uV, uV]) kr ?_
 intro B hret hnor hnp
 refine wp_seq_k fun K2 hK3 => rl ?_
 refine seqL1 kr ?_
 refine nl (hK3 _ _ ?_)
 refine wp_seq_k (fun K4 hK5 => ?_)
 refine wp_seq_k fun K6 hK7 => rl ?_
 refine seqL3 kr ?_
 refine nl (hK7 _ _ ?_)
 refine blockK (fun B8 hx9 hn10 hr11 ho12 hp13 => ?_)
 have hq_ := bind_some h; clear h; obtain ⟨o14, hv59, h⟩ := hq_
 have JR61 : ∀ z_, some (Sum.inl z_) = some o14 → some z_ = some rr1 := by
  intro z_ e_; injection e_ with e_; subst e_; exact h
 have J60 : ∀ (f54 : FM) (j58 : Nat → Value) (W56 : World) (a_ : Act), FM.le f f54 → some (Sum.inr ()) = some o14 → St t W56 f54 (H) → a_ = ⟨#[.string s1, .func (.func 54) #[] #[], uV, uV, (j58 0), (j58 1), .string s1, iV (s1.size : Int), (j58 2), (j58 3), (j58 4), (j58 5), (j58 6), (j58 7), (j58 8), (j58 9), (j58 10), (j58 11)], []⟩ → K4 a_ W56 := by
  intro f54 j58 W56 a_ L55 hj62 HS57  hfr_; subst hfr_
  injection hj62 with hj62; subst hj62; try dsimp only at h
  simp only [Sum.elim_inr] at h
  refine hK5 _ _ ?_
  refine wp_seq_k fun K63 hK64 => rl ?_
  refine seqL1 kr ?_
  refine nl (hK64 _ _ ?_)
  refine wp_ret ?_
  refine hret _ _ ?_
  refine ends_still (v := Value.bool true) kr kr ?_
  injection h with h
  subst h
  exact ⟨f54, rfl, L55, HS57⟩
 clear h; have h := hv59; clear hv59
 refine loopK (fun n_ a_ w_ => ∃ (f18 : FM) (x23 : Int) (j22 : Nat → Value), FM.le f f18 ∧ St t w_ f18 (H) ∧ frame_all__frame_typed.l0 k s1 n_ x23 = some o14 ∧ a_ = ⟨#[.string s1, .func (.func 54) #[] #[], uV, uV, (j22 0), (j22 1), .string s1, iV (s1.size : Int), iV x23, (j22 2), (j22 3), (j22 4), (j22 5), (j22 6), (j22 7), (j22 8), (j22 9), (j22 10)], []⟩) k ⟨f, 0, (jL [fV]), fL, HS, h, kr⟩ ?_
 clear h
 rintro n17 _ W20 ⟨f18, x23, j22, L19, HS21, h, rfl⟩ K15 hK16
 obtain _ | n17 := n17
 · exact nomatch h
 simp only [frame_all__frame_typed.l0] at h
 refine wp_seq_k fun K24 hK25 => rl ?_
 refine seqL1 kr ?_
 refine nl (hK25 _ _ ?_)
 refine wp_seq_k (fun K26 hK27 => ?_)
 have hq_ := ite_some h; clear h; rcases hq_ with ⟨c29, h⟩ | ⟨c29, h⟩
 · have c29 : x23 < (s1.size : Int) := c29
   refine wpRwI 9 kr (decide_eq_true c29) ?_
   refine condT kr ?_
   refine wp_skip ?_
   refine hK27 _ _ ?_
   refine wp_seq_k (fun K30 hK31 => ?_)
   refine blockK (fun B32 hx33 hn34 hr35 ho36 hp37 => ?_)
   refine wp_seq_k fun K39 hK40 => rl ?_
   refine seqL2 kr ?_
   refine nl (hK40 _ _ ?_)
   refine wp_seq_k fun K41 hK42 => rl ?_
   have hq_ := guard_some h; clear h; obtain ⟨c43, h⟩ := hq_
   have c43 : 0 ≤ x23 := c43
   refine seqL3 kr ?_
   refine seqK rfl (does_run (run_byte rfl Tryz.underlying9 (kv (.string s1)) (kv (.int .i64 x23)) c43 c29 W20) ?_)
   have hq_ := bind_some h; clear h; obtain ⟨vt44, hc45, h⟩ := hq_
   refine seqK rfl (does_call (f := 54) (args := #[.int .u8 (bt s1 x23)]) kr (frame_typed.calls k (bt s1 x23) HS21 vt44 hc45) ?_)
   rintro _ W48 ⟨f46, rfl, L47, HS49⟩
   refine ⟨_, rfl, ?_⟩
   refine seqL1 kr ?_
   refine nl (hK42 _ _ ?_)
   have hq_ := ite_some h; clear h; rcases hq_ with ⟨c51, h⟩ | ⟨c51, h⟩
   · have c51 : ¬ (vt44 = true) := c51
     refine wpRwI 16 kr (congrArg (fun b_ => !b_) (show vt44 = false from (Bool.eq_false_iff.mpr c51)) : (!vt44) = true) ?_
     refine condT kr ?_
     refine wp_seq_k fun K52 hK53 => rl ?_
     refine seqL1 kr ?_
     refine nl (hK53 _ _ ?_)
     refine wp_ret ?_
     refine hr35 _ _ ?_
     refine hr11 _ _ ?_
     refine hret _ _ ?_
     refine ends_still (v := Value.bool false) kr kr ?_
     replace h := JR61 _ h
     injection h with h
     subst h
     exact ⟨f46, rfl, (L19.trans L47), HS49⟩
   · have c51 : ¬ (¬ (vt44 = true)) := c51
     refine wpRwI 16 (x := (!vt44)) (v := false) kr (congrArg (fun b_ => !b_) (show vt44 = true from (Decidable.of_not_not c51)) : (!vt44) = false) ?_
     refine condF kr ?_
     refine wp_skip ?_
     refine hn34 _ _ ?_
     refine hK31 _ _ ?_
     refine rl ?_
     refine seqL2 kr ?_
     refine nl ?_
     refine hK16 n17 _ _ (Nat.lt_succ_self _) ?_
     exact ⟨f46, (w64 (x23 + 1)), (jL [(j22 0), iV x23, tV, iV x23, .func (.func 54) #[] #[], .string s1, iV x23, .int .u8 (bt s1 x23), .bool vt44, fV, iV (w64 (x23 + 1))]), (L19.trans L47), HS49, h, kr⟩
 · have c29 : ¬ (x23 < (s1.size : Int)) := c29
   refine wpRwI 9 kr (decide_eq_false c29) ?_
   refine condF kr ?_
   refine wp_exit ?_
   refine hx9 _ _ ?_
   exact J60 f18 (jL [(j22 0), (j22 1), iV x23, fV, (j22 3), (j22 4), (j22 5), (j22 6), (j22 7), (j22 8), (j22 9), (j22 10)]) W20 _ L19 h HS21 kr

theorem strings_TrimSpace.calls (k : Nat) (s : ByteArray) {t w : World} {f : FM} {H : List Seg} (HS : St t w f H) (HA : TabF Tryz.prog "strings.asciiSpace" .u8 Go.Lib.asciiSpaceTab f) (r1 : ByteArray) (h : strings_TrimSpace k s = some r1) :
    Calls Tryz.prog 55 #[.string s] w (fun e w' => ∃ (g : FM), e = .returned (Value.string r1) ∧ FM.le f g ∧ St t w' g H) := by
  unfold strings_TrimSpace at h
  have hq_ := guard_some h; clear h; obtain ⟨h1, h⟩ := hq_
  have hq_ := guard_some h; clear h; obtain ⟨h2, h⟩ := hq_
  injection h with h; subst h
  exact lib_calls (Tryz.strings_TrimSpace s w h1 (fun j b hj => of_decide_eq_true (List.all_eq_true.mp h2 b (List.mem_of_getElem? hj))) (HA.tab HS)) q_bytes HS

theorem strings_Repeat.calls (k : Nat) (s : ByteArray) (n : Int) {t w : World} {f : FM} {H : List Seg} (HS : St t w f H) (r1 : ByteArray) (h : strings_Repeat k s n = some r1) :
    Calls Tryz.prog 61 #[.string s, .int .i64 n] w (fun e w' => ∃ (g : FM), e = .returned (Value.string r1) ∧ FM.le f g ∧ St t w' g H) := by
  unfold strings_Repeat at h
  have hq_ := guard_some h; clear h; obtain ⟨h1, h⟩ := hq_
  have hq_ := guard_some h; clear h; obtain ⟨h2, h⟩ := hq_
  have hq_ := guard_some h; clear h; obtain ⟨h3, h⟩ := hq_
  injection h with h; subst h
  obtain ⟨m_, rfl⟩ : ∃ m_ : Nat, n = m_ := ⟨n.toNat, by omega⟩
  exact lib_calls (Tryz.strings_Repeat s m_ w (by omega) (by simpa using h2)) q_below HS

set_option maxRecDepth 100000 in
set_option maxHeartbeats 4000000 in
theorem frame_text.calls (k : Nat)  (c1 : S_Card) {t w : World} {f : FM} {H : List Seg} (HS : St t w f (H)) (rr1 : ByteArray) (h : frame_text k c1 = some rr1) :
    Calls Tryz.prog 56 #[.agg #[.string c1.Key, .string c1.Value, .string c1.Unit, .string c1.Note]] w (fun e w' => ∃ (g : FM), e = .returned (Value.string rr1) ∧ FM.le f g ∧ St t w' g (H)) := by
 unfold frame_text at h
 refine enter Tryz.func56 rfl (tm := #[(ag_Card c1), uV, uV, uV, uV, uV, uV, uV, uV, uV, uV, uV, uV, uV, uV, uV, uV, uV, uV, uV, uV, uV, uV, uV, uV, uV, uV, uV, uV, uV, uV, uV, uV, uV, uV]) kr ?_
 intro B hret hnor hnp
 refine wp_seq_k fun K2 hK3 => rl ?_
 refine seqK rfl (does_box (cs := #[.string c1.Key, .string c1.Value, .string c1.Unit, .string c1.Note]) rfl (kv (.agg #[.string c1.Key, .string c1.Value, .string c1.Unit, .string c1.Note])) rfl HS ?_)
 intro b4 W5 HS6
 refine seqL1 kr ?_
 refine nl (hK3 _ _ ?_)
 refine wp_seq_k (fun K8 hK9 => ?_)
 refine heldG (S := Sg t f ([(b4, .cells #[.string c1.Key, .string c1.Value, .string c1.Unit, .string c1.Note] 70 (0, 0))] :: H) []) (n := 14) kr rfl HS6 ?_
 intro W10 HS11
 refine takeGL [0] (n := 14) (fuel := 13) #[true, false, false, false, false, false, false, false, false, false, false, false, false, false] rfl kr kr kr hnp (Sg.g0 (Sx.of [] fL HS11)) ?_
 refine takeGQ 1 [] rfl kr kr kr kr kr kr hnp (Sg.g0 (Sx.of [] fL HS11)) (fun w_ hw_ => by obtain ⟨g_, hl_, hS_⟩ := hw_.st; exact run_load rfl Tryz.underlying9 rfl (kv (.pointer (some ⟨b4, 0, none⟩))) (hS_.cell 0)) ?_
 refine takeGL [2] (n := 12) (fuel := 11) #[true, true, true, false, false, false, false, false, false, false, false, false, false, false] rfl kr kr kr hnp (Sg.g0 (Sx.of [] fL HS11)) ?_
 refine takeGQ 3 [] rfl kr kr kr kr kr kr hnp (Sg.g0 (Sx.of [] fL HS11)) (fun w_ hw_ => by obtain ⟨g_, hl_, hS_⟩ := hw_.st; exact run_load rfl Tryz.underlying9 rfl (kv (.pointer (some ⟨b4, 0, none⟩))) (hS_.cell 0)) ?_
 refine takeGL [4, 5, 6, 10] (n := 10) (fuel := 6) #[true, true, true, true, true, true, true, false, false, false, true, false, false, false] rfl kr kr kr hnp (Sg.g0 (Sx.of [] fL HS11)) ?_
 refine takeGQ 11 [] rfl kr kr kr kr kr kr hnp (Sg.g0 (Sx.of [] fL HS11)) (fun w_ hw_ => by obtain ⟨g_, hl_, hS_⟩ := hw_.st; exact run_load rfl Tryz.underlying9 rfl (kv (.pointer (some ⟨b4, 1, none⟩))) (hS_.cell 1)) ?_
 have hq_ := bind_some h; clear h; obtain ⟨vt12, hc13, h⟩ := hq_
 refine takeGE 7 kr rfl kr (does_call (f := 61) (args := #[.string ⟨#[32]⟩, .int .i64 (mx 0 (w64 (8 - (c1.Key.size : Int))))]) kr (strings_Repeat.calls k Z11 (mx 0 (w64 (8 - (c1.Key.size : Int)))) HS11 vt12 hc13) ?_)
 rintro _ W16 ⟨f14, rfl, L15, HS17⟩
 refine ⟨_, rfl, ?_⟩
 refine ⟨(Sg.g0 (Sx.of [] L15 HS17)), ?_⟩
 have hq_ := guard_some h; clear h; obtain ⟨c18, h⟩ := hq_
 have c18 : c1.Key.size + vt12.size ≤ 9223372036854775807 := c18
 refine takeGQ 8 [] rfl kr kr kr kr kr kr hnp (Sg.g0 (Sx.of [] L15 HS17)) (fun w_ hw_ => by obtain ⟨g_, hl_, hS_⟩ := hw_.st; exact run_concat rfl (kv (.string c1.Key)) (kv (.string vt12)) c18 w_) ?_
 have hq_ := guard_some h; clear h; obtain ⟨c19, h⟩ := hq_
 have c19 : (c1.Key ++ vt12).size + Z16.size ≤ 9223372036854775807 := c19
 refine takeGQ 9 [] rfl kr kr kr kr kr kr hnp (Sg.g0 (Sx.of [] L15 HS17)) (fun w_ hw_ => by obtain ⟨g_, hl_, hS_⟩ := hw_.st; exact run_concat rfl (kv (.string (c1.Key ++ vt12))) (kv (.string ⟨#[61, 32]⟩)) c19 w_) ?_
 have hq_ := guard_some h; clear h; obtain ⟨c20, h⟩ := hq_
 have c20 : ((c1.Key ++ vt12) ++ Z16).size + c1.Value.size ≤ 9223372036854775807 := c20
 refine takeGQ 12 [] rfl kr kr kr kr kr kr hnp (Sg.g0 (Sx.of [] L15 HS17)) (fun w_ hw_ => by obtain ⟨g_, hl_, hS_⟩ := hw_.st; exact run_concat rfl (kv (.string ((c1.Key ++ vt12) ++ Z16))) (kv (.string c1.Value)) c20 w_) ?_
 refine takeGL [13] (n := 1) (fuel := 0) #[true, true, true, true, true, true, true, true, true, true, true, true, true, true] rfl kr kr kr hnp (Sg.g0 (Sx.of [] L15 HS17)) ?_
 refine doneG kr ?_ _
 refine hK9 _ _ ?_
 refine wp_seq_k (fun K21 hK22 => ?_)
 refine wp_seq_k fun K23 hK24 => rl ?_
 refine seqL1 kr ?_
 refine seqK rfl (does_run (run_load rfl Tryz.underlying9 rfl (kv (.pointer (some ⟨b4, 2, none⟩))) (HS17.cell 2)) ?_)
 refine seqL1 kr ?_
 refine nl (hK24 _ _ ?_)
 have hq_ := ite_some h; clear h; rcases hq_ with ⟨c26, h⟩ | ⟨c26, h⟩
 · have c26 : (!(c1.Unit.toList == Z32.toList)) = true := c26
   refine wpRwI 19 kr c26 ?_
   refine condT kr ?_
   refine rl ?_
   refine seqL2 kr ?_
   refine seqK rfl (does_run (run_load rfl Tryz.underlying9 rfl (kv (.pointer (some ⟨b4, 2, none⟩))) (HS17.cell 2)) ?_)
   have hq_ := guard_some h; clear h; obtain ⟨c27, h⟩ := hq_
   have c27 : Z10.size + c1.Unit.size ≤ 9223372036854775807 := c27
   refine seqK rfl (does_run (run_concat rfl (kv (.string ⟨#[32, 91]⟩)) (kv (.string c1.Unit)) c27 W16) ?_)
   have hq_ := guard_some h; clear h; obtain ⟨c28, h⟩ := hq_
   have c28 : (Z10 ++ c1.Unit).size + Z27.size ≤ 9223372036854775807 := c28
   refine seqK rfl (does_run (run_concat rfl (kv (.string (Z10 ++ c1.Unit))) (kv (.string ⟨#[93]⟩)) c28 W16) ?_)
   have hq_ := guard_some h; clear h; obtain ⟨c29, h⟩ := hq_
   have c29 : (((c1.Key ++ vt12) ++ Z16) ++ c1.Value).size + ((Z10 ++ c1.Unit) ++ Z27).size ≤ 9223372036854775807 := c29
   refine seqK rfl (does_run (run_concat rfl (kv (.string (((c1.Key ++ vt12) ++ Z16) ++ c1.Value))) (kv (.string ((Z10 ++ c1.Unit) ++ Z27))) c29 W16) ?_)
   refine seqL1 kr ?_
   refine nl (hK22 _ _ ?_)
   refine wp_seq_k (fun K30 hK31 => ?_)
   refine wp_seq_k fun K32 hK33 => rl ?_
   refine seqL1 kr ?_
   refine seqK rfl (does_run (run_load rfl Tryz.underlying9 rfl (kv (.pointer (some ⟨b4, 3, none⟩))) (HS17.cell 3)) ?_)
   refine seqL1 kr ?_
   refine nl (hK33 _ _ ?_)
   have hq_ := ite_some h; clear h; rcases hq_ with ⟨c35, h⟩ | ⟨c35, h⟩
   · have c35 : (!(c1.Note.toList == Z32.toList)) = true := c35
     refine wpRwI 28 kr c35 ?_
     refine condT kr ?_
     refine rl ?_
     refine seqL2 kr ?_
     refine seqK rfl (does_run (run_load rfl Tryz.underlying9 rfl (kv (.pointer (some ⟨b4, 3, none⟩))) (HS17.cell 3)) ?_)
     have hq_ := guard_some h; clear h; obtain ⟨c36, h⟩ := hq_
     have c36 : Z9.size + c1.Note.size ≤ 9223372036854775807 := c36
     refine seqK rfl (does_run (run_concat rfl (kv (.string ⟨#[32, 47, 32]⟩)) (kv (.string c1.Note)) c36 W16) ?_)
     have hq_ := guard_some h; clear h; obtain ⟨c37, h⟩ := hq_
     have c37 : ((((c1.Key ++ vt12) ++ Z16) ++ c1.Value) ++ ((Z10 ++ c1.Unit) ++ Z27)).size + (Z9 ++ c1.Note).size ≤ 9223372036854775807 := c37
     refine seqK rfl (does_run (run_concat rfl (kv (.string ((((c1.Key ++ vt12) ++ Z16) ++ c1.Value) ++ ((Z10 ++ c1.Unit) ++ Z27)))) (kv (.string (Z9 ++ c1.Note))) c37 W16) ?_)
     refine seqL1 kr ?_
     refine nl (hK31 _ _ ?_)
     refine wp_seq_k fun K38 hK39 => rl ?_
     refine seqL2 kr ?_
     refine nl (hK39 _ _ ?_)
     refine wp_ret ?_
     refine hret _ _ ?_
     refine ends_still (v := Value.string (((((c1.Key ++ vt12) ++ Z16) ++ c1.Value) ++ ((Z10 ++ c1.Unit) ++ Z27)) ++ (Z9 ++ c1.Note))) kr kr ?_
     have HS54 := HS17.drop
     injection h with h
     subst h
     exact ⟨f14, rfl, L15, HS54⟩
   · have c35 : ¬ ((!(c1.Note.toList == Z32.toList)) = true) := c35
     refine wpRwI 28 kr (Bool.eq_false_iff.mpr c35) ?_
     refine condF kr ?_
     refine wp_skip ?_
     refine hK31 _ _ ?_
     refine wp_seq_k fun K40 hK41 => rl ?_
     refine seqL2 kr ?_
     refine nl (hK41 _ _ ?_)
     refine wp_ret ?_
     refine hret _ _ ?_
     refine ends_still (v := Value.string ((((c1.Key ++ vt12) ++ Z16) ++ c1.Value) ++ ((Z10 ++ c1.Unit) ++ Z27))) kr kr ?_
     have HS55 := HS17.drop
     injection h with h
     subst h
     exact ⟨f14, rfl, L15, HS55⟩
 · have c26 : ¬ ((!(c1.Unit.toList == Z32.toList)) = true) := c26
   refine wpRwI 19 kr (Bool.eq_false_iff.mpr c26) ?_
   refine condF kr ?_
   refine wp_skip ?_
   refine hK22 _ _ ?_
   refine wp_seq_k (fun K42 hK43 => ?_)
   refine wp_seq_k fun K44 hK45 => rl ?_
   refine seqL1 kr ?_
   refine seqK rfl (does_run (run_load rfl Tryz.underlying9 rfl (kv (.pointer (some ⟨b4, 3, none⟩))) (HS17.cell 3)) ?_)
   refine seqL1 kr ?_
   refine nl (hK45 _ _ ?_)
   have hq_ := ite_some h; clear h; rcases hq_ with ⟨c47, h⟩ | ⟨c47, h⟩
   · have c47 : (!(c1.Note.toList == Z32.toList)) = true := c47
     refine wpRwI 28 kr c47 ?_
     refine condT kr ?_
     refine rl ?_
     refine seqL2 kr ?_
     refine seqK rfl (does_run (run_load rfl Tryz.underlying9 rfl (kv (.pointer (some ⟨b4, 3, none⟩))) (HS17.cell 3)) ?_)
     have hq_ := guard_some h; clear h; obtain ⟨c48, h⟩ := hq_
     have c48 : Z9.size + c1.Note.size ≤ 9223372036854775807 := c48
     refine seqK rfl (does_run (run_concat rfl (kv (.string ⟨#[32, 47, 32]⟩)) (kv (.string c1.Note)) c48 W16) ?_)
     have hq_ := guard_some h; clear h; obtain ⟨c49, h⟩ := hq_
     have c49 : (((c1.Key ++ vt12) ++ Z16) ++ c1.Value).size + (Z9 ++ c1.Note).size ≤ 9223372036854775807 := c49
     refine seqK rfl (does_run (run_concat rfl (kv (.string (((c1.Key ++ vt12) ++ Z16) ++ c1.Value))) (kv (.string (Z9 ++ c1.Note))) c49 W16) ?_)
     refine seqL1 kr ?_
     refine nl (hK43 _ _ ?_)
     refine wp_seq_k fun K50 hK51 => rl ?_
     refine seqL2 kr ?_
     refine nl (hK51 _ _ ?_)
     refine wp_ret ?_
     refine hret _ _ ?_
     refine ends_still (v := Value.string ((((c1.Key ++ vt12) ++ Z16) ++ c1.Value) ++ (Z9 ++ c1.Note))) kr kr ?_
     have HS56 := HS17.drop
     injection h with h
     subst h
     exact ⟨f14, rfl, L15, HS56⟩
   · have c47 : ¬ ((!(c1.Note.toList == Z32.toList)) = true) := c47
     refine wpRwI 28 kr (Bool.eq_false_iff.mpr c47) ?_
     refine condF kr ?_
     refine wp_skip ?_
     refine hK43 _ _ ?_
     refine wp_seq_k fun K52 hK53 => rl ?_
     refine seqL2 kr ?_
     refine nl (hK53 _ _ ?_)
     refine wp_ret ?_
     refine hret _ _ ?_
     refine ends_still (v := Value.string (((c1.Key ++ vt12) ++ Z16) ++ c1.Value)) kr kr ?_
     have HS57 := HS17.drop
     injection h with h
     subst h
     exact ⟨f14, rfl, L15, HS57⟩

set_option maxRecDepth 100000 in
set_option maxHeartbeats 4000000 in
theorem frame_CheckCard.calls (k : Nat)  (c1 : S_Card) {t w : World} {f : FM} {H : List Seg} (HS : St t w f (H)) (HA : TabF Tryz.prog "strings.asciiSpace" .u8 Go.Lib.asciiSpaceTab f) (rr1 : Int) (h : frame_CheckCard k c1 = some rr1) :
    Calls Tryz.prog 31 #[.agg #[.string c1.Key, .string c1.Value, .string c1.Unit, .string c1.Note]] w (fun e w' => ∃ (g : FM), e = .returned (Value.int .i64 rr1) ∧ FM.le f g ∧ St t w' g (H)) := by
 unfold frame_CheckCard at h
 refine enter Tryz.func31 rfl (tm := #[(ag_Card c1), uV, uV, uV, uV, uV, uV, uV, uV, uV, uV, uV, uV, uV, uV, uV, uV, uV, uV, uV, uV, uV, uV, uV, uV, uV, uV, uV, uV, uV, uV, uV, uV, uV, uV, uV, uV, uV, uV, uV, uV, uV, uV, uV, uV, uV, uV, uV, uV, uV, uV, uV, uV, uV, uV, uV, uV, uV, uV, uV, uV, uV, uV, uV, uV, uV, uV, uV, uV, uV, uV, uV, uV, uV, uV, uV]) kr ?_
 intro B hret hnor hnp
 refine wp_seq_k fun K2 hK3 => rl ?_
 refine seqK rfl (does_box (cs := #[.string c1.Key, .string c1.Value, .string c1.Unit, .string c1.Note]) rfl (kv (.agg #[.string c1.Key, .string c1.Value, .string c1.Unit, .string c1.Note])) rfl HS ?_)
 intro b4 W5 HS6
 refine seqL1 kr ?_
 refine nl (hK3 _ _ ?_)
 refine wp_seq_k (fun K8 hK9 => ?_)
 refine blockK (fun B10 hx11 hn12 hr13 ho14 hp15 => ?_)
 refine wp_seq_k fun K17 hK18 => rl ?_
 refine seqL1 kr ?_
 refine seqK rfl (does_run (run_load rfl Tryz.underlying9 rfl (kv (.pointer (some ⟨b4, 0, none⟩))) (HS6.cell 0)) ?_)
 refine seqL2 kr ?_
 have hq_ := ite_some h; clear h; rcases hq_ with ⟨c19, h⟩ | ⟨c19, h⟩
 · have c19 : (c1.Key.toList == Z32.toList) = true := c19
   refine seqRwI 6 kr c19 ?_
   refine seqRwI 7 kr c19 ?_
   refine seqL24 kr ?_
   refine nl (hK18 _ _ ?_)
   refine condT kr ?_
   refine wp_seq_k fun K20 hK21 => rl ?_
   refine seqL1 kr ?_
   refine nl (hK21 _ _ ?_)
   refine wp_ret ?_
   refine hr13 _ _ ?_
   refine hret _ _ ?_
   refine ends_still (v := Value.int .i64 6) kr kr ?_
   have HS124 := HS6.drop
   injection h with h
   subst h
   exact ⟨f, rfl, FM.le.refl _, HS124⟩
 · have c19 : ¬ ((c1.Key.toList == Z32.toList) = true) := c19
   refine seqRwI 6 kr (Bool.eq_false_iff.mpr c19) ?_
   refine seqRwI 7 kr (Bool.eq_false_iff.mpr c19) ?_
   refine seqL1 kr ?_
   refine seqG kr (does_run (run_load rfl Tryz.underlying9 rfl (kv (.pointer (some ⟨b4, 0, none⟩))) (HS6.cell 0)) ?_)
   refine seqL4 kr ?_
   have hq_ := ite_some h; clear h; rcases hq_ with ⟨c22, h⟩ | ⟨c22, h⟩
   · have c22 : (c1.Key.size : Int) > 8 := c22
     refine seqRwI 11 kr (decide_eq_true c22) ?_
     refine seqRwI 12 kr (decide_eq_true c22) ?_
     refine seqRwI 13 kr (decide_eq_true c22) ?_
     refine seqL18 kr ?_
     refine nl (hK18 _ _ ?_)
     refine condT kr ?_
     refine wp_seq_k fun K23 hK24 => rl ?_
     refine seqL1 kr ?_
     refine nl (hK24 _ _ ?_)
     refine wp_ret ?_
     refine hr13 _ _ ?_
     refine hret _ _ ?_
     refine ends_still (v := Value.int .i64 6) kr kr ?_
     have HS125 := HS6.drop
     injection h with h
     subst h
     exact ⟨f, rfl, FM.le.refl _, HS125⟩
   · have c22 : ¬ ((c1.Key.size : Int) > 8) := c22
     refine seqRwI 11 kr (decide_eq_false c22) ?_
     refine seqRwI 12 kr (decide_eq_false c22) ?_
     refine seqRwI 13 kr (decide_eq_false c22) ?_
     refine seqL1 kr ?_
     refine seqG kr (does_run (run_load rfl Tryz.underlying9 rfl (kv (.pointer (some ⟨b4, 0, none⟩))) (HS6.cell 0)) ?_)
     have hq_ := guard_some h; clear h; obtain ⟨c25, h⟩ := hq_
     have c25 : 0 < (c1.Key.size : Int) := c25
     refine seqG kr (does_run (run_byte rfl Tryz.underlying9 (kv (.string c1.Key)) (kv (.int .i64 0)) (by decide) c25 W5) ?_)
     have hq_ := bind_some h; clear h; obtain ⟨vt26, hc27, h⟩ := hq_
     refine seqG kr (does_call (f := 48) (args := #[.int .u8 (bt c1.Key 0)]) kr (frame_upper.calls k (bt c1.Key 0) HS6 vt26 hc27) ?_)
     rintro _ W30 ⟨f28, rfl, L29, HS31⟩
     refine ⟨_, rfl, ?_⟩
     refine seqL3 kr ?_
     have hq_ := ite_some h; clear h; rcases hq_ with ⟨c32, h⟩ | ⟨c32, h⟩
     · have c32 : ¬ (vt26 = true) := c32
       refine seqRwI 18 kr (congrArg (fun b_ => !b_) (show vt26 = false from (Bool.eq_false_iff.mpr c32)) : (!vt26) = true) ?_
       refine seqRwI 19 kr (congrArg (fun b_ => !b_) (show vt26 = false from (Bool.eq_false_iff.mpr c32)) : (!vt26) = true) ?_
       refine seqRwI 20 kr (congrArg (fun b_ => !b_) (show vt26 = false from (Bool.eq_false_iff.mpr c32)) : (!vt26) = true) ?_
       refine seqL11 kr ?_
       refine nl (hK18 _ _ ?_)
       refine condT kr ?_
       refine wp_seq_k fun K33 hK34 => rl ?_
       refine seqL1 kr ?_
       refine nl (hK34 _ _ ?_)
       refine wp_ret ?_
       refine hr13 _ _ ?_
       refine hret _ _ ?_
       refine ends_still (v := Value.int .i64 6) kr kr ?_
       have HS126 := HS31.drop
       injection h with h
       subst h
       exact ⟨f28, rfl, L29, HS126⟩
     · have c32 : ¬ (¬ (vt26 = true)) := c32
       refine seqRwI 18 (x := (!vt26)) (v := false) kr (congrArg (fun b_ => !b_) (show vt26 = true from (Decidable.of_not_not c32)) : (!vt26) = false) ?_
       refine seqRwI 19 (x := (!vt26)) (v := false) kr (congrArg (fun b_ => !b_) (show vt26 = true from (Decidable.of_not_not c32)) : (!vt26) = false) ?_
       refine seqRwI 20 (x := (!vt26)) (v := false) kr (congrArg (fun b_ => !b_) (show vt26 = true from (Decidable.of_not_not c32)) : (!vt26) = false) ?_
       refine seqL1 kr ?_
       refine seqG kr (does_run (run_load rfl Tryz.underlying9 rfl (kv (.pointer (some ⟨b4, 0, none⟩))) (HS31.cell 0)) ?_)
       have hq_ := bind_some h; clear h; obtain ⟨vt35, hc36, h⟩ := hq_
       refine seqG kr (does_call (f := 49) (args := #[.string c1.Key, .func (.func 50) #[] #[]]) kr (frame_all__frame_inKey.calls k c1.Key HS31 vt35 hc36) ?_)
       rintro _ W39 ⟨f37, rfl, L38, HS40⟩
       refine ⟨_, rfl, ?_⟩
       refine seqL3 kr ?_
       have hq_ := ite_some h; clear h; rcases hq_ with ⟨c41, h⟩ | ⟨c41, h⟩
       · have c41 : ¬ (vt35 = true) := c41
         refine seqRwI 24 kr (congrArg (fun b_ => !b_) (show vt35 = false from (Bool.eq_false_iff.mpr c41)) : (!vt35) = true) ?_
         refine seqRwI 25 kr (congrArg (fun b_ => !b_) (show vt35 = false from (Bool.eq_false_iff.mpr c41)) : (!vt35) = true) ?_
         refine seqRwI 26 kr (congrArg (fun b_ => !b_) (show vt35 = false from (Bool.eq_false_iff.mpr c41)) : (!vt35) = true) ?_
         refine seqL5 kr ?_
         refine nl (hK18 _ _ ?_)
         refine condT kr ?_
         refine wp_seq_k fun K42 hK43 => rl ?_
         refine seqL1 kr ?_
         refine nl (hK43 _ _ ?_)
         refine wp_ret ?_
         refine hr13 _ _ ?_
         refine hret _ _ ?_
         refine ends_still (v := Value.int .i64 6) kr kr ?_
         have HS127 := HS40.drop
         injection h with h
         subst h
         exact ⟨f37, rfl, (L29.trans L38), HS127⟩
       · have c41 : ¬ (¬ (vt35 = true)) := c41
         refine seqRwI 24 (x := (!vt35)) (v := false) kr (congrArg (fun b_ => !b_) (show vt35 = true from (Decidable.of_not_not c41)) : (!vt35) = false) ?_
         refine seqRwI 25 (x := (!vt35)) (v := false) kr (congrArg (fun b_ => !b_) (show vt35 = true from (Decidable.of_not_not c41)) : (!vt35) = false) ?_
         refine seqRwI 26 (x := (!vt35)) (v := false) kr (congrArg (fun b_ => !b_) (show vt35 = true from (Decidable.of_not_not c41)) : (!vt35) = false) ?_
         refine seqL1 kr ?_
         refine seqG kr (does_run (run_load rfl Tryz.underlying9 rfl (kv (.pointer (some ⟨b4, 0, none⟩))) (HS40.cell 0)) ?_)
         have hq_ := bind_some h; clear h; obtain ⟨vt44, hc45, h⟩ := hq_
         refine seqG kr (does_call (f := 51) (args := #[.string c1.Key]) kr (frame_own.calls k c1.Key HS40 vt44 hc45) ?_)
         rintro _ W48 ⟨f46, rfl, L47, HS49⟩
         refine ⟨_, rfl, ?_⟩
         refine seqL2 kr ?_
         refine nl (hK18 _ _ ?_)
         have hq_ := ite_some h; clear h; rcases hq_ with ⟨c51, h⟩ | ⟨c51, h⟩
         · have c51 : vt44 = true := c51
           refine wpRwI 3 kr c51 ?_
           refine wpRwI 29 kr c51 ?_
           refine wpRwI 30 kr c51 ?_
           refine condT kr ?_
           refine wp_seq_k fun K52 hK53 => rl ?_
           refine seqL1 kr ?_
           refine nl (hK53 _ _ ?_)
           refine wp_ret ?_
           refine hr13 _ _ ?_
           refine hret _ _ ?_
           refine ends_still (v := Value.int .i64 6) kr kr ?_
           have HS128 := HS49.drop
           injection h with h
           subst h
           exact ⟨f46, rfl, (L29.trans (L38.trans L47)), HS128⟩
         · have c51 : ¬ (vt44 = true) := c51
           refine wpRwI 3 kr (Bool.eq_false_iff.mpr c51) ?_
           refine wpRwI 29 kr (Bool.eq_false_iff.mpr c51) ?_
           refine wpRwI 30 kr (Bool.eq_false_iff.mpr c51) ?_
           refine condF kr ?_
           refine wp_seq_k fun K54 hK55 => rl ?_
           refine seqL1 kr ?_
           refine seqK rfl (does_run (run_load rfl Tryz.underlying9 rfl (kv (.pointer (some ⟨b4, 1, none⟩))) (HS49.cell 1)) ?_)
           refine seqL2 kr ?_
           have hq_ := ite_some h; clear h; rcases hq_ with ⟨c56, h⟩ | ⟨c56, h⟩
           · have c56 : (c1.Value.toList == Z32.toList) = true := c56
             refine seqRwI 34 kr c56 ?_
             refine seqRwI 35 kr c56 ?_
             refine seqL12 kr ?_
             refine nl (hK55 _ _ ?_)
             refine condT kr ?_
             refine wp_seq_k fun K57 hK58 => rl ?_
             refine seqL1 kr ?_
             refine nl (hK58 _ _ ?_)
             refine wp_ret ?_
             refine hr13 _ _ ?_
             refine hret _ _ ?_
             refine ends_still (v := Value.int .i64 3) kr kr ?_
             have HS129 := HS49.drop
             injection h with h
             subst h
             exact ⟨f46, rfl, (L29.trans (L38.trans L47)), HS129⟩
           · have c56 : ¬ ((c1.Value.toList == Z32.toList) = true) := c56
             refine seqRwI 34 kr (Bool.eq_false_iff.mpr c56) ?_
             refine seqRwI 35 kr (Bool.eq_false_iff.mpr c56) ?_
             refine seqL1 kr ?_
             refine seqG kr (does_run (run_load rfl Tryz.underlying9 rfl (kv (.pointer (some ⟨b4, 1, none⟩))) (HS49.cell 1)) ?_)
             refine seqL4 kr ?_
             have hq_ := ite_some h; clear h; rcases hq_ with ⟨c59, h⟩ | ⟨c59, h⟩
             · have c59 : (c1.Value.size : Int) > 20 := c59
               refine seqRwI 39 kr (decide_eq_true c59) ?_
               refine seqRwI 40 kr (decide_eq_true c59) ?_
               refine seqRwI 41 kr (decide_eq_true c59) ?_
               refine seqL6 kr ?_
               refine nl (hK55 _ _ ?_)
               refine condT kr ?_
               refine wp_seq_k fun K60 hK61 => rl ?_
               refine seqL1 kr ?_
               refine nl (hK61 _ _ ?_)
               refine wp_ret ?_
               refine hr13 _ _ ?_
               refine hret _ _ ?_
               refine ends_still (v := Value.int .i64 3) kr kr ?_
               have HS130 := HS49.drop
               injection h with h
               subst h
               exact ⟨f46, rfl, (L29.trans (L38.trans L47)), HS130⟩
             · have c59 : ¬ ((c1.Value.size : Int) > 20) := c59
               refine seqRwI 39 kr (decide_eq_false c59) ?_
               refine seqRwI 40 kr (decide_eq_false c59) ?_
               refine seqRwI 41 kr (decide_eq_false c59) ?_
               refine seqL1 kr ?_
               refine seqG kr (does_run (run_load rfl Tryz.underlying9 rfl (kv (.pointer (some ⟨b4, 1, none⟩))) (HS49.cell 1)) ?_)
               have hq_ := bind_some h; clear h; obtain ⟨vt62, hc63, h⟩ := hq_
               refine seqG kr (does_call (f := 49) (args := #[.string c1.Value, .func (.func 52) #[] #[]]) kr (frame_all__frame_inked.calls k c1.Value HS49 vt62 hc63) ?_)
               rintro _ W66 ⟨f64, rfl, L65, HS67⟩
               refine ⟨_, rfl, ?_⟩
               refine seqL3 kr ?_
               refine nl (hK55 _ _ ?_)
               have hq_ := ite_some h; clear h; rcases hq_ with ⟨c69, h⟩ | ⟨c69, h⟩
               · have c69 : ¬ (vt62 = true) := c69
                 refine wpRwI 31 kr (congrArg (fun b_ => !b_) (show vt62 = false from (Bool.eq_false_iff.mpr c69)) : (!vt62) = true) ?_
                 refine wpRwI 45 kr (congrArg (fun b_ => !b_) (show vt62 = false from (Bool.eq_false_iff.mpr c69)) : (!vt62) = true) ?_
                 refine wpRwI 46 kr (congrArg (fun b_ => !b_) (show vt62 = false from (Bool.eq_false_iff.mpr c69)) : (!vt62) = true) ?_
                 refine condT kr ?_
                 refine wp_seq_k fun K70 hK71 => rl ?_
                 refine seqL1 kr ?_
                 refine nl (hK71 _ _ ?_)
                 refine wp_ret ?_
                 refine hr13 _ _ ?_
                 refine hret _ _ ?_
                 refine ends_still (v := Value.int .i64 3) kr kr ?_
                 have HS131 := HS67.drop
                 injection h with h
                 subst h
                 exact ⟨f64, rfl, (L29.trans (L38.trans (L47.trans L65))), HS131⟩
               · have c69 : ¬ (¬ (vt62 = true)) := c69
                 refine wpRwI 31 (x := (!vt62)) (v := false) kr (congrArg (fun b_ => !b_) (show vt62 = true from (Decidable.of_not_not c69)) : (!vt62) = false) ?_
                 refine wpRwI 45 (x := (!vt62)) (v := false) kr (congrArg (fun b_ => !b_) (show vt62 = true from (Decidable.of_not_not c69)) : (!vt62) = false) ?_
                 refine wpRwI 46 (x := (!vt62)) (v := false) kr (congrArg (fun b_ => !b_) (show vt62 = true from (Decidable.of_not_not c69)) : (!vt62) = false) ?_
                 refine condF kr ?_
                 refine wp_seq_k fun K72 hK73 => rl ?_
                 refine seqL1 kr ?_
                 refine seqK rfl (does_run (run_load rfl Tryz.underlying9 rfl (kv (.pointer (some ⟨b4, 2, none⟩))) (HS67.cell 2)) ?_)
                 refine seqL3 kr ?_
                 have hq_ := ite_some h; clear h; rcases hq_ with ⟨c74, h⟩ | ⟨c74, h⟩
                 · have c74 : (c1.Unit.size : Int) > 8 := c74
                   refine seqRwI 51 kr (decide_eq_true c74) ?_
                   refine seqRwI 52 kr (decide_eq_true c74) ?_
                   refine seqL6 kr ?_
                   refine nl (hK73 _ _ ?_)
                   refine condT kr ?_
                   refine wp_seq_k fun K75 hK76 => rl ?_
                   refine seqL1 kr ?_
                   refine nl (hK76 _ _ ?_)
                   refine wp_ret ?_
                   refine hr13 _ _ ?_
                   refine hret _ _ ?_
                   refine ends_still (v := Value.int .i64 3) kr kr ?_
                   have HS132 := HS67.drop
                   injection h with h
                   subst h
                   exact ⟨f64, rfl, (L29.trans (L38.trans (L47.trans L65))), HS132⟩
                 · have c74 : ¬ ((c1.Unit.size : Int) > 8) := c74
                   refine seqRwI 51 kr (decide_eq_false c74) ?_
                   refine seqRwI 52 kr (decide_eq_false c74) ?_
                   refine seqL1 kr ?_
                   refine seqG kr (does_run (run_load rfl Tryz.underlying9 rfl (kv (.pointer (some ⟨b4, 2, none⟩))) (HS67.cell 2)) ?_)
                   have hq_ := bind_some h; clear h; obtain ⟨vt77, hc78, h⟩ := hq_
                   refine seqG kr (does_call (f := 49) (args := #[.string c1.Unit, .func (.func 53) #[] #[]]) kr (frame_all__frame_lower.calls k c1.Unit HS67 vt77 hc78) ?_)
                   rintro _ W81 ⟨f79, rfl, L80, HS82⟩
                   refine ⟨_, rfl, ?_⟩
                   refine seqL3 kr ?_
                   refine nl (hK73 _ _ ?_)
                   have hq_ := ite_some h; clear h; rcases hq_ with ⟨c84, h⟩ | ⟨c84, h⟩
                   · have c84 : ¬ (vt77 = true) := c84
                     refine wpRwI 47 kr (congrArg (fun b_ => !b_) (show vt77 = false from (Bool.eq_false_iff.mpr c84)) : (!vt77) = true) ?_
                     refine wpRwI 56 kr (congrArg (fun b_ => !b_) (show vt77 = false from (Bool.eq_false_iff.mpr c84)) : (!vt77) = true) ?_
                     refine wpRwI 57 kr (congrArg (fun b_ => !b_) (show vt77 = false from (Bool.eq_false_iff.mpr c84)) : (!vt77) = true) ?_
                     refine condT kr ?_
                     refine wp_seq_k fun K85 hK86 => rl ?_
                     refine seqL1 kr ?_
                     refine nl (hK86 _ _ ?_)
                     refine wp_ret ?_
                     refine hr13 _ _ ?_
                     refine hret _ _ ?_
                     refine ends_still (v := Value.int .i64 3) kr kr ?_
                     have HS133 := HS82.drop
                     injection h with h
                     subst h
                     exact ⟨f79, rfl, (L29.trans (L38.trans (L47.trans (L65.trans L80)))), HS133⟩
                   · have c84 : ¬ (¬ (vt77 = true)) := c84
                     refine wpRwI 47 (x := (!vt77)) (v := false) kr (congrArg (fun b_ => !b_) (show vt77 = true from (Decidable.of_not_not c84)) : (!vt77) = false) ?_
                     refine wpRwI 56 (x := (!vt77)) (v := false) kr (congrArg (fun b_ => !b_) (show vt77 = true from (Decidable.of_not_not c84)) : (!vt77) = false) ?_
                     refine wpRwI 57 (x := (!vt77)) (v := false) kr (congrArg (fun b_ => !b_) (show vt77 = true from (Decidable.of_not_not c84)) : (!vt77) = false) ?_
                     refine condF kr ?_
                     refine wp_seq_k (fun K87 hK88 => ?_)
                     refine heldG (S := Sg t f79 ([(b4, .cells #[.string c1.Key, .string c1.Value, .string c1.Unit, .string c1.Note] 70 (0, 0))] :: H) []) (n := 13) kr rfl HS82 ?_
                     intro W89 HS90
                     refine takeGL [0] (n := 13) (fuel := 12) #[true, false, false, false, false, false, false, false, false, false, false, false, false] rfl kr kr kr (fun ch_ a_ w_ q_ => hnp ch_ a_ w_ (hp15 ch_ a_ w_ q_)) (Sg.g0 (Sx.of [] fL HS90)) ?_
                     refine takeGQ 1 [] rfl kr kr kr kr kr kr (fun ch_ a_ w_ q_ => hnp ch_ a_ w_ (hp15 ch_ a_ w_ q_)) (Sg.g0 (Sx.of [] fL HS90)) (fun w_ hw_ => by obtain ⟨g_, hl_, hS_⟩ := hw_.st; exact run_load rfl Tryz.underlying9 rfl (kv (.pointer (some ⟨b4, 3, none⟩))) (hS_.cell 3)) ?_
                     have hq_ := bind_some h; clear h; obtain ⟨vt91, hc92, h⟩ := hq_
                     refine takeGE 2 kr rfl kr (does_call (f := 49) (args := #[.string c1.Note, .func (.func 54) #[] #[]]) kr (frame_all__frame_typed.calls k c1.Note HS90 vt91 hc92) ?_)
                     rintro _ W95 ⟨f93, rfl, L94, HS96⟩
                     refine ⟨_, rfl, ?_⟩
                     refine ⟨(Sg.g0 (Sx.of [] L94 HS96)), ?_⟩
                     refine takeGL [3, 4] (n := 10) (fuel := 8) #[true, true, true, true, true, false, false, false, false, false, false, false, false] rfl kr kr kr (fun ch_ a_ w_ q_ => hnp ch_ a_ w_ (hp15 ch_ a_ w_ q_)) (Sg.g0 (Sx.of [] L94 HS96)) ?_
                     have hq_ := ite_some h; clear h; rcases hq_ with ⟨c97, h⟩ | ⟨c97, h⟩
                     · have c97 : ¬ (vt91 = true) := c97
                       refine gateRwI 62 (x := (!vt91)) (v := true) kr (congrArg (fun b_ => !b_) (show vt91 = false from (Bool.eq_false_iff.mpr c97)) : (!vt91) = true) ?_
                       refine gateRwI 63 (x := (!vt91)) (v := true) kr (congrArg (fun b_ => !b_) (show vt91 = false from (Bool.eq_false_iff.mpr c97)) : (!vt91) = true) ?_
                       refine takeGL [5, 6, 7, 8, 9, 10, 11, 12] (n := 8) (fuel := 0) #[true, true, true, true, true, true, true, true, true, true, true, true, true] rfl kr kr kr (fun ch_ a_ w_ q_ => hnp ch_ a_ w_ (hp15 ch_ a_ w_ q_)) (Sg.g0 (Sx.of [] L94 HS96)) ?_
                       refine doneG kr ?_ _
                       refine hK88 _ _ ?_
                       refine condT kr ?_
                       refine wp_seq_k fun K98 hK99 => rl ?_
                       refine seqL1 kr ?_
                       refine nl (hK99 _ _ ?_)
                       refine wp_ret ?_
                       refine hr13 _ _ ?_
                       refine hret _ _ ?_
                       refine ends_still (v := Value.int .i64 3) kr kr ?_
                       have HS134 := HS96.drop
                       injection h with h
                       subst h
                       exact ⟨f93, rfl, (L29.trans (L38.trans (L47.trans (L65.trans (L80.trans L94))))), HS134⟩
                     · have c97 : ¬ (¬ (vt91 = true)) := c97
                       refine gateRwI 62 (x := (!vt91)) (v := false) kr (congrArg (fun b_ => !b_) (show vt91 = true from (Decidable.of_not_not c97)) : (!vt91) = false) ?_
                       refine gateRwI 63 (x := (!vt91)) (v := false) kr (congrArg (fun b_ => !b_) (show vt91 = true from (Decidable.of_not_not c97)) : (!vt91) = false) ?_
                       refine takeGL [5] (n := 8) (fuel := 7) #[true, true, true, true, true, true, false, false, false, false, false, false, false] rfl kr kr kr (fun ch_ a_ w_ q_ => hnp ch_ a_ w_ (hp15 ch_ a_ w_ q_)) (Sg.g0 (Sx.of [] L94 HS96)) ?_
                       refine takeGQ 6 [] rfl kr kr kr kr kr kr (fun ch_ a_ w_ q_ => hnp ch_ a_ w_ (hp15 ch_ a_ w_ q_)) (Sg.g0 (Sx.of [] L94 HS96)) (fun w_ hw_ => by obtain ⟨g_, hl_, hS_⟩ := hw_.st; exact run_load rfl Tryz.underlying9 rfl (kv (.pointer (some ⟨b4, 3, none⟩))) (hS_.cell 3)) ?_
                       refine takeGL [8] (n := 6) (fuel := 5) #[true, true, true, true, true, true, true, false, true, false, false, false, false] rfl kr kr kr (fun ch_ a_ w_ q_ => hnp ch_ a_ w_ (hp15 ch_ a_ w_ q_)) (Sg.g0 (Sx.of [] L94 HS96)) ?_
                       refine takeGQ 9 [] rfl kr kr kr kr kr kr (fun ch_ a_ w_ q_ => hnp ch_ a_ w_ (hp15 ch_ a_ w_ q_)) (Sg.g0 (Sx.of [] L94 HS96)) (fun w_ hw_ => by obtain ⟨g_, hl_, hS_⟩ := hw_.st; exact run_load rfl Tryz.underlying9 rfl (kv (.pointer (some ⟨b4, 3, none⟩))) (hS_.cell 3)) ?_
                       have hq_ := bind_some h; clear h; obtain ⟨vt100, hc101, h⟩ := hq_
                       refine takeGE 7 kr rfl kr (does_call (f := 55) (args := #[.string c1.Note]) kr (strings_TrimSpace.calls k c1.Note HS96 (HA.mono (L29.trans (L38.trans (L47.trans (L65.trans (L80.trans L94)))))) vt100 hc101) ?_)
                       rintro _ W104 ⟨f102, rfl, L103, HS105⟩
                       refine ⟨_, rfl, ?_⟩
                       refine ⟨(Sg.g0 (Sx.of [] (L94.trans L103) HS105)), ?_⟩
                       refine takeGL [10, 11, 12] (n := 3) (fuel := 0) #[true, true, true, true, true, true, true, true, true, true, true, true, true] rfl kr kr kr (fun ch_ a_ w_ q_ => hnp ch_ a_ w_ (hp15 ch_ a_ w_ q_)) (Sg.g0 (Sx.of [] (L94.trans L103) HS105)) ?_
                       refine doneG kr ?_ _
                       refine hK88 _ _ ?_
                       have hq_ := ite_some h; clear h; rcases hq_ with ⟨c107, h⟩ | ⟨c107, h⟩
                       · have c107 : (!(vt100.toList == c1.Note.toList)) = true := c107
                         refine wpRwI 58 kr c107 ?_
                         refine wpRwI 69 kr c107 ?_
                         refine wpRwI 70 kr c107 ?_
                         refine condT kr ?_
                         refine wp_seq_k fun K108 hK109 => rl ?_
                         refine seqL1 kr ?_
                         refine nl (hK109 _ _ ?_)
                         refine wp_ret ?_
                         refine hr13 _ _ ?_
                         refine hret _ _ ?_
                         refine ends_still (v := Value.int .i64 3) kr kr ?_
                         have HS135 := HS105.drop
                         injection h with h
                         subst h
                         exact ⟨f102, rfl, (L29.trans (L38.trans (L47.trans (L65.trans (L80.trans (L94.trans L103)))))), HS135⟩
                       · have c107 : ¬ ((!(vt100.toList == c1.Note.toList)) = true) := c107
                         refine wpRwI 58 kr (Bool.eq_false_iff.mpr c107) ?_
                         refine wpRwI 69 kr (Bool.eq_false_iff.mpr c107) ?_
                         refine wpRwI 70 kr (Bool.eq_false_iff.mpr c107) ?_
                         refine condF kr ?_
                         refine wp_seq_k fun K110 hK111 => rl ?_
                         refine seqK rfl (does_run (run_loadN (n := 4) rfl Tryz.underlying70 rfl kr (kv (.pointer (some ⟨b4, 0, none⟩))) (cs := [.string c1.Key, .string c1.Value, .string c1.Unit, .string c1.Note]) rfl (HS105.cells 0 4 _ rfl)) ?_)
                         have hq_ := bind_some h; clear h; obtain ⟨vt112, hc113, h⟩ := hq_
                         refine seqK rfl (does_call (f := 56) (args := #[.agg #[.string c1.Key, .string c1.Value, .string c1.Unit, .string c1.Note]]) kr (frame_text.calls k c1 HS105 vt112 hc113) ?_)
                         rintro _ W116 ⟨f114, rfl, L115, HS117⟩
                         refine ⟨_, rfl, ?_⟩
                         refine seqL3 kr ?_
                         refine nl (hK111 _ _ ?_)
                         have hq_ := ite_some h; clear h; rcases hq_ with ⟨c119, h⟩ | ⟨c119, h⟩
                         · have c119 : (vt112.size : Int) > 64 := c119
                           refine wpRwI 71 kr (decide_eq_true c119) ?_
                           refine wpRwI 75 kr (decide_eq_true c119) ?_
                           refine condT kr ?_
                           refine wp_seq_k fun K120 hK121 => rl ?_
                           refine seqL1 kr ?_
                           refine nl (hK121 _ _ ?_)
                           refine wp_ret ?_
                           refine hr13 _ _ ?_
                           refine hret _ _ ?_
                           refine ends_still (v := Value.int .i64 2) kr kr ?_
                           have HS136 := HS117.drop
                           injection h with h
                           subst h
                           exact ⟨f114, rfl, (L29.trans (L38.trans (L47.trans (L65.trans (L80.trans (L94.trans (L103.trans L115))))))), HS136⟩
                         · have c119 : ¬ ((vt112.size : Int) > 64) := c119
                           refine wpRwI 71 kr (decide_eq_false c119) ?_
                           refine wpRwI 75 kr (decide_eq_false c119) ?_
                           refine condF kr ?_
                           refine wp_skip ?_
                           refine hn12 _ _ ?_
                           refine hK9 _ _ ?_
                           refine wp_seq_k fun K122 hK123 => rl ?_
                           refine seqL1 kr ?_
                           refine nl (hK123 _ _ ?_)
                           refine wp_ret ?_
                           refine hret _ _ ?_
                           refine ends_still (v := Value.int .i64 0) kr kr ?_
                           have HS137 := HS117.drop
                           injection h with h
                           subst h
                           exact ⟨f114, rfl, (L29.trans (L38.trans (L47.trans (L65.trans (L80.trans (L94.trans (L103.trans L115))))))), HS137⟩

set_option maxRecDepth 100000 in
set_option maxHeartbeats 4000000 in
theorem frame_find_1.calls (k : Nat) (b1 : Nat) (v3 : ByteArray) (c4 : S_Card) {t w : World} {f : FM} {H : List Seg} (HS : St t w f ([(b1, .cells #[.string v3] 9 (0, 0))] :: H)) (rr1 : Bool) (h : frame_find_1 k v3 c4 = some rr1) :
    Calls Tryz.prog 58 #[.agg #[.string c4.Key, .string c4.Value, .string c4.Unit, .string c4.Note], .pointer (some ⟨b1, 0, none⟩)] w (fun e w' => ∃ (g : FM), e = .returned (Value.bool rr1) ∧ FM.le f g ∧ St t w' g ([(b1, .cells #[.string v3] 9 (0, 0))] :: H)) := by
 unfold frame_find_1 at h
 refine enter Tryz.func58 rfl (tm := #[(ag_Card c4), pV b1 0, uV, uV, uV, uV, uV, uV]) kr ?_
 intro B hret hnor hnp
 refine wp_seq_k fun K5 hK6 => rl ?_
 refine seqK rfl (does_box (cs := #[.string c4.Key, .string c4.Value, .string c4.Unit, .string c4.Note]) rfl (kv (.agg #[.string c4.Key, .string c4.Value, .string c4.Unit, .string c4.Note])) rfl HS ?_)
 intro b7 W8 HS9
 refine seqL1 kr ?_
 refine nl (hK6 _ _ ?_)
 refine wp_seq_k fun K11 hK12 => rl ?_
 refine seqL1 kr ?_
 refine seqK rfl (does_run (run_load rfl Tryz.underlying9 rfl (kv (.pointer (some ⟨b7, 0, none⟩))) (HS9.cell 0)) ?_)
 refine seqK rfl (does_run (run_load rfl Tryz.underlying9 rfl (kv (.pointer (some ⟨b1, 0, none⟩))) (HS9.u1.cell 0)) ?_)
 refine seqL2 kr ?_
 refine nl (hK12 _ _ ?_)
 refine wp_ret ?_
 refine hret _ _ ?_
 refine ends_still (v := Value.bool (c4.Key.toList == v3.toList)) kr kr ?_
 have HS13 := HS9.drop
 injection h with h
 subst h
 exact ⟨f, rfl, FM.le.refl _, HS13⟩

set_option maxRecDepth 100000 in
set_option maxHeartbeats 4000000 in
theorem slices_IndexFunc_Card__frame_find_1.calls (k : Nat) (b1 : Nat) (A5 : Option Addr) (c6 : Nat) (v3 : ByteArray) (s4 : List S_Card) {t w : World} {f : FM} {H : List Seg} (HS : St t w f ([(b1, .cells #[.string v3] 9 (0, 0))] :: H)) (HR7 : SlR ty_Card f A5 c6 s4) (rr1 : Int) (h : slices_IndexFunc_Card__frame_find_1 k v3 s4 = some rr1) :
    Calls Tryz.prog 57 #[.slice A5 s4.length c6, .func (.func 58) #[] #[.pointer (some ⟨b1, 0, none⟩)]] w (fun e w' => ∃ (g : FM), e = .returned (Value.int .i64 rr1) ∧ FM.le f g ∧ St t w' g ([(b1, .cells #[.string v3] 9 (0, 0))] :: H)) := by
 unfold slices_IndexFunc_Card__frame_find_1 at h
 refine enter Tryz.func57 rfl (tm := #[.slice A5 s4.length c6, .func (.func 58) #[] #[pV b1 0], uV, uV, uV, uV, uV, uV, uV, uV, uV, uV, uV, uV, uV, uV, uV, uV, uV]) kr ?_
 intro B hret hnor hnp
 refine wp_seq_k fun K8 hK9 => rl ?_
 refine seqL1 kr ?_
 refine nl (hK9 _ _ ?_)
 refine wp_seq_k (fun K10 hK11 => ?_)
 refine wp_seq_k fun K12 hK13 => rl ?_
 refine seqL3 kr ?_
 refine nl (hK13 _ _ ?_)
 refine blockK (fun B14 hx15 hn16 hr17 ho18 hp19 => ?_)
 have hq_ := bind_some h; clear h; obtain ⟨o20, hv71, h⟩ := hq_
 have JR73 : ∀ z_, some (Sum.inl z_) = some o20 → some z_ = some rr1 := by
  intro z_ e_; injection e_ with e_; subst e_; exact h
 have J72 : ∀ (f66 : FM) (j70 : Nat → Value) (W68 : World) (a_ : Act), FM.le f f66 → some (Sum.inr ()) = some o20 → St t W68 f66 ([(b1, .cells #[.string v3] 9 (0, 0))] :: H) → a_ = ⟨#[.slice A5 s4.length c6, .func (.func 58) #[] #[pV b1 0], uV, uV, (j70 0), (j70 1), .slice A5 s4.length c6, iV (s4.length : Int), (j70 2), (j70 3), (j70 4), (j70 5), (j70 6), (j70 7), (j70 8), (j70 9), (j70 10), (j70 11), (j70 12)], []⟩ → K10 a_ W68 := by
  intro f66 j70 W68 a_ L67 hj74 HS69  hfr_; subst hfr_
  injection hj74 with hj74; subst hj74; try dsimp only at h
  simp only [Sum.elim_inr] at h
  refine hK11 _ _ ?_
  refine wp_seq_k fun K75 hK76 => rl ?_
  refine seqL1 kr ?_
  refine nl (hK76 _ _ ?_)
  refine wp_ret ?_
  refine hret _ _ ?_
  refine ends_still (v := Value.int .i64 (-1)) kr kr ?_
  injection h with h
  subst h
  exact ⟨f66, rfl, L67, HS69⟩
 clear h; have h := hv71; clear hv71
 refine loopK (fun n_ a_ w_ => ∃ (f24 : FM) (x29 : Int) (j28 : Nat → Value), FM.le f f24 ∧ St t w_ f24 ([(b1, .cells #[.string v3] 9 (0, 0))] :: H) ∧ slices_IndexFunc_Card__frame_find_1.l0 k s4 v3 n_ x29 = some o20 ∧ a_ = ⟨#[.slice A5 s4.length c6, .func (.func 58) #[] #[pV b1 0], uV, uV, (j28 0), (j28 1), .slice A5 s4.length c6, iV (s4.length : Int), iV x29, (j28 2), (j28 3), (j28 4), (j28 5), (j28 6), (j28 7), (j28 8), (j28 9), (j28 10), (j28 11)], []⟩) k ⟨f, 0, (jL [iV 0]), fL, HS, h, kr⟩ ?_
 clear h
 rintro n23 _ W26 ⟨f24, x29, j28, L25, HS27, h, rfl⟩ K21 hK22
 obtain _ | n23 := n23
 · exact nomatch h
 simp only [slices_IndexFunc_Card__frame_find_1.l0] at h
 refine wp_seq_k fun K30 hK31 => rl ?_
 refine seqL1 kr ?_
 refine nl (hK31 _ _ ?_)
 refine wp_seq_k (fun K32 hK33 => ?_)
 have hq_ := ite_some h; clear h; rcases hq_ with ⟨c35, h⟩ | ⟨c35, h⟩
 · have c35 : x29 < (s4.length : Int) := c35
   refine wpRwI 9 kr (decide_eq_true c35) ?_
   refine condT kr ?_
   refine wp_skip ?_
   refine hK33 _ _ ?_
   refine wp_seq_k (fun K36 hK37 => ?_)
   refine blockK (fun B38 hx39 hn40 hr41 ho42 hp43 => ?_)
   refine wp_seq_k fun K45 hK46 => rl ?_
   refine seqL2 kr ?_
   refine nl (hK46 _ _ ?_)
   refine wp_seq_k fun K47 hK48 => rl ?_
   have hq_ := guard_some h; clear h; obtain ⟨c49, h⟩ := hq_
   have c49 : 0 ≤ x29 := c49
   obtain ⟨b53, of54, cs50, hA55, hr51, hc52⟩ := (HR7.mono L25).at (i := x29) c49 c35
   obtain rfl := hr51
   refine seqL3 kr ?_
   refine seqK rfl (does_run (run_indexE hA55 (sz := 4) rfl Tryz.underlying23 kr (kv (.slice A5 s4.length c6)) (kv (.int .i64 x29)) c49 c35 W26) ?_)
   refine seqK rfl (does_run (run_loadN (n := 4) rfl Tryz.underlying70 rfl kr (kv (.pointer (some ⟨b53, of54 + (x29 : Int).toNat * 4, none⟩))) (cs := [.string ((rd s4 x29).Key), .string ((rd s4 x29).Value), .string ((rd s4 x29).Unit), .string ((rd s4 x29).Note)]) rfl (fun j_ hj_ => ((hc52 fL HS27) j_ hj_))) ?_)
   have hq_ := bind_some h; clear h; obtain ⟨vt56, hc57, h⟩ := hq_
   refine seqK rfl (does_call (f := 58) (args := #[.agg #[.string ((rd s4 x29).Key), .string ((rd s4 x29).Value), .string ((rd s4 x29).Unit), .string ((rd s4 x29).Note)], .pointer (some ⟨b1, 0, none⟩)]) kr (frame_find_1.calls k b1 v3 (rd s4 x29) HS27 vt56 hc57) ?_)
   rintro _ W60 ⟨f58, rfl, L59, HS61⟩
   refine ⟨_, rfl, ?_⟩
   refine nl (hK48 _ _ ?_)
   have hq_ := ite_some h; clear h; rcases hq_ with ⟨c63, h⟩ | ⟨c63, h⟩
   · have c63 : vt56 = true := c63
     refine wpRwI 16 kr c63 ?_
     refine condT kr ?_
     refine wp_seq_k fun K64 hK65 => rl ?_
     refine seqL2 kr ?_
     refine nl (hK65 _ _ ?_)
     refine wp_ret ?_
     refine hr41 _ _ ?_
     refine hr17 _ _ ?_
     refine hret _ _ ?_
     refine ends_still (v := Value.int .i64 x29) kr kr ?_
     replace h := JR73 _ h
     injection h with h
     subst h
     exact ⟨f58, rfl, (L25.trans L59), HS61⟩
   · have c63 : ¬ (vt56 = true) := c63
     refine wpRwI 16 kr (Bool.eq_false_iff.mpr c63) ?_
     refine condF kr ?_
     refine wp_skip ?_
     refine hn40 _ _ ?_
     refine hK37 _ _ ?_
     refine rl ?_
     refine seqL2 kr ?_
     refine nl ?_
     refine hK22 n23 _ _ (Nat.lt_succ_self _) ?_
     exact ⟨f58, (w64 (x29 + 1)), (jL [(j28 0), iV x29, tV, iV x29, .func (.func 58) #[] #[.pointer (some ⟨b1, 0, none⟩)], .slice A5 s4.length c6, iV x29, .pointer (some ⟨b53, of54 + (x29 : Int).toNat * 4, none⟩), (ag_Card (rd s4 x29)), fV, (j28 10), iV (w64 (x29 + 1))]), (L25.trans L59), HS61, h, kr⟩
 · have c35 : ¬ (x29 < (s4.length : Int)) := c35
   refine wpRwI 9 kr (decide_eq_false c35) ?_
   refine condF kr ?_
   refine wp_exit ?_
   refine hx15 _ _ ?_
   exact J72 f24 (jL [(j28 0), (j28 1), iV x29, fV, (j28 3), (j28 4), (j28 5), (j28 6), (j28 7), (j28 8), (j28 9), (j28 10), (j28 11)]) W26 _ L25 h HS27 kr

set_option maxRecDepth 100000 in
set_option maxHeartbeats 4000000 in
theorem frame_find.calls (k : Nat) (A2 : Option Addr) (c3 : Nat) (l1 : List S_Card) (key5 : ByteArray) {t w : World} {f : FM} {H : List Seg} (HS : St t w f (H)) (HR4 : SlR ty_Card f A2 c3 l1) (rr1 : Int) (h : frame_find k l1 key5 = some rr1) :
    Calls Tryz.prog 32 #[.slice A2 l1.length c3, .string key5] w (fun e w' => ∃ (g : FM), e = .returned (Value.int .i64 rr1) ∧ FM.le f g ∧ St t w' g (H)) := by
 unfold frame_find at h
 refine enter Tryz.func32 rfl (tm := #[.slice A2 l1.length c3, .string key5, uV, uV, uV, uV, uV, uV]) kr ?_
 intro B hret hnor hnp
 refine wp_seq_k fun K6 hK7 => rl ?_
 refine seqK rfl (does_box (cs := #[.string key5]) rfl (kv (.string key5)) rfl HS ?_)
 intro b8 W9 HS10
 refine seqL1 kr ?_
 refine nl (hK7 _ _ ?_)
 refine wp_seq_k fun K12 hK13 => rl ?_
 have hq_ := bind_some h; clear h; obtain ⟨vt14, hc15, h⟩ := hq_
 refine seqL2 kr ?_
 refine seqK rfl (does_call (f := 57) (args := #[.slice A2 l1.length c3, .func (.func 58) #[] #[.pointer (some ⟨b8, 0, none⟩)]]) kr (slices_IndexFunc_Card__frame_find_1.calls k b8 A2 c3 key5 l1 HS10 HR4 vt14 hc15) ?_)
 rintro _ W18 ⟨f16, rfl, L17, HS19⟩
 refine ⟨_, rfl, ?_⟩
 refine seqL1 kr ?_
 refine nl (hK13 _ _ ?_)
 refine wp_ret ?_
 refine hret _ _ ?_
 refine ends_still (v := Value.int .i64 vt14) kr kr ?_
 have HS20 := HS19.drop
 injection h with h
 subst h
 exact ⟨f16, rfl, L17, HS20⟩

set_option maxRecDepth 100000 in
set_option maxHeartbeats 4000000 in
theorem frame_Check.calls (k : Nat) (A2 : Option Addr) (c3 : Nat) (A5 : Option Addr) (c6 : Nat) (vf1 : S_Frame) {t w : World} {f : FM} {H : List Seg} (HS : St t w f (H)) (HR4 : SlR ty_Card f A2 c3 vf1.Cards) (HR7 : SlR (tInt .i64) f A5 c6 vf1.Counts) (HA : TabF Tryz.prog "strings.asciiSpace" .u8 Go.Lib.asciiSpaceTab f) (rr1 : Int) (h : frame_Check k vf1 = some rr1) :
    Calls Tryz.prog 15 #[.agg #[.int .i64 vf1.W, .int .i64 vf1.H, .slice A2 vf1.Cards.length c3, .slice A5 vf1.Counts.length c6]] w (fun e w' => ∃ (g : FM), e = .returned (Value.int .i64 rr1) ∧ FM.le f g ∧ St t w' g (H)) := by
 unfold frame_Check at h
 refine enter Tryz.func15 rfl (tm := #[(ag_Frame vf1 A2 c3 A5 c6), uV, uV, uV, uV, uV, uV, uV, uV, uV, uV, uV, uV, uV, uV, uV, uV, uV, uV, uV, uV, uV, uV, uV, uV, uV, uV, uV, uV, uV, uV, uV, uV, uV, uV, uV, uV, uV, uV, uV, uV, uV, uV, uV, uV, uV, uV, uV, uV, uV, uV, uV, uV, uV, uV, uV, uV, uV, uV, uV, uV, uV]) kr ?_
 intro B hret hnor hnp
 refine wp_seq_k fun K8 hK9 => rl ?_
 refine seqK rfl (does_box (cs := #[.int .i64 vf1.W, .int .i64 vf1.H, .slice A2 vf1.Cards.length c3, .slice A5 vf1.Counts.length c6]) rfl (kv (.agg #[.int .i64 vf1.W, .int .i64 vf1.H, .slice A2 vf1.Cards.length c3, .slice A5 vf1.Counts.length c6])) rfl HS ?_)
 intro b10 W11 HS12
 refine seqL1 kr ?_
 refine nl (hK9 _ _ ?_)
 refine wp_seq_k (fun K14 hK15 => ?_)
 refine blockK (fun B16 hx17 hn18 hr19 ho20 hp21 => ?_)
 refine wp_seq_k fun K23 hK24 => rl ?_
 refine seqL1 kr ?_
 refine seqK rfl (does_run (run_load rfl Tryz.underlying3 rfl (kv (.pointer (some ⟨b10, 0, none⟩))) (HS12.cell 0)) ?_)
 refine seqL1 kr ?_
 refine seqK rfl (does_run (run_load rfl Tryz.underlying3 rfl (kv (.pointer (some ⟨b10, 1, none⟩))) (HS12.cell 1)) ?_)
 refine seqL3 kr ?_
 have hq_ := ite_some h; clear h; rcases hq_ with ⟨c25, h⟩ | ⟨c25, h⟩
 · have c25 : (mn vf1.W vf1.H) < 1 := c25
   refine seqRwI 12 kr (decide_eq_true c25) ?_
   refine seqRwI 13 kr (decide_eq_true c25) ?_
   refine seqL8 kr ?_
   refine nl (hK24 _ _ ?_)
   refine condT kr ?_
   refine wp_seq_k fun K26 hK27 => rl ?_
   refine seqL1 kr ?_
   refine nl (hK27 _ _ ?_)
   refine wp_ret ?_
   refine hr19 _ _ ?_
   refine hret _ _ ?_
   refine ends_still (v := Value.int .i64 4) kr kr ?_
   have HS151 := HS12.drop
   injection h with h
   subst h
   exact ⟨f, rfl, FM.le.refl _, HS151⟩
 · have c25 : ¬ ((mn vf1.W vf1.H) < 1) := c25
   refine seqRwI 12 kr (decide_eq_false c25) ?_
   refine seqRwI 13 kr (decide_eq_false c25) ?_
   refine seqL1 kr ?_
   refine seqG kr (does_run (run_load rfl Tryz.underlying3 rfl (kv (.pointer (some ⟨b10, 0, none⟩))) (HS12.cell 0)) ?_)
   refine seqL1 kr ?_
   refine seqG kr (does_run (run_load rfl Tryz.underlying3 rfl (kv (.pointer (some ⟨b10, 1, none⟩))) (HS12.cell 1)) ?_)
   refine seqL4 kr ?_
   refine nl (hK24 _ _ ?_)
   have hq_ := ite_some h; clear h; rcases hq_ with ⟨c29, h⟩ | ⟨c29, h⟩
   · have c29 : (mx vf1.W vf1.H) > 32 := c29
     refine wpRwI 6 kr (decide_eq_true c29) ?_
     refine wpRwI 19 kr (decide_eq_true c29) ?_
     refine wpRwI 20 kr (decide_eq_true c29) ?_
     refine condT kr ?_
     refine wp_seq_k fun K30 hK31 => rl ?_
     refine seqL1 kr ?_
     refine nl (hK31 _ _ ?_)
     refine wp_ret ?_
     refine hr19 _ _ ?_
     refine hret _ _ ?_
     refine ends_still (v := Value.int .i64 4) kr kr ?_
     have HS152 := HS12.drop
     injection h with h
     subst h
     exact ⟨f, rfl, FM.le.refl _, HS152⟩
   · have c29 : ¬ ((mx vf1.W vf1.H) > 32) := c29
     refine wpRwI 6 kr (decide_eq_false c29) ?_
     refine wpRwI 19 kr (decide_eq_false c29) ?_
     refine wpRwI 20 kr (decide_eq_false c29) ?_
     refine condF kr ?_
     refine wp_seq_k fun K32 hK33 => rl ?_
     refine seqL1 kr ?_
     refine seqK rfl (does_run (run_load rfl Tryz.underlying22 rfl (kv (.pointer (some ⟨b10, 3, none⟩))) (HS12.cell 3)) ?_)
     refine seqL2 kr ?_
     refine seqK rfl (does_run (run_load rfl Tryz.underlying3 rfl (kv (.pointer (some ⟨b10, 0, none⟩))) (HS12.cell 0)) ?_)
     refine seqL1 kr ?_
     refine seqK rfl (does_run (run_load rfl Tryz.underlying3 rfl (kv (.pointer (some ⟨b10, 1, none⟩))) (HS12.cell 1)) ?_)
     refine seqL3 kr ?_
     refine nl (hK33 _ _ ?_)
     have hq_ := ite_some h; clear h; rcases hq_ with ⟨c35, h⟩ | ⟨c35, h⟩
     · have c35 : (vf1.Counts.length : Int) ≠ (w64 (vf1.W * vf1.H)) := c35
       refine wpRwI 21 kr (bne_iff_ne.mpr c35) ?_
       refine wpRwI 30 kr (bne_iff_ne.mpr c35) ?_
       refine condT kr ?_
       refine wp_seq_k fun K36 hK37 => rl ?_
       refine seqL1 kr ?_
       refine nl (hK37 _ _ ?_)
       refine wp_ret ?_
       refine hr19 _ _ ?_
       refine hret _ _ ?_
       refine ends_still (v := Value.int .i64 3) kr kr ?_
       have HS153 := HS12.drop
       injection h with h
       subst h
       exact ⟨f, rfl, FM.le.refl _, HS153⟩
     · have c35 : ¬ ((vf1.Counts.length : Int) ≠ (w64 (vf1.W * vf1.H))) := c35
       refine wpRwI 21 (x := ((vf1.Counts.length : Int) != (w64 (vf1.W * vf1.H)))) (v := false) kr (bne_eq_false_iff_eq.mpr (Decidable.of_not_not c35)) ?_
       refine wpRwI 30 (x := ((vf1.Counts.length : Int) != (w64 (vf1.W * vf1.H)))) (v := false) kr (bne_eq_false_iff_eq.mpr (Decidable.of_not_not c35)) ?_
       refine condF kr ?_
       refine wp_seq_k fun K38 hK39 => rl ?_
       refine seqL1 kr ?_
       refine seqK rfl (does_run (run_load rfl Tryz.underlying22 rfl (kv (.pointer (some ⟨b10, 3, none⟩))) (HS12.cell 3)) ?_)
       have hq_ := bind_some h; clear h; obtain ⟨vt40, hc41, h⟩ := hq_
       refine seqK rfl (does_call (f := 21) (args := #[.slice A5 vf1.Counts.length c6, .func (.func 30) #[] #[]]) kr (slices_ContainsFunc_int__frame_Check_1.calls k A5 c6 vf1.Counts HS12 HR7 vt40 hc41) ?_)
       rintro _ W44 ⟨f42, rfl, L43, HS45⟩
       refine ⟨_, rfl, ?_⟩
       refine seqL1 kr ?_
       refine nl (hK39 _ _ ?_)
       have hq_ := ite_some h; clear h; rcases hq_ with ⟨c47, h⟩ | ⟨c47, h⟩
       · have c47 : vt40 = true := c47
         refine wpRwI 31 kr c47 ?_
         refine wpRwI 34 kr c47 ?_
         refine condT kr ?_
         refine wp_seq_k fun K48 hK49 => rl ?_
         refine seqL1 kr ?_
         refine nl (hK49 _ _ ?_)
         refine wp_ret ?_
         refine hr19 _ _ ?_
         refine hret _ _ ?_
         refine ends_still (v := Value.int .i64 4) kr kr ?_
         have HS154 := HS45.drop
         injection h with h
         subst h
         exact ⟨f42, rfl, L43, HS154⟩
       · have c47 : ¬ (vt40 = true) := c47
         refine wpRwI 31 kr (Bool.eq_false_iff.mpr c47) ?_
         refine wpRwI 34 kr (Bool.eq_false_iff.mpr c47) ?_
         refine condF kr ?_
         refine wp_seq_k fun K50 hK51 => rl ?_
         refine seqL1 kr ?_
         refine seqK rfl (does_run (run_load rfl Tryz.underlying23 rfl (kv (.pointer (some ⟨b10, 2, none⟩))) (HS45.cell 2)) ?_)
         refine seqL3 kr ?_
         refine nl (hK51 _ _ ?_)
         have hq_ := ite_some h; clear h; rcases hq_ with ⟨c53, h⟩ | ⟨c53, h⟩
         · have c53 : (vf1.Cards.length : Int) > 28 := c53
           refine wpRwI 35 kr (decide_eq_true c53) ?_
           refine wpRwI 39 kr (decide_eq_true c53) ?_
           refine condT kr ?_
           refine wp_seq_k fun K54 hK55 => rl ?_
           refine seqL1 kr ?_
           refine nl (hK55 _ _ ?_)
           refine wp_ret ?_
           refine hr19 _ _ ?_
           refine hret _ _ ?_
           refine ends_still (v := Value.int .i64 2) kr kr ?_
           have HS155 := HS45.drop
           injection h with h
           subst h
           exact ⟨f42, rfl, L43, HS155⟩
         · have c53 : ¬ ((vf1.Cards.length : Int) > 28) := c53
           refine wpRwI 35 kr (decide_eq_false c53) ?_
           refine wpRwI 39 kr (decide_eq_false c53) ?_
           refine condF kr ?_
           refine wp_skip ?_
           refine hn18 _ _ ?_
           refine hK15 _ _ ?_
           refine wp_seq_k (fun K56 hK57 => ?_)
           refine wp_seq_k fun K58 hK59 => rl ?_
           refine seqL1 kr ?_
           refine seqK rfl (does_run (run_load rfl Tryz.underlying23 rfl (kv (.pointer (some ⟨b10, 2, none⟩))) (HS45.cell 2)) ?_)
           refine seqL2 kr ?_
           refine nl (hK59 _ _ ?_)
           refine blockK (fun B60 hx61 hn62 hr63 ho64 hp65 => ?_)
           have hq_ := bind_some h; clear h; obtain ⟨o66, hv142, h⟩ := hq_
           have JR144 : ∀ z_, some (Sum.inl z_) = some o66 → some z_ = some rr1 := by
            intro z_ e_; injection e_ with e_; subst e_; exact h
           have J143 : ∀ (f137 : FM) (j141 : Nat → Value) (W139 : World) (a_ : Act), FM.le f42 f137 → some (Sum.inr ()) = some o66 → St t W139 f137 ([(b10, .cells #[.int .i64 vf1.W, .int .i64 vf1.H, .slice A2 vf1.Cards.length c3, .slice A5 vf1.Counts.length c6] 25 (0, 0))] :: H) → a_ = ⟨#[(ag_Frame vf1 A2 c3 A5 c6), pV b10 0, (j141 0), (j141 1), (j141 2), (j141 3), fV, pV b10 0, iV vf1.W, pV b10 1, iV vf1.H, iV (mn vf1.W vf1.H), fV, fV, pV b10 0, iV vf1.W, pV b10 1, iV vf1.H, iV (mx vf1.W vf1.H), fV, fV, fV, pV b10 3, .slice A5 vf1.Counts.length c6, iV (vf1.Counts.length : Int), pV b10 0, iV vf1.W, pV b10 1, iV vf1.H, iV (w64 (vf1.W * vf1.H)), fV, fV, pV b10 3, .slice A5 vf1.Counts.length c6, fV, fV, pV b10 2, .slice A2 vf1.Cards.length c3, iV (vf1.Cards.length : Int), fV, pV b10 2, .slice A2 vf1.Cards.length c3, iV (vf1.Cards.length : Int), (j141 4), (j141 5), (j141 6), (j141 7), (j141 8), (j141 9), (j141 10), (j141 11), (j141 12), (j141 13), (j141 14), (j141 15), (j141 16), (j141 17), (j141 18), (j141 19), (j141 20), (j141 21), (j141 22)], []⟩ → K56 a_ W139 := by
            intro f137 j141 W139 a_ L138 hj145 HS140  hfr_; subst hfr_
            injection hj145 with hj145; subst hj145; try dsimp only at h
            simp only [Sum.elim_inr] at h
            refine hK57 _ _ ?_
            refine wp_seq_k fun K149 hK150 => rl ?_
            refine seqL1 kr ?_
            refine nl (hK150 _ _ ?_)
            refine wp_ret ?_
            refine hret _ _ ?_
            refine ends_still (v := Value.int .i64 0) kr kr ?_
            have HS160 := HS140.drop
            injection h with h
            subst h
            exact ⟨f137, rfl, (L43.trans L138), HS160⟩
           clear h; have h := hv142; clear hv142
           refine loopK (fun n_ a_ w_ => ∃ (f70 : FM) (x75 : Int) (j74 : Nat → Value), FM.le f42 f70 ∧ St t w_ f70 ([(b10, .cells #[.int .i64 vf1.W, .int .i64 vf1.H, .slice A2 vf1.Cards.length c3, .slice A5 vf1.Counts.length c6] 25 (0, 0))] :: H) ∧ frame_Check.l0 k vf1 n_ x75 = some o66 ∧ a_ = ⟨#[(ag_Frame vf1 A2 c3 A5 c6), pV b10 0, (j74 0), (j74 1), (j74 2), (j74 3), fV, pV b10 0, iV vf1.W, pV b10 1, iV vf1.H, iV (mn vf1.W vf1.H), fV, fV, pV b10 0, iV vf1.W, pV b10 1, iV vf1.H, iV (mx vf1.W vf1.H), fV, fV, fV, pV b10 3, .slice A5 vf1.Counts.length c6, iV (vf1.Counts.length : Int), pV b10 0, iV vf1.W, pV b10 1, iV vf1.H, iV (w64 (vf1.W * vf1.H)), fV, fV, pV b10 3, .slice A5 vf1.Counts.length c6, fV, fV, pV b10 2, .slice A2 vf1.Cards.length c3, iV (vf1.Cards.length : Int), fV, pV b10 2, .slice A2 vf1.Cards.length c3, iV (vf1.Cards.length : Int), iV x75, (j74 4), (j74 5), (j74 6), (j74 7), (j74 8), (j74 9), (j74 10), (j74 11), (j74 12), (j74 13), (j74 14), (j74 15), (j74 16), (j74 17), (j74 18), (j74 19), (j74 20), (j74 21)], []⟩) k ⟨f42, 0, (jL [iV 0]), fL, HS45, h, kr⟩ ?_
           clear h
           rintro n69 _ W72 ⟨f70, x75, j74, L71, HS73, h, rfl⟩ K67 hK68
           obtain _ | n69 := n69
           · exact nomatch h
           simp only [frame_Check.l0] at h
           refine wp_seq_k fun K76 hK77 => rl ?_
           refine seqL1 kr ?_
           refine nl (hK77 _ _ ?_)
           refine wp_seq_k (fun K78 hK79 => ?_)
           have hq_ := ite_some h; clear h; rcases hq_ with ⟨c81, h⟩ | ⟨c81, h⟩
           · have c81 : x75 < (vf1.Cards.length : Int) := c81
             refine wpRwI 44 kr (decide_eq_true c81) ?_
             refine condT kr ?_
             refine wp_skip ?_
             refine hK79 _ _ ?_
             refine wp_seq_k (fun K82 hK83 => ?_)
             refine blockK (fun B84 hx85 hn86 hr87 ho88 hp89 => ?_)
             refine wp_seq_k fun K91 hK92 => rl ?_
             have hq_ := guard_some h; clear h; obtain ⟨c93, h⟩ := hq_
             have c93 : 0 ≤ x75 := c93
             obtain ⟨b97, of98, cs94, hA99, hr95, hc96⟩ := (HR4.mono (L43.trans L71)).at (i := x75) c93 c81
             obtain rfl := hr95
             refine seqL1 kr ?_
             refine seqK rfl (does_run (run_indexE hA99 (sz := 4) rfl Tryz.underlying23 kr (kv (.slice A2 vf1.Cards.length c3)) (kv (.int .i64 x75)) c93 c81 W72) ?_)
             refine seqK rfl (does_run (run_loadN (n := 4) rfl Tryz.underlying70 rfl kr (kv (.pointer (some ⟨b97, of98 + (x75 : Int).toNat * 4, none⟩))) (cs := [.string ((rd vf1.Cards x75).Key), .string ((rd vf1.Cards x75).Value), .string ((rd vf1.Cards x75).Unit), .string ((rd vf1.Cards x75).Note)]) rfl (fun j_ hj_ => ((hc96 fL HS73) j_ hj_))) ?_)
             refine seqK rfl (does_alloc (z := Value.agg #[.string ⟨#[]⟩, .string ⟨#[]⟩, .string ⟨#[]⟩, .string ⟨#[]⟩]) (cs := #[.string ⟨#[]⟩, .string ⟨#[]⟩, .string ⟨#[]⟩, .string ⟨#[]⟩]) rfl kr rfl HS73 ?_)
             intro b100 W101 HS102
             refine seqL1 kr ?_
             refine seqK rfl (does_storeA (vs := [.string ((rd vf1.Cards x75).Key), .string ((rd vf1.Cards x75).Value), .string ((rd vf1.Cards x75).Unit), .string ((rd vf1.Cards x75).Note)]) rfl kr kr kr rfl (ones rfl) HS102 kr ?_)
             intro W104 HS105
             refine nl (hK92 _ _ ?_)
             refine wp_seq_k (fun K106 hK107 => ?_)
             refine wp_seq_k fun K108 hK109 => rl ?_
             refine seqK rfl (does_run (run_loadN (n := 4) rfl Tryz.underlying70 rfl kr (kv (.pointer (some ⟨b100, 0, none⟩))) (cs := [.string ((rd vf1.Cards x75).Key), .string ((rd vf1.Cards x75).Value), .string ((rd vf1.Cards x75).Unit), .string ((rd vf1.Cards x75).Note)]) rfl (HS105.cells 0 4 _ rfl)) ?_)
             have hq_ := bind_some h; clear h; obtain ⟨vt110, hc111, h⟩ := hq_
             refine seqK rfl (does_call (f := 31) (args := #[.agg #[.string ((rd vf1.Cards x75).Key), .string ((rd vf1.Cards x75).Value), .string ((rd vf1.Cards x75).Unit), .string ((rd vf1.Cards x75).Note)]]) kr (frame_CheckCard.calls k (rd vf1.Cards x75) HS105 (HA.mono (L43.trans L71)) vt110 hc111) ?_)
             rintro _ W114 ⟨f112, rfl, L113, HS115⟩
             refine ⟨_, rfl, ?_⟩
             refine seqL1 kr ?_
             refine nl (hK109 _ _ ?_)
             refine wp_seq_k fun K116 hK117 => rl ?_
             refine seqL2 kr ?_
             refine nl (hK117 _ _ ?_)
             have hq_ := ite_some h; clear h; rcases hq_ with ⟨c119, h⟩ | ⟨c119, h⟩
             · have c119 : vt110 ≠ 0 := c119
               refine wpRwI 51 kr (bne_iff_ne.mpr c119) ?_
               refine condT kr ?_
               refine wp_seq_k fun K120 hK121 => rl ?_
               refine seqL2 kr ?_
               refine nl (hK121 _ _ ?_)
               refine wp_ret ?_
               refine hr87 _ _ ?_
               refine hr63 _ _ ?_
               refine hret _ _ ?_
               refine ends_still (v := Value.int .i64 vt110) kr kr ?_
               have HS156 := HS115.drop
               have HS157 := HS156.drop
               replace h := JR144 _ h
               injection h with h
               subst h
               exact ⟨f112, rfl, (L43.trans (L71.trans L113)), HS157⟩
             · have c119 : ¬ (vt110 ≠ 0) := c119
               refine wpRwI 51 (x := (vt110 != 0)) (v := false) kr (bne_eq_false_iff_eq.mpr (Decidable.of_not_not c119)) ?_
               refine condF kr ?_
               refine wp_skip ?_
               refine hK107 _ _ ?_
               refine wp_seq_k (fun K122 hK123 => ?_)
               refine heldG (S := Sg t f112 ([(b100, .cells #[.string ((rd vf1.Cards x75).Key), .string ((rd vf1.Cards x75).Value), .string ((rd vf1.Cards x75).Unit), .string ((rd vf1.Cards x75).Note)] 70 (0, 0))] :: [(b10, .cells #[.int .i64 vf1.W, .int .i64 vf1.H, .slice A2 vf1.Cards.length c3, .slice A5 vf1.Counts.length c6] 25 (0, 0))] :: H) []) (n := 8) kr rfl HS115 ?_
               intro W124 HS125
               refine takeGL [0] (n := 8) (fuel := 7) #[true, false, false, false, false, false, false, false] rfl kr kr kr (fun ch_ a_ w_ q_ => (fun ch_ a_ w_ q_ => hnp ch_ a_ w_ (hp65 ch_ a_ w_ q_)) ch_ a_ w_ (hp89 ch_ a_ w_ q_)) (Sg.g0 (Sx.of [] fL HS125)) ?_
               refine takeGQ 1 [] rfl kr kr kr kr kr kr (fun ch_ a_ w_ q_ => (fun ch_ a_ w_ q_ => hnp ch_ a_ w_ (hp65 ch_ a_ w_ q_)) ch_ a_ w_ (hp89 ch_ a_ w_ q_)) (Sg.g0 (Sx.of [] fL HS125)) (fun w_ hw_ => by obtain ⟨g_, hl_, hS_⟩ := hw_.st; exact run_load rfl Tryz.underlying23 rfl (kv (.pointer (some ⟨b10, 2, none⟩))) (hS_.u1.cell 2)) ?_
               have hq_ := guard_some h; clear h; obtain ⟨c126, h⟩ := hq_
               have c126 : x75 ≤ (vf1.Cards.length : Int) := c126
               refine takeGL [2] (n := 6) (fuel := 5) #[true, true, true, false, false, false, false, false] rfl kr kr kr (fun ch_ a_ w_ q_ => (fun ch_ a_ w_ q_ => hnp ch_ a_ w_ (hp65 ch_ a_ w_ q_)) ch_ a_ w_ (hp89 ch_ a_ w_ q_)) (Sg.g0 (Sx.of [] fL HS125)) ?_
               refine takeGQ 3 [] rfl kr kr kr kr kr kr (fun ch_ a_ w_ q_ => (fun ch_ a_ w_ q_ => hnp ch_ a_ w_ (hp65 ch_ a_ w_ q_)) ch_ a_ w_ (hp89 ch_ a_ w_ q_)) (Sg.g0 (Sx.of [] fL HS125)) (fun w_ hw_ => by obtain ⟨g_, hl_, hS_⟩ := hw_.st; exact run_cutH (e := ty_Card) (xs := vf1.Cards) rfl Tryz.underlying23 kr (kv (.slice A2 vf1.Cards.length c3)) (kv (.int .i64 x75)) c93 c126 HR4.le w_) ?_
               refine takeGL [4] (n := 4) (fuel := 3) #[true, true, true, true, true, false, false, false] rfl kr kr kr (fun ch_ a_ w_ q_ => (fun ch_ a_ w_ q_ => hnp ch_ a_ w_ (hp65 ch_ a_ w_ q_)) ch_ a_ w_ (hp89 ch_ a_ w_ q_)) (Sg.g0 (Sx.of [] fL HS125)) ?_
               refine takeGQ 5 [] rfl kr kr kr kr kr kr (fun ch_ a_ w_ q_ => (fun ch_ a_ w_ q_ => hnp ch_ a_ w_ (hp65 ch_ a_ w_ q_)) ch_ a_ w_ (hp89 ch_ a_ w_ q_)) (Sg.g0 (Sx.of [] fL HS125)) (fun w_ hw_ => by obtain ⟨g_, hl_, hS_⟩ := hw_.st; exact run_load rfl Tryz.underlying9 rfl (kv (.pointer (some ⟨b100, 0, none⟩))) (hS_.cell 0)) ?_
               have hq_ := bind_some h; clear h; obtain ⟨vt127, hc128, h⟩ := hq_
               refine takeGE 6 kr rfl kr (does_call (f := 32) (args := #[.slice A2 (vf1.Cards.take (x75).toNat).length c3, .string ((rd vf1.Cards x75).Key)]) kr (frame_find.calls k A2 c3 (vf1.Cards.take (x75).toNat) ((rd vf1.Cards x75).Key) HS125 ((HR4.take (x75).toNat).mono (L43.trans (L71.trans L113))) vt127 hc128) ?_)
               rintro _ W131 ⟨f129, rfl, L130, HS132⟩
               refine ⟨_, rfl, ?_⟩
               refine ⟨(Sg.g0 (Sx.of [] L130 HS132)), ?_⟩
               refine takeGL [7] (n := 1) (fuel := 0) #[true, true, true, true, true, true, true, true] rfl kr kr kr (fun ch_ a_ w_ q_ => (fun ch_ a_ w_ q_ => hnp ch_ a_ w_ (hp65 ch_ a_ w_ q_)) ch_ a_ w_ (hp89 ch_ a_ w_ q_)) (Sg.g0 (Sx.of [] L130 HS132)) ?_
               refine doneG kr ?_ _
               refine hK123 _ _ ?_
               have hq_ := ite_some h; clear h; rcases hq_ with ⟨c134, h⟩ | ⟨c134, h⟩
               · have c134 : vt127 ≥ 0 := c134
                 refine wpRwI 60 kr (decide_eq_true c134) ?_
                 refine condT kr ?_
                 refine wp_seq_k fun K135 hK136 => rl ?_
                 refine seqL1 kr ?_
                 refine nl (hK136 _ _ ?_)
                 refine wp_ret ?_
                 refine hr87 _ _ ?_
                 refine hr63 _ _ ?_
                 refine hret _ _ ?_
                 refine ends_still (v := Value.int .i64 7) kr kr ?_
                 have HS158 := HS132.drop
                 have HS159 := HS158.drop
                 replace h := JR144 _ h
                 injection h with h
                 subst h
                 exact ⟨f129, rfl, (L43.trans (L71.trans (L113.trans L130))), HS159⟩
               · have c134 : ¬ (vt127 ≥ 0) := c134
                 refine wpRwI 60 kr (decide_eq_false c134) ?_
                 refine condF kr ?_
                 refine wp_skip ?_
                 refine hn86 _ _ ?_
                 refine hK83 _ _ ?_
                 refine rl ?_
                 refine seqL2 kr ?_
                 refine nl ?_
                 refine hK68 n69 _ _ (Nat.lt_succ_self _) ?_
                 have HS147 := HS132.u1.u1
                 have HS148 := HS147.drop
                 exact ⟨f129, (w64 (x75 + 1)), (jL [(j74 0), iV x75, .pointer (some ⟨b100, 0, none⟩), iV vt110, tV, iV x75, .pointer (some ⟨b97, of98 + (x75 : Int).toNat * 4, none⟩), (ag_Card (rd vf1.Cards x75)), (ag_Card (rd vf1.Cards x75)), iV vt110, iV vt110, fV, (j74 12), .pointer (some ⟨b10, 2, none⟩), .slice A2 vf1.Cards.length c3, iV x75, .slice A2 (vf1.Cards.take (x75).toNat).length c3, .pointer (some ⟨b100, 0, none⟩), .string ((rd vf1.Cards x75).Key), iV vt127, fV, iV (w64 (x75 + 1))]), (L71.trans (L113.trans L130)), HS148, h, kr⟩
           · have c81 : ¬ (x75 < (vf1.Cards.length : Int)) := c81
             refine wpRwI 44 kr (decide_eq_false c81) ?_
             refine condF kr ?_
             refine wp_exit ?_
             refine hx61 _ _ ?_
             exact J143 f70 (jL [(j74 0), (j74 1), (j74 2), (j74 3), iV x75, fV, (j74 5), (j74 6), (j74 7), (j74 8), (j74 9), (j74 10), (j74 11), (j74 12), (j74 13), (j74 14), (j74 15), (j74 16), (j74 17), (j74 18), (j74 19), (j74 20), (j74 21)]) W72 _ L71 h HS73 kr

theorem strings_Builder_WriteString.calls (k : Nat) (A : Option Addr) (c : Nat) (s : Seg) (l : List UInt8) (str : ByteArray) {t w : World} {f : FM} {H : List Seg} (HS : St t w f (s :: H)) (HO : OwnB 107 5 f A c s l) (r1 : Int) (r2 : List UInt8) (h : strings_Builder_WriteString k l str = some (r1, r2)) :
    Calls Tryz.prog 60 #[.pointer A, .string str] w (fun e w' => ∃ (g : FM) (s' : Seg), e = .returned (Value.tuple #[Value.int .i64 r1, Value.nilIface]) ∧ FM.le f g ∧ St t w' g (s' :: H) ∧ OwnB 107 5 g A c s' r2 ∧ True) := by
  unfold strings_Builder_WriteString at h
  have hq_ := guard_some h; clear h; obtain ⟨h1, h⟩ := hq_
  injection h with h; injection h with h2_ h3_; subst h2_ h3_
  have hc := write_calls (P := Tryz.prog) (ρ := Tryz.lays105_ren) { Tryz.lays105 with } Tryz.Builder_Extra_105 HS HO str h1
  exact hc.mono fun e w' ⟨s', he, hs, ho⟩ => ⟨f, s', he, FM.le.refl _, hs, ho, trivial⟩

set_option maxRecDepth 100000 in
set_option maxHeartbeats 4000000 in
theorem frame_header_1.calls (k : Nat) (A2 : Option Addr) (c3 : Nat) (s4 : Seg) (vt1 : ByteArray) (x6 : List UInt8) {t w : World} {f : FM} {H : List Seg} (HS : St t w f (s4 :: H)) (HO5 : OwnB 107 5 f A2 c3 s4 x6) (rr1 : List UInt8) (h : frame_header_1 k vt1 x6 = some rr1) :
    Calls Tryz.prog 59 #[.string vt1, .pointer A2] w (fun e w' => ∃ (g : FM) (s25 : Seg), e = .returned (Value.tuple #[]) ∧ FM.le f g ∧ St t w' g (s25 :: H) ∧ OwnB 107 5 g A2 c3 s25 rr1 ∧ True) := by
 unfold frame_header_1 at h
 refine enter Tryz.func59 rfl (tm := #[.string vt1, .pointer A2, uV, uV, uV, uV, uV, uV, uV, uV]) kr ?_
 intro B hret hnor hnp
 refine rl ?_
 have hq_ := bind_some h; clear h; obtain ⟨vt8, hc9, h⟩ := hq_
 refine seqL4 kr ?_
 refine seqK rfl (does_call (f := 61) (args := #[.string ⟨#[32]⟩, .int .i64 (w64 (64 - (vt1.size : Int)))]) kr (strings_Repeat.calls k Z11 (w64 (64 - (vt1.size : Int))) HS vt8 hc9) ?_)
 rintro _ W12 ⟨f10, rfl, L11, HS13⟩
 refine ⟨_, rfl, ?_⟩
 have hq_ := guard_some h; clear h; obtain ⟨c14, h⟩ := hq_
 have c14 : vt1.size + vt8.size ≤ 9223372036854775807 := c14
 refine seqK rfl (does_run (run_concat rfl (kv (.string vt1)) (kv (.string vt8)) c14 W12) ?_)
 have hq_ := bind_some h; clear h; obtain ⟨⟨vt15, vt16⟩, hc17, h⟩ := hq_
 refine seqK rfl (does_call (f := 60) (args := #[.pointer A2, .string (vt1 ++ vt8)]) kr (strings_Builder_WriteString.calls k A2 c3 s4 x6 (vt1 ++ vt8) HS13 (HO5.mono L11) vt15 vt16 hc17) ?_)
 rintro _ W20 ⟨f18, s22, rfl, L19, HS21, HO23, HL24⟩
 refine ⟨_, rfl, ?_⟩
 refine nl ?_
 refine hnor _ _ ?_
 refine ends_still (v := Value.tuple #[]) kr kr ?_
 injection h with h
 subst h
 exact ⟨f18, s22, rfl, (L11.trans L19), HS21, HO23, trivial⟩

theorem strings_Builder_Len.calls (k : Nat) (A : Option Addr) (c : Nat) (s : Seg) (l : List UInt8) {t w : World} {f : FM} {H : List Seg} (HS : St t w f (s :: H)) (HO : OwnB 107 5 f A c s l) (r1 : Int) (r2 : List UInt8) (h : strings_Builder_Len k l = some (r1, r2)) :
    Calls Tryz.prog 62 #[.pointer A] w (fun e w' => ∃ (g : FM) (s' : Seg), e = .returned (Value.int .i64 r1) ∧ FM.le f g ∧ St t w' g (s' :: H) ∧ OwnB 107 5 g A c s' r2 ∧ True) := by
  unfold strings_Builder_Len at h
  injection h with h; injection h with h2_ h3_; subst h2_ h3_
  have hc := len_calls Tryz.lays170 HS HO
  exact hc.mono fun e w' ⟨he, hs⟩ => ⟨f, s, he, FM.le.refl _, hs, HO, trivial⟩

theorem strings_Builder_String.calls (k : Nat) (A : Option Addr) (c : Nat) (s : Seg) (l : List UInt8) {t w : World} {f : FM} {H : List Seg} (HS : St t w f (s :: H)) (HO : OwnB 107 5 f A c s l) (r1 : ByteArray) (h : strings_Builder_String k l = some r1) :
    Calls Tryz.prog 63 #[.pointer A] w (fun e w' => ∃ (g : FM), e = .returned (Value.string r1) ∧ FM.le f g ∧ St t w' g H) := by
  unfold strings_Builder_String at h
  have hq_ := guard_some h; clear h; obtain ⟨h1, h⟩ := hq_
  injection h with h; subst h
  have hc := string_calls Tryz.lays169 Tryz.Builder_Extra_169 HS HO h1
  exact hc.mono fun e w' ⟨he, hs⟩ => ⟨f, he, FM.le.refl _, hs⟩

end Go.Sp.F3
