import Derived.Test.YtjnehahcpeiheaaGreatDoorProg
import Derived.Test.YtjnehahcpeiheaaGreatDoorSpCopy
import Derived.Test.YtjnehahcpeiheaaGreatDoorFT6
import Derived.Test.YtjnehahcpeiheaaGreatDoorSpStr
import Derived.Test.YtjnehahcpeiheaaGreatDoorSpLib
import Derived.Test.YtjnehahcpeiheaaGreatDoorSpBld
import Derived.Test.YtjnehahcpeiheaaGreatDoorConv
import Derived.Test.YtjnehahcpeiheaaGreatDoorLibs
import Derived.Test.YtjnehahcpeiheaaGreatDoorSpWays
import Derived.Test.YtjnehahcpeiheaaGreatDoorSpRound
import Derived.Test.YtjnehahcpeiheaaGreatDoorKT6n0
import Derived.Test.YtjnehahcpeiheaaGreatDoorKT6n1
namespace Go.Sp.T6
open Go Go.Sp Go.Proofs
set_option linter.unusedVariables false
attribute [local irreducible] wpList AnyL Code.wp Calls Does Code.wpIn wpListIn CallsIn bodyPostM LeavesInM
set_option maxRecDepth 100000 in
set_option maxHeartbeats 4000000 in
theorem frame_all__frame_inked.calls (k : Nat)  (s1 : ByteArray) {t w : World} {f : FM} {H : List Seg} (HS : St t w f (H)) (rr1 : Bool) (h : frame_all__frame_inked k s1 = some rr1) :
    Calls Tryz.prog 71 #[.string s1, .func (.func 74) #[] #[]] w (fun e w' => ∃ (g : FM), e = .returned (Value.bool rr1) ∧ FM.le f g ∧ St t w' g (H)) := by
 unfold frame_all__frame_inked at h
 refine enter Tryz.func71 rfl (tm := #[.string s1, .func (.func 74) #[] #[], uV, uV, uV, uV, uV, uV, uV, uV, uV, uV, uV, uV, uV, uV, uV, uV]) kr ?_
 intro B hret hnor hnp
 refine wp_seq_k fun K2 hK3 => rl ?_
 refine seqL1 kr ?_
 refine nl (hK3 _ _ ?_)
 refine wp_seq_k (fun K4 hK5 => ?_)
 refine wp_seq_k fun K6 hK7 => rl ?_
 refine seqL3 kr ?_
 refine nl (hK7 _ _ ?_)
 refine blockK (fun B8 hx9 hn10 hr11 ho12 hp13 => ?_)
 have hq_ := bind_some h; clear h; obtain ⟨o14, hv59, h⟩ := hq_
 have JR61 : ∀ z_, some (Sum.inl z_) = some o14 → some z_ = some rr1 := by
  intro z_ e_; injection e_ with e_; subst e_; exact h
 have J60 : ∀ (f54 : FM) (j58 : Nat → Value) (W56 : World) (a_ : Act), FM.le f f54 → some (Sum.inr ()) = some o14 → St t W56 f54 (H) → a_ = ⟨#[.string s1, .func (.func 74) #[] #[], uV, uV, (j58 0), (j58 1), .string s1, iV (s1.size : Int), (j58 2), (j58 3), (j58 4), (j58 5), (j58 6), (j58 7), (j58 8), (j58 9), (j58 10), (j58 11)], []⟩ → K4 a_ W56 := by
  intro f54 j58 W56 a_ L55 hj62 HS57  hfr_; subst hfr_
  injection hj62 with hj62; subst hj62; try dsimp only at h
  simp only [Sum.elim_inr] at h
  refine hK5 _ _ ?_
  refine wp_seq_k fun K63 hK64 => rl ?_
  refine seqL1 kr ?_
  refine nl (hK64 _ _ ?_)
  refine wp_ret ?_
  refine hret _ _ ?_
  refine ends_still (v := Value.bool true) kr kr ?_
  injection h with h
  subst h
  exact ⟨f54, rfl, L55, HS57⟩
 clear h; have h := hv59; clear hv59
 refine loopK (fun n_ a_ w_ => ∃ (f18 : FM) (x23 : Int) (j22 : Nat → Value), FM.le f f18 ∧ St t w_ f18 (H) ∧ frame_all__frame_inked.l0 k s1 n_ x23 = some o14 ∧ a_ = ⟨#[.string s1, .func (.func 74) #[] #[], uV, uV, (j22 0), (j22 1), .string s1, iV (s1.size : Int), iV x23, (j22 2), (j22 3), (j22 4), (j22 5), (j22 6), (j22 7), (j22 8), (j22 9), (j22 10)], []⟩) k ⟨f, 0, (jL [fV]), fL, HS, h, kr⟩ ?_
 clear h
 rintro n17 _ W20 ⟨f18, x23, j22, L19, HS21, h, rfl⟩ K15 hK16
 obtain _ | n17 := n17
 · exact nomatch h
 simp only [frame_all__frame_inked.l0] at h
 refine wp_seq_k fun K24 hK25 => rl ?_
 refine seqL1 kr ?_
 refine nl (hK25 _ _ ?_)
 refine wp_seq_k (fun K26 hK27 => ?_)
 have hq_ := ite_some h; clear h; rcases hq_ with ⟨c29, h⟩ | ⟨c29, h⟩
 · have c29 : x23 < (s1.size : Int) := c29
   refine wpRwI 9 kr (decide_eq_true c29) ?_
   refine condT kr ?_
   refine wp_skip ?_
   refine hK27 _ _ ?_
   refine wp_seq_k (fun K30 hK31 => ?_)
   refine blockK (fun B32 hx33 hn34 hr35 ho36 hp37 => ?_)
   refine wp_seq_k fun K39 hK40 => rl ?_
   refine seqL2 kr ?_
   refine nl (hK40 _ _ ?_)
   refine wp_seq_k fun K41 hK42 => rl ?_
   have hq_ := guard_some h; clear h; obtain ⟨c43, h⟩ := hq_
   have c43 : 0 ≤ x23 := c43
   refine seqL3 kr ?_
   refine seqK rfl (does_run (run_byte rfl Tryz.underlying9 (kv (.string s1)) (kv (.int .i64 x23)) c43 c29 W20) ?_)
   have hq_ := bind_some h; clear h; obtain ⟨vt44, hc45, h⟩ := hq_
   refine seqK rfl (does_call (f := 74) (args := #[.int .u8 (bt s1 x23)]) kr (frame_inked.calls k (bt s1 x23) HS21 vt44 hc45) ?_)
   rintro _ W48 ⟨f46, rfl, L47, HS49⟩
   refine ⟨_, rfl, ?_⟩
   refine seqL1 kr ?_
   refine nl (hK42 _ _ ?_)
   have hq_ := ite_some h; clear h; rcases hq_ with ⟨c51, h⟩ | ⟨c51, h⟩
   · have c51 : ¬ (vt44 = true) := c51
     refine wpRwI 16 kr (congrArg (fun b_ => !b_) (show vt44 = false from (Bool.eq_false_iff.mpr c51)) : (!vt44) = true) ?_
     refine condT kr ?_
     refine wp_seq_k fun K52 hK53 => rl ?_
     refine seqL1 kr ?_
     refine nl (hK53 _ _ ?_)
     refine wp_ret ?_
     refine hr35 _ _ ?_
     refine hr11 _ _ ?_
     refine hret _ _ ?_
     refine ends_still (v := Value.bool false) kr kr ?_
     replace h := JR61 _ h
     injection h with h
     subst h
     exact ⟨f46, rfl, (L19.trans L47), HS49⟩
   · have c51 : ¬ (¬ (vt44 = true)) := c51
     refine wpRwI 16 (x := (!vt44)) (v := false) kr (congrArg (fun b_ => !b_) (show vt44 = true from (Decidable.of_not_not c51)) : (!vt44) = false) ?_
     refine condF kr ?_
     refine wp_skip ?_
     refine hn34 _ _ ?_
     refine hK31 _ _ ?_
     refine rl ?_
     refine seqL2 kr ?_
     refine nl ?_
     refine hK16 n17 _ _ (Nat.lt_succ_self _) ?_
     exact ⟨f46, (w64 (x23 + 1)), (jL [(j22 0), iV x23, tV, iV x23, .func (.func 74) #[] #[], .string s1, iV x23, .int .u8 (bt s1 x23), .bool vt44, fV, iV (w64 (x23 + 1))]), (L19.trans L47), HS49, h, kr⟩
 · have c29 : ¬ (x23 < (s1.size : Int)) := c29
   refine wpRwI 9 kr (decide_eq_false c29) ?_
   refine condF kr ?_
   refine wp_exit ?_
   refine hx9 _ _ ?_
   exact J60 f18 (jL [(j22 0), (j22 1), iV x23, fV, (j22 3), (j22 4), (j22 5), (j22 6), (j22 7), (j22 8), (j22 9), (j22 10)]) W20 _ L19 h HS21 kr

set_option maxRecDepth 100000 in
set_option maxHeartbeats 4000000 in
theorem frame_lower.calls (k : Nat)  (c1 : Int) {t w : World} {f : FM} {H : List Seg} (HS : St t w f (H)) (rr1 : Bool) (h : frame_lower k c1 = some rr1) :
    Calls Tryz.prog 75 #[.int .u8 c1] w (fun e w' => ∃ (g : FM), e = .returned (Value.bool rr1) ∧ FM.le f g ∧ St t w' g (H)) := by
 unfold frame_lower at h
 refine enter Tryz.func75 rfl (tm := #[.int .u8 c1, uV, uV, uV, uV, uV, uV, uV, uV]) kr ?_
 intro B hret hnor hnp
 refine wp_seq_k fun K2 hK3 => rl ?_
 refine seqL1 kr ?_
 refine nl (hK3 _ _ ?_)
 refine wp_seq_k fun K4 hK5 => rl ?_
 refine seqL3 kr ?_
 have hq_ := ite_some h; clear h; rcases hq_ with ⟨c6, h⟩ | ⟨c6, h⟩
 · have c6 : c1 ≥ 97 := c6
   refine seqRwI 4 kr (decide_eq_true c6) ?_
   refine seqRwI 5 kr (decide_eq_true c6) ?_
   refine seqL4 kr ?_
   refine nl (hK5 _ _ ?_)
   refine wp_ret ?_
   refine hret _ _ ?_
   refine ends_still (v := Value.bool (decide (c1 ≤ 122))) kr kr ?_
   injection h with h
   subst h
   exact ⟨f, rfl, FM.le.refl _, HS⟩
 · have c6 : ¬ (c1 ≥ 97) := c6
   refine seqRwI 4 kr (decide_eq_false c6) ?_
   refine seqRwI 5 kr (decide_eq_false c6) ?_
   refine seqL4 kr ?_
   refine nl (hK5 _ _ ?_)
   refine wp_ret ?_
   refine hret _ _ ?_
   refine ends_still (v := Value.bool false) kr kr ?_
   injection h with h
   subst h
   exact ⟨f, rfl, FM.le.refl _, HS⟩

set_option maxRecDepth 100000 in
set_option maxHeartbeats 4000000 in
theorem frame_all__frame_lower.calls (k : Nat)  (s1 : ByteArray) {t w : World} {f : FM} {H : List Seg} (HS : St t w f (H)) (rr1 : Bool) (h : frame_all__frame_lower k s1 = some rr1) :
    Calls Tryz.prog 71 #[.string s1, .func (.func 75) #[] #[]] w (fun e w' => ∃ (g : FM), e = .returned (Value.bool rr1) ∧ FM.le f g ∧ St t w' g (H)) := by
 unfold frame_all__frame_lower at h
 refine enter Tryz.func71 rfl (tm := #[.string s1, .func (.func 75) #[] #[], uV, uV, uV, uV, uV, uV, uV, uV, uV, uV, uV, uV, uV, uV, uV, uV]) kr ?_
 intro B hret hnor hnp
 refine wp_seq_k fun K2 hK3 => rl ?_
 refine seqL1 kr ?_
 refine nl (hK3 _ _ ?_)
 refine wp_seq_k (fun K4 hK5 => ?_)
 refine wp_seq_k fun K6 hK7 => rl ?_
 refine seqL3 kr ?_
 refine nl (hK7 _ _ ?_)
 refine blockK (fun B8 hx9 hn10 hr11 ho12 hp13 => ?_)
 have hq_ := bind_some h; clear h; obtain ⟨o14, hv59, h⟩ := hq_
 have JR61 : ∀ z_, some (Sum.inl z_) = some o14 → some z_ = some rr1 := by
  intro z_ e_; injection e_ with e_; subst e_; exact h
 have J60 : ∀ (f54 : FM) (j58 : Nat → Value) (W56 : World) (a_ : Act), FM.le f f54 → some (Sum.inr ()) = some o14 → St t W56 f54 (H) → a_ = ⟨#[.string s1, .func (.func 75) #[] #[], uV, uV, (j58 0), (j58 1), .string s1, iV (s1.size : Int), (j58 2), (j58 3), (j58 4), (j58 5), (j58 6), (j58 7), (j58 8), (j58 9), (j58 10), (j58 11)], []⟩ → K4 a_ W56 := by
  intro f54 j58 W56 a_ L55 hj62 HS57  hfr_; subst hfr_
  injection hj62 with hj62; subst hj62; try dsimp only at h
  simp only [Sum.elim_inr] at h
  refine hK5 _ _ ?_
  refine wp_seq_k fun K63 hK64 => rl ?_
  refine seqL1 kr ?_
  refine nl (hK64 _ _ ?_)
  refine wp_ret ?_
  refine hret _ _ ?_
  refine ends_still (v := Value.bool true) kr kr ?_
  injection h with h
  subst h
  exact ⟨f54, rfl, L55, HS57⟩
 clear h; have h := hv59; clear hv59
 refine loopK (fun n_ a_ w_ => ∃ (f18 : FM) (x23 : Int) (j22 : Nat → Value), FM.le f f18 ∧ St t w_ f18 (H) ∧ frame_all__frame_lower.l0 k s1 n_ x23 = some o14 ∧ a_ = ⟨#[.string s1, .func (.func 75) #[] #[], uV, uV, (j22 0), (j22 1), .string s1, iV (s1.size : Int), iV x23, (j22 2), (j22 3), (j22 4), (j22 5), (j22 6), (j22 7), (j22 8), (j22 9), (j22 10)], []⟩) k ⟨f, 0, (jL [fV]), fL, HS, h, kr⟩ ?_
 clear h
 rintro n17 _ W20 ⟨f18, x23, j22, L19, HS21, h, rfl⟩ K15 hK16
 obtain _ | n17 := n17
 · exact nomatch h
 simp only [frame_all__frame_lower.l0] at h
 refine wp_seq_k fun K24 hK25 => rl ?_
 refine seqL1 kr ?_
 refine nl (hK25 _ _ ?_)
 refine wp_seq_k (fun K26 hK27 => ?_)
 have hq_ := ite_some h; clear h; rcases hq_ with ⟨c29, h⟩ | ⟨c29, h⟩
 · have c29 : x23 < (s1.size : Int) := c29
   refine wpRwI 9 kr (decide_eq_true c29) ?_
   refine condT kr ?_
   refine wp_skip ?_
   refine hK27 _ _ ?_
   refine wp_seq_k (fun K30 hK31 => ?_)
   refine blockK (fun B32 hx33 hn34 hr35 ho36 hp37 => ?_)
   refine wp_seq_k fun K39 hK40 => rl ?_
   refine seqL2 kr ?_
   refine nl (hK40 _ _ ?_)
   refine wp_seq_k fun K41 hK42 => rl ?_
   have hq_ := guard_some h; clear h; obtain ⟨c43, h⟩ := hq_
   have c43 : 0 ≤ x23 := c43
   refine seqL3 kr ?_
   refine seqK rfl (does_run (run_byte rfl Tryz.underlying9 (kv (.string s1)) (kv (.int .i64 x23)) c43 c29 W20) ?_)
   have hq_ := bind_some h; clear h; obtain ⟨vt44, hc45, h⟩ := hq_
   refine seqK rfl (does_call (f := 75) (args := #[.int .u8 (bt s1 x23)]) kr (frame_lower.calls k (bt s1 x23) HS21 vt44 hc45) ?_)
   rintro _ W48 ⟨f46, rfl, L47, HS49⟩
   refine ⟨_, rfl, ?_⟩
   refine seqL1 kr ?_
   refine nl (hK42 _ _ ?_)
   have hq_ := ite_some h; clear h; rcases hq_ with ⟨c51, h⟩ | ⟨c51, h⟩
   · have c51 : ¬ (vt44 = true) := c51
     refine wpRwI 16 kr (congrArg (fun b_ => !b_) (show vt44 = false from (Bool.eq_false_iff.mpr c51)) : (!vt44) = true) ?_
     refine condT kr ?_
     refine wp_seq_k fun K52 hK53 => rl ?_
     refine seqL1 kr ?_
     refine nl (hK53 _ _ ?_)
     refine wp_ret ?_
     refine hr35 _ _ ?_
     refine hr11 _ _ ?_
     refine hret _ _ ?_
     refine ends_still (v := Value.bool false) kr kr ?_
     replace h := JR61 _ h
     injection h with h
     subst h
     exact ⟨f46, rfl, (L19.trans L47), HS49⟩
   · have c51 : ¬ (¬ (vt44 = true)) := c51
     refine wpRwI 16 (x := (!vt44)) (v := false) kr (congrArg (fun b_ => !b_) (show vt44 = true from (Decidable.of_not_not c51)) : (!vt44) = false) ?_
     refine condF kr ?_
     refine wp_skip ?_
     refine hn34 _ _ ?_
     refine hK31 _ _ ?_
     refine rl ?_
     refine seqL2 kr ?_
     refine nl ?_
     refine hK16 n17 _ _ (Nat.lt_succ_self _) ?_
     exact ⟨f46, (w64 (x23 + 1)), (jL [(j22 0), iV x23, tV, iV x23, .func (.func 75) #[] #[], .string s1, iV x23, .int .u8 (bt s1 x23), .bool vt44, fV, iV (w64 (x23 + 1))]), (L19.trans L47), HS49, h, kr⟩
 · have c29 : ¬ (x23 < (s1.size : Int)) := c29
   refine wpRwI 9 kr (decide_eq_false c29) ?_
   refine condF kr ?_
   refine wp_exit ?_
   refine hx9 _ _ ?_
   exact J60 f18 (jL [(j22 0), (j22 1), iV x23, fV, (j22 3), (j22 4), (j22 5), (j22 6), (j22 7), (j22 8), (j22 9), (j22 10)]) W20 _ L19 h HS21 kr

set_option maxRecDepth 100000 in
set_option maxHeartbeats 4000000 in
theorem frame_typed.calls (k : Nat)  (c1 : Int) {t w : World} {f : FM} {H : List Seg} (HS : St t w f (H)) (rr1 : Bool) (h : frame_typed k c1 = some rr1) :
    Calls Tryz.prog 76 #[.int .u8 c1] w (fun e w' => ∃ (g : FM), e = .returned (Value.bool rr1) ∧ FM.le f g ∧ St t w' g (H)) := by
 unfold frame_typed at h
 refine enter Tryz.func76 rfl (tm := #[.int .u8 c1, uV, uV, uV, uV, uV, uV, uV, uV]) kr ?_
 intro B hret hnor hnp
 refine wp_seq_k fun K2 hK3 => rl ?_
 refine seqL1 kr ?_
 refine nl (hK3 _ _ ?_)
 refine wp_seq_k fun K4 hK5 => rl ?_
 refine seqL3 kr ?_
 have hq_ := ite_some h; clear h; rcases hq_ with ⟨c6, h⟩ | ⟨c6, h⟩
 · have c6 : c1 ≥ 32 := c6
   refine seqRwI 4 kr (decide_eq_true c6) ?_
   refine seqRwI 5 kr (decide_eq_true c6) ?_
   refine seqL4 kr ?_
   refine nl (hK5 _ _ ?_)
   refine wp_ret ?_
   refine hret _ _ ?_
   refine ends_still (v := Value.bool (decide (c1 ≤ 126))) kr kr ?_
   injection h with h
   subst h
   exact ⟨f, rfl, FM.le.refl _, HS⟩
 · have c6 : ¬ (c1 ≥ 32) := c6
   refine seqRwI 4 kr (decide_eq_false c6) ?_
   refine seqRwI 5 kr (decide_eq_false c6) ?_
   refine seqL4 kr ?_
   refine nl (hK5 _ _ ?_)
   refine wp_ret ?_
   refine hret _ _ ?_
   refine ends_still (v := Value.bool false) kr kr ?_
   injection h with h
   subst h
   exact ⟨f, rfl, FM.le.refl _, HS⟩

set_option maxRecDepth 100000 in
set_option maxHeartbeats 4000000 in
theorem frame_all__frame_typed.calls (k : Nat)  (s1 : ByteArray) {t w : World} {f : FM} {H : List Seg} (HS : St t w f (H)) (rr1 : Bool) (h : frame_all__frame_typed k s1 = some rr1) :
    Calls Tryz.prog 71 #[.string s1, .func (.func 76) #[] #[]] w (fun e w' => ∃ (g : FM), e = .returned (Value.bool rr1) ∧ FM.le f g ∧ St t w' g (H)) := by
 unfold frame_all__frame_typed at h
 refine enter Tryz.func71 rfl (tm := #[.string s1, .func (.func 76) #[] #[], uV, uV, uV, uV, uV, uV, uV, uV, uV, uV, uV, uV, uV, uV, uV, uV]) kr ?_
 intro B hret hnor hnp
 refine wp_seq_k fun K2 hK3 => rl ?_
 refine seqL1 kr ?_
 refine nl (hK3 _ _ ?_)
 refine wp_seq_k (fun K4 hK5 => ?_)
 refine wp_seq_k fun K6 hK7 => rl ?_
 refine seqL3 kr ?_
 refine nl (hK7 _ _ ?_)
 refine blockK (fun B8 hx9 hn10 hr11 ho12 hp13 => ?_)
 have hq_ := bind_some h; clear h; obtain ⟨o14, hv59, h⟩ := hq_
 have JR61 : ∀ z_, some (Sum.inl z_) = some o14 → some z_ = some rr1 := by
  intro z_ e_; injection e_ with e_; subst e_; exact h
 have J60 : ∀ (f54 : FM) (j58 : Nat → Value) (W56 : World) (a_ : Act), FM.le f f54 → some (Sum.inr ()) = some o14 → St t W56 f54 (H) → a_ = ⟨#[.string s1, .func (.func 76) #[] #[], uV, uV, (j58 0), (j58 1), .string s1, iV (s1.size : Int), (j58 2), (j58 3), (j58 4), (j58 5), (j58 6), (j58 7), (j58 8), (j58 9), (j58 10), (j58 11)], []⟩ → K4 a_ W56 := by
  intro f54 j58 W56 a_ L55 hj62 HS57  hfr_; subst hfr_
  injection hj62 with hj62; subst hj62; try dsimp only at h
  simp only [Sum.elim_inr] at h
  refine hK5 _ _ ?_
  refine wp_seq_k fun K63 hK64 => rl ?_
  refine seqL1 kr ?_
  refine nl (hK64 _ _ ?_)
  refine wp_ret ?_
  refine hret _ _ ?_
  refine ends_still (v := Value.bool true) kr kr ?_
  injection h with h
  subst h
  exact ⟨f54, rfl, L55, HS57⟩
 clear h; have h := hv59; clear hv59
 refine loopK (fun n_ a_ w_ => ∃ (f18 : FM) (x23 : Int) (j22 : Nat → Value), FM.le f f18 ∧ St t w_ f18 (H) ∧ frame_all__frame_typed.l0 k s1 n_ x23 = some o14 ∧ a_ = ⟨#[.string s1, .func (.func 76) #[] #[], uV, uV, (j22 0), (j22 1), .string s1, iV (s1.size : Int), iV x23, (j22 2), (j22 3), (j22 4), (j22 5), (j22 6), (j22 7), (j22 8), (j22 9), (j22 10)], []⟩) k ⟨f, 0, (jL [fV]), fL, HS, h, kr⟩ ?_
 clear h
 rintro n17 _ W20 ⟨f18, x23, j22, L19, HS21, h, rfl⟩ K15 hK16
 obtain _ | n17 := n17
 · exact nomatch h
 simp only [frame_all__frame_typed.l0] at h
 refine wp_seq_k fun K24 hK25 => rl ?_
 refine seqL1 kr ?_
 refine nl (hK25 _ _ ?_)
 refine wp_seq_k (fun K26 hK27 => ?_)
 have hq_ := ite_some h; clear h; rcases hq_ with ⟨c29, h⟩ | ⟨c29, h⟩
 · have c29 : x23 < (s1.size : Int) := c29
   refine wpRwI 9 kr (decide_eq_true c29) ?_
   refine condT kr ?_
   refine wp_skip ?_
   refine hK27 _ _ ?_
   refine wp_seq_k (fun K30 hK31 => ?_)
   refine blockK (fun B32 hx33 hn34 hr35 ho36 hp37 => ?_)
   refine wp_seq_k fun K39 hK40 => rl ?_
   refine seqL2 kr ?_
   refine nl (hK40 _ _ ?_)
   refine wp_seq_k fun K41 hK42 => rl ?_
   have hq_ := guard_some h; clear h; obtain ⟨c43, h⟩ := hq_
   have c43 : 0 ≤ x23 := c43
   refine seqL3 kr ?_
   refine seqK rfl (does_run (run_byte rfl Tryz.underlying9 (kv (.string s1)) (kv (.int .i64 x23)) c43 c29 W20) ?_)
   have hq_ := bind_some h; clear h; obtain ⟨vt44, hc45, h⟩ := hq_
   refine seqK rfl (does_call (f := 76) (args := #[.int .u8 (bt s1 x23)]) kr (frame_typed.calls k (bt s1 x23) HS21 vt44 hc45) ?_)
   rintro _ W48 ⟨f46, rfl, L47, HS49⟩
   refine ⟨_, rfl, ?_⟩
   refine seqL1 kr ?_
   refine nl (hK42 _ _ ?_)
   have hq_ := ite_some h; clear h; rcases hq_ with ⟨c51, h⟩ | ⟨c51, h⟩
   · have c51 : ¬ (vt44 = true) := c51
     refine wpRwI 16 kr (congrArg (fun b_ => !b_) (show vt44 = false from (Bool.eq_false_iff.mpr c51)) : (!vt44) = true) ?_
     refine condT kr ?_
     refine wp_seq_k fun K52 hK53 => rl ?_
     refine seqL1 kr ?_
     refine nl (hK53 _ _ ?_)
     refine wp_ret ?_
     refine hr35 _ _ ?_
     refine hr11 _ _ ?_
     refine hret _ _ ?_
     refine ends_still (v := Value.bool false) kr kr ?_
     replace h := JR61 _ h
     injection h with h
     subst h
     exact ⟨f46, rfl, (L19.trans L47), HS49⟩
   · have c51 : ¬ (¬ (vt44 = true)) := c51
     refine wpRwI 16 (x := (!vt44)) (v := false) kr (congrArg (fun b_ => !b_) (show vt44 = true from (Decidable.of_not_not c51)) : (!vt44) = false) ?_
     refine condF kr ?_
     refine wp_skip ?_
     refine hn34 _ _ ?_
     refine hK31 _ _ ?_
     refine rl ?_
     refine seqL2 kr ?_
     refine nl ?_
     refine hK16 n17 _ _ (Nat.lt_succ_self _) ?_
     exact ⟨f46, (w64 (x23 + 1)), (jL [(j22 0), iV x23, tV, iV x23, .func (.func 76) #[] #[], .string s1, iV x23, .int .u8 (bt s1 x23), .bool vt44, fV, iV (w64 (x23 + 1))]), (L19.trans L47), HS49, h, kr⟩
 · have c29 : ¬ (x23 < (s1.size : Int)) := c29
   refine wpRwI 9 kr (decide_eq_false c29) ?_
   refine condF kr ?_
   refine wp_exit ?_
   refine hx9 _ _ ?_
   exact J60 f18 (jL [(j22 0), (j22 1), iV x23, fV, (j22 3), (j22 4), (j22 5), (j22 6), (j22 7), (j22 8), (j22 9), (j22 10)]) W20 _ L19 h HS21 kr

theorem strings_TrimSpace.calls (k : Nat) (s : ByteArray) {t w : World} {f : FM} {H : List Seg} (HS : St t w f H) (HA : TabF Tryz.prog "strings.asciiSpace" .u8 Go.Lib.asciiSpaceTab f) (r1 : ByteArray) (h : strings_TrimSpace k s = some r1) :
    Calls Tryz.prog 77 #[.string s] w (fun e w' => ∃ (g : FM), e = .returned (Value.string r1) ∧ FM.le f g ∧ St t w' g H) := by
  unfold strings_TrimSpace at h
  have hq_ := guard_some h; clear h; obtain ⟨h1, h⟩ := hq_
  have hq_ := guard_some h; clear h; obtain ⟨h2, h⟩ := hq_
  injection h with h; subst h
  exact lib_calls (Tryz.strings_TrimSpace s w h1 (fun j b hj => of_decide_eq_true (List.all_eq_true.mp h2 b (List.mem_of_getElem? hj))) (HA.tab HS)) q_bytes HS

theorem strings_Repeat.calls (k : Nat) (s : ByteArray) (n : Int) {t w : World} {f : FM} {H : List Seg} (HS : St t w f H) (r1 : ByteArray) (h : strings_Repeat k s n = some r1) :
    Calls Tryz.prog 47 #[.string s, .int .i64 n] w (fun e w' => ∃ (g : FM), e = .returned (Value.string r1) ∧ FM.le f g ∧ St t w' g H) := by
  unfold strings_Repeat at h
  have hq_ := guard_some h; clear h; obtain ⟨h1, h⟩ := hq_
  have hq_ := guard_some h; clear h; obtain ⟨h2, h⟩ := hq_
  have hq_ := guard_some h; clear h; obtain ⟨h3, h⟩ := hq_
  injection h with h; subst h
  obtain ⟨m_, rfl⟩ : ∃ m_ : Nat, n = m_ := ⟨n.toNat, by omega⟩
  exact lib_calls (Tryz.strings_Repeat s m_ w (by omega) (by simpa using h2)) q_below HS

set_option maxRecDepth 100000 in
set_option maxHeartbeats 4000000 in
theorem frame_text.calls (k : Nat)  (c1 : S_Card) {t w : World} {f : FM} {H : List Seg} (HS : St t w f (H)) (rr1 : ByteArray) (h : frame_text k c1 = some rr1) :
    Calls Tryz.prog 48 #[.agg #[.string c1.Key, .string c1.Value, .string c1.Unit, .string c1.Note]] w (fun e w' => ∃ (g : FM), e = .returned (Value.string rr1) ∧ FM.le f g ∧ St t w' g (H)) := by
 unfold frame_text at h
 refine enter Tryz.func48 rfl (tm := #[(ag_Card c1), uV, uV, uV, uV, uV, uV, uV, uV, uV, uV, uV, uV, uV, uV, uV, uV, uV, uV, uV, uV, uV, uV, uV, uV, uV, uV, uV, uV, uV, uV, uV, uV, uV, uV]) kr ?_
 intro B hret hnor hnp
 refine wp_seq_k fun K2 hK3 => rl ?_
 refine seqK rfl (does_box (cs := #[.string c1.Key, .string c1.Value, .string c1.Unit, .string c1.Note]) rfl (kv (.agg #[.string c1.Key, .string c1.Value, .string c1.Unit, .string c1.Note])) rfl HS ?_)
 intro b4 W5 HS6
 refine seqL1 kr ?_
 refine nl (hK3 _ _ ?_)
 refine wp_seq_k (fun K8 hK9 => ?_)
 refine heldG (S := Sg t f ([(b4, .cells #[.string c1.Key, .string c1.Value, .string c1.Unit, .string c1.Note] 51 (0, 0))] :: H) []) (n := 14) kr rfl HS6 ?_
 intro W10 HS11
 refine takeGL [0] (n := 14) (fuel := 13) #[true, false, false, false, false, false, false, false, false, false, false, false, false, false] rfl kr kr kr hnp (Sg.g0 (Sx.of [] fL HS11)) ?_
 refine takeGQ 1 [] rfl kr kr kr kr kr kr hnp (Sg.g0 (Sx.of [] fL HS11)) (fun w_ hw_ => by obtain ⟨g_, hl_, hS_⟩ := hw_.st; exact run_load rfl Tryz.underlying9 rfl (kv (.pointer (some ⟨b4, 0, none⟩))) (hS_.cell 0)) ?_
 refine takeGL [2] (n := 12) (fuel := 11) #[true, true, true, false, false, false, false, false, false, false, false, false, false, false] rfl kr kr kr hnp (Sg.g0 (Sx.of [] fL HS11)) ?_
 refine takeGQ 3 [] rfl kr kr kr kr kr kr hnp (Sg.g0 (Sx.of [] fL HS11)) (fun w_ hw_ => by obtain ⟨g_, hl_, hS_⟩ := hw_.st; exact run_load rfl Tryz.underlying9 rfl (kv (.pointer (some ⟨b4, 0, none⟩))) (hS_.cell 0)) ?_
 refine takeGL [4, 5, 6, 10] (n := 10) (fuel := 6) #[true, true, true, true, true, true, true, false, false, false, true, false, false, false] rfl kr kr kr hnp (Sg.g0 (Sx.of [] fL HS11)) ?_
 refine takeGQ 11 [] rfl kr kr kr kr kr kr hnp (Sg.g0 (Sx.of [] fL HS11)) (fun w_ hw_ => by obtain ⟨g_, hl_, hS_⟩ := hw_.st; exact run_load rfl Tryz.underlying9 rfl (kv (.pointer (some ⟨b4, 1, none⟩))) (hS_.cell 1)) ?_
 have hq_ := bind_some h; clear h; obtain ⟨vt12, hc13, h⟩ := hq_
 refine takeGE 7 kr rfl kr (does_call (f := 47) (args := #[.string ⟨#[32]⟩, .int .i64 (mx 0 (w64 (8 - (c1.Key.size : Int))))]) kr (strings_Repeat.calls k Z14 (mx 0 (w64 (8 - (c1.Key.size : Int)))) HS11 vt12 hc13) ?_)
 rintro _ W16 ⟨f14, rfl, L15, HS17⟩
 refine ⟨_, rfl, ?_⟩
 refine ⟨(Sg.g0 (Sx.of [] L15 HS17)), ?_⟩
 have hq_ := guard_some h; clear h; obtain ⟨c18, h⟩ := hq_
 have c18 : c1.Key.size + vt12.size ≤ 9223372036854775807 := c18
 refine takeGQ 8 [] rfl kr kr kr kr kr kr hnp (Sg.g0 (Sx.of [] L15 HS17)) (fun w_ hw_ => by obtain ⟨g_, hl_, hS_⟩ := hw_.st; exact run_concat rfl (kv (.string c1.Key)) (kv (.string vt12)) c18 w_) ?_
 have hq_ := guard_some h; clear h; obtain ⟨c19, h⟩ := hq_
 have c19 : (c1.Key ++ vt12).size + Z21.size ≤ 9223372036854775807 := c19
 refine takeGQ 9 [] rfl kr kr kr kr kr kr hnp (Sg.g0 (Sx.of [] L15 HS17)) (fun w_ hw_ => by obtain ⟨g_, hl_, hS_⟩ := hw_.st; exact run_concat rfl (kv (.string (c1.Key ++ vt12))) (kv (.string ⟨#[61, 32]⟩)) c19 w_) ?_
 have hq_ := guard_some h; clear h; obtain ⟨c20, h⟩ := hq_
 have c20 : ((c1.Key ++ vt12) ++ Z21).size + c1.Value.size ≤ 9223372036854775807 := c20
 refine takeGQ 12 [] rfl kr kr kr kr kr kr hnp (Sg.g0 (Sx.of [] L15 HS17)) (fun w_ hw_ => by obtain ⟨g_, hl_, hS_⟩ := hw_.st; exact run_concat rfl (kv (.string ((c1.Key ++ vt12) ++ Z21))) (kv (.string c1.Value)) c20 w_) ?_
 refine takeGL [13] (n := 1) (fuel := 0) #[true, true, true, true, true, true, true, true, true, true, true, true, true, true] rfl kr kr kr hnp (Sg.g0 (Sx.of [] L15 HS17)) ?_
 refine doneG kr ?_ _
 refine hK9 _ _ ?_
 refine wp_seq_k (fun K21 hK22 => ?_)
 refine wp_seq_k fun K23 hK24 => rl ?_
 refine seqL1 kr ?_
 refine seqK rfl (does_run (run_load rfl Tryz.underlying9 rfl (kv (.pointer (some ⟨b4, 2, none⟩))) (HS17.cell 2)) ?_)
 refine seqL1 kr ?_
 refine nl (hK24 _ _ ?_)
 have hq_ := ite_some h; clear h; rcases hq_ with ⟨c26, h⟩ | ⟨c26, h⟩
 · have c26 : (!(c1.Unit.toList == Z44.toList)) = true := c26
   refine wpRwI 19 kr c26 ?_
   refine condT kr ?_
   refine rl ?_
   refine seqL2 kr ?_
   refine seqK rfl (does_run (run_load rfl Tryz.underlying9 rfl (kv (.pointer (some ⟨b4, 2, none⟩))) (HS17.cell 2)) ?_)
   have hq_ := guard_some h; clear h; obtain ⟨c27, h⟩ := hq_
   have c27 : Z13.size + c1.Unit.size ≤ 9223372036854775807 := c27
   refine seqK rfl (does_run (run_concat rfl (kv (.string ⟨#[32, 91]⟩)) (kv (.string c1.Unit)) c27 W16) ?_)
   have hq_ := guard_some h; clear h; obtain ⟨c28, h⟩ := hq_
   have c28 : (Z13 ++ c1.Unit).size + Z37.size ≤ 9223372036854775807 := c28
   refine seqK rfl (does_run (run_concat rfl (kv (.string (Z13 ++ c1.Unit))) (kv (.string ⟨#[93]⟩)) c28 W16) ?_)
   have hq_ := guard_some h; clear h; obtain ⟨c29, h⟩ := hq_
   have c29 : (((c1.Key ++ vt12) ++ Z21) ++ c1.Value).size + ((Z13 ++ c1.Unit) ++ Z37).size ≤ 9223372036854775807 := c29
   refine seqK rfl (does_run (run_concat rfl (kv (.string (((c1.Key ++ vt12) ++ Z21) ++ c1.Value))) (kv (.string ((Z13 ++ c1.Unit) ++ Z37))) c29 W16) ?_)
   refine seqL1 kr ?_
   refine nl (hK22 _ _ ?_)
   refine wp_seq_k (fun K30 hK31 => ?_)
   refine wp_seq_k fun K32 hK33 => rl ?_
   refine seqL1 kr ?_
   refine seqK rfl (does_run (run_load rfl Tryz.underlying9 rfl (kv (.pointer (some ⟨b4, 3, none⟩))) (HS17.cell 3)) ?_)
   refine seqL1 kr ?_
   refine nl (hK33 _ _ ?_)
   have hq_ := ite_some h; clear h; rcases hq_ with ⟨c35, h⟩ | ⟨c35, h⟩
   · have c35 : (!(c1.Note.toList == Z44.toList)) = true := c35
     refine wpRwI 28 kr c35 ?_
     refine condT kr ?_
     refine rl ?_
     refine seqL2 kr ?_
     refine seqK rfl (does_run (run_load rfl Tryz.underlying9 rfl (kv (.pointer (some ⟨b4, 3, none⟩))) (HS17.cell 3)) ?_)
     have hq_ := guard_some h; clear h; obtain ⟨c36, h⟩ := hq_
     have c36 : Z12.size + c1.Note.size ≤ 9223372036854775807 := c36
     refine seqK rfl (does_run (run_concat rfl (kv (.string ⟨#[32, 47, 32]⟩)) (kv (.string c1.Note)) c36 W16) ?_)
     have hq_ := guard_some h; clear h; obtain ⟨c37, h⟩ := hq_
     have c37 : ((((c1.Key ++ vt12) ++ Z21) ++ c1.Value) ++ ((Z13 ++ c1.Unit) ++ Z37)).size + (Z12 ++ c1.Note).size ≤ 9223372036854775807 := c37
     refine seqK rfl (does_run (run_concat rfl (kv (.string ((((c1.Key ++ vt12) ++ Z21) ++ c1.Value) ++ ((Z13 ++ c1.Unit) ++ Z37)))) (kv (.string (Z12 ++ c1.Note))) c37 W16) ?_)
     refine seqL1 kr ?_
     refine nl (hK31 _ _ ?_)
     refine wp_seq_k fun K38 hK39 => rl ?_
     refine seqL2 kr ?_
     refine nl (hK39 _ _ ?_)
     refine wp_ret ?_
     refine hret _ _ ?_
     refine ends_still (v := Value.string (((((c1.Key ++ vt12) ++ Z21) ++ c1.Value) ++ ((Z13 ++ c1.Unit) ++ Z37)) ++ (Z12 ++ c1.Note))) kr kr ?_
     have HS54 := HS17.drop
     injection h with h
     subst h
     exact ⟨f14, rfl, L15, HS54⟩
   · have c35 : ¬ ((!(c1.Note.toList == Z44.toList)) = true) := c35
     refine wpRwI 28 kr (Bool.eq_false_iff.mpr c35) ?_
     refine condF kr ?_
     refine wp_skip ?_
     refine hK31 _ _ ?_
     refine wp_seq_k fun K40 hK41 => rl ?_
     refine seqL2 kr ?_
     refine nl (hK41 _ _ ?_)
     refine wp_ret ?_
     refine hret _ _ ?_
     refine ends_still (v := Value.string ((((c1.Key ++ vt12) ++ Z21) ++ c1.Value) ++ ((Z13 ++ c1.Unit) ++ Z37))) kr kr ?_
     have HS55 := HS17.drop
     injection h with h
     subst h
     exact ⟨f14, rfl, L15, HS55⟩
 · have c26 : ¬ ((!(c1.Unit.toList == Z44.toList)) = true) := c26
   refine wpRwI 19 kr (Bool.eq_false_iff.mpr c26) ?_
   refine condF kr ?_
   refine wp_skip ?_
   refine hK22 _ _ ?_
   refine wp_seq_k (fun K42 hK43 => ?_)
   refine wp_seq_k fun K44 hK45 => rl ?_
   refine seqL1 kr ?_
   refine seqK rfl (does_run (run_load rfl Tryz.underlying9 rfl (kv (.pointer (some ⟨b4, 3, none⟩))) (HS17.cell 3)) ?_)
   refine seqL1 kr ?_
   refine nl (hK45 _ _ ?_)
   have hq_ := ite_some h; clear h; rcases hq_ with ⟨c47, h⟩ | ⟨c47, h⟩
   · have c47 : (!(c1.Note.toList == Z44.toList)) = true := c47
     refine wpRwI 28 kr c47 ?_
     refine condT kr ?_
     refine rl ?_
     refine seqL2 kr ?_
     refine seqK rfl (does_run (run_load rfl Tryz.underlying9 rfl (kv (.pointer (some ⟨b4, 3, none⟩))) (HS17.cell 3)) ?_)
     have hq_ := guard_some h; clear h; obtain ⟨c48, h⟩ := hq_
     have c48 : Z12.size + c1.Note.size ≤ 9223372036854775807 := c48
     refine seqK rfl (does_run (run_concat rfl (kv (.string ⟨#[32, 47, 32]⟩)) (kv (.string c1.Note)) c48 W16) ?_)
     have hq_ := guard_some h; clear h; obtain ⟨c49, h⟩ := hq_
     have c49 : (((c1.Key ++ vt12) ++ Z21) ++ c1.Value).size + (Z12 ++ c1.Note).size ≤ 9223372036854775807 := c49
     refine seqK rfl (does_run (run_concat rfl (kv (.string (((c1.Key ++ vt12) ++ Z21) ++ c1.Value))) (kv (.string (Z12 ++ c1.Note))) c49 W16) ?_)
     refine seqL1 kr ?_
     refine nl (hK43 _ _ ?_)
     refine wp_seq_k fun K50 hK51 => rl ?_
     refine seqL2 kr ?_
     refine nl (hK51 _ _ ?_)
     refine wp_ret ?_
     refine hret _ _ ?_
     refine ends_still (v := Value.string ((((c1.Key ++ vt12) ++ Z21) ++ c1.Value) ++ (Z12 ++ c1.Note))) kr kr ?_
     have HS56 := HS17.drop
     injection h with h
     subst h
     exact ⟨f14, rfl, L15, HS56⟩
   · have c47 : ¬ ((!(c1.Note.toList == Z44.toList)) = true) := c47
     refine wpRwI 28 kr (Bool.eq_false_iff.mpr c47) ?_
     refine condF kr ?_
     refine wp_skip ?_
     refine hK43 _ _ ?_
     refine wp_seq_k fun K52 hK53 => rl ?_
     refine seqL2 kr ?_
     refine nl (hK53 _ _ ?_)
     refine wp_ret ?_
     refine hret _ _ ?_
     refine ends_still (v := Value.string (((c1.Key ++ vt12) ++ Z21) ++ c1.Value)) kr kr ?_
     have HS57 := HS17.drop
     injection h with h
     subst h
     exact ⟨f14, rfl, L15, HS57⟩

set_option maxRecDepth 100000 in
set_option maxHeartbeats 4000000 in
theorem frame_CheckCard.calls (k : Nat)  (c1 : S_Card) {t w : World} {f : FM} {H : List Seg} (HS : St t w f (H)) (HA : TabF Tryz.prog "strings.asciiSpace" .u8 Go.Lib.asciiSpaceTab f) (rr1 : Int) (h : frame_CheckCard k c1 = some rr1) :
    Calls Tryz.prog 43 #[.agg #[.string c1.Key, .string c1.Value, .string c1.Unit, .string c1.Note]] w (fun e w' => ∃ (g : FM), e = .returned (Value.int .i64 rr1) ∧ FM.le f g ∧ St t w' g (H)) := by
 unfold frame_CheckCard at h
 refine enter Tryz.func43 rfl (tm := #[(ag_Card c1), uV, uV, uV, uV, uV, uV, uV, uV, uV, uV, uV, uV, uV, uV, uV, uV, uV, uV, uV, uV, uV, uV, uV, uV, uV, uV, uV, uV, uV, uV, uV, uV, uV, uV, uV, uV, uV, uV, uV, uV, uV, uV, uV, uV, uV, uV, uV, uV, uV, uV, uV, uV, uV, uV, uV, uV, uV, uV, uV, uV, uV, uV, uV, uV, uV, uV, uV, uV, uV, uV, uV, uV, uV, uV, uV]) kr ?_
 intro B hret hnor hnp
 refine wp_seq_k fun K2 hK3 => rl ?_
 refine seqK rfl (does_box (cs := #[.string c1.Key, .string c1.Value, .string c1.Unit, .string c1.Note]) rfl (kv (.agg #[.string c1.Key, .string c1.Value, .string c1.Unit, .string c1.Note])) rfl HS ?_)
 intro b4 W5 HS6
 refine seqL1 kr ?_
 refine nl (hK3 _ _ ?_)
 refine wp_seq_k (fun K8 hK9 => ?_)
 refine blockK (fun B10 hx11 hn12 hr13 ho14 hp15 => ?_)
 refine wp_seq_k fun K17 hK18 => rl ?_
 refine seqL1 kr ?_
 refine seqK rfl (does_run (run_load rfl Tryz.underlying9 rfl (kv (.pointer (some ⟨b4, 0, none⟩))) (HS6.cell 0)) ?_)
 refine seqL2 kr ?_
 have hq_ := ite_some h; clear h; rcases hq_ with ⟨c19, h⟩ | ⟨c19, h⟩
 · have c19 : (c1.Key.toList == Z44.toList) = true := c19
   refine seqRwI 6 kr c19 ?_
   refine seqRwI 7 kr c19 ?_
   refine seqL24 kr ?_
   refine nl (hK18 _ _ ?_)
   refine condT kr ?_
   refine wp_seq_k fun K20 hK21 => rl ?_
   refine seqL1 kr ?_
   refine nl (hK21 _ _ ?_)
   refine wp_ret ?_
   refine hr13 _ _ ?_
   refine hret _ _ ?_
   refine ends_still (v := Value.int .i64 6) kr kr ?_
   have HS124 := HS6.drop
   injection h with h
   subst h
   exact ⟨f, rfl, FM.le.refl _, HS124⟩
 · have c19 : ¬ ((c1.Key.toList == Z44.toList) = true) := c19
   refine seqRwI 6 kr (Bool.eq_false_iff.mpr c19) ?_
   refine seqRwI 7 kr (Bool.eq_false_iff.mpr c19) ?_
   refine seqL1 kr ?_
   refine seqG kr (does_run (run_load rfl Tryz.underlying9 rfl (kv (.pointer (some ⟨b4, 0, none⟩))) (HS6.cell 0)) ?_)
   refine seqL4 kr ?_
   have hq_ := ite_some h; clear h; rcases hq_ with ⟨c22, h⟩ | ⟨c22, h⟩
   · have c22 : (c1.Key.size : Int) > 8 := c22
     refine seqRwI 11 kr (decide_eq_true c22) ?_
     refine seqRwI 12 kr (decide_eq_true c22) ?_
     refine seqRwI 13 kr (decide_eq_true c22) ?_
     refine seqL18 kr ?_
     refine nl (hK18 _ _ ?_)
     refine condT kr ?_
     refine wp_seq_k fun K23 hK24 => rl ?_
     refine seqL1 kr ?_
     refine nl (hK24 _ _ ?_)
     refine wp_ret ?_
     refine hr13 _ _ ?_
     refine hret _ _ ?_
     refine ends_still (v := Value.int .i64 6) kr kr ?_
     have HS125 := HS6.drop
     injection h with h
     subst h
     exact ⟨f, rfl, FM.le.refl _, HS125⟩
   · have c22 : ¬ ((c1.Key.size : Int) > 8) := c22
     refine seqRwI 11 kr (decide_eq_false c22) ?_
     refine seqRwI 12 kr (decide_eq_false c22) ?_
     refine seqRwI 13 kr (decide_eq_false c22) ?_
     refine seqL1 kr ?_
     refine seqG kr (does_run (run_load rfl Tryz.underlying9 rfl (kv (.pointer (some ⟨b4, 0, none⟩))) (HS6.cell 0)) ?_)
     have hq_ := guard_some h; clear h; obtain ⟨c25, h⟩ := hq_
     have c25 : 0 < (c1.Key.size : Int) := c25
     refine seqG kr (does_run (run_byte rfl Tryz.underlying9 (kv (.string c1.Key)) (kv (.int .i64 0)) (by decide) c25 W5) ?_)
     have hq_ := bind_some h; clear h; obtain ⟨vt26, hc27, h⟩ := hq_
     refine seqG kr (does_call (f := 70) (args := #[.int .u8 (bt c1.Key 0)]) kr (frame_upper.calls k (bt c1.Key 0) HS6 vt26 hc27) ?_)
     rintro _ W30 ⟨f28, rfl, L29, HS31⟩
     refine ⟨_, rfl, ?_⟩
     refine seqL3 kr ?_
     have hq_ := ite_some h; clear h; rcases hq_ with ⟨c32, h⟩ | ⟨c32, h⟩
     · have c32 : ¬ (vt26 = true) := c32
       refine seqRwI 18 kr (congrArg (fun b_ => !b_) (show vt26 = false from (Bool.eq_false_iff.mpr c32)) : (!vt26) = true) ?_
       refine seqRwI 19 kr (congrArg (fun b_ => !b_) (show vt26 = false from (Bool.eq_false_iff.mpr c32)) : (!vt26) = true) ?_
       refine seqRwI 20 kr (congrArg (fun b_ => !b_) (show vt26 = false from (Bool.eq_false_iff.mpr c32)) : (!vt26) = true) ?_
       refine seqL11 kr ?_
       refine nl (hK18 _ _ ?_)
       refine condT kr ?_
       refine wp_seq_k fun K33 hK34 => rl ?_
       refine seqL1 kr ?_
       refine nl (hK34 _ _ ?_)
       refine wp_ret ?_
       refine hr13 _ _ ?_
       refine hret _ _ ?_
       refine ends_still (v := Value.int .i64 6) kr kr ?_
       have HS126 := HS31.drop
       injection h with h
       subst h
       exact ⟨f28, rfl, L29, HS126⟩
     · have c32 : ¬ (¬ (vt26 = true)) := c32
       refine seqRwI 18 (x := (!vt26)) (v := false) kr (congrArg (fun b_ => !b_) (show vt26 = true from (Decidable.of_not_not c32)) : (!vt26) = false) ?_
       refine seqRwI 19 (x := (!vt26)) (v := false) kr (congrArg (fun b_ => !b_) (show vt26 = true from (Decidable.of_not_not c32)) : (!vt26) = false) ?_
       refine seqRwI 20 (x := (!vt26)) (v := false) kr (congrArg (fun b_ => !b_) (show vt26 = true from (Decidable.of_not_not c32)) : (!vt26) = false) ?_
       refine seqL1 kr ?_
       refine seqG kr (does_run (run_load rfl Tryz.underlying9 rfl (kv (.pointer (some ⟨b4, 0, none⟩))) (HS31.cell 0)) ?_)
       have hq_ := bind_some h; clear h; obtain ⟨vt35, hc36, h⟩ := hq_
       refine seqG kr (does_call (f := 71) (args := #[.string c1.Key, .func (.func 72) #[] #[]]) kr (frame_all__frame_inKey.calls k c1.Key HS31 vt35 hc36) ?_)
       rintro _ W39 ⟨f37, rfl, L38, HS40⟩
       refine ⟨_, rfl, ?_⟩
       refine seqL3 kr ?_
       have hq_ := ite_some h; clear h; rcases hq_ with ⟨c41, h⟩ | ⟨c41, h⟩
       · have c41 : ¬ (vt35 = true) := c41
         refine seqRwI 24 kr (congrArg (fun b_ => !b_) (show vt35 = false from (Bool.eq_false_iff.mpr c41)) : (!vt35) = true) ?_
         refine seqRwI 25 kr (congrArg (fun b_ => !b_) (show vt35 = false from (Bool.eq_false_iff.mpr c41)) : (!vt35) = true) ?_
         refine seqRwI 26 kr (congrArg (fun b_ => !b_) (show vt35 = false from (Bool.eq_false_iff.mpr c41)) : (!vt35) = true) ?_
         refine seqL5 kr ?_
         refine nl (hK18 _ _ ?_)
         refine condT kr ?_
         refine wp_seq_k fun K42 hK43 => rl ?_
         refine seqL1 kr ?_
         refine nl (hK43 _ _ ?_)
         refine wp_ret ?_
         refine hr13 _ _ ?_
         refine hret _ _ ?_
         refine ends_still (v := Value.int .i64 6) kr kr ?_
         have HS127 := HS40.drop
         injection h with h
         subst h
         exact ⟨f37, rfl, (L29.trans L38), HS127⟩
       · have c41 : ¬ (¬ (vt35 = true)) := c41
         refine seqRwI 24 (x := (!vt35)) (v := false) kr (congrArg (fun b_ => !b_) (show vt35 = true from (Decidable.of_not_not c41)) : (!vt35) = false) ?_
         refine seqRwI 25 (x := (!vt35)) (v := false) kr (congrArg (fun b_ => !b_) (show vt35 = true from (Decidable.of_not_not c41)) : (!vt35) = false) ?_
         refine seqRwI 26 (x := (!vt35)) (v := false) kr (congrArg (fun b_ => !b_) (show vt35 = true from (Decidable.of_not_not c41)) : (!vt35) = false) ?_
         refine seqL1 kr ?_
         refine seqG kr (does_run (run_load rfl Tryz.underlying9 rfl (kv (.pointer (some ⟨b4, 0, none⟩))) (HS40.cell 0)) ?_)
         have hq_ := bind_some h; clear h; obtain ⟨vt44, hc45, h⟩ := hq_
         refine seqG kr (does_call (f := 73) (args := #[.string c1.Key]) kr (frame_own.calls k c1.Key HS40 vt44 hc45) ?_)
         rintro _ W48 ⟨f46, rfl, L47, HS49⟩
         refine ⟨_, rfl, ?_⟩
         refine seqL2 kr ?_
         refine nl (hK18 _ _ ?_)
         have hq_ := ite_some h; clear h; rcases hq_ with ⟨c51, h⟩ | ⟨c51, h⟩
         · have c51 : vt44 = true := c51
           refine wpRwI 3 kr c51 ?_
           refine wpRwI 29 kr c51 ?_
           refine wpRwI 30 kr c51 ?_
           refine condT kr ?_
           refine wp_seq_k fun K52 hK53 => rl ?_
           refine seqL1 kr ?_
           refine nl (hK53 _ _ ?_)
           refine wp_ret ?_
           refine hr13 _ _ ?_
           refine hret _ _ ?_
           refine ends_still (v := Value.int .i64 6) kr kr ?_
           have HS128 := HS49.drop
           injection h with h
           subst h
           exact ⟨f46, rfl, (L29.trans (L38.trans L47)), HS128⟩
         · have c51 : ¬ (vt44 = true) := c51
           refine wpRwI 3 kr (Bool.eq_false_iff.mpr c51) ?_
           refine wpRwI 29 kr (Bool.eq_false_iff.mpr c51) ?_
           refine wpRwI 30 kr (Bool.eq_false_iff.mpr c51) ?_
           refine condF kr ?_
           refine wp_seq_k fun K54 hK55 => rl ?_
           refine seqL1 kr ?_
           refine seqK rfl (does_run (run_load rfl Tryz.underlying9 rfl (kv (.pointer (some ⟨b4, 1, none⟩))) (HS49.cell 1)) ?_)
           refine seqL2 kr ?_
           have hq_ := ite_some h; clear h; rcases hq_ with ⟨c56, h⟩ | ⟨c56, h⟩
           · have c56 : (c1.Value.toList == Z44.toList) = true := c56
             refine seqRwI 34 kr c56 ?_
             refine seqRwI 35 kr c56 ?_
             refine seqL12 kr ?_
             refine nl (hK55 _ _ ?_)
             refine condT kr ?_
             refine wp_seq_k fun K57 hK58 => rl ?_
             refine seqL1 kr ?_
             refine nl (hK58 _ _ ?_)
             refine wp_ret ?_
             refine hr13 _ _ ?_
             refine hret _ _ ?_
             refine ends_still (v := Value.int .i64 3) kr kr ?_
             have HS129 := HS49.drop
             injection h with h
             subst h
             exact ⟨f46, rfl, (L29.trans (L38.trans L47)), HS129⟩
           · have c56 : ¬ ((c1.Value.toList == Z44.toList) = true) := c56
             refine seqRwI 34 kr (Bool.eq_false_iff.mpr c56) ?_
             refine seqRwI 35 kr (Bool.eq_false_iff.mpr c56) ?_
             refine seqL1 kr ?_
             refine seqG kr (does_run (run_load rfl Tryz.underlying9 rfl (kv (.pointer (some ⟨b4, 1, none⟩))) (HS49.cell 1)) ?_)
             refine seqL4 kr ?_
             have hq_ := ite_some h; clear h; rcases hq_ with ⟨c59, h⟩ | ⟨c59, h⟩
             · have c59 : (c1.Value.size : Int) > 20 := c59
               refine seqRwI 39 kr (decide_eq_true c59) ?_
               refine seqRwI 40 kr (decide_eq_true c59) ?_
               refine seqRwI 41 kr (decide_eq_true c59) ?_
               refine seqL6 kr ?_
               refine nl (hK55 _ _ ?_)
               refine condT kr ?_
               refine wp_seq_k fun K60 hK61 => rl ?_
               refine seqL1 kr ?_
               refine nl (hK61 _ _ ?_)
               refine wp_ret ?_
               refine hr13 _ _ ?_
               refine hret _ _ ?_
               refine ends_still (v := Value.int .i64 3) kr kr ?_
               have HS130 := HS49.drop
               injection h with h
               subst h
               exact ⟨f46, rfl, (L29.trans (L38.trans L47)), HS130⟩
             · have c59 : ¬ ((c1.Value.size : Int) > 20) := c59
               refine seqRwI 39 kr (decide_eq_false c59) ?_
               refine seqRwI 40 kr (decide_eq_false c59) ?_
               refine seqRwI 41 kr (decide_eq_false c59) ?_
               refine seqL1 kr ?_
               refine seqG kr (does_run (run_load rfl Tryz.underlying9 rfl (kv (.pointer (some ⟨b4, 1, none⟩))) (HS49.cell 1)) ?_)
               have hq_ := bind_some h; clear h; obtain ⟨vt62, hc63, h⟩ := hq_
               refine seqG kr (does_call (f := 71) (args := #[.string c1.Value, .func (.func 74) #[] #[]]) kr (frame_all__frame_inked.calls k c1.Value HS49 vt62 hc63) ?_)
               rintro _ W66 ⟨f64, rfl, L65, HS67⟩
               refine ⟨_, rfl, ?_⟩
               refine seqL3 kr ?_
               refine nl (hK55 _ _ ?_)
               have hq_ := ite_some h; clear h; rcases hq_ with ⟨c69, h⟩ | ⟨c69, h⟩
               · have c69 : ¬ (vt62 = true) := c69
                 refine wpRwI 31 kr (congrArg (fun b_ => !b_) (show vt62 = false from (Bool.eq_false_iff.mpr c69)) : (!vt62) = true) ?_
                 refine wpRwI 45 kr (congrArg (fun b_ => !b_) (show vt62 = false from (Bool.eq_false_iff.mpr c69)) : (!vt62) = true) ?_
                 refine wpRwI 46 kr (congrArg (fun b_ => !b_) (show vt62 = false from (Bool.eq_false_iff.mpr c69)) : (!vt62) = true) ?_
                 refine condT kr ?_
                 refine wp_seq_k fun K70 hK71 => rl ?_
                 refine seqL1 kr ?_
                 refine nl (hK71 _ _ ?_)
                 refine wp_ret ?_
                 refine hr13 _ _ ?_
                 refine hret _ _ ?_
                 refine ends_still (v := Value.int .i64 3) kr kr ?_
                 have HS131 := HS67.drop
                 injection h with h
                 subst h
                 exact ⟨f64, rfl, (L29.trans (L38.trans (L47.trans L65))), HS131⟩
               · have c69 : ¬ (¬ (vt62 = true)) := c69
                 refine wpRwI 31 (x := (!vt62)) (v := false) kr (congrArg (fun b_ => !b_) (show vt62 = true from (Decidable.of_not_not c69)) : (!vt62) = false) ?_
                 refine wpRwI 45 (x := (!vt62)) (v := false) kr (congrArg (fun b_ => !b_) (show vt62 = true from (Decidable.of_not_not c69)) : (!vt62) = false) ?_
                 refine wpRwI 46 (x := (!vt62)) (v := false) kr (congrArg (fun b_ => !b_) (show vt62 = true from (Decidable.of_not_not c69)) : (!vt62) = false) ?_
                 refine condF kr ?_
                 refine wp_seq_k fun K72 hK73 => rl ?_
                 refine seqL1 kr ?_
                 refine seqK rfl (does_run (run_load rfl Tryz.underlying9 rfl (kv (.pointer (some ⟨b4, 2, none⟩))) (HS67.cell 2)) ?_)
                 refine seqL3 kr ?_
                 have hq_ := ite_some h; clear h; rcases hq_ with ⟨c74, h⟩ | ⟨c74, h⟩
                 · have c74 : (c1.Unit.size : Int) > 8 := c74
                   refine seqRwI 51 kr (decide_eq_true c74) ?_
                   refine seqRwI 52 kr (decide_eq_true c74) ?_
                   refine seqL6 kr ?_
                   refine nl (hK73 _ _ ?_)
                   refine condT kr ?_
                   refine wp_seq_k fun K75 hK76 => rl ?_
                   refine seqL1 kr ?_
                   refine nl (hK76 _ _ ?_)
                   refine wp_ret ?_
                   refine hr13 _ _ ?_
                   refine hret _ _ ?_
                   refine ends_still (v := Value.int .i64 3) kr kr ?_
                   have HS132 := HS67.drop
                   injection h with h
                   subst h
                   exact ⟨f64, rfl, (L29.trans (L38.trans (L47.trans L65))), HS132⟩
                 · have c74 : ¬ ((c1.Unit.size : Int) > 8) := c74
                   refine seqRwI 51 kr (decide_eq_false c74) ?_
                   refine seqRwI 52 kr (decide_eq_false c74) ?_
                   refine seqL1 kr ?_
                   refine seqG kr (does_run (run_load rfl Tryz.underlying9 rfl (kv (.pointer (some ⟨b4, 2, none⟩))) (HS67.cell 2)) ?_)
                   have hq_ := bind_some h; clear h; obtain ⟨vt77, hc78, h⟩ := hq_
                   refine seqG kr (does_call (f := 71) (args := #[.string c1.Unit, .func (.func 75) #[] #[]]) kr (frame_all__frame_lower.calls k c1.Unit HS67 vt77 hc78) ?_)
                   rintro _ W81 ⟨f79, rfl, L80, HS82⟩
                   refine ⟨_, rfl, ?_⟩
                   refine seqL3 kr ?_
                   refine nl (hK73 _ _ ?_)
                   have hq_ := ite_some h; clear h; rcases hq_ with ⟨c84, h⟩ | ⟨c84, h⟩
                   · have c84 : ¬ (vt77 = true) := c84
                     refine wpRwI 47 kr (congrArg (fun b_ => !b_) (show vt77 = false from (Bool.eq_false_iff.mpr c84)) : (!vt77) = true) ?_
                     refine wpRwI 56 kr (congrArg (fun b_ => !b_) (show vt77 = false from (Bool.eq_false_iff.mpr c84)) : (!vt77) = true) ?_
                     refine wpRwI 57 kr (congrArg (fun b_ => !b_) (show vt77 = false from (Bool.eq_false_iff.mpr c84)) : (!vt77) = true) ?_
                     refine condT kr ?_
                     refine wp_seq_k fun K85 hK86 => rl ?_
                     refine seqL1 kr ?_
                     refine nl (hK86 _ _ ?_)
                     refine wp_ret ?_
                     refine hr13 _ _ ?_
                     refine hret _ _ ?_
                     refine ends_still (v := Value.int .i64 3) kr kr ?_
                     have HS133 := HS82.drop
                     injection h with h
                     subst h
                     exact ⟨f79, rfl, (L29.trans (L38.trans (L47.trans (L65.trans L80)))), HS133⟩
                   · have c84 : ¬ (¬ (vt77 = true)) := c84
                     refine wpRwI 47 (x := (!vt77)) (v := false) kr (congrArg (fun b_ => !b_) (show vt77 = true from (Decidable.of_not_not c84)) : (!vt77) = false) ?_
                     refine wpRwI 56 (x := (!vt77)) (v := false) kr (congrArg (fun b_ => !b_) (show vt77 = true from (Decidable.of_not_not c84)) : (!vt77) = false) ?_
                     refine wpRwI 57 (x := (!vt77)) (v := false) kr (congrArg (fun b_ => !b_) (show vt77 = true from (Decidable.of_not_not c84)) : (!vt77) = false) ?_
                     refine condF kr ?_
                     refine wp_seq_k (fun K87 hK88 => ?_)
                     refine heldG (S := Sg t f79 ([(b4, .cells #[.string c1.Key, .string c1.Value, .string c1.Unit, .string c1.Note] 51 (0, 0))] :: H) []) (n := 13) kr rfl HS82 ?_
                     intro W89 HS90
                     refine takeGL [0] (n := 13) (fuel := 12) #[true, false, false, false, false, false, false, false, false, false, false, false, false] rfl kr kr kr (fun ch_ a_ w_ q_ => hnp ch_ a_ w_ (hp15 ch_ a_ w_ q_)) (Sg.g0 (Sx.of [] fL HS90)) ?_
                     refine takeGQ 1 [] rfl kr kr kr kr kr kr (fun ch_ a_ w_ q_ => hnp ch_ a_ w_ (hp15 ch_ a_ w_ q_)) (Sg.g0 (Sx.of [] fL HS90)) (fun w_ hw_ => by obtain ⟨g_, hl_, hS_⟩ := hw_.st; exact run_load rfl Tryz.underlying9 rfl (kv (.pointer (some ⟨b4, 3, none⟩))) (hS_.cell 3)) ?_
                     have hq_ := bind_some h; clear h; obtain ⟨vt91, hc92, h⟩ := hq_
                     refine takeGE 2 kr rfl kr (does_call (f := 71) (args := #[.string c1.Note, .func (.func 76) #[] #[]]) kr (frame_all__frame_typed.calls k c1.Note HS90 vt91 hc92) ?_)
                     rintro _ W95 ⟨f93, rfl, L94, HS96⟩
                     refine ⟨_, rfl, ?_⟩
                     refine ⟨(Sg.g0 (Sx.of [] L94 HS96)), ?_⟩
                     refine takeGL [3, 4] (n := 10) (fuel := 8) #[true, true, true, true, true, false, false, false, false, false, false, false, false] rfl kr kr kr (fun ch_ a_ w_ q_ => hnp ch_ a_ w_ (hp15 ch_ a_ w_ q_)) (Sg.g0 (Sx.of [] L94 HS96)) ?_
                     have hq_ := ite_some h; clear h; rcases hq_ with ⟨c97, h⟩ | ⟨c97, h⟩
                     · have c97 : ¬ (vt91 = true) := c97
                       refine gateRwI 62 (x := (!vt91)) (v := true) kr (congrArg (fun b_ => !b_) (show vt91 = false from (Bool.eq_false_iff.mpr c97)) : (!vt91) = true) ?_
                       refine gateRwI 63 (x := (!vt91)) (v := true) kr (congrArg (fun b_ => !b_) (show vt91 = false from (Bool.eq_false_iff.mpr c97)) : (!vt91) = true) ?_
                       refine takeGL [5, 6, 7, 8, 9, 10, 11, 12] (n := 8) (fuel := 0) #[true, true, true, true, true, true, true, true, true, true, true, true, true] rfl kr kr kr (fun ch_ a_ w_ q_ => hnp ch_ a_ w_ (hp15 ch_ a_ w_ q_)) (Sg.g0 (Sx.of [] L94 HS96)) ?_
                       refine doneG kr ?_ _
                       refine hK88 _ _ ?_
                       refine condT kr ?_
                       refine wp_seq_k fun K98 hK99 => rl ?_
                       refine seqL1 kr ?_
                       refine nl (hK99 _ _ ?_)
                       refine wp_ret ?_
                       refine hr13 _ _ ?_
                       refine hret _ _ ?_
                       refine ends_still (v := Value.int .i64 3) kr kr ?_
                       have HS134 := HS96.drop
                       injection h with h
                       subst h
                       exact ⟨f93, rfl, (L29.trans (L38.trans (L47.trans (L65.trans (L80.trans L94))))), HS134⟩
                     · have c97 : ¬ (¬ (vt91 = true)) := c97
                       refine gateRwI 62 (x := (!vt91)) (v := false) kr (congrArg (fun b_ => !b_) (show vt91 = true from (Decidable.of_not_not c97)) : (!vt91) = false) ?_
                       refine gateRwI 63 (x := (!vt91)) (v := false) kr (congrArg (fun b_ => !b_) (show vt91 = true from (Decidable.of_not_not c97)) : (!vt91) = false) ?_
                       refine takeGL [5] (n := 8) (fuel := 7) #[true, true, true, true, true, true, false, false, false, false, false, false, false] rfl kr kr kr (fun ch_ a_ w_ q_ => hnp ch_ a_ w_ (hp15 ch_ a_ w_ q_)) (Sg.g0 (Sx.of [] L94 HS96)) ?_
                       refine takeGQ 6 [] rfl kr kr kr kr kr kr (fun ch_ a_ w_ q_ => hnp ch_ a_ w_ (hp15 ch_ a_ w_ q_)) (Sg.g0 (Sx.of [] L94 HS96)) (fun w_ hw_ => by obtain ⟨g_, hl_, hS_⟩ := hw_.st; exact run_load rfl Tryz.underlying9 rfl (kv (.pointer (some ⟨b4, 3, none⟩))) (hS_.cell 3)) ?_
                       refine takeGL [8] (n := 6) (fuel := 5) #[true, true, true, true, true, true, true, false, true, false, false, false, false] rfl kr kr kr (fun ch_ a_ w_ q_ => hnp ch_ a_ w_ (hp15 ch_ a_ w_ q_)) (Sg.g0 (Sx.of [] L94 HS96)) ?_
                       refine takeGQ 9 [] rfl kr kr kr kr kr kr (fun ch_ a_ w_ q_ => hnp ch_ a_ w_ (hp15 ch_ a_ w_ q_)) (Sg.g0 (Sx.of [] L94 HS96)) (fun w_ hw_ => by obtain ⟨g_, hl_, hS_⟩ := hw_.st; exact run_load rfl Tryz.underlying9 rfl (kv (.pointer (some ⟨b4, 3, none⟩))) (hS_.cell 3)) ?_
                       have hq_ := bind_some h; clear h; obtain ⟨vt100, hc101, h⟩ := hq_
                       refine takeGE 7 kr rfl kr (does_call (f := 77) (args := #[.string c1.Note]) kr (strings_TrimSpace.calls k c1.Note HS96 (HA.mono (L29.trans (L38.trans (L47.trans (L65.trans (L80.trans L94)))))) vt100 hc101) ?_)
                       rintro _ W104 ⟨f102, rfl, L103, HS105⟩
                       refine ⟨_, rfl, ?_⟩
                       refine ⟨(Sg.g0 (Sx.of [] (L94.trans L103) HS105)), ?_⟩
                       refine takeGL [10, 11, 12] (n := 3) (fuel := 0) #[true, true, true, true, true, true, true, true, true, true, true, true, true] rfl kr kr kr (fun ch_ a_ w_ q_ => hnp ch_ a_ w_ (hp15 ch_ a_ w_ q_)) (Sg.g0 (Sx.of [] (L94.trans L103) HS105)) ?_
                       refine doneG kr ?_ _
                       refine hK88 _ _ ?_
                       have hq_ := ite_some h; clear h; rcases hq_ with ⟨c107, h⟩ | ⟨c107, h⟩
                       · have c107 : (!(vt100.toList == c1.Note.toList)) = true := c107
                         refine wpRwI 58 kr c107 ?_
                         refine wpRwI 69 kr c107 ?_
                         refine wpRwI 70 kr c107 ?_
                         refine condT kr ?_
                         refine wp_seq_k fun K108 hK109 => rl ?_
                         refine seqL1 kr ?_
                         refine nl (hK109 _ _ ?_)
                         refine wp_ret ?_
                         refine hr13 _ _ ?_
                         refine hret _ _ ?_
                         refine ends_still (v := Value.int .i64 3) kr kr ?_
                         have HS135 := HS105.drop
                         injection h with h
                         subst h
                         exact ⟨f102, rfl, (L29.trans (L38.trans (L47.trans (L65.trans (L80.trans (L94.trans L103)))))), HS135⟩
                       · have c107 : ¬ ((!(vt100.toList == c1.Note.toList)) = true) := c107
                         refine wpRwI 58 kr (Bool.eq_false_iff.mpr c107) ?_
                         refine wpRwI 69 kr (Bool.eq_false_iff.mpr c107) ?_
                         refine wpRwI 70 kr (Bool.eq_false_iff.mpr c107) ?_
                         refine condF kr ?_
                         refine wp_seq_k fun K110 hK111 => rl ?_
                         refine seqK rfl (does_run (run_loadN (n := 4) rfl Tryz.underlying51 rfl kr (kv (.pointer (some ⟨b4, 0, none⟩))) (cs := [.string c1.Key, .string c1.Value, .string c1.Unit, .string c1.Note]) rfl (HS105.cells 0 4 _ rfl)) ?_)
                         have hq_ := bind_some h; clear h; obtain ⟨vt112, hc113, h⟩ := hq_
                         refine seqK rfl (does_call (f := 48) (args := #[.agg #[.string c1.Key, .string c1.Value, .string c1.Unit, .string c1.Note]]) kr (frame_text.calls k c1 HS105 vt112 hc113) ?_)
                         rintro _ W116 ⟨f114, rfl, L115, HS117⟩
                         refine ⟨_, rfl, ?_⟩
                         refine seqL3 kr ?_
                         refine nl (hK111 _ _ ?_)
                         have hq_ := ite_some h; clear h; rcases hq_ with ⟨c119, h⟩ | ⟨c119, h⟩
                         · have c119 : (vt112.size : Int) > 64 := c119
                           refine wpRwI 71 kr (decide_eq_true c119) ?_
                           refine wpRwI 75 kr (decide_eq_true c119) ?_
                           refine condT kr ?_
                           refine wp_seq_k fun K120 hK121 => rl ?_
                           refine seqL1 kr ?_
                           refine nl (hK121 _ _ ?_)
                           refine wp_ret ?_
                           refine hr13 _ _ ?_
                           refine hret _ _ ?_
                           refine ends_still (v := Value.int .i64 2) kr kr ?_
                           have HS136 := HS117.drop
                           injection h with h
                           subst h
                           exact ⟨f114, rfl, (L29.trans (L38.trans (L47.trans (L65.trans (L80.trans (L94.trans (L103.trans L115))))))), HS136⟩
                         · have c119 : ¬ ((vt112.size : Int) > 64) := c119
                           refine wpRwI 71 kr (decide_eq_false c119) ?_
                           refine wpRwI 75 kr (decide_eq_false c119) ?_
                           refine condF kr ?_
                           refine wp_skip ?_
                           refine hn12 _ _ ?_
                           refine hK9 _ _ ?_
                           refine wp_seq_k fun K122 hK123 => rl ?_
                           refine seqL1 kr ?_
                           refine nl (hK123 _ _ ?_)
                           refine wp_ret ?_
                           refine hret _ _ ?_
                           refine ends_still (v := Value.int .i64 0) kr kr ?_
                           have HS137 := HS117.drop
                           injection h with h
                           subst h
                           exact ⟨f114, rfl, (L29.trans (L38.trans (L47.trans (L65.trans (L80.trans (L94.trans (L103.trans L115))))))), HS137⟩

set_option maxRecDepth 100000 in
set_option maxHeartbeats 4000000 in
theorem frame_find_1.calls (k : Nat) (b1 : Nat) (v3 : ByteArray) (c4 : S_Card) {t w : World} {f : FM} {H : List Seg} (HS : St t w f ([(b1, .cells #[.string v3] 9 (0, 0))] :: H)) (rr1 : Bool) (h : frame_find_1 k v3 c4 = some rr1) :
    Calls Tryz.prog 64 #[.agg #[.string c4.Key, .string c4.Value, .string c4.Unit, .string c4.Note], .pointer (some ⟨b1, 0, none⟩)] w (fun e w' => ∃ (g : FM), e = .returned (Value.bool rr1) ∧ FM.le f g ∧ St t w' g ([(b1, .cells #[.string v3] 9 (0, 0))] :: H)) := by
 unfold frame_find_1 at h
 refine enter Tryz.func64 rfl (tm := #[(ag_Card c4), pV b1 0, uV, uV, uV, uV, uV, uV]) kr ?_
 intro B hret hnor hnp
 refine wp_seq_k fun K5 hK6 => rl ?_
 refine seqK rfl (does_box (cs := #[.string c4.Key, .string c4.Value, .string c4.Unit, .string c4.Note]) rfl (kv (.agg #[.string c4.Key, .string c4.Value, .string c4.Unit, .string c4.Note])) rfl HS ?_)
 intro b7 W8 HS9
 refine seqL1 kr ?_
 refine nl (hK6 _ _ ?_)
 refine wp_seq_k fun K11 hK12 => rl ?_
 refine seqL1 kr ?_
 refine seqK rfl (does_run (run_load rfl Tryz.underlying9 rfl (kv (.pointer (some ⟨b7, 0, none⟩))) (HS9.cell 0)) ?_)
 refine seqK rfl (does_run (run_load rfl Tryz.underlying9 rfl (kv (.pointer (some ⟨b1, 0, none⟩))) (HS9.u1.cell 0)) ?_)
 refine seqL2 kr ?_
 refine nl (hK12 _ _ ?_)
 refine wp_ret ?_
 refine hret _ _ ?_
 refine ends_still (v := Value.bool (c4.Key.toList == v3.toList)) kr kr ?_
 have HS13 := HS9.drop
 injection h with h
 subst h
 exact ⟨f, rfl, FM.le.refl _, HS13⟩

set_option maxRecDepth 100000 in
set_option maxHeartbeats 4000000 in
theorem slices_IndexFunc_Card__frame_find_1.calls (k : Nat) (b1 : Nat) (A5 : Option Addr) (c6 : Nat) (v3 : ByteArray) (s4 : List S_Card) {t w : World} {f : FM} {H : List Seg} (HS : St t w f ([(b1, .cells #[.string v3] 9 (0, 0))] :: H)) (HR7 : SlR ty_Card f A5 c6 s4) (rr1 : Int) (h : slices_IndexFunc_Card__frame_find_1 k v3 s4 = some rr1) :
    Calls Tryz.prog 63 #[.slice A5 s4.length c6, .func (.func 64) #[] #[.pointer (some ⟨b1, 0, none⟩)]] w (fun e w' => ∃ (g : FM), e = .returned (Value.int .i64 rr1) ∧ FM.le f g ∧ St t w' g ([(b1, .cells #[.string v3] 9 (0, 0))] :: H)) := by
 unfold slices_IndexFunc_Card__frame_find_1 at h
 refine enter Tryz.func63 rfl (tm := #[.slice A5 s4.length c6, .func (.func 64) #[] #[pV b1 0], uV, uV, uV, uV, uV, uV, uV, uV, uV, uV, uV, uV, uV, uV, uV, uV, uV]) kr ?_
 intro B hret hnor hnp
 refine wp_seq_k fun K8 hK9 => rl ?_
 refine seqL1 kr ?_
 refine nl (hK9 _ _ ?_)
 refine wp_seq_k (fun K10 hK11 => ?_)
 refine wp_seq_k fun K12 hK13 => rl ?_
 refine seqL3 kr ?_
 refine nl (hK13 _ _ ?_)
 refine blockK (fun B14 hx15 hn16 hr17 ho18 hp19 => ?_)
 have hq_ := bind_some h; clear h; obtain ⟨o20, hv71, h⟩ := hq_
 have JR73 : ∀ z_, some (Sum.inl z_) = some o20 → some z_ = some rr1 := by
  intro z_ e_; injection e_ with e_; subst e_; exact h
 have J72 : ∀ (f66 : FM) (j70 : Nat → Value) (W68 : World) (a_ : Act), FM.le f f66 → some (Sum.inr ()) = some o20 → St t W68 f66 ([(b1, .cells #[.string v3] 9 (0, 0))] :: H) → a_ = ⟨#[.slice A5 s4.length c6, .func (.func 64) #[] #[pV b1 0], uV, uV, (j70 0), (j70 1), .slice A5 s4.length c6, iV (s4.length : Int), (j70 2), (j70 3), (j70 4), (j70 5), (j70 6), (j70 7), (j70 8), (j70 9), (j70 10), (j70 11), (j70 12)], []⟩ → K10 a_ W68 := by
  intro f66 j70 W68 a_ L67 hj74 HS69  hfr_; subst hfr_
  injection hj74 with hj74; subst hj74; try dsimp only at h
  simp only [Sum.elim_inr] at h
  refine hK11 _ _ ?_
  refine wp_seq_k fun K75 hK76 => rl ?_
  refine seqL1 kr ?_
  refine nl (hK76 _ _ ?_)
  refine wp_ret ?_
  refine hret _ _ ?_
  refine ends_still (v := Value.int .i64 (-1)) kr kr ?_
  injection h with h
  subst h
  exact ⟨f66, rfl, L67, HS69⟩
 clear h; have h := hv71; clear hv71
 refine loopK (fun n_ a_ w_ => ∃ (f24 : FM) (x29 : Int) (j28 : Nat → Value), FM.le f f24 ∧ St t w_ f24 ([(b1, .cells #[.string v3] 9 (0, 0))] :: H) ∧ slices_IndexFunc_Card__frame_find_1.l0 k s4 v3 n_ x29 = some o20 ∧ a_ = ⟨#[.slice A5 s4.length c6, .func (.func 64) #[] #[pV b1 0], uV, uV, (j28 0), (j28 1), .slice A5 s4.length c6, iV (s4.length : Int), iV x29, (j28 2), (j28 3), (j28 4), (j28 5), (j28 6), (j28 7), (j28 8), (j28 9), (j28 10), (j28 11)], []⟩) k ⟨f, 0, (jL [iV 0]), fL, HS, h, kr⟩ ?_
 clear h
 rintro n23 _ W26 ⟨f24, x29, j28, L25, HS27, h, rfl⟩ K21 hK22
 obtain _ | n23 := n23
 · exact nomatch h
 simp only [slices_IndexFunc_Card__frame_find_1.l0] at h
 refine wp_seq_k fun K30 hK31 => rl ?_
 refine seqL1 kr ?_
 refine nl (hK31 _ _ ?_)
 refine wp_seq_k (fun K32 hK33 => ?_)
 have hq_ := ite_some h; clear h; rcases hq_ with ⟨c35, h⟩ | ⟨c35, h⟩
 · have c35 : x29 < (s4.length : Int) := c35
   refine wpRwI 9 kr (decide_eq_true c35) ?_
   refine condT kr ?_
   refine wp_skip ?_
   refine hK33 _ _ ?_
   refine wp_seq_k (fun K36 hK37 => ?_)
   refine blockK (fun B38 hx39 hn40 hr41 ho42 hp43 => ?_)
   refine wp_seq_k fun K45 hK46 => rl ?_
   refine seqL2 kr ?_
   refine nl (hK46 _ _ ?_)
   refine wp_seq_k fun K47 hK48 => rl ?_
   have hq_ := guard_some h; clear h; obtain ⟨c49, h⟩ := hq_
   have c49 : 0 ≤ x29 := c49
   obtain ⟨b53, of54, cs50, hA55, hr51, hc52⟩ := (HR7.mono L25).at (i := x29) c49 c35
   obtain rfl := hr51
   refine seqL3 kr ?_
   refine seqK rfl (does_run (run_indexE hA55 (sz := 4) rfl Tryz.underlying27 kr (kv (.slice A5 s4.length c6)) (kv (.int .i64 x29)) c49 c35 W26) ?_)
   refine seqK rfl (does_run (run_loadN (n := 4) rfl Tryz.underlying51 rfl kr (kv (.pointer (some ⟨b53, of54 + (x29 : Int).toNat * 4, none⟩))) (cs := [.string ((rd s4 x29).Key), .string ((rd s4 x29).Value), .string ((rd s4 x29).Unit), .string ((rd s4 x29).Note)]) rfl (fun j_ hj_ => ((hc52 fL HS27) j_ hj_))) ?_)
   have hq_ := bind_some h; clear h; obtain ⟨vt56, hc57, h⟩ := hq_
   refine seqK rfl (does_call (f := 64) (args := #[.agg #[.string ((rd s4 x29).Key), .string ((rd s4 x29).Value), .string ((rd s4 x29).Unit), .string ((rd s4 x29).Note)], .pointer (some ⟨b1, 0, none⟩)]) kr (frame_find_1.calls k b1 v3 (rd s4 x29) HS27 vt56 hc57) ?_)
   rintro _ W60 ⟨f58, rfl, L59, HS61⟩
   refine ⟨_, rfl, ?_⟩
   refine nl (hK48 _ _ ?_)
   have hq_ := ite_some h; clear h; rcases hq_ with ⟨c63, h⟩ | ⟨c63, h⟩
   · have c63 : vt56 = true := c63
     refine wpRwI 16 kr c63 ?_
     refine condT kr ?_
     refine wp_seq_k fun K64 hK65 => rl ?_
     refine seqL2 kr ?_
     refine nl (hK65 _ _ ?_)
     refine wp_ret ?_
     refine hr41 _ _ ?_
     refine hr17 _ _ ?_
     refine hret _ _ ?_
     refine ends_still (v := Value.int .i64 x29) kr kr ?_
     replace h := JR73 _ h
     injection h with h
     subst h
     exact ⟨f58, rfl, (L25.trans L59), HS61⟩
   · have c63 : ¬ (vt56 = true) := c63
     refine wpRwI 16 kr (Bool.eq_false_iff.mpr c63) ?_
     refine condF kr ?_
     refine wp_skip ?_
     refine hn40 _ _ ?_
     refine hK37 _ _ ?_
     refine rl ?_
     refine seqL2 kr ?_
     refine nl ?_
     refine hK22 n23 _ _ (Nat.lt_succ_self _) ?_
     exact ⟨f58, (w64 (x29 + 1)), (jL [(j28 0), iV x29, tV, iV x29, .func (.func 64) #[] #[.pointer (some ⟨b1, 0, none⟩)], .slice A5 s4.length c6, iV x29, .pointer (some ⟨b53, of54 + (x29 : Int).toNat * 4, none⟩), (ag_Card (rd s4 x29)), fV, (j28 10), iV (w64 (x29 + 1))]), (L25.trans L59), HS61, h, kr⟩
 · have c35 : ¬ (x29 < (s4.length : Int)) := c35
   refine wpRwI 9 kr (decide_eq_false c35) ?_
   refine condF kr ?_
   refine wp_exit ?_
   refine hx15 _ _ ?_
   exact J72 f24 (jL [(j28 0), (j28 1), iV x29, fV, (j28 3), (j28 4), (j28 5), (j28 6), (j28 7), (j28 8), (j28 9), (j28 10), (j28 11)]) W26 _ L25 h HS27 kr

set_option maxRecDepth 100000 in
set_option maxHeartbeats 4000000 in
theorem frame_find.calls (k : Nat) (A2 : Option Addr) (c3 : Nat) (l1 : List S_Card) (key5 : ByteArray) {t w : World} {f : FM} {H : List Seg} (HS : St t w f (H)) (HR4 : SlR ty_Card f A2 c3 l1) (rr1 : Int) (h : frame_find k l1 key5 = some rr1) :
    Calls Tryz.prog 36 #[.slice A2 l1.length c3, .string key5] w (fun e w' => ∃ (g : FM), e = .returned (Value.int .i64 rr1) ∧ FM.le f g ∧ St t w' g (H)) := by
 unfold frame_find at h
 refine enter Tryz.func36 rfl (tm := #[.slice A2 l1.length c3, .string key5, uV, uV, uV, uV, uV, uV]) kr ?_
 intro B hret hnor hnp
 refine wp_seq_k fun K6 hK7 => rl ?_
 refine seqK rfl (does_box (cs := #[.string key5]) rfl (kv (.string key5)) rfl HS ?_)
 intro b8 W9 HS10
 refine seqL1 kr ?_
 refine nl (hK7 _ _ ?_)
 refine wp_seq_k fun K12 hK13 => rl ?_
 have hq_ := bind_some h; clear h; obtain ⟨vt14, hc15, h⟩ := hq_
 refine seqL2 kr ?_
 refine seqK rfl (does_call (f := 63) (args := #[.slice A2 l1.length c3, .func (.func 64) #[] #[.pointer (some ⟨b8, 0, none⟩)]]) kr (slices_IndexFunc_Card__frame_find_1.calls k b8 A2 c3 key5 l1 HS10 HR4 vt14 hc15) ?_)
 rintro _ W18 ⟨f16, rfl, L17, HS19⟩
 refine ⟨_, rfl, ?_⟩
 refine seqL1 kr ?_
 refine nl (hK13 _ _ ?_)
 refine wp_ret ?_
 refine hret _ _ ?_
 refine ends_still (v := Value.int .i64 vt14) kr kr ?_
 have HS20 := HS19.drop
 injection h with h
 subst h
 exact ⟨f16, rfl, L17, HS20⟩

set_option maxRecDepth 100000 in
set_option maxHeartbeats 4000000 in
theorem frame_Check.calls (k : Nat) (A2 : Option Addr) (c3 : Nat) (A5 : Option Addr) (c6 : Nat) (vf1 : S_Frame) {t w : World} {f : FM} {H : List Seg} (HS : St t w f (H)) (HR4 : SlR ty_Card f A2 c3 vf1.Cards) (HR7 : SlR (tInt .i64) f A5 c6 vf1.Counts) (HA : TabF Tryz.prog "strings.asciiSpace" .u8 Go.Lib.asciiSpaceTab f) (rr1 : Int) (h : frame_Check k vf1 = some rr1) :
    Calls Tryz.prog 21 #[.agg #[.int .i64 vf1.W, .int .i64 vf1.H, .slice A2 vf1.Cards.length c3, .slice A5 vf1.Counts.length c6]] w (fun e w' => ∃ (g : FM), e = .returned (Value.int .i64 rr1) ∧ FM.le f g ∧ St t w' g (H)) := by
 unfold frame_Check at h
 refine enter Tryz.func21 rfl (tm := #[(ag_Frame vf1 A2 c3 A5 c6), uV, uV, uV, uV, uV, uV, uV, uV, uV, uV, uV, uV, uV, uV, uV, uV, uV, uV, uV, uV, uV, uV, uV, uV, uV, uV, uV, uV, uV, uV, uV, uV, uV, uV, uV, uV, uV, uV, uV, uV, uV, uV, uV, uV, uV, uV, uV, uV, uV, uV, uV, uV, uV, uV, uV, uV, uV, uV, uV, uV, uV]) kr ?_
 intro B hret hnor hnp
 refine wp_seq_k fun K8 hK9 => rl ?_
 refine seqK rfl (does_box (cs := #[.int .i64 vf1.W, .int .i64 vf1.H, .slice A2 vf1.Cards.length c3, .slice A5 vf1.Counts.length c6]) rfl (kv (.agg #[.int .i64 vf1.W, .int .i64 vf1.H, .slice A2 vf1.Cards.length c3, .slice A5 vf1.Counts.length c6])) rfl HS ?_)
 intro b10 W11 HS12
 refine seqL1 kr ?_
 refine nl (hK9 _ _ ?_)
 refine wp_seq_k (fun K14 hK15 => ?_)
 refine blockK (fun B16 hx17 hn18 hr19 ho20 hp21 => ?_)
 refine wp_seq_k fun K23 hK24 => rl ?_
 refine seqL1 kr ?_
 refine seqK rfl (does_run (run_load rfl Tryz.underlying3 rfl (kv (.pointer (some ⟨b10, 0, none⟩))) (HS12.cell 0)) ?_)
 refine seqL1 kr ?_
 refine seqK rfl (does_run (run_load rfl Tryz.underlying3 rfl (kv (.pointer (some ⟨b10, 1, none⟩))) (HS12.cell 1)) ?_)
 refine seqL3 kr ?_
 have hq_ := ite_some h; clear h; rcases hq_ with ⟨c25, h⟩ | ⟨c25, h⟩
 · have c25 : (mn vf1.W vf1.H) < 1 := c25
   refine seqRwI 12 kr (decide_eq_true c25) ?_
   refine seqRwI 13 kr (decide_eq_true c25) ?_
   refine seqL8 kr ?_
   refine nl (hK24 _ _ ?_)
   refine condT kr ?_
   refine wp_seq_k fun K26 hK27 => rl ?_
   refine seqL1 kr ?_
   refine nl (hK27 _ _ ?_)
   refine wp_ret ?_
   refine hr19 _ _ ?_
   refine hret _ _ ?_
   refine ends_still (v := Value.int .i64 4) kr kr ?_
   have HS151 := HS12.drop
   injection h with h
   subst h
   exact ⟨f, rfl, FM.le.refl _, HS151⟩
 · have c25 : ¬ ((mn vf1.W vf1.H) < 1) := c25
   refine seqRwI 12 kr (decide_eq_false c25) ?_
   refine seqRwI 13 kr (decide_eq_false c25) ?_
   refine seqL1 kr ?_
   refine seqG kr (does_run (run_load rfl Tryz.underlying3 rfl (kv (.pointer (some ⟨b10, 0, none⟩))) (HS12.cell 0)) ?_)
   refine seqL1 kr ?_
   refine seqG kr (does_run (run_load rfl Tryz.underlying3 rfl (kv (.pointer (some ⟨b10, 1, none⟩))) (HS12.cell 1)) ?_)
   refine seqL4 kr ?_
   refine nl (hK24 _ _ ?_)
   have hq_ := ite_some h; clear h; rcases hq_ with ⟨c29, h⟩ | ⟨c29, h⟩
   · have c29 : (mx vf1.W vf1.H) > 32 := c29
     refine wpRwI 6 kr (decide_eq_true c29) ?_
     refine wpRwI 19 kr (decide_eq_true c29) ?_
     refine wpRwI 20 kr (decide_eq_true c29) ?_
     refine condT kr ?_
     refine wp_seq_k fun K30 hK31 => rl ?_
     refine seqL1 kr ?_
     refine nl (hK31 _ _ ?_)
     refine wp_ret ?_
     refine hr19 _ _ ?_
     refine hret _ _ ?_
     refine ends_still (v := Value.int .i64 4) kr kr ?_
     have HS152 := HS12.drop
     injection h with h
     subst h
     exact ⟨f, rfl, FM.le.refl _, HS152⟩
   · have c29 : ¬ ((mx vf1.W vf1.H) > 32) := c29
     refine wpRwI 6 kr (decide_eq_false c29) ?_
     refine wpRwI 19 kr (decide_eq_false c29) ?_
     refine wpRwI 20 kr (decide_eq_false c29) ?_
     refine condF kr ?_
     refine wp_seq_k fun K32 hK33 => rl ?_
     refine seqL1 kr ?_
     refine seqK rfl (does_run (run_load rfl Tryz.underlying22 rfl (kv (.pointer (some ⟨b10, 3, none⟩))) (HS12.cell 3)) ?_)
     refine seqL2 kr ?_
     refine seqK rfl (does_run (run_load rfl Tryz.underlying3 rfl (kv (.pointer (some ⟨b10, 0, none⟩))) (HS12.cell 0)) ?_)
     refine seqL1 kr ?_
     refine seqK rfl (does_run (run_load rfl Tryz.underlying3 rfl (kv (.pointer (some ⟨b10, 1, none⟩))) (HS12.cell 1)) ?_)
     refine seqL3 kr ?_
     refine nl (hK33 _ _ ?_)
     have hq_ := ite_some h; clear h; rcases hq_ with ⟨c35, h⟩ | ⟨c35, h⟩
     · have c35 : (vf1.Counts.length : Int) ≠ (w64 (vf1.W * vf1.H)) := c35
       refine wpRwI 21 kr (bne_iff_ne.mpr c35) ?_
       refine wpRwI 30 kr (bne_iff_ne.mpr c35) ?_
       refine condT kr ?_
       refine wp_seq_k fun K36 hK37 => rl ?_
       refine seqL1 kr ?_
       refine nl (hK37 _ _ ?_)
       refine wp_ret ?_
       refine hr19 _ _ ?_
       refine hret _ _ ?_
       refine ends_still (v := Value.int .i64 3) kr kr ?_
       have HS153 := HS12.drop
       injection h with h
       subst h
       exact ⟨f, rfl, FM.le.refl _, HS153⟩
     · have c35 : ¬ ((vf1.Counts.length : Int) ≠ (w64 (vf1.W * vf1.H))) := c35
       refine wpRwI 21 (x := ((vf1.Counts.length : Int) != (w64 (vf1.W * vf1.H)))) (v := false) kr (bne_eq_false_iff_eq.mpr (Decidable.of_not_not c35)) ?_
       refine wpRwI 30 (x := ((vf1.Counts.length : Int) != (w64 (vf1.W * vf1.H)))) (v := false) kr (bne_eq_false_iff_eq.mpr (Decidable.of_not_not c35)) ?_
       refine condF kr ?_
       refine wp_seq_k fun K38 hK39 => rl ?_
       refine seqL1 kr ?_
       refine seqK rfl (does_run (run_load rfl Tryz.underlying22 rfl (kv (.pointer (some ⟨b10, 3, none⟩))) (HS12.cell 3)) ?_)
       have hq_ := bind_some h; clear h; obtain ⟨vt40, hc41, h⟩ := hq_
       refine seqK rfl (does_call (f := 41) (args := #[.slice A5 vf1.Counts.length c6, .func (.func 42) #[] #[]]) kr (slices_ContainsFunc_int__frame_Check_1.calls k A5 c6 vf1.Counts HS12 HR7 vt40 hc41) ?_)
       rintro _ W44 ⟨f42, rfl, L43, HS45⟩
       refine ⟨_, rfl, ?_⟩
       refine seqL1 kr ?_
       refine nl (hK39 _ _ ?_)
       have hq_ := ite_some h; clear h; rcases hq_ with ⟨c47, h⟩ | ⟨c47, h⟩
       · have c47 : vt40 = true := c47
         refine wpRwI 31 kr c47 ?_
         refine wpRwI 34 kr c47 ?_
         refine condT kr ?_
         refine wp_seq_k fun K48 hK49 => rl ?_
         refine seqL1 kr ?_
         refine nl (hK49 _ _ ?_)
         refine wp_ret ?_
         refine hr19 _ _ ?_
         refine hret _ _ ?_
         refine ends_still (v := Value.int .i64 4) kr kr ?_
         have HS154 := HS45.drop
         injection h with h
         subst h
         exact ⟨f42, rfl, L43, HS154⟩
       · have c47 : ¬ (vt40 = true) := c47
         refine wpRwI 31 kr (Bool.eq_false_iff.mpr c47) ?_
         refine wpRwI 34 kr (Bool.eq_false_iff.mpr c47) ?_
         refine condF kr ?_
         refine wp_seq_k fun K50 hK51 => rl ?_
         refine seqL1 kr ?_
         refine seqK rfl (does_run (run_load rfl Tryz.underlying27 rfl (kv (.pointer (some ⟨b10, 2, none⟩))) (HS45.cell 2)) ?_)
         refine seqL3 kr ?_
         refine nl (hK51 _ _ ?_)
         have hq_ := ite_some h; clear h; rcases hq_ with ⟨c53, h⟩ | ⟨c53, h⟩
         · have c53 : (vf1.Cards.length : Int) > 28 := c53
           refine wpRwI 35 kr (decide_eq_true c53) ?_
           refine wpRwI 39 kr (decide_eq_true c53) ?_
           refine condT kr ?_
           refine wp_seq_k fun K54 hK55 => rl ?_
           refine seqL1 kr ?_
           refine nl (hK55 _ _ ?_)
           refine wp_ret ?_
           refine hr19 _ _ ?_
           refine hret _ _ ?_
           refine ends_still (v := Value.int .i64 2) kr kr ?_
           have HS155 := HS45.drop
           injection h with h
           subst h
           exact ⟨f42, rfl, L43, HS155⟩
         · have c53 : ¬ ((vf1.Cards.length : Int) > 28) := c53
           refine wpRwI 35 kr (decide_eq_false c53) ?_
           refine wpRwI 39 kr (decide_eq_false c53) ?_
           refine condF kr ?_
           refine wp_skip ?_
           refine hn18 _ _ ?_
           refine hK15 _ _ ?_
           refine wp_seq_k (fun K56 hK57 => ?_)
           refine wp_seq_k fun K58 hK59 => rl ?_
           refine seqL1 kr ?_
           refine seqK rfl (does_run (run_load rfl Tryz.underlying27 rfl (kv (.pointer (some ⟨b10, 2, none⟩))) (HS45.cell 2)) ?_)
           refine seqL2 kr ?_
           refine nl (hK59 _ _ ?_)
           refine blockK (fun B60 hx61 hn62 hr63 ho64 hp65 => ?_)
           have hq_ := bind_some h; clear h; obtain ⟨o66, hv142, h⟩ := hq_
           have JR144 : ∀ z_, some (Sum.inl z_) = some o66 → some z_ = some rr1 := by
            intro z_ e_; injection e_ with e_; subst e_; exact h
           have J143 : ∀ (f137 : FM) (j141 : Nat → Value) (W139 : World) (a_ : Act), FM.le f42 f137 → some (Sum.inr ()) = some o66 → St t W139 f137 ([(b10, .cells #[.int .i64 vf1.W, .int .i64 vf1.H, .slice A2 vf1.Cards.length c3, .slice A5 vf1.Counts.length c6] 29 (0, 0))] :: H) → a_ = ⟨#[(ag_Frame vf1 A2 c3 A5 c6), pV b10 0, (j141 0), (j141 1), (j141 2), (j141 3), fV, pV b10 0, iV vf1.W, pV b10 1, iV vf1.H, iV (mn vf1.W vf1.H), fV, fV, pV b10 0, iV vf1.W, pV b10 1, iV vf1.H, iV (mx vf1.W vf1.H), fV, fV, fV, pV b10 3, .slice A5 vf1.Counts.length c6, iV (vf1.Counts.length : Int), pV b10 0, iV vf1.W, pV b10 1, iV vf1.H, iV (w64 (vf1.W * vf1.H)), fV, fV, pV b10 3, .slice A5 vf1.Counts.length c6, fV, fV, pV b10 2, .slice A2 vf1.Cards.length c3, iV (vf1.Cards.length : Int), fV, pV b10 2, .slice A2 vf1.Cards.length c3, iV (vf1.Cards.length : Int), (j141 4), (j141 5), (j141 6), (j141 7), (j141 8), (j141 9), (j141 10), (j141 11), (j141 12), (j141 13), (j141 14), (j141 15), (j141 16), (j141 17), (j141 18), (j141 19), (j141 20), (j141 21), (j141 22)], []⟩ → K56 a_ W139 := by
            intro f137 j141 W139 a_ L138 hj145 HS140  hfr_; subst hfr_
            injection hj145 with hj145; subst hj145; try dsimp only at h
            simp only [Sum.elim_inr] at h
            refine hK57 _ _ ?_
            refine wp_seq_k fun K149 hK150 => rl ?_
            refine seqL1 kr ?_
            refine nl (hK150 _ _ ?_)
            refine wp_ret ?_
            refine hret _ _ ?_
            refine ends_still (v := Value.int .i64 0) kr kr ?_
            have HS160 := HS140.drop
            injection h with h
            subst h
            exact ⟨f137, rfl, (L43.trans L138), HS160⟩
           clear h; have h := hv142; clear hv142
           refine loopK (fun n_ a_ w_ => ∃ (f70 : FM) (x75 : Int) (j74 : Nat → Value), FM.le f42 f70 ∧ St t w_ f70 ([(b10, .cells #[.int .i64 vf1.W, .int .i64 vf1.H, .slice A2 vf1.Cards.length c3, .slice A5 vf1.Counts.length c6] 29 (0, 0))] :: H) ∧ frame_Check.l0 k vf1 n_ x75 = some o66 ∧ a_ = ⟨#[(ag_Frame vf1 A2 c3 A5 c6), pV b10 0, (j74 0), (j74 1), (j74 2), (j74 3), fV, pV b10 0, iV vf1.W, pV b10 1, iV vf1.H, iV (mn vf1.W vf1.H), fV, fV, pV b10 0, iV vf1.W, pV b10 1, iV vf1.H, iV (mx vf1.W vf1.H), fV, fV, fV, pV b10 3, .slice A5 vf1.Counts.length c6, iV (vf1.Counts.length : Int), pV b10 0, iV vf1.W, pV b10 1, iV vf1.H, iV (w64 (vf1.W * vf1.H)), fV, fV, pV b10 3, .slice A5 vf1.Counts.length c6, fV, fV, pV b10 2, .slice A2 vf1.Cards.length c3, iV (vf1.Cards.length : Int), fV, pV b10 2, .slice A2 vf1.Cards.length c3, iV (vf1.Cards.length : Int), iV x75, (j74 4), (j74 5), (j74 6), (j74 7), (j74 8), (j74 9), (j74 10), (j74 11), (j74 12), (j74 13), (j74 14), (j74 15), (j74 16), (j74 17), (j74 18), (j74 19), (j74 20), (j74 21)], []⟩) k ⟨f42, 0, (jL [iV 0]), fL, HS45, h, kr⟩ ?_
           clear h
           rintro n69 _ W72 ⟨f70, x75, j74, L71, HS73, h, rfl⟩ K67 hK68
           obtain _ | n69 := n69
           · exact nomatch h
           simp only [frame_Check.l0] at h
           refine wp_seq_k fun K76 hK77 => rl ?_
           refine seqL1 kr ?_
           refine nl (hK77 _ _ ?_)
           refine wp_seq_k (fun K78 hK79 => ?_)
           have hq_ := ite_some h; clear h; rcases hq_ with ⟨c81, h⟩ | ⟨c81, h⟩
           · have c81 : x75 < (vf1.Cards.length : Int) := c81
             refine wpRwI 44 kr (decide_eq_true c81) ?_
             refine condT kr ?_
             refine wp_skip ?_
             refine hK79 _ _ ?_
             refine wp_seq_k (fun K82 hK83 => ?_)
             refine blockK (fun B84 hx85 hn86 hr87 ho88 hp89 => ?_)
             refine wp_seq_k fun K91 hK92 => rl ?_
             have hq_ := guard_some h; clear h; obtain ⟨c93, h⟩ := hq_
             have c93 : 0 ≤ x75 := c93
             obtain ⟨b97, of98, cs94, hA99, hr95, hc96⟩ := (HR4.mono (L43.trans L71)).at (i := x75) c93 c81
             obtain rfl := hr95
             refine seqL1 kr ?_
             refine seqK rfl (does_run (run_indexE hA99 (sz := 4) rfl Tryz.underlying27 kr (kv (.slice A2 vf1.Cards.length c3)) (kv (.int .i64 x75)) c93 c81 W72) ?_)
             refine seqK rfl (does_run (run_loadN (n := 4) rfl Tryz.underlying51 rfl kr (kv (.pointer (some ⟨b97, of98 + (x75 : Int).toNat * 4, none⟩))) (cs := [.string ((rd vf1.Cards x75).Key), .string ((rd vf1.Cards x75).Value), .string ((rd vf1.Cards x75).Unit), .string ((rd vf1.Cards x75).Note)]) rfl (fun j_ hj_ => ((hc96 fL HS73) j_ hj_))) ?_)
             refine seqK rfl (does_alloc (z := Value.agg #[.string ⟨#[]⟩, .string ⟨#[]⟩, .string ⟨#[]⟩, .string ⟨#[]⟩]) (cs := #[.string ⟨#[]⟩, .string ⟨#[]⟩, .string ⟨#[]⟩, .string ⟨#[]⟩]) rfl kr rfl HS73 ?_)
             intro b100 W101 HS102
             refine seqL1 kr ?_
             refine seqK rfl (does_storeA (vs := [.string ((rd vf1.Cards x75).Key), .string ((rd vf1.Cards x75).Value), .string ((rd vf1.Cards x75).Unit), .string ((rd vf1.Cards x75).Note)]) rfl kr kr kr rfl (ones rfl) HS102 kr ?_)
             intro W104 HS105
             refine nl (hK92 _ _ ?_)
             refine wp_seq_k (fun K106 hK107 => ?_)
             refine wp_seq_k fun K108 hK109 => rl ?_
             refine seqK rfl (does_run (run_loadN (n := 4) rfl Tryz.underlying51 rfl kr (kv (.pointer (some ⟨b100, 0, none⟩))) (cs := [.string ((rd vf1.Cards x75).Key), .string ((rd vf1.Cards x75).Value), .string ((rd vf1.Cards x75).Unit), .string ((rd vf1.Cards x75).Note)]) rfl (HS105.cells 0 4 _ rfl)) ?_)
             have hq_ := bind_some h; clear h; obtain ⟨vt110, hc111, h⟩ := hq_
             refine seqK rfl (does_call (f := 43) (args := #[.agg #[.string ((rd vf1.Cards x75).Key), .string ((rd vf1.Cards x75).Value), .string ((rd vf1.Cards x75).Unit), .string ((rd vf1.Cards x75).Note)]]) kr (frame_CheckCard.calls k (rd vf1.Cards x75) HS105 (HA.mono (L43.trans L71)) vt110 hc111) ?_)
             rintro _ W114 ⟨f112, rfl, L113, HS115⟩
             refine ⟨_, rfl, ?_⟩
             refine seqL1 kr ?_
             refine nl (hK109 _ _ ?_)
             refine wp_seq_k fun K116 hK117 => rl ?_
             refine seqL2 kr ?_
             refine nl (hK117 _ _ ?_)
             have hq_ := ite_some h; clear h; rcases hq_ with ⟨c119, h⟩ | ⟨c119, h⟩
             · have c119 : vt110 ≠ 0 := c119
               refine wpRwI 51 kr (bne_iff_ne.mpr c119) ?_
               refine condT kr ?_
               refine wp_seq_k fun K120 hK121 => rl ?_
               refine seqL2 kr ?_
               refine nl (hK121 _ _ ?_)
               refine wp_ret ?_
               refine hr87 _ _ ?_
               refine hr63 _ _ ?_
               refine hret _ _ ?_
               refine ends_still (v := Value.int .i64 vt110) kr kr ?_
               have HS156 := HS115.drop
               have HS157 := HS156.drop
               replace h := JR144 _ h
               injection h with h
               subst h
               exact ⟨f112, rfl, (L43.trans (L71.trans L113)), HS157⟩
             · have c119 : ¬ (vt110 ≠ 0) := c119
               refine wpRwI 51 (x := (vt110 != 0)) (v := false) kr (bne_eq_false_iff_eq.mpr (Decidable.of_not_not c119)) ?_
               refine condF kr ?_
               refine wp_skip ?_
               refine hK107 _ _ ?_
               refine wp_seq_k (fun K122 hK123 => ?_)
               refine heldG (S := Sg t f112 ([(b100, .cells #[.string ((rd vf1.Cards x75).Key), .string ((rd vf1.Cards x75).Value), .string ((rd vf1.Cards x75).Unit), .string ((rd vf1.Cards x75).Note)] 51 (0, 0))] :: [(b10, .cells #[.int .i64 vf1.W, .int .i64 vf1.H, .slice A2 vf1.Cards.length c3, .slice A5 vf1.Counts.length c6] 29 (0, 0))] :: H) []) (n := 8) kr rfl HS115 ?_
               intro W124 HS125
               refine takeGL [0] (n := 8) (fuel := 7) #[true, false, false, false, false, false, false, false] rfl kr kr kr (fun ch_ a_ w_ q_ => (fun ch_ a_ w_ q_ => hnp ch_ a_ w_ (hp65 ch_ a_ w_ q_)) ch_ a_ w_ (hp89 ch_ a_ w_ q_)) (Sg.g0 (Sx.of [] fL HS125)) ?_
               refine takeGQ 1 [] rfl kr kr kr kr kr kr (fun ch_ a_ w_ q_ => (fun ch_ a_ w_ q_ => hnp ch_ a_ w_ (hp65 ch_ a_ w_ q_)) ch_ a_ w_ (hp89 ch_ a_ w_ q_)) (Sg.g0 (Sx.of [] fL HS125)) (fun w_ hw_ => by obtain ⟨g_, hl_, hS_⟩ := hw_.st; exact run_load rfl Tryz.underlying27 rfl (kv (.pointer (some ⟨b10, 2, none⟩))) (hS_.u1.cell 2)) ?_
               have hq_ := guard_some h; clear h; obtain ⟨c126, h⟩ := hq_
               have c126 : x75 ≤ (vf1.Cards.length : Int) := c126
               refine takeGL [2] (n := 6) (fuel := 5) #[true, true, true, false, false, false, false, false] rfl kr kr kr (fun ch_ a_ w_ q_ => (fun ch_ a_ w_ q_ => hnp ch_ a_ w_ (hp65 ch_ a_ w_ q_)) ch_ a_ w_ (hp89 ch_ a_ w_ q_)) (Sg.g0 (Sx.of [] fL HS125)) ?_
               refine takeGQ 3 [] rfl kr kr kr kr kr kr (fun ch_ a_ w_ q_ => (fun ch_ a_ w_ q_ => hnp ch_ a_ w_ (hp65 ch_ a_ w_ q_)) ch_ a_ w_ (hp89 ch_ a_ w_ q_)) (Sg.g0 (Sx.of [] fL HS125)) (fun w_ hw_ => by obtain ⟨g_, hl_, hS_⟩ := hw_.st; exact run_cutH (e := ty_Card) (xs := vf1.Cards) rfl Tryz.underlying27 kr (kv (.slice A2 vf1.Cards.length c3)) (kv (.int .i64 x75)) c93 c126 HR4.le w_) ?_
               refine takeGL [4] (n := 4) (fuel := 3) #[true, true, true, true, true, false, false, false] rfl kr kr kr (fun ch_ a_ w_ q_ => (fun ch_ a_ w_ q_ => hnp ch_ a_ w_ (hp65 ch_ a_ w_ q_)) ch_ a_ w_ (hp89 ch_ a_ w_ q_)) (Sg.g0 (Sx.of [] fL HS125)) ?_
               refine takeGQ 5 [] rfl kr kr kr kr kr kr (fun ch_ a_ w_ q_ => (fun ch_ a_ w_ q_ => hnp ch_ a_ w_ (hp65 ch_ a_ w_ q_)) ch_ a_ w_ (hp89 ch_ a_ w_ q_)) (Sg.g0 (Sx.of [] fL HS125)) (fun w_ hw_ => by obtain ⟨g_, hl_, hS_⟩ := hw_.st; exact run_load rfl Tryz.underlying9 rfl (kv (.pointer (some ⟨b100, 0, none⟩))) (hS_.cell 0)) ?_
               have hq_ := bind_some h; clear h; obtain ⟨vt127, hc128, h⟩ := hq_
               refine takeGE 6 kr rfl kr (does_call (f := 36) (args := #[.slice A2 (vf1.Cards.take (x75).toNat).length c3, .string ((rd vf1.Cards x75).Key)]) kr (frame_find.calls k A2 c3 (vf1.Cards.take (x75).toNat) ((rd vf1.Cards x75).Key) HS125 ((HR4.take (x75).toNat).mono (L43.trans (L71.trans L113))) vt127 hc128) ?_)
               rintro _ W131 ⟨f129, rfl, L130, HS132⟩
               refine ⟨_, rfl, ?_⟩
               refine ⟨(Sg.g0 (Sx.of [] L130 HS132)), ?_⟩
               refine takeGL [7] (n := 1) (fuel := 0) #[true, true, true, true, true, true, true, true] rfl kr kr kr (fun ch_ a_ w_ q_ => (fun ch_ a_ w_ q_ => hnp ch_ a_ w_ (hp65 ch_ a_ w_ q_)) ch_ a_ w_ (hp89 ch_ a_ w_ q_)) (Sg.g0 (Sx.of [] L130 HS132)) ?_
               refine doneG kr ?_ _
               refine hK123 _ _ ?_
               have hq_ := ite_some h; clear h; rcases hq_ with ⟨c134, h⟩ | ⟨c134, h⟩
               · have c134 : vt127 ≥ 0 := c134
                 refine wpRwI 60 kr (decide_eq_true c134) ?_
                 refine condT kr ?_
                 refine wp_seq_k fun K135 hK136 => rl ?_
                 refine seqL1 kr ?_
                 refine nl (hK136 _ _ ?_)
                 refine wp_ret ?_
                 refine hr87 _ _ ?_
                 refine hr63 _ _ ?_
                 refine hret _ _ ?_
                 refine ends_still (v := Value.int .i64 7) kr kr ?_
                 have HS158 := HS132.drop
                 have HS159 := HS158.drop
                 replace h := JR144 _ h
                 injection h with h
                 subst h
                 exact ⟨f129, rfl, (L43.trans (L71.trans (L113.trans L130))), HS159⟩
               · have c134 : ¬ (vt127 ≥ 0) := c134
                 refine wpRwI 60 kr (decide_eq_false c134) ?_
                 refine condF kr ?_
                 refine wp_skip ?_
                 refine hn86 _ _ ?_
                 refine hK83 _ _ ?_
                 refine rl ?_
                 refine seqL2 kr ?_
                 refine nl ?_
                 refine hK68 n69 _ _ (Nat.lt_succ_self _) ?_
                 have HS147 := HS132.u1.u1
                 have HS148 := HS147.drop
                 exact ⟨f129, (w64 (x75 + 1)), (jL [(j74 0), iV x75, .pointer (some ⟨b100, 0, none⟩), iV vt110, tV, iV x75, .pointer (some ⟨b97, of98 + (x75 : Int).toNat * 4, none⟩), (ag_Card (rd vf1.Cards x75)), (ag_Card (rd vf1.Cards x75)), iV vt110, iV vt110, fV, (j74 12), .pointer (some ⟨b10, 2, none⟩), .slice A2 vf1.Cards.length c3, iV x75, .slice A2 (vf1.Cards.take (x75).toNat).length c3, .pointer (some ⟨b100, 0, none⟩), .string ((rd vf1.Cards x75).Key), iV vt127, fV, iV (w64 (x75 + 1))]), (L71.trans (L113.trans L130)), HS148, h, kr⟩
           · have c81 : ¬ (x75 < (vf1.Cards.length : Int)) := c81
             refine wpRwI 44 kr (decide_eq_false c81) ?_
             refine condF kr ?_
             refine wp_exit ?_
             refine hx61 _ _ ?_
             exact J143 f70 (jL [(j74 0), (j74 1), (j74 2), (j74 3), iV x75, fV, (j74 5), (j74 6), (j74 7), (j74 8), (j74 9), (j74 10), (j74 11), (j74 12), (j74 13), (j74 14), (j74 15), (j74 16), (j74 17), (j74 18), (j74 19), (j74 20), (j74 21)]) W72 _ L71 h HS73 kr

set_option maxRecDepth 100000 in
set_option maxHeartbeats 4000000 in
theorem slices_Clone_Card.calls (k : Nat) (A2 : Option Addr) (c3 : Nat) (s1 : List S_Card) {t w : World} {f : FM} {H : List Seg} (HS : St t w f (H)) (HR4 : SlR ty_Card f A2 c3 s1) (rr1 : List S_Card) (h : slices_Clone_Card k s1 = some rr1) :
    Calls Tryz.prog 34 #[.slice A2 s1.length c3] w (fun e w' => ∃ (g : FM) (A31 : Option Addr) (c32 : Nat) (s33 : Seg), e = .returned (Value.slice A31 rr1.length c32) ∧ FM.le f g ∧ St t w' g (s33 :: H) ∧ Own ty_Card 51 g A31 c32 s33 rr1) := by
 unfold slices_Clone_Card at h
 refine enter Tryz.func34 rfl (tm := #[.slice A2 s1.length c3, uV, uV, uV, uV, uV, uV, uV]) kr ?_
 intro B hret hnor hnp
 refine wp_seq_k fun K5 hK6 => rl ?_
 refine seqL1 kr ?_
 refine nl (hK6 _ _ ?_)
 refine wp_seq_k (fun K7 hK8 => ?_)
 refine wp_seq_k fun K9 hK10 => rl ?_
 refine seqL1 kr ?_
 obtain _ | ad11 := A2
 · obtain rfl := HR4.nil_eq
   have hq_ := guard_some h; clear h; obtain ⟨_, h⟩ := hq_
   refine seqL1 kr ?_
   refine nl (hK10 _ _ ?_)
   refine condT kr ?_
   refine wp_seq_k fun K27 hK28 => rl ?_
   refine seqL1 kr ?_
   refine nl (hK28 _ _ ?_)
   refine wp_ret ?_
   refine hret _ _ ?_
   have HS29 := HS.cons_nil
   refine ends_still (v := Value.slice none 0 0) kr kr ?_
   injection h with h
   subst h
   exact ⟨f, none, 0, [], rfl, FM.le.refl _, HS29, (Own.nil _)⟩
 · refine seqL1 kr ?_
   refine nl (hK10 _ _ ?_)
   refine condF kr ?_
   refine wp_skip ?_
   refine hK8 _ _ ?_
   refine wp_seq_k fun K12 hK13 => rl ?_
   refine seqK rfl (does_lit (e := ty_Card) (E := 51) (vs := #[]) (cs := #[]) (xs := ([] : List S_Card)) rfl Tryz.underlying27 kr kr rfl rfl HS ?_ (by decide))
   intro b14 W15 s16 HS17 _ HO18
   have hq_ := guard_some h; clear h; obtain ⟨c20, h⟩ := hq_
   have c20 : (([] : List S_Card).length + s1.length) * 64 ≤ 140737488355328 := c20
   refine seqL1 kr ?_
   refine seqK rfl (does_append (e := ty_Card) (E := 51) (xs := ([] : List S_Card)) (ys := s1) rfl (kv (.slice (some ⟨b14, 0, none⟩) ([] : List S_Card).length 0)) (kv (.slice (some ad11) s1.length c3)) Tryz.underlying27 inf51 HO18 HS17 (HR4.rc HS17) c20 (lim63 c20 (by decide)) ?_)
   intro A21 c22 s23 W24 HS25 HO26
   refine seqL1 kr ?_
   refine nl (hK13 _ _ ?_)
   refine wp_ret ?_
   refine hret _ _ ?_
   refine ends_still (v := Value.slice A21 (([] : List S_Card) ++ s1).length c22) kr kr ?_
   injection h with h
   subst h
   exact ⟨f, A21, c22, s23, rfl, FM.le.refl _, HS25, HO26⟩

set_option maxRecDepth 100000 in
set_option maxHeartbeats 4000000 in
theorem slices_Clone_int.calls (k : Nat) (A2 : Option Addr) (c3 : Nat) (s1 : List Int) {t w : World} {f : FM} {H : List Seg} (HS : St t w f (H)) (HR4 : SlR (tInt .i64) f A2 c3 s1) (rr1 : List Int) (h : slices_Clone_int k s1 = some rr1) :
    Calls Tryz.prog 35 #[.slice A2 s1.length c3] w (fun e w' => ∃ (g : FM) (A31 : Option Addr) (c32 : Nat) (s33 : Seg), e = .returned (Value.slice A31 rr1.length c32) ∧ FM.le f g ∧ St t w' g (s33 :: H) ∧ Own (tInt .i64) 3 g A31 c32 s33 rr1) := by
 unfold slices_Clone_int at h
 refine enter Tryz.func35 rfl (tm := #[.slice A2 s1.length c3, uV, uV, uV, uV, uV, uV, uV]) kr ?_
 intro B hret hnor hnp
 refine wp_seq_k fun K5 hK6 => rl ?_
 refine seqL1 kr ?_
 refine nl (hK6 _ _ ?_)
 refine wp_seq_k (fun K7 hK8 => ?_)
 refine wp_seq_k fun K9 hK10 => rl ?_
 refine seqL1 kr ?_
 obtain _ | ad11 := A2
 · obtain rfl := HR4.nil_eq
   have hq_ := guard_some h; clear h; obtain ⟨_, h⟩ := hq_
   refine seqL1 kr ?_
   refine nl (hK10 _ _ ?_)
   refine condT kr ?_
   refine wp_seq_k fun K27 hK28 => rl ?_
   refine seqL1 kr ?_
   refine nl (hK28 _ _ ?_)
   refine wp_ret ?_
   refine hret _ _ ?_
   have HS29 := HS.cons_nil
   refine ends_still (v := Value.slice none 0 0) kr kr ?_
   injection h with h
   subst h
   exact ⟨f, none, 0, [], rfl, FM.le.refl _, HS29, (Own.nil _)⟩
 · refine seqL1 kr ?_
   refine nl (hK10 _ _ ?_)
   refine condF kr ?_
   refine wp_skip ?_
   refine hK8 _ _ ?_
   refine wp_seq_k fun K12 hK13 => rl ?_
   refine seqK rfl (does_lit (e := (tInt .i64)) (E := 3) (vs := #[]) (cs := #[]) (xs := ([] : List Int)) rfl Tryz.underlying22 kr kr rfl rfl HS ?_ (by decide))
   intro b14 W15 s16 HS17 _ HO18
   have hq_ := guard_some h; clear h; obtain ⟨c20, h⟩ := hq_
   have c20 : (([] : List Int).length + s1.length) * 8 ≤ 140737488355328 := c20
   refine seqL1 kr ?_
   refine seqK rfl (does_append (e := (tInt .i64)) (E := 3) (xs := ([] : List Int)) (ys := s1) rfl (kv (.slice (some ⟨b14, 0, none⟩) ([] : List Int).length 0)) (kv (.slice (some ad11) s1.length c3)) Tryz.underlying22 inf3 HO18 HS17 (HR4.rc HS17) c20 (lim63 c20 (by decide)) ?_)
   intro A21 c22 s23 W24 HS25 HO26
   refine seqL1 kr ?_
   refine nl (hK13 _ _ ?_)
   refine wp_ret ?_
   refine hret _ _ ?_
   refine ends_still (v := Value.slice A21 (([] : List Int) ++ s1).length c22) kr kr ?_
   injection h with h
   subst h
   exact ⟨f, A21, c22, s23, rfl, FM.le.refl _, HS25, HO26⟩

set_option maxRecDepth 100000 in
set_option maxHeartbeats 4000000 in
theorem frame_Set.calls (k : Nat) (A2 : Option Addr) (c3 : Nat) (A5 : Option Addr) (c6 : Nat) (vf1 : S_Frame) (c8 : S_Card) {t w : World} {f : FM} {H : List Seg} (HS : St t w f (H)) (HR4 : SlR ty_Card f A2 c3 vf1.Cards) (HR7 : SlR (tInt .i64) f A5 c6 vf1.Counts) (HA : TabF Tryz.prog "strings.asciiSpace" .u8 Go.Lib.asciiSpaceTab f) (rr1 : S_Frame) (rr2 : Int) (h : frame_Set k vf1 c8 = some (rr1, rr2)) :
    Calls Tryz.prog 17 #[.agg #[.int .i64 vf1.W, .int .i64 vf1.H, .slice A2 vf1.Cards.length c3, .slice A5 vf1.Counts.length c6], .agg #[.string c8.Key, .string c8.Value, .string c8.Unit, .string c8.Note]] w (fun e w' => ∃ (g : FM) (A296 : Option Addr) (c297 : Nat) (s298 : Seg) (A299 : Option Addr) (c300 : Nat) (s301 : Seg), e = .returned (Value.tuple #[.agg #[.int .i64 rr1.W, .int .i64 rr1.H, .slice A296 rr1.Cards.length c297, .slice A299 rr1.Counts.length c300], .int .i64 rr2]) ∧ FM.le f g ∧ St t w' g (s298 :: s301 :: H) ∧ Own ty_Card 51 g A296 c297 s298 rr1.Cards ∧ Own (tInt .i64) 3 g A299 c300 s301 rr1.Counts) := by
 unfold frame_Set at h
 refine enter Tryz.func17 rfl (tm := #[(ag_Frame vf1 A2 c3 A5 c6), (ag_Card c8), uV, uV, uV, uV, uV, uV, uV, uV, uV, uV, uV, uV, uV, uV, uV, uV, uV, uV, uV, uV, uV, uV, uV, uV, uV, uV, uV, uV, uV, uV, uV, uV, uV, uV, uV, uV, uV, uV, uV, uV, uV, uV, uV, uV, uV, uV, uV, uV, uV, uV]) kr ?_
 intro B hret hnor hnp
 refine wp_seq_k fun K9 hK10 => rl ?_
 refine seqK rfl (does_box (cs := #[.int .i64 vf1.W, .int .i64 vf1.H, .slice A2 vf1.Cards.length c3, .slice A5 vf1.Counts.length c6]) rfl (kv (.agg #[.int .i64 vf1.W, .int .i64 vf1.H, .slice A2 vf1.Cards.length c3, .slice A5 vf1.Counts.length c6])) rfl HS ?_)
 intro b11 W12 HS13
 refine seqK rfl (does_box (cs := #[.string c8.Key, .string c8.Value, .string c8.Unit, .string c8.Note]) rfl (kv (.agg #[.string c8.Key, .string c8.Value, .string c8.Unit, .string c8.Note])) rfl HS13 ?_)
 intro b15 W16 HS17
 refine seqK rfl (does_alloc (z := Value.agg #[.int .i64 0, .int .i64 0, .slice none 0 0, .slice none 0 0]) (cs := #[.int .i64 0, .int .i64 0, .slice none 0 0, .slice none 0 0]) rfl kr rfl HS17 ?_)
 intro b19 W20 HS21
 refine seqL1 kr ?_
 refine nl (hK10 _ _ ?_)
 refine wp_seq_k (fun K23 hK24 => ?_)
 refine wp_seq_k fun K25 hK26 => rl ?_
 refine seqK rfl (does_run (run_loadN (n := 4) rfl Tryz.underlying29 rfl kr (kv (.pointer (some ⟨b11, 0, none⟩))) (cs := [.int .i64 vf1.W, .int .i64 vf1.H, .slice A2 vf1.Cards.length c3, .slice A5 vf1.Counts.length c6]) rfl (HS21.u2.cells 0 4 _ rfl)) ?_)
 have hq_ := bind_some h; clear h; obtain ⟨vt27, hc28, h⟩ := hq_
 refine seqK rfl (does_call (f := 21) (args := #[.agg #[.int .i64 vf1.W, .int .i64 vf1.H, .slice A2 vf1.Cards.length c3, .slice A5 vf1.Counts.length c6]]) kr (frame_Check.calls k A2 c3 A5 c6 vf1 HS21 HR4 HR7 HA vt27 hc28) ?_)
 rintro _ W31 ⟨f29, rfl, L30, HS32⟩
 refine ⟨_, rfl, ?_⟩
 refine seqL1 kr ?_
 refine nl (hK26 _ _ ?_)
 refine wp_seq_k fun K33 hK34 => rl ?_
 refine seqL2 kr ?_
 refine nl (hK34 _ _ ?_)
 have hq_ := ite_some h; clear h; rcases hq_ with ⟨c36, h⟩ | ⟨c36, h⟩
 · have c36 : vt27 ≠ 0 := c36
   refine wpRwI 13 kr (bne_iff_ne.mpr c36) ?_
   refine condT kr ?_
   refine wp_seq_k fun K37 hK38 => rl ?_
   refine seqL2 kr ?_
   refine seqK rfl (does_storeA (vs := [.int .i64 0, .int .i64 0, .slice none 0 0, .slice none 0 0]) rfl kr kr kr rfl (ones rfl) HS32 kr ?_)
   intro W39 HS40
   refine seqL1 kr ?_
   refine nl (hK38 _ _ ?_)
   refine wp_ret ?_
   refine hret _ _ ?_
   have HS258 := HS40.cons_nil
   have HS260 := HS258.cons_nil
   refine ends (v := Value.tuple #[.agg #[.int .i64 0, .int .i64 0, .slice none 0 0, .slice none 0 0], .int .i64 vt27]) (results2 (q1 := .cell 4 29) (q2 := .tmp 5) kr (resN (n := 4) (cs := [.int .i64 0, .int .i64 0, .slice none 0 0, .slice none 0 0]) (kv (.pointer (some ⟨b19, 0, none⟩))) Tryz.underlying29 rfl kr rfl (HS260.u2.cells 0 4 _ rfl)) (resT (kv (.int .i64 vt27)))) kr ?_
   have HS265 := HS260.u1.u4.u4.u4
   have HS266 := HS265.drop
   have HS267 := HS266.drop
   have HS268 := HS267.drop
   injection h with h
   injection h with h0_ h
   subst h0_ h
   exact ⟨f29, none, 0, [], none, 0, [], rfl, L30, HS268, (Own.nil _), (Own.nil _)⟩
 · have c36 : ¬ (vt27 ≠ 0) := c36
   refine wpRwI 13 (x := (vt27 != 0)) (v := false) kr (bne_eq_false_iff_eq.mpr (Decidable.of_not_not c36)) ?_
   refine condF kr ?_
   refine wp_skip ?_
   refine hK24 _ _ ?_
   refine wp_seq_k (fun K41 hK42 => ?_)
   refine heldG (S := Sg t f29 ([(b19, .cells #[.int .i64 0, .int .i64 0, .slice none 0 0, .slice none 0 0] 29 (0, 0))] :: [(b15, .cells #[.string c8.Key, .string c8.Value, .string c8.Unit, .string c8.Note] 51 (0, 0))] :: [(b11, .cells #[.int .i64 vf1.W, .int .i64 vf1.H, .slice A2 vf1.Cards.length c3, .slice A5 vf1.Counts.length c6] 29 (0, 0))] :: H) []) (n := 13) kr rfl HS32 ?_
   intro W43 HS44
   refine takeGL [0] (n := 13) (fuel := 12) #[true, false, false, false, false, false, false, false, false, false, false, false, false] rfl kr kr kr hnp (Sg.g0 (Sx.of [] fL HS44)) ?_
   refine takeGQ 1 [] rfl kr kr kr kr kr kr hnp (Sg.g0 (Sx.of [] fL HS44)) (fun w_ hw_ => by obtain ⟨g_, hl_, hS_⟩ := hw_.st; exact run_load rfl Tryz.underlying3 rfl (kv (.pointer (some ⟨b11, 0, none⟩))) (hS_.u2.cell 0)) ?_
   refine takeGL [2] (n := 11) (fuel := 10) #[true, true, true, false, false, false, false, false, false, false, false, false, false] rfl kr kr kr hnp (Sg.g0 (Sx.of [] fL HS44)) ?_
   refine takeGQ 3 [] rfl kr kr kr kr kr kr hnp (Sg.g0 (Sx.of [] fL HS44)) (fun w_ hw_ => by obtain ⟨g_, hl_, hS_⟩ := hw_.st; exact run_load rfl Tryz.underlying3 rfl (kv (.pointer (some ⟨b11, 1, none⟩))) (hS_.u2.cell 1)) ?_
   refine takeGL [4] (n := 9) (fuel := 8) #[true, true, true, true, true, false, false, false, false, false, false, false, false] rfl kr kr kr hnp (Sg.g0 (Sx.of [] fL HS44)) ?_
   refine takeGQ 5 [] rfl kr kr kr kr kr kr hnp (Sg.g0 (Sx.of [] fL HS44)) (fun w_ hw_ => by obtain ⟨g_, hl_, hS_⟩ := hw_.st; exact run_load rfl Tryz.underlying27 rfl (kv (.pointer (some ⟨b11, 2, none⟩))) (hS_.u2.cell 2)) ?_
   refine takeGL [7] (n := 7) (fuel := 6) #[true, true, true, true, true, true, false, true, false, false, false, false, false] rfl kr kr kr hnp (Sg.g0 (Sx.of [] fL HS44)) ?_
   refine takeGQ 8 [] rfl kr kr kr kr kr kr hnp (Sg.g0 (Sx.of [] fL HS44)) (fun w_ hw_ => by obtain ⟨g_, hl_, hS_⟩ := hw_.st; exact run_load rfl Tryz.underlying22 rfl (kv (.pointer (some ⟨b11, 3, none⟩))) (hS_.u2.cell 3)) ?_
   have hq_ := bind_some h; clear h; obtain ⟨vt45, hc46, h⟩ := hq_
   have hq_ := bind_some h; clear h; obtain ⟨vt56, hc57, h⟩ := hq_
   refine withR #[true, true, true, true, true, true, true, true, true, true, true, true, true] ?_
   intro R73 hR74 hR75
   have J76 : ∀ (f47 : FM) (A51 : Option Addr) (c52 : Nat) (s53 : Seg) (f58 : FM) (A62 : Option Addr) (c63 : Nat) (s64 : Seg) (b67 : Nat) (W77 : World) (a_ : Act), FM.le f29 f47 → Own ty_Card 51 f47 A51 c52 s53 vt45 → FM.le f47 f58 → Own (tInt .i64) 3 f58 A62 c63 s64 vt56 → St t W77 f58 ([(b67, .cells #[.int .i64 vf1.W, .int .i64 vf1.H, .slice A51 vt45.length c52, .slice A62 vt56.length c63] 29 (0, 0))] :: s64 :: s53 :: [(b19, .cells #[.int .i64 0, .int .i64 0, .slice none 0 0, .slice none 0 0] 29 (0, 0))] :: [(b15, .cells #[.string c8.Key, .string c8.Value, .string c8.Unit, .string c8.Note] 51 (0, 0))] :: [(b11, .cells #[.int .i64 vf1.W, .int .i64 vf1.H, .slice A2 vf1.Cards.length c3, .slice A5 vf1.Counts.length c6] 29 (0, 0))] :: H) → a_ = ⟨#[(ag_Frame vf1 A2 c3 A5 c6), (ag_Card c8), pV b11 0, pV b15 0, pV b19 0, iV 0, iV vt27, pV b67 0, uV, uV, (ag_Frame vf1 A2 c3 A5 c6), iV vt27, iV vt27, fV, uV, uV, pV b11 0, iV vf1.W, pV b11 1, iV vf1.H, pV b11 2, .slice A2 vf1.Cards.length c3, .slice A51 vt45.length c52, pV b11 3, .slice A5 vf1.Counts.length c6, .slice A62 vt56.length c63, .agg #[iV vf1.W, iV vf1.H, .slice A51 vt45.length c52, .slice A62 vt56.length c63], uV, uV, uV, uV, uV, uV, uV, uV, uV, uV, uV, uV, uV, uV, uV, uV, uV, uV, uV, uV, uV, uV, uV, uV, uV], []⟩ → R73 a_ W77 := by
    intro f47 A51 c52 s53 f58 A62 c63 s64 b67 W77 a_ L48 HO54 L59 HO65 HS78 hfr_; subst hfr_
    refine hR74 _ _ ?_
    refine doneG kr ?_ _
    refine hK42 _ _ ?_
    refine wp_seq_k (fun K144 hK145 => ?_)
    refine wp_seq_k fun K146 hK147 => rl ?_
    refine seqL1 kr ?_
    refine seqK rfl (does_run (run_load rfl Tryz.underlying27 rfl (kv (.pointer (some ⟨b67, 2, none⟩))) (HS78.cell 2)) ?_)
    refine seqL1 kr ?_
    refine seqK rfl (does_run (run_load rfl Tryz.underlying9 rfl (kv (.pointer (some ⟨b15, 0, none⟩))) (HS78.u4.cell 0)) ?_)
    have HS148 := HS78.u2
    obtain ⟨f149, L150, HS151, HR152, th153⟩ := (HO54.mono L59).lend HS148
    have hq_ := bind_some h; clear h; obtain ⟨vt154, hc155, h⟩ := hq_
    refine seqK rfl (does_call (f := 36) (args := #[.slice A51 vt45.length c52, .string c8.Key]) kr (frame_find.calls k A51 c52 vt45 c8.Key HS151 HR152 vt154 hc155) ?_)
    rintro _ W158 ⟨f156, rfl, L157, HS159⟩
    refine ⟨_, rfl, ?_⟩
    obtain ⟨f160, L161, HS162⟩ := th153 L157 HS159
    refine seqL1 kr ?_
    refine nl (hK147 _ _ ?_)
    refine wp_seq_k fun K163 hK164 => rl ?_
    refine seqL2 kr ?_
    refine nl (hK164 _ _ ?_)
    have hq_ := bind_some h; clear h; obtain ⟨v165, hv208, h⟩ := hq_
    have J209 : ∀ (f198 : FM) (A204 : Option Addr) (c205 : Nat) (s206 : Seg) (x203 : List S_Card) (j202 : Nat → Value) (W200 : World) (a_ : Act), FM.le f160 f198 → some (x203) = some v165 → St t W200 f198 (s206 :: [(b67, .cells #[.int .i64 vf1.W, .int .i64 vf1.H, .slice A204 x203.length c205, .slice A62 vt56.length c63] 29 (0, 0))] :: s64 :: [(b19, .cells #[.int .i64 0, .int .i64 0, .slice none 0 0, .slice none 0 0] 29 (0, 0))] :: [(b15, .cells #[.string c8.Key, .string c8.Value, .string c8.Unit, .string c8.Note] 51 (0, 0))] :: [(b11, .cells #[.int .i64 vf1.W, .int .i64 vf1.H, .slice A2 vf1.Cards.length c3, .slice A5 vf1.Counts.length c6] 29 (0, 0))] :: H) → Own ty_Card 51 f198 A204 c205 s206 x203 → a_ = ⟨#[(ag_Frame vf1 A2 c3 A5 c6), (ag_Card c8), pV b11 0, pV b15 0, pV b19 0, iV 0, iV vt27, pV b67 0, iV vt154, uV, (ag_Frame vf1 A2 c3 A5 c6), iV vt27, iV vt27, fV, uV, uV, pV b11 0, iV vf1.W, pV b11 1, iV vf1.H, pV b11 2, .slice A2 vf1.Cards.length c3, (j202 0), pV b11 3, .slice A5 vf1.Counts.length c6, .slice A62 vt56.length c63, (j202 1), pV b67 2, (j202 2), pV b15 0, .string c8.Key, iV vt154, iV vt154, .bool (decide (vt154 ≥ 0)), (j202 3), (j202 4), (j202 5), (j202 6), (j202 7), (j202 8), (j202 9), (j202 10), (j202 11), (j202 12), (j202 13), uV, uV, uV, uV, uV, uV, uV], []⟩ → K144 a_ W200 := by
     intro f198 A204 c205 s206 x203 j202 W200 a_ L199 hj210 HS201 HO207 hfr_; subst hfr_
     injection hj210 with hj210; subst hj210; try dsimp only at h
     refine hK145 _ _ ?_
     refine wp_seq_k (fun K217 hK218 => ?_)
     refine wp_seq_k fun K219 hK220 => rl ?_
     refine seqK rfl (does_run (run_loadN (n := 4) rfl Tryz.underlying29 rfl kr (kv (.pointer (some ⟨b67, 0, none⟩))) (cs := [.int .i64 vf1.W, .int .i64 vf1.H, .slice A204 x203.length c205, .slice A62 vt56.length c63]) rfl (HS201.u1.cells 0 4 _ rfl)) ?_)
     obtain ⟨f221, L222, HS223, HR224, th225⟩ := HO207.lend HS201
     have HS226 := HS223.u1
     obtain ⟨f227, L228, HS229, HR230, th231⟩ := (HO65.mono (L161.trans (L199.trans L222))).lend HS226
     have hq_ := bind_some h; clear h; obtain ⟨vt232, hc233, h⟩ := hq_
     refine seqK rfl (does_call (f := 21) (args := #[.agg #[.int .i64 vf1.W, .int .i64 vf1.H, .slice A204 x203.length c205, .slice A62 vt56.length c63]]) kr (frame_Check.calls k A204 c205 A62 c63 (⟨vf1.W, vf1.H, x203, vt56⟩ : S_Frame) HS229 (HR224.mono L228) HR230 (HA.mono (L30.trans (L48.trans (L59.trans (L161.trans (L199.trans (L222.trans L228))))))) vt232 hc233) ?_)
     rintro _ W236 ⟨f234, rfl, L235, HS237⟩
     refine ⟨_, rfl, ?_⟩
     obtain ⟨f238, L239, HS240⟩ := th231 L235 HS237
     obtain ⟨f241, L242, HS243⟩ := th225 L239 HS240
     refine seqL1 kr ?_
     refine nl (hK220 _ _ ?_)
     refine wp_seq_k fun K244 hK245 => rl ?_
     refine seqL2 kr ?_
     refine nl (hK245 _ _ ?_)
     have hq_ := ite_some h; clear h; rcases hq_ with ⟨c247, h⟩ | ⟨c247, h⟩
     · have c247 : vt232 ≠ 0 := c247
       refine wpRwI 48 kr (bne_iff_ne.mpr c247) ?_
       refine condT kr ?_
       refine wp_seq_k fun K248 hK249 => rl ?_
       have HS250 := HS243.u3
       refine seqL2 kr ?_
       refine seqK rfl (does_storeA (vs := [.int .i64 0, .int .i64 0, .slice none 0 0, .slice none 0 0]) rfl kr kr kr rfl (ones rfl) HS250 kr ?_)
       intro W251 HS252
       refine seqL1 kr ?_
       refine nl (hK249 _ _ ?_)
       refine wp_ret ?_
       refine hret _ _ ?_
       have HS269 := HS252.cons_nil
       have HS271 := HS269.cons_nil
       refine ends (v := Value.tuple #[.agg #[.int .i64 0, .int .i64 0, .slice none 0 0, .slice none 0 0], .int .i64 vt232]) (results2 (q1 := .cell 4 29) (q2 := .tmp 5) kr (resN (n := 4) (cs := [.int .i64 0, .int .i64 0, .slice none 0 0, .slice none 0 0]) (kv (.pointer (some ⟨b19, 0, none⟩))) Tryz.underlying29 rfl kr rfl (HS271.u2.cells 0 4 _ rfl)) (resT (kv (.int .i64 vt232)))) kr ?_
       have HS279 := HS271.u1.u7.u7.u7.u7.u7.u7
       have HS280 := HS279.drop
       have HS281 := HS280.drop
       have HS282 := HS281.drop
       have HS283 := HS282.drop
       have HS284 := HS283.drop
       have HS285 := HS284.drop
       injection h with h
       injection h with h0_ h
       subst h0_ h
       exact ⟨f241, none, 0, [], none, 0, [], rfl, (L30.trans (L48.trans (L59.trans (L161.trans (L199.trans L242))))), HS285, (Own.nil _), (Own.nil _)⟩
     · have c247 : ¬ (vt232 ≠ 0) := c247
       refine wpRwI 48 (x := (vt232 != 0)) (v := false) kr (bne_eq_false_iff_eq.mpr (Decidable.of_not_not c247)) ?_
       refine condF kr ?_
       refine wp_skip ?_
       refine hK218 _ _ ?_
       refine wp_seq_k fun K253 hK254 => rl ?_
       refine seqK rfl (does_run (run_loadN (n := 4) rfl Tryz.underlying29 rfl kr (kv (.pointer (some ⟨b67, 0, none⟩))) (cs := [.int .i64 vf1.W, .int .i64 vf1.H, .slice A204 x203.length c205, .slice A62 vt56.length c63]) rfl (HS243.u2.cells 0 4 _ rfl)) ?_)
       have HS255 := HS243.u3
       refine seqK rfl (does_storeA (vs := [.int .i64 vf1.W, .int .i64 vf1.H, .slice A204 x203.length c205, .slice A62 vt56.length c63]) rfl kr kr kr rfl (ones rfl) HS255 kr ?_)
       intro W256 HS257
       refine seqL1 kr ?_
       refine nl (hK254 _ _ ?_)
       refine wp_ret ?_
       refine hret _ _ ?_
       refine ends (v := Value.tuple #[.agg #[.int .i64 vf1.W, .int .i64 vf1.H, .slice A204 x203.length c205, .slice A62 vt56.length c63], .int .i64 0]) (results2 (q1 := .cell 4 29) (q2 := .tmp 5) kr (resN (n := 4) (cs := [.int .i64 vf1.W, .int .i64 vf1.H, .slice A204 x203.length c205, .slice A62 vt56.length c63]) (kv (.pointer (some ⟨b19, 0, none⟩))) Tryz.underlying29 rfl kr rfl (HS257.cells 0 4 _ rfl)) (resT (kv (.int .i64 0)))) kr ?_
       have HS291 := HS257.u2.u2.u5.u5.u5.u5
       have HS292 := HS291.drop
       have HS293 := HS292.drop
       have HS294 := HS293.drop
       have HS295 := HS294.drop
       injection h with h
       injection h with h0_ h
       subst h0_ h
       exact ⟨f241, A204, c205, s206, A62, c63, s64, rfl, (L30.trans (L48.trans (L59.trans (L161.trans (L199.trans L242))))), HS295, (HO207.mono L242), (HO65.mono (L161.trans (L199.trans L242)))⟩
    clear h; have h := hv208; clear hv208
    have hq_ := ite_some h; clear h; rcases hq_ with ⟨c166, h⟩ | ⟨c166, h⟩
    · have c166 : vt154 ≥ 0 := c166
      refine wpRwI 33 kr (decide_eq_true c166) ?_
      refine condT kr ?_
      refine rl ?_
      refine seqL1 kr ?_
      refine seqK rfl (does_run (run_load rfl Tryz.underlying27 rfl (kv (.pointer (some ⟨b67, 2, none⟩))) (HS162.u1.cell 2)) ?_)
      refine seqL1 kr ?_
      refine seqK rfl (does_run (run_loadN (n := 4) rfl Tryz.underlying51 rfl kr (kv (.pointer (some ⟨b15, 0, none⟩))) (cs := [.string c8.Key, .string c8.Value, .string c8.Unit, .string c8.Note]) rfl (HS162.u4.cells 0 4 _ rfl)) ?_)
      have hq_ := guard_some h; clear h; obtain ⟨c167, h⟩ := hq_
      have c167 : 0 ≤ vt154 := c167
      have hq_ := guard_some h; clear h; obtain ⟨c168, h⟩ := hq_
      have c168 : vt154 < (vt45.length : Int) := c168
      obtain ⟨b172, of173, cs169, hA174, hr170, hc171⟩ := (HO54.mono (L59.trans L161)).at (i := vt154) c167 c168
      obtain rfl := hr170
      refine seqK rfl (does_run (run_indexE hA174 (sz := 4) rfl Tryz.underlying27 kr (kv (.slice A51 vt45.length c52)) (kv (.int .i64 vt154)) c167 c168 W158) ?_)
      refine seqK rfl (does_put (e := ty_Card) (E := 51) (vs := [.string c8.Key, .string c8.Value, .string c8.Unit, .string c8.Note]) (u := c8) (i := vt154) rfl kr (HO54.mono (L59.trans L161)) HS162 hA174 (kv (.pointer (some ⟨b172, of173 + (vt154 : Int).toNat * 4, none⟩))) (kv (.agg #[.string c8.Key, .string c8.Value, .string c8.Unit, .string c8.Note])) rfl rfl c167 c168 ?_)
      intro W175 s176 HS177 HO178
      have HS179 : St t W175 f160 (s176 :: [(b67, .cells #[.int .i64 vf1.W, .int .i64 vf1.H, .slice A51 (vt45.set (vt154).toNat c8).length c52, .slice A62 vt56.length c63] 29 (0, 0))] :: s64 :: [(b19, .cells #[.int .i64 0, .int .i64 0, .slice none 0 0, .slice none 0 0] 29 (0, 0))] :: [(b15, .cells #[.string c8.Key, .string c8.Value, .string c8.Unit, .string c8.Note] 51 (0, 0))] :: [(b11, .cells #[.int .i64 vf1.W, .int .i64 vf1.H, .slice A2 vf1.Cards.length c3, .slice A5 vf1.Counts.length c6] 29 (0, 0))] :: H) := by rw [show (vt45.set (vt154).toNat c8).length = vt45.length from List.length_set]; exact HS177
      refine seqRwS 22 (A := A51) (m := vt45.length) (n := (vt45.set (vt154).toNat c8).length) (c := c52) kr (List.length_set).symm ?_
      refine seqRwS 28 (A := A51) (m := vt45.length) (n := (vt45.set (vt154).toNat c8).length) (c := c52) kr (List.length_set).symm ?_
      refine seqRwS 35 (A := A51) (m := vt45.length) (n := (vt45.set (vt154).toNat c8).length) (c := c52) kr (List.length_set).symm ?_
      refine nl ?_
      refine fnRwI (F := K144) 33 (x := true) (v := (decide (vt154 ≥ 0))) kr (Eq.symm (decide_eq_true c166)) ?_
      exact J209 f160 A51 c52 s176 (vt45.set (vt154).toNat c8) (jL [.slice A51 (vt45.set (vt154).toNat c8).length c52, .agg #[.int .i64 vf1.W, .int .i64 vf1.H, .slice A51 vt45.length c52, .slice A62 vt56.length c63], .slice A51 (vt45.set (vt154).toNat c8).length c52, .pointer (some ⟨b67, 2, none⟩), .slice A51 (vt45.set (vt154).toNat c8).length c52, iV vt154, (ag_Card c8), .pointer (some ⟨b172, of173 + (vt154 : Int).toNat * 4, none⟩)]) W175 _ fL h HS179 HO178 kr
    · have c166 : ¬ (vt154 ≥ 0) := c166
      refine wpRwI 33 kr (decide_eq_false c166) ?_
      refine condF kr ?_
      refine rl ?_
      refine seqL1 kr ?_
      refine seqK rfl (does_run (run_load rfl Tryz.underlying27 rfl (kv (.pointer (some ⟨b67, 2, none⟩))) (HS162.u1.cell 2)) ?_)
      refine seqK rfl (does_run (run_loadN (n := 4) rfl Tryz.underlying51 rfl kr (kv (.pointer (some ⟨b15, 0, none⟩))) (cs := [.string c8.Key, .string c8.Value, .string c8.Unit, .string c8.Note]) rfl (HS162.u4.cells 0 4 _ rfl)) ?_)
      refine seqK rfl (does_lit (e := ty_Card) (E := 51) (vs := #[(0, Value.agg #[.string c8.Key, .string c8.Value, .string c8.Unit, .string c8.Note])]) (cs := #[.string c8.Key, .string c8.Value, .string c8.Unit, .string c8.Note]) (xs := ([c8] : List S_Card)) rfl Tryz.underlying27 kr kr ⟨[.string c8.Key, .string c8.Value, .string c8.Unit, .string c8.Note], _, rfl, rfl, rfl⟩ rfl HS162 ?_ (by decide))
      intro b180 W181 s182 HS183 _ HO184
      have hq_ := guard_some h; clear h; obtain ⟨c186, h⟩ := hq_
      have c186 : (vt45.length + 1) * 64 ≤ 140737488355328 := c186
      have HS188 := HS183.u1.u1
      refine seqK rfl (does_append1 (e := ty_Card) (E := 51) (xs := vt45) (ys := ([c8] : List S_Card)) rfl (kv (.slice A51 vt45.length c52)) (kv (.slice (some ⟨b180, 0, none⟩) ([c8] : List S_Card).length 1)) Tryz.underlying27 inf51 (HO54.mono (L59.trans L161)) HO184 HS188 c186 (lim63 c186 (by decide)) ?_)
      intro A189 c190 s191 W192 HS193 HO194
      have HS195 := HS193.u1
      refine seqL1 kr ?_
      refine seqK rfl (does_store (n := 1) (vs := [.slice A189 (vt45 ++ ([c8] : List S_Card)).length c190]) (cs' := #[.int .i64 vf1.W, .int .i64 vf1.H, .slice A189 (vt45 ++ ([c8] : List S_Card)).length c190, .slice A62 vt56.length c63]) rfl kr (kv (.pointer (some ⟨b67, 2, none⟩))) (kv (.slice A189 (vt45 ++ ([c8] : List S_Card)).length c190)) rfl rfl (ones rfl) HS195 (Nat.le_of_ble_eq_true rfl) kr ?_)
      intro W196 HS197
      refine nl ?_
      refine fnRwI (F := K144) 33 (x := false) (v := (decide (vt154 ≥ 0))) kr (Eq.symm (decide_eq_false c166)) ?_
      have HS216 := HS197.u5.u5.u5.u5.u4.u5
      exact J209 f160 A189 c190 s191 (vt45 ++ ([c8] : List S_Card)) (jL [.slice A51 vt45.length c52, .agg #[.int .i64 vf1.W, .int .i64 vf1.H, .slice A51 vt45.length c52, .slice A62 vt56.length c63], .slice A51 vt45.length c52, uV, uV, uV, uV, uV, .pointer (some ⟨b67, 2, none⟩), .slice A51 vt45.length c52, (ag_Card c8), .slice (some ⟨b180, 0, none⟩) ([c8] : List S_Card).length 1, .slice A189 (vt45 ++ ([c8] : List S_Card)).length c190, .pointer (some ⟨b67, 2, none⟩)]) W196 _ fL h HS216 HO194 kr
   refine takeEither 6 11 kr rfl rfl rfl rfl ?_ ?_
   · refine does_call (f := 34) (args := #[.slice A2 vf1.Cards.length c3]) kr (slices_Clone_Card.calls k A2 c3 vf1.Cards HS44 (HR4.mono L30) vt45 hc46) ?_
     rintro _ W81 ⟨f79, A83, c84, s85, rfl, L80, HS82, HO86⟩
     refine ⟨_, rfl, ?_⟩
     refine ⟨(Sg.g0 (Sx.of [s85] L80 HS82)), ?_⟩
     refine takeEither 9 11 kr rfl rfl rfl rfl ?_ ?_
     · refine does_call (f := 35) (args := #[.slice A5 vf1.Counts.length c6]) kr (slices_Clone_int.calls k A5 c6 vf1.Counts HS82 (HR7.mono (L30.trans L80)) vt56 hc57) ?_
       rintro _ W90 ⟨f88, A92, c93, s94, rfl, L89, HS91, HO95⟩
       refine ⟨_, rfl, ?_⟩
       refine ⟨(Sg.g0 (Sx.of [s94, s85] (L80.trans L89) HS91)), ?_⟩
       refine takeGL [10] (n := 3) (fuel := 2) #[true, true, true, true, true, true, true, true, true, true, true, false, false] rfl kr kr kr hnp (Sg.g0 (Sx.of [s94, s85] (L80.trans L89) HS91)) ?_
       refine takeGE 11 kr rfl kr (does_alloc (z := Value.agg #[.int .i64 0, .int .i64 0, .slice none 0 0, .slice none 0 0]) (cs := #[.int .i64 0, .int .i64 0, .slice none 0 0, .slice none 0 0]) rfl kr rfl HS91 ?_)
       intro b97 W98 HS99
       refine ⟨(Sg.g0 (Sx.of [[(b97, .cells #[.int .i64 0, .int .i64 0, .slice none 0 0, .slice none 0 0] 29 (0, 0))], s94, s85] (L80.trans L89) HS99)), ?_⟩
       refine takeGE 12 kr rfl kr (does_storeA (vs := [.int .i64 vf1.W, .int .i64 vf1.H, .slice A83 vt45.length c84, .slice A92 vt56.length c93]) rfl kr kr kr rfl (ones rfl) HS99 kr ?_)
       intro W101 HS102
       refine ⟨(Sg.g0 (Sx.of [[(b97, .cells #[.int .i64 vf1.W, .int .i64 vf1.H, .slice A83 vt45.length c84, .slice A92 vt56.length c93] 29 (0, 0))], s94, s85] (L80.trans L89) HS102)), ?_⟩
       refine hR75 _ _ ?_
       exact J76 f79 A83 c84 s85 f88 A92 c93 s94 b97 W101 _ L80 HO86 L89 HO95 HS102 kr
     · refine does_alloc (z := Value.agg #[.int .i64 0, .int .i64 0, .slice none 0 0, .slice none 0 0]) (cs := #[.int .i64 0, .int .i64 0, .slice none 0 0, .slice none 0 0]) rfl kr rfl HS82 ?_
       intro b103 W104 HS105
       refine ⟨(Sg.g0 (Sx.of [[(b103, .cells #[.int .i64 0, .int .i64 0, .slice none 0 0, .slice none 0 0] 29 (0, 0))], s85] L80 HS105)), ?_⟩
       refine takeGE 9 kr rfl kr (does_call (f := 35) (args := #[.slice A5 vf1.Counts.length c6]) kr (slices_Clone_int.calls k A5 c6 vf1.Counts HS105 (HR7.mono (L30.trans L80)) vt56 hc57) ?_)
       rintro _ W109 ⟨f107, A111, c112, s113, rfl, L108, HS110, HO114⟩
       refine ⟨_, rfl, ?_⟩
       refine ⟨(Sg.g0 (Sx.of [s113, [(b103, .cells #[.int .i64 0, .int .i64 0, .slice none 0 0, .slice none 0 0] 29 (0, 0))], s85] (L80.trans L108) HS110)), ?_⟩
       refine takeGL [10] (n := 2) (fuel := 1) #[true, true, true, true, true, true, true, true, true, true, true, true, false] rfl kr kr kr hnp (Sg.g0 (Sx.of [s113, [(b103, .cells #[.int .i64 0, .int .i64 0, .slice none 0 0, .slice none 0 0] 29 (0, 0))], s85] (L80.trans L108) HS110)) ?_
       have HS116 := HS110.u1
       refine takeGE 12 kr rfl kr (does_storeA (vs := [.int .i64 vf1.W, .int .i64 vf1.H, .slice A83 vt45.length c84, .slice A111 vt56.length c112]) rfl kr kr kr rfl (ones rfl) HS116 kr ?_)
       intro W117 HS118
       refine ⟨(Sg.g0 (Sx.of [[(b103, .cells #[.int .i64 vf1.W, .int .i64 vf1.H, .slice A83 vt45.length c84, .slice A111 vt56.length c112] 29 (0, 0))], s113, s85] (L80.trans L108) HS118)), ?_⟩
       refine hR75 _ _ ?_
       exact J76 f79 A83 c84 s85 f107 A111 c112 s113 b103 W117 _ L80 HO86 L108 HO114 HS118 kr
   · refine does_alloc (z := Value.agg #[.int .i64 0, .int .i64 0, .slice none 0 0, .slice none 0 0]) (cs := #[.int .i64 0, .int .i64 0, .slice none 0 0, .slice none 0 0]) rfl kr rfl HS44 ?_
     intro b119 W120 HS121
     refine ⟨(Sg.g0 (Sx.of [[(b119, .cells #[.int .i64 0, .int .i64 0, .slice none 0 0, .slice none 0 0] 29 (0, 0))]] fL HS121)), ?_⟩
     refine takeGE 6 kr rfl kr (does_call (f := 34) (args := #[.slice A2 vf1.Cards.length c3]) kr (slices_Clone_Card.calls k A2 c3 vf1.Cards HS121 (HR4.mono L30) vt45 hc46) ?_)
     rintro _ W125 ⟨f123, A127, c128, s129, rfl, L124, HS126, HO130⟩
     refine ⟨_, rfl, ?_⟩
     refine ⟨(Sg.g0 (Sx.of [s129, [(b119, .cells #[.int .i64 0, .int .i64 0, .slice none 0 0, .slice none 0 0] 29 (0, 0))]] L124 HS126)), ?_⟩
     refine takeGE 9 kr rfl kr (does_call (f := 35) (args := #[.slice A5 vf1.Counts.length c6]) kr (slices_Clone_int.calls k A5 c6 vf1.Counts HS126 (HR7.mono (L30.trans L124)) vt56 hc57) ?_)
     rintro _ W134 ⟨f132, A136, c137, s138, rfl, L133, HS135, HO139⟩
     refine ⟨_, rfl, ?_⟩
     refine ⟨(Sg.g0 (Sx.of [s138, s129, [(b119, .cells #[.int .i64 0, .int .i64 0, .slice none 0 0, .slice none 0 0] 29 (0, 0))]] (L124.trans L133) HS135)), ?_⟩
     refine takeGL [10] (n := 2) (fuel := 1) #[true, true, true, true, true, true, true, true, true, true, true, true, false] rfl kr kr kr hnp (Sg.g0 (Sx.of [s138, s129, [(b119, .cells #[.int .i64 0, .int .i64 0, .slice none 0 0, .slice none 0 0] 29 (0, 0))]] (L124.trans L133) HS135)) ?_
     have HS141 := HS135.u2
     refine takeGE 12 kr rfl kr (does_storeA (vs := [.int .i64 vf1.W, .int .i64 vf1.H, .slice A127 vt45.length c128, .slice A136 vt56.length c137]) rfl kr kr kr rfl (ones rfl) HS141 kr ?_)
     intro W142 HS143
     refine ⟨(Sg.g0 (Sx.of [[(b119, .cells #[.int .i64 vf1.W, .int .i64 vf1.H, .slice A127 vt45.length c128, .slice A136 vt56.length c137] 29 (0, 0))], s138, s129] (L124.trans L133) HS143)), ?_⟩
     refine hR75 _ _ ?_
     exact J76 f123 A127 c128 s129 f132 A136 c137 s138 b119 W142 _ L124 HO130 L133 HO139 HS143 kr

set_option maxRecDepth 100000 in
set_option maxHeartbeats 4000000 in
theorem frame_Get.calls (k : Nat) (A2 : Option Addr) (c3 : Nat) (A5 : Option Addr) (c6 : Nat) (vf1 : S_Frame) (key8 : ByteArray) {t w : World} {f : FM} {H : List Seg} (HS : St t w f (H)) (HR4 : SlR ty_Card f A2 c3 vf1.Cards) (HR7 : SlR (tInt .i64) f A5 c6 vf1.Counts) (rr1 : S_Card) (rr2 : Bool) (h : frame_Get k vf1 key8 = some (rr1, rr2)) :
    Calls Tryz.prog 20 #[.agg #[.int .i64 vf1.W, .int .i64 vf1.H, .slice A2 vf1.Cards.length c3, .slice A5 vf1.Counts.length c6], .string key8] w (fun e w' => ∃ (g : FM), e = .returned (Value.tuple #[.agg #[.string rr1.Key, .string rr1.Value, .string rr1.Unit, .string rr1.Note], .bool rr2]) ∧ FM.le f g ∧ St t w' g (H)) := by
 unfold frame_Get at h
 refine enter Tryz.func20 rfl (tm := #[(ag_Frame vf1 A2 c3 A5 c6), .string key8, uV, uV, uV, uV, uV, uV, uV, uV, uV, uV, uV, uV, uV, uV, uV, uV, uV]) kr ?_
 intro B hret hnor hnp
 refine wp_seq_k fun K9 hK10 => rl ?_
 refine seqK rfl (does_box (cs := #[.int .i64 vf1.W, .int .i64 vf1.H, .slice A2 vf1.Cards.length c3, .slice A5 vf1.Counts.length c6]) rfl (kv (.agg #[.int .i64 vf1.W, .int .i64 vf1.H, .slice A2 vf1.Cards.length c3, .slice A5 vf1.Counts.length c6])) rfl HS ?_)
 intro b11 W12 HS13
 refine seqK rfl (does_alloc (z := Value.agg #[.string ⟨#[]⟩, .string ⟨#[]⟩, .string ⟨#[]⟩, .string ⟨#[]⟩]) (cs := #[.string ⟨#[]⟩, .string ⟨#[]⟩, .string ⟨#[]⟩, .string ⟨#[]⟩]) rfl kr rfl HS13 ?_)
 intro b15 W16 HS17
 refine seqL1 kr ?_
 refine nl (hK10 _ _ ?_)
 refine wp_seq_k (fun K19 hK20 => ?_)
 refine wp_seq_k fun K21 hK22 => rl ?_
 refine seqL1 kr ?_
 refine seqK rfl (does_run (run_load rfl Tryz.underlying27 rfl (kv (.pointer (some ⟨b11, 2, none⟩))) (HS17.u1.cell 2)) ?_)
 have hq_ := bind_some h; clear h; obtain ⟨vt23, hc24, h⟩ := hq_
 refine seqL1 kr ?_
 refine seqK rfl (does_call (f := 36) (args := #[.slice A2 vf1.Cards.length c3, .string key8]) kr (frame_find.calls k A2 c3 vf1.Cards key8 HS17 HR4 vt23 hc24) ?_)
 rintro _ W27 ⟨f25, rfl, L26, HS28⟩
 refine ⟨_, rfl, ?_⟩
 refine seqL1 kr ?_
 refine nl (hK22 _ _ ?_)
 refine wp_seq_k fun K29 hK30 => rl ?_
 refine seqL2 kr ?_
 refine nl (hK30 _ _ ?_)
 have hq_ := ite_some h; clear h; rcases hq_ with ⟨c32, h⟩ | ⟨c32, h⟩
 · have c32 : vt23 ≥ 0 := c32
   refine wpRwI 12 kr (decide_eq_true c32) ?_
   refine condT kr ?_
   refine wp_seq_k fun K33 hK34 => rl ?_
   refine seqL1 kr ?_
   refine seqK rfl (does_run (run_load rfl Tryz.underlying27 rfl (kv (.pointer (some ⟨b11, 2, none⟩))) (HS28.u1.cell 2)) ?_)
   have hq_ := guard_some h; clear h; obtain ⟨c35, h⟩ := hq_
   have c35 : 0 ≤ vt23 := c35
   have hq_ := guard_some h; clear h; obtain ⟨c36, h⟩ := hq_
   have c36 : vt23 < (vf1.Cards.length : Int) := c36
   obtain ⟨b40, of41, cs37, hA42, hr38, hc39⟩ := (HR4.mono L26).at (i := vt23) c35 c36
   obtain rfl := hr38
   refine seqL1 kr ?_
   refine seqK rfl (does_run (run_indexE hA42 (sz := 4) rfl Tryz.underlying27 kr (kv (.slice A2 vf1.Cards.length c3)) (kv (.int .i64 vt23)) c35 c36 W27) ?_)
   refine seqK rfl (does_run (run_loadN (n := 4) rfl Tryz.underlying51 rfl kr (kv (.pointer (some ⟨b40, of41 + (vt23 : Int).toNat * 4, none⟩))) (cs := [.string ((rd vf1.Cards vt23).Key), .string ((rd vf1.Cards vt23).Value), .string ((rd vf1.Cards vt23).Unit), .string ((rd vf1.Cards vt23).Note)]) rfl (fun j_ hj_ => ((hc39 fL HS28) j_ hj_))) ?_)
   refine seqK rfl (does_storeA (vs := [.string ((rd vf1.Cards vt23).Key), .string ((rd vf1.Cards vt23).Value), .string ((rd vf1.Cards vt23).Unit), .string ((rd vf1.Cards vt23).Note)]) rfl kr kr kr rfl (ones rfl) HS28 kr ?_)
   intro W43 HS44
   refine seqL1 kr ?_
   refine nl (hK34 _ _ ?_)
   refine wp_ret ?_
   refine hret _ _ ?_
   refine ends (v := Value.tuple #[.agg #[.string ((rd vf1.Cards vt23).Key), .string ((rd vf1.Cards vt23).Value), .string ((rd vf1.Cards vt23).Unit), .string ((rd vf1.Cards vt23).Note)], .bool true]) (results2 (q1 := .cell 4 51) (q2 := .tmp 5) kr (resN (n := 4) (cs := [.string ((rd vf1.Cards vt23).Key), .string ((rd vf1.Cards vt23).Value), .string ((rd vf1.Cards vt23).Unit), .string ((rd vf1.Cards vt23).Note)]) (kv (.pointer (some ⟨b15, 0, none⟩))) Tryz.underlying51 rfl kr rfl (HS44.cells 0 4 _ rfl)) (resT (kv (.bool true)))) kr ?_
   have HS49 := HS44.drop
   have HS50 := HS49.drop
   injection h with h
   injection h with h0_ h
   subst h0_ h
   exact ⟨f25, rfl, L26, HS50⟩
 · have c32 : ¬ (vt23 ≥ 0) := c32
   refine wpRwI 12 kr (decide_eq_false c32) ?_
   refine condF kr ?_
   refine wp_skip ?_
   refine hK20 _ _ ?_
   refine wp_seq_k fun K45 hK46 => rl ?_
   refine seqL1 kr ?_
   refine seqK rfl (does_storeA (vs := [.string ⟨#[]⟩, .string ⟨#[]⟩, .string ⟨#[]⟩, .string ⟨#[]⟩]) rfl kr kr kr rfl (ones rfl) HS28 kr ?_)
   intro W47 HS48
   refine seqL1 kr ?_
   refine nl (hK46 _ _ ?_)
   refine wp_ret ?_
   refine hret _ _ ?_
   refine ends (v := Value.tuple #[.agg #[.string ⟨#[]⟩, .string ⟨#[]⟩, .string ⟨#[]⟩, .string ⟨#[]⟩], .bool false]) (results2 (q1 := .cell 4 51) (q2 := .tmp 5) kr (resN (n := 4) (cs := [.string ⟨#[]⟩, .string ⟨#[]⟩, .string ⟨#[]⟩, .string ⟨#[]⟩]) (kv (.pointer (some ⟨b15, 0, none⟩))) Tryz.underlying51 rfl kr rfl (HS48.cells 0 4 _ rfl)) (resT (kv (.bool false)))) kr ?_
   have HS51 := HS48.drop
   have HS52 := HS51.drop
   injection h with h
   injection h with h0_ h
   subst h0_ h
   exact ⟨f25, rfl, L26, HS52⟩

theorem strings_Builder_WriteString.calls (k : Nat) (A : Option Addr) (c : Nat) (s : Seg) (l : List UInt8) (str : ByteArray) {t w : World} {f : FM} {H : List Seg} (HS : St t w f (s :: H)) (HO : OwnB 102 5 f A c s l) (r1 : Int) (r2 : List UInt8) (h : strings_Builder_WriteString k l str = some (r1, r2)) :
    Calls Tryz.prog 46 #[.pointer A, .string str] w (fun e w' => ∃ (g : FM) (s' : Seg), e = .returned (Value.tuple #[Value.int .i64 r1, Value.nilIface]) ∧ FM.le f g ∧ St t w' g (s' :: H) ∧ OwnB 102 5 g A c s' r2 ∧ True) := by
  unfold strings_Builder_WriteString at h
  have hq_ := guard_some h; clear h; obtain ⟨h1, h⟩ := hq_
  injection h with h; injection h with h2_ h3_; subst h2_ h3_
  have hc := write_calls (P := Tryz.prog) (ρ := Tryz.lays105_ren) { Tryz.lays105 with } Tryz.Builder_Extra_105 HS HO str h1
  exact hc.mono fun e w' ⟨s', he, hs, ho⟩ => ⟨f, s', he, FM.le.refl _, hs, ho, trivial⟩

set_option maxRecDepth 100000 in
set_option maxHeartbeats 4000000 in
theorem frame_header_1.calls (k : Nat) (A2 : Option Addr) (c3 : Nat) (s4 : Seg) (vt1 : ByteArray) (x6 : List UInt8) {t w : World} {f : FM} {H : List Seg} (HS : St t w f (s4 :: H)) (HO5 : OwnB 102 5 f A2 c3 s4 x6) (rr1 : List UInt8) (h : frame_header_1 k vt1 x6 = some rr1) :
    Calls Tryz.prog 45 #[.string vt1, .pointer A2] w (fun e w' => ∃ (g : FM) (s25 : Seg), e = .returned (Value.tuple #[]) ∧ FM.le f g ∧ St t w' g (s25 :: H) ∧ OwnB 102 5 g A2 c3 s25 rr1 ∧ True) := by
 unfold frame_header_1 at h
 refine enter Tryz.func45 rfl (tm := #[.string vt1, .pointer A2, uV, uV, uV, uV, uV, uV, uV, uV]) kr ?_
 intro B hret hnor hnp
 refine rl ?_
 have hq_ := bind_some h; clear h; obtain ⟨vt8, hc9, h⟩ := hq_
 refine seqL4 kr ?_
 refine seqK rfl (does_call (f := 47) (args := #[.string ⟨#[32]⟩, .int .i64 (w64 (64 - (vt1.size : Int)))]) kr (strings_Repeat.calls k Z14 (w64 (64 - (vt1.size : Int))) HS vt8 hc9) ?_)
 rintro _ W12 ⟨f10, rfl, L11, HS13⟩
 refine ⟨_, rfl, ?_⟩
 have hq_ := guard_some h; clear h; obtain ⟨c14, h⟩ := hq_
 have c14 : vt1.size + vt8.size ≤ 9223372036854775807 := c14
 refine seqK rfl (does_run (run_concat rfl (kv (.string vt1)) (kv (.string vt8)) c14 W12) ?_)
 have hq_ := bind_some h; clear h; obtain ⟨⟨vt15, vt16⟩, hc17, h⟩ := hq_
 refine seqK rfl (does_call (f := 46) (args := #[.pointer A2, .string (vt1 ++ vt8)]) kr (strings_Builder_WriteString.calls k A2 c3 s4 x6 (vt1 ++ vt8) HS13 (HO5.mono L11) vt15 vt16 hc17) ?_)
 rintro _ W20 ⟨f18, s22, rfl, L19, HS21, HO23, HL24⟩
 refine ⟨_, rfl, ?_⟩
 refine nl ?_
 refine hnor _ _ ?_
 refine ends_still (v := Value.tuple #[]) kr kr ?_
 injection h with h
 subst h
 exact ⟨f18, s22, rfl, (L11.trans L19), HS21, HO23, trivial⟩

theorem strings_Builder_Len.calls (k : Nat) (A : Option Addr) (c : Nat) (s : Seg) (l : List UInt8) {t w : World} {f : FM} {H : List Seg} (HS : St t w f (s :: H)) (HO : OwnB 102 5 f A c s l) (r1 : Int) (r2 : List UInt8) (h : strings_Builder_Len k l = some (r1, r2)) :
    Calls Tryz.prog 49 #[.pointer A] w (fun e w' => ∃ (g : FM) (s' : Seg), e = .returned (Value.int .i64 r1) ∧ FM.le f g ∧ St t w' g (s' :: H) ∧ OwnB 102 5 g A c s' r2 ∧ True) := by
  unfold strings_Builder_Len at h
  injection h with h; injection h with h2_ h3_; subst h2_ h3_
  have hc := len_calls Tryz.lays170 HS HO
  exact hc.mono fun e w' ⟨he, hs⟩ => ⟨f, s, he, FM.le.refl _, hs, HO, trivial⟩

end Go.Sp.T6
