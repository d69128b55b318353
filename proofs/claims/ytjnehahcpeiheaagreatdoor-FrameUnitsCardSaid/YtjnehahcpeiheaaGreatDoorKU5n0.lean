import Derived.Test.YtjnehahcpeiheaaGreatDoorProg
import Derived.Test.YtjnehahcpeiheaaGreatDoorSpCopy
import Derived.Test.YtjnehahcpeiheaaGreatDoorFU5
import Derived.Test.YtjnehahcpeiheaaGreatDoorSpStr
import Derived.Test.YtjnehahcpeiheaaGreatDoorSpLib
import Derived.Test.YtjnehahcpeiheaaGreatDoorSpBld
import Derived.Test.YtjnehahcpeiheaaGreatDoorConv
import Derived.Test.YtjnehahcpeiheaaGreatDoorLibs
import Derived.Test.YtjnehahcpeiheaaGreatDoorSpNest
import Derived.Test.YtjnehahcpeiheaaGreatDoorSpWays
import Derived.Test.YtjnehahcpeiheaaGreatDoorSpRound
namespace Go.Sp.U5
open Go Go.Sp Go.Proofs
set_option linter.unusedVariables false
attribute [local irreducible] wpList AnyL Code.wp Calls Does Code.wpIn wpListIn CallsIn bodyPostM LeavesInM
def ty_Card : Ty S_Card where
  sz := 4
  rep := fun f cs x => cs = [.string x.Key, .string x.Value, .string x.Unit, .string x.Note]
  pos := by decide
  len := by rintro f cs x rfl; rfl
  mono := by rintro f g cs x hl rfl; exact rfl
  one := by
    rintro f cs x rfl v hv
    simp only [List.mem_cons, List.not_mem_nil, or_false] at hv
    rcases hv with rfl | rfl | rfl | rfl <;> rfl
def ty_Frame : Ty S_Frame where
  sz := 4
  rep := fun f cs x => ∃ (A2 : Option Addr) (c2 : Nat) (A3 : Option Addr) (c3 : Nat), cs = [.int .i64 x.W, .int .i64 x.H, .slice A2 x.Cards.length c2, .slice A3 x.Counts.length c3] ∧ SlR ty_Card f A2 c2 x.Cards ∧ SlR (tInt .i64) f A3 c3 x.Counts
  pos := by decide
  len := by rintro f cs x ⟨A2, c2, A3, c3, rfl, h2, h3⟩; rfl
  mono := by rintro f g cs x hl ⟨A2, c2, A3, c3, rfl, h2, h3⟩; exact ⟨A2, c2, A3, c3, rfl, h2.mono hl, h3.mono hl⟩
  one := by
    rintro f cs x ⟨A2, c2, A3, c3, rfl, h2, h3⟩ v hv
    simp only [List.mem_cons, List.not_mem_nil, or_false] at hv
    rcases hv with rfl | rfl | rfl | rfl <;> rfl
def ty_Wide : Ty S_Wide where
  sz := 2
  rep := fun f cs x => cs = [.int .i64 x.Hi, .int .u64 x.Lo]
  pos := by decide
  len := by rintro f cs x rfl; rfl
  mono := by rintro f g cs x hl rfl; exact rfl
  one := by
    rintro f cs x rfl v hv
    simp only [List.mem_cons, List.not_mem_nil, or_false] at hv
    rcases hv with rfl | rfl <;> rfl
abbrev ag_Frame (x : S_Frame) (A2 : Option Addr) (c2 : Nat) (A3 : Option Addr) (c3 : Nat) : Value := .agg #[.int .i64 x.W, .int .i64 x.H, .slice A2 x.Cards.length c2, .slice A3 x.Counts.length c3]
abbrev ag_Card (x : S_Card) : Value := .agg #[.string x.Key, .string x.Value, .string x.Unit, .string x.Note]
theorem inf5 : Inf Tryz.prog 5 1 1 (.int .u8 0) := .mk' kr rfl
theorem inf51 : Inf Tryz.prog 51 4 64 (.agg #[.string ⟨#[]⟩, .string ⟨#[]⟩, .string ⟨#[]⟩, .string ⟨#[]⟩]) := .mk' kr rfl
theorem inf3 : Inf Tryz.prog 3 1 8 (.int .i64 0) := .mk' kr rfl

set_option maxRecDepth 100000 in
set_option maxHeartbeats 4000000 in
theorem spymake_Below.calls (k : Nat)  (x1 : Int) (n2 : Int) {t w : World} {f : FM} {H : List Seg} (HS : St t w f (H)) (rr1 : Int) (h : spymake_Below k x1 n2 = some rr1) :
    Calls Tryz.prog 10 #[.int .i64 x1, .int .i64 n2] w (fun e w' => ∃ (g : FM), e = .returned (Value.int .i64 rr1) ∧ FM.le f g ∧ St t w' g (H)) := by
 unfold spymake_Below at h
 refine enter Tryz.func10 rfl (tm := #[iV x1, iV n2, uV, uV, uV, uV, uV, uV, uV, uV, uV, uV, uV, uV, uV, uV]) kr ?_
 intro B hret hnor hnp
 refine wp_seq_k fun K3 hK4 => rl ?_
 refine seqL1 kr ?_
 refine nl (hK4 _ _ ?_)
 refine wp_seq_k (fun K5 hK6 => ?_)
 refine wp_seq_k fun K7 hK8 => rl ?_
 refine seqL2 kr ?_
 refine nl (hK8 _ _ ?_)
 have hq_ := ite_some h; clear h; rcases hq_ with ⟨c10, h⟩ | ⟨c10, h⟩
 · have c10 : n2 < 1 := c10
   refine wpRwI 6 (x := (decide (n2 < 1))) (v := true) kr (decide_eq_true c10) ?_
   refine condT kr ?_
   refine wp_seq_k fun K11 hK12 => rl ?_
   refine seqL1 kr ?_
   refine nl (hK12 _ _ ?_)
   refine wp_ret ?_
   refine hret _ _ ?_
   refine ends_still (v := Value.int .i64 0) kr kr ?_
   injection h with h
   subst h
   exact ⟨f, rfl, FM.le.refl _, HS⟩
 · have c10 : ¬ (n2 < 1) := c10
   refine wpRwI 6 (x := (decide (n2 < 1))) (v := false) kr (decide_eq_false c10) ?_
   refine condF kr ?_
   refine wp_skip ?_
   refine hK6 _ _ ?_
   refine wp_seq_k fun K13 hK14 => rl ?_
   have hq_ := guard_some h; clear h; obtain ⟨c15, h⟩ := hq_
   have c15 : ¬ (n2 = 0) := c15
   refine seqL2 kr ?_
   refine seqK rfl (does_run (run_rem rfl (kv (.int .i64 x1)) (kv (.int .i64 n2)) c15 w) ?_)
   refine seqL1 kr ?_
   refine nl (hK14 _ _ ?_)
   refine wp_seq_k (fun K16 hK17 => ?_)
   refine wp_seq_k fun K18 hK19 => rl ?_
   refine seqL2 kr ?_
   refine nl (hK19 _ _ ?_)
   have hq_ := ite_some h; clear h; rcases hq_ with ⟨c21, h⟩ | ⟨c21, h⟩
   · have c21 : (Int.tmod x1 n2) < 0 := c21
     refine wpRwI 11 (x := (decide ((Int.tmod x1 n2) < 0))) (v := true) kr (decide_eq_true c21) ?_
     refine condT kr ?_
     refine rl ?_
     refine seqL4 kr ?_
     refine nl (hK17 _ _ ?_)
     refine wp_seq_k fun K22 hK23 => rl ?_
     refine seqL2 kr ?_
     refine nl (hK23 _ _ ?_)
     refine wp_ret ?_
     refine hret _ _ ?_
     refine ends_still (v := Value.int .i64 (w64 ((Int.tmod x1 n2) + n2))) kr kr ?_
     injection h with h
     subst h
     exact ⟨f, rfl, FM.le.refl _, HS⟩
   · have c21 : ¬ ((Int.tmod x1 n2) < 0) := c21
     refine wpRwI 11 (x := (decide ((Int.tmod x1 n2) < 0))) (v := false) kr (decide_eq_false c21) ?_
     refine condF kr ?_
     refine wp_skip ?_
     refine hK17 _ _ ?_
     refine wp_seq_k fun K24 hK25 => rl ?_
     refine seqL2 kr ?_
     refine nl (hK25 _ _ ?_)
     refine wp_ret ?_
     refine hret _ _ ?_
     refine ends_still (v := Value.int .i64 (Int.tmod x1 n2)) kr kr ?_
     injection h with h
     subst h
     exact ⟨f, rfl, FM.le.refl _, HS⟩

set_option maxRecDepth 100000 in
set_option maxHeartbeats 4000000 in
theorem spykeep3_decimal.r_calls (k : Nat) : ∀ (q_ : Nat)  (n1 : Int) {t w : World} {f : FM} {H : List Seg} (HS : St t w f (H)) (rr1 : List Int) (h : spykeep3_decimal.r k q_ n1 = some rr1),
    Calls Tryz.prog 18 #[.int .i64 n1] w (fun e w' => ∃ (g : FM) (A80 : Option Addr) (c81 : Nat) (s82 : Seg), e = .returned (Value.slice A80 rr1.length c81) ∧ FM.le f g ∧ St t w' g (s82 :: H) ∧ Own (tInt .u8) 5 g A80 c81 s82 rr1) := by
  intro q_
  induction q_ with
  | zero =>
    intro n1 t w f H HS  rr1 h
    simp only [spykeep3_decimal.r] at h
    exact nomatch h
  | succ q_ ih_ =>
    intro n1 t w f H HS  rr1 h
    simp only [spykeep3_decimal.r] at h
    refine enter Tryz.func18 rfl (tm := #[iV n1, uV, uV, uV, uV, uV, uV, uV, uV, uV, uV, uV, uV, uV, uV, uV, uV, uV, uV, uV, uV, uV, uV, uV, uV]) kr ?_
    intro B hret hnor hnp
    refine wp_seq_k fun K2 hK3 => rl ?_
    refine seqL1 kr ?_
    refine nl (hK3 _ _ ?_)
    refine wp_seq_k (fun K4 hK5 => ?_)
    refine wp_seq_k fun K6 hK7 => rl ?_
    refine seqL2 kr ?_
    refine nl (hK7 _ _ ?_)
    have hq_ := ite_some h; clear h; rcases hq_ with ⟨c9, h⟩ | ⟨c9, h⟩
    · have c9 : n1 < 0 := c9
      refine wpRwI 4 (x := (decide (n1 < 0))) (v := true) kr (decide_eq_true c9) ?_
      refine condT kr ?_
      refine wp_seq_k fun K10 hK11 => rl ?_
      refine seqK rfl (does_lit (e := (tInt .u8)) (E := 5) (vs := #[(0, Value.int .u8 45)]) (cs := #[.int .u8 45]) (xs := ([45] : List Int)) rfl Tryz.underlying23 kr kr ⟨[.int .u8 45], _, rfl, rfl, rfl⟩ rfl HS ?_ (by decide))
      intro b12 W13 s14 HS15 _ HO16
      have hq_ := bind_some h; clear h; obtain ⟨vt18, hc19, h⟩ := hq_
      refine seqL2 kr ?_
      refine seqK rfl (does_call (f := 18) (args := #[.int .i64 (w64 (0 - n1))]) kr (ih_ (w64 (0 - n1)) HS15 vt18 hc19) ?_)
      rintro _ W22 ⟨f20, A24, c25, s26, rfl, L21, HS23, HO27⟩
      refine ⟨_, rfl, ?_⟩
      have hq_ := guard_some h; clear h; obtain ⟨c29, h⟩ := hq_
      have c29 : (([45] : List Int).length + vt18.length) * 1 ≤ 140737488355328 := c29
      have HS30 := HS23.u1
      have HS31 := HS30.u1
      refine seqK rfl (does_append1 (e := (tInt .u8)) (E := 5) (xs := ([45] : List Int)) (ys := vt18) rfl (kv (.slice (some ⟨b12, 0, none⟩) ([45] : List Int).length 1)) (kv (.slice A24 vt18.length c25)) Tryz.underlying23 inf5 (HO16.mono L21) HO27 HS31 c29 (lim63 c29 (by decide)) ?_)
      intro A32 c33 s34 W35 HS36 HO37
      refine seqL1 kr ?_
      refine nl (hK11 _ _ ?_)
      refine wp_ret ?_
      refine hret _ _ ?_
      refine ends_still (v := Value.slice A32 (([45] : List Int) ++ vt18).length c33) kr kr ?_
      injection h with h
      subst h
      exact ⟨f20, A32, c33, s34, rfl, L21, HS36, HO37⟩
    · have c9 : ¬ (n1 < 0) := c9
      refine wpRwI 4 (x := (decide (n1 < 0))) (v := false) kr (decide_eq_false c9) ?_
      refine condF kr ?_
      refine wp_skip ?_
      refine hK5 _ _ ?_
      refine wp_seq_k (fun K38 hK39 => ?_)
      refine wp_seq_k fun K40 hK41 => rl ?_
      refine seqL2 kr ?_
      refine nl (hK41 _ _ ?_)
      have hq_ := ite_some h; clear h; rcases hq_ with ⟨c43, h⟩ | ⟨c43, h⟩
      · have c43 : n1 < 10 := c43
        refine wpRwI 11 (x := (decide (n1 < 10))) (v := true) kr (decide_eq_true c43) ?_
        refine condT kr ?_
        refine wp_seq_k fun K44 hK45 => rl ?_
        refine seqL3 kr ?_
        refine seqK rfl (does_lit (e := (tInt .u8)) (E := 5) (vs := #[(0, Value.int .u8 (u8 (w64 (48 + n1))))]) (cs := #[.int .u8 (u8 (w64 (48 + n1)))]) (xs := ([u8 (w64 (48 + n1))] : List Int)) rfl Tryz.underlying23 kr kr ⟨[.int .u8 (u8 (w64 (48 + n1)))], _, rfl, rfl, rfl⟩ rfl HS ?_ (by decide))
        intro b46 W47 s48 HS49 _ HO50
        refine seqL1 kr ?_
        refine nl (hK45 _ _ ?_)
        refine wp_ret ?_
        refine hret _ _ ?_
        refine ends_still (v := Value.slice (some ⟨b46, 0, none⟩) ([u8 (w64 (48 + n1))] : List Int).length 1) kr kr ?_
        injection h with h
        subst h
        exact ⟨f, (some ⟨b46, 0, none⟩), 1, s48, rfl, FM.le.refl _, HS49, HO50⟩
      · have c43 : ¬ (n1 < 10) := c43
        refine wpRwI 11 (x := (decide (n1 < 10))) (v := false) kr (decide_eq_false c43) ?_
        refine condF kr ?_
        refine wp_skip ?_
        refine hK39 _ _ ?_
        refine wp_seq_k fun K52 hK53 => rl ?_
        have hq_ := bind_some h; clear h; obtain ⟨vt54, hc55, h⟩ := hq_
        refine seqL2 kr ?_
        refine seqK rfl (does_call (f := 18) (args := #[.int .i64 (w64 (Int.tdiv n1 10))]) kr (ih_ (w64 (Int.tdiv n1 10)) HS vt54 hc55) ?_)
        rintro _ W58 ⟨f56, A60, c61, s62, rfl, L57, HS59, HO63⟩
        refine ⟨_, rfl, ?_⟩
        refine seqL4 kr ?_
        refine seqK rfl (does_lit (e := (tInt .u8)) (E := 5) (vs := #[(0, Value.int .u8 (u8 (w64 (48 + (Int.tmod n1 10)))))]) (cs := #[.int .u8 (u8 (w64 (48 + (Int.tmod n1 10))))]) (xs := ([u8 (w64 (48 + (Int.tmod n1 10)))] : List Int)) rfl Tryz.underlying23 kr kr ⟨[.int .u8 (u8 (w64 (48 + (Int.tmod n1 10))))], _, rfl, rfl, rfl⟩ rfl HS59 ?_ (by decide))
        intro b65 W66 s67 HS68 _ HO69
        have hq_ := guard_some h; clear h; obtain ⟨c71, h⟩ := hq_
        have c71 : (vt54.length + 1) * 1 ≤ 140737488355328 := c71
        have HS72 := HS68.u1
        have HS73 := HS72.u1
        refine seqK rfl (does_append1 (e := (tInt .u8)) (E := 5) (xs := vt54) (ys := ([u8 (w64 (48 + (Int.tmod n1 10)))] : List Int)) rfl (kv (.slice A60 vt54.length c61)) (kv (.slice (some ⟨b65, 0, none⟩) ([u8 (w64 (48 + (Int.tmod n1 10)))] : List Int).length 1)) Tryz.underlying23 inf5 HO63 HO69 HS73 c71 (lim63 c71 (by decide)) ?_)
        intro A74 c75 s76 W77 HS78 HO79
        refine seqL1 kr ?_
        refine nl (hK53 _ _ ?_)
        refine wp_ret ?_
        refine hret _ _ ?_
        refine ends_still (v := Value.slice A74 (vt54 ++ ([u8 (w64 (48 + (Int.tmod n1 10)))] : List Int)).length c75) kr kr ?_
        injection h with h
        subst h
        exact ⟨f56, A74, c75, s76, rfl, L57, HS78, HO79⟩
theorem spykeep3_decimal.calls (k : Nat)  (n1 : Int) {t w : World} {f : FM} {H : List Seg} (HS : St t w f (H)) (rr1 : List Int) (h : spykeep3_decimal k n1 = some rr1) :
    Calls Tryz.prog 18 #[.int .i64 n1] w (fun e w' => ∃ (g : FM) (A80 : Option Addr) (c81 : Nat) (s82 : Seg), e = .returned (Value.slice A80 rr1.length c81) ∧ FM.le f g ∧ St t w' g (s82 :: H) ∧ Own (tInt .u8) 5 g A80 c81 s82 rr1) := by
  exact spykeep3_decimal.r_calls k k n1 HS  rr1 h

set_option maxRecDepth 100000 in
set_option maxHeartbeats 4000000 in
theorem frame_Check_1.calls (k : Nat)  (n1 : Int) {t w : World} {f : FM} {H : List Seg} (HS : St t w f (H)) (rr1 : Bool) (h : frame_Check_1 k n1 = some rr1) :
    Calls Tryz.prog 42 #[.int .i64 n1] w (fun e w' => ∃ (g : FM), e = .returned (Value.bool rr1) ∧ FM.le f g ∧ St t w' g (H)) := by
 unfold frame_Check_1 at h
 refine enter Tryz.func42 rfl (tm := #[iV n1, uV, uV, uV, uV, uV, uV, uV, uV]) kr ?_
 intro B hret hnor hnp
 refine wp_seq_k fun K2 hK3 => rl ?_
 refine seqL1 kr ?_
 refine nl (hK3 _ _ ?_)
 refine wp_seq_k fun K4 hK5 => rl ?_
 refine seqL3 kr ?_
 have hq_ := ite_some h; clear h; rcases hq_ with ⟨c6, h⟩ | ⟨c6, h⟩
 · have c6 : n1 < 0 := c6
   refine seqRwI 4 (x := (decide (n1 < 0))) (v := true) kr (decide_eq_true c6) ?_
   refine seqRwI 5 (x := (decide (n1 < 0))) (v := true) kr (decide_eq_true c6) ?_
   refine seqL4 kr ?_
   refine nl (hK5 _ _ ?_)
   refine wp_ret ?_
   refine hret _ _ ?_
   refine ends_still (v := Value.bool true) kr kr ?_
   injection h with h
   subst h
   exact ⟨f, rfl, FM.le.refl _, HS⟩
 · have c6 : ¬ (n1 < 0) := c6
   refine seqRwI 4 (x := (decide (n1 < 0))) (v := false) kr (decide_eq_false c6) ?_
   refine seqRwI 5 (x := (decide (n1 < 0))) (v := false) kr (decide_eq_false c6) ?_
   refine seqL4 kr ?_
   refine nl (hK5 _ _ ?_)
   refine wp_ret ?_
   refine hret _ _ ?_
   refine ends_still (v := Value.bool (decide (n1 > 65535))) kr kr ?_
   injection h with h
   subst h
   exact ⟨f, rfl, FM.le.refl _, HS⟩

set_option maxRecDepth 100000 in
set_option maxHeartbeats 4000000 in
theorem slices_IndexFunc_int__frame_Check_1.calls (k : Nat) (A2 : Option Addr) (c3 : Nat) (s1 : List Int) {t w : World} {f : FM} {H : List Seg} (HS : St t w f (H)) (HR4 : SlR (tInt .i64) f A2 c3 s1) (rr1 : Int) (h : slices_IndexFunc_int__frame_Check_1 k s1 = some rr1) :
    Calls Tryz.prog 69 #[.slice A2 s1.length c3, .func (.func 42) #[] #[]] w (fun e w' => ∃ (g : FM), e = .returned (Value.int .i64 rr1) ∧ FM.le f g ∧ St t w' g (H)) := by
 unfold slices_IndexFunc_int__frame_Check_1 at h
 refine enter Tryz.func69 rfl (tm := #[.slice A2 s1.length c3, .func (.func 42) #[] #[], uV, uV, uV, uV, uV, uV, uV, uV, uV, uV, uV, uV, uV, uV, uV, uV, uV]) kr ?_
 intro B hret hnor hnp
 refine wp_seq_k fun K5 hK6 => rl ?_
 refine seqL1 kr ?_
 refine nl (hK6 _ _ ?_)
 refine wp_seq_k (fun K7 hK8 => ?_)
 refine wp_seq_k fun K9 hK10 => rl ?_
 refine seqL3 kr ?_
 refine nl (hK10 _ _ ?_)
 refine blockK (fun B11 hx12 hn13 hr14 ho15 hp16 => ?_)
 have hq_ := bind_some h; clear h; obtain ⟨o17, hv68, h⟩ := hq_
 have JR70 : ∀ z_, some (Sum.inl z_) = some o17 → some z_ = some rr1 := by
  intro z_ e_; injection e_ with e_; subst e_; exact h
 have J69 : ∀ (f63 : FM) (j67 : Nat → Value) (W65 : World) (a_ : Act), FM.le f f63 → some (Sum.inr ()) = some o17 → St t W65 f63 (H) → a_ = ⟨#[.slice A2 s1.length c3, .func (.func 42) #[] #[], uV, uV, (j67 0), (j67 1), .slice A2 s1.length c3, iV (s1.length : Int), (j67 2), (j67 3), (j67 4), (j67 5), (j67 6), (j67 7), (j67 8), (j67 9), (j67 10), (j67 11), (j67 12)], []⟩ → K7 a_ W65 := by
  intro f63 j67 W65 a_ L64 hj71 HS66  hfr_; subst hfr_
  injection hj71 with hj71; subst hj71; try dsimp only at h
  simp only [Sum.elim_inr] at h
  refine hK8 _ _ ?_
  refine wp_seq_k fun K72 hK73 => rl ?_
  refine seqL1 kr ?_
  refine nl (hK73 _ _ ?_)
  refine wp_ret ?_
  refine hret _ _ ?_
  refine ends_still (v := Value.int .i64 (-1)) kr kr ?_
  injection h with h
  subst h
  exact ⟨f63, rfl, L64, HS66⟩
 clear h; have h := hv68; clear hv68
 refine loopK (fun n_ a_ w_ => ∃ (f21 : FM) (x26 : Int) (j25 : Nat → Value), FM.le f f21 ∧ St t w_ f21 (H) ∧ slices_IndexFunc_int__frame_Check_1.l0 k s1 n_ x26 = some o17 ∧ a_ = ⟨#[.slice A2 s1.length c3, .func (.func 42) #[] #[], uV, uV, (j25 0), (j25 1), .slice A2 s1.length c3, iV (s1.length : Int), iV x26, (j25 2), (j25 3), (j25 4), (j25 5), (j25 6), (j25 7), (j25 8), (j25 9), (j25 10), (j25 11)], []⟩) k ⟨f, 0, (fun i_ => [Value.int .i64 0, undef, undef, undef, undef, undef, undef, undef, undef, undef, undef, undef].getD i_ undef), (FM.le.refl _), HS, h, kr⟩ ?_
 clear h
 rintro n20 _ W23 ⟨f21, x26, j25, L22, HS24, h, rfl⟩ K18 hK19
 obtain _ | n20 := n20
 · exact nomatch h
 simp only [slices_IndexFunc_int__frame_Check_1.l0] at h
 refine wp_seq_k fun K27 hK28 => rl ?_
 refine seqL1 kr ?_
 refine nl (hK28 _ _ ?_)
 refine wp_seq_k (fun K29 hK30 => ?_)
 have hq_ := ite_some h; clear h; rcases hq_ with ⟨c32, h⟩ | ⟨c32, h⟩
 · have c32 : x26 < (s1.length : Int) := c32
   refine wpRwI 9 (x := (decide (x26 < (s1.length : Int)))) (v := true) kr (decide_eq_true c32) ?_
   refine condT kr ?_
   refine wp_skip ?_
   refine hK30 _ _ ?_
   refine wp_seq_k (fun K33 hK34 => ?_)
   refine blockK (fun B35 hx36 hn37 hr38 ho39 hp40 => ?_)
   refine wp_seq_k fun K42 hK43 => rl ?_
   refine seqL2 kr ?_
   refine nl (hK43 _ _ ?_)
   refine wp_seq_k fun K44 hK45 => rl ?_
   have hq_ := guard_some h; clear h; obtain ⟨c46, h⟩ := hq_
   have c46 : 0 ≤ x26 := c46
   obtain ⟨b50, of51, cs47, hA52, hr48, hc49⟩ := (HR4.mono L22).at (i := x26) c46 c32
   obtain rfl := hr48
   refine seqL3 kr ?_
   refine seqK rfl (does_run (run_indexE hA52 (sz := 1) rfl Tryz.underlying22 kr (kv (.slice A2 s1.length c3)) (kv (.int .i64 x26)) c46 c32 W23) ?_)
   refine seqK rfl (does_run (run_load rfl Tryz.underlying3 rfl (kv (.pointer (some ⟨b50, of51 + (x26 : Int).toNat * 1, none⟩))) ((hc49 (FM.le.refl _) HS24) 0 (by decide))) ?_)
   have hq_ := bind_some h; clear h; obtain ⟨vt53, hc54, h⟩ := hq_
   refine seqK rfl (does_call (f := 42) (args := #[.int .i64 (rd s1 x26)]) kr (frame_Check_1.calls k (rd s1 x26) HS24 vt53 hc54) ?_)
   rintro _ W57 ⟨f55, rfl, L56, HS58⟩
   refine ⟨_, rfl, ?_⟩
   refine nl (hK45 _ _ ?_)
   have hq_ := ite_some h; clear h; rcases hq_ with ⟨c60, h⟩ | ⟨c60, h⟩
   · have c60 : vt53 = true := c60
     refine wpRwI 16 (x := vt53) (v := true) kr c60 ?_
     refine condT kr ?_
     refine wp_seq_k fun K61 hK62 => rl ?_
     refine seqL2 kr ?_
     refine nl (hK62 _ _ ?_)
     refine wp_ret ?_
     refine hr38 _ _ ?_
     refine hr14 _ _ ?_
     refine hret _ _ ?_
     refine ends_still (v := Value.int .i64 x26) kr kr ?_
     replace h := JR70 _ h
     injection h with h
     subst h
     exact ⟨f55, rfl, (L22.trans L56), HS58⟩
   · have c60 : ¬ (vt53 = true) := c60
     refine wpRwI 16 (x := vt53) (v := false) kr (Bool.eq_false_iff.mpr c60) ?_
     refine condF kr ?_
     refine wp_skip ?_
     refine hn37 _ _ ?_
     refine hK34 _ _ ?_
     refine rl ?_
     refine seqL2 kr ?_
     refine nl ?_
     refine hK19 n20 _ _ (Nat.lt_succ_self _) ?_
     exact ⟨f55, (w64 (x26 + 1)), (fun i_ => [(j25 0), Value.int .i64 x26, Value.bool true, Value.int .i64 x26, Value.func (.func 42) #[] #[], Value.slice A2 s1.length c3, Value.int .i64 x26, Value.pointer (some ⟨b50, of51 + (x26 : Int).toNat * 1, none⟩), Value.int .i64 (rd s1 x26), Value.bool false, (j25 10), Value.int .i64 (w64 (x26 + 1))].getD i_ undef), (L22.trans L56), HS58, h, kr⟩
 · have c32 : ¬ (x26 < (s1.length : Int)) := c32
   refine wpRwI 9 (x := (decide (x26 < (s1.length : Int)))) (v := false) kr (decide_eq_false c32) ?_
   refine condF kr ?_
   refine wp_exit ?_
   refine hx12 _ _ ?_
   exact J69 f21 (fun i_ => [(j25 0), (j25 1), Value.int .i64 x26, Value.bool false, (j25 3), (j25 4), (j25 5), (j25 6), (j25 7), (j25 8), (j25 9), (j25 10), (j25 11)].getD i_ undef) W23 _ L22 h HS24 kr

set_option maxRecDepth 100000 in
set_option maxHeartbeats 4000000 in
theorem slices_ContainsFunc_int__frame_Check_1.calls (k : Nat) (A2 : Option Addr) (c3 : Nat) (s1 : List Int) {t w : World} {f : FM} {H : List Seg} (HS : St t w f (H)) (HR4 : SlR (tInt .i64) f A2 c3 s1) (rr1 : Bool) (h : slices_ContainsFunc_int__frame_Check_1 k s1 = some rr1) :
    Calls Tryz.prog 41 #[.slice A2 s1.length c3, .func (.func 42) #[] #[]] w (fun e w' => ∃ (g : FM), e = .returned (Value.bool rr1) ∧ FM.le f g ∧ St t w' g (H)) := by
 unfold slices_ContainsFunc_int__frame_Check_1 at h
 refine enter Tryz.func41 rfl (tm := #[.slice A2 s1.length c3, .func (.func 42) #[] #[], uV, uV, uV, uV, uV, uV, uV]) kr ?_
 intro B hret hnor hnp
 refine wp_seq_k fun K5 hK6 => rl ?_
 refine seqL1 kr ?_
 refine nl (hK6 _ _ ?_)
 refine wp_seq_k fun K7 hK8 => rl ?_
 have hq_ := bind_some h; clear h; obtain ⟨vt9, hc10, h⟩ := hq_
 refine seqL2 kr ?_
 refine seqK rfl (does_call (f := 69) (args := #[.slice A2 s1.length c3, .func (.func 42) #[] #[]]) kr (slices_IndexFunc_int__frame_Check_1.calls k A2 c3 s1 HS HR4 vt9 hc10) ?_)
 rintro _ W13 ⟨f11, rfl, L12, HS14⟩
 refine ⟨_, rfl, ?_⟩
 refine seqL2 kr ?_
 refine nl (hK8 _ _ ?_)
 refine wp_ret ?_
 refine hret _ _ ?_
 refine ends_still (v := Value.bool (decide (vt9 ≥ 0))) kr kr ?_
 injection h with h
 subst h
 exact ⟨f11, rfl, L12, HS14⟩

set_option maxRecDepth 100000 in
set_option maxHeartbeats 4000000 in
theorem frame_upper.calls (k : Nat)  (c1 : Int) {t w : World} {f : FM} {H : List Seg} (HS : St t w f (H)) (rr1 : Bool) (h : frame_upper k c1 = some rr1) :
    Calls Tryz.prog 70 #[.int .u8 c1] w (fun e w' => ∃ (g : FM), e = .returned (Value.bool rr1) ∧ FM.le f g ∧ St t w' g (H)) := by
 unfold frame_upper at h
 refine enter Tryz.func70 rfl (tm := #[.int .u8 c1, uV, uV, uV, uV, uV, uV, uV, uV]) kr ?_
 intro B hret hnor hnp
 refine wp_seq_k fun K2 hK3 => rl ?_
 refine seqL1 kr ?_
 refine nl (hK3 _ _ ?_)
 refine wp_seq_k fun K4 hK5 => rl ?_
 refine seqL3 kr ?_
 have hq_ := ite_some h; clear h; rcases hq_ with ⟨c6, h⟩ | ⟨c6, h⟩
 · have c6 : c1 ≥ 65 := c6
   refine seqRwI 4 (x := (decide (c1 ≥ 65))) (v := true) kr (decide_eq_true c6) ?_
   refine seqRwI 5 (x := (decide (c1 ≥ 65))) (v := true) kr (decide_eq_true c6) ?_
   refine seqL4 kr ?_
   refine nl (hK5 _ _ ?_)
   refine wp_ret ?_
   refine hret _ _ ?_
   refine ends_still (v := Value.bool (decide (c1 ≤ 90))) kr kr ?_
   injection h with h
   subst h
   exact ⟨f, rfl, FM.le.refl _, HS⟩
 · have c6 : ¬ (c1 ≥ 65) := c6
   refine seqRwI 4 (x := (decide (c1 ≥ 65))) (v := false) kr (decide_eq_false c6) ?_
   refine seqRwI 5 (x := (decide (c1 ≥ 65))) (v := false) kr (decide_eq_false c6) ?_
   refine seqL4 kr ?_
   refine nl (hK5 _ _ ?_)
   refine wp_ret ?_
   refine hret _ _ ?_
   refine ends_still (v := Value.bool false) kr kr ?_
   injection h with h
   subst h
   exact ⟨f, rfl, FM.le.refl _, HS⟩

set_option maxRecDepth 100000 in
set_option maxHeartbeats 4000000 in
theorem frame_digit.calls (k : Nat)  (c1 : Int) {t w : World} {f : FM} {H : List Seg} (HS : St t w f (H)) (rr1 : Bool) (h : frame_digit k c1 = some rr1) :
    Calls Tryz.prog 103 #[.int .u8 c1] w (fun e w' => ∃ (g : FM), e = .returned (Value.bool rr1) ∧ FM.le f g ∧ St t w' g (H)) := by
 unfold frame_digit at h
 refine enter Tryz.func103 rfl (tm := #[.int .u8 c1, uV, uV, uV, uV, uV, uV, uV, uV]) kr ?_
 intro B hret hnor hnp
 refine wp_seq_k fun K2 hK3 => rl ?_
 refine seqL1 kr ?_
 refine nl (hK3 _ _ ?_)
 refine wp_seq_k fun K4 hK5 => rl ?_
 refine seqL3 kr ?_
 have hq_ := ite_some h; clear h; rcases hq_ with ⟨c6, h⟩ | ⟨c6, h⟩
 · have c6 : c1 ≥ 48 := c6
   refine seqRwI 4 (x := (decide (c1 ≥ 48))) (v := true) kr (decide_eq_true c6) ?_
   refine seqRwI 5 (x := (decide (c1 ≥ 48))) (v := true) kr (decide_eq_true c6) ?_
   refine seqL4 kr ?_
   refine nl (hK5 _ _ ?_)
   refine wp_ret ?_
   refine hret _ _ ?_
   refine ends_still (v := Value.bool (decide (c1 ≤ 57))) kr kr ?_
   injection h with h
   subst h
   exact ⟨f, rfl, FM.le.refl _, HS⟩
 · have c6 : ¬ (c1 ≥ 48) := c6
   refine seqRwI 4 (x := (decide (c1 ≥ 48))) (v := false) kr (decide_eq_false c6) ?_
   refine seqRwI 5 (x := (decide (c1 ≥ 48))) (v := false) kr (decide_eq_false c6) ?_
   refine seqL4 kr ?_
   refine nl (hK5 _ _ ?_)
   refine wp_ret ?_
   refine hret _ _ ?_
   refine ends_still (v := Value.bool false) kr kr ?_
   injection h with h
   subst h
   exact ⟨f, rfl, FM.le.refl _, HS⟩

set_option maxRecDepth 100000 in
set_option maxHeartbeats 4000000 in
theorem frame_inKey.calls (k : Nat)  (c1 : Int) {t w : World} {f : FM} {H : List Seg} (HS : St t w f (H)) (rr1 : Bool) (h : frame_inKey k c1 = some rr1) :
    Calls Tryz.prog 72 #[.int .u8 c1] w (fun e w' => ∃ (g : FM), e = .returned (Value.bool rr1) ∧ FM.le f g ∧ St t w' g (H)) := by
 unfold frame_inKey at h
 refine enter Tryz.func72 rfl (tm := #[.int .u8 c1, uV, uV, uV, uV, uV, uV, uV, uV, uV, uV, uV, uV]) kr ?_
 intro B hret hnor hnp
 refine wp_seq_k fun K2 hK3 => rl ?_
 refine seqL1 kr ?_
 refine nl (hK3 _ _ ?_)
 refine wp_seq_k fun K4 hK5 => rl ?_
 have hq_ := bind_some h; clear h; obtain ⟨vt6, hc7, h⟩ := hq_
 refine seqL1 kr ?_
 refine seqK rfl (does_call (f := 70) (args := #[.int .u8 c1]) kr (frame_upper.calls k c1 HS vt6 hc7) ?_)
 rintro _ W10 ⟨f8, rfl, L9, HS11⟩
 refine ⟨_, rfl, ?_⟩
 refine seqL1 kr ?_
 have hq_ := ite_some h; clear h; rcases hq_ with ⟨c12, h⟩ | ⟨c12, h⟩
 · have c12 : vt6 = true := c12
   refine seqRwI 4 (x := vt6) (v := true) kr c12 ?_
   refine seqRwI 5 (x := vt6) (v := true) kr c12 ?_
   refine seqL8 kr ?_
   refine nl (hK5 _ _ ?_)
   refine wp_ret ?_
   refine hret _ _ ?_
   refine ends_still (v := Value.bool true) kr kr ?_
   injection h with h
   subst h
   exact ⟨f8, rfl, L9, HS11⟩
 · have c12 : ¬ (vt6 = true) := c12
   refine seqRwI 4 (x := vt6) (v := false) kr (Bool.eq_false_iff.mpr c12) ?_
   refine seqRwI 5 (x := vt6) (v := false) kr (Bool.eq_false_iff.mpr c12) ?_
   have hq_ := bind_some h; clear h; obtain ⟨vt13, hc14, h⟩ := hq_
   refine seqL1 kr ?_
   refine seqG kr (does_call (f := 103) (args := #[.int .u8 c1]) kr (frame_digit.calls k c1 HS11 vt13 hc14) ?_)
   rintro _ W17 ⟨f15, rfl, L16, HS18⟩
   refine ⟨_, rfl, ?_⟩
   refine seqL2 kr ?_
   have hq_ := ite_some h; clear h; rcases hq_ with ⟨c19, h⟩ | ⟨c19, h⟩
   · have c19 : vt13 = true := c19
     refine seqRwI 7 (x := vt13) (v := true) kr c19 ?_
     refine seqRwI 8 (x := vt13) (v := true) kr c19 ?_
     refine seqRwI 9 (x := vt13) (v := true) kr c19 ?_
     refine seqL4 kr ?_
     refine nl (hK5 _ _ ?_)
     refine wp_ret ?_
     refine hret _ _ ?_
     refine ends_still (v := Value.bool true) kr kr ?_
     injection h with h
     subst h
     exact ⟨f15, rfl, (L9.trans L16), HS18⟩
   · have c19 : ¬ (vt13 = true) := c19
     refine seqRwI 7 (x := vt13) (v := false) kr (Bool.eq_false_iff.mpr c19) ?_
     refine seqRwI 8 (x := vt13) (v := false) kr (Bool.eq_false_iff.mpr c19) ?_
     refine seqRwI 9 (x := vt13) (v := false) kr (Bool.eq_false_iff.mpr c19) ?_
     refine seqL4 kr ?_
     refine nl (hK5 _ _ ?_)
     refine wp_ret ?_
     refine hret _ _ ?_
     refine ends_still (v := Value.bool (c1 == 45)) kr kr ?_
     injection h with h
     subst h
     exact ⟨f15, rfl, (L9.trans L16), HS18⟩

set_option maxRecDepth 100000 in
set_option maxHeartbeats 4000000 in
theorem frame_all__frame_inKey.calls (k : Nat)  (s1 : ByteArray) {t w : World} {f : FM} {H : List Seg} (HS : St t w f (H)) (rr1 : Bool) (h : frame_all__frame_inKey k s1 = some rr1) :
    Calls Tryz.prog 71 #[.string s1, .func (.func 72) #[] #[]] w (fun e w' => ∃ (g : FM), e = .returned (Value.bool rr1) ∧ FM.le f g ∧ St t w' g (H)) := by
 unfold frame_all__frame_inKey at h
 refine enter Tryz.func71 rfl (tm := #[.string s1, .func (.func 72) #[] #[], uV, uV, uV, uV, uV, uV, uV, uV, uV, uV, uV, uV, uV, uV, uV, uV]) kr ?_
 intro B hret hnor hnp
 refine wp_seq_k fun K2 hK3 => rl ?_
 refine seqL1 kr ?_
 refine nl (hK3 _ _ ?_)
 refine wp_seq_k (fun K4 hK5 => ?_)
 refine wp_seq_k fun K6 hK7 => rl ?_
 refine seqL3 kr ?_
 refine nl (hK7 _ _ ?_)
 refine blockK (fun B8 hx9 hn10 hr11 ho12 hp13 => ?_)
 have hq_ := bind_some h; clear h; obtain ⟨o14, hv59, h⟩ := hq_
 have JR61 : ∀ z_, some (Sum.inl z_) = some o14 → some z_ = some rr1 := by
  intro z_ e_; injection e_ with e_; subst e_; exact h
 have J60 : ∀ (f54 : FM) (j58 : Nat → Value) (W56 : World) (a_ : Act), FM.le f f54 → some (Sum.inr ()) = some o14 → St t W56 f54 (H) → a_ = ⟨#[.string s1, .func (.func 72) #[] #[], uV, uV, (j58 0), (j58 1), .string s1, iV (s1.size : Int), (j58 2), (j58 3), (j58 4), (j58 5), (j58 6), (j58 7), (j58 8), (j58 9), (j58 10), (j58 11)], []⟩ → K4 a_ W56 := by
  intro f54 j58 W56 a_ L55 hj62 HS57  hfr_; subst hfr_
  injection hj62 with hj62; subst hj62; try dsimp only at h
  simp only [Sum.elim_inr] at h
  refine hK5 _ _ ?_
  refine wp_seq_k fun K63 hK64 => rl ?_
  refine seqL1 kr ?_
  refine nl (hK64 _ _ ?_)
  refine wp_ret ?_
  refine hret _ _ ?_
  refine ends_still (v := Value.bool true) kr kr ?_
  injection h with h
  subst h
  exact ⟨f54, rfl, L55, HS57⟩
 clear h; have h := hv59; clear hv59
 refine loopK (fun n_ a_ w_ => ∃ (f18 : FM) (x23 : Int) (j22 : Nat → Value), FM.le f f18 ∧ St t w_ f18 (H) ∧ frame_all__frame_inKey.l0 k s1 n_ x23 = some o14 ∧ a_ = ⟨#[.string s1, .func (.func 72) #[] #[], uV, uV, (j22 0), (j22 1), .string s1, iV (s1.size : Int), iV x23, (j22 2), (j22 3), (j22 4), (j22 5), (j22 6), (j22 7), (j22 8), (j22 9), (j22 10)], []⟩) k ⟨f, 0, (fun i_ => [Value.bool false, undef, undef, undef, undef, undef, undef, undef, undef, undef, undef].getD i_ undef), (FM.le.refl _), HS, h, kr⟩ ?_
 clear h
 rintro n17 _ W20 ⟨f18, x23, j22, L19, HS21, h, rfl⟩ K15 hK16
 obtain _ | n17 := n17
 · exact nomatch h
 simp only [frame_all__frame_inKey.l0] at h
 refine wp_seq_k fun K24 hK25 => rl ?_
 refine seqL1 kr ?_
 refine nl (hK25 _ _ ?_)
 refine wp_seq_k (fun K26 hK27 => ?_)
 have hq_ := ite_some h; clear h; rcases hq_ with ⟨c29, h⟩ | ⟨c29, h⟩
 · have c29 : x23 < (s1.size : Int) := c29
   refine wpRwI 9 (x := (decide (x23 < (s1.size : Int)))) (v := true) kr (decide_eq_true c29) ?_
   refine condT kr ?_
   refine wp_skip ?_
   refine hK27 _ _ ?_
   refine wp_seq_k (fun K30 hK31 => ?_)
   refine blockK (fun B32 hx33 hn34 hr35 ho36 hp37 => ?_)
   refine wp_seq_k fun K39 hK40 => rl ?_
   refine seqL2 kr ?_
   refine nl (hK40 _ _ ?_)
   refine wp_seq_k fun K41 hK42 => rl ?_
   have hq_ := guard_some h; clear h; obtain ⟨c43, h⟩ := hq_
   have c43 : 0 ≤ x23 := c43
   refine seqL3 kr ?_
   refine seqK rfl (does_run (run_byte rfl Tryz.underlying9 (kv (.string s1)) (kv (.int .i64 x23)) c43 c29 W20) ?_)
   have hq_ := bind_some h; clear h; obtain ⟨vt44, hc45, h⟩ := hq_
   refine seqK rfl (does_call (f := 72) (args := #[.int .u8 (bt s1 x23)]) kr (frame_inKey.calls k (bt s1 x23) HS21 vt44 hc45) ?_)
   rintro _ W48 ⟨f46, rfl, L47, HS49⟩
   refine ⟨_, rfl, ?_⟩
   refine seqL1 kr ?_
   refine nl (hK42 _ _ ?_)
   have hq_ := ite_some h; clear h; rcases hq_ with ⟨c51, h⟩ | ⟨c51, h⟩
   · have c51 : ¬ (vt44 = true) := c51
     refine wpRwI 16 (x := (!vt44)) (v := true) kr (congrArg (fun b_ => !b_) (show vt44 = false from (Bool.eq_false_iff.mpr c51)) : (!vt44) = true) ?_
     refine condT kr ?_
     refine wp_seq_k fun K52 hK53 => rl ?_
     refine seqL1 kr ?_
     refine nl (hK53 _ _ ?_)
     refine wp_ret ?_
     refine hr35 _ _ ?_
     refine hr11 _ _ ?_
     refine hret _ _ ?_
     refine ends_still (v := Value.bool false) kr kr ?_
     replace h := JR61 _ h
     injection h with h
     subst h
     exact ⟨f46, rfl, (L19.trans L47), HS49⟩
   · have c51 : ¬ (¬ (vt44 = true)) := c51
     refine wpRwI 16 (x := (!vt44)) (v := false) kr (congrArg (fun b_ => !b_) (show vt44 = true from (Decidable.of_not_not c51)) : (!vt44) = false) ?_
     refine condF kr ?_
     refine wp_skip ?_
     refine hn34 _ _ ?_
     refine hK31 _ _ ?_
     refine rl ?_
     refine seqL2 kr ?_
     refine nl ?_
     refine hK16 n17 _ _ (Nat.lt_succ_self _) ?_
     exact ⟨f46, (w64 (x23 + 1)), (fun i_ => [(j22 0), Value.int .i64 x23, Value.bool true, Value.int .i64 x23, Value.func (.func 72) #[] #[], Value.string s1, Value.int .i64 x23, Value.int .u8 (bt s1 x23), Value.bool vt44, Value.bool false, Value.int .i64 (w64 (x23 + 1))].getD i_ undef), (L19.trans L47), HS49, h, kr⟩
 · have c29 : ¬ (x23 < (s1.size : Int)) := c29
   refine wpRwI 9 (x := (decide (x23 < (s1.size : Int)))) (v := false) kr (decide_eq_false c29) ?_
   refine condF kr ?_
   refine wp_exit ?_
   refine hx9 _ _ ?_
   exact J60 f18 (fun i_ => [(j22 0), (j22 1), Value.int .i64 x23, Value.bool false, (j22 3), (j22 4), (j22 5), (j22 6), (j22 7), (j22 8), (j22 9), (j22 10)].getD i_ undef) W20 _ L19 h HS21 kr

set_option maxRecDepth 100000 in
set_option maxHeartbeats 4000000 in
theorem frame_own.calls (k : Nat)  (key1 : ByteArray) {t w : World} {f : FM} {H : List Seg} (HS : St t w f (H)) (rr1 : Bool) (h : frame_own k key1 = some rr1) :
    Calls Tryz.prog 73 #[.string key1] w (fun e w' => ∃ (g : FM), e = .returned (Value.bool rr1) ∧ FM.le f g ∧ St t w' g (H)) := by
 unfold frame_own at h
 refine enter Tryz.func73 rfl (tm := #[.string key1, uV, uV, uV, uV, uV, uV, uV, uV, uV, uV, uV, uV, uV, uV, uV, uV]) kr ?_
 intro B hret hnor hnp
 refine wp_seq_k fun K2 hK3 => rl ?_
 refine seqL1 kr ?_
 refine nl (hK3 _ _ ?_)
 refine wp_seq_k fun K4 hK5 => rl ?_
 refine seqL3 kr ?_
 have hq_ := ite_some h; clear h; rcases hq_ with ⟨c6, h⟩ | ⟨c6, h⟩
 · have c6 : (key1.toList == (⟨#[87, 73, 68, 84, 72]⟩ : ByteArray).toList) = true := c6
   refine seqRwI 4 (x := (key1.toList == (⟨#[87, 73, 68, 84, 72]⟩ : ByteArray).toList)) (v := true) kr c6 ?_
   refine seqRwI 5 (x := (key1.toList == (⟨#[87, 73, 68, 84, 72]⟩ : ByteArray).toList)) (v := true) kr c6 ?_
   refine seqL12 kr ?_
   refine nl (hK5 _ _ ?_)
   refine wp_ret ?_
   refine hret _ _ ?_
   refine ends_still (v := Value.bool true) kr kr ?_
   injection h with h
   subst h
   exact ⟨f, rfl, FM.le.refl _, HS⟩
 · have c6 : ¬ ((key1.toList == (⟨#[87, 73, 68, 84, 72]⟩ : ByteArray).toList) = true) := c6
   refine seqRwI 4 (x := (key1.toList == (⟨#[87, 73, 68, 84, 72]⟩ : ByteArray).toList)) (v := false) kr (Bool.eq_false_iff.mpr c6) ?_
   refine seqRwI 5 (x := (key1.toList == (⟨#[87, 73, 68, 84, 72]⟩ : ByteArray).toList)) (v := false) kr (Bool.eq_false_iff.mpr c6) ?_
   refine seqL4 kr ?_
   have hq_ := ite_some h; clear h; rcases hq_ with ⟨c7, h⟩ | ⟨c7, h⟩
   · have c7 : (key1.toList == (⟨#[72, 69, 73, 71, 72, 84]⟩ : ByteArray).toList) = true := c7
     refine seqRwI 7 (x := (key1.toList == (⟨#[72, 69, 73, 71, 72, 84]⟩ : ByteArray).toList)) (v := true) kr c7 ?_
     refine seqRwI 8 (x := (key1.toList == (⟨#[72, 69, 73, 71, 72, 84]⟩ : ByteArray).toList)) (v := true) kr c7 ?_
     refine seqRwI 9 (x := (key1.toList == (⟨#[72, 69, 73, 71, 72, 84]⟩ : ByteArray).toList)) (v := true) kr c7 ?_
     refine seqL8 kr ?_
     refine nl (hK5 _ _ ?_)
     refine wp_ret ?_
     refine hret _ _ ?_
     refine ends_still (v := Value.bool true) kr kr ?_
     injection h with h
     subst h
     exact ⟨f, rfl, FM.le.refl _, HS⟩
   · have c7 : ¬ ((key1.toList == (⟨#[72, 69, 73, 71, 72, 84]⟩ : ByteArray).toList) = true) := c7
     refine seqRwI 7 (x := (key1.toList == (⟨#[72, 69, 73, 71, 72, 84]⟩ : ByteArray).toList)) (v := false) kr (Bool.eq_false_iff.mpr c7) ?_
     refine seqRwI 8 (x := (key1.toList == (⟨#[72, 69, 73, 71, 72, 84]⟩ : ByteArray).toList)) (v := false) kr (Bool.eq_false_iff.mpr c7) ?_
     refine seqRwI 9 (x := (key1.toList == (⟨#[72, 69, 73, 71, 72, 84]⟩ : ByteArray).toList)) (v := false) kr (Bool.eq_false_iff.mpr c7) ?_
     refine seqL4 kr ?_
     have hq_ := ite_some h; clear h; rcases hq_ with ⟨c8, h⟩ | ⟨c8, h⟩
     · have c8 : (key1.toList == (⟨#[66, 89, 84, 69, 83]⟩ : ByteArray).toList) = true := c8
       refine seqRwI 11 (x := (key1.toList == (⟨#[66, 89, 84, 69, 83]⟩ : ByteArray).toList)) (v := true) kr c8 ?_
       refine seqRwI 12 (x := (key1.toList == (⟨#[66, 89, 84, 69, 83]⟩ : ByteArray).toList)) (v := true) kr c8 ?_
       refine seqRwI 13 (x := (key1.toList == (⟨#[66, 89, 84, 69, 83]⟩ : ByteArray).toList)) (v := true) kr c8 ?_
       refine seqL4 kr ?_
       refine nl (hK5 _ _ ?_)
       refine wp_ret ?_
       refine hret _ _ ?_
       refine ends_still (v := Value.bool true) kr kr ?_
       injection h with h
       subst h
       exact ⟨f, rfl, FM.le.refl _, HS⟩
     · have c8 : ¬ ((key1.toList == (⟨#[66, 89, 84, 69, 83]⟩ : ByteArray).toList) = true) := c8
       refine seqRwI 11 (x := (key1.toList == (⟨#[66, 89, 84, 69, 83]⟩ : ByteArray).toList)) (v := false) kr (Bool.eq_false_iff.mpr c8) ?_
       refine seqRwI 12 (x := (key1.toList == (⟨#[66, 89, 84, 69, 83]⟩ : ByteArray).toList)) (v := false) kr (Bool.eq_false_iff.mpr c8) ?_
       refine seqRwI 13 (x := (key1.toList == (⟨#[66, 89, 84, 69, 83]⟩ : ByteArray).toList)) (v := false) kr (Bool.eq_false_iff.mpr c8) ?_
       refine seqL4 kr ?_
       refine nl (hK5 _ _ ?_)
       refine wp_ret ?_
       refine hret _ _ ?_
       refine ends_still (v := Value.bool (key1.toList == (⟨#[69, 78, 68]⟩ : ByteArray).toList)) kr kr ?_
       injection h with h
       subst h
       exact ⟨f, rfl, FM.le.refl _, HS⟩

set_option maxRecDepth 100000 in
set_option maxHeartbeats 4000000 in
theorem frame_inked.calls (k : Nat)  (c1 : Int) {t w : World} {f : FM} {H : List Seg} (HS : St t w f (H)) (rr1 : Bool) (h : frame_inked k c1 = some rr1) :
    Calls Tryz.prog 74 #[.int .u8 c1] w (fun e w' => ∃ (g : FM), e = .returned (Value.bool rr1) ∧ FM.le f g ∧ St t w' g (H)) := by
 unfold frame_inked at h
 refine enter Tryz.func74 rfl (tm := #[.int .u8 c1, uV, uV, uV, uV, uV, uV, uV, uV]) kr ?_
 intro B hret hnor hnp
 refine wp_seq_k fun K2 hK3 => rl ?_
 refine seqL1 kr ?_
 refine nl (hK3 _ _ ?_)
 refine wp_seq_k fun K4 hK5 => rl ?_
 refine seqL3 kr ?_
 have hq_ := ite_some h; clear h; rcases hq_ with ⟨c6, h⟩ | ⟨c6, h⟩
 · have c6 : c1 > 32 := c6
   refine seqRwI 4 (x := (decide (c1 > 32))) (v := true) kr (decide_eq_true c6) ?_
   refine seqRwI 5 (x := (decide (c1 > 32))) (v := true) kr (decide_eq_true c6) ?_
   refine seqL4 kr ?_
   refine nl (hK5 _ _ ?_)
   refine wp_ret ?_
   refine hret _ _ ?_
   refine ends_still (v := Value.bool (decide (c1 ≤ 126))) kr kr ?_
   injection h with h
   subst h
   exact ⟨f, rfl, FM.le.refl _, HS⟩
 · have c6 : ¬ (c1 > 32) := c6
   refine seqRwI 4 (x := (decide (c1 > 32))) (v := false) kr (decide_eq_false c6) ?_
   refine seqRwI 5 (x := (decide (c1 > 32))) (v := false) kr (decide_eq_false c6) ?_
   refine seqL4 kr ?_
   refine nl (hK5 _ _ ?_)
   refine wp_ret ?_
   refine hret _ _ ?_
   refine ends_still (v := Value.bool false) kr kr ?_
   injection h with h
   subst h
   exact ⟨f, rfl, FM.le.refl _, HS⟩

set_option maxRecDepth 100000 in
set_option maxHeartbeats 4000000 in
theorem frame_all__frame_inked.calls (k : Nat)  (s1 : ByteArray) {t w : World} {f : FM} {H : List Seg} (HS : St t w f (H)) (rr1 : Bool) (h : frame_all__frame_inked k s1 = some rr1) :
    Calls Tryz.prog 71 #[.string s1, .func (.func 74) #[] #[]] w (fun e w' => ∃ (g : FM), e = .returned (Value.bool rr1) ∧ FM.le f g ∧ St t w' g (H)) := by
 unfold frame_all__frame_inked at h
 refine enter Tryz.func71 rfl (tm := #[.string s1, .func (.func 74) #[] #[], uV, uV, uV, uV, uV, uV, uV, uV, uV, uV, uV, uV, uV, uV, uV, uV]) kr ?_
 intro B hret hnor hnp
 refine wp_seq_k fun K2 hK3 => rl ?_
 refine seqL1 kr ?_
 refine nl (hK3 _ _ ?_)
 refine wp_seq_k (fun K4 hK5 => ?_)
 refine wp_seq_k fun K6 hK7 => rl ?_
 refine seqL3 kr ?_
 refine nl (hK7 _ _ ?_)
 refine blockK (fun B8 hx9 hn10 hr11 ho12 hp13 => ?_)
 have hq_ := bind_some h; clear h; obtain ⟨o14, hv59, h⟩ := hq_
 have JR61 : ∀ z_, some (Sum.inl z_) = some o14 → some z_ = some rr1 := by
  intro z_ e_; injection e_ with e_; subst e_; exact h
 have J60 : ∀ (f54 : FM) (j58 : Nat → Value) (W56 : World) (a_ : Act), FM.le f f54 → some (Sum.inr ()) = some o14 → St t W56 f54 (H) → a_ = ⟨#[.string s1, .func (.func 74) #[] #[], uV, uV, (j58 0), (j58 1), .string s1, iV (s1.size : Int), (j58 2), (j58 3), (j58 4), (j58 5), (j58 6), (j58 7), (j58 8), (j58 9), (j58 10), (j58 11)], []⟩ → K4 a_ W56 := by
  intro f54 j58 W56 a_ L55 hj62 HS57  hfr_; subst hfr_
  injection hj62 with hj62; subst hj62; try dsimp only at h
  simp only [Sum.elim_inr] at h
  refine hK5 _ _ ?_
  refine wp_seq_k fun K63 hK64 => rl ?_
  refine seqL1 kr ?_
  refine nl (hK64 _ _ ?_)
  refine wp_ret ?_
  refine hret _ _ ?_
  refine ends_still (v := Value.bool true) kr kr ?_
  injection h with h
  subst h
  exact ⟨f54, rfl, L55, HS57⟩
 clear h; have h := hv59; clear hv59
 refine loopK (fun n_ a_ w_ => ∃ (f18 : FM) (x23 : Int) (j22 : Nat → Value), FM.le f f18 ∧ St t w_ f18 (H) ∧ frame_all__frame_inked.l0 k s1 n_ x23 = some o14 ∧ a_ = ⟨#[.string s1, .func (.func 74) #[] #[], uV, uV, (j22 0), (j22 1), .string s1, iV (s1.size : Int), iV x23, (j22 2), (j22 3), (j22 4), (j22 5), (j22 6), (j22 7), (j22 8), (j22 9), (j22 10)], []⟩) k ⟨f, 0, (fun i_ => [Value.bool false, undef, undef, undef, undef, undef, undef, undef, undef, undef, undef].getD i_ undef), (FM.le.refl _), HS, h, kr⟩ ?_
 clear h
 rintro n17 _ W20 ⟨f18, x23, j22, L19, HS21, h, rfl⟩ K15 hK16
 obtain _ | n17 := n17
 · exact nomatch h
 simp only [frame_all__frame_inked.l0] at h
 refine wp_seq_k fun K24 hK25 => rl ?_
 refine seqL1 kr ?_
 refine nl (hK25 _ _ ?_)
 refine wp_seq_k (fun K26 hK27 => ?_)
 have hq_ := ite_some h; clear h; rcases hq_ with ⟨c29, h⟩ | ⟨c29, h⟩
 · have c29 : x23 < (s1.size : Int) := c29
   refine wpRwI 9 (x := (decide (x23 < (s1.size : Int)))) (v := true) kr (decide_eq_true c29) ?_
   refine condT kr ?_
   refine wp_skip ?_
   refine hK27 _ _ ?_
   refine wp_seq_k (fun K30 hK31 => ?_)
   refine blockK (fun B32 hx33 hn34 hr35 ho36 hp37 => ?_)
   refine wp_seq_k fun K39 hK40 => rl ?_
   refine seqL2 kr ?_
   refine nl (hK40 _ _ ?_)
   refine wp_seq_k fun K41 hK42 => rl ?_
   have hq_ := guard_some h; clear h; obtain ⟨c43, h⟩ := hq_
   have c43 : 0 ≤ x23 := c43
   refine seqL3 kr ?_
   refine seqK rfl (does_run (run_byte rfl Tryz.underlying9 (kv (.string s1)) (kv (.int .i64 x23)) c43 c29 W20) ?_)
   have hq_ := bind_some h; clear h; obtain ⟨vt44, hc45, h⟩ := hq_
   refine seqK rfl (does_call (f := 74) (args := #[.int .u8 (bt s1 x23)]) kr (frame_inked.calls k (bt s1 x23) HS21 vt44 hc45) ?_)
   rintro _ W48 ⟨f46, rfl, L47, HS49⟩
   refine ⟨_, rfl, ?_⟩
   refine seqL1 kr ?_
   refine nl (hK42 _ _ ?_)
   have hq_ := ite_some h; clear h; rcases hq_ with ⟨c51, h⟩ | ⟨c51, h⟩
   · have c51 : ¬ (vt44 = true) := c51
     refine wpRwI 16 (x := (!vt44)) (v := true) kr (congrArg (fun b_ => !b_) (show vt44 = false from (Bool.eq_false_iff.mpr c51)) : (!vt44) = true) ?_
     refine condT kr ?_
     refine wp_seq_k fun K52 hK53 => rl ?_
     refine seqL1 kr ?_
     refine nl (hK53 _ _ ?_)
     refine wp_ret ?_
     refine hr35 _ _ ?_
     refine hr11 _ _ ?_
     refine hret _ _ ?_
     refine ends_still (v := Value.bool false) kr kr ?_
     replace h := JR61 _ h
     injection h with h
     subst h
     exact ⟨f46, rfl, (L19.trans L47), HS49⟩
   · have c51 : ¬ (¬ (vt44 = true)) := c51
     refine wpRwI 16 (x := (!vt44)) (v := false) kr (congrArg (fun b_ => !b_) (show vt44 = true from (Decidable.of_not_not c51)) : (!vt44) = false) ?_
     refine condF kr ?_
     refine wp_skip ?_
     refine hn34 _ _ ?_
     refine hK31 _ _ ?_
     refine rl ?_
     refine seqL2 kr ?_
     refine nl ?_
     refine hK16 n17 _ _ (Nat.lt_succ_self _) ?_
     exact ⟨f46, (w64 (x23 + 1)), (fun i_ => [(j22 0), Value.int .i64 x23, Value.bool true, Value.int .i64 x23, Value.func (.func 74) #[] #[], Value.string s1, Value.int .i64 x23, Value.int .u8 (bt s1 x23), Value.bool vt44, Value.bool false, Value.int .i64 (w64 (x23 + 1))].getD i_ undef), (L19.trans L47), HS49, h, kr⟩
 · have c29 : ¬ (x23 < (s1.size : Int)) := c29
   refine wpRwI 9 (x := (decide (x23 < (s1.size : Int)))) (v := false) kr (decide_eq_false c29) ?_
   refine condF kr ?_
   refine wp_exit ?_
   refine hx9 _ _ ?_
   exact J60 f18 (fun i_ => [(j22 0), (j22 1), Value.int .i64 x23, Value.bool false, (j22 3), (j22 4), (j22 5), (j22 6), (j22 7), (j22 8), (j22 9), (j22 10)].getD i_ undef) W20 _ L19 h HS21 kr

set_option maxRecDepth 100000 in
set_option maxHeartbeats 4000000 in
theorem frame_lower.calls (k : Nat)  (c1 : Int) {t w : World} {f : FM} {H : List Seg} (HS : St t w f (H)) (rr1 : Bool) (h : frame_lower k c1 = some rr1) :
    Calls Tryz.prog 75 #[.int .u8 c1] w (fun e w' => ∃ (g : FM), e = .returned (Value.bool rr1) ∧ FM.le f g ∧ St t w' g (H)) := by
 unfold frame_lower at h
 refine enter Tryz.func75 rfl (tm := #[.int .u8 c1, uV, uV, uV, uV, uV, uV, uV, uV]) kr ?_
 intro B hret hnor hnp
 refine wp_seq_k fun K2 hK3 => rl ?_
 refine seqL1 kr ?_
 refine nl (hK3 _ _ ?_)
 refine wp_seq_k fun K4 hK5 => rl ?_
 refine seqL3 kr ?_
 have hq_ := ite_some h; clear h; rcases hq_ with ⟨c6, h⟩ | ⟨c6, h⟩
 · have c6 : c1 ≥ 97 := c6
   refine seqRwI 4 (x := (decide (c1 ≥ 97))) (v := true) kr (decide_eq_true c6) ?_
   refine seqRwI 5 (x := (decide (c1 ≥ 97))) (v := true) kr (decide_eq_true c6) ?_
   refine seqL4 kr ?_
   refine nl (hK5 _ _ ?_)
   refine wp_ret ?_
   refine hret _ _ ?_
   refine ends_still (v := Value.bool (decide (c1 ≤ 122))) kr kr ?_
   injection h with h
   subst h
   exact ⟨f, rfl, FM.le.refl _, HS⟩
 · have c6 : ¬ (c1 ≥ 97) := c6
   refine seqRwI 4 (x := (decide (c1 ≥ 97))) (v := false) kr (decide_eq_false c6) ?_
   refine seqRwI 5 (x := (decide (c1 ≥ 97))) (v := false) kr (decide_eq_false c6) ?_
   refine seqL4 kr ?_
   refine nl (hK5 _ _ ?_)
   refine wp_ret ?_
   refine hret _ _ ?_
   refine ends_still (v := Value.bool false) kr kr ?_
   injection h with h
   subst h
   exact ⟨f, rfl, FM.le.refl _, HS⟩

set_option maxRecDepth 100000 in
set_option maxHeartbeats 4000000 in
theorem frame_all__frame_lower.calls (k : Nat)  (s1 : ByteArray) {t w : World} {f : FM} {H : List Seg} (HS : St t w f (H)) (rr1 : Bool) (h : frame_all__frame_lower k s1 = some rr1) :
    Calls Tryz.prog 71 #[.string s1, .func (.func 75) #[] #[]] w (fun e w' => ∃ (g : FM), e = .returned (Value.bool rr1) ∧ FM.le f g ∧ St t w' g (H)) := by
 unfold frame_all__frame_lower at h
 refine enter Tryz.func71 rfl (tm := #[.string s1, .func (.func 75) #[] #[], uV, uV, uV, uV, uV, uV, uV, uV, uV, uV, uV, uV, uV, uV, uV, uV]) kr ?_
 intro B hret hnor hnp
 refine wp_seq_k fun K2 hK3 => rl ?_
 refine seqL1 kr ?_
 refine nl (hK3 _ _ ?_)
 refine wp_seq_k (fun K4 hK5 => ?_)
 refine wp_seq_k fun K6 hK7 => rl ?_
 refine seqL3 kr ?_
 refine nl (hK7 _ _ ?_)
 refine blockK (fun B8 hx9 hn10 hr11 ho12 hp13 => ?_)
 have hq_ := bind_some h; clear h; obtain ⟨o14, hv59, h⟩ := hq_
 have JR61 : ∀ z_, some (Sum.inl z_) = some o14 → some z_ = some rr1 := by
  intro z_ e_; injection e_ with e_; subst e_; exact h
 have J60 : ∀ (f54 : FM) (j58 : Nat → Value) (W56 : World) (a_ : Act), FM.le f f54 → some (Sum.inr ()) = some o14 → St t W56 f54 (H) → a_ = ⟨#[.string s1, .func (.func 75) #[] #[], uV, uV, (j58 0), (j58 1), .string s1, iV (s1.size : Int), (j58 2), (j58 3), (j58 4), (j58 5), (j58 6), (j58 7), (j58 8), (j58 9), (j58 10), (j58 11)], []⟩ → K4 a_ W56 := by
  intro f54 j58 W56 a_ L55 hj62 HS57  hfr_; subst hfr_
  injection hj62 with hj62; subst hj62; try dsimp only at h
  simp only [Sum.elim_inr] at h
  refine hK5 _ _ ?_
  refine wp_seq_k fun K63 hK64 => rl ?_
  refine seqL1 kr ?_
  refine nl (hK64 _ _ ?_)
  refine wp_ret ?_
  refine hret _ _ ?_
  refine ends_still (v := Value.bool true) kr kr ?_
  injection h with h
  subst h
  exact ⟨f54, rfl, L55, HS57⟩
 clear h; have h := hv59; clear hv59
 refine loopK (fun n_ a_ w_ => ∃ (f18 : FM) (x23 : Int) (j22 : Nat → Value), FM.le f f18 ∧ St t w_ f18 (H) ∧ frame_all__frame_lower.l0 k s1 n_ x23 = some o14 ∧ a_ = ⟨#[.string s1, .func (.func 75) #[] #[], uV, uV, (j22 0), (j22 1), .string s1, iV (s1.size : Int), iV x23, (j22 2), (j22 3), (j22 4), (j22 5), (j22 6), (j22 7), (j22 8), (j22 9), (j22 10)], []⟩) k ⟨f, 0, (fun i_ => [Value.bool false, undef, undef, undef, undef, undef, undef, undef, undef, undef, undef].getD i_ undef), (FM.le.refl _), HS, h, kr⟩ ?_
 clear h
 rintro n17 _ W20 ⟨f18, x23, j22, L19, HS21, h, rfl⟩ K15 hK16
 obtain _ | n17 := n17
 · exact nomatch h
 simp only [frame_all__frame_lower.l0] at h
 refine wp_seq_k fun K24 hK25 => rl ?_
 refine seqL1 kr ?_
 refine nl (hK25 _ _ ?_)
 refine wp_seq_k (fun K26 hK27 => ?_)
 have hq_ := ite_some h; clear h; rcases hq_ with ⟨c29, h⟩ | ⟨c29, h⟩
 · have c29 : x23 < (s1.size : Int) := c29
   refine wpRwI 9 (x := (decide (x23 < (s1.size : Int)))) (v := true) kr (decide_eq_true c29) ?_
   refine condT kr ?_
   refine wp_skip ?_
   refine hK27 _ _ ?_
   refine wp_seq_k (fun K30 hK31 => ?_)
   refine blockK (fun B32 hx33 hn34 hr35 ho36 hp37 => ?_)
   refine wp_seq_k fun K39 hK40 => rl ?_
   refine seqL2 kr ?_
   refine nl (hK40 _ _ ?_)
   refine wp_seq_k fun K41 hK42 => rl ?_
   have hq_ := guard_some h; clear h; obtain ⟨c43, h⟩ := hq_
   have c43 : 0 ≤ x23 := c43
   refine seqL3 kr ?_
   refine seqK rfl (does_run (run_byte rfl Tryz.underlying9 (kv (.string s1)) (kv (.int .i64 x23)) c43 c29 W20) ?_)
   have hq_ := bind_some h; clear h; obtain ⟨vt44, hc45, h⟩ := hq_
   refine seqK rfl (does_call (f := 75) (args := #[.int .u8 (bt s1 x23)]) kr (frame_lower.calls k (bt s1 x23) HS21 vt44 hc45) ?_)
   rintro _ W48 ⟨f46, rfl, L47, HS49⟩
   refine ⟨_, rfl, ?_⟩
   refine seqL1 kr ?_
   refine nl (hK42 _ _ ?_)
   have hq_ := ite_some h; clear h; rcases hq_ with ⟨c51, h⟩ | ⟨c51, h⟩
   · have c51 : ¬ (vt44 = true) := c51
     refine wpRwI 16 (x := (!vt44)) (v := true) kr (congrArg (fun b_ => !b_) (show vt44 = false from (Bool.eq_false_iff.mpr c51)) : (!vt44) = true) ?_
     refine condT kr ?_
     refine wp_seq_k fun K52 hK53 => rl ?_
     refine seqL1 kr ?_
     refine nl (hK53 _ _ ?_)
     refine wp_ret ?_
     refine hr35 _ _ ?_
     refine hr11 _ _ ?_
     refine hret _ _ ?_
     refine ends_still (v := Value.bool false) kr kr ?_
     replace h := JR61 _ h
     injection h with h
     subst h
     exact ⟨f46, rfl, (L19.trans L47), HS49⟩
   · have c51 : ¬ (¬ (vt44 = true)) := c51
     refine wpRwI 16 (x := (!vt44)) (v := false) kr (congrArg (fun b_ => !b_) (show vt44 = true from (Decidable.of_not_not c51)) : (!vt44) = false) ?_
     refine condF kr ?_
     refine wp_skip ?_
     refine hn34 _ _ ?_
     refine hK31 _ _ ?_
     refine rl ?_
     refine seqL2 kr ?_
     refine nl ?_
     refine hK16 n17 _ _ (Nat.lt_succ_self _) ?_
     exact ⟨f46, (w64 (x23 + 1)), (fun i_ => [(j22 0), Value.int .i64 x23, Value.bool true, Value.int .i64 x23, Value.func (.func 75) #[] #[], Value.string s1, Value.int .i64 x23, Value.int .u8 (bt s1 x23), Value.bool vt44, Value.bool false, Value.int .i64 (w64 (x23 + 1))].getD i_ undef), (L19.trans L47), HS49, h, kr⟩
 · have c29 : ¬ (x23 < (s1.size : Int)) := c29
   refine wpRwI 9 (x := (decide (x23 < (s1.size : Int)))) (v := false) kr (decide_eq_false c29) ?_
   refine condF kr ?_
   refine wp_exit ?_
   refine hx9 _ _ ?_
   exact J60 f18 (fun i_ => [(j22 0), (j22 1), Value.int .i64 x23, Value.bool false, (j22 3), (j22 4), (j22 5), (j22 6), (j22 7), (j22 8), (j22 9), (j22 10)].getD i_ undef) W20 _ L19 h HS21 kr

set_option maxRecDepth 100000 in
set_option maxHeartbeats 4000000 in
theorem frame_typed.calls (k : Nat)  (c1 : Int) {t w : World} {f : FM} {H : List Seg} (HS : St t w f (H)) (rr1 : Bool) (h : frame_typed k c1 = some rr1) :
    Calls Tryz.prog 76 #[.int .u8 c1] w (fun e w' => ∃ (g : FM), e = .returned (Value.bool rr1) ∧ FM.le f g ∧ St t w' g (H)) := by
 unfold frame_typed at h
 refine enter Tryz.func76 rfl (tm := #[.int .u8 c1, uV, uV, uV, uV, uV, uV, uV, uV]) kr ?_
 intro B hret hnor hnp
 refine wp_seq_k fun K2 hK3 => rl ?_
 refine seqL1 kr ?_
 refine nl (hK3 _ _ ?_)
 refine wp_seq_k fun K4 hK5 => rl ?_
 refine seqL3 kr ?_
 have hq_ := ite_some h; clear h; rcases hq_ with ⟨c6, h⟩ | ⟨c6, h⟩
 · have c6 : c1 ≥ 32 := c6
   refine seqRwI 4 (x := (decide (c1 ≥ 32))) (v := true) kr (decide_eq_true c6) ?_
   refine seqRwI 5 (x := (decide (c1 ≥ 32))) (v := true) kr (decide_eq_true c6) ?_
   refine seqL4 kr ?_
   refine nl (hK5 _ _ ?_)
   refine wp_ret ?_
   refine hret _ _ ?_
   refine ends_still (v := Value.bool (decide (c1 ≤ 126))) kr kr ?_
   injection h with h
   subst h
   exact ⟨f, rfl, FM.le.refl _, HS⟩
 · have c6 : ¬ (c1 ≥ 32) := c6
   refine seqRwI 4 (x := (decide (c1 ≥ 32))) (v := false) kr (decide_eq_false c6) ?_
   refine seqRwI 5 (x := (decide (c1 ≥ 32))) (v := false) kr (decide_eq_false c6) ?_
   refine seqL4 kr ?_
   refine nl (hK5 _ _ ?_)
   refine wp_ret ?_
   refine hret _ _ ?_
   refine ends_still (v := Value.bool false) kr kr ?_
   injection h with h
   subst h
   exact ⟨f, rfl, FM.le.refl _, HS⟩

set_option maxRecDepth 100000 in
set_option maxHeartbeats 4000000 in
theorem frame_all__frame_typed.calls (k : Nat)  (s1 : ByteArray) {t w : World} {f : FM} {H : List Seg} (HS : St t w f (H)) (rr1 : Bool) (h : frame_all__frame_typed k s1 = some rr1) :
    Calls Tryz.prog 71 #[.string s1, .func (.func 76) #[] #[]] w (fun e w' => ∃ (g : FM), e = .returned (Value.bool rr1) ∧ FM.le f g ∧ St t w' g (H)) := by
 unfold frame_all__frame_typed at h
 refine enter Tryz.func71 rfl (tm := #[.string s1, .func (.func 76) #[] #[], uV, uV, uV, uV, uV, uV, uV, uV, uV, uV, uV, uV, uV, uV, uV, uV]) kr ?_
 intro B hret hnor hnp
 refine wp_seq_k fun K2 hK3 => rl ?_
 refine seqL1 kr ?_
 refine nl (hK3 _ _ ?_)
 refine wp_seq_k (fun K4 hK5 => ?_)
 refine wp_seq_k fun K6 hK7 => rl ?_
 refine seqL3 kr ?_
 refine nl (hK7 _ _ ?_)
 refine blockK (fun B8 hx9 hn10 hr11 ho12 hp13 => ?_)
 have hq_ := bind_some h; clear h; obtain ⟨o14, hv59, h⟩ := hq_
 have JR61 : ∀ z_, some (Sum.inl z_) = some o14 → some z_ = some rr1 := by
  intro z_ e_; injection e_ with e_; subst e_; exact h
 have J60 : ∀ (f54 : FM) (j58 : Nat → Value) (W56 : World) (a_ : Act), FM.le f f54 → some (Sum.inr ()) = some o14 → St t W56 f54 (H) → a_ = ⟨#[.string s1, .func (.func 76) #[] #[], uV, uV, (j58 0), (j58 1), .string s1, iV (s1.size : Int), (j58 2), (j58 3), (j58 4), (j58 5), (j58 6), (j58 7), (j58 8), (j58 9), (j58 10), (j58 11)], []⟩ → K4 a_ W56 := by
  intro f54 j58 W56 a_ L55 hj62 HS57  hfr_; subst hfr_
  injection hj62 with hj62; subst hj62; try dsimp only at h
  simp only [Sum.elim_inr] at h
  refine hK5 _ _ ?_
  refine wp_seq_k fun K63 hK64 => rl ?_
  refine seqL1 kr ?_
  refine nl (hK64 _ _ ?_)
  refine wp_ret ?_
  refine hret _ _ ?_
  refine ends_still (v := Value.bool true) kr kr ?_
  injection h with h
  subst h
  exact ⟨f54, rfl, L55, HS57⟩
 clear h; have h := hv59; clear hv59
 refine loopK (fun n_ a_ w_ => ∃ (f18 : FM) (x23 : Int) (j22 : Nat → Value), FM.le f f18 ∧ St t w_ f18 (H) ∧ frame_all__frame_typed.l0 k s1 n_ x23 = some o14 ∧ a_ = ⟨#[.string s1, .func (.func 76) #[] #[], uV, uV, (j22 0), (j22 1), .string s1, iV (s1.size : Int), iV x23, (j22 2), (j22 3), (j22 4), (j22 5), (j22 6), (j22 7), (j22 8), (j22 9), (j22 10)], []⟩) k ⟨f, 0, (fun i_ => [Value.bool false, undef, undef, undef, undef, undef, undef, undef, undef, undef, undef].getD i_ undef), (FM.le.refl _), HS, h, kr⟩ ?_
 clear h
 rintro n17 _ W20 ⟨f18, x23, j22, L19, HS21, h, rfl⟩ K15 hK16
 obtain _ | n17 := n17
 · exact nomatch h
 simp only [frame_all__frame_typed.l0] at h
 refine wp_seq_k fun K24 hK25 => rl ?_
 refine seqL1 kr ?_
 refine nl (hK25 _ _ ?_)
 refine wp_seq_k (fun K26 hK27 => ?_)
 have hq_ := ite_some h; clear h; rcases hq_ with ⟨c29, h⟩ | ⟨c29, h⟩
 · have c29 : x23 < (s1.size : Int) := c29
   refine wpRwI 9 (x := (decide (x23 < (s1.size : Int)))) (v := true) kr (decide_eq_true c29) ?_
   refine condT kr ?_
   refine wp_skip ?_
   refine hK27 _ _ ?_
   refine wp_seq_k (fun K30 hK31 => ?_)
   refine blockK (fun B32 hx33 hn34 hr35 ho36 hp37 => ?_)
   refine wp_seq_k fun K39 hK40 => rl ?_
   refine seqL2 kr ?_
   refine nl (hK40 _ _ ?_)
   refine wp_seq_k fun K41 hK42 => rl ?_
   have hq_ := guard_some h; clear h; obtain ⟨c43, h⟩ := hq_
   have c43 : 0 ≤ x23 := c43
   refine seqL3 kr ?_
   refine seqK rfl (does_run (run_byte rfl Tryz.underlying9 (kv (.string s1)) (kv (.int .i64 x23)) c43 c29 W20) ?_)
   have hq_ := bind_some h; clear h; obtain ⟨vt44, hc45, h⟩ := hq_
   refine seqK rfl (does_call (f := 76) (args := #[.int .u8 (bt s1 x23)]) kr (frame_typed.calls k (bt s1 x23) HS21 vt44 hc45) ?_)
   rintro _ W48 ⟨f46, rfl, L47, HS49⟩
   refine ⟨_, rfl, ?_⟩
   refine seqL1 kr ?_
   refine nl (hK42 _ _ ?_)
   have hq_ := ite_some h; clear h; rcases hq_ with ⟨c51, h⟩ | ⟨c51, h⟩
   · have c51 : ¬ (vt44 = true) := c51
     refine wpRwI 16 (x := (!vt44)) (v := true) kr (congrArg (fun b_ => !b_) (show vt44 = false from (Bool.eq_false_iff.mpr c51)) : (!vt44) = true) ?_
     refine condT kr ?_
     refine wp_seq_k fun K52 hK53 => rl ?_
     refine seqL1 kr ?_
     refine nl (hK53 _ _ ?_)
     refine wp_ret ?_
     refine hr35 _ _ ?_
     refine hr11 _ _ ?_
     refine hret _ _ ?_
     refine ends_still (v := Value.bool false) kr kr ?_
     replace h := JR61 _ h
     injection h with h
     subst h
     exact ⟨f46, rfl, (L19.trans L47), HS49⟩
   · have c51 : ¬ (¬ (vt44 = true)) := c51
     refine wpRwI 16 (x := (!vt44)) (v := false) kr (congrArg (fun b_ => !b_) (show vt44 = true from (Decidable.of_not_not c51)) : (!vt44) = false) ?_
     refine condF kr ?_
     refine wp_skip ?_
     refine hn34 _ _ ?_
     refine hK31 _ _ ?_
     refine rl ?_
     refine seqL2 kr ?_
     refine nl ?_
     refine hK16 n17 _ _ (Nat.lt_succ_self _) ?_
     exact ⟨f46, (w64 (x23 + 1)), (fun i_ => [(j22 0), Value.int .i64 x23, Value.bool true, Value.int .i64 x23, Value.func (.func 76) #[] #[], Value.string s1, Value.int .i64 x23, Value.int .u8 (bt s1 x23), Value.bool vt44, Value.bool false, Value.int .i64 (w64 (x23 + 1))].getD i_ undef), (L19.trans L47), HS49, h, kr⟩
 · have c29 : ¬ (x23 < (s1.size : Int)) := c29
   refine wpRwI 9 (x := (decide (x23 < (s1.size : Int)))) (v := false) kr (decide_eq_false c29) ?_
   refine condF kr ?_
   refine wp_exit ?_
   refine hx9 _ _ ?_
   exact J60 f18 (fun i_ => [(j22 0), (j22 1), Value.int .i64 x23, Value.bool false, (j22 3), (j22 4), (j22 5), (j22 6), (j22 7), (j22 8), (j22 9), (j22 10)].getD i_ undef) W20 _ L19 h HS21 kr

theorem strings_TrimSpace.calls (k : Nat) (s : ByteArray) {t w : World} {f : FM} {H : List Seg} (HS : St t w f H) (HA : TabF Tryz.prog "strings.asciiSpace" .u8 Go.Lib.asciiSpaceTab f) (r1 : ByteArray) (h : strings_TrimSpace k s = some r1) :
    Calls Tryz.prog 77 #[.string s] w (fun e w' => ∃ (g : FM), e = .returned (Value.string r1) ∧ FM.le f g ∧ St t w' g H) := by
  unfold strings_TrimSpace at h
  have hq_ := guard_some h; clear h; obtain ⟨h1, h⟩ := hq_
  have hq_ := guard_some h; clear h; obtain ⟨h2, h⟩ := hq_
  injection h with h; subst h
  exact lib_calls (Tryz.strings_TrimSpace s w h1 (fun j b hj => of_decide_eq_true (List.all_eq_true.mp h2 b (List.mem_of_getElem? hj))) (HA.tab HS)) q_bytes HS

theorem strings_Repeat.calls (k : Nat) (s : ByteArray) (n : Int) {t w : World} {f : FM} {H : List Seg} (HS : St t w f H) (r1 : ByteArray) (h : strings_Repeat k s n = some r1) :
    Calls Tryz.prog 47 #[.string s, .int .i64 n] w (fun e w' => ∃ (g : FM), e = .returned (Value.string r1) ∧ FM.le f g ∧ St t w' g H) := by
  unfold strings_Repeat at h
  have hq_ := guard_some h; clear h; obtain ⟨h1, h⟩ := hq_
  have hq_ := guard_some h; clear h; obtain ⟨h2, h⟩ := hq_
  have hq_ := guard_some h; clear h; obtain ⟨h3, h⟩ := hq_
  injection h with h; subst h
  obtain ⟨m_, rfl⟩ : ∃ m_ : Nat, n = m_ := ⟨n.toNat, by omega⟩
  exact lib_calls (Tryz.strings_Repeat s m_ w (by omega) (by simpa using h2)) q_below HS

set_option maxRecDepth 100000 in
set_option maxHeartbeats 4000000 in
theorem frame_text.calls (k : Nat)  (c1 : S_Card) {t w : World} {f : FM} {H : List Seg} (HS : St t w f (H)) (rr1 : ByteArray) (h : frame_text k c1 = some rr1) :
    Calls Tryz.prog 48 #[.agg #[.string c1.Key, .string c1.Value, .string c1.Unit, .string c1.Note]] w (fun e w' => ∃ (g : FM), e = .returned (Value.string rr1) ∧ FM.le f g ∧ St t w' g (H)) := by
 unfold frame_text at h
 refine enter Tryz.func48 rfl (tm := #[(ag_Card c1), uV, uV, uV, uV, uV, uV, uV, uV, uV, uV, uV, uV, uV, uV, uV, uV, uV, uV, uV, uV, uV, uV, uV, uV, uV, uV, uV, uV, uV, uV, uV, uV, uV, uV]) kr ?_
 intro B hret hnor hnp
 refine wp_seq_k fun K2 hK3 => rl ?_
 refine seqK rfl (does_box (cs := #[.string c1.Key, .string c1.Value, .string c1.Unit, .string c1.Note]) rfl (kv (.agg #[.string c1.Key, .string c1.Value, .string c1.Unit, .string c1.Note])) rfl HS ?_)
 intro b4 W5 HS6
 refine seqL1 kr ?_
 refine nl (hK3 _ _ ?_)
 refine wp_seq_k (fun K8 hK9 => ?_)
 refine heldG (S := Sg t f ([(b4, .cells #[.string c1.Key, .string c1.Value, .string c1.Unit, .string c1.Note] 51 (0, 0))] :: H) []) (n := 14) kr rfl HS6 ?_
 intro W10 HS11
 refine takeGL [0] (n := 14) (fuel := 13) #[true, false, false, false, false, false, false, false, false, false, false, false, false, false] rfl kr kr kr hnp (Sg.g0 (Sx.of [] (FM.le.refl _) HS11)) ?_
 refine takeGQ 1 [] rfl kr kr kr kr kr kr hnp (Sg.g0 (Sx.of [] (FM.le.refl _) HS11)) (fun w_ hw_ => by obtain ⟨g_, hl_, hS_⟩ := hw_.st; exact run_load rfl Tryz.underlying9 rfl (kv (.pointer (some ⟨b4, 0, none⟩))) (hS_.cell 0)) ?_
 refine takeGL [2] (n := 12) (fuel := 11) #[true, true, true, false, false, false, false, false, false, false, false, false, false, false] rfl kr kr kr hnp (Sg.g0 (Sx.of [] (FM.le.refl _) HS11)) ?_
 refine takeGQ 3 [] rfl kr kr kr kr kr kr hnp (Sg.g0 (Sx.of [] (FM.le.refl _) HS11)) (fun w_ hw_ => by obtain ⟨g_, hl_, hS_⟩ := hw_.st; exact run_load rfl Tryz.underlying9 rfl (kv (.pointer (some ⟨b4, 0, none⟩))) (hS_.cell 0)) ?_
 refine takeGL [4, 5, 6, 10] (n := 10) (fuel := 6) #[true, true, true, true, true, true, true, false, false, false, true, false, false, false] rfl kr kr kr hnp (Sg.g0 (Sx.of [] (FM.le.refl _) HS11)) ?_
 refine takeGQ 11 [] rfl kr kr kr kr kr kr hnp (Sg.g0 (Sx.of [] (FM.le.refl _) HS11)) (fun w_ hw_ => by obtain ⟨g_, hl_, hS_⟩ := hw_.st; exact run_load rfl Tryz.underlying9 rfl (kv (.pointer (some ⟨b4, 1, none⟩))) (hS_.cell 1)) ?_
 have hq_ := bind_some h; clear h; obtain ⟨vt12, hc13, h⟩ := hq_
 refine takeGE 7 kr rfl kr (does_call (f := 47) (args := #[.string ⟨#[32]⟩, .int .i64 (mx 0 (w64 (8 - (c1.Key.size : Int))))]) kr (strings_Repeat.calls k (⟨#[32]⟩ : ByteArray) (mx 0 (w64 (8 - (c1.Key.size : Int)))) HS11 vt12 hc13) ?_)
 rintro _ W16 ⟨f14, rfl, L15, HS17⟩
 refine ⟨_, rfl, ?_⟩
 refine ⟨(Sg.g0 (Sx.of [] L15 HS17)), ?_⟩
 have hq_ := guard_some h; clear h; obtain ⟨c18, h⟩ := hq_
 have c18 : c1.Key.size + vt12.size ≤ 9223372036854775807 := c18
 refine takeGQ 8 [] rfl kr kr kr kr kr kr hnp (Sg.g0 (Sx.of [] L15 HS17)) (fun w_ hw_ => by obtain ⟨g_, hl_, hS_⟩ := hw_.st; exact run_concat rfl (kv (.string c1.Key)) (kv (.string vt12)) c18 w_) ?_
 have hq_ := guard_some h; clear h; obtain ⟨c19, h⟩ := hq_
 have c19 : (c1.Key ++ vt12).size + (⟨#[61, 32]⟩ : ByteArray).size ≤ 9223372036854775807 := c19
 refine takeGQ 9 [] rfl kr kr kr kr kr kr hnp (Sg.g0 (Sx.of [] L15 HS17)) (fun w_ hw_ => by obtain ⟨g_, hl_, hS_⟩ := hw_.st; exact run_concat rfl (kv (.string (c1.Key ++ vt12))) (kv (.string ⟨#[61, 32]⟩)) c19 w_) ?_
 have hq_ := guard_some h; clear h; obtain ⟨c20, h⟩ := hq_
 have c20 : ((c1.Key ++ vt12) ++ (⟨#[61, 32]⟩ : ByteArray)).size + c1.Value.size ≤ 9223372036854775807 := c20
 refine takeGQ 12 [] rfl kr kr kr kr kr kr hnp (Sg.g0 (Sx.of [] L15 HS17)) (fun w_ hw_ => by obtain ⟨g_, hl_, hS_⟩ := hw_.st; exact run_concat rfl (kv (.string ((c1.Key ++ vt12) ++ (⟨#[61, 32]⟩ : ByteArray)))) (kv (.string c1.Value)) c20 w_) ?_
 refine takeGL [13] (n := 1) (fuel := 0) #[true, true, true, true, true, true, true, true, true, true, true, true, true, true] rfl kr kr kr hnp (Sg.g0 (Sx.of [] L15 HS17)) ?_
 refine doneG kr ?_ _
 refine hK9 _ _ ?_
 refine wp_seq_k (fun K21 hK22 => ?_)
 refine wp_seq_k fun K23 hK24 => rl ?_
 refine seqL1 kr ?_
 refine seqK rfl (does_run (run_load rfl Tryz.underlying9 rfl (kv (.pointer (some ⟨b4, 2, none⟩))) (HS17.cell 2)) ?_)
 refine seqL1 kr ?_
 refine nl (hK24 _ _ ?_)
 have hq_ := ite_some h; clear h; rcases hq_ with ⟨c26, h⟩ | ⟨c26, h⟩
 · have c26 : (!(c1.Unit.toList == (⟨#[]⟩ : ByteArray).toList)) = true := c26
   refine wpRwI 19 (x := (!(c1.Unit.toList == (⟨#[]⟩ : ByteArray).toList))) (v := true) kr c26 ?_
   refine condT kr ?_
   refine rl ?_
   refine seqL2 kr ?_
   refine seqK rfl (does_run (run_load rfl Tryz.underlying9 rfl (kv (.pointer (some ⟨b4, 2, none⟩))) (HS17.cell 2)) ?_)
   have hq_ := guard_some h; clear h; obtain ⟨c27, h⟩ := hq_
   have c27 : (⟨#[32, 91]⟩ : ByteArray).size + c1.Unit.size ≤ 9223372036854775807 := c27
   refine seqK rfl (does_run (run_concat rfl (kv (.string ⟨#[32, 91]⟩)) (kv (.string c1.Unit)) c27 W16) ?_)
   have hq_ := guard_some h; clear h; obtain ⟨c28, h⟩ := hq_
   have c28 : ((⟨#[32, 91]⟩ : ByteArray) ++ c1.Unit).size + (⟨#[93]⟩ : ByteArray).size ≤ 9223372036854775807 := c28
   refine seqK rfl (does_run (run_concat rfl (kv (.string ((⟨#[32, 91]⟩ : ByteArray) ++ c1.Unit))) (kv (.string ⟨#[93]⟩)) c28 W16) ?_)
   have hq_ := guard_some h; clear h; obtain ⟨c29, h⟩ := hq_
   have c29 : (((c1.Key ++ vt12) ++ (⟨#[61, 32]⟩ : ByteArray)) ++ c1.Value).size + (((⟨#[32, 91]⟩ : ByteArray) ++ c1.Unit) ++ (⟨#[93]⟩ : ByteArray)).size ≤ 9223372036854775807 := c29
   refine seqK rfl (does_run (run_concat rfl (kv (.string (((c1.Key ++ vt12) ++ (⟨#[61, 32]⟩ : ByteArray)) ++ c1.Value))) (kv (.string (((⟨#[32, 91]⟩ : ByteArray) ++ c1.Unit) ++ (⟨#[93]⟩ : ByteArray)))) c29 W16) ?_)
   refine seqL1 kr ?_
   refine nl (hK22 _ _ ?_)
   refine wp_seq_k (fun K30 hK31 => ?_)
   refine wp_seq_k fun K32 hK33 => rl ?_
   refine seqL1 kr ?_
   refine seqK rfl (does_run (run_load rfl Tryz.underlying9 rfl (kv (.pointer (some ⟨b4, 3, none⟩))) (HS17.cell 3)) ?_)
   refine seqL1 kr ?_
   refine nl (hK33 _ _ ?_)
   have hq_ := ite_some h; clear h; rcases hq_ with ⟨c35, h⟩ | ⟨c35, h⟩
   · have c35 : (!(c1.Note.toList == (⟨#[]⟩ : ByteArray).toList)) = true := c35
     refine wpRwI 28 (x := (!(c1.Note.toList == (⟨#[]⟩ : ByteArray).toList))) (v := true) kr c35 ?_
     refine condT kr ?_
     refine rl ?_
     refine seqL2 kr ?_
     refine seqK rfl (does_run (run_load rfl Tryz.underlying9 rfl (kv (.pointer (some ⟨b4, 3, none⟩))) (HS17.cell 3)) ?_)
     have hq_ := guard_some h; clear h; obtain ⟨c36, h⟩ := hq_
     have c36 : (⟨#[32, 47, 32]⟩ : ByteArray).size + c1.Note.size ≤ 9223372036854775807 := c36
     refine seqK rfl (does_run (run_concat rfl (kv (.string ⟨#[32, 47, 32]⟩)) (kv (.string c1.Note)) c36 W16) ?_)
     have hq_ := guard_some h; clear h; obtain ⟨c37, h⟩ := hq_
     have c37 : ((((c1.Key ++ vt12) ++ (⟨#[61, 32]⟩ : ByteArray)) ++ c1.Value) ++ (((⟨#[32, 91]⟩ : ByteArray) ++ c1.Unit) ++ (⟨#[93]⟩ : ByteArray))).size + ((⟨#[32, 47, 32]⟩ : ByteArray) ++ c1.Note).size ≤ 9223372036854775807 := c37
     refine seqK rfl (does_run (run_concat rfl (kv (.string ((((c1.Key ++ vt12) ++ (⟨#[61, 32]⟩ : ByteArray)) ++ c1.Value) ++ (((⟨#[32, 91]⟩ : ByteArray) ++ c1.Unit) ++ (⟨#[93]⟩ : ByteArray))))) (kv (.string ((⟨#[32, 47, 32]⟩ : ByteArray) ++ c1.Note))) c37 W16) ?_)
     refine seqL1 kr ?_
     refine nl (hK31 _ _ ?_)
     refine wp_seq_k fun K38 hK39 => rl ?_
     refine seqL2 kr ?_
     refine nl (hK39 _ _ ?_)
     refine wp_ret ?_
     refine hret _ _ ?_
     refine ends_still (v := Value.string (((((c1.Key ++ vt12) ++ (⟨#[61, 32]⟩ : ByteArray)) ++ c1.Value) ++ (((⟨#[32, 91]⟩ : ByteArray) ++ c1.Unit) ++ (⟨#[93]⟩ : ByteArray))) ++ ((⟨#[32, 47, 32]⟩ : ByteArray) ++ c1.Note))) kr kr ?_
     have HS54 := HS17.drop
     injection h with h
     subst h
     exact ⟨f14, rfl, L15, HS54⟩
   · have c35 : ¬ ((!(c1.Note.toList == (⟨#[]⟩ : ByteArray).toList)) = true) := c35
     refine wpRwI 28 (x := (!(c1.Note.toList == (⟨#[]⟩ : ByteArray).toList))) (v := false) kr (Bool.eq_false_iff.mpr c35) ?_
     refine condF kr ?_
     refine wp_skip ?_
     refine hK31 _ _ ?_
     refine wp_seq_k fun K40 hK41 => rl ?_
     refine seqL2 kr ?_
     refine nl (hK41 _ _ ?_)
     refine wp_ret ?_
     refine hret _ _ ?_
     refine ends_still (v := Value.string ((((c1.Key ++ vt12) ++ (⟨#[61, 32]⟩ : ByteArray)) ++ c1.Value) ++ (((⟨#[32, 91]⟩ : ByteArray) ++ c1.Unit) ++ (⟨#[93]⟩ : ByteArray)))) kr kr ?_
     have HS55 := HS17.drop
     injection h with h
     subst h
     exact ⟨f14, rfl, L15, HS55⟩
 · have c26 : ¬ ((!(c1.Unit.toList == (⟨#[]⟩ : ByteArray).toList)) = true) := c26
   refine wpRwI 19 (x := (!(c1.Unit.toList == (⟨#[]⟩ : ByteArray).toList))) (v := false) kr (Bool.eq_false_iff.mpr c26) ?_
   refine condF kr ?_
   refine wp_skip ?_
   refine hK22 _ _ ?_
   refine wp_seq_k (fun K42 hK43 => ?_)
   refine wp_seq_k fun K44 hK45 => rl ?_
   refine seqL1 kr ?_
   refine seqK rfl (does_run (run_load rfl Tryz.underlying9 rfl (kv (.pointer (some ⟨b4, 3, none⟩))) (HS17.cell 3)) ?_)
   refine seqL1 kr ?_
   refine nl (hK45 _ _ ?_)
   have hq_ := ite_some h; clear h; rcases hq_ with ⟨c47, h⟩ | ⟨c47, h⟩
   · have c47 : (!(c1.Note.toList == (⟨#[]⟩ : ByteArray).toList)) = true := c47
     refine wpRwI 28 (x := (!(c1.Note.toList == (⟨#[]⟩ : ByteArray).toList))) (v := true) kr c47 ?_
     refine condT kr ?_
     refine rl ?_
     refine seqL2 kr ?_
     refine seqK rfl (does_run (run_load rfl Tryz.underlying9 rfl (kv (.pointer (some ⟨b4, 3, none⟩))) (HS17.cell 3)) ?_)
     have hq_ := guard_some h; clear h; obtain ⟨c48, h⟩ := hq_
     have c48 : (⟨#[32, 47, 32]⟩ : ByteArray).size + c1.Note.size ≤ 9223372036854775807 := c48
     refine seqK rfl (does_run (run_concat rfl (kv (.string ⟨#[32, 47, 32]⟩)) (kv (.string c1.Note)) c48 W16) ?_)
     have hq_ := guard_some h; clear h; obtain ⟨c49, h⟩ := hq_
     have c49 : (((c1.Key ++ vt12) ++ (⟨#[61, 32]⟩ : ByteArray)) ++ c1.Value).size + ((⟨#[32, 47, 32]⟩ : ByteArray) ++ c1.Note).size ≤ 9223372036854775807 := c49
     refine seqK rfl (does_run (run_concat rfl (kv (.string (((c1.Key ++ vt12) ++ (⟨#[61, 32]⟩ : ByteArray)) ++ c1.Value))) (kv (.string ((⟨#[32, 47, 32]⟩ : ByteArray) ++ c1.Note))) c49 W16) ?_)
     refine seqL1 kr ?_
     refine nl (hK43 _ _ ?_)
     refine wp_seq_k fun K50 hK51 => rl ?_
     refine seqL2 kr ?_
     refine nl (hK51 _ _ ?_)
     refine wp_ret ?_
     refine hret _ _ ?_
     refine ends_still (v := Value.string ((((c1.Key ++ vt12) ++ (⟨#[61, 32]⟩ : ByteArray)) ++ c1.Value) ++ ((⟨#[32, 47, 32]⟩ : ByteArray) ++ c1.Note))) kr kr ?_
     have HS56 := HS17.drop
     injection h with h
     subst h
     exact ⟨f14, rfl, L15, HS56⟩
   · have c47 : ¬ ((!(c1.Note.toList == (⟨#[]⟩ : ByteArray).toList)) = true) := c47
     refine wpRwI 28 (x := (!(c1.Note.toList == (⟨#[]⟩ : ByteArray).toList))) (v := false) kr (Bool.eq_false_iff.mpr c47) ?_
     refine condF kr ?_
     refine wp_skip ?_
     refine hK43 _ _ ?_
     refine wp_seq_k fun K52 hK53 => rl ?_
     refine seqL2 kr ?_
     refine nl (hK53 _ _ ?_)
     refine wp_ret ?_
     refine hret _ _ ?_
     refine ends_still (v := Value.string (((c1.Key ++ vt12) ++ (⟨#[61, 32]⟩ : ByteArray)) ++ c1.Value)) kr kr ?_
     have HS57 := HS17.drop
     injection h with h
     subst h
     exact ⟨f14, rfl, L15, HS57⟩

set_option maxRecDepth 100000 in
set_option maxHeartbeats 4000000 in
theorem frame_CheckCard.calls (k : Nat)  (c1 : S_Card) {t w : World} {f : FM} {H : List Seg} (HS : St t w f (H)) (HA : TabF Tryz.prog "strings.asciiSpace" .u8 Go.Lib.asciiSpaceTab f) (rr1 : Int) (h : frame_CheckCard k c1 = some rr1) :
    Calls Tryz.prog 43 #[.agg #[.string c1.Key, .string c1.Value, .string c1.Unit, .string c1.Note]] w (fun e w' => ∃ (g : FM), e = .returned (Value.int .i64 rr1) ∧ FM.le f g ∧ St t w' g (H)) := by
 unfold frame_CheckCard at h
 refine enter Tryz.func43 rfl (tm := #[(ag_Card c1), uV, uV, uV, uV, uV, uV, uV, uV, uV, uV, uV, uV, uV, uV, uV, uV, uV, uV, uV, uV, uV, uV, uV, uV, uV, uV, uV, uV, uV, uV, uV, uV, uV, uV, uV, uV, uV, uV, uV, uV, uV, uV, uV, uV, uV, uV, uV, uV, uV, uV, uV, uV, uV, uV, uV, uV, uV, uV, uV, uV, uV, uV, uV, uV, uV, uV, uV, uV, uV, uV, uV, uV, uV, uV, uV]) kr ?_
 intro B hret hnor hnp
 refine wp_seq_k fun K2 hK3 => rl ?_
 refine seqK rfl (does_box (cs := #[.string c1.Key, .string c1.Value, .string c1.Unit, .string c1.Note]) rfl (kv (.agg #[.string c1.Key, .string c1.Value, .string c1.Unit, .string c1.Note])) rfl HS ?_)
 intro b4 W5 HS6
 refine seqL1 kr ?_
 refine nl (hK3 _ _ ?_)
 refine wp_seq_k (fun K8 hK9 => ?_)
 refine blockK (fun B10 hx11 hn12 hr13 ho14 hp15 => ?_)
 refine wp_seq_k fun K17 hK18 => rl ?_
 refine seqL1 kr ?_
 refine seqK rfl (does_run (run_load rfl Tryz.underlying9 rfl (kv (.pointer (some ⟨b4, 0, none⟩))) (HS6.cell 0)) ?_)
 refine seqL2 kr ?_
 have hq_ := ite_some h; clear h; rcases hq_ with ⟨c19, h⟩ | ⟨c19, h⟩
 · have c19 : (c1.Key.toList == (⟨#[]⟩ : ByteArray).toList) = true := c19
   refine seqRwI 6 (x := (c1.Key.toList == (⟨#[]⟩ : ByteArray).toList)) (v := true) kr c19 ?_
   refine seqRwI 7 (x := (c1.Key.toList == (⟨#[]⟩ : ByteArray).toList)) (v := true) kr c19 ?_
   refine seqL24 kr ?_
   refine nl (hK18 _ _ ?_)
   refine condT kr ?_
   refine wp_seq_k fun K20 hK21 => rl ?_
   refine seqL1 kr ?_
   refine nl (hK21 _ _ ?_)
   refine wp_ret ?_
   refine hr13 _ _ ?_
   refine hret _ _ ?_
   refine ends_still (v := Value.int .i64 6) kr kr ?_
   have HS124 := HS6.drop
   injection h with h
   subst h
   exact ⟨f, rfl, FM.le.refl _, HS124⟩
 · have c19 : ¬ ((c1.Key.toList == (⟨#[]⟩ : ByteArray).toList) = true) := c19
   refine seqRwI 6 (x := (c1.Key.toList == (⟨#[]⟩ : ByteArray).toList)) (v := false) kr (Bool.eq_false_iff.mpr c19) ?_
   refine seqRwI 7 (x := (c1.Key.toList == (⟨#[]⟩ : ByteArray).toList)) (v := false) kr (Bool.eq_false_iff.mpr c19) ?_
   refine seqL1 kr ?_
   refine seqG kr (does_run (run_load rfl Tryz.underlying9 rfl (kv (.pointer (some ⟨b4, 0, none⟩))) (HS6.cell 0)) ?_)
   refine seqL4 kr ?_
   have hq_ := ite_some h; clear h; rcases hq_ with ⟨c22, h⟩ | ⟨c22, h⟩
   · have c22 : (c1.Key.size : Int) > 8 := c22
     refine seqRwI 11 (x := (decide ((c1.Key.size : Int) > 8))) (v := true) kr (decide_eq_true c22) ?_
     refine seqRwI 12 (x := (decide ((c1.Key.size : Int) > 8))) (v := true) kr (decide_eq_true c22) ?_
     refine seqRwI 13 (x := (decide ((c1.Key.size : Int) > 8))) (v := true) kr (decide_eq_true c22) ?_
     refine seqL18 kr ?_
     refine nl (hK18 _ _ ?_)
     refine condT kr ?_
     refine wp_seq_k fun K23 hK24 => rl ?_
     refine seqL1 kr ?_
     refine nl (hK24 _ _ ?_)
     refine wp_ret ?_
     refine hr13 _ _ ?_
     refine hret _ _ ?_
     refine ends_still (v := Value.int .i64 6) kr kr ?_
     have HS125 := HS6.drop
     injection h with h
     subst h
     exact ⟨f, rfl, FM.le.refl _, HS125⟩
   · have c22 : ¬ ((c1.Key.size : Int) > 8) := c22
     refine seqRwI 11 (x := (decide ((c1.Key.size : Int) > 8))) (v := false) kr (decide_eq_false c22) ?_
     refine seqRwI 12 (x := (decide ((c1.Key.size : Int) > 8))) (v := false) kr (decide_eq_false c22) ?_
     refine seqRwI 13 (x := (decide ((c1.Key.size : Int) > 8))) (v := false) kr (decide_eq_false c22) ?_
     refine seqL1 kr ?_
     refine seqG kr (does_run (run_load rfl Tryz.underlying9 rfl (kv (.pointer (some ⟨b4, 0, none⟩))) (HS6.cell 0)) ?_)
     have hq_ := guard_some h; clear h; obtain ⟨c25, h⟩ := hq_
     have c25 : 0 < (c1.Key.size : Int) := c25
     refine seqG kr (does_run (run_byte rfl Tryz.underlying9 (kv (.string c1.Key)) (kv (.int .i64 0)) (by decide) c25 W5) ?_)
     have hq_ := bind_some h; clear h; obtain ⟨vt26, hc27, h⟩ := hq_
     refine seqG kr (does_call (f := 70) (args := #[.int .u8 (bt c1.Key 0)]) kr (frame_upper.calls k (bt c1.Key 0) HS6 vt26 hc27) ?_)
     rintro _ W30 ⟨f28, rfl, L29, HS31⟩
     refine ⟨_, rfl, ?_⟩
     refine seqL3 kr ?_
     have hq_ := ite_some h; clear h; rcases hq_ with ⟨c32, h⟩ | ⟨c32, h⟩
     · have c32 : ¬ (vt26 = true) := c32
       refine seqRwI 18 (x := (!vt26)) (v := true) kr (congrArg (fun b_ => !b_) (show vt26 = false from (Bool.eq_false_iff.mpr c32)) : (!vt26) = true) ?_
       refine seqRwI 19 (x := (!vt26)) (v := true) kr (congrArg (fun b_ => !b_) (show vt26 = false from (Bool.eq_false_iff.mpr c32)) : (!vt26) = true) ?_
       refine seqRwI 20 (x := (!vt26)) (v := true) kr (congrArg (fun b_ => !b_) (show vt26 = false from (Bool.eq_false_iff.mpr c32)) : (!vt26) = true) ?_
       refine seqL11 kr ?_
       refine nl (hK18 _ _ ?_)
       refine condT kr ?_
       refine wp_seq_k fun K33 hK34 => rl ?_
       refine seqL1 kr ?_
       refine nl (hK34 _ _ ?_)
       refine wp_ret ?_
       refine hr13 _ _ ?_
       refine hret _ _ ?_
       refine ends_still (v := Value.int .i64 6) kr kr ?_
       have HS126 := HS31.drop
       injection h with h
       subst h
       exact ⟨f28, rfl, L29, HS126⟩
     · have c32 : ¬ (¬ (vt26 = true)) := c32
       refine seqRwI 18 (x := (!vt26)) (v := false) kr (congrArg (fun b_ => !b_) (show vt26 = true from (Decidable.of_not_not c32)) : (!vt26) = false) ?_
       refine seqRwI 19 (x := (!vt26)) (v := false) kr (congrArg (fun b_ => !b_) (show vt26 = true from (Decidable.of_not_not c32)) : (!vt26) = false) ?_
       refine seqRwI 20 (x := (!vt26)) (v := false) kr (congrArg (fun b_ => !b_) (show vt26 = true from (Decidable.of_not_not c32)) : (!vt26) = false) ?_
       refine seqL1 kr ?_
       refine seqG kr (does_run (run_load rfl Tryz.underlying9 rfl (kv (.pointer (some ⟨b4, 0, none⟩))) (HS31.cell 0)) ?_)
       have hq_ := bind_some h; clear h; obtain ⟨vt35, hc36, h⟩ := hq_
       refine seqG kr (does_call (f := 71) (args := #[.string c1.Key, .func (.func 72) #[] #[]]) kr (frame_all__frame_inKey.calls k c1.Key HS31 vt35 hc36) ?_)
       rintro _ W39 ⟨f37, rfl, L38, HS40⟩
       refine ⟨_, rfl, ?_⟩
       refine seqL3 kr ?_
       have hq_ := ite_some h; clear h; rcases hq_ with ⟨c41, h⟩ | ⟨c41, h⟩
       · have c41 : ¬ (vt35 = true) := c41
         refine seqRwI 24 (x := (!vt35)) (v := true) kr (congrArg (fun b_ => !b_) (show vt35 = false from (Bool.eq_false_iff.mpr c41)) : (!vt35) = true) ?_
         refine seqRwI 25 (x := (!vt35)) (v := true) kr (congrArg (fun b_ => !b_) (show vt35 = false from (Bool.eq_false_iff.mpr c41)) : (!vt35) = true) ?_
         refine seqRwI 26 (x := (!vt35)) (v := true) kr (congrArg (fun b_ => !b_) (show vt35 = false from (Bool.eq_false_iff.mpr c41)) : (!vt35) = true) ?_
         refine seqL5 kr ?_
         refine nl (hK18 _ _ ?_)
         refine condT kr ?_
         refine wp_seq_k fun K42 hK43 => rl ?_
         refine seqL1 kr ?_
         refine nl (hK43 _ _ ?_)
         refine wp_ret ?_
         refine hr13 _ _ ?_
         refine hret _ _ ?_
         refine ends_still (v := Value.int .i64 6) kr kr ?_
         have HS127 := HS40.drop
         injection h with h
         subst h
         exact ⟨f37, rfl, (L29.trans L38), HS127⟩
       · have c41 : ¬ (¬ (vt35 = true)) := c41
         refine seqRwI 24 (x := (!vt35)) (v := false) kr (congrArg (fun b_ => !b_) (show vt35 = true from (Decidable.of_not_not c41)) : (!vt35) = false) ?_
         refine seqRwI 25 (x := (!vt35)) (v := false) kr (congrArg (fun b_ => !b_) (show vt35 = true from (Decidable.of_not_not c41)) : (!vt35) = false) ?_
         refine seqRwI 26 (x := (!vt35)) (v := false) kr (congrArg (fun b_ => !b_) (show vt35 = true from (Decidable.of_not_not c41)) : (!vt35) = false) ?_
         refine seqL1 kr ?_
         refine seqG kr (does_run (run_load rfl Tryz.underlying9 rfl (kv (.pointer (some ⟨b4, 0, none⟩))) (HS40.cell 0)) ?_)
         have hq_ := bind_some h; clear h; obtain ⟨vt44, hc45, h⟩ := hq_
         refine seqG kr (does_call (f := 73) (args := #[.string c1.Key]) kr (frame_own.calls k c1.Key HS40 vt44 hc45) ?_)
         rintro _ W48 ⟨f46, rfl, L47, HS49⟩
         refine ⟨_, rfl, ?_⟩
         refine seqL2 kr ?_
         refine nl (hK18 _ _ ?_)
         have hq_ := ite_some h; clear h; rcases hq_ with ⟨c51, h⟩ | ⟨c51, h⟩
         · have c51 : vt44 = true := c51
           refine wpRwI 3 (x := vt44) (v := true) kr c51 ?_
           refine wpRwI 29 (x := vt44) (v := true) kr c51 ?_
           refine wpRwI 30 (x := vt44) (v := true) kr c51 ?_
           refine condT kr ?_
           refine wp_seq_k fun K52 hK53 => rl ?_
           refine seqL1 kr ?_
           refine nl (hK53 _ _ ?_)
           refine wp_ret ?_
           refine hr13 _ _ ?_
           refine hret _ _ ?_
           refine ends_still (v := Value.int .i64 6) kr kr ?_
           have HS128 := HS49.drop
           injection h with h
           subst h
           exact ⟨f46, rfl, (L29.trans (L38.trans L47)), HS128⟩
         · have c51 : ¬ (vt44 = true) := c51
           refine wpRwI 3 (x := vt44) (v := false) kr (Bool.eq_false_iff.mpr c51) ?_
           refine wpRwI 29 (x := vt44) (v := false) kr (Bool.eq_false_iff.mpr c51) ?_
           refine wpRwI 30 (x := vt44) (v := false) kr (Bool.eq_false_iff.mpr c51) ?_
           refine condF kr ?_
           refine wp_seq_k fun K54 hK55 => rl ?_
           refine seqL1 kr ?_
           refine seqK rfl (does_run (run_load rfl Tryz.underlying9 rfl (kv (.pointer (some ⟨b4, 1, none⟩))) (HS49.cell 1)) ?_)
           refine seqL2 kr ?_
           have hq_ := ite_some h; clear h; rcases hq_ with ⟨c56, h⟩ | ⟨c56, h⟩
           · have c56 : (c1.Value.toList == (⟨#[]⟩ : ByteArray).toList) = true := c56
             refine seqRwI 34 (x := (c1.Value.toList == (⟨#[]⟩ : ByteArray).toList)) (v := true) kr c56 ?_
             refine seqRwI 35 (x := (c1.Value.toList == (⟨#[]⟩ : ByteArray).toList)) (v := true) kr c56 ?_
             refine seqL12 kr ?_
             refine nl (hK55 _ _ ?_)
             refine condT kr ?_
             refine wp_seq_k fun K57 hK58 => rl ?_
             refine seqL1 kr ?_
             refine nl (hK58 _ _ ?_)
             refine wp_ret ?_
             refine hr13 _ _ ?_
             refine hret _ _ ?_
             refine ends_still (v := Value.int .i64 3) kr kr ?_
             have HS129 := HS49.drop
             injection h with h
             subst h
             exact ⟨f46, rfl, (L29.trans (L38.trans L47)), HS129⟩
           · have c56 : ¬ ((c1.Value.toList == (⟨#[]⟩ : ByteArray).toList) = true) := c56
             refine seqRwI 34 (x := (c1.Value.toList == (⟨#[]⟩ : ByteArray).toList)) (v := false) kr (Bool.eq_false_iff.mpr c56) ?_
             refine seqRwI 35 (x := (c1.Value.toList == (⟨#[]⟩ : ByteArray).toList)) (v := false) kr (Bool.eq_false_iff.mpr c56) ?_
             refine seqL1 kr ?_
             refine seqG kr (does_run (run_load rfl Tryz.underlying9 rfl (kv (.pointer (some ⟨b4, 1, none⟩))) (HS49.cell 1)) ?_)
             refine seqL4 kr ?_
             have hq_ := ite_some h; clear h; rcases hq_ with ⟨c59, h⟩ | ⟨c59, h⟩
             · have c59 : (c1.Value.size : Int) > 20 := c59
               refine seqRwI 39 (x := (decide ((c1.Value.size : Int) > 20))) (v := true) kr (decide_eq_true c59) ?_
               refine seqRwI 40 (x := (decide ((c1.Value.size : Int) > 20))) (v := true) kr (decide_eq_true c59) ?_
               refine seqRwI 41 (x := (decide ((c1.Value.size : Int) > 20))) (v := true) kr (decide_eq_true c59) ?_
               refine seqL6 kr ?_
               refine nl (hK55 _ _ ?_)
               refine condT kr ?_
               refine wp_seq_k fun K60 hK61 => rl ?_
               refine seqL1 kr ?_
               refine nl (hK61 _ _ ?_)
               refine wp_ret ?_
               refine hr13 _ _ ?_
               refine hret _ _ ?_
               refine ends_still (v := Value.int .i64 3) kr kr ?_
               have HS130 := HS49.drop
               injection h with h
               subst h
               exact ⟨f46, rfl, (L29.trans (L38.trans L47)), HS130⟩
             · have c59 : ¬ ((c1.Value.size : Int) > 20) := c59
               refine seqRwI 39 (x := (decide ((c1.Value.size : Int) > 20))) (v := false) kr (decide_eq_false c59) ?_
               refine seqRwI 40 (x := (decide ((c1.Value.size : Int) > 20))) (v := false) kr (decide_eq_false c59) ?_
               refine seqRwI 41 (x := (decide ((c1.Value.size : Int) > 20))) (v := false) kr (decide_eq_false c59) ?_
               refine seqL1 kr ?_
               refine seqG kr (does_run (run_load rfl Tryz.underlying9 rfl (kv (.pointer (some ⟨b4, 1, none⟩))) (HS49.cell 1)) ?_)
               have hq_ := bind_some h; clear h; obtain ⟨vt62, hc63, h⟩ := hq_
               refine seqG kr (does_call (f := 71) (args := #[.string c1.Value, .func (.func 74) #[] #[]]) kr (frame_all__frame_inked.calls k c1.Value HS49 vt62 hc63) ?_)
               rintro _ W66 ⟨f64, rfl, L65, HS67⟩
               refine ⟨_, rfl, ?_⟩
               refine seqL3 kr ?_
               refine nl (hK55 _ _ ?_)
               have hq_ := ite_some h; clear h; rcases hq_ with ⟨c69, h⟩ | ⟨c69, h⟩
               · have c69 : ¬ (vt62 = true) := c69
                 refine wpRwI 31 (x := (!vt62)) (v := true) kr (congrArg (fun b_ => !b_) (show vt62 = false from (Bool.eq_false_iff.mpr c69)) : (!vt62) = true) ?_
                 refine wpRwI 45 (x := (!vt62)) (v := true) kr (congrArg (fun b_ => !b_) (show vt62 = false from (Bool.eq_false_iff.mpr c69)) : (!vt62) = true) ?_
                 refine wpRwI 46 (x := (!vt62)) (v := true) kr (congrArg (fun b_ => !b_) (show vt62 = false from (Bool.eq_false_iff.mpr c69)) : (!vt62) = true) ?_
                 refine condT kr ?_
                 refine wp_seq_k fun K70 hK71 => rl ?_
                 refine seqL1 kr ?_
                 refine nl (hK71 _ _ ?_)
                 refine wp_ret ?_
                 refine hr13 _ _ ?_
                 refine hret _ _ ?_
                 refine ends_still (v := Value.int .i64 3) kr kr ?_
                 have HS131 := HS67.drop
                 injection h with h
                 subst h
                 exact ⟨f64, rfl, (L29.trans (L38.trans (L47.trans L65))), HS131⟩
               · have c69 : ¬ (¬ (vt62 = true)) := c69
                 refine wpRwI 31 (x := (!vt62)) (v := false) kr (congrArg (fun b_ => !b_) (show vt62 = true from (Decidable.of_not_not c69)) : (!vt62) = false) ?_
                 refine wpRwI 45 (x := (!vt62)) (v := false) kr (congrArg (fun b_ => !b_) (show vt62 = true from (Decidable.of_not_not c69)) : (!vt62) = false) ?_
                 refine wpRwI 46 (x := (!vt62)) (v := false) kr (congrArg (fun b_ => !b_) (show vt62 = true from (Decidable.of_not_not c69)) : (!vt62) = false) ?_
                 refine condF kr ?_
                 refine wp_seq_k fun K72 hK73 => rl ?_
                 refine seqL1 kr ?_
                 refine seqK rfl (does_run (run_load rfl Tryz.underlying9 rfl (kv (.pointer (some ⟨b4, 2, none⟩))) (HS67.cell 2)) ?_)
                 refine seqL3 kr ?_
                 have hq_ := ite_some h; clear h; rcases hq_ with ⟨c74, h⟩ | ⟨c74, h⟩
                 · have c74 : (c1.Unit.size : Int) > 8 := c74
                   refine seqRwI 51 (x := (decide ((c1.Unit.size : Int) > 8))) (v := true) kr (decide_eq_true c74) ?_
                   refine seqRwI 52 (x := (decide ((c1.Unit.size : Int) > 8))) (v := true) kr (decide_eq_true c74) ?_
                   refine seqL6 kr ?_
                   refine nl (hK73 _ _ ?_)
                   refine condT kr ?_
                   refine wp_seq_k fun K75 hK76 => rl ?_
                   refine seqL1 kr ?_
                   refine nl (hK76 _ _ ?_)
                   refine wp_ret ?_
                   refine hr13 _ _ ?_
                   refine hret _ _ ?_
                   refine ends_still (v := Value.int .i64 3) kr kr ?_
                   have HS132 := HS67.drop
                   injection h with h
                   subst h
                   exact ⟨f64, rfl, (L29.trans (L38.trans (L47.trans L65))), HS132⟩
                 · have c74 : ¬ ((c1.Unit.size : Int) > 8) := c74
                   refine seqRwI 51 (x := (decide ((c1.Unit.size : Int) > 8))) (v := false) kr (decide_eq_false c74) ?_
                   refine seqRwI 52 (x := (decide ((c1.Unit.size : Int) > 8))) (v := false) kr (decide_eq_false c74) ?_
                   refine seqL1 kr ?_
                   refine seqG kr (does_run (run_load rfl Tryz.underlying9 rfl (kv (.pointer (some ⟨b4, 2, none⟩))) (HS67.cell 2)) ?_)
                   have hq_ := bind_some h; clear h; obtain ⟨vt77, hc78, h⟩ := hq_
                   refine seqG kr (does_call (f := 71) (args := #[.string c1.Unit, .func (.func 75) #[] #[]]) kr (frame_all__frame_lower.calls k c1.Unit HS67 vt77 hc78) ?_)
                   rintro _ W81 ⟨f79, rfl, L80, HS82⟩
                   refine ⟨_, rfl, ?_⟩
                   refine seqL3 kr ?_
                   refine nl (hK73 _ _ ?_)
                   have hq_ := ite_some h; clear h; rcases hq_ with ⟨c84, h⟩ | ⟨c84, h⟩
                   · have c84 : ¬ (vt77 = true) := c84
                     refine wpRwI 47 (x := (!vt77)) (v := true) kr (congrArg (fun b_ => !b_) (show vt77 = false from (Bool.eq_false_iff.mpr c84)) : (!vt77) = true) ?_
                     refine wpRwI 56 (x := (!vt77)) (v := true) kr (congrArg (fun b_ => !b_) (show vt77 = false from (Bool.eq_false_iff.mpr c84)) : (!vt77) = true) ?_
                     refine wpRwI 57 (x := (!vt77)) (v := true) kr (congrArg (fun b_ => !b_) (show vt77 = false from (Bool.eq_false_iff.mpr c84)) : (!vt77) = true) ?_
                     refine condT kr ?_
                     refine wp_seq_k fun K85 hK86 => rl ?_
                     refine seqL1 kr ?_
                     refine nl (hK86 _ _ ?_)
                     refine wp_ret ?_
                     refine hr13 _ _ ?_
                     refine hret _ _ ?_
                     refine ends_still (v := Value.int .i64 3) kr kr ?_
                     have HS133 := HS82.drop
                     injection h with h
                     subst h
                     exact ⟨f79, rfl, (L29.trans (L38.trans (L47.trans (L65.trans L80)))), HS133⟩
                   · have c84 : ¬ (¬ (vt77 = true)) := c84
                     refine wpRwI 47 (x := (!vt77)) (v := false) kr (congrArg (fun b_ => !b_) (show vt77 = true from (Decidable.of_not_not c84)) : (!vt77) = false) ?_
                     refine wpRwI 56 (x := (!vt77)) (v := false) kr (congrArg (fun b_ => !b_) (show vt77 = true from (Decidable.of_not_not c84)) : (!vt77) = false) ?_
                     refine wpRwI 57 (x := (!vt77)) (v := false) kr (congrArg (fun b_ => !b_) (show vt77 = true from (Decidable.of_not_not c84)) : (!vt77) = false) ?_
                     refine condF kr ?_
                     refine wp_seq_k (fun K87 hK88 => ?_)
                     refine heldG (S := Sg t f79 ([(b4, .cells #[.string c1.Key, .string c1.Value, .string c1.Unit, .string c1.Note] 51 (0, 0))] :: H) []) (n := 13) kr rfl HS82 ?_
                     intro W89 HS90
                     refine takeGL [0] (n := 13) (fuel := 12) #[true, false, false, false, false, false, false, false, false, false, false, false, false] rfl kr kr kr (fun ch_ a_ w_ q_ => hnp ch_ a_ w_ (hp15 ch_ a_ w_ q_)) (Sg.g0 (Sx.of [] (FM.le.refl _) HS90)) ?_
                     refine takeGQ 1 [] rfl kr kr kr kr kr kr (fun ch_ a_ w_ q_ => hnp ch_ a_ w_ (hp15 ch_ a_ w_ q_)) (Sg.g0 (Sx.of [] (FM.le.refl _) HS90)) (fun w_ hw_ => by obtain ⟨g_, hl_, hS_⟩ := hw_.st; exact run_load rfl Tryz.underlying9 rfl (kv (.pointer (some ⟨b4, 3, none⟩))) (hS_.cell 3)) ?_
                     have hq_ := bind_some h; clear h; obtain ⟨vt91, hc92, h⟩ := hq_
                     refine takeGE 2 kr rfl kr (does_call (f := 71) (args := #[.string c1.Note, .func (.func 76) #[] #[]]) kr (frame_all__frame_typed.calls k c1.Note HS90 vt91 hc92) ?_)
                     rintro _ W95 ⟨f93, rfl, L94, HS96⟩
                     refine ⟨_, rfl, ?_⟩
                     refine ⟨(Sg.g0 (Sx.of [] L94 HS96)), ?_⟩
                     refine takeGL [3, 4] (n := 10) (fuel := 8) #[true, true, true, true, true, false, false, false, false, false, false, false, false] rfl kr kr kr (fun ch_ a_ w_ q_ => hnp ch_ a_ w_ (hp15 ch_ a_ w_ q_)) (Sg.g0 (Sx.of [] L94 HS96)) ?_
                     have hq_ := ite_some h; clear h; rcases hq_ with ⟨c97, h⟩ | ⟨c97, h⟩
                     · have c97 : ¬ (vt91 = true) := c97
                       refine gateRwI 62 (x := (!vt91)) (v := true) kr (congrArg (fun b_ => !b_) (show vt91 = false from (Bool.eq_false_iff.mpr c97)) : (!vt91) = true) ?_
                       refine gateRwI 63 (x := (!vt91)) (v := true) kr (congrArg (fun b_ => !b_) (show vt91 = false from (Bool.eq_false_iff.mpr c97)) : (!vt91) = true) ?_
                       refine takeGL [5, 6, 7, 8, 9, 10, 11, 12] (n := 8) (fuel := 0) #[true, true, true, true, true, true, true, true, true, true, true, true, true] rfl kr kr kr (fun ch_ a_ w_ q_ => hnp ch_ a_ w_ (hp15 ch_ a_ w_ q_)) (Sg.g0 (Sx.of [] L94 HS96)) ?_
                       refine doneG kr ?_ _
                       refine hK88 _ _ ?_
                       refine condT kr ?_
                       refine wp_seq_k fun K98 hK99 => rl ?_
                       refine seqL1 kr ?_
                       refine nl (hK99 _ _ ?_)
                       refine wp_ret ?_
                       refine hr13 _ _ ?_
                       refine hret _ _ ?_
                       refine ends_still (v := Value.int .i64 3) kr kr ?_
                       have HS134 := HS96.drop
                       injection h with h
                       subst h
                       exact ⟨f93, rfl, (L29.trans (L38.trans (L47.trans (L65.trans (L80.trans L94))))), HS134⟩
                     · have c97 : ¬ (¬ (vt91 = true)) := c97
                       refine gateRwI 62 (x := (!vt91)) (v := false) kr (congrArg (fun b_ => !b_) (show vt91 = true from (Decidable.of_not_not c97)) : (!vt91) = false) ?_
                       refine gateRwI 63 (x := (!vt91)) (v := false) kr (congrArg (fun b_ => !b_) (show vt91 = true from (Decidable.of_not_not c97)) : (!vt91) = false) ?_
                       refine takeGL [5] (n := 8) (fuel := 7) #[true, true, true, true, true, true, false, false, false, false, false, false, false] rfl kr kr kr (fun ch_ a_ w_ q_ => hnp ch_ a_ w_ (hp15 ch_ a_ w_ q_)) (Sg.g0 (Sx.of [] L94 HS96)) ?_
                       refine takeGQ 6 [] rfl kr kr kr kr kr kr (fun ch_ a_ w_ q_ => hnp ch_ a_ w_ (hp15 ch_ a_ w_ q_)) (Sg.g0 (Sx.of [] L94 HS96)) (fun w_ hw_ => by obtain ⟨g_, hl_, hS_⟩ := hw_.st; exact run_load rfl Tryz.underlying9 rfl (kv (.pointer (some ⟨b4, 3, none⟩))) (hS_.cell 3)) ?_
                       refine takeGL [8] (n := 6) (fuel := 5) #[true, true, true, true, true, true, true, false, true, false, false, false, false] rfl kr kr kr (fun ch_ a_ w_ q_ => hnp ch_ a_ w_ (hp15 ch_ a_ w_ q_)) (Sg.g0 (Sx.of [] L94 HS96)) ?_
                       refine takeGQ 9 [] rfl kr kr kr kr kr kr (fun ch_ a_ w_ q_ => hnp ch_ a_ w_ (hp15 ch_ a_ w_ q_)) (Sg.g0 (Sx.of [] L94 HS96)) (fun w_ hw_ => by obtain ⟨g_, hl_, hS_⟩ := hw_.st; exact run_load rfl Tryz.underlying9 rfl (kv (.pointer (some ⟨b4, 3, none⟩))) (hS_.cell 3)) ?_
                       have hq_ := bind_some h; clear h; obtain ⟨vt100, hc101, h⟩ := hq_
                       refine takeGE 7 kr rfl kr (does_call (f := 77) (args := #[.string c1.Note]) kr (strings_TrimSpace.calls k c1.Note HS96 (HA.mono (L29.trans (L38.trans (L47.trans (L65.trans (L80.trans L94)))))) vt100 hc101) ?_)
                       rintro _ W104 ⟨f102, rfl, L103, HS105⟩
                       refine ⟨_, rfl, ?_⟩
                       refine ⟨(Sg.g0 (Sx.of [] (L94.trans L103) HS105)), ?_⟩
                       refine takeGL [10, 11, 12] (n := 3) (fuel := 0) #[true, true, true, true, true, true, true, true, true, true, true, true, true] rfl kr kr kr (fun ch_ a_ w_ q_ => hnp ch_ a_ w_ (hp15 ch_ a_ w_ q_)) (Sg.g0 (Sx.of [] (L94.trans L103) HS105)) ?_
                       refine doneG kr ?_ _
                       refine hK88 _ _ ?_
                       have hq_ := ite_some h; clear h; rcases hq_ with ⟨c107, h⟩ | ⟨c107, h⟩
                       · have c107 : (!(vt100.toList == c1.Note.toList)) = true := c107
                         refine wpRwI 58 (x := (!(vt100.toList == c1.Note.toList))) (v := true) kr c107 ?_
                         refine wpRwI 69 (x := (!(vt100.toList == c1.Note.toList))) (v := true) kr c107 ?_
                         refine wpRwI 70 (x := (!(vt100.toList == c1.Note.toList))) (v := true) kr c107 ?_
                         refine condT kr ?_
                         refine wp_seq_k fun K108 hK109 => rl ?_
                         refine seqL1 kr ?_
                         refine nl (hK109 _ _ ?_)
                         refine wp_ret ?_
                         refine hr13 _ _ ?_
                         refine hret _ _ ?_
                         refine ends_still (v := Value.int .i64 3) kr kr ?_
                         have HS135 := HS105.drop
                         injection h with h
                         subst h
                         exact ⟨f102, rfl, (L29.trans (L38.trans (L47.trans (L65.trans (L80.trans (L94.trans L103)))))), HS135⟩
                       · have c107 : ¬ ((!(vt100.toList == c1.Note.toList)) = true) := c107
                         refine wpRwI 58 (x := (!(vt100.toList == c1.Note.toList))) (v := false) kr (Bool.eq_false_iff.mpr c107) ?_
                         refine wpRwI 69 (x := (!(vt100.toList == c1.Note.toList))) (v := false) kr (Bool.eq_false_iff.mpr c107) ?_
                         refine wpRwI 70 (x := (!(vt100.toList == c1.Note.toList))) (v := false) kr (Bool.eq_false_iff.mpr c107) ?_
                         refine condF kr ?_
                         refine wp_seq_k fun K110 hK111 => rl ?_
                         refine seqK rfl (does_run (run_loadN (n := 4) rfl Tryz.underlying51 rfl kr (kv (.pointer (some ⟨b4, 0, none⟩))) (cs := [.string c1.Key, .string c1.Value, .string c1.Unit, .string c1.Note]) rfl (HS105.cells 0 4 _ rfl)) ?_)
                         have hq_ := bind_some h; clear h; obtain ⟨vt112, hc113, h⟩ := hq_
                         refine seqK rfl (does_call (f := 48) (args := #[.agg #[.string c1.Key, .string c1.Value, .string c1.Unit, .string c1.Note]]) kr (frame_text.calls k c1 HS105 vt112 hc113) ?_)
                         rintro _ W116 ⟨f114, rfl, L115, HS117⟩
                         refine ⟨_, rfl, ?_⟩
                         refine seqL3 kr ?_
                         refine nl (hK111 _ _ ?_)
                         have hq_ := ite_some h; clear h; rcases hq_ with ⟨c119, h⟩ | ⟨c119, h⟩
                         · have c119 : (vt112.size : Int) > 64 := c119
                           refine wpRwI 71 (x := (decide ((vt112.size : Int) > 64))) (v := true) kr (decide_eq_true c119) ?_
                           refine wpRwI 75 (x := (decide ((vt112.size : Int) > 64))) (v := true) kr (decide_eq_true c119) ?_
                           refine condT kr ?_
                           refine wp_seq_k fun K120 hK121 => rl ?_
                           refine seqL1 kr ?_
                           refine nl (hK121 _ _ ?_)
                           refine wp_ret ?_
                           refine hr13 _ _ ?_
                           refine hret _ _ ?_
                           refine ends_still (v := Value.int .i64 2) kr kr ?_
                           have HS136 := HS117.drop
                           injection h with h
                           subst h
                           exact ⟨f114, rfl, (L29.trans (L38.trans (L47.trans (L65.trans (L80.trans (L94.trans (L103.trans L115))))))), HS136⟩
                         · have c119 : ¬ ((vt112.size : Int) > 64) := c119
                           refine wpRwI 71 (x := (decide ((vt112.size : Int) > 64))) (v := false) kr (decide_eq_false c119) ?_
                           refine wpRwI 75 (x := (decide ((vt112.size : Int) > 64))) (v := false) kr (decide_eq_false c119) ?_
                           refine condF kr ?_
                           refine wp_skip ?_
                           refine hn12 _ _ ?_
                           refine hK9 _ _ ?_
                           refine wp_seq_k fun K122 hK123 => rl ?_
                           refine seqL1 kr ?_
                           refine nl (hK123 _ _ ?_)
                           refine wp_ret ?_
                           refine hret _ _ ?_
                           refine ends_still (v := Value.int .i64 0) kr kr ?_
                           have HS137 := HS117.drop
                           injection h with h
                           subst h
                           exact ⟨f114, rfl, (L29.trans (L38.trans (L47.trans (L65.trans (L80.trans (L94.trans (L103.trans L115))))))), HS137⟩

set_option maxRecDepth 100000 in
set_option maxHeartbeats 4000000 in
theorem frame_find_1.calls (k : Nat) (b1 : Nat) (v3 : ByteArray) (c4 : S_Card) {t w : World} {f : FM} {H : List Seg} (HS : St t w f ([(b1, .cells #[.string v3] 9 (0, 0))] :: H)) (rr1 : Bool) (h : frame_find_1 k v3 c4 = some rr1) :
    Calls Tryz.prog 64 #[.agg #[.string c4.Key, .string c4.Value, .string c4.Unit, .string c4.Note], .pointer (some ⟨b1, 0, none⟩)] w (fun e w' => ∃ (g : FM), e = .returned (Value.bool rr1) ∧ FM.le f g ∧ St t w' g ([(b1, .cells #[.string v3] 9 (0, 0))] :: H)) := by
 unfold frame_find_1 at h
 refine enter Tryz.func64 rfl (tm := #[(ag_Card c4), pV b1 0, uV, uV, uV, uV, uV, uV]) kr ?_
 intro B hret hnor hnp
 refine wp_seq_k fun K5 hK6 => rl ?_
 refine seqK rfl (does_box (cs := #[.string c4.Key, .string c4.Value, .string c4.Unit, .string c4.Note]) rfl (kv (.agg #[.string c4.Key, .string c4.Value, .string c4.Unit, .string c4.Note])) rfl HS ?_)
 intro b7 W8 HS9
 refine seqL1 kr ?_
 refine nl (hK6 _ _ ?_)
 refine wp_seq_k fun K11 hK12 => rl ?_
 refine seqL1 kr ?_
 refine seqK rfl (does_run (run_load rfl Tryz.underlying9 rfl (kv (.pointer (some ⟨b7, 0, none⟩))) (HS9.cell 0)) ?_)
 refine seqK rfl (does_run (run_load rfl Tryz.underlying9 rfl (kv (.pointer (some ⟨b1, 0, none⟩))) (HS9.u1.cell 0)) ?_)
 refine seqL2 kr ?_
 refine nl (hK12 _ _ ?_)
 refine wp_ret ?_
 refine hret _ _ ?_
 refine ends_still (v := Value.bool (c4.Key.toList == v3.toList)) kr kr ?_
 have HS13 := HS9.drop
 injection h with h
 subst h
 exact ⟨f, rfl, FM.le.refl _, HS13⟩

set_option maxRecDepth 100000 in
set_option maxHeartbeats 4000000 in
theorem slices_IndexFunc_Card__frame_find_1.calls (k : Nat) (b1 : Nat) (A5 : Option Addr) (c6 : Nat) (v3 : ByteArray) (s4 : List S_Card) {t w : World} {f : FM} {H : List Seg} (HS : St t w f ([(b1, .cells #[.string v3] 9 (0, 0))] :: H)) (HR7 : SlR ty_Card f A5 c6 s4) (rr1 : Int) (h : slices_IndexFunc_Card__frame_find_1 k v3 s4 = some rr1) :
    Calls Tryz.prog 63 #[.slice A5 s4.length c6, .func (.func 64) #[] #[.pointer (some ⟨b1, 0, none⟩)]] w (fun e w' => ∃ (g : FM), e = .returned (Value.int .i64 rr1) ∧ FM.le f g ∧ St t w' g ([(b1, .cells #[.string v3] 9 (0, 0))] :: H)) := by
 unfold slices_IndexFunc_Card__frame_find_1 at h
 refine enter Tryz.func63 rfl (tm := #[.slice A5 s4.length c6, .func (.func 64) #[] #[pV b1 0], uV, uV, uV, uV, uV, uV, uV, uV, uV, uV, uV, uV, uV, uV, uV, uV, uV]) kr ?_
 intro B hret hnor hnp
 refine wp_seq_k fun K8 hK9 => rl ?_
 refine seqL1 kr ?_
 refine nl (hK9 _ _ ?_)
 refine wp_seq_k (fun K10 hK11 => ?_)
 refine wp_seq_k fun K12 hK13 => rl ?_
 refine seqL3 kr ?_
 refine nl (hK13 _ _ ?_)
 refine blockK (fun B14 hx15 hn16 hr17 ho18 hp19 => ?_)
 have hq_ := bind_some h; clear h; obtain ⟨o20, hv71, h⟩ := hq_
 have JR73 : ∀ z_, some (Sum.inl z_) = some o20 → some z_ = some rr1 := by
  intro z_ e_; injection e_ with e_; subst e_; exact h
 have J72 : ∀ (f66 : FM) (j70 : Nat → Value) (W68 : World) (a_ : Act), FM.le f f66 → some (Sum.inr ()) = some o20 → St t W68 f66 ([(b1, .cells #[.string v3] 9 (0, 0))] :: H) → a_ = ⟨#[.slice A5 s4.length c6, .func (.func 64) #[] #[pV b1 0], uV, uV, (j70 0), (j70 1), .slice A5 s4.length c6, iV (s4.length : Int), (j70 2), (j70 3), (j70 4), (j70 5), (j70 6), (j70 7), (j70 8), (j70 9), (j70 10), (j70 11), (j70 12)], []⟩ → K10 a_ W68 := by
  intro f66 j70 W68 a_ L67 hj74 HS69  hfr_; subst hfr_
  injection hj74 with hj74; subst hj74; try dsimp only at h
  simp only [Sum.elim_inr] at h
  refine hK11 _ _ ?_
  refine wp_seq_k fun K75 hK76 => rl ?_
  refine seqL1 kr ?_
  refine nl (hK76 _ _ ?_)
  refine wp_ret ?_
  refine hret _ _ ?_
  refine ends_still (v := Value.int .i64 (-1)) kr kr ?_
  injection h with h
  subst h
  exact ⟨f66, rfl, L67, HS69⟩
 clear h; have h := hv71; clear hv71
 refine loopK (fun n_ a_ w_ => ∃ (f24 : FM) (x29 : Int) (j28 : Nat → Value), FM.le f f24 ∧ St t w_ f24 ([(b1, .cells #[.string v3] 9 (0, 0))] :: H) ∧ slices_IndexFunc_Card__frame_find_1.l0 k s4 v3 n_ x29 = some o20 ∧ a_ = ⟨#[.slice A5 s4.length c6, .func (.func 64) #[] #[pV b1 0], uV, uV, (j28 0), (j28 1), .slice A5 s4.length c6, iV (s4.length : Int), iV x29, (j28 2), (j28 3), (j28 4), (j28 5), (j28 6), (j28 7), (j28 8), (j28 9), (j28 10), (j28 11)], []⟩) k ⟨f, 0, (fun i_ => [Value.int .i64 0, undef, undef, undef, undef, undef, undef, undef, undef, undef, undef, undef].getD i_ undef), (FM.le.refl _), HS, h, kr⟩ ?_
 clear h
 rintro n23 _ W26 ⟨f24, x29, j28, L25, HS27, h, rfl⟩ K21 hK22
 obtain _ | n23 := n23
 · exact nomatch h
 simp only [slices_IndexFunc_Card__frame_find_1.l0] at h
 refine wp_seq_k fun K30 hK31 => rl ?_
 refine seqL1 kr ?_
 refine nl (hK31 _ _ ?_)
 refine wp_seq_k (fun K32 hK33 => ?_)
 have hq_ := ite_some h; clear h; rcases hq_ with ⟨c35, h⟩ | ⟨c35, h⟩
 · have c35 : x29 < (s4.length : Int) := c35
   refine wpRwI 9 (x := (decide (x29 < (s4.length : Int)))) (v := true) kr (decide_eq_true c35) ?_
   refine condT kr ?_
   refine wp_skip ?_
   refine hK33 _ _ ?_
   refine wp_seq_k (fun K36 hK37 => ?_)
   refine blockK (fun B38 hx39 hn40 hr41 ho42 hp43 => ?_)
   refine wp_seq_k fun K45 hK46 => rl ?_
   refine seqL2 kr ?_
   refine nl (hK46 _ _ ?_)
   refine wp_seq_k fun K47 hK48 => rl ?_
   have hq_ := guard_some h; clear h; obtain ⟨c49, h⟩ := hq_
   have c49 : 0 ≤ x29 := c49
   obtain ⟨b53, of54, cs50, hA55, hr51, hc52⟩ := (HR7.mono L25).at (i := x29) c49 c35
   obtain rfl := hr51
   refine seqL3 kr ?_
   refine seqK rfl (does_run (run_indexE hA55 (sz := 4) rfl Tryz.underlying27 kr (kv (.slice A5 s4.length c6)) (kv (.int .i64 x29)) c49 c35 W26) ?_)
   refine seqK rfl (does_run (run_loadN (n := 4) rfl Tryz.underlying51 rfl kr (kv (.pointer (some ⟨b53, of54 + (x29 : Int).toNat * 4, none⟩))) (cs := [.string ((rd s4 x29).Key), .string ((rd s4 x29).Value), .string ((rd s4 x29).Unit), .string ((rd s4 x29).Note)]) rfl (fun j_ hj_ => ((hc52 (FM.le.refl _) HS27) j_ hj_))) ?_)
   have hq_ := bind_some h; clear h; obtain ⟨vt56, hc57, h⟩ := hq_
   refine seqK rfl (does_call (f := 64) (args := #[.agg #[.string ((rd s4 x29).Key), .string ((rd s4 x29).Value), .string ((rd s4 x29).Unit), .string ((rd s4 x29).Note)], .pointer (some ⟨b1, 0, none⟩)]) kr (frame_find_1.calls k b1 v3 (rd s4 x29) HS27 vt56 hc57) ?_)
   rintro _ W60 ⟨f58, rfl, L59, HS61⟩
   refine ⟨_, rfl, ?_⟩
   refine nl (hK48 _ _ ?_)
   have hq_ := ite_some h; clear h; rcases hq_ with ⟨c63, h⟩ | ⟨c63, h⟩
   · have c63 : vt56 = true := c63
     refine wpRwI 16 (x := vt56) (v := true) kr c63 ?_
     refine condT kr ?_
     refine wp_seq_k fun K64 hK65 => rl ?_
     refine seqL2 kr ?_
     refine nl (hK65 _ _ ?_)
     refine wp_ret ?_
     refine hr41 _ _ ?_
     refine hr17 _ _ ?_
     refine hret _ _ ?_
     refine ends_still (v := Value.int .i64 x29) kr kr ?_
     replace h := JR73 _ h
     injection h with h
     subst h
     exact ⟨f58, rfl, (L25.trans L59), HS61⟩
   · have c63 : ¬ (vt56 = true) := c63
     refine wpRwI 16 (x := vt56) (v := false) kr (Bool.eq_false_iff.mpr c63) ?_
     refine condF kr ?_
     refine wp_skip ?_
     refine hn40 _ _ ?_
     refine hK37 _ _ ?_
     refine rl ?_
     refine seqL2 kr ?_
     refine nl ?_
     refine hK22 n23 _ _ (Nat.lt_succ_self _) ?_
     exact ⟨f58, (w64 (x29 + 1)), (fun i_ => [(j28 0), Value.int .i64 x29, Value.bool true, Value.int .i64 x29, Value.func (.func 64) #[] #[.pointer (some ⟨b1, 0, none⟩)], Value.slice A5 s4.length c6, Value.int .i64 x29, Value.pointer (some ⟨b53, of54 + (x29 : Int).toNat * 4, none⟩), (ag_Card (rd s4 x29)), Value.bool false, (j28 10), Value.int .i64 (w64 (x29 + 1))].getD i_ undef), (L25.trans L59), HS61, h, kr⟩
 · have c35 : ¬ (x29 < (s4.length : Int)) := c35
   refine wpRwI 9 (x := (decide (x29 < (s4.length : Int)))) (v := false) kr (decide_eq_false c35) ?_
   refine condF kr ?_
   refine wp_exit ?_
   refine hx15 _ _ ?_
   exact J72 f24 (fun i_ => [(j28 0), (j28 1), Value.int .i64 x29, Value.bool false, (j28 3), (j28 4), (j28 5), (j28 6), (j28 7), (j28 8), (j28 9), (j28 10), (j28 11)].getD i_ undef) W26 _ L25 h HS27 kr

set_option maxRecDepth 100000 in
set_option maxHeartbeats 4000000 in
theorem frame_find.calls (k : Nat) (A2 : Option Addr) (c3 : Nat) (l1 : List S_Card) (key5 : ByteArray) {t w : World} {f : FM} {H : List Seg} (HS : St t w f (H)) (HR4 : SlR ty_Card f A2 c3 l1) (rr1 : Int) (h : frame_find k l1 key5 = some rr1) :
    Calls Tryz.prog 36 #[.slice A2 l1.length c3, .string key5] w (fun e w' => ∃ (g : FM), e = .returned (Value.int .i64 rr1) ∧ FM.le f g ∧ St t w' g (H)) := by
 unfold frame_find at h
 refine enter Tryz.func36 rfl (tm := #[.slice A2 l1.length c3, .string key5, uV, uV, uV, uV, uV, uV]) kr ?_
 intro B hret hnor hnp
 refine wp_seq_k fun K6 hK7 => rl ?_
 refine seqK rfl (does_box (cs := #[.string key5]) rfl (kv (.string key5)) rfl HS ?_)
 intro b8 W9 HS10
 refine seqL1 kr ?_
 refine nl (hK7 _ _ ?_)
 refine wp_seq_k fun K12 hK13 => rl ?_
 have hq_ := bind_some h; clear h; obtain ⟨vt14, hc15, h⟩ := hq_
 refine seqL2 kr ?_
 refine seqK rfl (does_call (f := 63) (args := #[.slice A2 l1.length c3, .func (.func 64) #[] #[.pointer (some ⟨b8, 0, none⟩)]]) kr (slices_IndexFunc_Card__frame_find_1.calls k b8 A2 c3 key5 l1 HS10 HR4 vt14 hc15) ?_)
 rintro _ W18 ⟨f16, rfl, L17, HS19⟩
 refine ⟨_, rfl, ?_⟩
 refine seqL1 kr ?_
 refine nl (hK13 _ _ ?_)
 refine wp_ret ?_
 refine hret _ _ ?_
 refine ends_still (v := Value.int .i64 vt14) kr kr ?_
 have HS20 := HS19.drop
 injection h with h
 subst h
 exact ⟨f16, rfl, L17, HS20⟩

end Go.Sp.U5
