import Derived.Test.YtiibkbligihgoaaGreatProg
import Derived.Test.YtiibkbligihgoaaGreatSpCopy
import Derived.Test.YtiibkbligihgoaaGreatFQ3
import Derived.Test.YtiibkbligihgoaaGreatShelf
import Derived.Test.YtiibkbligihgoaaGreatSpMapR
import Derived.Test.YtiibkbligihgoaaGreatSpKeys
import Derived.Test.YtiibkbligihgoaaGreatSpRound
import Derived.Test.YtiibkbligihgoaaGreatKQ3n0
namespace Go.Sp.Q3
open Go Go.Sp Go.Proofs
set_option linter.unusedVariables false
attribute [local irreducible] wpList AnyL Code.wp Calls Does Code.wpIn wpListIn CallsIn bodyPostM LeavesInM
set_option maxRecDepth 100000 in
set_option maxHeartbeats 4000000 in
theorem cmp_Or_int.calls (k : Nat) (A2 : Option Addr) (c3 : Nat) (vals1 : List Int) {t w : World} {f : FM} {H : List Seg} (HS : St t w f (H)) (HR4 : SlR (tInt .i64) f A2 c3 vals1) (rr1 : Int) (h : cmp_Or_int k vals1 = some rr1) :
    Calls Tryz.prog 62 #[.slice A2 vals1.length c3] w (fun e w' => ∃ (g : FM), e = .returned (Value.int .i64 rr1) ∧ FM.le f g ∧ St t w' g (H)) := by
 unfold cmp_Or_int at h
 refine enter Tryz.func62 rfl (tm := #[.slice A2 vals1.length c3, uV, uV, uV, uV, uV, uV, uV, uV, uV, uV, uV, uV, uV, uV, uV, uV, uV]) kr ?_
 intro B hret hnor hnp
 refine wp_seq_k fun K5 hK6 => rl ?_
 refine seqL1 kr ?_
 refine nl (hK6 _ _ ?_)
 refine wp_seq_k fun K7 hK8 => rl ?_
 refine seqL1 kr ?_
 refine nl (hK8 _ _ ?_)
 refine wp_seq_k (fun K9 hK10 => ?_)
 refine wp_seq_k fun K11 hK12 => rl ?_
 refine seqL3 kr ?_
 refine nl (hK12 _ _ ?_)
 refine blockK (fun B13 hx14 hn15 hr16 ho17 hp18 => ?_)
 have hq_ := bind_some h; clear h; obtain ⟨o19, hv64, h⟩ := hq_
 have JR66 : ∀ z_, some (Sum.inl z_) = some o19 → some z_ = some rr1 := by
  intro z_ e_; injection e_ with e_; subst e_; exact h
 have J65 : ∀ (f59 : FM) (j63 : Nat → Value) (W61 : World) (a_ : Act), FM.le f f59 → some (Sum.inr ()) = some o19 → St t W61 f59 (H) → a_ = ⟨#[.slice A2 vals1.length c3, uV, (j63 0), iV 0, uV, (j63 1), .slice A2 vals1.length c3, iV (vals1.length : Int), (j63 2), (j63 3), (j63 4), (j63 5), (j63 6), (j63 7), (j63 8), (j63 9), (j63 10), uV], []⟩ → K9 a_ W61 := by
  intro f59 j63 W61 a_ L60 hj67 HS62  hfr_; subst hfr_
  injection hj67 with hj67; subst hj67; try dsimp only at h
  simp only [Sum.elim_inr] at h
  refine hK10 _ _ ?_
  refine wp_seq_k fun K68 hK69 => rl ?_
  refine seqL2 kr ?_
  refine nl (hK69 _ _ ?_)
  refine wp_ret ?_
  refine hret _ _ ?_
  refine ends_still (v := Value.int .i64 0) kr kr ?_
  injection h with h
  subst h
  exact ⟨f59, rfl, L60, HS62⟩
 clear h; have h := hv64; clear hv64
 refine loopK (fun n_ a_ w_ => ∃ (f23 : FM) (x28 : Int) (j27 : Nat → Value), FM.le f f23 ∧ St t w_ f23 (H) ∧ cmp_Or_int.l0 k vals1 n_ x28 = some o19 ∧ a_ = ⟨#[.slice A2 vals1.length c3, uV, (j27 0), iV 0, uV, (j27 1), .slice A2 vals1.length c3, iV (vals1.length : Int), iV x28, (j27 2), (j27 3), (j27 4), (j27 5), (j27 6), (j27 7), (j27 8), (j27 9), uV], []⟩) k ⟨f, 0, (jL [iV 0]), fL, HS, h, kr⟩ ?_
 clear h
 rintro n22 _ W25 ⟨f23, x28, j27, L24, HS26, h, rfl⟩ K20 hK21
 obtain _ | n22 := n22
 · exact nomatch h
 simp only [cmp_Or_int.l0] at h
 refine wp_seq_k fun K29 hK30 => rl ?_
 refine seqL1 kr ?_
 refine nl (hK30 _ _ ?_)
 refine wp_seq_k (fun K31 hK32 => ?_)
 have hq_ := ite_some h; clear h; rcases hq_ with ⟨c34, h⟩ | ⟨c34, h⟩
 · have c34 : x28 < (vals1.length : Int) := c34
   refine wpRwI 9 kr (decide_eq_true c34) ?_
   refine condT kr ?_
   refine wp_skip ?_
   refine hK32 _ _ ?_
   refine wp_seq_k (fun K35 hK36 => ?_)
   refine blockK (fun B37 hx38 hn39 hr40 ho41 hp42 => ?_)
   refine wp_seq_k fun K44 hK45 => rl ?_
   have hq_ := guard_some h; clear h; obtain ⟨c46, h⟩ := hq_
   have c46 : 0 ≤ x28 := c46
   obtain ⟨b50, of51, cs47, hA52, hr48, hc49⟩ := (HR4.mono L24).at (i := x28) c46 c34
   obtain rfl := hr48
   refine seqK rfl (does_run (run_indexE hA52 (sz := 1) rfl Tryz.underlying22 kr (kv (.slice A2 vals1.length c3)) (kv (.int .i64 x28)) c46 c34 W25) ?_)
   refine seqK rfl (does_run (run_load rfl Tryz.underlying3 rfl (kv (.pointer (some ⟨b50, of51 + (x28 : Int).toNat * 1, none⟩))) ((hc49 fL HS26) 0 (by decide))) ?_)
   refine seqL1 kr ?_
   refine nl (hK45 _ _ ?_)
   refine wp_seq_k fun K53 hK54 => rl ?_
   refine seqL3 kr ?_
   refine nl (hK54 _ _ ?_)
   have hq_ := ite_some h; clear h; rcases hq_ with ⟨c56, h⟩ | ⟨c56, h⟩
   · have c56 : (rd vals1 x28) ≠ 0 := c56
     refine wpRwI 14 kr (bne_iff_ne.mpr c56) ?_
     refine condT kr ?_
     refine wp_seq_k fun K57 hK58 => rl ?_
     refine seqL2 kr ?_
     refine nl (hK58 _ _ ?_)
     refine wp_ret ?_
     refine hr40 _ _ ?_
     refine hr16 _ _ ?_
     refine hret _ _ ?_
     refine ends_still (v := Value.int .i64 (rd vals1 x28)) kr kr ?_
     replace h := JR66 _ h
     injection h with h
     subst h
     exact ⟨f23, rfl, L24, HS26⟩
   · have c56 : ¬ ((rd vals1 x28) ≠ 0) := c56
     refine wpRwI 14 (x := ((rd vals1 x28) != 0)) (v := false) kr (bne_eq_false_iff_eq.mpr (Decidable.of_not_not c56)) ?_
     refine condF kr ?_
     refine wp_skip ?_
     refine hn39 _ _ ?_
     refine hK36 _ _ ?_
     refine rl ?_
     refine seqL2 kr ?_
     refine nl ?_
     refine hK21 n22 _ _ (Nat.lt_succ_self _) ?_
     exact ⟨f23, (w64 (x28 + 1)), (jL [(j27 0), iV (rd vals1 x28), tV, .pointer (some ⟨b50, of51 + (x28 : Int).toNat * 1, none⟩), iV (rd vals1 x28), iV (rd vals1 x28), iV 0, fV, (j27 8), iV (w64 (x28 + 1))]), L24, HS26, h, kr⟩
 · have c34 : ¬ (x28 < (vals1.length : Int)) := c34
   refine wpRwI 9 kr (decide_eq_false c34) ?_
   refine condF kr ?_
   refine wp_exit ?_
   refine hx14 _ _ ?_
   exact J65 f23 (jL [(j27 0), (j27 1), iV x28, fV, (j27 3), (j27 4), (j27 5), (j27 6), (j27 7), (j27 8), (j27 9)]) W25 _ L24 h HS26 kr

set_option maxRecDepth 100000 in
set_option maxHeartbeats 4000000 in
theorem num_Wide_Cmp.calls (k : Nat)  (vw1 : S_Wide) (v2 : S_Wide) {t w : World} {f : FM} {H : List Seg} (HS : St t w f (H)) (rr1 : Int) (h : num_Wide_Cmp k vw1 v2 = some rr1) :
    Calls Tryz.prog 36 #[.agg #[.int .i64 vw1.Hi, .int .u64 vw1.Lo], .agg #[.int .i64 v2.Hi, .int .u64 v2.Lo]] w (fun e w' => ∃ (g : FM), e = .returned (Value.int .i64 rr1) ∧ FM.le f g ∧ St t w' g (H)) := by
 unfold num_Wide_Cmp at h
 refine enter Tryz.func36 rfl (tm := #[.agg #[iV vw1.Hi, .int .u64 vw1.Lo], .agg #[iV v2.Hi, .int .u64 v2.Lo], uV, uV, uV, uV, uV, uV, uV, uV, uV, uV, uV, uV, uV, uV, uV]) kr ?_
 intro B hret hnor hnp
 refine wp_seq_k fun K3 hK4 => rl ?_
 refine seqK rfl (does_box (cs := #[.int .i64 vw1.Hi, .int .u64 vw1.Lo]) rfl (kv (.agg #[.int .i64 vw1.Hi, .int .u64 vw1.Lo])) rfl HS ?_)
 intro b5 W6 HS7
 refine seqK rfl (does_box (cs := #[.int .i64 v2.Hi, .int .u64 v2.Lo]) rfl (kv (.agg #[.int .i64 v2.Hi, .int .u64 v2.Lo])) rfl HS7 ?_)
 intro b9 W10 HS11
 refine seqL1 kr ?_
 refine nl (hK4 _ _ ?_)
 refine wp_seq_k (fun K13 hK14 => ?_)
 refine heldG (S := Sg t f ([(b9, .cells #[.int .i64 v2.Hi, .int .u64 v2.Lo] 90 (0, 0))] :: [(b5, .cells #[.int .i64 vw1.Hi, .int .u64 vw1.Lo] 90 (0, 0))] :: H) []) (n := 13) kr rfl HS11 ?_
 intro W15 HS16
 refine takeGL [0] (n := 13) (fuel := 12) #[true, false, false, false, false, false, false, false, false, false, false, false, false] rfl kr kr kr hnp (Sg.g0 (Sx.of [] fL HS16)) ?_
 refine takeGQ 1 [] rfl kr kr kr kr kr kr hnp (Sg.g0 (Sx.of [] fL HS16)) (fun w_ hw_ => by obtain ⟨g_, hl_, hS_⟩ := hw_.st; exact run_load rfl Tryz.underlying2 rfl (kv (.pointer (some ⟨b5, 0, none⟩))) (hS_.u1.cell 0)) ?_
 refine takeGL [2] (n := 11) (fuel := 10) #[true, true, true, false, false, false, false, false, false, false, false, false, false] rfl kr kr kr hnp (Sg.g0 (Sx.of [] fL HS16)) ?_
 refine takeGQ 3 [] rfl kr kr kr kr kr kr hnp (Sg.g0 (Sx.of [] fL HS16)) (fun w_ hw_ => by obtain ⟨g_, hl_, hS_⟩ := hw_.st; exact run_load rfl Tryz.underlying2 rfl (kv (.pointer (some ⟨b9, 0, none⟩))) (hS_.cell 0)) ?_
 refine takeGL [5] (n := 9) (fuel := 8) #[true, true, true, true, false, true, false, false, false, false, false, false, false] rfl kr kr kr hnp (Sg.g0 (Sx.of [] fL HS16)) ?_
 refine takeGQ 6 [] rfl kr kr kr kr kr kr hnp (Sg.g0 (Sx.of [] fL HS16)) (fun w_ hw_ => by obtain ⟨g_, hl_, hS_⟩ := hw_.st; exact run_load rfl Tryz.underlying88 rfl (kv (.pointer (some ⟨b5, 1, none⟩))) (hS_.u1.cell 1)) ?_
 refine takeGL [7] (n := 7) (fuel := 6) #[true, true, true, true, false, true, true, true, false, false, false, false, false] rfl kr kr kr hnp (Sg.g0 (Sx.of [] fL HS16)) ?_
 refine takeGQ 8 [] rfl kr kr kr kr kr kr hnp (Sg.g0 (Sx.of [] fL HS16)) (fun w_ hw_ => by obtain ⟨g_, hl_, hS_⟩ := hw_.st; exact run_load rfl Tryz.underlying88 rfl (kv (.pointer (some ⟨b9, 1, none⟩))) (hS_.cell 1)) ?_
 have hq_ := bind_some h; clear h; obtain ⟨vt17, hc18, h⟩ := hq_
 refine takeGE 4 kr rfl kr (does_call (f := 67) (args := #[.int .i64 vw1.Hi, .int .i64 v2.Hi]) kr (cmp_Compare_int64.calls k vw1.Hi v2.Hi HS16 vt17 hc18) ?_)
 rintro _ W21 ⟨f19, rfl, L20, HS22⟩
 refine ⟨_, rfl, ?_⟩
 refine ⟨(Sg.g0 (Sx.of [] L20 HS22)), ?_⟩
 have hq_ := bind_some h; clear h; obtain ⟨vt23, hc24, h⟩ := hq_
 refine takeGE 9 kr rfl kr (does_call (f := 68) (args := #[.int .u64 vw1.Lo, .int .u64 v2.Lo]) kr (cmp_Compare_uint64.calls k vw1.Lo v2.Lo HS22 vt23 hc24) ?_)
 rintro _ W27 ⟨f25, rfl, L26, HS28⟩
 refine ⟨_, rfl, ?_⟩
 refine ⟨(Sg.g0 (Sx.of [] (L20.trans L26) HS28)), ?_⟩
 refine takeGE 10 kr rfl kr (does_lit (e := (tInt .i64)) (E := 3) (vs := #[(0, Value.int .i64 vt17), (1, Value.int .i64 vt23)]) (cs := #[.int .i64 vt17, .int .i64 vt23]) (xs := ([vt17, vt23] : List Int)) rfl Tryz.underlying22 kr kr ⟨[.int .i64 vt17], _, rfl, rfl, ⟨[.int .i64 vt23], _, rfl, rfl, rfl⟩⟩ rfl HS28 ?_ (by decide))
 intro b29 W30 s31 HS32 _ HO33
 refine ⟨(Sg.g0 (Sx.of [s31] (L20.trans L26) HS32)), ?_⟩
 obtain ⟨f35, L36, HS37, HR38, th39⟩ := HO33.lend HS32
 have hq_ := bind_some h; clear h; obtain ⟨vt40, hc41, h⟩ := hq_
 refine takeGE 11 kr rfl kr (does_call (f := 62) (args := #[.slice (some ⟨b29, 0, none⟩) ([vt17, vt23] : List Int).length 2]) kr (cmp_Or_int.calls k (some ⟨b29, 0, none⟩) 2 ([vt17, vt23] : List Int) HS37 HR38 vt40 hc41) ?_)
 rintro _ W44 ⟨f42, rfl, L43, HS45⟩
 refine ⟨_, rfl, ?_⟩
 obtain ⟨f46, L47, HS48⟩ := th39 L43 HS45
 refine ⟨(Sg.g0 (Sx.of [s31] (L20.trans (L26.trans L47)) HS48)), ?_⟩
 refine takeGL [12] (n := 1) (fuel := 0) #[true, true, true, true, true, true, true, true, true, true, true, true, true] rfl kr kr kr hnp (Sg.g0 (Sx.of [s31] (L20.trans (L26.trans L47)) HS48)) ?_
 refine doneG kr ?_ _
 refine hK14 _ _ ?_
 refine wp_ret ?_
 refine hret _ _ ?_
 refine ends_still (v := Value.int .i64 vt40) kr kr ?_
 have HS49 := HS48.drop
 have HS50 := HS49.drop
 have HS51 := HS50.drop
 injection h with h
 subst h
 exact ⟨f46, rfl, (L20.trans (L26.trans L47)), HS51⟩

set_option maxRecDepth 100000 in
set_option maxHeartbeats 4000000 in
theorem query_Near.calls (k : Nat)  (a1 : S_Box) (b2 : S_Box) (cos3 : Int) {t w : World} {f : FM} {H : List Seg} (HS : St t w f (H)) (rr1 : Int) (h : query_Near k a1 b2 cos3 = some rr1) :
    Calls Tryz.prog 10 #[.agg #[.int .i64 a1.X.Lo, .int .i64 a1.X.Hi, .bool a1.X.Unknown, .int .i64 a1.Y.Lo, .int .i64 a1.Y.Hi, .bool a1.Y.Unknown, .int .i64 a1.Z.Lo, .int .i64 a1.Z.Hi, .bool a1.Z.Unknown], .agg #[.int .i64 b2.X.Lo, .int .i64 b2.X.Hi, .bool b2.X.Unknown, .int .i64 b2.Y.Lo, .int .i64 b2.Y.Hi, .bool b2.Y.Unknown, .int .i64 b2.Z.Lo, .int .i64 b2.Z.Hi, .bool b2.Z.Unknown], .int .i64 cos3] w (fun e w' => ∃ (g : FM), e = .returned (Value.int .i64 rr1) ∧ FM.le f g ∧ St t w' g (H)) := by
 unfold query_Near at h
 refine enter Tryz.func10 rfl (tm := #[(ag_Box a1), (ag_Box b2), iV cos3, uV, uV, uV, uV, uV, uV, uV, uV, uV, uV, uV, uV, uV, uV, uV, uV, uV, uV, uV, uV, uV, uV, uV, uV, uV, uV, uV, uV, uV, uV, uV, uV, uV, uV, uV, uV, uV, uV, uV, uV, uV, uV, uV, uV, uV, uV, uV, uV, uV, uV, uV, uV, uV, uV, uV, uV, uV, uV, uV, uV, uV, uV, uV, uV, uV, uV, uV, uV, uV, uV, uV, uV, uV, uV, uV, uV, uV, uV, uV, uV, uV, uV, uV, uV, uV, uV, uV, uV, uV, uV, uV, uV, uV, uV, uV, uV, uV, uV, uV, uV, uV, uV, uV, uV, uV, uV, uV, uV, uV, uV, uV, uV, uV, uV, uV, uV, uV, uV, uV, uV, uV, uV, uV, uV, uV]) kr ?_
 intro B hret hnor hnp
 refine wp_seq_k fun K4 hK5 => rl ?_
 refine seqK rfl (does_box (cs := #[.int .i64 a1.X.Lo, .int .i64 a1.X.Hi, .bool a1.X.Unknown, .int .i64 a1.Y.Lo, .int .i64 a1.Y.Hi, .bool a1.Y.Unknown, .int .i64 a1.Z.Lo, .int .i64 a1.Z.Hi, .bool a1.Z.Unknown]) rfl (kv (.agg #[.int .i64 a1.X.Lo, .int .i64 a1.X.Hi, .bool a1.X.Unknown, .int .i64 a1.Y.Lo, .int .i64 a1.Y.Hi, .bool a1.Y.Unknown, .int .i64 a1.Z.Lo, .int .i64 a1.Z.Hi, .bool a1.Z.Unknown])) rfl HS ?_)
 intro b6 W7 HS8
 refine seqK rfl (does_box (cs := #[.int .i64 b2.X.Lo, .int .i64 b2.X.Hi, .bool b2.X.Unknown, .int .i64 b2.Y.Lo, .int .i64 b2.Y.Hi, .bool b2.Y.Unknown, .int .i64 b2.Z.Lo, .int .i64 b2.Z.Hi, .bool b2.Z.Unknown]) rfl (kv (.agg #[.int .i64 b2.X.Lo, .int .i64 b2.X.Hi, .bool b2.X.Unknown, .int .i64 b2.Y.Lo, .int .i64 b2.Y.Hi, .bool b2.Y.Unknown, .int .i64 b2.Z.Lo, .int .i64 b2.Z.Hi, .bool b2.Z.Unknown])) rfl HS8 ?_)
 intro b10 W11 HS12
 refine seqL1 kr ?_
 refine nl (hK5 _ _ ?_)
 refine wp_seq_k fun K14 hK15 => rl ?_
 refine seqK rfl (does_run (run_loadN (n := 9) rfl Tryz.underlying31 rfl kr (kv (.pointer (some ⟨b6, 0, none⟩))) (cs := [.int .i64 a1.X.Lo, .int .i64 a1.X.Hi, .bool a1.X.Unknown, .int .i64 a1.Y.Lo, .int .i64 a1.Y.Hi, .bool a1.Y.Unknown, .int .i64 a1.Z.Lo, .int .i64 a1.Z.Hi, .bool a1.Z.Unknown]) rfl (HS12.u1.cells 0 9 _ rfl)) ?_)
 have hq_ := bind_some h; clear h; obtain ⟨⟨vt16, vt17⟩, hc18, h⟩ := hq_
 refine seqK rfl (does_call (f := 31) (args := #[.agg #[.int .i64 a1.X.Lo, .int .i64 a1.X.Hi, .bool a1.X.Unknown, .int .i64 a1.Y.Lo, .int .i64 a1.Y.Hi, .bool a1.Y.Unknown, .int .i64 a1.Z.Lo, .int .i64 a1.Z.Hi, .bool a1.Z.Unknown]]) kr (query_sides.calls k a1 HS12 vt16 vt17 hc18) ?_)
 rintro _ W21 ⟨f19, rfl, L20, HS22⟩
 refine ⟨_, rfl, ?_⟩
 refine seqL3 kr ?_
 refine seqK rfl (does_alloc (z := Value.agg #[.int .i64 0, .int .i64 0, .bool false, .int .i64 0, .int .i64 0, .bool false, .int .i64 0, .int .i64 0, .bool false]) (cs := #[.int .i64 0, .int .i64 0, .bool false, .int .i64 0, .int .i64 0, .bool false, .int .i64 0, .int .i64 0, .bool false]) rfl kr rfl HS22 ?_)
 intro b23 W24 HS25
 refine seqK rfl (does_storeA (vs := [.int .i64 ((vt16.getD 0 default).Lo), .int .i64 ((vt16.getD 0 default).Hi), .bool ((vt16.getD 0 default).Unknown), .int .i64 ((vt16.getD 1 default).Lo), .int .i64 ((vt16.getD 1 default).Hi), .bool ((vt16.getD 1 default).Unknown), .int .i64 ((vt16.getD 2 default).Lo), .int .i64 ((vt16.getD 2 default).Hi), .bool ((vt16.getD 2 default).Unknown)]) rfl kr kr kr rfl (ones rfl) HS25 kr ?_)
 intro W27 HS28
 refine seqL1 kr ?_
 refine nl (hK15 _ _ ?_)
 refine wp_seq_k fun K29 hK30 => rl ?_
 refine seqK rfl (does_run (run_loadN (n := 9) rfl Tryz.underlying31 rfl kr (kv (.pointer (some ⟨b10, 0, none⟩))) (cs := [.int .i64 b2.X.Lo, .int .i64 b2.X.Hi, .bool b2.X.Unknown, .int .i64 b2.Y.Lo, .int .i64 b2.Y.Hi, .bool b2.Y.Unknown, .int .i64 b2.Z.Lo, .int .i64 b2.Z.Hi, .bool b2.Z.Unknown]) rfl (HS28.u1.cells 0 9 _ rfl)) ?_)
 have hq_ := bind_some h; clear h; obtain ⟨⟨vt31, vt32⟩, hc33, h⟩ := hq_
 refine seqK rfl (does_call (f := 31) (args := #[.agg #[.int .i64 b2.X.Lo, .int .i64 b2.X.Hi, .bool b2.X.Unknown, .int .i64 b2.Y.Lo, .int .i64 b2.Y.Hi, .bool b2.Y.Unknown, .int .i64 b2.Z.Lo, .int .i64 b2.Z.Hi, .bool b2.Z.Unknown]]) kr (query_sides.calls k b2 HS28 vt31 vt32 hc33) ?_)
 rintro _ W36 ⟨f34, rfl, L35, HS37⟩
 refine ⟨_, rfl, ?_⟩
 refine seqL3 kr ?_
 refine seqK rfl (does_alloc (z := Value.agg #[.int .i64 0, .int .i64 0, .bool false, .int .i64 0, .int .i64 0, .bool false, .int .i64 0, .int .i64 0, .bool false]) (cs := #[.int .i64 0, .int .i64 0, .bool false, .int .i64 0, .int .i64 0, .bool false, .int .i64 0, .int .i64 0, .bool false]) rfl kr rfl HS37 ?_)
 intro b38 W39 HS40
 refine seqK rfl (does_storeA (vs := [.int .i64 ((vt31.getD 0 default).Lo), .int .i64 ((vt31.getD 0 default).Hi), .bool ((vt31.getD 0 default).Unknown), .int .i64 ((vt31.getD 1 default).Lo), .int .i64 ((vt31.getD 1 default).Hi), .bool ((vt31.getD 1 default).Unknown), .int .i64 ((vt31.getD 2 default).Lo), .int .i64 ((vt31.getD 2 default).Hi), .bool ((vt31.getD 2 default).Unknown)]) rfl kr kr kr rfl (ones rfl) HS40 kr ?_)
 intro W42 HS43
 refine seqL1 kr ?_
 refine nl (hK30 _ _ ?_)
 refine wp_seq_k (fun K44 hK45 => ?_)
 refine wp_seq_k fun K46 hK47 => rl ?_
 refine seqL3 kr ?_
 have hq_ := ite_some h; clear h; rcases hq_ with ⟨c48, h⟩ | ⟨c48, h⟩
 · have c48 : cos3 < 0 := c48
   refine seqRwI 32 kr (decide_eq_true c48) ?_
   refine seqRwI 33 kr (decide_eq_true c48) ?_
   refine seqL3 kr ?_
   refine nl (hK47 _ _ ?_)
   refine condT kr ?_
   refine wp_seq_k fun K49 hK50 => rl ?_
   refine seqL1 kr ?_
   refine nl (hK50 _ _ ?_)
   refine wp_ret ?_
   refine hret _ _ ?_
   refine ends_still (v := Value.int .i64 0) kr kr ?_
   have HS406 := HS43.drop
   have HS407 := HS406.drop
   have HS408 := HS407.drop
   have HS409 := HS408.drop
   injection h with h
   subst h
   exact ⟨f34, rfl, (L20.trans L35), HS409⟩
 · have c48 : ¬ (cos3 < 0) := c48
   refine seqRwI 32 kr (decide_eq_false c48) ?_
   refine seqRwI 33 kr (decide_eq_false c48) ?_
   refine seqL3 kr ?_
   refine nl (hK47 _ _ ?_)
   have hq_ := ite_some h; clear h; rcases hq_ with ⟨c52, h⟩ | ⟨c52, h⟩
   · have c52 : cos3 > 1073741824 := c52
     refine wpRwI 35 kr (decide_eq_true c52) ?_
     refine wpRwI 36 kr (decide_eq_true c52) ?_
     refine condT kr ?_
     refine wp_seq_k fun K53 hK54 => rl ?_
     refine seqL1 kr ?_
     refine nl (hK54 _ _ ?_)
     refine wp_ret ?_
     refine hret _ _ ?_
     refine ends_still (v := Value.int .i64 0) kr kr ?_
     have HS410 := HS43.drop
     have HS411 := HS410.drop
     have HS412 := HS411.drop
     have HS413 := HS412.drop
     injection h with h
     subst h
     exact ⟨f34, rfl, (L20.trans L35), HS413⟩
   · have c52 : ¬ (cos3 > 1073741824) := c52
     refine wpRwI 35 kr (decide_eq_false c52) ?_
     refine wpRwI 36 kr (decide_eq_false c52) ?_
     refine condF kr ?_
     refine wp_skip ?_
     refine hK45 _ _ ?_
     refine wp_seq_k (fun K55 hK56 => ?_)
     refine wp_seq_k fun K57 hK58 => rl ?_
     refine seqL3 kr ?_
     have hq_ := ite_some h; clear h; rcases hq_ with ⟨c59, h⟩ | ⟨c59, h⟩
     · have c59 : ¬ (vt17 = true) := c59
       refine seqRwI 38 kr (congrArg (fun b_ => !b_) (show vt17 = false from (Bool.eq_false_iff.mpr c59)) : (!vt17) = true) ?_
       refine seqRwI 39 kr (congrArg (fun b_ => !b_) (show vt17 = false from (Bool.eq_false_iff.mpr c59)) : (!vt17) = true) ?_
       refine seqL3 kr ?_
       refine nl (hK58 _ _ ?_)
       refine condT kr ?_
       refine wp_seq_k fun K60 hK61 => rl ?_
       refine seqL1 kr ?_
       refine nl (hK61 _ _ ?_)
       refine wp_ret ?_
       refine hret _ _ ?_
       refine ends_still (v := Value.int .i64 1) kr kr ?_
       have HS414 := HS43.drop
       have HS415 := HS414.drop
       have HS416 := HS415.drop
       have HS417 := HS416.drop
       injection h with h
       subst h
       exact ⟨f34, rfl, (L20.trans L35), HS417⟩
     · have c59 : ¬ (¬ (vt17 = true)) := c59
       refine seqRwI 38 (x := (!vt17)) (v := false) kr (congrArg (fun b_ => !b_) (show vt17 = true from (Decidable.of_not_not c59)) : (!vt17) = false) ?_
       refine seqRwI 39 (x := (!vt17)) (v := false) kr (congrArg (fun b_ => !b_) (show vt17 = true from (Decidable.of_not_not c59)) : (!vt17) = false) ?_
       refine seqL3 kr ?_
       refine nl (hK58 _ _ ?_)
       have hq_ := ite_some h; clear h; rcases hq_ with ⟨c63, h⟩ | ⟨c63, h⟩
       · have c63 : ¬ (vt32 = true) := c63
         refine wpRwI 41 kr (congrArg (fun b_ => !b_) (show vt32 = false from (Bool.eq_false_iff.mpr c63)) : (!vt32) = true) ?_
         refine wpRwI 42 kr (congrArg (fun b_ => !b_) (show vt32 = false from (Bool.eq_false_iff.mpr c63)) : (!vt32) = true) ?_
         refine condT kr ?_
         refine wp_seq_k fun K64 hK65 => rl ?_
         refine seqL1 kr ?_
         refine nl (hK65 _ _ ?_)
         refine wp_ret ?_
         refine hret _ _ ?_
         refine ends_still (v := Value.int .i64 1) kr kr ?_
         have HS418 := HS43.drop
         have HS419 := HS418.drop
         have HS420 := HS419.drop
         have HS421 := HS420.drop
         injection h with h
         subst h
         exact ⟨f34, rfl, (L20.trans L35), HS421⟩
       · have c63 : ¬ (¬ (vt32 = true)) := c63
         refine wpRwI 41 (x := (!vt32)) (v := false) kr (congrArg (fun b_ => !b_) (show vt32 = true from (Decidable.of_not_not c63)) : (!vt32) = false) ?_
         refine wpRwI 42 (x := (!vt32)) (v := false) kr (congrArg (fun b_ => !b_) (show vt32 = true from (Decidable.of_not_not c63)) : (!vt32) = false) ?_
         refine condF kr ?_
         refine wp_skip ?_
         refine hK56 _ _ ?_
         refine wp_seq_k fun K66 hK67 => rl ?_
         refine seqL6 kr ?_
         refine nl (hK67 _ _ ?_)
         refine wp_seq_k (fun K68 hK69 => ?_)
         refine wp_seq_k fun K70 hK71 => rl ?_
         refine seqL1 kr ?_
         refine nl (hK71 _ _ ?_)
         refine blockK (fun B72 hx73 hn74 hr75 ho76 hp77 => ?_)
         refine wp_loop_rounds 4 ?_
         refine loopStepK (fun K78 hK79 => ?_)
         refine wp_seq_k fun K80 hK81 => rl ?_
         refine seqL1 kr ?_
         refine nl (hK81 _ _ ?_)
         refine wp_seq_k (fun K82 hK83 => ?_)
         refine condT kr ?_
         refine wp_skip ?_
         refine hK83 _ _ ?_
         refine wp_seq_k (fun K84 hK85 => ?_)
         refine blockK (fun B86 hx87 hn88 hr89 ho90 hp91 => ?_)
         refine wp_seq_k fun K93 hK94 => rl ?_
         refine seqL2 kr ?_
         refine nl (hK94 _ _ ?_)
         refine wp_seq_k (fun K95 hK96 => ?_)
         refine heldG (S := Sg t f34 ([(b38, .cells #[.int .i64 ((vt31.getD 0 default).Lo), .int .i64 ((vt31.getD 0 default).Hi), .bool ((vt31.getD 0 default).Unknown), .int .i64 ((vt31.getD 1 default).Lo), .int .i64 ((vt31.getD 1 default).Hi), .bool ((vt31.getD 1 default).Unknown), .int .i64 ((vt31.getD 2 default).Lo), .int .i64 ((vt31.getD 2 default).Hi), .bool ((vt31.getD 2 default).Unknown)] 81 (0, 0))] :: [(b23, .cells #[.int .i64 ((vt16.getD 0 default).Lo), .int .i64 ((vt16.getD 0 default).Hi), .bool ((vt16.getD 0 default).Unknown), .int .i64 ((vt16.getD 1 default).Lo), .int .i64 ((vt16.getD 1 default).Hi), .bool ((vt16.getD 1 default).Unknown), .int .i64 ((vt16.getD 2 default).Lo), .int .i64 ((vt16.getD 2 default).Hi), .bool ((vt16.getD 2 default).Unknown)] 81 (0, 0))] :: [(b10, .cells #[.int .i64 b2.X.Lo, .int .i64 b2.X.Hi, .bool b2.X.Unknown, .int .i64 b2.Y.Lo, .int .i64 b2.Y.Hi, .bool b2.Y.Unknown, .int .i64 b2.Z.Lo, .int .i64 b2.Z.Hi, .bool b2.Z.Unknown] 31 (0, 0))] :: [(b6, .cells #[.int .i64 a1.X.Lo, .int .i64 a1.X.Hi, .bool a1.X.Unknown, .int .i64 a1.Y.Lo, .int .i64 a1.Y.Hi, .bool a1.Y.Unknown, .int .i64 a1.Z.Lo, .int .i64 a1.Z.Hi, .bool a1.Z.Unknown] 31 (0, 0))] :: H) []) (n := 12) kr rfl HS43 ?_
         intro W97 HS98
         refine takeGL [0, 1] (n := 12) (fuel := 10) #[true, true, false, false, false, false, false, false, false, false, false, false] rfl kr kr kr (fun ch_ a_ w_ q_ => (fun ch_ a_ w_ q_ => hnp ch_ a_ w_ (hp77 ch_ a_ w_ q_)) ch_ a_ w_ (hp91 ch_ a_ w_ q_)) (Sg.g0 (Sx.of [] fL HS98)) ?_
         refine takeGQ 2 [] rfl kr kr kr kr kr kr (fun ch_ a_ w_ q_ => (fun ch_ a_ w_ q_ => hnp ch_ a_ w_ (hp77 ch_ a_ w_ q_)) ch_ a_ w_ (hp91 ch_ a_ w_ q_)) (Sg.g0 (Sx.of [] fL HS98)) (fun w_ hw_ => by obtain ⟨g_, hl_, hS_⟩ := hw_.st; exact run_loadN (n := 3) rfl Tryz.underlying29 rfl kr (kv (.pointer (some ⟨b23, 0, none⟩))) (cs := [.int .i64 ((vt16.getD 0 default).Lo), .int .i64 ((vt16.getD 0 default).Hi), .bool ((vt16.getD 0 default).Unknown)]) rfl (hS_.u1.cells 0 3 _ rfl)) ?_
         refine takeGL [3, 4] (n := 9) (fuel := 7) #[true, true, true, true, true, false, false, false, false, false, false, false] rfl kr kr kr (fun ch_ a_ w_ q_ => (fun ch_ a_ w_ q_ => hnp ch_ a_ w_ (hp77 ch_ a_ w_ q_)) ch_ a_ w_ (hp91 ch_ a_ w_ q_)) (Sg.g0 (Sx.of [] fL HS98)) ?_
         refine takeGQ 5 [] rfl kr kr kr kr kr kr (fun ch_ a_ w_ q_ => (fun ch_ a_ w_ q_ => hnp ch_ a_ w_ (hp77 ch_ a_ w_ q_)) ch_ a_ w_ (hp91 ch_ a_ w_ q_)) (Sg.g0 (Sx.of [] fL HS98)) (fun w_ hw_ => by obtain ⟨g_, hl_, hS_⟩ := hw_.st; exact run_loadN (n := 3) rfl Tryz.underlying29 rfl kr (kv (.pointer (some ⟨b38, 0, none⟩))) (cs := [.int .i64 ((vt31.getD 0 default).Lo), .int .i64 ((vt31.getD 0 default).Hi), .bool ((vt31.getD 0 default).Unknown)]) rfl (hS_.cells 0 3 _ rfl)) ?_
         have hq_ := bind_some h; clear h; obtain ⟨⟨vt99, vt100⟩, hc101, h⟩ := hq_
         refine takeGE 6 kr rfl kr (does_call (f := 32) (args := #[.agg #[.int .i64 ((vt16.getD 0 default).Lo), .int .i64 ((vt16.getD 0 default).Hi), .bool ((vt16.getD 0 default).Unknown)], .agg #[.int .i64 ((vt31.getD 0 default).Lo), .int .i64 ((vt31.getD 0 default).Hi), .bool ((vt31.getD 0 default).Unknown)]]) kr (query_product.calls k (vt16.getD 0 default) (vt31.getD 0 default) HS98 vt99 vt100 hc101) ?_)
         rintro _ W104 ⟨f102, rfl, L103, HS105⟩
         refine ⟨_, rfl, ?_⟩
         refine ⟨(Sg.g0 (Sx.of [] L103 HS105)), ?_⟩
         refine takeGL [7, 8, 9, 10, 11] (n := 5) (fuel := 0) #[true, true, true, true, true, true, true, true, true, true, true, true] rfl kr kr kr (fun ch_ a_ w_ q_ => (fun ch_ a_ w_ q_ => hnp ch_ a_ w_ (hp77 ch_ a_ w_ q_)) ch_ a_ w_ (hp91 ch_ a_ w_ q_)) (Sg.g0 (Sx.of [] L103 HS105)) ?_
         refine doneG kr ?_ _
         refine hK96 _ _ ?_
         refine wp_seq_k fun K106 hK107 => rl ?_
         refine seqL8 kr ?_
         refine nl (hK107 _ _ ?_)
         refine wp_seq_k fun K108 hK109 => rl ?_
         refine seqL2 kr ?_
         refine seqK rfl (does_run (run_loadN (n := 3) rfl Tryz.underlying29 rfl kr (kv (.pointer (some ⟨b23, 0, none⟩))) (cs := [.int .i64 ((vt16.getD 0 default).Lo), .int .i64 ((vt16.getD 0 default).Hi), .bool ((vt16.getD 0 default).Unknown)]) rfl (HS105.u1.cells 0 3 _ rfl)) ?_)
         have hq_ := bind_some h; clear h; obtain ⟨⟨vt110, vt111⟩, hc112, h⟩ := hq_
         refine seqK rfl (does_call (f := 33) (args := #[.agg #[.int .i64 ((vt16.getD 0 default).Lo), .int .i64 ((vt16.getD 0 default).Hi), .bool ((vt16.getD 0 default).Unknown)]]) kr (query_square.calls k (vt16.getD 0 default) HS105 vt110 vt111 hc112) ?_)
         rintro _ W115 ⟨f113, rfl, L114, HS116⟩
         refine ⟨_, rfl, ?_⟩
         refine seqL5 kr ?_
         refine nl (hK109 _ _ ?_)
         refine wp_seq_k fun K117 hK118 => rl ?_
         refine seqS8 (a' := ⟨#[(ag_Box a1), (ag_Box b2), iV cos3, pV b6 0, pV b10 0, uV, iV 0, pV b23 0, .bool vt17, pV b38 0, .bool vt32, iV (w64 (0 + vt99)), iV (w64 (0 + vt100)), iV (w64 (0 + vt110)), iV (w64 (0 + vt111)), iV 0, iV 0, iV 0, iV vt110, iV vt111, uV, .tuple #[.agg #[iV ((vt16.getD 0 default).Lo), iV ((vt16.getD 0 default).Hi), .bool ((vt16.getD 0 default).Unknown), iV ((vt16.getD 1 default).Lo), iV ((vt16.getD 1 default).Hi), .bool ((vt16.getD 1 default).Unknown), iV ((vt16.getD 2 default).Lo), iV ((vt16.getD 2 default).Hi), .bool ((vt16.getD 2 default).Unknown)], .bool vt17], (ag_Box a1), .tuple #[.agg #[iV ((vt16.getD 0 default).Lo), iV ((vt16.getD 0 default).Hi), .bool ((vt16.getD 0 default).Unknown), iV ((vt16.getD 1 default).Lo), iV ((vt16.getD 1 default).Hi), .bool ((vt16.getD 1 default).Unknown), iV ((vt16.getD 2 default).Lo), iV ((vt16.getD 2 default).Hi), .bool ((vt16.getD 2 default).Unknown)], .bool vt17], .agg #[iV ((vt16.getD 0 default).Lo), iV ((vt16.getD 0 default).Hi), .bool ((vt16.getD 0 default).Unknown), iV ((vt16.getD 1 default).Lo), iV ((vt16.getD 1 default).Hi), .bool ((vt16.getD 1 default).Unknown), iV ((vt16.getD 2 default).Lo), iV ((vt16.getD 2 default).Hi), .bool ((vt16.getD 2 default).Unknown)], .bool vt17, .tuple #[.agg #[iV ((vt31.getD 0 default).Lo), iV ((vt31.getD 0 default).Hi), .bool ((vt31.getD 0 default).Unknown), iV ((vt31.getD 1 default).Lo), iV ((vt31.getD 1 default).Hi), .bool ((vt31.getD 1 default).Unknown), iV ((vt31.getD 2 default).Lo), iV ((vt31.getD 2 default).Hi), .bool ((vt31.getD 2 default).Unknown)], .bool vt32], (ag_Box b2), .tuple #[.agg #[iV ((vt31.getD 0 default).Lo), iV ((vt31.getD 0 default).Hi), .bool ((vt31.getD 0 default).Unknown), iV ((vt31.getD 1 default).Lo), iV ((vt31.getD 1 default).Hi), .bool ((vt31.getD 1 default).Unknown), iV ((vt31.getD 2 default).Lo), iV ((vt31.getD 2 default).Hi), .bool ((vt31.getD 2 default).Unknown)], .bool vt32], .agg #[iV ((vt31.getD 0 default).Lo), iV ((vt31.getD 0 default).Hi), .bool ((vt31.getD 0 default).Unknown), iV ((vt31.getD 1 default).Lo), iV ((vt31.getD 1 default).Hi), .bool ((vt31.getD 1 default).Unknown), iV ((vt31.getD 2 default).Lo), iV ((vt31.getD 2 default).Hi), .bool ((vt31.getD 2 default).Unknown)], .bool vt32, iV cos3, fV, fV, iV cos3, fV, fV, .bool vt17, fV, fV, .bool vt32, fV, fV, iV 0, tV, iV 0, .tuple #[iV vt99, iV vt100], iV 0, pV b23 0, (ag_Bound (vt16.getD 0 default)), iV 0, pV b38 0, (ag_Bound (vt31.getD 0 default)), .tuple #[iV vt99, iV vt100], iV vt99, iV vt100, iV 0, iV vt99, iV (w64 (0 + vt99)), iV 0, iV vt100, iV (w64 (0 + vt100)), .tuple #[iV vt110, iV vt111], iV 0, pV b23 0, (ag_Bound (vt16.getD 0 default)), .tuple #[iV vt110, iV vt111], iV vt110, iV vt111, iV 0, iV vt110, iV (w64 (0 + vt110)), iV 0, iV vt111, iV (w64 (0 + vt111)), uV, uV, uV, uV, uV, uV, uV, uV, uV, uV, uV, uV, uV, uV, uV, uV, uV, uV, uV, uV, uV, uV, uV, uV, uV, uV, uV, uV, uV, uV, uV, uV, uV, uV, uV, uV, uV, uV, uV, uV, uV, uV, uV, uV, uV, uV, uV, uV, uV, uV, uV, uV, uV], []⟩) kr ?_
         refine nl (hK118 _ _ ?_)
         refine wp_seq_k fun K119 hK120 => rl ?_
         refine seqL2 kr ?_
         refine seqK rfl (does_run (run_loadN (n := 3) rfl Tryz.underlying29 rfl kr (kv (.pointer (some ⟨b38, 0, none⟩))) (cs := [.int .i64 ((vt31.getD 0 default).Lo), .int .i64 ((vt31.getD 0 default).Hi), .bool ((vt31.getD 0 default).Unknown)]) rfl (HS116.cells 0 3 _ rfl)) ?_)
         have hq_ := bind_some h; clear h; obtain ⟨⟨vt121, vt122⟩, hc123, h⟩ := hq_
         refine seqK rfl (does_call (f := 33) (args := #[.agg #[.int .i64 ((vt31.getD 0 default).Lo), .int .i64 ((vt31.getD 0 default).Hi), .bool ((vt31.getD 0 default).Unknown)]]) kr (query_square.calls k (vt31.getD 0 default) HS116 vt121 vt122 hc123) ?_)
         rintro _ W126 ⟨f124, rfl, L125, HS127⟩
         refine ⟨_, rfl, ?_⟩
         refine seqL5 kr ?_
         refine nl (hK120 _ _ ?_)
         refine rl ?_
         refine seqL8 kr ?_
         refine nl ?_
         refine hn88 _ _ ?_
         refine hK85 _ _ ?_
         refine rl ?_
         refine seqL2 kr ?_
         refine nl (hK79 _ _ ?_)
         refine loopStepK (fun K128 hK129 => ?_)
         refine wp_seq_k fun K130 hK131 => rl ?_
         refine seqL1 kr ?_
         refine nl (hK131 _ _ ?_)
         refine wp_seq_k (fun K132 hK133 => ?_)
         refine condT kr ?_
         refine wp_skip ?_
         refine hK133 _ _ ?_
         refine wp_seq_k (fun K134 hK135 => ?_)
         refine blockK (fun B136 hx137 hn138 hr139 ho140 hp141 => ?_)
         refine wp_seq_k fun K143 hK144 => rl ?_
         refine seqL2 kr ?_
         refine nl (hK144 _ _ ?_)
         refine wp_seq_k (fun K145 hK146 => ?_)
         refine heldG (S := Sg t f124 ([(b38, .cells #[.int .i64 ((vt31.getD 0 default).Lo), .int .i64 ((vt31.getD 0 default).Hi), .bool ((vt31.getD 0 default).Unknown), .int .i64 ((vt31.getD 1 default).Lo), .int .i64 ((vt31.getD 1 default).Hi), .bool ((vt31.getD 1 default).Unknown), .int .i64 ((vt31.getD 2 default).Lo), .int .i64 ((vt31.getD 2 default).Hi), .bool ((vt31.getD 2 default).Unknown)] 81 (0, 0))] :: [(b23, .cells #[.int .i64 ((vt16.getD 0 default).Lo), .int .i64 ((vt16.getD 0 default).Hi), .bool ((vt16.getD 0 default).Unknown), .int .i64 ((vt16.getD 1 default).Lo), .int .i64 ((vt16.getD 1 default).Hi), .bool ((vt16.getD 1 default).Unknown), .int .i64 ((vt16.getD 2 default).Lo), .int .i64 ((vt16.getD 2 default).Hi), .bool ((vt16.getD 2 default).Unknown)] 81 (0, 0))] :: [(b10, .cells #[.int .i64 b2.X.Lo, .int .i64 b2.X.Hi, .bool b2.X.Unknown, .int .i64 b2.Y.Lo, .int .i64 b2.Y.Hi, .bool b2.Y.Unknown, .int .i64 b2.Z.Lo, .int .i64 b2.Z.Hi, .bool b2.Z.Unknown] 31 (0, 0))] :: [(b6, .cells #[.int .i64 a1.X.Lo, .int .i64 a1.X.Hi, .bool a1.X.Unknown, .int .i64 a1.Y.Lo, .int .i64 a1.Y.Hi, .bool a1.Y.Unknown, .int .i64 a1.Z.Lo, .int .i64 a1.Z.Hi, .bool a1.Z.Unknown] 31 (0, 0))] :: H) []) (n := 12) kr rfl HS127 ?_
         intro W147 HS148
         refine takeGL [0, 1] (n := 12) (fuel := 10) #[true, true, false, false, false, false, false, false, false, false, false, false] rfl kr kr kr (fun ch_ a_ w_ q_ => (fun ch_ a_ w_ q_ => hnp ch_ a_ w_ (hp77 ch_ a_ w_ q_)) ch_ a_ w_ (hp141 ch_ a_ w_ q_)) (Sg.g0 (Sx.of [] fL HS148)) ?_
         refine takeGQ 2 [] rfl kr kr kr kr kr kr (fun ch_ a_ w_ q_ => (fun ch_ a_ w_ q_ => hnp ch_ a_ w_ (hp77 ch_ a_ w_ q_)) ch_ a_ w_ (hp141 ch_ a_ w_ q_)) (Sg.g0 (Sx.of [] fL HS148)) (fun w_ hw_ => by obtain ⟨g_, hl_, hS_⟩ := hw_.st; exact run_loadN (n := 3) rfl Tryz.underlying29 rfl kr (kv (.pointer (some ⟨b23, 3, none⟩))) (cs := [.int .i64 ((vt16.getD 1 default).Lo), .int .i64 ((vt16.getD 1 default).Hi), .bool ((vt16.getD 1 default).Unknown)]) rfl (hS_.u1.cells 3 3 _ rfl)) ?_
         refine takeGL [3, 4] (n := 9) (fuel := 7) #[true, true, true, true, true, false, false, false, false, false, false, false] rfl kr kr kr (fun ch_ a_ w_ q_ => (fun ch_ a_ w_ q_ => hnp ch_ a_ w_ (hp77 ch_ a_ w_ q_)) ch_ a_ w_ (hp141 ch_ a_ w_ q_)) (Sg.g0 (Sx.of [] fL HS148)) ?_
         refine takeGQ 5 [] rfl kr kr kr kr kr kr (fun ch_ a_ w_ q_ => (fun ch_ a_ w_ q_ => hnp ch_ a_ w_ (hp77 ch_ a_ w_ q_)) ch_ a_ w_ (hp141 ch_ a_ w_ q_)) (Sg.g0 (Sx.of [] fL HS148)) (fun w_ hw_ => by obtain ⟨g_, hl_, hS_⟩ := hw_.st; exact run_loadN (n := 3) rfl Tryz.underlying29 rfl kr (kv (.pointer (some ⟨b38, 3, none⟩))) (cs := [.int .i64 ((vt31.getD 1 default).Lo), .int .i64 ((vt31.getD 1 default).Hi), .bool ((vt31.getD 1 default).Unknown)]) rfl (hS_.cells 3 3 _ rfl)) ?_
         have hq_ := bind_some h; clear h; obtain ⟨⟨vt149, vt150⟩, hc151, h⟩ := hq_
         refine takeGE 6 kr rfl kr (does_call (f := 32) (args := #[.agg #[.int .i64 ((vt16.getD 1 default).Lo), .int .i64 ((vt16.getD 1 default).Hi), .bool ((vt16.getD 1 default).Unknown)], .agg #[.int .i64 ((vt31.getD 1 default).Lo), .int .i64 ((vt31.getD 1 default).Hi), .bool ((vt31.getD 1 default).Unknown)]]) kr (query_product.calls k (vt16.getD 1 default) (vt31.getD 1 default) HS148 vt149 vt150 hc151) ?_)
         rintro _ W154 ⟨f152, rfl, L153, HS155⟩
         refine ⟨_, rfl, ?_⟩
         refine ⟨(Sg.g0 (Sx.of [] L153 HS155)), ?_⟩
         refine takeGL [7, 8, 9, 10, 11] (n := 5) (fuel := 0) #[true, true, true, true, true, true, true, true, true, true, true, true] rfl kr kr kr (fun ch_ a_ w_ q_ => (fun ch_ a_ w_ q_ => hnp ch_ a_ w_ (hp77 ch_ a_ w_ q_)) ch_ a_ w_ (hp141 ch_ a_ w_ q_)) (Sg.g0 (Sx.of [] L153 HS155)) ?_
         refine doneG kr ?_ _
         refine hK146 _ _ ?_
         refine wp_seq_k fun K156 hK157 => rl ?_
         refine seqL8 kr ?_
         refine nl (hK157 _ _ ?_)
         refine wp_seq_k fun K158 hK159 => rl ?_
         refine seqL2 kr ?_
         refine seqK rfl (does_run (run_loadN (n := 3) rfl Tryz.underlying29 rfl kr (kv (.pointer (some ⟨b23, 3, none⟩))) (cs := [.int .i64 ((vt16.getD 1 default).Lo), .int .i64 ((vt16.getD 1 default).Hi), .bool ((vt16.getD 1 default).Unknown)]) rfl (HS155.u1.cells 3 3 _ rfl)) ?_)
         have hq_ := bind_some h; clear h; obtain ⟨⟨vt160, vt161⟩, hc162, h⟩ := hq_
         refine seqK rfl (does_call (f := 33) (args := #[.agg #[.int .i64 ((vt16.getD 1 default).Lo), .int .i64 ((vt16.getD 1 default).Hi), .bool ((vt16.getD 1 default).Unknown)]]) kr (query_square.calls k (vt16.getD 1 default) HS155 vt160 vt161 hc162) ?_)
         rintro _ W165 ⟨f163, rfl, L164, HS166⟩
         refine ⟨_, rfl, ?_⟩
         refine seqL5 kr ?_
         refine nl (hK159 _ _ ?_)
         refine wp_seq_k fun K167 hK168 => rl ?_
         refine seqL8 kr ?_
         refine nl (hK168 _ _ ?_)
         refine wp_seq_k fun K169 hK170 => rl ?_
         refine seqL2 kr ?_
         refine seqK rfl (does_run (run_loadN (n := 3) rfl Tryz.underlying29 rfl kr (kv (.pointer (some ⟨b38, 3, none⟩))) (cs := [.int .i64 ((vt31.getD 1 default).Lo), .int .i64 ((vt31.getD 1 default).Hi), .bool ((vt31.getD 1 default).Unknown)]) rfl (HS166.cells 3 3 _ rfl)) ?_)
         have hq_ := bind_some h; clear h; obtain ⟨⟨vt171, vt172⟩, hc173, h⟩ := hq_
         refine seqK rfl (does_call (f := 33) (args := #[.agg #[.int .i64 ((vt31.getD 1 default).Lo), .int .i64 ((vt31.getD 1 default).Hi), .bool ((vt31.getD 1 default).Unknown)]]) kr (query_square.calls k (vt31.getD 1 default) HS166 vt171 vt172 hc173) ?_)
         rintro _ W176 ⟨f174, rfl, L175, HS177⟩
         refine ⟨_, rfl, ?_⟩
         refine seqL5 kr ?_
         refine nl (hK170 _ _ ?_)
         refine rl ?_
         refine seqS8 (a' := ⟨#[(ag_Box a1), (ag_Box b2), iV cos3, pV b6 0, pV b10 0, uV, iV 0, pV b23 0, .bool vt17, pV b38 0, .bool vt32, iV (w64 ((w64 (0 + vt99)) + vt149)), iV (w64 ((w64 (0 + vt100)) + vt150)), iV (w64 ((w64 (0 + vt110)) + vt160)), iV (w64 ((w64 (0 + vt111)) + vt161)), iV (w64 ((w64 (0 + vt121)) + vt171)), iV (w64 ((w64 (0 + vt122)) + vt172)), iV 1, iV vt171, iV vt172, uV, .tuple #[.agg #[iV ((vt16.getD 0 default).Lo), iV ((vt16.getD 0 default).Hi), .bool ((vt16.getD 0 default).Unknown), iV ((vt16.getD 1 default).Lo), iV ((vt16.getD 1 default).Hi), .bool ((vt16.getD 1 default).Unknown), iV ((vt16.getD 2 default).Lo), iV ((vt16.getD 2 default).Hi), .bool ((vt16.getD 2 default).Unknown)], .bool vt17], (ag_Box a1), .tuple #[.agg #[iV ((vt16.getD 0 default).Lo), iV ((vt16.getD 0 default).Hi), .bool ((vt16.getD 0 default).Unknown), iV ((vt16.getD 1 default).Lo), iV ((vt16.getD 1 default).Hi), .bool ((vt16.getD 1 default).Unknown), iV ((vt16.getD 2 default).Lo), iV ((vt16.getD 2 default).Hi), .bool ((vt16.getD 2 default).Unknown)], .bool vt17], .agg #[iV ((vt16.getD 0 default).Lo), iV ((vt16.getD 0 default).Hi), .bool ((vt16.getD 0 default).Unknown), iV ((vt16.getD 1 default).Lo), iV ((vt16.getD 1 default).Hi), .bool ((vt16.getD 1 default).Unknown), iV ((vt16.getD 2 default).Lo), iV ((vt16.getD 2 default).Hi), .bool ((vt16.getD 2 default).Unknown)], .bool vt17, .tuple #[.agg #[iV ((vt31.getD 0 default).Lo), iV ((vt31.getD 0 default).Hi), .bool ((vt31.getD 0 default).Unknown), iV ((vt31.getD 1 default).Lo), iV ((vt31.getD 1 default).Hi), .bool ((vt31.getD 1 default).Unknown), iV ((vt31.getD 2 default).Lo), iV ((vt31.getD 2 default).Hi), .bool ((vt31.getD 2 default).Unknown)], .bool vt32], (ag_Box b2), .tuple #[.agg #[iV ((vt31.getD 0 default).Lo), iV ((vt31.getD 0 default).Hi), .bool ((vt31.getD 0 default).Unknown), iV ((vt31.getD 1 default).Lo), iV ((vt31.getD 1 default).Hi), .bool ((vt31.getD 1 default).Unknown), iV ((vt31.getD 2 default).Lo), iV ((vt31.getD 2 default).Hi), .bool ((vt31.getD 2 default).Unknown)], .bool vt32], .agg #[iV ((vt31.getD 0 default).Lo), iV ((vt31.getD 0 default).Hi), .bool ((vt31.getD 0 default).Unknown), iV ((vt31.getD 1 default).Lo), iV ((vt31.getD 1 default).Hi), .bool ((vt31.getD 1 default).Unknown), iV ((vt31.getD 2 default).Lo), iV ((vt31.getD 2 default).Hi), .bool ((vt31.getD 2 default).Unknown)], .bool vt32, iV cos3, fV, fV, iV cos3, fV, fV, .bool vt17, fV, fV, .bool vt32, fV, fV, iV 1, tV, iV 1, .tuple #[iV vt149, iV vt150], iV 1, pV b23 3, (ag_Bound (vt16.getD 1 default)), iV 1, pV b38 3, (ag_Bound (vt31.getD 1 default)), .tuple #[iV vt149, iV vt150], iV vt149, iV vt150, iV (w64 (0 + vt99)), iV vt149, iV (w64 ((w64 (0 + vt99)) + vt149)), iV (w64 (0 + vt100)), iV vt150, iV (w64 ((w64 (0 + vt100)) + vt150)), .tuple #[iV vt160, iV vt161], iV 1, pV b23 3, (ag_Bound (vt16.getD 1 default)), .tuple #[iV vt160, iV vt161], iV vt160, iV vt161, iV (w64 (0 + vt110)), iV vt160, iV (w64 ((w64 (0 + vt110)) + vt160)), iV (w64 (0 + vt111)), iV vt161, iV (w64 ((w64 (0 + vt111)) + vt161)), .tuple #[iV vt171, iV vt172], iV 1, pV b38 3, (ag_Bound (vt31.getD 1 default)), .tuple #[iV vt171, iV vt172], iV vt171, iV vt172, iV (w64 (0 + vt121)), iV vt171, iV (w64 ((w64 (0 + vt121)) + vt171)), iV (w64 (0 + vt122)), iV vt172, iV (w64 ((w64 (0 + vt122)) + vt172)), iV 1, uV, uV, uV, uV, uV, uV, uV, uV, uV, uV, uV, uV, uV, uV, uV, uV, uV, uV, uV, uV, uV, uV, uV, uV, uV, uV, uV, uV, uV, uV, uV, uV, uV, uV, uV, uV, uV, uV, uV], []⟩) kr ?_
         refine nl ?_
         refine hn138 _ _ ?_
         refine hK135 _ _ ?_
         refine rl ?_
         refine seqL2 kr ?_
         refine nl (hK129 _ _ ?_)
         refine loopStepK (fun K178 hK179 => ?_)
         refine wp_seq_k fun K180 hK181 => rl ?_
         refine seqL1 kr ?_
         refine nl (hK181 _ _ ?_)
         refine wp_seq_k (fun K182 hK183 => ?_)
         refine condT kr ?_
         refine wp_skip ?_
         refine hK183 _ _ ?_
         refine wp_seq_k (fun K184 hK185 => ?_)
         refine blockK (fun B186 hx187 hn188 hr189 ho190 hp191 => ?_)
         refine wp_seq_k fun K193 hK194 => rl ?_
         refine seqL2 kr ?_
         refine nl (hK194 _ _ ?_)
         refine wp_seq_k (fun K195 hK196 => ?_)
         refine heldG (S := Sg t f174 ([(b38, .cells #[.int .i64 ((vt31.getD 0 default).Lo), .int .i64 ((vt31.getD 0 default).Hi), .bool ((vt31.getD 0 default).Unknown), .int .i64 ((vt31.getD 1 default).Lo), .int .i64 ((vt31.getD 1 default).Hi), .bool ((vt31.getD 1 default).Unknown), .int .i64 ((vt31.getD 2 default).Lo), .int .i64 ((vt31.getD 2 default).Hi), .bool ((vt31.getD 2 default).Unknown)] 81 (0, 0))] :: [(b23, .cells #[.int .i64 ((vt16.getD 0 default).Lo), .int .i64 ((vt16.getD 0 default).Hi), .bool ((vt16.getD 0 default).Unknown), .int .i64 ((vt16.getD 1 default).Lo), .int .i64 ((vt16.getD 1 default).Hi), .bool ((vt16.getD 1 default).Unknown), .int .i64 ((vt16.getD 2 default).Lo), .int .i64 ((vt16.getD 2 default).Hi), .bool ((vt16.getD 2 default).Unknown)] 81 (0, 0))] :: [(b10, .cells #[.int .i64 b2.X.Lo, .int .i64 b2.X.Hi, .bool b2.X.Unknown, .int .i64 b2.Y.Lo, .int .i64 b2.Y.Hi, .bool b2.Y.Unknown, .int .i64 b2.Z.Lo, .int .i64 b2.Z.Hi, .bool b2.Z.Unknown] 31 (0, 0))] :: [(b6, .cells #[.int .i64 a1.X.Lo, .int .i64 a1.X.Hi, .bool a1.X.Unknown, .int .i64 a1.Y.Lo, .int .i64 a1.Y.Hi, .bool a1.Y.Unknown, .int .i64 a1.Z.Lo, .int .i64 a1.Z.Hi, .bool a1.Z.Unknown] 31 (0, 0))] :: H) []) (n := 12) kr rfl HS177 ?_
         intro W197 HS198
         refine takeGL [0, 1] (n := 12) (fuel := 10) #[true, true, false, false, false, false, false, false, false, false, false, false] rfl kr kr kr (fun ch_ a_ w_ q_ => (fun ch_ a_ w_ q_ => hnp ch_ a_ w_ (hp77 ch_ a_ w_ q_)) ch_ a_ w_ (hp191 ch_ a_ w_ q_)) (Sg.g0 (Sx.of [] fL HS198)) ?_
         refine takeGQ 2 [] rfl kr kr kr kr kr kr (fun ch_ a_ w_ q_ => (fun ch_ a_ w_ q_ => hnp ch_ a_ w_ (hp77 ch_ a_ w_ q_)) ch_ a_ w_ (hp191 ch_ a_ w_ q_)) (Sg.g0 (Sx.of [] fL HS198)) (fun w_ hw_ => by obtain ⟨g_, hl_, hS_⟩ := hw_.st; exact run_loadN (n := 3) rfl Tryz.underlying29 rfl kr (kv (.pointer (some ⟨b23, 6, none⟩))) (cs := [.int .i64 ((vt16.getD 2 default).Lo), .int .i64 ((vt16.getD 2 default).Hi), .bool ((vt16.getD 2 default).Unknown)]) rfl (hS_.u1.cells 6 3 _ rfl)) ?_
         refine takeGL [3, 4] (n := 9) (fuel := 7) #[true, true, true, true, true, false, false, false, false, false, false, false] rfl kr kr kr (fun ch_ a_ w_ q_ => (fun ch_ a_ w_ q_ => hnp ch_ a_ w_ (hp77 ch_ a_ w_ q_)) ch_ a_ w_ (hp191 ch_ a_ w_ q_)) (Sg.g0 (Sx.of [] fL HS198)) ?_
         refine takeGQ 5 [] rfl kr kr kr kr kr kr (fun ch_ a_ w_ q_ => (fun ch_ a_ w_ q_ => hnp ch_ a_ w_ (hp77 ch_ a_ w_ q_)) ch_ a_ w_ (hp191 ch_ a_ w_ q_)) (Sg.g0 (Sx.of [] fL HS198)) (fun w_ hw_ => by obtain ⟨g_, hl_, hS_⟩ := hw_.st; exact run_loadN (n := 3) rfl Tryz.underlying29 rfl kr (kv (.pointer (some ⟨b38, 6, none⟩))) (cs := [.int .i64 ((vt31.getD 2 default).Lo), .int .i64 ((vt31.getD 2 default).Hi), .bool ((vt31.getD 2 default).Unknown)]) rfl (hS_.cells 6 3 _ rfl)) ?_
         have hq_ := bind_some h; clear h; obtain ⟨⟨vt199, vt200⟩, hc201, h⟩ := hq_
         refine takeGE 6 kr rfl kr (does_call (f := 32) (args := #[.agg #[.int .i64 ((vt16.getD 2 default).Lo), .int .i64 ((vt16.getD 2 default).Hi), .bool ((vt16.getD 2 default).Unknown)], .agg #[.int .i64 ((vt31.getD 2 default).Lo), .int .i64 ((vt31.getD 2 default).Hi), .bool ((vt31.getD 2 default).Unknown)]]) kr (query_product.calls k (vt16.getD 2 default) (vt31.getD 2 default) HS198 vt199 vt200 hc201) ?_)
         rintro _ W204 ⟨f202, rfl, L203, HS205⟩
         refine ⟨_, rfl, ?_⟩
         refine ⟨(Sg.g0 (Sx.of [] L203 HS205)), ?_⟩
         refine takeGL [7, 8, 9, 10, 11] (n := 5) (fuel := 0) #[true, true, true, true, true, true, true, true, true, true, true, true] rfl kr kr kr (fun ch_ a_ w_ q_ => (fun ch_ a_ w_ q_ => hnp ch_ a_ w_ (hp77 ch_ a_ w_ q_)) ch_ a_ w_ (hp191 ch_ a_ w_ q_)) (Sg.g0 (Sx.of [] L203 HS205)) ?_
         refine doneG kr ?_ _
         refine hK196 _ _ ?_
         refine wp_seq_k fun K206 hK207 => rl ?_
         refine seqL8 kr ?_
         refine nl (hK207 _ _ ?_)
         refine wp_seq_k fun K208 hK209 => rl ?_
         refine seqL2 kr ?_
         refine seqK rfl (does_run (run_loadN (n := 3) rfl Tryz.underlying29 rfl kr (kv (.pointer (some ⟨b23, 6, none⟩))) (cs := [.int .i64 ((vt16.getD 2 default).Lo), .int .i64 ((vt16.getD 2 default).Hi), .bool ((vt16.getD 2 default).Unknown)]) rfl (HS205.u1.cells 6 3 _ rfl)) ?_)
         have hq_ := bind_some h; clear h; obtain ⟨⟨vt210, vt211⟩, hc212, h⟩ := hq_
         refine seqK rfl (does_call (f := 33) (args := #[.agg #[.int .i64 ((vt16.getD 2 default).Lo), .int .i64 ((vt16.getD 2 default).Hi), .bool ((vt16.getD 2 default).Unknown)]]) kr (query_square.calls k (vt16.getD 2 default) HS205 vt210 vt211 hc212) ?_)
         rintro _ W215 ⟨f213, rfl, L214, HS216⟩
         refine ⟨_, rfl, ?_⟩
         refine seqL5 kr ?_
         refine nl (hK209 _ _ ?_)
         refine wp_seq_k fun K217 hK218 => rl ?_
         refine seqL8 kr ?_
         refine nl (hK218 _ _ ?_)
         refine wp_seq_k fun K219 hK220 => rl ?_
         refine seqL2 kr ?_
         refine seqK rfl (does_run (run_loadN (n := 3) rfl Tryz.underlying29 rfl kr (kv (.pointer (some ⟨b38, 6, none⟩))) (cs := [.int .i64 ((vt31.getD 2 default).Lo), .int .i64 ((vt31.getD 2 default).Hi), .bool ((vt31.getD 2 default).Unknown)]) rfl (HS216.cells 6 3 _ rfl)) ?_)
         have hq_ := bind_some h; clear h; obtain ⟨⟨vt221, vt222⟩, hc223, h⟩ := hq_
         refine seqK rfl (does_call (f := 33) (args := #[.agg #[.int .i64 ((vt31.getD 2 default).Lo), .int .i64 ((vt31.getD 2 default).Hi), .bool ((vt31.getD 2 default).Unknown)]]) kr (query_square.calls k (vt31.getD 2 default) HS216 vt221 vt222 hc223) ?_)
         rintro _ W226 ⟨f224, rfl, L225, HS227⟩
         refine ⟨_, rfl, ?_⟩
         refine seqL5 kr ?_
         refine nl (hK220 _ _ ?_)
         refine rl ?_
         refine seqL8 kr ?_
         refine nl ?_
         refine hn188 _ _ ?_
         refine hK185 _ _ ?_
         refine rl ?_
         refine seqL2 kr ?_
         refine nl (hK179 _ _ ?_)
         refine loopStepK (fun K228 hK229 => ?_)
         refine wp_seq_k fun K230 hK231 => rl ?_
         refine seqL1 kr ?_
         refine nl (hK231 _ _ ?_)
         refine wp_seq_k (fun K232 hK233 => ?_)
         refine condF kr ?_
         refine wp_exit ?_
         refine hx73 _ _ ?_
         refine hK69 _ _ ?_
         refine wp_seq_k fun K234 hK235 => rl ?_
         have hq_ := bind_some h; clear h; obtain ⟨vt236, hc237, h⟩ := hq_
         refine seqL2 kr ?_
         refine seqK rfl (does_call (f := 34) (args := #[.int .i64 (w64 ((w64 ((w64 (0 + vt111)) + vt161)) + vt211)), .int .i64 (w64 ((w64 ((w64 (0 + vt122)) + vt172)) + vt222))]) kr (num_SqrtMul.calls k (w64 ((w64 ((w64 (0 + vt111)) + vt161)) + vt211)) (w64 ((w64 ((w64 (0 + vt122)) + vt172)) + vt222)) HS227 vt236 hc237) ?_)
         rintro _ W240 ⟨f238, rfl, L239, HS241⟩
         refine ⟨_, rfl, ?_⟩
         refine seqL1 kr ?_
         refine nl (hK235 _ _ ?_)
         refine wp_seq_k (fun K242 hK243 => ?_)
         refine wp_seq_k fun K244 hK245 => rl ?_
         have hq_ := bind_some h; clear h; obtain ⟨vt246, hc247, h⟩ := hq_
         refine seqL2 kr ?_
         refine seqK rfl (does_call (f := 35) (args := #[.int .i64 vt236, .int .i64 vt236]) kr (num_Product.calls k vt236 vt236 HS241 vt246 hc247) ?_)
         rintro _ W250 ⟨f248, rfl, L249, HS251⟩
         refine ⟨_, rfl, ?_⟩
         have hq_ := bind_some h; clear h; obtain ⟨vt252, hc253, h⟩ := hq_
         refine seqL2 kr ?_
         refine seqK rfl (does_call (f := 35) (args := #[.int .i64 (w64 ((w64 ((w64 (0 + vt111)) + vt161)) + vt211)), .int .i64 (w64 ((w64 ((w64 (0 + vt122)) + vt172)) + vt222))]) kr (num_Product.calls k (w64 ((w64 ((w64 (0 + vt111)) + vt161)) + vt211)) (w64 ((w64 ((w64 (0 + vt122)) + vt172)) + vt222)) HS251 vt252 hc253) ?_)
         rintro _ W256 ⟨f254, rfl, L255, HS257⟩
         refine ⟨_, rfl, ?_⟩
         have hq_ := bind_some h; clear h; obtain ⟨vt258, hc259, h⟩ := hq_
         refine seqK rfl (does_call (f := 36) (args := #[.agg #[.int .i64 vt246.Hi, .int .u64 vt246.Lo], .agg #[.int .i64 vt252.Hi, .int .u64 vt252.Lo]]) kr (num_Wide_Cmp.calls k vt246 vt252 HS257 vt258 hc259) ?_)
         rintro _ W262 ⟨f260, rfl, L261, HS263⟩
         refine ⟨_, rfl, ?_⟩
         refine seqS1 (a' := ⟨#[(ag_Box a1), (ag_Box b2), iV cos3, pV b6 0, pV b10 0, uV, iV 0, pV b23 0, .bool vt17, pV b38 0, .bool vt32, iV (w64 ((w64 ((w64 (0 + vt99)) + vt149)) + vt199)), iV (w64 ((w64 ((w64 (0 + vt100)) + vt150)) + vt200)), iV (w64 ((w64 ((w64 (0 + vt110)) + vt160)) + vt210)), iV (w64 ((w64 ((w64 (0 + vt111)) + vt161)) + vt211)), iV (w64 ((w64 ((w64 (0 + vt121)) + vt171)) + vt221)), iV (w64 ((w64 ((w64 (0 + vt122)) + vt172)) + vt222)), iV 2, iV vt221, iV vt222, iV vt236, .tuple #[.agg #[iV ((vt16.getD 0 default).Lo), iV ((vt16.getD 0 default).Hi), .bool ((vt16.getD 0 default).Unknown), iV ((vt16.getD 1 default).Lo), iV ((vt16.getD 1 default).Hi), .bool ((vt16.getD 1 default).Unknown), iV ((vt16.getD 2 default).Lo), iV ((vt16.getD 2 default).Hi), .bool ((vt16.getD 2 default).Unknown)], .bool vt17], (ag_Box a1), .tuple #[.agg #[iV ((vt16.getD 0 default).Lo), iV ((vt16.getD 0 default).Hi), .bool ((vt16.getD 0 default).Unknown), iV ((vt16.getD 1 default).Lo), iV ((vt16.getD 1 default).Hi), .bool ((vt16.getD 1 default).Unknown), iV ((vt16.getD 2 default).Lo), iV ((vt16.getD 2 default).Hi), .bool ((vt16.getD 2 default).Unknown)], .bool vt17], .agg #[iV ((vt16.getD 0 default).Lo), iV ((vt16.getD 0 default).Hi), .bool ((vt16.getD 0 default).Unknown), iV ((vt16.getD 1 default).Lo), iV ((vt16.getD 1 default).Hi), .bool ((vt16.getD 1 default).Unknown), iV ((vt16.getD 2 default).Lo), iV ((vt16.getD 2 default).Hi), .bool ((vt16.getD 2 default).Unknown)], .bool vt17, .tuple #[.agg #[iV ((vt31.getD 0 default).Lo), iV ((vt31.getD 0 default).Hi), .bool ((vt31.getD 0 default).Unknown), iV ((vt31.getD 1 default).Lo), iV ((vt31.getD 1 default).Hi), .bool ((vt31.getD 1 default).Unknown), iV ((vt31.getD 2 default).Lo), iV ((vt31.getD 2 default).Hi), .bool ((vt31.getD 2 default).Unknown)], .bool vt32], (ag_Box b2), .tuple #[.agg #[iV ((vt31.getD 0 default).Lo), iV ((vt31.getD 0 default).Hi), .bool ((vt31.getD 0 default).Unknown), iV ((vt31.getD 1 default).Lo), iV ((vt31.getD 1 default).Hi), .bool ((vt31.getD 1 default).Unknown), iV ((vt31.getD 2 default).Lo), iV ((vt31.getD 2 default).Hi), .bool ((vt31.getD 2 default).Unknown)], .bool vt32], .agg #[iV ((vt31.getD 0 default).Lo), iV ((vt31.getD 0 default).Hi), .bool ((vt31.getD 0 default).Unknown), iV ((vt31.getD 1 default).Lo), iV ((vt31.getD 1 default).Hi), .bool ((vt31.getD 1 default).Unknown), iV ((vt31.getD 2 default).Lo), iV ((vt31.getD 2 default).Hi), .bool ((vt31.getD 2 default).Unknown)], .bool vt32, iV cos3, fV, fV, iV cos3, fV, fV, .bool vt17, fV, fV, .bool vt32, fV, fV, iV 3, fV, iV 2, .tuple #[iV vt199, iV vt200], iV 2, pV b23 6, (ag_Bound (vt16.getD 2 default)), iV 2, pV b38 6, (ag_Bound (vt31.getD 2 default)), .tuple #[iV vt199, iV vt200], iV vt199, iV vt200, iV (w64 ((w64 (0 + vt99)) + vt149)), iV vt199, iV (w64 ((w64 ((w64 (0 + vt99)) + vt149)) + vt199)), iV (w64 ((w64 (0 + vt100)) + vt150)), iV vt200, iV (w64 ((w64 ((w64 (0 + vt100)) + vt150)) + vt200)), .tuple #[iV vt210, iV vt211], iV 2, pV b23 6, (ag_Bound (vt16.getD 2 default)), .tuple #[iV vt210, iV vt211], iV vt210, iV vt211, iV (w64 ((w64 (0 + vt110)) + vt160)), iV vt210, iV (w64 ((w64 ((w64 (0 + vt110)) + vt160)) + vt210)), iV (w64 ((w64 (0 + vt111)) + vt161)), iV vt211, iV (w64 ((w64 ((w64 (0 + vt111)) + vt161)) + vt211)), .tuple #[iV vt221, iV vt222], iV 2, pV b38 6, (ag_Bound (vt31.getD 2 default)), .tuple #[iV vt221, iV vt222], iV vt221, iV vt222, iV (w64 ((w64 (0 + vt121)) + vt171)), iV vt221, iV (w64 ((w64 ((w64 (0 + vt121)) + vt171)) + vt221)), iV (w64 ((w64 (0 + vt122)) + vt172)), iV vt222, iV (w64 ((w64 ((w64 (0 + vt122)) + vt172)) + vt222)), iV 3, iV (w64 ((w64 ((w64 (0 + vt111)) + vt161)) + vt211)), iV (w64 ((w64 ((w64 (0 + vt122)) + vt172)) + vt222)), iV vt236, iV vt236, iV vt236, .agg #[iV vt246.Hi, .int .u64 vt246.Lo], iV (w64 ((w64 ((w64 (0 + vt111)) + vt161)) + vt211)), iV (w64 ((w64 ((w64 (0 + vt122)) + vt172)) + vt222)), .agg #[iV vt252.Hi, .int .u64 vt252.Lo], iV vt258, .bool (decide (vt258 < 0)), uV, uV, uV, uV, uV, uV, uV, uV, uV, uV, uV, uV, uV, uV, uV, uV, uV, uV, uV, uV, uV, uV, uV, uV, uV, uV, uV, uV], []⟩) kr ?_
         refine nl (hK245 _ _ ?_)
         have hq_ := bind_some h; clear h; obtain ⟨v264, hv272, h⟩ := hq_
         have J273 : ∀ (f266 : FM) (root271 : Int) (j270 : Nat → Value) (W268 : World) (a_ : Act), FM.le f260 f266 → some (root271) = some v264 → St t W268 f266 ([(b38, .cells #[.int .i64 ((vt31.getD 0 default).Lo), .int .i64 ((vt31.getD 0 default).Hi), .bool ((vt31.getD 0 default).Unknown), .int .i64 ((vt31.getD 1 default).Lo), .int .i64 ((vt31.getD 1 default).Hi), .bool ((vt31.getD 1 default).Unknown), .int .i64 ((vt31.getD 2 default).Lo), .int .i64 ((vt31.getD 2 default).Hi), .bool ((vt31.getD 2 default).Unknown)] 81 (0, 0))] :: [(b23, .cells #[.int .i64 ((vt16.getD 0 default).Lo), .int .i64 ((vt16.getD 0 default).Hi), .bool ((vt16.getD 0 default).Unknown), .int .i64 ((vt16.getD 1 default).Lo), .int .i64 ((vt16.getD 1 default).Hi), .bool ((vt16.getD 1 default).Unknown), .int .i64 ((vt16.getD 2 default).Lo), .int .i64 ((vt16.getD 2 default).Hi), .bool ((vt16.getD 2 default).Unknown)] 81 (0, 0))] :: [(b10, .cells #[.int .i64 b2.X.Lo, .int .i64 b2.X.Hi, .bool b2.X.Unknown, .int .i64 b2.Y.Lo, .int .i64 b2.Y.Hi, .bool b2.Y.Unknown, .int .i64 b2.Z.Lo, .int .i64 b2.Z.Hi, .bool b2.Z.Unknown] 31 (0, 0))] :: [(b6, .cells #[.int .i64 a1.X.Lo, .int .i64 a1.X.Hi, .bool a1.X.Unknown, .int .i64 a1.Y.Lo, .int .i64 a1.Y.Hi, .bool a1.Y.Unknown, .int .i64 a1.Z.Lo, .int .i64 a1.Z.Hi, .bool a1.Z.Unknown] 31 (0, 0))] :: H) → a_ = ⟨#[(ag_Box a1), (ag_Box b2), iV cos3, pV b6 0, pV b10 0, uV, iV 0, pV b23 0, .bool vt17, pV b38 0, .bool vt32, iV (w64 ((w64 ((w64 (0 + vt99)) + vt149)) + vt199)), iV (w64 ((w64 ((w64 (0 + vt100)) + vt150)) + vt200)), iV (w64 ((w64 ((w64 (0 + vt110)) + vt160)) + vt210)), iV (w64 ((w64 ((w64 (0 + vt111)) + vt161)) + vt211)), iV (w64 ((w64 ((w64 (0 + vt121)) + vt171)) + vt221)), iV (w64 ((w64 ((w64 (0 + vt122)) + vt172)) + vt222)), iV 2, iV vt221, iV vt222, iV root271, .tuple #[.agg #[iV ((vt16.getD 0 default).Lo), iV ((vt16.getD 0 default).Hi), .bool ((vt16.getD 0 default).Unknown), iV ((vt16.getD 1 default).Lo), iV ((vt16.getD 1 default).Hi), .bool ((vt16.getD 1 default).Unknown), iV ((vt16.getD 2 default).Lo), iV ((vt16.getD 2 default).Hi), .bool ((vt16.getD 2 default).Unknown)], .bool vt17], (ag_Box a1), .tuple #[.agg #[iV ((vt16.getD 0 default).Lo), iV ((vt16.getD 0 default).Hi), .bool ((vt16.getD 0 default).Unknown), iV ((vt16.getD 1 default).Lo), iV ((vt16.getD 1 default).Hi), .bool ((vt16.getD 1 default).Unknown), iV ((vt16.getD 2 default).Lo), iV ((vt16.getD 2 default).Hi), .bool ((vt16.getD 2 default).Unknown)], .bool vt17], .agg #[iV ((vt16.getD 0 default).Lo), iV ((vt16.getD 0 default).Hi), .bool ((vt16.getD 0 default).Unknown), iV ((vt16.getD 1 default).Lo), iV ((vt16.getD 1 default).Hi), .bool ((vt16.getD 1 default).Unknown), iV ((vt16.getD 2 default).Lo), iV ((vt16.getD 2 default).Hi), .bool ((vt16.getD 2 default).Unknown)], .bool vt17, .tuple #[.agg #[iV ((vt31.getD 0 default).Lo), iV ((vt31.getD 0 default).Hi), .bool ((vt31.getD 0 default).Unknown), iV ((vt31.getD 1 default).Lo), iV ((vt31.getD 1 default).Hi), .bool ((vt31.getD 1 default).Unknown), iV ((vt31.getD 2 default).Lo), iV ((vt31.getD 2 default).Hi), .bool ((vt31.getD 2 default).Unknown)], .bool vt32], (ag_Box b2), .tuple #[.agg #[iV ((vt31.getD 0 default).Lo), iV ((vt31.getD 0 default).Hi), .bool ((vt31.getD 0 default).Unknown), iV ((vt31.getD 1 default).Lo), iV ((vt31.getD 1 default).Hi), .bool ((vt31.getD 1 default).Unknown), iV ((vt31.getD 2 default).Lo), iV ((vt31.getD 2 default).Hi), .bool ((vt31.getD 2 default).Unknown)], .bool vt32], .agg #[iV ((vt31.getD 0 default).Lo), iV ((vt31.getD 0 default).Hi), .bool ((vt31.getD 0 default).Unknown), iV ((vt31.getD 1 default).Lo), iV ((vt31.getD 1 default).Hi), .bool ((vt31.getD 1 default).Unknown), iV ((vt31.getD 2 default).Lo), iV ((vt31.getD 2 default).Hi), .bool ((vt31.getD 2 default).Unknown)], .bool vt32, iV cos3, fV, fV, iV cos3, fV, fV, .bool vt17, fV, fV, .bool vt32, fV, fV, iV 3, fV, iV 2, .tuple #[iV vt199, iV vt200], iV 2, pV b23 6, (ag_Bound (vt16.getD 2 default)), iV 2, pV b38 6, (ag_Bound (vt31.getD 2 default)), .tuple #[iV vt199, iV vt200], iV vt199, iV vt200, iV (w64 ((w64 (0 + vt99)) + vt149)), iV vt199, iV (w64 ((w64 ((w64 (0 + vt99)) + vt149)) + vt199)), iV (w64 ((w64 (0 + vt100)) + vt150)), iV vt200, iV (w64 ((w64 ((w64 (0 + vt100)) + vt150)) + vt200)), .tuple #[iV vt210, iV vt211], iV 2, pV b23 6, (ag_Bound (vt16.getD 2 default)), .tuple #[iV vt210, iV vt211], iV vt210, iV vt211, iV (w64 ((w64 (0 + vt110)) + vt160)), iV vt210, iV (w64 ((w64 ((w64 (0 + vt110)) + vt160)) + vt210)), iV (w64 ((w64 (0 + vt111)) + vt161)), iV vt211, iV (w64 ((w64 ((w64 (0 + vt111)) + vt161)) + vt211)), .tuple #[iV vt221, iV vt222], iV 2, pV b38 6, (ag_Bound (vt31.getD 2 default)), .tuple #[iV vt221, iV vt222], iV vt221, iV vt222, iV (w64 ((w64 (0 + vt121)) + vt171)), iV vt221, iV (w64 ((w64 ((w64 (0 + vt121)) + vt171)) + vt221)), iV (w64 ((w64 (0 + vt122)) + vt172)), iV vt222, iV (w64 ((w64 ((w64 (0 + vt122)) + vt172)) + vt222)), iV 3, iV (w64 ((w64 ((w64 (0 + vt111)) + vt161)) + vt211)), iV (w64 ((w64 ((w64 (0 + vt122)) + vt172)) + vt222)), iV vt236, iV vt236, iV vt236, .agg #[iV vt246.Hi, .int .u64 vt246.Lo], iV (w64 ((w64 ((w64 (0 + vt111)) + vt161)) + vt211)), iV (w64 ((w64 ((w64 (0 + vt122)) + vt172)) + vt222)), .agg #[iV vt252.Hi, .int .u64 vt252.Lo], iV vt258, .bool (decide (vt258 < 0)), (j270 0), (j270 1), uV, uV, uV, uV, uV, uV, uV, uV, uV, uV, uV, uV, uV, uV, uV, uV, uV, uV, uV, uV, uV, uV, uV, uV, uV, uV], []⟩ → K242 a_ W268 := by
          intro f266 root271 j270 W268 a_ L267 hj274 HS269  hfr_; subst hfr_
          injection hj274 with hj274; subst hj274; try dsimp only at h
          refine hK243 _ _ ?_
          refine wp_seq_k (fun K275 hK276 => ?_)
          refine blockK (fun B277 hx278 hn279 hr280 ho281 hp282 => ?_)
          refine wp_seq_k fun K284 hK285 => rl ?_
          refine seqL3 kr ?_
          have hq_ := ite_some h; clear h; rcases hq_ with ⟨c286, h⟩ | ⟨c286, h⟩
          · have c286 : (w64 ((w64 ((w64 (0 + vt110)) + vt160)) + vt210)) > 0 := c286
            refine seqRwI 104 kr (decide_eq_true c286) ?_
            refine seqRwI 105 kr (decide_eq_true c286) ?_
            refine seqL4 kr ?_
            have hq_ := ite_some h; clear h; rcases hq_ with ⟨c287, h⟩ | ⟨c287, h⟩
            · have c287 : (w64 ((w64 ((w64 (0 + vt121)) + vt171)) + vt221)) > 0 := c287
              refine seqRwI 107 kr (decide_eq_true c287) ?_
              refine seqRwI 108 kr (decide_eq_true c287) ?_
              refine seqRwI 109 kr (decide_eq_true c287) ?_
              have hq_ := bind_some h; clear h; obtain ⟨vt288, hc289, h⟩ := hq_
              refine seqL1 kr ?_
              refine seqG kr (does_call (f := 35) (args := #[.int .i64 (w64 ((w64 ((w64 (0 + vt99)) + vt149)) + vt199)), .int .i64 1073741824]) kr (num_Product.calls k (w64 ((w64 ((w64 (0 + vt99)) + vt149)) + vt199)) 1073741824 HS269 vt288 hc289) ?_)
              rintro _ W292 ⟨f290, rfl, L291, HS293⟩
              refine ⟨_, rfl, ?_⟩
              have hq_ := bind_some h; clear h; obtain ⟨vt294, hc295, h⟩ := hq_
              refine seqL2 kr ?_
              refine seqG kr (does_call (f := 35) (args := #[.int .i64 cos3, .int .i64 root271]) kr (num_Product.calls k cos3 root271 HS293 vt294 hc295) ?_)
              rintro _ W298 ⟨f296, rfl, L297, HS299⟩
              refine ⟨_, rfl, ?_⟩
              have hq_ := bind_some h; clear h; obtain ⟨vt300, hc301, h⟩ := hq_
              refine seqG kr (does_call (f := 36) (args := #[.agg #[.int .i64 vt288.Hi, .int .u64 vt288.Lo], .agg #[.int .i64 vt294.Hi, .int .u64 vt294.Lo]]) kr (num_Wide_Cmp.calls k vt288 vt294 HS299 vt300 hc301) ?_)
              rintro _ W304 ⟨f302, rfl, L303, HS305⟩
              refine ⟨_, rfl, ?_⟩
              refine seqL3 kr ?_
              refine nl (hK285 _ _ ?_)
              have hq_ := ite_some h; clear h; rcases hq_ with ⟨c307, h⟩ | ⟨c307, h⟩
              · have c307 : vt300 ≥ 0 := c307
                refine wpRwI 102 kr (decide_eq_true c307) ?_
                refine wpRwI 116 kr (decide_eq_true c307) ?_
                refine wpRwI 117 kr (decide_eq_true c307) ?_
                refine condT kr ?_
                refine wp_seq_k fun K308 hK309 => rl ?_
                refine seqL1 kr ?_
                refine nl (hK309 _ _ ?_)
                refine wp_ret ?_
                refine hr280 _ _ ?_
                refine hret _ _ ?_
                refine ends_still (v := Value.int .i64 2) kr kr ?_
                have HS422 := HS305.drop
                have HS423 := HS422.drop
                have HS424 := HS423.drop
                have HS425 := HS424.drop
                injection h with h
                subst h
                exact ⟨f302, rfl, (L20.trans (L35.trans (L103.trans (L114.trans (L125.trans (L153.trans (L164.trans (L175.trans (L203.trans (L214.trans (L225.trans (L239.trans (L249.trans (L255.trans (L261.trans (L267.trans (L291.trans (L297.trans L303)))))))))))))))))), HS425⟩
              · have c307 : ¬ (vt300 ≥ 0) := c307
                refine wpRwI 102 kr (decide_eq_false c307) ?_
                refine wpRwI 116 kr (decide_eq_false c307) ?_
                refine wpRwI 117 kr (decide_eq_false c307) ?_
                refine condF kr ?_
                refine wp_seq_k fun K310 hK311 => rl ?_
                have hq_ := bind_some h; clear h; obtain ⟨vt312, hc313, h⟩ := hq_
                refine seqL1 kr ?_
                refine seqK rfl (does_call (f := 35) (args := #[.int .i64 (w64 ((w64 ((w64 (0 + vt100)) + vt150)) + vt200)), .int .i64 1073741824]) kr (num_Product.calls k (w64 ((w64 ((w64 (0 + vt100)) + vt150)) + vt200)) 1073741824 HS305 vt312 hc313) ?_)
                rintro _ W316 ⟨f314, rfl, L315, HS317⟩
                refine ⟨_, rfl, ?_⟩
                have hq_ := bind_some h; clear h; obtain ⟨vt318, hc319, h⟩ := hq_
                refine seqL3 kr ?_
                refine seqK rfl (does_call (f := 34) (args := #[.int .i64 (w64 ((w64 ((w64 (0 + vt110)) + vt160)) + vt210)), .int .i64 (w64 ((w64 ((w64 (0 + vt121)) + vt171)) + vt221))]) kr (num_SqrtMul.calls k (w64 ((w64 ((w64 (0 + vt110)) + vt160)) + vt210)) (w64 ((w64 ((w64 (0 + vt121)) + vt171)) + vt221)) HS317 vt318 hc319) ?_)
                rintro _ W322 ⟨f320, rfl, L321, HS323⟩
                refine ⟨_, rfl, ?_⟩
                have hq_ := bind_some h; clear h; obtain ⟨vt324, hc325, h⟩ := hq_
                refine seqK rfl (does_call (f := 35) (args := #[.int .i64 cos3, .int .i64 vt318]) kr (num_Product.calls k cos3 vt318 HS323 vt324 hc325) ?_)
                rintro _ W328 ⟨f326, rfl, L327, HS329⟩
                refine ⟨_, rfl, ?_⟩
                have hq_ := bind_some h; clear h; obtain ⟨vt330, hc331, h⟩ := hq_
                refine seqK rfl (does_call (f := 36) (args := #[.agg #[.int .i64 vt312.Hi, .int .u64 vt312.Lo], .agg #[.int .i64 vt324.Hi, .int .u64 vt324.Lo]]) kr (num_Wide_Cmp.calls k vt312 vt324 HS329 vt330 hc331) ?_)
                rintro _ W334 ⟨f332, rfl, L333, HS335⟩
                refine ⟨_, rfl, ?_⟩
                refine seqL2 kr ?_
                refine nl (hK311 _ _ ?_)
                have hq_ := ite_some h; clear h; rcases hq_ with ⟨c337, h⟩ | ⟨c337, h⟩
                · have c337 : vt330 < 0 := c337
                  refine wpRwI 118 kr (decide_eq_true c337) ?_
                  refine wpRwI 127 kr (decide_eq_true c337) ?_
                  refine condT kr ?_
                  refine wp_seq_k fun K338 hK339 => rl ?_
                  refine seqL1 kr ?_
                  refine nl (hK339 _ _ ?_)
                  refine wp_ret ?_
                  refine hr280 _ _ ?_
                  refine hret _ _ ?_
                  refine ends_still (v := Value.int .i64 0) kr kr ?_
                  have HS426 := HS335.drop
                  have HS427 := HS426.drop
                  have HS428 := HS427.drop
                  have HS429 := HS428.drop
                  injection h with h
                  subst h
                  exact ⟨f332, rfl, (L20.trans (L35.trans (L103.trans (L114.trans (L125.trans (L153.trans (L164.trans (L175.trans (L203.trans (L214.trans (L225.trans (L239.trans (L249.trans (L255.trans (L261.trans (L267.trans (L291.trans (L297.trans (L303.trans (L315.trans (L321.trans (L327.trans L333)))))))))))))))))))))), HS429⟩
                · have c337 : ¬ (vt330 < 0) := c337
                  refine wpRwI 118 kr (decide_eq_false c337) ?_
                  refine wpRwI 127 kr (decide_eq_false c337) ?_
                  refine condF kr ?_
                  refine wp_skip ?_
                  refine hn279 _ _ ?_
                  refine hK276 _ _ ?_
                  refine wp_seq_k fun K400 hK401 => rl ?_
                  refine seqL1 kr ?_
                  refine nl (hK401 _ _ ?_)
                  refine wp_ret ?_
                  refine hret _ _ ?_
                  refine ends_still (v := Value.int .i64 1) kr kr ?_
                  have HS438 := HS335.drop
                  have HS439 := HS438.drop
                  have HS440 := HS439.drop
                  have HS441 := HS440.drop
                  injection h with h
                  subst h
                  exact ⟨f332, rfl, (L20.trans (L35.trans (L103.trans (L114.trans (L125.trans (L153.trans (L164.trans (L175.trans (L203.trans (L214.trans (L225.trans (L239.trans (L249.trans (L255.trans (L261.trans (L267.trans (L291.trans (L297.trans (L303.trans (L315.trans (L321.trans (L327.trans L333)))))))))))))))))))))), HS441⟩
            · have c287 : ¬ ((w64 ((w64 ((w64 (0 + vt121)) + vt171)) + vt221)) > 0) := c287
              refine seqRwI 107 kr (decide_eq_false c287) ?_
              refine seqRwI 108 kr (decide_eq_false c287) ?_
              refine seqRwI 109 kr (decide_eq_false c287) ?_
              refine seqL9 kr ?_
              refine nl (hK285 _ _ ?_)
              refine condF kr ?_
              refine wp_seq_k fun K340 hK341 => rl ?_
              have hq_ := bind_some h; clear h; obtain ⟨vt342, hc343, h⟩ := hq_
              refine seqL1 kr ?_
              refine seqK rfl (does_call (f := 35) (args := #[.int .i64 (w64 ((w64 ((w64 (0 + vt100)) + vt150)) + vt200)), .int .i64 1073741824]) kr (num_Product.calls k (w64 ((w64 ((w64 (0 + vt100)) + vt150)) + vt200)) 1073741824 HS269 vt342 hc343) ?_)
              rintro _ W346 ⟨f344, rfl, L345, HS347⟩
              refine ⟨_, rfl, ?_⟩
              have hq_ := bind_some h; clear h; obtain ⟨vt348, hc349, h⟩ := hq_
              refine seqL3 kr ?_
              refine seqK rfl (does_call (f := 34) (args := #[.int .i64 (w64 ((w64 ((w64 (0 + vt110)) + vt160)) + vt210)), .int .i64 (w64 ((w64 ((w64 (0 + vt121)) + vt171)) + vt221))]) kr (num_SqrtMul.calls k (w64 ((w64 ((w64 (0 + vt110)) + vt160)) + vt210)) (w64 ((w64 ((w64 (0 + vt121)) + vt171)) + vt221)) HS347 vt348 hc349) ?_)
              rintro _ W352 ⟨f350, rfl, L351, HS353⟩
              refine ⟨_, rfl, ?_⟩
              have hq_ := bind_some h; clear h; obtain ⟨vt354, hc355, h⟩ := hq_
              refine seqK rfl (does_call (f := 35) (args := #[.int .i64 cos3, .int .i64 vt348]) kr (num_Product.calls k cos3 vt348 HS353 vt354 hc355) ?_)
              rintro _ W358 ⟨f356, rfl, L357, HS359⟩
              refine ⟨_, rfl, ?_⟩
              have hq_ := bind_some h; clear h; obtain ⟨vt360, hc361, h⟩ := hq_
              refine seqK rfl (does_call (f := 36) (args := #[.agg #[.int .i64 vt342.Hi, .int .u64 vt342.Lo], .agg #[.int .i64 vt354.Hi, .int .u64 vt354.Lo]]) kr (num_Wide_Cmp.calls k vt342 vt354 HS359 vt360 hc361) ?_)
              rintro _ W364 ⟨f362, rfl, L363, HS365⟩
              refine ⟨_, rfl, ?_⟩
              refine seqL2 kr ?_
              refine nl (hK341 _ _ ?_)
              have hq_ := ite_some h; clear h; rcases hq_ with ⟨c367, h⟩ | ⟨c367, h⟩
              · have c367 : vt360 < 0 := c367
                refine wpRwI 118 kr (decide_eq_true c367) ?_
                refine wpRwI 127 kr (decide_eq_true c367) ?_
                refine condT kr ?_
                refine wp_seq_k fun K368 hK369 => rl ?_
                refine seqL1 kr ?_
                refine nl (hK369 _ _ ?_)
                refine wp_ret ?_
                refine hr280 _ _ ?_
                refine hret _ _ ?_
                refine ends_still (v := Value.int .i64 0) kr kr ?_
                have HS430 := HS365.drop
                have HS431 := HS430.drop
                have HS432 := HS431.drop
                have HS433 := HS432.drop
                injection h with h
                subst h
                exact ⟨f362, rfl, (L20.trans (L35.trans (L103.trans (L114.trans (L125.trans (L153.trans (L164.trans (L175.trans (L203.trans (L214.trans (L225.trans (L239.trans (L249.trans (L255.trans (L261.trans (L267.trans (L345.trans (L351.trans (L357.trans L363))))))))))))))))))), HS433⟩
              · have c367 : ¬ (vt360 < 0) := c367
                refine wpRwI 118 kr (decide_eq_false c367) ?_
                refine wpRwI 127 kr (decide_eq_false c367) ?_
                refine condF kr ?_
                refine wp_skip ?_
                refine hn279 _ _ ?_
                refine hK276 _ _ ?_
                refine wp_seq_k fun K402 hK403 => rl ?_
                refine seqL1 kr ?_
                refine nl (hK403 _ _ ?_)
                refine wp_ret ?_
                refine hret _ _ ?_
                refine ends_still (v := Value.int .i64 1) kr kr ?_
                have HS442 := HS365.drop
                have HS443 := HS442.drop
                have HS444 := HS443.drop
                have HS445 := HS444.drop
                injection h with h
                subst h
                exact ⟨f362, rfl, (L20.trans (L35.trans (L103.trans (L114.trans (L125.trans (L153.trans (L164.trans (L175.trans (L203.trans (L214.trans (L225.trans (L239.trans (L249.trans (L255.trans (L261.trans (L267.trans (L345.trans (L351.trans (L357.trans L363))))))))))))))))))), HS445⟩
          · have c286 : ¬ ((w64 ((w64 ((w64 (0 + vt110)) + vt160)) + vt210)) > 0) := c286
            refine seqRwI 104 kr (decide_eq_false c286) ?_
            refine seqRwI 105 kr (decide_eq_false c286) ?_
            refine seqL13 kr ?_
            refine nl (hK285 _ _ ?_)
            refine condF kr ?_
            refine wp_seq_k fun K370 hK371 => rl ?_
            have hq_ := bind_some h; clear h; obtain ⟨vt372, hc373, h⟩ := hq_
            refine seqL1 kr ?_
            refine seqK rfl (does_call (f := 35) (args := #[.int .i64 (w64 ((w64 ((w64 (0 + vt100)) + vt150)) + vt200)), .int .i64 1073741824]) kr (num_Product.calls k (w64 ((w64 ((w64 (0 + vt100)) + vt150)) + vt200)) 1073741824 HS269 vt372 hc373) ?_)
            rintro _ W376 ⟨f374, rfl, L375, HS377⟩
            refine ⟨_, rfl, ?_⟩
            have hq_ := bind_some h; clear h; obtain ⟨vt378, hc379, h⟩ := hq_
            refine seqL3 kr ?_
            refine seqK rfl (does_call (f := 34) (args := #[.int .i64 (w64 ((w64 ((w64 (0 + vt110)) + vt160)) + vt210)), .int .i64 (w64 ((w64 ((w64 (0 + vt121)) + vt171)) + vt221))]) kr (num_SqrtMul.calls k (w64 ((w64 ((w64 (0 + vt110)) + vt160)) + vt210)) (w64 ((w64 ((w64 (0 + vt121)) + vt171)) + vt221)) HS377 vt378 hc379) ?_)
            rintro _ W382 ⟨f380, rfl, L381, HS383⟩
            refine ⟨_, rfl, ?_⟩
            have hq_ := bind_some h; clear h; obtain ⟨vt384, hc385, h⟩ := hq_
            refine seqK rfl (does_call (f := 35) (args := #[.int .i64 cos3, .int .i64 vt378]) kr (num_Product.calls k cos3 vt378 HS383 vt384 hc385) ?_)
            rintro _ W388 ⟨f386, rfl, L387, HS389⟩
            refine ⟨_, rfl, ?_⟩
            have hq_ := bind_some h; clear h; obtain ⟨vt390, hc391, h⟩ := hq_
            refine seqK rfl (does_call (f := 36) (args := #[.agg #[.int .i64 vt372.Hi, .int .u64 vt372.Lo], .agg #[.int .i64 vt384.Hi, .int .u64 vt384.Lo]]) kr (num_Wide_Cmp.calls k vt372 vt384 HS389 vt390 hc391) ?_)
            rintro _ W394 ⟨f392, rfl, L393, HS395⟩
            refine ⟨_, rfl, ?_⟩
            refine seqL2 kr ?_
            refine nl (hK371 _ _ ?_)
            have hq_ := ite_some h; clear h; rcases hq_ with ⟨c397, h⟩ | ⟨c397, h⟩
            · have c397 : vt390 < 0 := c397
              refine wpRwI 118 kr (decide_eq_true c397) ?_
              refine wpRwI 127 kr (decide_eq_true c397) ?_
              refine condT kr ?_
              refine wp_seq_k fun K398 hK399 => rl ?_
              refine seqL1 kr ?_
              refine nl (hK399 _ _ ?_)
              refine wp_ret ?_
              refine hr280 _ _ ?_
              refine hret _ _ ?_
              refine ends_still (v := Value.int .i64 0) kr kr ?_
              have HS434 := HS395.drop
              have HS435 := HS434.drop
              have HS436 := HS435.drop
              have HS437 := HS436.drop
              injection h with h
              subst h
              exact ⟨f392, rfl, (L20.trans (L35.trans (L103.trans (L114.trans (L125.trans (L153.trans (L164.trans (L175.trans (L203.trans (L214.trans (L225.trans (L239.trans (L249.trans (L255.trans (L261.trans (L267.trans (L375.trans (L381.trans (L387.trans L393))))))))))))))))))), HS437⟩
            · have c397 : ¬ (vt390 < 0) := c397
              refine wpRwI 118 kr (decide_eq_false c397) ?_
              refine wpRwI 127 kr (decide_eq_false c397) ?_
              refine condF kr ?_
              refine wp_skip ?_
              refine hn279 _ _ ?_
              refine hK276 _ _ ?_
              refine wp_seq_k fun K404 hK405 => rl ?_
              refine seqL1 kr ?_
              refine nl (hK405 _ _ ?_)
              refine wp_ret ?_
              refine hret _ _ ?_
              refine ends_still (v := Value.int .i64 1) kr kr ?_
              have HS446 := HS395.drop
              have HS447 := HS446.drop
              have HS448 := HS447.drop
              have HS449 := HS448.drop
              injection h with h
              subst h
              exact ⟨f392, rfl, (L20.trans (L35.trans (L103.trans (L114.trans (L125.trans (L153.trans (L164.trans (L175.trans (L203.trans (L214.trans (L225.trans (L239.trans (L249.trans (L255.trans (L261.trans (L267.trans (L375.trans (L381.trans (L387.trans L393))))))))))))))))))), HS449⟩
         clear h; have h := hv272; clear hv272
         have hq_ := ite_some h; clear h; rcases hq_ with ⟨c265, h⟩ | ⟨c265, h⟩
         · have c265 : vt258 < 0 := c265
           refine wpRwI 99 kr (decide_eq_true c265) ?_
           refine condT kr ?_
           refine rl ?_
           refine seqL3 kr ?_
           refine nl ?_
           refine fnRwI (F := K242) 99 (x := true) (v := (decide (vt258 < 0))) kr (Eq.symm (decide_eq_true c265)) ?_
           exact J273 f260 (w64 (vt236 + 1)) (jL [iV vt236, iV (w64 (vt236 + 1))]) W262 _ fL h HS263 kr
         · have c265 : ¬ (vt258 < 0) := c265
           refine wpRwI 99 kr (decide_eq_false c265) ?_
           refine condF kr ?_
           refine wp_skip ?_
           refine fnRwI (F := K242) 99 (x := false) (v := (decide (vt258 < 0))) kr (Eq.symm (decide_eq_false c265)) ?_
           exact J273 f260 vt236 (jL []) W262 _ fL h HS263 kr

set_option maxRecDepth 100000 in
set_option maxHeartbeats 4000000 in
theorem bound_Check_Coord.calls (k : Nat)  (b1 : S_Bound) {t w : World} {f : FM} {H : List Seg} (HS : St t w f (H)) (rr1 : Int) (h : bound_Check_Coord k b1 = some rr1) :
    Calls Tryz.prog 94 #[.agg #[.int .i64 b1.Lo, .int .i64 b1.Hi, .bool b1.Unknown]] w (fun e w' => ∃ (g : FM), e = .returned (Value.int .i64 rr1) ∧ FM.le f g ∧ St t w' g (H)) := by
 unfold bound_Check_Coord at h
 refine enter Tryz.func94 rfl (tm := #[(ag_Bound b1), uV, uV, uV, uV, uV, uV, uV, uV, uV, uV, uV, uV, uV, uV, uV, uV, uV, uV, uV, uV, uV, uV, uV, uV, uV, uV, uV, uV, uV, uV, uV, uV, uV, uV, uV, uV]) kr ?_
 intro B hret hnor hnp
 refine wp_seq_k fun K2 hK3 => rl ?_
 refine seqK rfl (does_box (cs := #[.int .i64 b1.Lo, .int .i64 b1.Hi, .bool b1.Unknown]) rfl (kv (.agg #[.int .i64 b1.Lo, .int .i64 b1.Hi, .bool b1.Unknown])) rfl HS ?_)
 intro b4 W5 HS6
 refine seqL1 kr ?_
 refine nl (hK3 _ _ ?_)
 refine wp_seq_k (fun K8 hK9 => ?_)
 refine blockK (fun B10 hx11 hn12 hr13 ho14 hp15 => ?_)
 refine wp_seq_k fun K17 hK18 => rl ?_
 refine seqL1 kr ?_
 refine seqK rfl (does_run (run_load rfl Tryz.underlying4 rfl (kv (.pointer (some ⟨b4, 2, none⟩))) (HS6.cell 2)) ?_)
 refine seqL1 kr ?_
 have hq_ := ite_some h; clear h; rcases hq_ with ⟨c19, h⟩ | ⟨c19, h⟩
 · have c19 : b1.Unknown = true := c19
   refine seqRwI 5 kr c19 ?_
   refine seqRwI 6 kr c19 ?_
   refine seqL1 kr ?_
   refine seqG kr (does_run (run_load rfl Tryz.underlying27 rfl (kv (.pointer (some ⟨b4, 0, none⟩))) (HS6.cell 0)) ?_)
   refine seqL2 kr ?_
   have hq_ := ite_some h; clear h; rcases hq_ with ⟨c20, h⟩ | ⟨c20, h⟩
   · have c20 : b1.Lo ≠ 0 := c20
     refine seqRwI 9 kr (bne_iff_ne.mpr c20) ?_
     refine seqRwI 10 kr (bne_iff_ne.mpr c20) ?_
     refine seqL6 kr ?_
     refine nl (hK18 _ _ ?_)
     refine condT kr ?_
     refine wp_seq_k fun K21 hK22 => rl ?_
     refine seqL1 kr ?_
     refine nl (hK22 _ _ ?_)
     refine wp_ret ?_
     refine hr13 _ _ ?_
     refine hret _ _ ?_
     refine ends_still (v := Value.int .i64 3) kr kr ?_
     have HS61 := HS6.drop
     injection h with h
     subst h
     exact ⟨f, rfl, FM.le.refl _, HS61⟩
   · have c20 : ¬ (b1.Lo ≠ 0) := c20
     refine seqRwI 9 (x := (b1.Lo != 0)) (v := false) kr (bne_eq_false_iff_eq.mpr (Decidable.of_not_not c20)) ?_
     refine seqRwI 10 (x := (b1.Lo != 0)) (v := false) kr (bne_eq_false_iff_eq.mpr (Decidable.of_not_not c20)) ?_
     refine seqL1 kr ?_
     refine seqG kr (does_run (run_load rfl Tryz.underlying27 rfl (kv (.pointer (some ⟨b4, 1, none⟩))) (HS6.cell 1)) ?_)
     refine seqL4 kr ?_
     refine nl (hK18 _ _ ?_)
     have hq_ := ite_some h; clear h; rcases hq_ with ⟨c24, h⟩ | ⟨c24, h⟩
     · have c24 : b1.Hi ≠ 0 := c24
       refine wpRwI 3 kr (bne_iff_ne.mpr c24) ?_
       refine wpRwI 13 kr (bne_iff_ne.mpr c24) ?_
       refine wpRwI 14 kr (bne_iff_ne.mpr c24) ?_
       refine wpRwI 15 kr (bne_iff_ne.mpr c24) ?_
       refine condT kr ?_
       refine wp_seq_k fun K25 hK26 => rl ?_
       refine seqL1 kr ?_
       refine nl (hK26 _ _ ?_)
       refine wp_ret ?_
       refine hr13 _ _ ?_
       refine hret _ _ ?_
       refine ends_still (v := Value.int .i64 3) kr kr ?_
       have HS62 := HS6.drop
       injection h with h
       subst h
       exact ⟨f, rfl, FM.le.refl _, HS62⟩
     · have c24 : ¬ (b1.Hi ≠ 0) := c24
       refine wpRwI 3 (x := (b1.Hi != 0)) (v := false) kr (bne_eq_false_iff_eq.mpr (Decidable.of_not_not c24)) ?_
       refine wpRwI 13 (x := (b1.Hi != 0)) (v := false) kr (bne_eq_false_iff_eq.mpr (Decidable.of_not_not c24)) ?_
       refine wpRwI 14 (x := (b1.Hi != 0)) (v := false) kr (bne_eq_false_iff_eq.mpr (Decidable.of_not_not c24)) ?_
       refine wpRwI 15 (x := (b1.Hi != 0)) (v := false) kr (bne_eq_false_iff_eq.mpr (Decidable.of_not_not c24)) ?_
       refine condF kr ?_
       refine wp_seq_k fun K27 hK28 => rl ?_
       refine seqL1 kr ?_
       refine seqK rfl (does_run (run_load rfl Tryz.underlying27 rfl (kv (.pointer (some ⟨b4, 0, none⟩))) (HS6.cell 0)) ?_)
       refine seqL1 kr ?_
       refine seqK rfl (does_run (run_load rfl Tryz.underlying27 rfl (kv (.pointer (some ⟨b4, 1, none⟩))) (HS6.cell 1)) ?_)
       refine seqL3 kr ?_
       have hq_ := ite_some h; clear h; rcases hq_ with ⟨c29, h⟩ | ⟨c29, h⟩
       · have c29 : (mn b1.Lo b1.Hi) < (-1152921504606846976) := c29
         refine seqRwI 22 kr (decide_eq_true c29) ?_
         refine seqRwI 23 kr (decide_eq_true c29) ?_
         refine seqL8 kr ?_
         refine nl (hK28 _ _ ?_)
         refine condT kr ?_
         refine wp_seq_k fun K30 hK31 => rl ?_
         refine seqL1 kr ?_
         refine nl (hK31 _ _ ?_)
         refine wp_ret ?_
         refine hr13 _ _ ?_
         refine hret _ _ ?_
         refine ends_still (v := Value.int .i64 4) kr kr ?_
         have HS63 := HS6.drop
         injection h with h
         subst h
         exact ⟨f, rfl, FM.le.refl _, HS63⟩
       · have c29 : ¬ ((mn b1.Lo b1.Hi) < (-1152921504606846976)) := c29
         refine seqRwI 22 kr (decide_eq_false c29) ?_
         refine seqRwI 23 kr (decide_eq_false c29) ?_
         refine seqL1 kr ?_
         refine seqG kr (does_run (run_load rfl Tryz.underlying27 rfl (kv (.pointer (some ⟨b4, 0, none⟩))) (HS6.cell 0)) ?_)
         refine seqL1 kr ?_
         refine seqG kr (does_run (run_load rfl Tryz.underlying27 rfl (kv (.pointer (some ⟨b4, 1, none⟩))) (HS6.cell 1)) ?_)
         refine seqL4 kr ?_
         refine nl (hK28 _ _ ?_)
         have hq_ := ite_some h; clear h; rcases hq_ with ⟨c33, h⟩ | ⟨c33, h⟩
         · have c33 : (mx b1.Lo b1.Hi) > 1152921504606846976 := c33
           refine wpRwI 16 kr (decide_eq_true c33) ?_
           refine wpRwI 29 kr (decide_eq_true c33) ?_
           refine wpRwI 30 kr (decide_eq_true c33) ?_
           refine condT kr ?_
           refine wp_seq_k fun K34 hK35 => rl ?_
           refine seqL1 kr ?_
           refine nl (hK35 _ _ ?_)
           refine wp_ret ?_
           refine hr13 _ _ ?_
           refine hret _ _ ?_
           refine ends_still (v := Value.int .i64 4) kr kr ?_
           have HS64 := HS6.drop
           injection h with h
           subst h
           exact ⟨f, rfl, FM.le.refl _, HS64⟩
         · have c33 : ¬ ((mx b1.Lo b1.Hi) > 1152921504606846976) := c33
           refine wpRwI 16 kr (decide_eq_false c33) ?_
           refine wpRwI 29 kr (decide_eq_false c33) ?_
           refine wpRwI 30 kr (decide_eq_false c33) ?_
           refine condF kr ?_
           refine wp_seq_k fun K36 hK37 => rl ?_
           refine seqL1 kr ?_
           refine seqK rfl (does_run (run_load rfl Tryz.underlying27 rfl (kv (.pointer (some ⟨b4, 0, none⟩))) (HS6.cell 0)) ?_)
           refine seqL1 kr ?_
           refine seqK rfl (does_run (run_load rfl Tryz.underlying27 rfl (kv (.pointer (some ⟨b4, 1, none⟩))) (HS6.cell 1)) ?_)
           refine seqL2 kr ?_
           refine nl (hK37 _ _ ?_)
           have hq_ := ite_some h; clear h; rcases hq_ with ⟨c39, h⟩ | ⟨c39, h⟩
           · have c39 : b1.Lo > b1.Hi := c39
             refine wpRwI 31 kr (decide_eq_true c39) ?_
             refine wpRwI 36 kr (decide_eq_true c39) ?_
             refine condT kr ?_
             refine wp_seq_k fun K40 hK41 => rl ?_
             refine seqL1 kr ?_
             refine nl (hK41 _ _ ?_)
             refine wp_ret ?_
             refine hr13 _ _ ?_
             refine hret _ _ ?_
             refine ends_still (v := Value.int .i64 11) kr kr ?_
             have HS65 := HS6.drop
             injection h with h
             subst h
             exact ⟨f, rfl, FM.le.refl _, HS65⟩
           · have c39 : ¬ (b1.Lo > b1.Hi) := c39
             refine wpRwI 31 kr (decide_eq_false c39) ?_
             refine wpRwI 36 kr (decide_eq_false c39) ?_
             refine condF kr ?_
             refine wp_skip ?_
             refine hn12 _ _ ?_
             refine hK9 _ _ ?_
             refine wp_seq_k fun K57 hK58 => rl ?_
             refine seqL1 kr ?_
             refine nl (hK58 _ _ ?_)
             refine wp_ret ?_
             refine hret _ _ ?_
             refine ends_still (v := Value.int .i64 0) kr kr ?_
             have HS69 := HS6.drop
             injection h with h
             subst h
             exact ⟨f, rfl, FM.le.refl _, HS69⟩
 · have c19 : ¬ (b1.Unknown = true) := c19
   refine seqRwI 5 kr (Bool.eq_false_iff.mpr c19) ?_
   refine seqRwI 6 kr (Bool.eq_false_iff.mpr c19) ?_
   refine seqL10 kr ?_
   refine nl (hK18 _ _ ?_)
   refine condF kr ?_
   refine wp_seq_k fun K42 hK43 => rl ?_
   refine seqL1 kr ?_
   refine seqK rfl (does_run (run_load rfl Tryz.underlying27 rfl (kv (.pointer (some ⟨b4, 0, none⟩))) (HS6.cell 0)) ?_)
   refine seqL1 kr ?_
   refine seqK rfl (does_run (run_load rfl Tryz.underlying27 rfl (kv (.pointer (some ⟨b4, 1, none⟩))) (HS6.cell 1)) ?_)
   refine seqL3 kr ?_
   have hq_ := ite_some h; clear h; rcases hq_ with ⟨c44, h⟩ | ⟨c44, h⟩
   · have c44 : (mn b1.Lo b1.Hi) < (-1152921504606846976) := c44
     refine seqRwI 22 kr (decide_eq_true c44) ?_
     refine seqRwI 23 kr (decide_eq_true c44) ?_
     refine seqL8 kr ?_
     refine nl (hK43 _ _ ?_)
     refine condT kr ?_
     refine wp_seq_k fun K45 hK46 => rl ?_
     refine seqL1 kr ?_
     refine nl (hK46 _ _ ?_)
     refine wp_ret ?_
     refine hr13 _ _ ?_
     refine hret _ _ ?_
     refine ends_still (v := Value.int .i64 4) kr kr ?_
     have HS66 := HS6.drop
     injection h with h
     subst h
     exact ⟨f, rfl, FM.le.refl _, HS66⟩
   · have c44 : ¬ ((mn b1.Lo b1.Hi) < (-1152921504606846976)) := c44
     refine seqRwI 22 kr (decide_eq_false c44) ?_
     refine seqRwI 23 kr (decide_eq_false c44) ?_
     refine seqL1 kr ?_
     refine seqG kr (does_run (run_load rfl Tryz.underlying27 rfl (kv (.pointer (some ⟨b4, 0, none⟩))) (HS6.cell 0)) ?_)
     refine seqL1 kr ?_
     refine seqG kr (does_run (run_load rfl Tryz.underlying27 rfl (kv (.pointer (some ⟨b4, 1, none⟩))) (HS6.cell 1)) ?_)
     refine seqL4 kr ?_
     refine nl (hK43 _ _ ?_)
     have hq_ := ite_some h; clear h; rcases hq_ with ⟨c48, h⟩ | ⟨c48, h⟩
     · have c48 : (mx b1.Lo b1.Hi) > 1152921504606846976 := c48
       refine wpRwI 16 kr (decide_eq_true c48) ?_
       refine wpRwI 29 kr (decide_eq_true c48) ?_
       refine wpRwI 30 kr (decide_eq_true c48) ?_
       refine condT kr ?_
       refine wp_seq_k fun K49 hK50 => rl ?_
       refine seqL1 kr ?_
       refine nl (hK50 _ _ ?_)
       refine wp_ret ?_
       refine hr13 _ _ ?_
       refine hret _ _ ?_
       refine ends_still (v := Value.int .i64 4) kr kr ?_
       have HS67 := HS6.drop
       injection h with h
       subst h
       exact ⟨f, rfl, FM.le.refl _, HS67⟩
     · have c48 : ¬ ((mx b1.Lo b1.Hi) > 1152921504606846976) := c48
       refine wpRwI 16 kr (decide_eq_false c48) ?_
       refine wpRwI 29 kr (decide_eq_false c48) ?_
       refine wpRwI 30 kr (decide_eq_false c48) ?_
       refine condF kr ?_
       refine wp_seq_k fun K51 hK52 => rl ?_
       refine seqL1 kr ?_
       refine seqK rfl (does_run (run_load rfl Tryz.underlying27 rfl (kv (.pointer (some ⟨b4, 0, none⟩))) (HS6.cell 0)) ?_)
       refine seqL1 kr ?_
       refine seqK rfl (does_run (run_load rfl Tryz.underlying27 rfl (kv (.pointer (some ⟨b4, 1, none⟩))) (HS6.cell 1)) ?_)
       refine seqL2 kr ?_
       refine nl (hK52 _ _ ?_)
       have hq_ := ite_some h; clear h; rcases hq_ with ⟨c54, h⟩ | ⟨c54, h⟩
       · have c54 : b1.Lo > b1.Hi := c54
         refine wpRwI 31 kr (decide_eq_true c54) ?_
         refine wpRwI 36 kr (decide_eq_true c54) ?_
         refine condT kr ?_
         refine wp_seq_k fun K55 hK56 => rl ?_
         refine seqL1 kr ?_
         refine nl (hK56 _ _ ?_)
         refine wp_ret ?_
         refine hr13 _ _ ?_
         refine hret _ _ ?_
         refine ends_still (v := Value.int .i64 11) kr kr ?_
         have HS68 := HS6.drop
         injection h with h
         subst h
         exact ⟨f, rfl, FM.le.refl _, HS68⟩
       · have c54 : ¬ (b1.Lo > b1.Hi) := c54
         refine wpRwI 31 kr (decide_eq_false c54) ?_
         refine wpRwI 36 kr (decide_eq_false c54) ?_
         refine condF kr ?_
         refine wp_skip ?_
         refine hn12 _ _ ?_
         refine hK9 _ _ ?_
         refine wp_seq_k fun K59 hK60 => rl ?_
         refine seqL1 kr ?_
         refine nl (hK60 _ _ ?_)
         refine wp_ret ?_
         refine hret _ _ ?_
         refine ends_still (v := Value.int .i64 0) kr kr ?_
         have HS70 := HS6.drop
         injection h with h
         subst h
         exact ⟨f, rfl, FM.le.refl _, HS70⟩

set_option maxRecDepth 100000 in
set_option maxHeartbeats 4000000 in
theorem bound_None_Coord.calls (k : Nat)   {t w : World} {f : FM} {H : List Seg} (HS : St t w f (H)) (rr1 : S_Bound) (h : bound_None_Coord k = some rr1) :
    Calls Tryz.prog 95 #[] w (fun e w' => ∃ (g : FM), e = .returned (Value.agg #[.int .i64 rr1.Lo, .int .i64 rr1.Hi, .bool rr1.Unknown]) ∧ FM.le f g ∧ St t w' g (H)) := by
 unfold bound_None_Coord at h
 refine enter Tryz.func95 rfl (tm := #[uV, uV]) kr ?_
 intro B hret hnor hnp
 refine wp_seq_k fun K1 hK2 => rl ?_
 refine seqK rfl (does_alloc (z := Value.agg #[.int .i64 0, .int .i64 0, .bool false]) (cs := #[.int .i64 0, .int .i64 0, .bool false]) rfl kr rfl HS ?_)
 intro b3 W4 HS5
 refine nl (hK2 _ _ ?_)
 refine wp_seq_k fun K7 hK8 => rl ?_
 refine seqL1 kr ?_
 refine seqK rfl (does_storeA (vs := [.int .i64 0, .int .i64 0, .bool true]) rfl kr kr kr rfl (ones rfl) HS5 kr ?_)
 intro W9 HS10
 refine nl (hK8 _ _ ?_)
 refine wp_ret ?_
 refine hret _ _ ?_
 refine ends (v := Value.agg #[.int .i64 0, .int .i64 0, .bool true]) (results1 (q1 := .cell 0 29) kr (resN (n := 3) (cs := [.int .i64 0, .int .i64 0, .bool true]) (kv (.pointer (some ⟨b3, 0, none⟩))) Tryz.underlying29 rfl kr rfl (HS10.cells 0 3 _ rfl))) kr ?_
 have HS11 := HS10.drop
 injection h with h
 subst h
 exact ⟨f, rfl, FM.le.refl _, HS11⟩

set_option maxRecDepth 100000 in
set_option maxHeartbeats 4000000 in
theorem bound_Norm_Coord.calls (k : Nat)  (b1 : S_Bound) {t w : World} {f : FM} {H : List Seg} (HS : St t w f (H)) (rr1 : S_Bound) (h : bound_Norm_Coord k b1 = some rr1) :
    Calls Tryz.prog 69 #[.agg #[.int .i64 b1.Lo, .int .i64 b1.Hi, .bool b1.Unknown]] w (fun e w' => ∃ (g : FM), e = .returned (Value.agg #[.int .i64 rr1.Lo, .int .i64 rr1.Hi, .bool rr1.Unknown]) ∧ FM.le f g ∧ St t w' g (H)) := by
 unfold bound_Norm_Coord at h
 refine enter Tryz.func69 rfl (tm := #[(ag_Bound b1), uV, uV, uV, uV, uV, uV, uV]) kr ?_
 intro B hret hnor hnp
 refine wp_seq_k fun K2 hK3 => rl ?_
 refine seqK rfl (does_box (cs := #[.int .i64 b1.Lo, .int .i64 b1.Hi, .bool b1.Unknown]) rfl (kv (.agg #[.int .i64 b1.Lo, .int .i64 b1.Hi, .bool b1.Unknown])) rfl HS ?_)
 intro b4 W5 HS6
 refine seqK rfl (does_alloc (z := Value.agg #[.int .i64 0, .int .i64 0, .bool false]) (cs := #[.int .i64 0, .int .i64 0, .bool false]) rfl kr rfl HS6 ?_)
 intro b8 W9 HS10
 refine nl (hK3 _ _ ?_)
 refine wp_seq_k (fun K12 hK13 => ?_)
 refine wp_seq_k fun K14 hK15 => rl ?_
 refine seqK rfl (does_run (run_loadN (n := 3) rfl Tryz.underlying29 rfl kr (kv (.pointer (some ⟨b4, 0, none⟩))) (cs := [.int .i64 b1.Lo, .int .i64 b1.Hi, .bool b1.Unknown]) rfl (HS10.u1.cells 0 3 _ rfl)) ?_)
 have hq_ := bind_some h; clear h; obtain ⟨vt16, hc17, h⟩ := hq_
 refine seqK rfl (does_call (f := 94) (args := #[.agg #[.int .i64 b1.Lo, .int .i64 b1.Hi, .bool b1.Unknown]]) kr (bound_Check_Coord.calls k b1 HS10 vt16 hc17) ?_)
 rintro _ W20 ⟨f18, rfl, L19, HS21⟩
 refine ⟨_, rfl, ?_⟩
 refine seqL1 kr ?_
 refine nl (hK15 _ _ ?_)
 have hq_ := ite_some h; clear h; rcases hq_ with ⟨c23, h⟩ | ⟨c23, h⟩
 · have c23 : vt16 ≠ 0 := c23
   refine wpRwI 5 kr (bne_iff_ne.mpr c23) ?_
   refine condT kr ?_
   refine wp_seq_k fun K24 hK25 => rl ?_
   have hq_ := bind_some h; clear h; obtain ⟨vt26, hc27, h⟩ := hq_
   refine seqK rfl (does_call (f := 95) (args := #[]) kr (bound_None_Coord.calls k  HS21 vt26 hc27) ?_)
   rintro _ W30 ⟨f28, rfl, L29, HS31⟩
   refine ⟨_, rfl, ?_⟩
   refine seqK rfl (does_storeA (vs := [.int .i64 vt26.Lo, .int .i64 vt26.Hi, .bool vt26.Unknown]) rfl kr kr kr rfl (ones rfl) HS31 kr ?_)
   intro W32 HS33
   refine nl (hK25 _ _ ?_)
   refine wp_ret ?_
   refine hret _ _ ?_
   refine ends (v := Value.agg #[.int .i64 vt26.Lo, .int .i64 vt26.Hi, .bool vt26.Unknown]) (results1 (q1 := .cell 2 29) kr (resN (n := 3) (cs := [.int .i64 vt26.Lo, .int .i64 vt26.Hi, .bool vt26.Unknown]) (kv (.pointer (some ⟨b8, 0, none⟩))) Tryz.underlying29 rfl kr rfl (HS33.cells 0 3 _ rfl))) kr ?_
   have HS38 := HS33.drop
   have HS39 := HS38.drop
   injection h with h
   subst h
   exact ⟨f28, rfl, (L19.trans L29), HS39⟩
 · have c23 : ¬ (vt16 ≠ 0) := c23
   refine wpRwI 5 (x := (vt16 != 0)) (v := false) kr (bne_eq_false_iff_eq.mpr (Decidable.of_not_not c23)) ?_
   refine condF kr ?_
   refine wp_skip ?_
   refine hK13 _ _ ?_
   refine wp_seq_k fun K34 hK35 => rl ?_
   refine seqK rfl (does_run (run_loadN (n := 3) rfl Tryz.underlying29 rfl kr (kv (.pointer (some ⟨b4, 0, none⟩))) (cs := [.int .i64 b1.Lo, .int .i64 b1.Hi, .bool b1.Unknown]) rfl (HS21.u1.cells 0 3 _ rfl)) ?_)
   refine seqK rfl (does_storeA (vs := [.int .i64 b1.Lo, .int .i64 b1.Hi, .bool b1.Unknown]) rfl kr kr kr rfl (ones rfl) HS21 kr ?_)
   intro W36 HS37
   refine nl (hK35 _ _ ?_)
   refine wp_ret ?_
   refine hret _ _ ?_
   refine ends (v := Value.agg #[.int .i64 b1.Lo, .int .i64 b1.Hi, .bool b1.Unknown]) (results1 (q1 := .cell 2 29) kr (resN (n := 3) (cs := [.int .i64 b1.Lo, .int .i64 b1.Hi, .bool b1.Unknown]) (kv (.pointer (some ⟨b8, 0, none⟩))) Tryz.underlying29 rfl kr rfl (HS37.cells 0 3 _ rfl))) kr ?_
   have HS40 := HS37.drop
   have HS41 := HS40.drop
   injection h with h
   subst h
   exact ⟨f18, rfl, L19, HS41⟩

set_option maxRecDepth 100000 in
set_option maxHeartbeats 4000000 in
theorem bound_Of_Coord.calls (k : Nat)  (lo1 : Int) (hi2 : Int) {t w : World} {f : FM} {H : List Seg} (HS : St t w f (H)) (rr1 : S_Bound) (h : bound_Of_Coord k lo1 hi2 = some rr1) :
    Calls Tryz.prog 39 #[.int .i64 lo1, .int .i64 hi2] w (fun e w' => ∃ (g : FM), e = .returned (Value.agg #[.int .i64 rr1.Lo, .int .i64 rr1.Hi, .bool rr1.Unknown]) ∧ FM.le f g ∧ St t w' g (H)) := by
 unfold bound_Of_Coord at h
 refine enter Tryz.func39 rfl (tm := #[iV lo1, iV hi2, uV, uV, uV, uV, uV, uV, uV]) kr ?_
 intro B hret hnor hnp
 refine wp_seq_k fun K3 hK4 => rl ?_
 refine seqK rfl (does_alloc (z := Value.agg #[.int .i64 0, .int .i64 0, .bool false]) (cs := #[.int .i64 0, .int .i64 0, .bool false]) rfl kr rfl HS ?_)
 intro b5 W6 HS7
 refine nl (hK4 _ _ ?_)
 refine wp_seq_k fun K9 hK10 => rl ?_
 have hq_ := bind_some h; clear h; obtain ⟨vt11, hc12, h⟩ := hq_
 refine seqL3 kr ?_
 refine seqK rfl (does_call (f := 69) (args := #[.agg #[.int .i64 lo1, .int .i64 hi2, .bool false]]) kr (bound_Norm_Coord.calls k (⟨lo1, hi2, false⟩ : S_Bound) HS7 vt11 hc12) ?_)
 rintro _ W15 ⟨f13, rfl, L14, HS16⟩
 refine ⟨_, rfl, ?_⟩
 refine seqK rfl (does_storeA (vs := [.int .i64 vt11.Lo, .int .i64 vt11.Hi, .bool vt11.Unknown]) rfl kr kr kr rfl (ones rfl) HS16 kr ?_)
 intro W17 HS18
 refine nl (hK10 _ _ ?_)
 refine wp_ret ?_
 refine hret _ _ ?_
 refine ends (v := Value.agg #[.int .i64 vt11.Lo, .int .i64 vt11.Hi, .bool vt11.Unknown]) (results1 (q1 := .cell 4 29) kr (resN (n := 3) (cs := [.int .i64 vt11.Lo, .int .i64 vt11.Hi, .bool vt11.Unknown]) (kv (.pointer (some ⟨b5, 0, none⟩))) Tryz.underlying29 rfl kr rfl (HS18.cells 0 3 _ rfl))) kr ?_
 have HS19 := HS18.drop
 injection h with h
 subst h
 exact ⟨f13, rfl, L14, HS19⟩

set_option maxRecDepth 100000 in
set_option maxHeartbeats 4000000 in
theorem bound_Exact_Coord.calls (k : Nat)  (v1 : Int) {t w : World} {f : FM} {H : List Seg} (HS : St t w f (H)) (rr1 : S_Bound) (h : bound_Exact_Coord k v1 = some rr1) :
    Calls Tryz.prog 15 #[.int .i64 v1] w (fun e w' => ∃ (g : FM), e = .returned (Value.agg #[.int .i64 rr1.Lo, .int .i64 rr1.Hi, .bool rr1.Unknown]) ∧ FM.le f g ∧ St t w' g (H)) := by
 unfold bound_Exact_Coord at h
 refine enter Tryz.func15 rfl (tm := #[iV v1, uV, uV, uV, uV, uV]) kr ?_
 intro B hret hnor hnp
 refine wp_seq_k fun K2 hK3 => rl ?_
 refine seqK rfl (does_alloc (z := Value.agg #[.int .i64 0, .int .i64 0, .bool false]) (cs := #[.int .i64 0, .int .i64 0, .bool false]) rfl kr rfl HS ?_)
 intro b4 W5 HS6
 refine nl (hK3 _ _ ?_)
 refine wp_seq_k fun K8 hK9 => rl ?_
 have hq_ := bind_some h; clear h; obtain ⟨vt10, hc11, h⟩ := hq_
 refine seqL2 kr ?_
 refine seqK rfl (does_call (f := 39) (args := #[.int .i64 v1, .int .i64 v1]) kr (bound_Of_Coord.calls k v1 v1 HS6 vt10 hc11) ?_)
 rintro _ W14 ⟨f12, rfl, L13, HS15⟩
 refine ⟨_, rfl, ?_⟩
 refine seqK rfl (does_storeA (vs := [.int .i64 vt10.Lo, .int .i64 vt10.Hi, .bool vt10.Unknown]) rfl kr kr kr rfl (ones rfl) HS15 kr ?_)
 intro W16 HS17
 refine nl (hK9 _ _ ?_)
 refine wp_ret ?_
 refine hret _ _ ?_
 refine ends (v := Value.agg #[.int .i64 vt10.Lo, .int .i64 vt10.Hi, .bool vt10.Unknown]) (results1 (q1 := .cell 2 29) kr (resN (n := 3) (cs := [.int .i64 vt10.Lo, .int .i64 vt10.Hi, .bool vt10.Unknown]) (kv (.pointer (some ⟨b4, 0, none⟩))) Tryz.underlying29 rfl kr rfl (HS17.cells 0 3 _ rfl))) kr ?_
 have HS18 := HS17.drop
 injection h with h
 subst h
 exact ⟨f12, rfl, L13, HS18⟩

set_option maxRecDepth 100000 in
set_option maxHeartbeats 4000000 in
theorem spykeep3_inner_1.calls (k : Nat) (b1 : Nat) (b3 : Nat) (A6 : Option Addr) (c7 : Nat) (v5 : S_Stream) (x9 : S_Bound) {t w : World} {f : FM} {H : List Seg} (HS : St t w f ([(b1, .cells #[.pointer (some ⟨b3, 0, none⟩)] 24 (0, 0))] :: [(b3, .cells #[.slice A6 v5.L.length c7, .int .i64 v5.vat] 26 (0, 0))] :: H)) (HR8 : SlR (tInt .i64) f A6 c7 v5.L) (rr1 : S_Bound) (rr2 : Int) (h : spykeep3_inner_1 k v5 x9 = some (rr1, rr2)) :
    Calls Tryz.prog 37 #[.agg #[.int .i64 x9.Lo, .int .i64 x9.Hi, .bool x9.Unknown], .pointer (some ⟨b1, 0, none⟩)] w (fun e w' => ∃ (g : FM), e = .returned (Value.agg #[.int .i64 rr1.Lo, .int .i64 rr1.Hi, .bool rr1.Unknown]) ∧ FM.le f g ∧ St t w' g ([(b1, .cells #[.pointer (some ⟨b3, 0, none⟩)] 24 (0, 0))] :: [(b3, .cells #[.slice A6 v5.L.length c7, .int .i64 rr2] 26 (0, 0))] :: H)) := by
 unfold spykeep3_inner_1 at h
 refine enter Tryz.func37 rfl (tm := #[(ag_Bound x9), pV b1 0, uV, uV, uV, uV, uV, uV, uV, uV, uV, uV, uV, uV, uV, uV, uV, uV, uV, uV, uV, uV, uV, uV, uV, uV, uV, uV, uV, uV, uV, uV, uV, uV, uV, uV, uV, uV, uV, uV, uV]) kr ?_
 intro B hret hnor hnp
 refine wp_seq_k fun K10 hK11 => rl ?_
 refine seqK rfl (does_box (cs := #[.int .i64 x9.Lo, .int .i64 x9.Hi, .bool x9.Unknown]) rfl (kv (.agg #[.int .i64 x9.Lo, .int .i64 x9.Hi, .bool x9.Unknown])) rfl HS ?_)
 intro b12 W13 HS14
 refine seqK rfl (does_alloc (z := Value.agg #[.int .i64 0, .int .i64 0, .bool false]) (cs := #[.int .i64 0, .int .i64 0, .bool false]) rfl kr rfl HS14 ?_)
 intro b16 W17 HS18
 refine nl (hK11 _ _ ?_)
 refine wp_seq_k (fun K20 hK21 => ?_)
 refine wp_seq_k fun K22 hK23 => rl ?_
 refine seqL1 kr ?_
 refine seqK rfl (does_run (run_load rfl Tryz.underlying4 rfl (kv (.pointer (some ⟨b12, 2, none⟩))) (HS18.u1.cell 2)) ?_)
 refine nl (hK23 _ _ ?_)
 have hq_ := ite_some h; clear h; rcases hq_ with ⟨c25, h⟩ | ⟨c25, h⟩
 · have c25 : x9.Unknown = true := c25
   refine wpRwI 8 kr c25 ?_
   refine condT kr ?_
   refine wp_seq_k fun K26 hK27 => rl ?_
   refine seqK rfl (does_run (run_load rfl Tryz.underlying24 rfl (kv (.pointer (some ⟨b1, 0, none⟩))) (HS18.u2.cell 0)) ?_)
   have HS28 := HS18.u3
   have hq_ := bind_some h; clear h; obtain ⟨⟨vt29, vt30⟩, hc31, h⟩ := hq_
   refine seqK rfl (does_call (f := 27) (args := #[.pointer (some ⟨b3, 0, none⟩), .int .i64 (-99), .int .i64 99]) kr (spymake_Stream_Range.calls k b3 A6 c7 v5 (-99) 99 HS28 HR8 vt29 vt30 hc31) ?_)
   rintro _ W34 ⟨f32, rfl, L33, HS35⟩
   refine ⟨_, rfl, ?_⟩
   have hq_ := bind_some h; clear h; obtain ⟨vt36, hc37, h⟩ := hq_
   refine seqK rfl (does_call (f := 15) (args := #[.int .i64 vt29]) kr (bound_Exact_Coord.calls k vt29 HS35 vt36 hc37) ?_)
   rintro _ W40 ⟨f38, rfl, L39, HS41⟩
   refine ⟨_, rfl, ?_⟩
   have HS42 := HS41.u1
   refine seqK rfl (does_storeA (vs := [.int .i64 vt36.Lo, .int .i64 vt36.Hi, .bool vt36.Unknown]) rfl kr kr kr rfl (ones rfl) HS42 kr ?_)
   intro W43 HS44
   refine nl (hK27 _ _ ?_)
   refine wp_ret ?_
   refine hret _ _ ?_
   refine ends (v := Value.agg #[.int .i64 vt36.Lo, .int .i64 vt36.Hi, .bool vt36.Unknown]) (results1 (q1 := .cell 3 29) kr (resN (n := 3) (cs := [.int .i64 vt36.Lo, .int .i64 vt36.Hi, .bool vt36.Unknown]) (kv (.pointer (some ⟨b16, 0, none⟩))) Tryz.underlying29 rfl kr rfl (HS44.cells 0 3 _ rfl))) kr ?_
   have HS95 := HS44.u1.u3.u3.u3
   have HS96 := HS95.drop
   have HS97 := HS96.drop
   injection h with h
   injection h with h0_ h
   subst h0_ h
   exact ⟨f38, rfl, (L33.trans L39), HS97⟩
 · have c25 : ¬ (x9.Unknown = true) := c25
   refine wpRwI 8 kr (Bool.eq_false_iff.mpr c25) ?_
   refine condF kr ?_
   refine wp_skip ?_
   refine hK21 _ _ ?_
   refine wp_seq_k fun K45 hK46 => rl ?_
   refine seqL1 kr ?_
   refine seqK rfl (does_run (run_load rfl Tryz.underlying27 rfl (kv (.pointer (some ⟨b12, 1, none⟩))) (HS18.u1.cell 1)) ?_)
   refine seqL1 kr ?_
   refine seqK rfl (does_run (run_load rfl Tryz.underlying27 rfl (kv (.pointer (some ⟨b12, 0, none⟩))) (HS18.u1.cell 0)) ?_)
   refine seqL3 kr ?_
   refine nl (hK46 _ _ ?_)
   refine wp_seq_k (fun K47 hK48 => ?_)
   have HS52 := HS18.u2.u2.u2.u3
   refine heldG (S := Sg t f ([(b16, .cells #[.int .i64 0, .int .i64 0, .bool false] 29 (0, 0))] :: [(b12, .cells #[.int .i64 x9.Lo, .int .i64 x9.Hi, .bool x9.Unknown] 29 (0, 0))] :: [(b1, .cells #[.pointer (some ⟨b3, 0, none⟩)] 24 (0, 0))] :: H) [(4, [(b3, .cells #[.slice A6 v5.L.length c7, .int .i64 v5.vat] 26 (0, 0))])]) (n := 14) kr rfl HS52 ?_
   intro W53 HS54
   refine takeGL [0] (n := 14) (fuel := 13) #[true, false, false, false, false, false, false, false, false, false, false, false, false, false] rfl kr kr kr hnp (Sg.g1 (Sx.of [[(b3, .cells #[.slice A6 v5.L.length c7, .int .i64 v5.vat] 26 (0, 0))]] fL HS54) (fun _ => St.only [] HS54 fL)) ?_
   refine takeGQ 1 [] rfl kr kr kr kr kr kr hnp (Sg.g1 (Sx.of [[(b3, .cells #[.slice A6 v5.L.length c7, .int .i64 v5.vat] 26 (0, 0))]] fL HS54) (fun _ => St.only [] HS54 fL)) (fun w_ hw_ => by obtain ⟨g_, hl_, hS_⟩ := hw_.st; exact run_load rfl Tryz.underlying27 rfl (kv (.pointer (some ⟨b12, 0, none⟩))) (hS_.u1.cell 0)) ?_
   refine takeGQ 2 [] rfl kr kr kr kr kr kr hnp (Sg.g1 (Sx.of [[(b3, .cells #[.slice A6 v5.L.length c7, .int .i64 v5.vat] 26 (0, 0))]] fL HS54) (fun _ => St.only [] HS54 fL)) (fun w_ hw_ => by obtain ⟨g_, hl_, hS_⟩ := hw_.st; exact run_load rfl Tryz.underlying24 rfl (kv (.pointer (some ⟨b1, 0, none⟩))) (hS_.u2.cell 0)) ?_
   refine takeGL [3, 6] (n := 11) (fuel := 9) #[true, true, true, true, false, false, true, false, false, false, false, false, false, false] rfl kr kr kr hnp (Sg.g1 (Sx.of [[(b3, .cells #[.slice A6 v5.L.length c7, .int .i64 v5.vat] 26 (0, 0))]] fL HS54) (fun _ => St.only [] HS54 fL)) ?_
   refine takeGQ 7 [] rfl kr kr kr kr kr kr hnp (Sg.g1 (Sx.of [[(b3, .cells #[.slice A6 v5.L.length c7, .int .i64 v5.vat] 26 (0, 0))]] fL HS54) (fun _ => St.only [] HS54 fL)) (fun w_ hw_ => by obtain ⟨g_, hl_, hS_⟩ := hw_.st; exact run_load rfl Tryz.underlying27 rfl (kv (.pointer (some ⟨b12, 0, none⟩))) (hS_.u1.cell 0)) ?_
   refine takeGQ 8 [] rfl kr kr kr kr kr kr hnp (Sg.g1 (Sx.of [[(b3, .cells #[.slice A6 v5.L.length c7, .int .i64 v5.vat] 26 (0, 0))]] fL HS54) (fun _ => St.only [] HS54 fL)) (fun w_ hw_ => by obtain ⟨g_, hl_, hS_⟩ := hw_.st; exact run_load rfl Tryz.underlying24 rfl (kv (.pointer (some ⟨b1, 0, none⟩))) (hS_.u2.cell 0)) ?_
   refine takeGL [9] (n := 7) (fuel := 6) #[true, true, true, true, false, false, true, true, true, true, false, false, false, false] rfl kr kr kr hnp (Sg.g1 (Sx.of [[(b3, .cells #[.slice A6 v5.L.length c7, .int .i64 v5.vat] 26 (0, 0))]] fL HS54) (fun _ => St.only [] HS54 fL)) ?_
   have hq_ := bind_some h; clear h; obtain ⟨⟨vt55, vt56⟩, hc57, h⟩ := hq_
   refine takeGE 4 kr rfl kr (does_call (f := 20) (args := #[.pointer (some ⟨b3, 0, none⟩), .int .i64 (w64 ((w64 (x9.Hi - x9.Lo)) + 1))]) kr (spymake_Stream_Next.calls k b3 A6 c7 v5 (w64 ((w64 (x9.Hi - x9.Lo)) + 1)) HS54 HR8 vt55 vt56 hc57) ?_)
   rintro _ W60 ⟨f58, rfl, L59, HS61⟩
   refine ⟨_, rfl, ?_⟩
   refine ⟨(Sg.g1 (Sx.of [[(b3, .cells #[.slice A6 v5.L.length c7, .int .i64 vt56] 26 (0, 0))]] L59 HS61) (fun hl_ => Bool.noConfusion (show true = false from hl_))), ?_⟩
   refine takeGL [5] (n := 5) (fuel := 4) #[true, true, true, true, true, true, true, true, true, true, false, false, false, false] rfl kr kr kr hnp (Sg.g1 (Sx.of [[(b3, .cells #[.slice A6 v5.L.length c7, .int .i64 vt56] 26 (0, 0))]] L59 HS61) (fun hl_ => Bool.noConfusion (show true = false from hl_))) ?_
   have hq_ := bind_some h; clear h; obtain ⟨⟨vt62, vt63⟩, hc64, h⟩ := hq_
   refine takeGE 10 kr rfl kr (does_call (f := 20) (args := #[.pointer (some ⟨b3, 0, none⟩), .int .i64 (w64 ((w64 (x9.Hi - x9.Lo)) + 1))]) kr (spymake_Stream_Next.calls k b3 A6 c7 (⟨v5.L, vt56⟩ : S_Stream) (w64 ((w64 (x9.Hi - x9.Lo)) + 1)) HS61 (HR8.mono L59) vt62 vt63 hc64) ?_)
   rintro _ W67 ⟨f65, rfl, L66, HS68⟩
   refine ⟨_, rfl, ?_⟩
   refine ⟨(Sg.g1 (Sx.of [[(b3, .cells #[.slice A6 v5.L.length c7, .int .i64 vt63] 26 (0, 0))]] (L59.trans L66) HS68) (fun hl_ => Bool.noConfusion (show true = false from hl_))), ?_⟩
   refine takeGL [11, 12, 13] (n := 3) (fuel := 0) #[true, true, true, true, true, true, true, true, true, true, true, true, true, true] rfl kr kr kr hnp (Sg.g1 (Sx.of [[(b3, .cells #[.slice A6 v5.L.length c7, .int .i64 vt63] 26 (0, 0))]] (L59.trans L66) HS68) (fun hl_ => Bool.noConfusion (show true = false from hl_))) ?_
   refine doneG kr ?_ _
   refine hK48 _ _ ?_
   refine wp_seq_k (fun K69 hK70 => ?_)
   refine wp_seq_k fun K71 hK72 => rl ?_
   refine seqK rfl (does_run (run_load rfl Tryz.underlying24 rfl (kv (.pointer (some ⟨b1, 0, none⟩))) (HS68.u3.cell 0)) ?_)
   have hq_ := bind_some h; clear h; obtain ⟨⟨vt73, vt74⟩, hc75, h⟩ := hq_
   refine seqK rfl (does_call (f := 20) (args := #[.pointer (some ⟨b3, 0, none⟩), .int .i64 2]) kr (spymake_Stream_Next.calls k b3 A6 c7 (⟨v5.L, vt63⟩ : S_Stream) 2 HS68 (HR8.mono (L59.trans L66)) vt73 vt74 hc75) ?_)
   rintro _ W78 ⟨f76, rfl, L77, HS79⟩
   refine ⟨_, rfl, ?_⟩
   refine seqL1 kr ?_
   refine nl (hK72 _ _ ?_)
   have hq_ := ite_some h; clear h; rcases hq_ with ⟨c81, h⟩ | ⟨c81, h⟩
   · have c81 : vt73 = 0 := c81
     refine wpRwI 32 kr (beq_iff_eq.mpr c81) ?_
     refine condT kr ?_
     refine rl ?_
     refine seqL2 kr ?_
     refine nl (hK70 _ _ ?_)
     refine wp_seq_k fun K82 hK83 => rl ?_
     have HS84 := HS79.u1
     refine seqL7 kr ?_
     refine seqK rfl (does_storeA (vs := [.int .i64 (mn (w64 (x9.Lo + vt55)) (w64 (x9.Lo + vt55))), .int .i64 (mx (w64 (x9.Lo + vt55)) (w64 (x9.Lo + vt55))), .bool false]) rfl kr kr kr rfl (ones rfl) HS84 kr ?_)
     intro W85 HS86
     refine nl (hK83 _ _ ?_)
     refine wp_ret ?_
     refine hret _ _ ?_
     refine ends (v := Value.agg #[.int .i64 (mn (w64 (x9.Lo + vt55)) (w64 (x9.Lo + vt55))), .int .i64 (mx (w64 (x9.Lo + vt55)) (w64 (x9.Lo + vt55))), .bool false]) (results1 (q1 := .cell 3 29) kr (resN (n := 3) (cs := [.int .i64 (mn (w64 (x9.Lo + vt55)) (w64 (x9.Lo + vt55))), .int .i64 (mx (w64 (x9.Lo + vt55)) (w64 (x9.Lo + vt55))), .bool false]) (kv (.pointer (some ⟨b16, 0, none⟩))) Tryz.underlying29 rfl kr rfl (HS86.cells 0 3 _ rfl))) kr ?_
     have HS101 := HS86.u1.u3.u3.u3
     have HS102 := HS101.drop
     have HS103 := HS102.drop
     injection h with h
     injection h with h0_ h
     subst h0_ h
     exact ⟨f76, rfl, (L59.trans (L66.trans L77)), HS103⟩
   · have c81 : ¬ (vt73 = 0) := c81
     refine wpRwI 32 kr (beq_eq_false_iff_ne.mpr c81) ?_
     refine condF kr ?_
     refine wp_skip ?_
     refine hK70 _ _ ?_
     refine wp_seq_k fun K87 hK88 => rl ?_
     have HS89 := HS79.u1
     refine seqL7 kr ?_
     refine seqK rfl (does_storeA (vs := [.int .i64 (mn (w64 (x9.Lo + vt55)) (w64 (x9.Lo + vt62))), .int .i64 (mx (w64 (x9.Lo + vt55)) (w64 (x9.Lo + vt62))), .bool false]) rfl kr kr kr rfl (ones rfl) HS89 kr ?_)
     intro W90 HS91
     refine nl (hK88 _ _ ?_)
     refine wp_ret ?_
     refine hret _ _ ?_
     refine ends (v := Value.agg #[.int .i64 (mn (w64 (x9.Lo + vt55)) (w64 (x9.Lo + vt62))), .int .i64 (mx (w64 (x9.Lo + vt55)) (w64 (x9.Lo + vt62))), .bool false]) (results1 (q1 := .cell 3 29) kr (resN (n := 3) (cs := [.int .i64 (mn (w64 (x9.Lo + vt55)) (w64 (x9.Lo + vt62))), .int .i64 (mx (w64 (x9.Lo + vt55)) (w64 (x9.Lo + vt62))), .bool false]) (kv (.pointer (some ⟨b16, 0, none⟩))) Tryz.underlying29 rfl kr rfl (HS91.cells 0 3 _ rfl))) kr ?_
     have HS107 := HS91.u1.u3.u3.u3
     have HS108 := HS107.drop
     have HS109 := HS108.drop
     injection h with h
     injection h with h0_ h
     subst h0_ h
     exact ⟨f76, rfl, (L59.trans (L66.trans L77)), HS109⟩

set_option maxRecDepth 100000 in
set_option maxHeartbeats 4000000 in
theorem spykeep3_inner.calls (k : Nat) (b1 : Nat) (A4 : Option Addr) (c5 : Nat) (s3 : S_Stream) (b7 : S_Box) {t w : World} {f : FM} {H : List Seg} (HS : St t w f ([(b1, .cells #[.slice A4 s3.L.length c5, .int .i64 s3.vat] 26 (0, 0))] :: H)) (HR6 : SlR (tInt .i64) f A4 c5 s3.L) (rr1 : S_Box) (rr2 : Int) (h : spykeep3_inner k s3 b7 = some (rr1, rr2)) :
    Calls Tryz.prog 11 #[.pointer (some ⟨b1, 0, none⟩), .agg #[.int .i64 b7.X.Lo, .int .i64 b7.X.Hi, .bool b7.X.Unknown, .int .i64 b7.Y.Lo, .int .i64 b7.Y.Hi, .bool b7.Y.Unknown, .int .i64 b7.Z.Lo, .int .i64 b7.Z.Hi, .bool b7.Z.Unknown]] w (fun e w' => ∃ (g : FM), e = .returned (Value.agg #[.int .i64 rr1.X.Lo, .int .i64 rr1.X.Hi, .bool rr1.X.Unknown, .int .i64 rr1.Y.Lo, .int .i64 rr1.Y.Hi, .bool rr1.Y.Unknown, .int .i64 rr1.Z.Lo, .int .i64 rr1.Z.Hi, .bool rr1.Z.Unknown]) ∧ FM.le f g ∧ St t w' g ([(b1, .cells #[.slice A4 s3.L.length c5, .int .i64 rr2] 26 (0, 0))] :: H)) := by
 unfold spykeep3_inner at h
 refine enter Tryz.func11 rfl (tm := #[pV b1 0, (ag_Box b7), uV, uV, uV, uV, uV, uV, uV, uV, uV, uV, uV, uV, uV, uV, uV, uV, uV, uV]) kr ?_
 intro B hret hnor hnp
 refine wp_seq_k fun K8 hK9 => rl ?_
 refine seqK rfl (does_box (cs := #[.pointer (some ⟨b1, 0, none⟩)]) rfl (kv (.pointer (some ⟨b1, 0, none⟩))) rfl HS ?_)
 intro b10 W11 HS12
 refine seqK rfl (does_box (cs := #[.int .i64 b7.X.Lo, .int .i64 b7.X.Hi, .bool b7.X.Unknown, .int .i64 b7.Y.Lo, .int .i64 b7.Y.Hi, .bool b7.Y.Unknown, .int .i64 b7.Z.Lo, .int .i64 b7.Z.Hi, .bool b7.Z.Unknown]) rfl (kv (.agg #[.int .i64 b7.X.Lo, .int .i64 b7.X.Hi, .bool b7.X.Unknown, .int .i64 b7.Y.Lo, .int .i64 b7.Y.Hi, .bool b7.Y.Unknown, .int .i64 b7.Z.Lo, .int .i64 b7.Z.Hi, .bool b7.Z.Unknown])) rfl HS12 ?_)
 intro b14 W15 HS16
 refine seqK rfl (does_alloc (z := Value.agg #[.int .i64 0, .int .i64 0, .bool false, .int .i64 0, .int .i64 0, .bool false, .int .i64 0, .int .i64 0, .bool false]) (cs := #[.int .i64 0, .int .i64 0, .bool false, .int .i64 0, .int .i64 0, .bool false, .int .i64 0, .int .i64 0, .bool false]) rfl kr rfl HS16 ?_)
 intro b18 W19 HS20
 refine nl (hK9 _ _ ?_)
 refine wp_seq_k fun K22 hK23 => rl ?_
 refine seqL2 kr ?_
 refine nl (hK23 _ _ ?_)
 refine wp_seq_k (fun K24 hK25 => ?_)
 have HS29 := HS20.u1.u3.u3.u3
 refine heldG (S := Sg t f ([(b14, .cells #[.int .i64 b7.X.Lo, .int .i64 b7.X.Hi, .bool b7.X.Unknown, .int .i64 b7.Y.Lo, .int .i64 b7.Y.Hi, .bool b7.Y.Unknown, .int .i64 b7.Z.Lo, .int .i64 b7.Z.Hi, .bool b7.Z.Unknown] 31 (0, 0))] :: H) [(13, [(b18, .cells #[.int .i64 0, .int .i64 0, .bool false, .int .i64 0, .int .i64 0, .bool false, .int .i64 0, .int .i64 0, .bool false] 31 (0, 0))]), (3, [(b10, .cells #[.pointer (some ⟨b1, 0, none⟩)] 24 (0, 0))]), (3, [(b1, .cells #[.slice A4 s3.L.length c5, .int .i64 s3.vat] 26 (0, 0))])]) (n := 14) kr rfl HS29 ?_
 intro W30 HS31
 refine takeGL [0, 1] (n := 14) (fuel := 12) #[true, true, false, false, false, false, false, false, false, false, false, false, false, false] rfl kr kr kr hnp (Sg.g3 (Sx.of [[(b18, .cells #[.int .i64 0, .int .i64 0, .bool false, .int .i64 0, .int .i64 0, .bool false, .int .i64 0, .int .i64 0, .bool false] 31 (0, 0))], [(b10, .cells #[.pointer (some ⟨b1, 0, none⟩)] 24 (0, 0))], [(b1, .cells #[.slice A4 s3.L.length c5, .int .i64 s3.vat] 26 (0, 0))]] fL HS31) (fun _ => St.only [] HS31 fL) (fun _ => St.only [[(b18, .cells #[.int .i64 0, .int .i64 0, .bool false, .int .i64 0, .int .i64 0, .bool false, .int .i64 0, .int .i64 0, .bool false] 31 (0, 0))]] HS31 fL) (fun _ => St.only [[(b18, .cells #[.int .i64 0, .int .i64 0, .bool false, .int .i64 0, .int .i64 0, .bool false, .int .i64 0, .int .i64 0, .bool false] 31 (0, 0))], [(b10, .cells #[.pointer (some ⟨b1, 0, none⟩)] 24 (0, 0))]] HS31 fL)) ?_
 refine takeGQ 2 [] rfl kr kr kr kr kr kr hnp (Sg.g3 (Sx.of [[(b18, .cells #[.int .i64 0, .int .i64 0, .bool false, .int .i64 0, .int .i64 0, .bool false, .int .i64 0, .int .i64 0, .bool false] 31 (0, 0))], [(b10, .cells #[.pointer (some ⟨b1, 0, none⟩)] 24 (0, 0))], [(b1, .cells #[.slice A4 s3.L.length c5, .int .i64 s3.vat] 26 (0, 0))]] fL HS31) (fun _ => St.only [] HS31 fL) (fun _ => St.only [[(b18, .cells #[.int .i64 0, .int .i64 0, .bool false, .int .i64 0, .int .i64 0, .bool false, .int .i64 0, .int .i64 0, .bool false] 31 (0, 0))]] HS31 fL) (fun _ => St.only [[(b18, .cells #[.int .i64 0, .int .i64 0, .bool false, .int .i64 0, .int .i64 0, .bool false, .int .i64 0, .int .i64 0, .bool false] 31 (0, 0))], [(b10, .cells #[.pointer (some ⟨b1, 0, none⟩)] 24 (0, 0))]] HS31 fL)) (fun w_ hw_ => by obtain ⟨g_, hl_, hS_⟩ := hw_.st; exact run_loadN (n := 3) rfl Tryz.underlying29 rfl kr (kv (.pointer (some ⟨b14, 0, none⟩))) (cs := [.int .i64 b7.X.Lo, .int .i64 b7.X.Hi, .bool b7.X.Unknown]) rfl (hS_.cells 0 3 _ rfl)) ?_
 refine takeGL [4, 5] (n := 11) (fuel := 9) #[true, true, true, false, true, true, false, false, false, false, false, false, false, false] rfl kr kr kr hnp (Sg.g3 (Sx.of [[(b18, .cells #[.int .i64 0, .int .i64 0, .bool false, .int .i64 0, .int .i64 0, .bool false, .int .i64 0, .int .i64 0, .bool false] 31 (0, 0))], [(b10, .cells #[.pointer (some ⟨b1, 0, none⟩)] 24 (0, 0))], [(b1, .cells #[.slice A4 s3.L.length c5, .int .i64 s3.vat] 26 (0, 0))]] fL HS31) (fun _ => St.only [] HS31 fL) (fun _ => St.only [[(b18, .cells #[.int .i64 0, .int .i64 0, .bool false, .int .i64 0, .int .i64 0, .bool false, .int .i64 0, .int .i64 0, .bool false] 31 (0, 0))]] HS31 fL) (fun _ => St.only [[(b18, .cells #[.int .i64 0, .int .i64 0, .bool false, .int .i64 0, .int .i64 0, .bool false, .int .i64 0, .int .i64 0, .bool false] 31 (0, 0))], [(b10, .cells #[.pointer (some ⟨b1, 0, none⟩)] 24 (0, 0))]] HS31 fL)) ?_
 refine takeGQ 6 [] rfl kr kr kr kr kr kr hnp (Sg.g3 (Sx.of [[(b18, .cells #[.int .i64 0, .int .i64 0, .bool false, .int .i64 0, .int .i64 0, .bool false, .int .i64 0, .int .i64 0, .bool false] 31 (0, 0))], [(b10, .cells #[.pointer (some ⟨b1, 0, none⟩)] 24 (0, 0))], [(b1, .cells #[.slice A4 s3.L.length c5, .int .i64 s3.vat] 26 (0, 0))]] fL HS31) (fun _ => St.only [] HS31 fL) (fun _ => St.only [[(b18, .cells #[.int .i64 0, .int .i64 0, .bool false, .int .i64 0, .int .i64 0, .bool false, .int .i64 0, .int .i64 0, .bool false] 31 (0, 0))]] HS31 fL) (fun _ => St.only [[(b18, .cells #[.int .i64 0, .int .i64 0, .bool false, .int .i64 0, .int .i64 0, .bool false, .int .i64 0, .int .i64 0, .bool false] 31 (0, 0))], [(b10, .cells #[.pointer (some ⟨b1, 0, none⟩)] 24 (0, 0))]] HS31 fL)) (fun w_ hw_ => by obtain ⟨g_, hl_, hS_⟩ := hw_.st; exact run_loadN (n := 3) rfl Tryz.underlying29 rfl kr (kv (.pointer (some ⟨b14, 3, none⟩))) (cs := [.int .i64 b7.Y.Lo, .int .i64 b7.Y.Hi, .bool b7.Y.Unknown]) rfl (hS_.cells 3 3 _ rfl)) ?_
 refine takeGL [8, 9] (n := 8) (fuel := 6) #[true, true, true, false, true, true, true, false, true, true, false, false, false, false] rfl kr kr kr hnp (Sg.g3 (Sx.of [[(b18, .cells #[.int .i64 0, .int .i64 0, .bool false, .int .i64 0, .int .i64 0, .bool false, .int .i64 0, .int .i64 0, .bool false] 31 (0, 0))], [(b10, .cells #[.pointer (some ⟨b1, 0, none⟩)] 24 (0, 0))], [(b1, .cells #[.slice A4 s3.L.length c5, .int .i64 s3.vat] 26 (0, 0))]] fL HS31) (fun _ => St.only [] HS31 fL) (fun _ => St.only [[(b18, .cells #[.int .i64 0, .int .i64 0, .bool false, .int .i64 0, .int .i64 0, .bool false, .int .i64 0, .int .i64 0, .bool false] 31 (0, 0))]] HS31 fL) (fun _ => St.only [[(b18, .cells #[.int .i64 0, .int .i64 0, .bool false, .int .i64 0, .int .i64 0, .bool false, .int .i64 0, .int .i64 0, .bool false] 31 (0, 0))], [(b10, .cells #[.pointer (some ⟨b1, 0, none⟩)] 24 (0, 0))]] HS31 fL)) ?_
 refine takeGQ 10 [] rfl kr kr kr kr kr kr hnp (Sg.g3 (Sx.of [[(b18, .cells #[.int .i64 0, .int .i64 0, .bool false, .int .i64 0, .int .i64 0, .bool false, .int .i64 0, .int .i64 0, .bool false] 31 (0, 0))], [(b10, .cells #[.pointer (some ⟨b1, 0, none⟩)] 24 (0, 0))], [(b1, .cells #[.slice A4 s3.L.length c5, .int .i64 s3.vat] 26 (0, 0))]] fL HS31) (fun _ => St.only [] HS31 fL) (fun _ => St.only [[(b18, .cells #[.int .i64 0, .int .i64 0, .bool false, .int .i64 0, .int .i64 0, .bool false, .int .i64 0, .int .i64 0, .bool false] 31 (0, 0))]] HS31 fL) (fun _ => St.only [[(b18, .cells #[.int .i64 0, .int .i64 0, .bool false, .int .i64 0, .int .i64 0, .bool false, .int .i64 0, .int .i64 0, .bool false] 31 (0, 0))], [(b10, .cells #[.pointer (some ⟨b1, 0, none⟩)] 24 (0, 0))]] HS31 fL)) (fun w_ hw_ => by obtain ⟨g_, hl_, hS_⟩ := hw_.st; exact run_loadN (n := 3) rfl Tryz.underlying29 rfl kr (kv (.pointer (some ⟨b14, 6, none⟩))) (cs := [.int .i64 b7.Z.Lo, .int .i64 b7.Z.Hi, .bool b7.Z.Unknown]) rfl (hS_.cells 6 3 _ rfl)) ?_
 have HS33 := HS31.u2.u2
 have hq_ := bind_some h; clear h; obtain ⟨⟨vt34, vt35⟩, hc36, h⟩ := hq_
 refine takeGE 3 kr rfl kr (does_call (f := 37) (args := #[.agg #[.int .i64 b7.X.Lo, .int .i64 b7.X.Hi, .bool b7.X.Unknown], .pointer (some ⟨b10, 0, none⟩)]) kr (spykeep3_inner_1.calls k b10 b1 A4 c5 s3 b7.X HS33 HR6 vt34 vt35 hc36) ?_)
 rintro _ W39 ⟨f37, rfl, L38, HS40⟩
 refine ⟨_, rfl, ?_⟩
 refine ⟨(Sg.g3 (Sx.of [[(b10, .cells #[.pointer (some ⟨b1, 0, none⟩)] 24 (0, 0))], [(b1, .cells #[.slice A4 s3.L.length c5, .int .i64 vt35] 26 (0, 0))], [(b18, .cells #[.int .i64 0, .int .i64 0, .bool false, .int .i64 0, .int .i64 0, .bool false, .int .i64 0, .int .i64 0, .bool false] 31 (0, 0))]] L38 HS40) (fun _ => St.only [[(b10, .cells #[.pointer (some ⟨b1, 0, none⟩)] 24 (0, 0))], [(b1, .cells #[.slice A4 s3.L.length c5, .int .i64 vt35] 26 (0, 0))]] HS40 L38) (fun hl_ => Bool.noConfusion (show true = false from hl_)) (fun hl_ => Bool.noConfusion (show true = false from hl_))), ?_⟩
 have HS42 := HS40.u1.u1
 have hq_ := bind_some h; clear h; obtain ⟨⟨vt43, vt44⟩, hc45, h⟩ := hq_
 refine takeGE 7 kr rfl kr (does_call (f := 37) (args := #[.agg #[.int .i64 b7.Y.Lo, .int .i64 b7.Y.Hi, .bool b7.Y.Unknown], .pointer (some ⟨b10, 0, none⟩)]) kr (spykeep3_inner_1.calls k b10 b1 A4 c5 (⟨s3.L, vt35⟩ : S_Stream) b7.Y HS42 (HR6.mono L38) vt43 vt44 hc45) ?_)
 rintro _ W48 ⟨f46, rfl, L47, HS49⟩
 refine ⟨_, rfl, ?_⟩
 refine ⟨(Sg.g3 (Sx.of [[(b10, .cells #[.pointer (some ⟨b1, 0, none⟩)] 24 (0, 0))], [(b1, .cells #[.slice A4 s3.L.length c5, .int .i64 vt44] 26 (0, 0))], [(b18, .cells #[.int .i64 0, .int .i64 0, .bool false, .int .i64 0, .int .i64 0, .bool false, .int .i64 0, .int .i64 0, .bool false] 31 (0, 0))]] (L38.trans L47) HS49) (fun _ => St.only [[(b10, .cells #[.pointer (some ⟨b1, 0, none⟩)] 24 (0, 0))], [(b1, .cells #[.slice A4 s3.L.length c5, .int .i64 vt44] 26 (0, 0))]] HS49 (L38.trans L47)) (fun hl_ => Bool.noConfusion (show true = false from hl_)) (fun hl_ => Bool.noConfusion (show true = false from hl_))), ?_⟩
 have HS51 := HS49.u1.u1
 have hq_ := bind_some h; clear h; obtain ⟨⟨vt52, vt53⟩, hc54, h⟩ := hq_
 refine takeGE 11 kr rfl kr (does_call (f := 37) (args := #[.agg #[.int .i64 b7.Z.Lo, .int .i64 b7.Z.Hi, .bool b7.Z.Unknown], .pointer (some ⟨b10, 0, none⟩)]) kr (spykeep3_inner_1.calls k b10 b1 A4 c5 (⟨s3.L, vt44⟩ : S_Stream) b7.Z HS51 (HR6.mono (L38.trans L47)) vt52 vt53 hc54) ?_)
 rintro _ W57 ⟨f55, rfl, L56, HS58⟩
 refine ⟨_, rfl, ?_⟩
 refine ⟨(Sg.g3 (Sx.of [[(b10, .cells #[.pointer (some ⟨b1, 0, none⟩)] 24 (0, 0))], [(b1, .cells #[.slice A4 s3.L.length c5, .int .i64 vt53] 26 (0, 0))], [(b18, .cells #[.int .i64 0, .int .i64 0, .bool false, .int .i64 0, .int .i64 0, .bool false, .int .i64 0, .int .i64 0, .bool false] 31 (0, 0))]] (L38.trans (L47.trans L56)) HS58) (fun _ => St.only [[(b10, .cells #[.pointer (some ⟨b1, 0, none⟩)] 24 (0, 0))], [(b1, .cells #[.slice A4 s3.L.length c5, .int .i64 vt53] 26 (0, 0))]] HS58 (L38.trans (L47.trans L56))) (fun hl_ => Bool.noConfusion (show true = false from hl_)) (fun hl_ => Bool.noConfusion (show true = false from hl_))), ?_⟩
 refine takeGL [12] (n := 2) (fuel := 1) #[true, true, true, true, true, true, true, true, true, true, true, true, true, false] rfl kr kr kr hnp (Sg.g3 (Sx.of [[(b10, .cells #[.pointer (some ⟨b1, 0, none⟩)] 24 (0, 0))], [(b1, .cells #[.slice A4 s3.L.length c5, .int .i64 vt53] 26 (0, 0))], [(b18, .cells #[.int .i64 0, .int .i64 0, .bool false, .int .i64 0, .int .i64 0, .bool false, .int .i64 0, .int .i64 0, .bool false] 31 (0, 0))]] (L38.trans (L47.trans L56)) HS58) (fun _ => St.only [[(b10, .cells #[.pointer (some ⟨b1, 0, none⟩)] 24 (0, 0))], [(b1, .cells #[.slice A4 s3.L.length c5, .int .i64 vt53] 26 (0, 0))]] HS58 (L38.trans (L47.trans L56))) (fun hl_ => Bool.noConfusion (show true = false from hl_)) (fun hl_ => Bool.noConfusion (show true = false from hl_))) ?_
 have HS59 := HS58.u2
 refine takeGE 13 kr rfl kr (does_storeA (vs := [.int .i64 vt34.Lo, .int .i64 vt34.Hi, .bool vt34.Unknown, .int .i64 vt43.Lo, .int .i64 vt43.Hi, .bool vt43.Unknown, .int .i64 vt52.Lo, .int .i64 vt52.Hi, .bool vt52.Unknown]) rfl kr kr kr rfl (ones rfl) HS59 kr ?_)
 intro W60 HS61
 refine ⟨(Sg.g3 (Sx.of [[(b18, .cells #[.int .i64 vt34.Lo, .int .i64 vt34.Hi, .bool vt34.Unknown, .int .i64 vt43.Lo, .int .i64 vt43.Hi, .bool vt43.Unknown, .int .i64 vt52.Lo, .int .i64 vt52.Hi, .bool vt52.Unknown] 31 (0, 0))], [(b10, .cells #[.pointer (some ⟨b1, 0, none⟩)] 24 (0, 0))], [(b1, .cells #[.slice A4 s3.L.length c5, .int .i64 vt53] 26 (0, 0))]] (L38.trans (L47.trans L56)) HS61) (fun hl_ => Bool.noConfusion (show true = false from hl_)) (fun hl_ => Bool.noConfusion (show true = false from hl_)) (fun hl_ => Bool.noConfusion (show true = false from hl_))), ?_⟩
 refine doneG kr ?_ _
 refine hK25 _ _ ?_
 refine wp_ret ?_
 refine hret _ _ ?_
 refine ends (v := Value.agg #[.int .i64 vt34.Lo, .int .i64 vt34.Hi, .bool vt34.Unknown, .int .i64 vt43.Lo, .int .i64 vt43.Hi, .bool vt43.Unknown, .int .i64 vt52.Lo, .int .i64 vt52.Hi, .bool vt52.Unknown]) (results1 (q1 := .cell 4 31) kr (resN (n := 9) (cs := [.int .i64 vt34.Lo, .int .i64 vt34.Hi, .bool vt34.Unknown, .int .i64 vt43.Lo, .int .i64 vt43.Hi, .bool vt43.Unknown, .int .i64 vt52.Lo, .int .i64 vt52.Hi, .bool vt52.Unknown]) (kv (.pointer (some ⟨b18, 0, none⟩))) Tryz.underlying31 rfl kr rfl (HS61.cells 0 9 _ rfl))) kr ?_
 have HS65 := HS61.u2.u3.u3.u3
 have HS66 := HS65.drop
 have HS67 := HS66.drop
 have HS68 := HS67.drop
 injection h with h
 injection h with h0_ h
 subst h0_ h
 exact ⟨f55, rfl, (L38.trans (L47.trans L56)), HS68⟩

set_option maxRecDepth 100000 in
set_option maxHeartbeats 4000000 in
theorem spykeep3_single.calls (k : Nat)  (vid1 : Int) {t w : World} {f : FM} {H : List Seg} (HS : St t w f (H)) (rr1 : S_Row) (h : spykeep3_single k vid1 = some rr1) :
    Calls Tryz.prog 38 #[.int .i64 vid1] w (fun e w' => ∃ (g : FM) (A20 : Option Addr) (c21 : Nat) (s22 : Seg), e = .returned (Value.agg #[.int .i64 rr1.ID, .int .i64 rr1.Box.X.Lo, .int .i64 rr1.Box.X.Hi, .bool rr1.Box.X.Unknown, .int .i64 rr1.Box.Y.Lo, .int .i64 rr1.Box.Y.Hi, .bool rr1.Box.Y.Unknown, .int .i64 rr1.Box.Z.Lo, .int .i64 rr1.Box.Z.Hi, .bool rr1.Box.Z.Unknown, .int .i64 rr1.Flux.Lo, .int .i64 rr1.Flux.Hi, .bool rr1.Flux.Unknown, .int .i64 rr1.When.Lo, .int .i64 rr1.When.Hi, .bool rr1.When.Unknown, .slice A20 rr1.Frames.length c21, .int .i64 rr1.Marks]) ∧ FM.le f g ∧ St t w' g (s22 :: H) ∧ Own (tInt .i64) 3 g A20 c21 s22 rr1.Frames) := by
 unfold spykeep3_single at h
 refine enter Tryz.func38 rfl (tm := #[iV vid1, uV, uV, uV, uV, uV]) kr ?_
 intro B hret hnor hnp
 refine wp_seq_k fun K2 hK3 => rl ?_
 refine seqK rfl (does_alloc (z := Value.agg #[.int .i64 0, .int .i64 0, .int .i64 0, .bool false, .int .i64 0, .int .i64 0, .bool false, .int .i64 0, .int .i64 0, .bool false, .int .i64 0, .int .i64 0, .bool false, .int .i64 0, .int .i64 0, .bool false, .slice none 0 0, .int .i64 0]) (cs := #[.int .i64 0, .int .i64 0, .int .i64 0, .bool false, .int .i64 0, .int .i64 0, .bool false, .int .i64 0, .int .i64 0, .bool false, .int .i64 0, .int .i64 0, .bool false, .int .i64 0, .int .i64 0, .bool false, .slice none 0 0, .int .i64 0]) rfl kr rfl HS ?_)
 intro b4 W5 HS6
 refine nl (hK3 _ _ ?_)
 refine wp_seq_k fun K8 hK9 => rl ?_
 refine seqL1 kr ?_
 refine seqK rfl (does_lit (e := (tInt .i64)) (E := 3) (vs := #[(0, Value.int .i64 1)]) (cs := #[.int .i64 1]) (xs := ([1] : List Int)) rfl Tryz.underlying22 kr kr ⟨[.int .i64 1], _, rfl, rfl, rfl⟩ rfl HS6 ?_ (by decide))
 intro b10 W11 s12 HS13 _ HO14
 have HS16 := HS13.u1
 refine seqL1 kr ?_
 refine seqK rfl (does_storeA (vs := [.int .i64 vid1, .int .i64 0, .int .i64 0, .bool false, .int .i64 0, .int .i64 0, .bool false, .int .i64 0, .int .i64 0, .bool false, .int .i64 0, .int .i64 0, .bool false, .int .i64 0, .int .i64 0, .bool false, .slice (some ⟨b10, 0, none⟩) ([1] : List Int).length 1, .int .i64 0]) rfl kr kr kr rfl (ones rfl) HS16 kr ?_)
 intro W17 HS18
 refine nl (hK9 _ _ ?_)
 refine wp_ret ?_
 refine hret _ _ ?_
 refine ends (v := Value.agg #[.int .i64 vid1, .int .i64 0, .int .i64 0, .bool false, .int .i64 0, .int .i64 0, .bool false, .int .i64 0, .int .i64 0, .bool false, .int .i64 0, .int .i64 0, .bool false, .int .i64 0, .int .i64 0, .bool false, .slice (some ⟨b10, 0, none⟩) ([1] : List Int).length 1, .int .i64 0]) (results1 (q1 := .cell 2 99) kr (resN (n := 18) (cs := [.int .i64 vid1, .int .i64 0, .int .i64 0, .bool false, .int .i64 0, .int .i64 0, .bool false, .int .i64 0, .int .i64 0, .bool false, .int .i64 0, .int .i64 0, .bool false, .int .i64 0, .int .i64 0, .bool false, .slice (some ⟨b10, 0, none⟩) ([1] : List Int).length 1, .int .i64 0]) (kv (.pointer (some ⟨b4, 0, none⟩))) Tryz.underlying99 rfl kr rfl (HS18.cells 0 18 _ rfl))) kr ?_
 have HS19 := HS18.drop
 injection h with h
 subst h
 exact ⟨f, (some ⟨b10, 0, none⟩), 1, s12, rfl, FM.le.refl _, HS19, HO14⟩

set_option maxRecDepth 100000 in
set_option maxHeartbeats 4000000 in
theorem catalog_ends_Coord.calls (k : Nat)  (b1 : S_Bound) (most2 : Int) {t w : World} {f : FM} {H : List Seg} (HS : St t w f (H)) (rr1 : Int) (h : catalog_ends_Coord k b1 most2 = some rr1) :
    Calls Tryz.prog 96 #[.agg #[.int .i64 b1.Lo, .int .i64 b1.Hi, .bool b1.Unknown], .int .i64 most2] w (fun e w' => ∃ (g : FM), e = .returned (Value.int .i64 rr1) ∧ FM.le f g ∧ St t w' g (H)) := by
 unfold catalog_ends_Coord at h
 refine enter Tryz.func96 rfl (tm := #[(ag_Bound b1), iV most2, uV, uV, uV, uV, uV, uV, uV, uV, uV, uV, uV, uV, uV, uV, uV, uV, uV, uV, uV, uV]) kr ?_
 intro B hret hnor hnp
 refine wp_seq_k fun K3 hK4 => rl ?_
 refine seqK rfl (does_box (cs := #[.int .i64 b1.Lo, .int .i64 b1.Hi, .bool b1.Unknown]) rfl (kv (.agg #[.int .i64 b1.Lo, .int .i64 b1.Hi, .bool b1.Unknown])) rfl HS ?_)
 intro b5 W6 HS7
 refine seqL1 kr ?_
 refine nl (hK4 _ _ ?_)
 refine wp_seq_k (fun K9 hK10 => ?_)
 refine wp_seq_k fun K11 hK12 => rl ?_
 refine seqK rfl (does_run (run_loadN (n := 3) rfl Tryz.underlying29 rfl kr (kv (.pointer (some ⟨b5, 0, none⟩))) (cs := [.int .i64 b1.Lo, .int .i64 b1.Hi, .bool b1.Unknown]) rfl (HS7.cells 0 3 _ rfl)) ?_)
 have hq_ := bind_some h; clear h; obtain ⟨vt13, hc14, h⟩ := hq_
 refine seqK rfl (does_call (f := 94) (args := #[.agg #[.int .i64 b1.Lo, .int .i64 b1.Hi, .bool b1.Unknown]]) kr (bound_Check_Coord.calls k b1 HS7 vt13 hc14) ?_)
 rintro _ W17 ⟨f15, rfl, L16, HS18⟩
 refine ⟨_, rfl, ?_⟩
 refine seqL1 kr ?_
 refine nl (hK12 _ _ ?_)
 refine wp_seq_k fun K19 hK20 => rl ?_
 refine seqL2 kr ?_
 refine nl (hK20 _ _ ?_)
 have hq_ := ite_some h; clear h; rcases hq_ with ⟨c22, h⟩ | ⟨c22, h⟩
 · have c22 : vt13 ≠ 0 := c22
   refine wpRwI 9 kr (bne_iff_ne.mpr c22) ?_
   refine condT kr ?_
   refine wp_seq_k fun K23 hK24 => rl ?_
   refine seqL2 kr ?_
   refine nl (hK24 _ _ ?_)
   refine wp_ret ?_
   refine hret _ _ ?_
   refine ends_still (v := Value.int .i64 vt13) kr kr ?_
   have HS38 := HS18.drop
   injection h with h
   subst h
   exact ⟨f15, rfl, L16, HS38⟩
 · have c22 : ¬ (vt13 ≠ 0) := c22
   refine wpRwI 9 (x := (vt13 != 0)) (v := false) kr (bne_eq_false_iff_eq.mpr (Decidable.of_not_not c22)) ?_
   refine condF kr ?_
   refine wp_skip ?_
   refine hK10 _ _ ?_
   refine wp_seq_k (fun K25 hK26 => ?_)
   refine wp_seq_k fun K27 hK28 => rl ?_
   refine seqL1 kr ?_
   refine seqK rfl (does_run (run_load rfl Tryz.underlying27 rfl (kv (.pointer (some ⟨b5, 0, none⟩))) (HS18.cell 0)) ?_)
   refine seqL4 kr ?_
   have hq_ := ite_some h; clear h; rcases hq_ with ⟨c29, h⟩ | ⟨c29, h⟩
   · have c29 : b1.Lo < (w64 (0 - most2)) := c29
     refine seqRwI 15 kr (decide_eq_true c29) ?_
     refine seqRwI 16 kr (decide_eq_true c29) ?_
     refine seqL5 kr ?_
     refine nl (hK28 _ _ ?_)
     refine condT kr ?_
     refine wp_seq_k fun K30 hK31 => rl ?_
     refine seqL1 kr ?_
     refine nl (hK31 _ _ ?_)
     refine wp_ret ?_
     refine hret _ _ ?_
     refine ends_still (v := Value.int .i64 4) kr kr ?_
     have HS39 := HS18.drop
     injection h with h
     subst h
     exact ⟨f15, rfl, L16, HS39⟩
   · have c29 : ¬ (b1.Lo < (w64 (0 - most2))) := c29
     refine seqRwI 15 kr (decide_eq_false c29) ?_
     refine seqRwI 16 kr (decide_eq_false c29) ?_
     refine seqL1 kr ?_
     refine seqG kr (does_run (run_load rfl Tryz.underlying27 rfl (kv (.pointer (some ⟨b5, 1, none⟩))) (HS18.cell 1)) ?_)
     refine seqL3 kr ?_
     refine nl (hK28 _ _ ?_)
     have hq_ := ite_some h; clear h; rcases hq_ with ⟨c33, h⟩ | ⟨c33, h⟩
     · have c33 : b1.Hi > most2 := c33
       refine wpRwI 20 kr (decide_eq_true c33) ?_
       refine wpRwI 21 kr (decide_eq_true c33) ?_
       refine condT kr ?_
       refine wp_seq_k fun K34 hK35 => rl ?_
       refine seqL1 kr ?_
       refine nl (hK35 _ _ ?_)
       refine wp_ret ?_
       refine hret _ _ ?_
       refine ends_still (v := Value.int .i64 4) kr kr ?_
       have HS40 := HS18.drop
       injection h with h
       subst h
       exact ⟨f15, rfl, L16, HS40⟩
     · have c33 : ¬ (b1.Hi > most2) := c33
       refine wpRwI 20 kr (decide_eq_false c33) ?_
       refine wpRwI 21 kr (decide_eq_false c33) ?_
       refine condF kr ?_
       refine wp_skip ?_
       refine hK26 _ _ ?_
       refine wp_seq_k fun K36 hK37 => rl ?_
       refine seqL1 kr ?_
       refine nl (hK37 _ _ ?_)
       refine wp_ret ?_
       refine hret _ _ ?_
       refine ends_still (v := Value.int .i64 0) kr kr ?_
       have HS41 := HS18.drop
       injection h with h
       subst h
       exact ⟨f15, rfl, L16, HS41⟩

end Go.Sp.Q3
