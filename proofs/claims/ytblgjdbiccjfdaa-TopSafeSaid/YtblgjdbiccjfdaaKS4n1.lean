import Derived.Test.YtblgjdbiccjfdaaProg
import Derived.Test.YtblgjdbiccjfdaaSpCopy
import Derived.Test.YtblgjdbiccjfdaaFS4
import Derived.Test.YtblgjdbiccjfdaaSpTake
import Derived.Test.YtblgjdbiccjfdaaKS4n0
namespace Go.Sp.S4
open Go Go.Sp Go.Proofs
set_option linter.unusedVariables false
attribute [local irreducible] wpList AnyL Code.wp Calls Does
set_option maxRecDepth 100000 in
set_option maxHeartbeats 4000000 in
theorem link_Check.calls (k : Nat) (A2 : Option Addr) (c3 : Nat) (A6 : Option Addr) (c7 : Nat) (A10 : Option Addr) (c11 : Nat) (l1 : List S_Cmd) (there5 : List S_Fate) (back9 : List S_Fate) {t w : World} {f : FM} {H : List Seg} (HS : St t w f (H)) (HR4 : SlR ty_Cmd f A2 c3 l1) (HR8 : SlR ty_Fate f A6 c7 there5) (HR12 : SlR ty_Fate f A10 c11 back9) (rr1 : Int) (h : link_Check k l1 there5 back9 = some rr1) :
    Calls Try.prog 21 #[.slice A2 l1.length c3, .slice A6 there5.length c7, .slice A10 back9.length c11] w (fun e w' => ∃ (g : FM), e = .returned (Value.int .i64 rr1) ∧ FM.le f g ∧ St t w' g (H)) := by
 unfold link_Check at h
 refine enter Try.func21 rfl (tm := ⟨[.slice A2 l1.length c3, .slice A6 there5.length c7, .slice A10 back9.length c11] ++ (un 70 [])⟩) kr ?_
 intro B hret hnor hnp
 refine wp_seq_k fun K13 hK14 => rl ?_
 refine seqL1 kr ?_
 refine nl (hK14 _ _ ?_)
 refine wp_seq_k (fun K15 hK16 => ?_)
 refine wp_seq_k (fun K17 hK18 => ?_)
 replace h := bind_some h; obtain ⟨v19, hv28, h⟩ := h
 have J29 : ∀ (f22 : FM) (x27 : Bool) (j26 : Nat → Value) (W24 : World) (a_ : Act), FM.le f f22 → some (x27) = some v19 → St t W24 f22 (H) → a_ = ⟨⟨[.slice A2 l1.length c3, .slice A6 there5.length c7, .slice A10 back9.length c11, uV, uV, uV, iV 0] ++ (un 7 (jr j26 0 12 ([.bool x27] ++ (un 46 []))))⟩, []⟩ → K17 a_ W24 := by
  intro f22 x27 j26 W24 a_ L23 hj30 HS25  hfr_; subst hfr_
  injection hj30 with hj30; subst hj30; try dsimp only at h
  refine hK18 _ _ ?_
  replace h := ite_some h; rcases h with ⟨c32, h⟩ | ⟨c32, h⟩
  · have c32 : x27 = true := c32
    refine wpRwI 26 kr c32 ?_
    refine condT kr ?_
    refine wp_seq_k (fun K33 hK34 => ?_)
    exact nomatch h
  have c32 : ¬ (x27 = true) := c32
  refine wpRwI 26 kr (Bool.eq_false_iff.mpr c32) ?_
  refine condF kr ?_
  refine wp_skip ?_
  refine hK16 _ _ ?_
  refine wp_seq_k (fun K35 hK36 => ?_)
  refine wp_seq_k fun K37 hK38 => rl ?_
  refine seqL3 kr ?_
  refine nl (hK38 _ _ ?_)
  refine blockK (fun B39 hx40 hn41 hr42 ho43 hp44 => ?_)
  replace h := bind_some h; obtain ⟨o45, hv109, h⟩ := h
  have J110 : ∀ (f104 : FM) (j108 : Nat → Value) (W106 : World) (a_ : Act), FM.le f22 f104 → some (()) = some o45 → St t W106 f104 (H) → a_ = ⟨⟨[.slice A2 l1.length c3, .slice A6 there5.length c7, .slice A10 back9.length c11, uV, uV, uV, (j108 0), uV, (j108 1)] ++ (un 5 (jr j26 0 12 ([fV, .slice A2 l1.length c3, iV (l1.length : Int)] ++ (jr j108 2 23 (un 21 [])))))⟩, []⟩ → K35 a_ W106 := by
   intro f104 j108 W106 a_ L105 hj111 HS107  hfr_; subst hfr_
   injection hj111 with hj111; subst hj111; try dsimp only at h
   refine hK36 _ _ ?_
   refine wp_seq_k (fun K113 hK114 => ?_)
   refine wp_seq_k fun K115 hK116 => rl ?_
   refine seqL2 kr ?_
   refine seqK rfl (does_lit (e := (tSl ty_Fate)) (E := 35) (vs := #[(0, Value.slice A6 there5.length c7), (1, Value.slice A10 back9.length c11)]) (cs := #[.slice A6 there5.length c7, .slice A10 back9.length c11]) (xs := ([there5, back9] : List (List S_Fate))) rfl Try.underlying114 kr kr ⟨[.slice A6 there5.length c7], _, rfl, ⟨A6, c7, rfl, (HR8.mono (L23.trans L105))⟩, ⟨[.slice A10 back9.length c11], _, rfl, ⟨A10, c11, rfl, (HR12.mono (L23.trans L105))⟩, rfl⟩⟩ rfl HS107 ?_ (by decide))
   intro b117 W118 s119 HS120 _ HO121
   refine seqL2 kr ?_
   refine nl (hK116 _ _ ?_)
   refine blockK (fun B123 hx124 hn125 hr126 ho127 hp128 => ?_)
   replace h := bind_some h; obtain ⟨o129, hv240, h⟩ := h
   have J241 : ∀ (f235 : FM) (j239 : Nat → Value) (W237 : World) (a_ : Act), FM.le f104 f235 → some (()) = some o129 → St t W237 f235 (s119 :: H) → a_ = ⟨⟨[.slice A2 l1.length c3, .slice A6 there5.length c7, .slice A10 back9.length c11, uV, uV, uV, (j239 0), uV, (j108 1), uV, (j239 1), uV, (j239 2), (j239 3)] ++ (jr j26 0 12 ([fV, .slice A2 l1.length c3, iV (l1.length : Int)] ++ (jr j108 2 23 ([.slice A6 there5.length c7, .slice A10 back9.length c11, .slice (some ⟨b117, 0, none⟩) ([there5, back9] : List (List S_Fate)).length 2, iV (([there5, back9] : List (List S_Fate)).length : Int)] ++ (jr j239 4 17 [])))))⟩, []⟩ → K113 a_ W237 := by
    intro f235 j239 W237 a_ L236 hj242 HS238  hfr_; subst hfr_
    injection hj242 with hj242; subst hj242; try dsimp only at h
    refine hK114 _ _ ?_
    refine wp_seq_k fun K243 hK244 => rl ?_
    refine seqL1 kr ?_
    refine nl (hK244 _ _ ?_)
    refine wp_ret ?_
    refine hret _ _ ?_
    refine ends_still (v := Value.int .i64 0) kr kr ?_
    have HS245 := HS238.drop
    injection h with h
    subst h
    exact ⟨f235, rfl, (L23.trans (L105.trans L236)), HS245⟩
   clear h; have h := hv240; clear hv240
   refine loopK (fun n_ a_ w_ => ∃ (f133 : FM) (x138 : Int) (j137 : Nat → Value), FM.le f104 f133 ∧ St t w_ f133 (s119 :: H) ∧ link_Check.l1 k there5 back9 l1 n_ x138 = some o129 ∧ a_ = ⟨⟨[.slice A2 l1.length c3, .slice A6 there5.length c7, .slice A10 back9.length c11, uV, uV, uV, (j137 0), uV, (j108 1), uV, (j137 1), uV, (j137 2), (j137 3)] ++ (jr j26 0 12 ([fV, .slice A2 l1.length c3, iV (l1.length : Int)] ++ (jr j108 2 23 ([.slice A6 there5.length c7, .slice A10 back9.length c11, .slice (some ⟨b117, 0, none⟩) ([there5, back9] : List (List S_Fate)).length 2, iV (([there5, back9] : List (List S_Fate)).length : Int), iV x138] ++ (jr j137 4 16 [])))))⟩, []⟩) k ⟨f104, 0, (jL [(j108 0)]), fL, HS120, h, kr⟩ ?_
   clear h
   rintro n132 _ W135 ⟨f133, x138, j137, L134, HS136, h, rfl⟩ K130 hK131
   obtain _ | n132 := n132
   · exact nomatch h
   simp only [link_Check.l1] at h
   refine wp_seq_k fun K139 hK140 => rl ?_
   refine seqL1 kr ?_
   refine nl (hK140 _ _ ?_)
   refine wp_seq_k (fun K141 hK142 => ?_)
   replace h := ite_some h; rcases h with ⟨c144, h⟩ | ⟨c144, h⟩
   rotate_left
   · have c144 : ¬ (x138 < (([there5, back9] : List (List S_Fate)).length : Int)) := c144
     refine wpRwI 57 kr (decide_eq_false c144) ?_
     refine condF kr ?_
     refine wp_exit ?_
     refine hx124 _ _ ?_
     exact J241 f133 (jL [(j137 0), (j137 1), (j137 2), (j137 3), iV x138, fV, (j137 5), (j137 6), (j137 7), (j137 8), (j137 9), (j137 10), (j137 11), (j137 12), (j137 13), (j137 14), (j137 15), (j137 16), (j137 17), (j137 18), (j137 19)]) W135 _ L134 h HS136 kr
   have c144 : x138 < (([there5, back9] : List (List S_Fate)).length : Int) := c144
   refine wpRwI 57 kr (decide_eq_true c144) ?_
   refine condT kr ?_
   refine wp_skip ?_
   refine hK142 _ _ ?_
   refine wp_seq_k (fun K145 hK146 => ?_)
   refine blockK (fun B147 hx148 hn149 hr150 ho151 hp152 => ?_)
   refine wp_seq_k fun K154 hK155 => rl ?_
   replace h := guard_some h; obtain ⟨c156, h⟩ := h
   have c156 : 0 ≤ x138 := c156
   obtain ⟨cs157, hr158, hc159⟩ := (HO121.mono L134).at' (i := x138) c156 c144
   obtain ⟨A160, c160, rfl, HR160⟩ := hr158
   refine seqK rfl (does_run (run_index (sz := 1) rfl Try.underlying114 kr (kv (.slice (some ⟨b117, 0, none⟩) ([there5, back9] : List (List S_Fate)).length 2)) (kv (.int .i64 x138)) c156 c144 W135) ?_)
   refine seqK rfl (does_run (run_load rfl Try.underlying35 rfl (kv (pV b117 (0 + (x138 : Int).toNat * 1))) ((hc159 HS136) 0 (by decide))) ?_)
   refine seqL1 kr ?_
   refine nl (hK155 _ _ ?_)
   refine wp_seq_k fun K161 hK162 => rl ?_
   refine seqL3 kr ?_
   refine nl (hK162 _ _ ?_)
   refine blockK (fun B163 hx164 hn165 hr166 ho167 hp168 => ?_)
   replace h := bind_some h; obtain ⟨o169, hv229, h⟩ := h
   have J230 : ∀ (f224 : FM) (j228 : Nat → Value) (W226 : World) (a_ : Act), FM.le f133 f224 → some (()) = some o169 → St t W226 f224 (s119 :: H) → a_ = ⟨⟨[.slice A2 l1.length c3, .slice A6 there5.length c7, .slice A10 back9.length c11, uV, uV, uV, (j228 0), uV, (j108 1), uV, .slice A160 (rd ([there5, back9] : List (List S_Fate)) x138).length c160, uV, (j228 1), (j228 2)] ++ (jr j26 0 12 ([fV, .slice A2 l1.length c3, iV (l1.length : Int)] ++ (jr j108 2 23 ([.slice A6 there5.length c7, .slice A10 back9.length c11, .slice (some ⟨b117, 0, none⟩) ([there5, back9] : List (List S_Fate)).length 2, iV (([there5, back9] : List (List S_Fate)).length : Int), iV x138, tV, pV b117 (0 + (x138 : Int).toNat * 1), .slice A160 (rd ([there5, back9] : List (List S_Fate)) x138).length c160, .slice A160 (rd ([there5, back9] : List (List S_Fate)) x138).length c160, iV ((rd ([there5, back9] : List (List S_Fate)) x138).length : Int)] ++ (jr j228 3 10 [(j137 19)])))))⟩, []⟩ → B147 Exit.normal a_ W226 := by
    intro f224 j228 W226 a_ L225 hj231 HS227  hfr_; subst hfr_
    injection hj231 with hj231; subst hj231; try dsimp only at h
    refine hn149 _ _ ?_
    refine hK146 _ _ ?_
    refine rl ?_
    refine seqL2 kr ?_
    refine nl ?_
    refine hK131 n132 _ _ (Nat.lt_succ_self _) ?_
    exact ⟨f224, (w64 (x138 + 1)), (jL [(j228 0), .slice A160 (rd ([there5, back9] : List (List S_Fate)) x138).length c160, (j228 1), (j228 2), tV, pV b117 (0 + (x138 : Int).toNat * 1), .slice A160 (rd ([there5, back9] : List (List S_Fate)) x138).length c160, .slice A160 (rd ([there5, back9] : List (List S_Fate)) x138).length c160, iV ((rd ([there5, back9] : List (List S_Fate)) x138).length : Int), (j228 3), (j228 4), (j228 5), (j228 6), (j228 7), (j228 8), (j228 9), (j228 10), (j228 11), (j228 12), iV (w64 (x138 + 1))]), (L134.trans L225), HS227, h, kr⟩
   clear h; have h := hv229; clear hv229
   refine loopK (fun n_ a_ w_ => ∃ (f173 : FM) (x178 : Int) (j177 : Nat → Value), FM.le f133 f173 ∧ St t w_ f173 (s119 :: H) ∧ link_Check.l2 k there5 back9 x138 n_ x178 = some o169 ∧ a_ = ⟨⟨[.slice A2 l1.length c3, .slice A6 there5.length c7, .slice A10 back9.length c11, uV, uV, uV, (j177 0), uV, (j108 1), uV, .slice A160 (rd ([there5, back9] : List (List S_Fate)) x138).length c160, uV, (j177 1), (j177 2)] ++ (jr j26 0 12 ([fV, .slice A2 l1.length c3, iV (l1.length : Int)] ++ (jr j108 2 23 ([.slice A6 there5.length c7, .slice A10 back9.length c11, .slice (some ⟨b117, 0, none⟩) ([there5, back9] : List (List S_Fate)).length 2, iV (([there5, back9] : List (List S_Fate)).length : Int), iV x138, tV, pV b117 (0 + (x138 : Int).toNat * 1), .slice A160 (rd ([there5, back9] : List (List S_Fate)) x138).length c160, .slice A160 (rd ([there5, back9] : List (List S_Fate)) x138).length c160, iV ((rd ([there5, back9] : List (List S_Fate)) x138).length : Int), iV x178] ++ (jr j177 3 9 [(j137 19)])))))⟩, []⟩) k ⟨f133, 0, (jL [(j137 0), (j137 2), (j137 3), (j137 10), (j137 11), (j137 12), (j137 13), (j137 14), (j137 15), (j137 16), (j137 17), (j137 18)]), fL, HS136, h, kr⟩ ?_
   clear h
   rintro n172 _ W175 ⟨f173, x178, j177, L174, HS176, h, rfl⟩ K170 hK171
   obtain _ | n172 := n172
   · exact nomatch h
   simp only [link_Check.l2] at h
   refine wp_seq_k fun K179 hK180 => rl ?_
   refine seqL1 kr ?_
   refine nl (hK180 _ _ ?_)
   refine wp_seq_k (fun K181 hK182 => ?_)
   replace h := ite_some h; rcases h with ⟨c184, h⟩ | ⟨c184, h⟩
   rotate_left
   · have c184 : ¬ (x178 < ((rd ([there5, back9] : List (List S_Fate)) x138).length : Int)) := c184
     refine wpRwI 63 kr (decide_eq_false c184) ?_
     refine condF kr ?_
     refine wp_exit ?_
     refine hx164 _ _ ?_
     exact J230 f173 (jL [(j177 0), (j177 1), (j177 2), iV x178, fV, (j177 4), (j177 5), (j177 6), (j177 7), (j177 8), (j177 9), (j177 10), (j177 11)]) W175 _ L174 h HS176 kr
   have c184 : x178 < ((rd ([there5, back9] : List (List S_Fate)) x138).length : Int) := c184
   refine wpRwI 63 kr (decide_eq_true c184) ?_
   refine condT kr ?_
   refine wp_skip ?_
   refine hK182 _ _ ?_
   refine wp_seq_k (fun K185 hK186 => ?_)
   refine blockK (fun B187 hx188 hn189 hr190 ho191 hp192 => ?_)
   refine wp_seq_k fun K194 hK195 => rl ?_
   replace h := guard_some h; obtain ⟨c196, h⟩ := h
   have c196 : 0 ≤ x178 := c196
   obtain ⟨b200, of201, cs197, hA202, hr198, hc199⟩ := (HR160.mono L174).at (i := x178) c196 c184
   obtain ⟨A203, c203, rfl, HR203⟩ := hr198
   refine seqK rfl (does_run (run_indexE hA202 (sz := 4) rfl Try.underlying35 kr (kv (.slice A160 (rd ([there5, back9] : List (List S_Fate)) x138).length c160)) (kv (.int .i64 x178)) c196 c184 W175) ?_)
   refine seqK rfl (does_run (run_loadN (n := 4) rfl Try.underlying78 rfl kr (kv (pV b200 (of201 + (x178 : Int).toNat * 4))) (cs := [.bool ((rd (rd ([there5, back9] : List (List S_Fate)) x138) x178).Lost), .int .i64 ((rd (rd ([there5, back9] : List (List S_Fate)) x138) x178).Delay), .int .i64 ((rd (rd ([there5, back9] : List (List S_Fate)) x138) x178).Twice), .slice A203 ((rd (rd ([there5, back9] : List (List S_Fate)) x138) x178).Bits).length c203]) rfl (fun j_ hj_ => ((hc199 fL HS176) j_ hj_))) ?_)
   refine seqK rfl (does_alloc (z := Value.agg #[.bool false, .int .i64 0, .int .i64 0, .slice none 0 0]) (cs := #[.bool false, .int .i64 0, .int .i64 0, .slice none 0 0]) rfl kr rfl HS176 ?_)
   intro b204 W205 HS206
   refine seqK rfl (does_storeA (vs := [.bool ((rd (rd ([there5, back9] : List (List S_Fate)) x138) x178).Lost), .int .i64 ((rd (rd ([there5, back9] : List (List S_Fate)) x138) x178).Delay), .int .i64 ((rd (rd ([there5, back9] : List (List S_Fate)) x138) x178).Twice), .slice A203 ((rd (rd ([there5, back9] : List (List S_Fate)) x138) x178).Bits).length c203]) rfl kr kr kr rfl (ones rfl) HS206 kr ?_)
   intro W208 HS209
   refine nl (hK195 _ _ ?_)
   refine wp_seq_k fun K210 hK211 => rl ?_
   refine seqK rfl (does_run (run_loadN (n := 4) rfl Try.underlying78 rfl kr (kv (pV b204 0)) (cs := [.bool ((rd (rd ([there5, back9] : List (List S_Fate)) x138) x178).Lost), .int .i64 ((rd (rd ([there5, back9] : List (List S_Fate)) x138) x178).Delay), .int .i64 ((rd (rd ([there5, back9] : List (List S_Fate)) x138) x178).Twice), .slice A203 ((rd (rd ([there5, back9] : List (List S_Fate)) x138) x178).Bits).length c203]) rfl (HS209.cells 0 4 _ rfl)) ?_)
   replace h := bind_some h; obtain ⟨vt212, hc213, h⟩ := h
   refine seqK rfl (does_call kr (link_CheckFate.calls k A203 c203 (rd (rd ([there5, back9] : List (List S_Fate)) x138) x178) HS209 HR203 vt212 hc213) ?_)
   rintro _ W216 ⟨f214, rfl, L215, HS217⟩
   refine ⟨_, rfl, ?_⟩
   refine seqL1 kr ?_
   refine nl (hK211 _ _ ?_)
   refine wp_seq_k fun K218 hK219 => rl ?_
   refine seqL2 kr ?_
   refine nl (hK219 _ _ ?_)
   replace h := ite_some h; rcases h with ⟨c221, h⟩ | ⟨c221, h⟩
   · have c221 : vt212 ≠ 0 := c221
     refine wpRwI 69 kr (bne_iff_ne.mpr c221) ?_
     refine condT kr ?_
     refine wp_seq_k (fun K222 hK223 => ?_)
     exact nomatch h
   have c221 : ¬ (vt212 ≠ 0) := c221
   refine wpRwI 69 (x := (vt212 != 0)) (v := false) kr (bne_eq_false_iff_eq.mpr (Decidable.of_not_not c221)) ?_
   refine condF kr ?_
   refine wp_skip ?_
   refine hn189 _ _ ?_
   refine hK186 _ _ ?_
   refine rl ?_
   refine seqL2 kr ?_
   refine nl ?_
   refine hK171 n172 _ _ (Nat.lt_succ_self _) ?_
   have HS233 := HS217.u1.u1
   have HS234 := HS233.drop
   exact ⟨f214, (w64 (x178 + 1)), (jL [(j177 0), pV b204 0, iV vt212, tV, pV b200 (of201 + (x178 : Int).toNat * 4), (ag_Fate (rd (rd ([there5, back9] : List (List S_Fate)) x138) x178) A203 c203), (ag_Fate (rd (rd ([there5, back9] : List (List S_Fate)) x138) x178) A203 c203), iV vt212, iV vt212, fV, (j177 10), iV (w64 (x178 + 1))]), (L174.trans L215), HS234, h, kr⟩
  clear h; have h := hv109; clear hv109
  refine loopK (fun n_ a_ w_ => ∃ (f49 : FM) (x54 : Int) (j53 : Nat → Value), FM.le f22 f49 ∧ St t w_ f49 (H) ∧ link_Check.l0 k l1 n_ x54 = some o45 ∧ a_ = ⟨⟨[.slice A2 l1.length c3, .slice A6 there5.length c7, .slice A10 back9.length c11, uV, uV, uV, (j53 0), uV, (j53 1)] ++ (un 5 (jr j26 0 12 ([fV, .slice A2 l1.length c3, iV (l1.length : Int), iV x54] ++ (jr j53 2 22 (un 21 [])))))⟩, []⟩) k ⟨f22, 0, (jL [iV 0]), fL, HS25, h, kr⟩ ?_
  clear h
  rintro n48 _ W51 ⟨f49, x54, j53, L50, HS52, h, rfl⟩ K46 hK47
  obtain _ | n48 := n48
  · exact nomatch h
  simp only [link_Check.l0] at h
  refine wp_seq_k fun K55 hK56 => rl ?_
  refine seqL1 kr ?_
  refine nl (hK56 _ _ ?_)
  refine wp_seq_k (fun K57 hK58 => ?_)
  replace h := ite_some h; rcases h with ⟨c60, h⟩ | ⟨c60, h⟩
  rotate_left
  · have c60 : ¬ (x54 < (l1.length : Int)) := c60
    refine wpRwI 30 kr (decide_eq_false c60) ?_
    refine condF kr ?_
    refine wp_exit ?_
    refine hx40 _ _ ?_
    exact J110 f49 (jL [(j53 0), (j53 1), iV x54, fV, (j53 3), (j53 4), (j53 5), (j53 6), (j53 7), (j53 8), (j53 9), (j53 10), (j53 11), (j53 12), (j53 13), (j53 14), (j53 15), (j53 16), (j53 17), (j53 18), (j53 19), (j53 20), (j53 21), (j53 22), (j53 23)]) W51 _ L50 h HS52 kr
  have c60 : x54 < (l1.length : Int) := c60
  refine wpRwI 30 kr (decide_eq_true c60) ?_
  refine condT kr ?_
  refine wp_skip ?_
  refine hK58 _ _ ?_
  refine wp_seq_k (fun K61 hK62 => ?_)
  refine blockK (fun B63 hx64 hn65 hr66 ho67 hp68 => ?_)
  refine wp_seq_k fun K70 hK71 => rl ?_
  replace h := guard_some h; obtain ⟨c72, h⟩ := h
  have c72 : 0 ≤ x54 := c72
  obtain ⟨b76, of77, cs73, hA78, hr74, hc75⟩ := (HR4.mono (L23.trans L50)).at (i := x54) c72 c60
  obtain rfl := hr74
  refine seqK rfl (does_run (run_indexE hA78 (sz := 3) rfl Try.underlying33 kr (kv (.slice A2 l1.length c3)) (kv (.int .i64 x54)) c72 c60 W51) ?_)
  refine seqK rfl (does_run (run_loadN (n := 3) rfl Try.underlying76 rfl kr (kv (pV b76 (of77 + (x54 : Int).toNat * 3))) (cs := (ll_Cmd (rd l1 x54))) rfl (fun j_ hj_ => ((hc75 fL HS52) j_ hj_))) ?_)
  refine seqK rfl (does_alloc (z := Value.agg (cm_Cmd 0 0 0)) (cs := (cm_Cmd 0 0 0)) rfl kr rfl HS52 ?_)
  intro b79 W80 HS81
  refine seqK rfl (does_storeA (vs := (ll_Cmd (rd l1 x54))) rfl kr kr kr rfl (ones rfl) HS81 kr ?_)
  intro W83 HS84
  refine nl (hK71 _ _ ?_)
  refine wp_seq_k (fun K85 hK86 => ?_)
  replace h := bind_some h; obtain ⟨v87, hv97, h⟩ := h
  have J98 : ∀ (f91 : FM) (x96 : Bool) (j95 : Nat → Value) (W93 : World) (a_ : Act), FM.le f49 f91 → some (x96) = some v87 → St t W93 f91 ([(b79, .cells (cl_Cmd (rd l1 x54)) 76 (0, 0))] :: H) → a_ = ⟨⟨[.slice A2 l1.length c3, .slice A6 there5.length c7, .slice A10 back9.length c11, uV, uV, uV, (j53 0), uV, pV b79 0] ++ (un 5 (jr j26 0 12 ([fV, .slice A2 l1.length c3, iV (l1.length : Int), iV x54, tV, pV b76 (of77 + (x54 : Int).toNat * 3), (ag_Cmd (rd l1 x54))] ++ (jr j95 0 17 ([.bool x96, (j53 23)] ++ (un 21 []))))))⟩, []⟩ → K85 a_ W93 := by
   intro f91 x96 j95 W93 a_ L92 hj99 HS94  hfr_; subst hfr_
   injection hj99 with hj99; subst hj99; try dsimp only at h
   refine hK86 _ _ ?_
   replace h := ite_some h; rcases h with ⟨c101, h⟩ | ⟨c101, h⟩
   · have c101 : x96 = true := c101
     refine wpRwI 50 kr c101 ?_
     refine condT kr ?_
     refine wp_seq_k (fun K102 hK103 => ?_)
     exact nomatch h
   have c101 : ¬ (x96 = true) := c101
   refine wpRwI 50 kr (Bool.eq_false_iff.mpr c101) ?_
   refine condF kr ?_
   refine wp_skip ?_
   refine hn65 _ _ ?_
   refine hK62 _ _ ?_
   refine rl ?_
   refine seqL2 kr ?_
   refine nl ?_
   refine hK47 n48 _ _ (Nat.lt_succ_self _) ?_
   have HS112 := HS94.drop
   exact ⟨f91, (w64 (x54 + 1)), (jL [(j53 0), pV b79 0, tV, pV b76 (of77 + (x54 : Int).toNat * 3), (ag_Cmd (rd l1 x54)), (j95 0), (j95 1), (j95 2), (j95 3), (j95 4), (j95 5), (j95 6), (j95 7), (j95 8), (j95 9), (j95 10), (j95 11), (j95 12), (j95 13), (j95 14), (j95 15), (j95 16), fV, iV (w64 (x54 + 1))]), (L50.trans L92), HS112, h, kr⟩
  clear h; have h := hv97; clear hv97
  refine rl ?_
  refine seqL1 kr ?_
  refine seqK rfl (does_run (run_load rfl Try.underlying3 rfl (kv (pV b79 0)) (HS84.cell 0)) ?_)
  refine seqL2 kr ?_
  replace h := ite_some h; rcases h with ⟨c88, h⟩ | ⟨c88, h⟩
  · have c88 : ((rd l1 x54).Op) < 0 := c88
    refine seqRwI 35 kr (decide_eq_true c88) ?_
    refine seqRwI 36 kr (decide_eq_true c88) ?_
    refine seqL14 kr ?_
    refine nl ?_
    exact J98 f49 true (jL [pV b79 0, iV ((rd l1 x54).Op), tV, tV, uV, uV, uV, tV, tV, uV, uV, uV, tV, tV]) W83 _ fL h HS84 kr
  have c88 : ¬ (((rd l1 x54).Op) < 0) := c88
  refine seqRwI 35 kr (decide_eq_false c88) ?_
  refine seqRwI 36 kr (decide_eq_false c88) ?_
  refine seqL1 kr ?_
  refine seqG kr (does_run (run_load rfl Try.underlying3 rfl (kv (pV b79 0)) (HS84.cell 0)) ?_)
  refine seqL3 kr ?_
  replace h := ite_some h; rcases h with ⟨c89, h⟩ | ⟨c89, h⟩
  · have c89 : ((rd l1 x54).Op) > 255 := c89
    refine seqRwI 39 kr (decide_eq_true c89) ?_
    refine seqRwI 40 kr (decide_eq_true c89) ?_
    refine seqRwI 41 kr (decide_eq_true c89) ?_
    refine seqL9 kr ?_
    refine nl ?_
    exact J98 f49 true (jL [pV b79 0, iV ((rd l1 x54).Op), fV, fV, pV b79 0, iV ((rd l1 x54).Op), tV, tV, tV, uV, uV, uV, tV, tV]) W83 _ fL h HS84 kr
  have c89 : ¬ (((rd l1 x54).Op) > 255) := c89
  refine seqRwI 39 kr (decide_eq_false c89) ?_
  refine seqRwI 40 kr (decide_eq_false c89) ?_
  refine seqRwI 41 kr (decide_eq_false c89) ?_
  refine seqL1 kr ?_
  refine seqG kr (does_run (run_load rfl Try.underlying3 rfl (kv (pV b79 2)) (HS84.cell 2)) ?_)
  refine seqL3 kr ?_
  replace h := ite_some h; rcases h with ⟨c90, h⟩ | ⟨c90, h⟩
  · have c90 : ((rd l1 x54).Due) < 0 := c90
    refine seqRwI 44 kr (decide_eq_true c90) ?_
    refine seqRwI 45 kr (decide_eq_true c90) ?_
    refine seqRwI 46 kr (decide_eq_true c90) ?_
    refine seqL4 kr ?_
    refine nl ?_
    exact J98 f49 true (jL [pV b79 0, iV ((rd l1 x54).Op), fV, fV, pV b79 0, iV ((rd l1 x54).Op), fV, fV, fV, pV b79 2, iV ((rd l1 x54).Due), tV, tV, tV]) W83 _ fL h HS84 kr
  have c90 : ¬ (((rd l1 x54).Due) < 0) := c90
  refine seqRwI 44 kr (decide_eq_false c90) ?_
  refine seqRwI 45 kr (decide_eq_false c90) ?_
  refine seqRwI 46 kr (decide_eq_false c90) ?_
  refine seqL1 kr ?_
  refine seqG kr (does_run (run_load rfl Try.underlying3 rfl (kv (pV b79 2)) (HS84.cell 2)) ?_)
  refine seqL2 kr ?_
  refine nl ?_
  exact J98 f49 (decide (((rd l1 x54).Due) > 2000)) (jL [pV b79 0, iV ((rd l1 x54).Op), fV, fV, pV b79 0, iV ((rd l1 x54).Op), fV, fV, fV, pV b79 2, iV ((rd l1 x54).Due), fV, fV, fV, pV b79 2, iV ((rd l1 x54).Due), .bool (decide (((rd l1 x54).Due) > 2000))]) W83 _ fL h HS84 kr
 clear h; have h := hv28; clear hv28
 refine rl ?_
 refine seqL4 kr ?_
 replace h := ite_some h; rcases h with ⟨c20, h⟩ | ⟨c20, h⟩
 · have c20 : (l1.length : Int) > 16 := c20
   refine seqRwI 16 kr (decide_eq_true c20) ?_
   refine seqRwI 17 kr (decide_eq_true c20) ?_
   refine seqL9 kr ?_
   refine nl ?_
   exact J29 f true (jL [.slice A2 l1.length c3, iV (l1.length : Int), tV, tV, uV, uV, uV, tV, tV]) w _ fL h HS kr
 have c20 : ¬ ((l1.length : Int) > 16) := c20
 refine seqRwI 16 kr (decide_eq_false c20) ?_
 refine seqRwI 17 kr (decide_eq_false c20) ?_
 refine seqL5 kr ?_
 replace h := ite_some h; rcases h with ⟨c21, h⟩ | ⟨c21, h⟩
 · have c21 : (there5.length : Int) > 200 := c21
   refine seqRwI 20 kr (decide_eq_true c21) ?_
   refine seqRwI 21 kr (decide_eq_true c21) ?_
   refine seqRwI 22 kr (decide_eq_true c21) ?_
   refine seqL4 kr ?_
   refine nl ?_
   exact J29 f true (jL [.slice A2 l1.length c3, iV (l1.length : Int), fV, fV, .slice A6 there5.length c7, iV (there5.length : Int), tV, tV, tV]) w _ fL h HS kr
 have c21 : ¬ ((there5.length : Int) > 200) := c21
 refine seqRwI 20 kr (decide_eq_false c21) ?_
 refine seqRwI 21 kr (decide_eq_false c21) ?_
 refine seqRwI 22 kr (decide_eq_false c21) ?_
 refine seqL4 kr ?_
 refine nl ?_
 exact J29 f (decide ((back9.length : Int) > 200)) (jL [.slice A2 l1.length c3, iV (l1.length : Int), fV, fV, .slice A6 there5.length c7, iV (there5.length : Int), fV, fV, fV, .slice A10 back9.length c11, iV (back9.length : Int), .bool (decide ((back9.length : Int) > 200))]) w _ fL h HS kr

set_option maxRecDepth 100000 in
set_option maxHeartbeats 4000000 in
theorem bus_Sum.calls (k : Nat) (A2 : Option Addr) (c3 : Nat) (b1 : List Int) {t w : World} {f : FM} {H : List Seg} (HS : St t w f (H)) (HR4 : SlR (tInt .u8) f A2 c3 b1) (rr1 : Int) (h : bus_Sum k b1 = some rr1) :
    Calls Try.prog 81 #[.slice A2 b1.length c3] w (fun e w' => ∃ (g : FM), e = .returned (Value.int .u16 rr1) ∧ FM.le f g ∧ St t w' g (H)) := by
 unfold bus_Sum at h
 refine enter Try.func81 rfl (tm := ⟨[.slice A2 b1.length c3] ++ (un 29 [])⟩) kr ?_
 intro B hret hnor hnp
 refine wp_seq_k fun K5 hK6 => rl ?_
 refine seqL1 kr ?_
 refine nl (hK6 _ _ ?_)
 refine wp_seq_k fun K7 hK8 => rl ?_
 refine seqL1 kr ?_
 refine nl (hK8 _ _ ?_)
 refine wp_seq_k (fun K9 hK10 => ?_)
 refine wp_seq_k fun K11 hK12 => rl ?_
 refine seqL3 kr ?_
 refine nl (hK12 _ _ ?_)
 refine blockK (fun B13 hx14 hn15 hr16 ho17 hp18 => ?_)
 replace h := bind_some h; obtain ⟨o19, hv109, h⟩ := h
 have J110 : ∀ (f103 : FM) (c108 : Int) (j107 : Nat → Value) (W105 : World) (a_ : Act), FM.le f f103 → some (c108) = some o19 → St t W105 f103 (H) → a_ = ⟨⟨[.slice A2 b1.length c3, uV, .int .u16 0, .int .u16 c108, uV, (j107 0), .slice A2 b1.length c3, iV (b1.length : Int)] ++ (jr j107 1 21 [uV])⟩, []⟩ → K9 a_ W105 := by
  intro f103 c108 j107 W105 a_ L104 hj111 HS106  hfr_; subst hfr_
  injection hj111 with hj111; subst hj111; try dsimp only at h
  refine hK10 _ _ ?_
  refine wp_seq_k fun K112 hK113 => rl ?_
  refine seqL2 kr ?_
  refine nl (hK113 _ _ ?_)
  refine wp_ret ?_
  refine hret _ _ ?_
  refine ends_still (v := Value.int .u16 c108) kr kr ?_
  injection h with h
  subst h
  exact ⟨f103, rfl, L104, HS106⟩
 clear h; have h := hv109; clear hv109
 refine loopK (fun n_ a_ w_ => ∃ (f23 : FM) (c28 : Int) (x29 : Int) (j27 : Nat → Value), FM.le f f23 ∧ St t w_ f23 (H) ∧ bus_Sum.l0 k b1 n_ c28 x29 = some o19 ∧ a_ = ⟨⟨[.slice A2 b1.length c3, uV, .int .u16 0, .int .u16 c28, uV, (j27 0), .slice A2 b1.length c3, iV (b1.length : Int), iV x29] ++ (jr j27 1 20 [uV])⟩, []⟩) k ⟨f, 65535, 0, (jL []), fL, HS, h, kr⟩ ?_
 clear h
 rintro n22 _ W25 ⟨f23, c28, x29, j27, L24, HS26, h, rfl⟩ K20 hK21
 obtain _ | n22 := n22
 · exact nomatch h
 simp only [bus_Sum.l0] at h
 refine wp_seq_k fun K30 hK31 => rl ?_
 refine seqL1 kr ?_
 refine nl (hK31 _ _ ?_)
 refine wp_seq_k (fun K32 hK33 => ?_)
 replace h := ite_some h; rcases h with ⟨c35, h⟩ | ⟨c35, h⟩
 rotate_left
 · have c35 : ¬ (x29 < (b1.length : Int)) := c35
   refine wpRwI 9 kr (decide_eq_false c35) ?_
   refine condF kr ?_
   refine wp_exit ?_
   refine hx14 _ _ ?_
   exact J110 f23 c28 (jL [(j27 0), iV x29, fV, (j27 2), (j27 3), (j27 4), (j27 5), (j27 6), (j27 7), (j27 8), (j27 9), (j27 10), (j27 11), (j27 12), (j27 13), (j27 14), (j27 15), (j27 16), (j27 17), (j27 18), (j27 19), (j27 20)]) W25 _ L24 h HS26 kr
 have c35 : x29 < (b1.length : Int) := c35
 refine wpRwI 9 kr (decide_eq_true c35) ?_
 refine condT kr ?_
 refine wp_skip ?_
 refine hK33 _ _ ?_
 refine wp_seq_k (fun K36 hK37 => ?_)
 refine blockK (fun B38 hx39 hn40 hr41 ho42 hp43 => ?_)
 refine wp_seq_k fun K45 hK46 => rl ?_
 replace h := guard_some h; obtain ⟨c47, h⟩ := h
 have c47 : 0 ≤ x29 := c47
 obtain ⟨b51, of52, cs48, hA53, hr49, hc50⟩ := (HR4.mono L24).at (i := x29) c47 c35
 obtain rfl := hr49
 refine seqK rfl (does_run (run_indexE hA53 (sz := 1) rfl Try.underlying91 kr (kv (.slice A2 b1.length c3)) (kv (.int .i64 x29)) c47 c35 W25) ?_)
 refine seqK rfl (does_run (run_load rfl Try.underlying5 rfl (kv (pV b51 (of52 + (x29 : Int).toNat * 1))) ((hc50 fL HS26) 0 (by decide))) ?_)
 refine seqL1 kr ?_
 refine nl (hK46 _ _ ?_)
 refine wp_seq_k fun K54 hK55 => rl ?_
 refine seqL6 kr ?_
 refine nl (hK55 _ _ ?_)
 refine wp_seq_k fun K56 hK57 => rl ?_
 refine seqL1 kr ?_
 refine nl (hK57 _ _ ?_)
 refine blockK (fun B58 hx59 hn60 hr61 ho62 hp63 => ?_)
 replace h := bind_some h; obtain ⟨o64, hv100, h⟩ := h
 have J101 : ∀ (f94 : FM) (c99 : Int) (j98 : Nat → Value) (W96 : World) (a_ : Act), FM.le f23 f94 → some (c99) = some o64 → St t W96 f94 (H) → a_ = ⟨⟨[.slice A2 b1.length c3, uV, .int .u16 0, .int .u16 c99, uV, .int .u8 (rd b1 x29), .slice A2 b1.length c3, iV (b1.length : Int), iV x29, tV, pV b51 (of52 + (x29 : Int).toNat * 1), .int .u8 (rd b1 x29), .int .u16 c28, .int .u8 (rd b1 x29), .int .u16 (IntKind.u16.wrap ((rd b1 x29))), .int .u16 (IntKind.u16.wrap ((IntKind.u16.wrap ((rd b1 x29))) * 2 ^ 8)), .int .u16 (Go.bits .xor .u16 c28 (IntKind.u16.wrap ((IntKind.u16.wrap ((rd b1 x29))) * 2 ^ 8)))] ++ (jr j98 0 11 [(j27 20), uV])⟩, []⟩ → B38 Exit.normal a_ W96 := by
  intro f94 c99 j98 W96 a_ L95 hj102 HS97  hfr_; subst hfr_
  injection hj102 with hj102; subst hj102; try dsimp only at h
  refine hn40 _ _ ?_
  refine hK37 _ _ ?_
  refine rl ?_
  refine seqL2 kr ?_
  refine nl ?_
  refine hK21 n22 _ _ (Nat.lt_succ_self _) ?_
  exact ⟨f94, c99, (w64 (x29 + 1)), (jL [.int .u8 (rd b1 x29), tV, pV b51 (of52 + (x29 : Int).toNat * 1), .int .u8 (rd b1 x29), .int .u16 c28, .int .u8 (rd b1 x29), .int .u16 (IntKind.u16.wrap ((rd b1 x29))), .int .u16 (IntKind.u16.wrap ((IntKind.u16.wrap ((rd b1 x29))) * 2 ^ 8)), .int .u16 (Go.bits .xor .u16 c28 (IntKind.u16.wrap ((IntKind.u16.wrap ((rd b1 x29))) * 2 ^ 8))), (j98 0), (j98 1), (j98 2), (j98 3), (j98 4), (j98 5), (j98 6), (j98 7), (j98 8), (j98 9), (j98 10), iV (w64 (x29 + 1))]), (L24.trans L95), HS97, h, kr⟩
 clear h; have h := hv100; clear hv100
 refine loopK (fun n_ a_ w_ => ∃ (f68 : FM) (c73 : Int) (x74 : Int) (j72 : Nat → Value), FM.le f23 f68 ∧ St t w_ f68 (H) ∧ bus_Sum.l1 k n_ c73 x74 = some o64 ∧ a_ = ⟨⟨[.slice A2 b1.length c3, uV, .int .u16 0, .int .u16 c73, uV, .int .u8 (rd b1 x29), .slice A2 b1.length c3, iV (b1.length : Int), iV x29, tV, pV b51 (of52 + (x29 : Int).toNat * 1), .int .u8 (rd b1 x29), .int .u16 c28, .int .u8 (rd b1 x29), .int .u16 (IntKind.u16.wrap ((rd b1 x29))), .int .u16 (IntKind.u16.wrap ((IntKind.u16.wrap ((rd b1 x29))) * 2 ^ 8)), .int .u16 (Go.bits .xor .u16 c28 (IntKind.u16.wrap ((IntKind.u16.wrap ((rd b1 x29))) * 2 ^ 8))), iV x74] ++ (jr j72 0 10 [(j27 20), uV])⟩, []⟩) k ⟨f23, (Go.bits .xor .u16 c28 (IntKind.u16.wrap ((IntKind.u16.wrap ((rd b1 x29))) * 2 ^ 8))), 0, (jL [(j27 10), (j27 11), (j27 12), (j27 13), (j27 14), (j27 15), (j27 16), (j27 17), (j27 18), (j27 19)]), fL, HS26, h, kr⟩ ?_
 clear h
 rintro n67 _ W70 ⟨f68, c73, x74, j72, L69, HS71, h, rfl⟩ K65 hK66
 obtain _ | n67 := n67
 · exact nomatch h
 simp only [bus_Sum.l1] at h
 refine wp_seq_k fun K75 hK76 => rl ?_
 refine seqL1 kr ?_
 refine nl (hK76 _ _ ?_)
 refine wp_seq_k (fun K77 hK78 => ?_)
 replace h := ite_some h; rcases h with ⟨c80, h⟩ | ⟨c80, h⟩
 rotate_left
 · have c80 : ¬ (x74 < 8) := c80
   refine wpRwI 18 kr (decide_eq_false c80) ?_
   refine condF kr ?_
   refine wp_exit ?_
   refine hx59 _ _ ?_
   exact J101 f68 c73 (jL [iV x74, fV, (j72 1), (j72 2), (j72 3), (j72 4), (j72 5), (j72 6), (j72 7), (j72 8), (j72 9)]) W70 _ L69 h HS71 kr
 have c80 : x74 < 8 := c80
 refine wpRwI 18 kr (decide_eq_true c80) ?_
 refine condT kr ?_
 refine wp_skip ?_
 refine hK78 _ _ ?_
 refine wp_seq_k (fun K81 hK82 => ?_)
 refine blockK (fun B83 hx84 hn85 hr86 ho87 hp88 => ?_)
 refine wp_seq_k fun K90 hK91 => rl ?_
 refine seqL3 kr ?_
 refine nl (hK91 _ _ ?_)
 replace h := ite_some h; rcases h with ⟨c93, h⟩ | ⟨c93, h⟩
 · have c93 : (Go.bits .and .u16 c73 32768) ≠ 0 := c93
   refine wpRwI 21 kr (bne_iff_ne.mpr c93) ?_
   refine condT kr ?_
   refine rl ?_
   refine seqL4 kr ?_
   refine nl ?_
   refine hn85 _ _ ?_
   refine hK82 _ _ ?_
   refine rl ?_
   refine seqL2 kr ?_
   refine nl ?_
   refine hK66 n67 _ _ (Nat.lt_succ_self _) ?_
   exact ⟨f68, (Go.bits .xor .u16 (IntKind.u16.wrap (c73 * 2 ^ 1)) 4129), (w64 (x74 + 1)), (jL [tV, .int .u16 c73, .int .u16 (Go.bits .and .u16 c73 32768), tV, .int .u16 c73, .int .u16 (IntKind.u16.wrap (c73 * 2 ^ 1)), .int .u16 (Go.bits .xor .u16 (IntKind.u16.wrap (c73 * 2 ^ 1)) 4129), (j72 7), (j72 8), iV (w64 (x74 + 1))]), L69, HS71, h, kr⟩
 have c93 : ¬ ((Go.bits .and .u16 c73 32768) ≠ 0) := c93
 refine wpRwI 21 (x := ((Go.bits .and .u16 c73 32768) != 0)) (v := false) kr (bne_eq_false_iff_eq.mpr (Decidable.of_not_not c93)) ?_
 refine condF kr ?_
 refine rl ?_
 refine seqL3 kr ?_
 refine nl ?_
 refine hn85 _ _ ?_
 refine hK82 _ _ ?_
 refine rl ?_
 refine seqL2 kr ?_
 refine nl ?_
 refine hK66 n67 _ _ (Nat.lt_succ_self _) ?_
 exact ⟨f68, (IntKind.u16.wrap (c73 * 2 ^ 1)), (w64 (x74 + 1)), (jL [tV, .int .u16 c73, .int .u16 (Go.bits .and .u16 c73 32768), fV, (j72 4), (j72 5), (j72 6), .int .u16 c73, .int .u16 (IntKind.u16.wrap (c73 * 2 ^ 1)), iV (w64 (x74 + 1))]), L69, HS71, h, kr⟩

set_option maxRecDepth 100000 in
set_option maxHeartbeats 4000000 in
theorem bus_Parse.calls (k : Nat) (A2 : Option Addr) (c3 : Nat) (b1 : List Int) {t w : World} {f : FM} {H : List Seg} (HS : St t w f (H)) (HR4 : SlR (tInt .u8) f A2 c3 b1) (rr1 : S_Packet) (rr2 : Int) (h : bus_Parse k b1 = some (rr1, rr2)) :
    Calls Try.prog 88 #[.slice A2 b1.length c3] w (fun e w' => ∃ (g : FM) (A173 : Option Addr) (c174 : Nat) (s175 : Seg), e = .returned (Value.tuple #[.agg #[.int .i64 rr1.Addr, .int .i64 rr1.Kind, .int .i64 rr1.Seq, .slice A173 rr1.Data.length c174], .int .i64 rr2]) ∧ FM.le f g ∧ St t w' g (s175 :: H) ∧ Own (tInt .u8) 5 g A173 c174 s175 rr1.Data) := by
 unfold bus_Parse at h
 refine enter Try.func88 rfl (tm := ⟨[.slice A2 b1.length c3] ++ (un 69 [])⟩) kr ?_
 intro B hret hnor hnp
 refine wp_seq_k fun K5 hK6 => rl ?_
 refine seqK rfl (does_alloc (z := Value.agg #[.int .i64 0, .int .i64 0, .int .i64 0, .slice none 0 0]) (cs := #[.int .i64 0, .int .i64 0, .int .i64 0, .slice none 0 0]) rfl kr rfl HS ?_)
 intro b7 W8 HS9
 refine seqL1 kr ?_
 refine nl (hK6 _ _ ?_)
 refine wp_seq_k (fun K11 hK12 => ?_)
 refine wp_seq_k fun K13 hK14 => rl ?_
 refine seqL3 kr ?_
 refine nl (hK14 _ _ ?_)
 replace h := ite_some h; rcases h with ⟨c16, h⟩ | ⟨c16, h⟩
 · have c16 : (b1.length : Int) < 5 := c16
   refine wpRwI 9 kr (decide_eq_true c16) ?_
   refine condT kr ?_
   refine wp_seq_k fun K17 hK18 => rl ?_
   refine seqL1 kr ?_
   refine seqK rfl (does_storeA (vs := [.int .i64 0, .int .i64 0, .int .i64 0, .slice none 0 0]) rfl kr kr kr rfl (ones rfl) HS9 kr ?_)
   intro W19 HS20
   refine seqL1 kr ?_
   refine nl (hK18 _ _ ?_)
   refine wp_ret ?_
   refine hret _ _ ?_
   have HS155 := HS20.cons_nil
   refine ends (v := Value.tuple #[.agg #[.int .i64 0, .int .i64 0, .int .i64 0, .slice none 0 0], .int .i64 14]) (results2 (q1 := .cell 2 93) (q2 := .tmp 3) kr (resN (n := 4) (cs := [.int .i64 0, .int .i64 0, .int .i64 0, .slice none 0 0]) (kv (pV b7 0)) Try.underlying93 rfl kr rfl (HS155.u1.cells 0 4 _ rfl)) (resT (kv (.int .i64 14)))) kr ?_
   have HS157 := HS155.u1
   have HS158 := HS157.drop
   injection h with h
   injection h with h0_ h
   subst h0_ h
   exact ⟨f, none, 0, [], rfl, FM.le.refl _, HS158, (Own.nil _)⟩
 have c16 : ¬ ((b1.length : Int) < 5) := c16
 refine wpRwI 9 kr (decide_eq_false c16) ?_
 refine condF kr ?_
 refine wp_skip ?_
 refine hK12 _ _ ?_
 refine wp_seq_k (fun K21 hK22 => ?_)
 refine wp_seq_k fun K23 hK24 => rl ?_
 refine seqL3 kr ?_
 refine nl (hK24 _ _ ?_)
 replace h := ite_some h; rcases h with ⟨c26, h⟩ | ⟨c26, h⟩
 · have c26 : (b1.length : Int) > 21 := c26
   refine wpRwI 13 kr (decide_eq_true c26) ?_
   refine condT kr ?_
   refine wp_seq_k fun K27 hK28 => rl ?_
   refine seqL1 kr ?_
   refine seqK rfl (does_storeA (vs := [.int .i64 0, .int .i64 0, .int .i64 0, .slice none 0 0]) rfl kr kr kr rfl (ones rfl) HS9 kr ?_)
   intro W29 HS30
   refine seqL1 kr ?_
   refine nl (hK28 _ _ ?_)
   refine wp_ret ?_
   refine hret _ _ ?_
   have HS159 := HS30.cons_nil
   refine ends (v := Value.tuple #[.agg #[.int .i64 0, .int .i64 0, .int .i64 0, .slice none 0 0], .int .i64 2]) (results2 (q1 := .cell 2 93) (q2 := .tmp 3) kr (resN (n := 4) (cs := [.int .i64 0, .int .i64 0, .int .i64 0, .slice none 0 0]) (kv (pV b7 0)) Try.underlying93 rfl kr rfl (HS159.u1.cells 0 4 _ rfl)) (resT (kv (.int .i64 2)))) kr ?_
   have HS161 := HS159.u1
   have HS162 := HS161.drop
   injection h with h
   injection h with h0_ h
   subst h0_ h
   exact ⟨f, none, 0, [], rfl, FM.le.refl _, HS162, (Own.nil _)⟩
 have c26 : ¬ ((b1.length : Int) > 21) := c26
 refine wpRwI 13 kr (decide_eq_false c26) ?_
 refine condF kr ?_
 refine wp_skip ?_
 refine hK22 _ _ ?_
 refine wp_seq_k fun K31 hK32 => rl ?_
 refine seqL4 kr ?_
 refine nl (hK32 _ _ ?_)
 refine wp_seq_k (fun K33 hK34 => ?_)
 refine wp_seq_k fun K35 hK36 => rl ?_
 replace h := guard_some h; obtain ⟨c37, h⟩ := h
 have c37 : 0 ≤ (w64 ((b1.length : Int) - 2)) := c37
 replace h := guard_some h; obtain ⟨c38, h⟩ := h
 have c38 : (w64 ((b1.length : Int) - 2)) ≤ (b1.length : Int) := c38
 refine seqL2 kr ?_
 refine seqK rfl (does_run (run_cutH (e := (tInt .u8)) (xs := b1) rfl Try.underlying91 kr (kv (.slice A2 b1.length c3)) (kv (.int .i64 (w64 ((b1.length : Int) - 2)))) c37 c38 HR4.le W8) ?_)
 replace h := bind_some h; obtain ⟨vt39, hc40, h⟩ := h
 refine seqK rfl (does_call kr (bus_Sum.calls k A2 c3 (b1.take (w64 ((b1.length : Int) - 2)).toNat) HS9 (HR4.take (w64 ((b1.length : Int) - 2)).toNat) vt39 hc40) ?_)
 rintro _ W43 ⟨f41, rfl, L42, HS44⟩
 refine ⟨_, rfl, ?_⟩
 refine seqL1 kr ?_
 refine nl (hK36 _ _ ?_)
 refine wp_seq_k fun K45 hK46 => rl ?_
 replace h := guard_some h; obtain ⟨c48, h⟩ := h
 have c48 : (w64 ((b1.length : Int) - 2)) < (b1.length : Int) := c48
 obtain ⟨b52, of53, cs49, hA54, hr50, hc51⟩ := (HR4.mono L42).at (i := w64 ((b1.length : Int) - 2)) c37 c48
 obtain rfl := hr50
 refine seqL2 kr ?_
 refine seqK rfl (does_run (run_indexE hA54 (sz := 1) rfl Try.underlying91 kr (kv (.slice A2 b1.length c3)) (kv (.int .i64 (w64 ((b1.length : Int) - 2)))) c37 c48 W43) ?_)
 refine seqK rfl (does_run (run_load rfl Try.underlying5 rfl (by kernel_rfl : _ = pV b52 (of53 + (w64 ((b1.length : Int) - 2) : Int).toNat * 1)) ((hc51 fL HS44) 0 (by decide))) ?_)
 refine seqL5 kr ?_
 replace h := ite_some h; rcases h with ⟨c55, h⟩ | ⟨c55, h⟩
 · have c55 : (rd b1 (w64 ((b1.length : Int) - 2))) ≠ (u8 (shr vt39 8)) := c55
   refine seqRwI 29 kr (bne_iff_ne.mpr c55) ?_
   refine seqRwI 30 kr (bne_iff_ne.mpr c55) ?_
   refine seqL9 kr ?_
   refine nl (hK46 _ _ ?_)
   refine condT kr ?_
   refine wp_seq_k fun K64 hK65 => rl ?_
   refine seqL1 kr ?_
   refine seqK rfl (does_storeA (vs := [.int .i64 0, .int .i64 0, .int .i64 0, .slice none 0 0]) rfl kr kr kr rfl (ones rfl) HS44 kr ?_)
   intro W66 HS67
   refine seqL1 kr ?_
   refine nl (hK65 _ _ ?_)
   refine wp_ret ?_
   refine hret _ _ ?_
   have HS163 := HS67.cons_nil
   refine ends (v := Value.tuple #[.agg #[.int .i64 0, .int .i64 0, .int .i64 0, .slice none 0 0], .int .i64 13]) (results2 (q1 := .cell 2 93) (q2 := .tmp 3) kr (resN (n := 4) (cs := [.int .i64 0, .int .i64 0, .int .i64 0, .slice none 0 0]) (kv (pV b7 0)) Try.underlying93 rfl kr rfl (HS163.u1.cells 0 4 _ rfl)) (resT (kv (.int .i64 13)))) kr ?_
   have HS165 := HS163.u1
   have HS166 := HS165.drop
   injection h with h
   injection h with h0_ h
   subst h0_ h
   exact ⟨f41, none, 0, [], rfl, L42, HS166, (Own.nil _)⟩
 have c55 : ¬ ((rd b1 (w64 ((b1.length : Int) - 2))) ≠ (u8 (shr vt39 8))) := c55
 refine seqRwI 29 (x := ((rd b1 (w64 ((b1.length : Int) - 2))) != (u8 (shr vt39 8)))) (v := false) kr (bne_eq_false_iff_eq.mpr (Decidable.of_not_not c55)) ?_
 refine seqRwI 30 (x := ((rd b1 (w64 ((b1.length : Int) - 2))) != (u8 (shr vt39 8)))) (v := false) kr (bne_eq_false_iff_eq.mpr (Decidable.of_not_not c55)) ?_
 replace h := guard_some h; obtain ⟨c56, h⟩ := h
 have c56 : 0 ≤ (w64 ((w64 ((b1.length : Int) - 2)) + 1)) := c56
 replace h := guard_some h; obtain ⟨c57, h⟩ := h
 have c57 : (w64 ((w64 ((b1.length : Int) - 2)) + 1)) < (b1.length : Int) := c57
 obtain ⟨b61, of62, cs58, hA63, hr59, hc60⟩ := (HR4.mono L42).at (i := w64 ((w64 ((b1.length : Int) - 2)) + 1)) c56 c57
 obtain rfl := hr59
 refine seqL3 kr ?_
 refine seqG kr (does_run (run_indexE hA63 (sz := 1) rfl Try.underlying91 kr (kv (.slice A2 b1.length c3)) (kv (.int .i64 (w64 ((w64 ((b1.length : Int) - 2)) + 1)))) c56 c57 W43) ?_)
 refine seqG kr (does_run (run_load rfl Try.underlying5 rfl (by kernel_rfl : _ = pV b61 (of62 + (w64 ((w64 ((b1.length : Int) - 2)) + 1) : Int).toNat * 1)) ((hc60 fL HS44) 0 (by decide))) ?_)
 refine seqL4 kr ?_
 refine nl (hK46 _ _ ?_)
 replace h := ite_some h; rcases h with ⟨c69, h⟩ | ⟨c69, h⟩
 · have c69 : (rd b1 (w64 ((w64 ((b1.length : Int) - 2)) + 1))) ≠ (u8 (vt39)) := c69
   refine wpRwI 38 kr (bne_iff_ne.mpr c69) ?_
   refine wpRwI 39 kr (bne_iff_ne.mpr c69) ?_
   refine condT kr ?_
   refine wp_seq_k fun K70 hK71 => rl ?_
   refine seqL1 kr ?_
   refine seqK rfl (does_storeA (vs := [.int .i64 0, .int .i64 0, .int .i64 0, .slice none 0 0]) rfl kr kr kr rfl (ones rfl) HS44 kr ?_)
   intro W72 HS73
   refine seqL1 kr ?_
   refine nl (hK71 _ _ ?_)
   refine wp_ret ?_
   refine hret _ _ ?_
   have HS167 := HS73.cons_nil
   refine ends (v := Value.tuple #[.agg #[.int .i64 0, .int .i64 0, .int .i64 0, .slice none 0 0], .int .i64 13]) (results2 (q1 := .cell 2 93) (q2 := .tmp 3) kr (resN (n := 4) (cs := [.int .i64 0, .int .i64 0, .int .i64 0, .slice none 0 0]) (kv (pV b7 0)) Try.underlying93 rfl kr rfl (HS167.u1.cells 0 4 _ rfl)) (resT (kv (.int .i64 13)))) kr ?_
   have HS169 := HS167.u1
   have HS170 := HS169.drop
   injection h with h
   injection h with h0_ h
   subst h0_ h
   exact ⟨f41, none, 0, [], rfl, L42, HS170, (Own.nil _)⟩
 have c69 : ¬ ((rd b1 (w64 ((w64 ((b1.length : Int) - 2)) + 1))) ≠ (u8 (vt39))) := c69
 refine wpRwI 38 (x := ((rd b1 (w64 ((w64 ((b1.length : Int) - 2)) + 1))) != (u8 (vt39)))) (v := false) kr (bne_eq_false_iff_eq.mpr (Decidable.of_not_not c69)) ?_
 refine wpRwI 39 (x := ((rd b1 (w64 ((w64 ((b1.length : Int) - 2)) + 1))) != (u8 (vt39)))) (v := false) kr (bne_eq_false_iff_eq.mpr (Decidable.of_not_not c69)) ?_
 refine condF kr ?_
 refine wp_skip ?_
 refine hK34 _ _ ?_
 refine wp_seq_k (fun K74 hK75 => ?_)
 refine heldG (S := Sg t f41 ([(b7, .cells #[.int .i64 0, .int .i64 0, .int .i64 0, .slice none 0 0] 93 (0, 0))] :: H) []) (n := 23) kr rfl HS44 ?_
 intro W76 HS77
 replace h := guard_some h; obtain ⟨c78, h⟩ := h
 have c78 : 0 < (b1.length : Int) := c78
 obtain ⟨b82, of83, cs79, hA84, hr80, hc81⟩ := (HR4.mono L42).at (i := 0) (by decide) c78
 obtain rfl := hr80
 refine gL [0] (fuel := 22) (bA 23 1) rfl kr kr kr hnp (Sg.g0 (Sx.of [] fL HS77)) fun X85 => ?_
 refine gQ 1 rfl kr kr kr kr kr hnp X85 (fun hl_ hS_ => run_indexE hA84 (sz := 1) rfl Try.underlying91 kr (kv (.slice A2 b1.length c3)) (kv (.int .i64 0)) (by decide) c78 _) fun X86 => ?_
 refine gQ 2 rfl kr kr kr kr kr hnp X86 (fun hl_ hS_ => run_load rfl Try.underlying5 rfl (kv (pV b82 (of83 + (0 : Int).toNat * 1))) ((hc81 hl_ hS_) 0 (by decide))) fun X87 => ?_
 refine gL [3, 4, 5] (fuel := 17) (bA 23 63) rfl kr kr kr hnp X87 fun X88 => ?_
 refine gQ 6 rfl kr kr kr kr kr hnp X88 (fun hl_ hS_ => run_indexE hA84 (sz := 1) rfl Try.underlying91 kr (kv (.slice A2 b1.length c3)) (kv (.int .i64 0)) (by decide) c78 _) fun X89 => ?_
 refine gQ 7 rfl kr kr kr kr kr hnp X89 (fun hl_ hS_ => run_load rfl Try.underlying5 rfl (kv (pV b82 (of83 + (0 : Int).toNat * 1))) ((hc81 hl_ hS_) 0 (by decide))) fun X90 => ?_
 replace h := guard_some h; obtain ⟨c91, h⟩ := h
 have c91 : 1 < (b1.length : Int) := c91
 obtain ⟨b95, of96, cs92, hA97, hr93, hc94⟩ := (HR4.mono L42).at (i := 1) (by decide) c91
 obtain rfl := hr93
 refine gL [8, 9, 10] (fuel := 12) (bA 23 2047) rfl kr kr kr hnp X90 fun X98 => ?_
 refine gQ 11 rfl kr kr kr kr kr hnp X98 (fun hl_ hS_ => run_indexE hA97 (sz := 1) rfl Try.underlying91 kr (kv (.slice A2 b1.length c3)) (kv (.int .i64 1)) (by decide) c91 _) fun X99 => ?_
 refine gQ 12 rfl kr kr kr kr kr hnp X99 (fun hl_ hS_ => run_load rfl Try.underlying5 rfl (kv (pV b95 (of96 + (1 : Int).toNat * 1))) ((hc94 hl_ hS_) 0 (by decide))) fun X100 => ?_
 replace h := guard_some h; obtain ⟨c101, h⟩ := h
 have c101 : 2 < (b1.length : Int) := c101
 obtain ⟨b105, of106, cs102, hA107, hr103, hc104⟩ := (HR4.mono L42).at (i := 2) (by decide) c101
 obtain rfl := hr103
 refine gL [13, 14, 15] (fuel := 7) (bA 23 65535) rfl kr kr kr hnp X100 fun X108 => ?_
 refine gQ 16 rfl kr kr kr kr kr hnp X108 (fun hl_ hS_ => run_indexE hA107 (sz := 1) rfl Try.underlying91 kr (kv (.slice A2 b1.length c3)) (kv (.int .i64 2)) (by decide) c101 _) fun X109 => ?_
 refine gQ 17 rfl kr kr kr kr kr hnp X109 (fun hl_ hS_ => run_load rfl Try.underlying5 rfl (kv (pV b105 (of106 + (2 : Int).toNat * 1))) ((hc104 hl_ hS_) 0 (by decide))) fun X110 => ?_
 refine gL [18, 19, 20] (fuel := 2) (bA 23 2097151) rfl kr kr kr hnp X110 fun X111 => ?_
 refine takeGE 21 kr rfl kr (does_alloc (z := Value.agg #[.int .i64 0, .int .i64 0, .int .i64 0, .slice none 0 0]) (cs := #[.int .i64 0, .int .i64 0, .int .i64 0, .slice none 0 0]) rfl kr rfl HS77 ?_)
 intro b112 W113 HS114
 refine kB (Sg.g0 (Sx.of [[(b112, .cells #[.int .i64 0, .int .i64 0, .int .i64 0, .slice none 0 0] 93 (0, 0))]] fL HS114)) fun X116 => ?_
 refine takeGE 22 kr rfl kr (does_storeA (vs := [.int .i64 (w64 (shr (rd b1 0) 4)), .int .i64 (w64 (Go.bits .and .u8 (rd b1 0) 15)), .int .i64 (Go.bits .or .i64 (w64 ((w64 ((rd b1 1))) * 2 ^ 8)) (w64 ((rd b1 2)))), .slice none 0 0]) rfl kr kr kr rfl (ones rfl) HS114 kr ?_)
 intro W117 HS118
 refine kB (Sg.g0 (Sx.of [[(b112, .cells #[.int .i64 (w64 (shr (rd b1 0) 4)), .int .i64 (w64 (Go.bits .and .u8 (rd b1 0) 15)), .int .i64 (Go.bits .or .i64 (w64 ((w64 ((rd b1 1))) * 2 ^ 8)) (w64 ((rd b1 2)))), .slice none 0 0] 93 (0, 0))]] fL HS118)) fun X119 => ?_
 refine doneG kr ?_ _
 refine hK75 _ _ ?_
 refine wp_seq_k (fun K120 hK121 => ?_)
 have HS123 := HS118.u1.u1
 refine heldG (S := Sg t f41 ([(b7, .cells #[.int .i64 0, .int .i64 0, .int .i64 0, .slice none 0 0] 93 (0, 0))] :: H) [(7, [(b112, .cells #[.int .i64 (w64 (shr (rd b1 0) 4)), .int .i64 (w64 (Go.bits .and .u8 (rd b1 0) 15)), .int .i64 (Go.bits .or .i64 (w64 ((w64 ((rd b1 1))) * 2 ^ 8)) (w64 ((rd b1 2)))), .slice none 0 0] 93 (0, 0))])]) (n := 8) kr rfl HS123 ?_
 intro W124 HS125
 refine gL [0] (fuel := 7) (bA 8 1) rfl kr kr kr hnp (Sg.g1 (Sx.of [[(b112, .cells #[.int .i64 (w64 (shr (rd b1 0) 4)), .int .i64 (w64 (Go.bits .and .u8 (rd b1 0) 15)), .int .i64 (Go.bits .or .i64 (w64 ((w64 ((rd b1 1))) * 2 ^ 8)) (w64 ((rd b1 2)))), .slice none 0 0] 93 (0, 0))]] fL HS125) (fun _ => St.only [] HS125 fL)) fun X126 => ?_
 refine gQs 1 7 rfl kr kr kr kr kr (.head _) kr hnp X126 (fun hl_ hS_ => run_load rfl Try.underlying91 rfl (kv (pV b112 3)) (hS_.cell 3)) fun X127 => ?_
 replace h := guard_some h; obtain ⟨c128, h⟩ := h
 have c128 : 3 ≤ (w64 ((b1.length : Int) - 2)) := c128
 refine gL [2, 3] (fuel := 4) (bA 8 15) rfl kr kr kr hnp X127 fun X129 => ?_
 refine takeGE 4 kr rfl kr (does_cutLH (e := (tInt .u8)) (xs := b1) rfl Try.underlying91 kr (kv (.slice A2 b1.length c3)) (kv (.int .i64 3)) (kv (.int .i64 (w64 ((b1.length : Int) - 2))))  (by decide) c128 c38 HR4 ?_)
 intro A130 c131 HR132
 refine kB (Sg.g1 (Sx.of [[(b112, .cells #[.int .i64 (w64 (shr (rd b1 0) 4)), .int .i64 (w64 (Go.bits .and .u8 (rd b1 0) 15)), .int .i64 (Go.bits .or .i64 (w64 ((w64 ((rd b1 1))) * 2 ^ 8)) (w64 ((rd b1 2)))), .slice none 0 0] 93 (0, 0))]] fL HS125) (fun _ => St.only [] HS125 fL)) fun X133 => ?_
 replace h := guard_some h; obtain ⟨c134, h⟩ := h
 have c134 : (([] : List Int).length + ((b1.take (w64 ((b1.length : Int) - 2)).toNat).drop (3 : Int).toNat).length) * 1 ≤ 140737488355328 := c134
 have HS136 := HS125.cons_nil
 have HO137 : Own (tInt .u8) 5 f41 none 0 [] ([] : List Int) := Own.nil _
 refine takeGE 5 kr rfl kr (does_append (e := (tInt .u8)) (E := 5) (xs := ([] : List Int)) (ys := ((b1.take (w64 ((b1.length : Int) - 2)).toNat).drop (3 : Int).toNat)) rfl (kv (.slice none ([] : List Int).length 0)) (kv (.slice A130 ((b1.take (w64 ((b1.length : Int) - 2)).toNat).drop (3 : Int).toNat).length c131)) Try.underlying91 inf5 HO137 HS136 ((HR132.mono L42).rc HS136) c134 (lim63 c134 (by decide)) ?_)
 intro A138 c139 s140 W141 HS142 HO143
 refine kB (Sg.g1 (Sx.of [s140, [(b112, .cells #[.int .i64 (w64 (shr (rd b1 0) 4)), .int .i64 (w64 (Go.bits .and .u8 (rd b1 0) 15)), .int .i64 (Go.bits .or .i64 (w64 ((w64 ((rd b1 1))) * 2 ^ 8)) (w64 ((rd b1 2)))), .slice none 0 0] 93 (0, 0))]] fL HS142) (fun _ => St.only [s140] HS142 fL)) fun X144 => ?_
 refine gL [6] (fuel := 1) (bA 8 127) rfl kr kr kr hnp X144 fun X145 => ?_
 have HS146 := HS142.u1
 refine takeGE 7 kr rfl kr (does_store (n := 1) (vs := [.slice A138 (([] : List Int) ++ ((b1.take (w64 ((b1.length : Int) - 2)).toNat).drop (3 : Int).toNat)).length c139]) (cs' := #[.int .i64 (w64 (shr (rd b1 0) 4)), .int .i64 (w64 (Go.bits .and .u8 (rd b1 0) 15)), .int .i64 (Go.bits .or .i64 (w64 ((w64 ((rd b1 1))) * 2 ^ 8)) (w64 ((rd b1 2)))), .slice A138 (([] : List Int) ++ ((b1.take (w64 ((b1.length : Int) - 2)).toNat).drop (3 : Int).toNat)).length c139]) rfl kr (kv (pV b112 3)) (kv (.slice A138 (([] : List Int) ++ ((b1.take (w64 ((b1.length : Int) - 2)).toNat).drop (3 : Int).toNat)).length c139)) rfl rfl (ones rfl) HS146 (Nat.le_of_ble_eq_true rfl) kr ?_)
 intro W147 HS148
 refine kB (Sg.g1 (Sx.of [[(b112, .cells #[.int .i64 (w64 (shr (rd b1 0) 4)), .int .i64 (w64 (Go.bits .and .u8 (rd b1 0) 15)), .int .i64 (Go.bits .or .i64 (w64 ((w64 ((rd b1 1))) * 2 ^ 8)) (w64 ((rd b1 2)))), .slice A138 (([] : List Int) ++ ((b1.take (w64 ((b1.length : Int) - 2)).toNat).drop (3 : Int).toNat)).length c139] 93 (0, 0))], s140] fL HS148) (fun hl_ => Bool.noConfusion (show true = false from hl_))) fun X149 => ?_
 refine doneG kr ?_ _
 refine hK121 _ _ ?_
 refine wp_seq_k fun K150 hK151 => rl ?_
 refine seqK rfl (does_run (run_loadN (n := 4) rfl Try.underlying93 rfl kr (kv (pV b112 0)) (cs := [.int .i64 (w64 (shr (rd b1 0) 4)), .int .i64 (w64 (Go.bits .and .u8 (rd b1 0) 15)), .int .i64 (Go.bits .or .i64 (w64 ((w64 ((rd b1 1))) * 2 ^ 8)) (w64 ((rd b1 2)))), .slice A138 (([] : List Int) ++ ((b1.take (w64 ((b1.length : Int) - 2)).toNat).drop (3 : Int).toNat)).length c139]) rfl (HS148.cells 0 4 _ rfl)) ?_)
 have HS152 := HS148.u2
 refine seqK rfl (does_storeA (vs := [.int .i64 (w64 (shr (rd b1 0) 4)), .int .i64 (w64 (Go.bits .and .u8 (rd b1 0) 15)), .int .i64 (Go.bits .or .i64 (w64 ((w64 ((rd b1 1))) * 2 ^ 8)) (w64 ((rd b1 2)))), .slice A138 (([] : List Int) ++ ((b1.take (w64 ((b1.length : Int) - 2)).toNat).drop (3 : Int).toNat)).length c139]) rfl kr kr kr rfl (ones rfl) HS152 kr ?_)
 intro W153 HS154
 refine seqL1 kr ?_
 refine nl (hK151 _ _ ?_)
 refine wp_ret ?_
 refine hret _ _ ?_
 refine ends (v := Value.tuple #[.agg #[.int .i64 (w64 (shr (rd b1 0) 4)), .int .i64 (w64 (Go.bits .and .u8 (rd b1 0) 15)), .int .i64 (Go.bits .or .i64 (w64 ((w64 ((rd b1 1))) * 2 ^ 8)) (w64 ((rd b1 2)))), .slice A138 (([] : List Int) ++ ((b1.take (w64 ((b1.length : Int) - 2)).toNat).drop (3 : Int).toNat)).length c139], .int .i64 0]) (results2 (q1 := .cell 2 93) (q2 := .tmp 3) kr (resN (n := 4) (cs := [.int .i64 (w64 (shr (rd b1 0) 4)), .int .i64 (w64 (Go.bits .and .u8 (rd b1 0) 15)), .int .i64 (Go.bits .or .i64 (w64 ((w64 ((rd b1 1))) * 2 ^ 8)) (w64 ((rd b1 2)))), .slice A138 (([] : List Int) ++ ((b1.take (w64 ((b1.length : Int) - 2)).toNat).drop (3 : Int).toNat)).length c139]) (kv (pV b7 0)) Try.underlying93 rfl kr rfl (HS154.cells 0 4 _ rfl)) (resT (kv (.int .i64 0)))) kr ?_
 have HS171 := HS154.drop
 have HS172 := HS171.drop
 injection h with h
 injection h with h0_ h
 subst h0_ h
 exact ⟨f41, A138, c139, s140, rfl, L42, HS172, HO143⟩

set_option maxRecDepth 100000 in
set_option maxHeartbeats 4000000 in
theorem bus_Reader_flag.calls (k : Nat) (b1 : Nat) (A4 : Option Addr) (c5 : Nat) (s6 : Seg) (r3 : S_Reader) {t w : World} {f : FM} {H : List Seg} (HS : St t w f ([(b1, .cells #[.slice A4 r3.body.length c5, .bool r3.escape, .bool r3.skip, .bool r3.vopen, .int .i64 r3.Bad] 146 (0, 0))] :: s6 :: H)) (HO7 : Own (tInt .u8) 5 f A4 c5 s6 r3.body) (rr1 : S_Packet) (rr2 : Bool) (rr3 : List Int) (rr4 : Bool) (rr5 : Bool) (rr6 : Bool) (rr7 : Int) (h : bus_Reader_flag k r3 = some (rr1, rr2, rr3, rr4, rr5, rr6, rr7)) :
    Calls Try.prog 78 #[pV b1 0] w (fun e w' => ∃ (g : FM) (A189 : Option Addr) (c190 : Nat) (s191 : Seg) (A192 : Option Addr) (c193 : Nat) (s194 : Seg), e = .returned (Value.tuple #[.agg #[.int .i64 rr1.Addr, .int .i64 rr1.Kind, .int .i64 rr1.Seq, .slice A189 rr1.Data.length c190], .bool rr2]) ∧ FM.le f g ∧ St t w' g (s191 :: s194 :: [(b1, .cells #[.slice A192 rr3.length c193, .bool rr4, .bool rr5, .bool rr6, .int .i64 rr7] 146 (0, 0))] :: H) ∧ Own (tInt .u8) 5 g A189 c190 s191 rr1.Data ∧ Own (tInt .u8) 5 g A192 c193 s194 rr3) := by
 unfold bus_Reader_flag at h
 refine enter Try.func78 rfl (tm := ⟨[pV b1 0] ++ (un 60 [])⟩) kr ?_
 intro B hret hnor hnp
 refine wp_seq_k fun K9 hK10 => rl ?_
 refine seqK rfl (does_alloc (z := Value.agg #[.int .i64 0, .int .i64 0, .int .i64 0, .slice none 0 0]) (cs := #[.int .i64 0, .int .i64 0, .int .i64 0, .slice none 0 0]) rfl kr rfl HS ?_)
 intro b11 W12 HS13
 refine seqL1 kr ?_
 refine nl (hK10 _ _ ?_)
 refine wp_seq_k (fun K15 hK16 => ?_)
 replace h := bind_some h; obtain ⟨v17, hv45, h⟩ := h
 have J46 : ∀ (f34 : FM) (s40 : Seg) (body39 : List Int) (bad43 : Bool) (empty44 : Bool) (j38 : Nat → Value) (W36 : World) (a_ : Act), FM.le f f34 → some ((body39, bad43, empty44)) = some v17 → St t W36 f34 ([(b11, .cells #[.int .i64 0, .int .i64 0, .int .i64 0, .slice none 0 0] 93 (0, 0))] :: [(b1, .cells #[.slice A4 r3.body.length c5, .bool r3.escape, .bool r3.skip, .bool r3.vopen, .int .i64 r3.Bad] 146 (0, 0))] :: s40 :: H) → Own (tInt .u8) 5 f34 A4 c5 s40 body39 → body39.length = r3.body.length → a_ = ⟨⟨[pV b1 0, uV, pV b11 0, fV, .slice A4 body39.length c5, .bool bad43, .bool empty44, uV, uV] ++ (jr j38 0 20 (un 32 []))⟩, []⟩ → K15 a_ W36 := by
  intro f34 s40 body39 bad43 empty44 j38 W36 a_ L35 hj47 HS37 HO41 HL42 hfr_; subst hfr_
  injection hj47 with hj47; subst hj47; try dsimp only at h
  refine hK16 _ _ ?_
  refine wp_seq_k fun K48 hK49 => rl ?_
  refine seqL4 kr ?_
  refine seqK rfl (does_run (run_load rfl Try.underlying3 rfl (kv (pV b1 4)) (HS37.u1.cell 4)) ?_)
  have HS50 := HS37.u1
  refine seqL2 kr ?_
  refine seqK rfl (does_storeA (vs := [.slice none 0 0, .bool false, .bool false, .bool true, .int .i64 r3.Bad]) rfl kr kr kr rfl (ones rfl) HS50 kr ?_)
  intro W51 HS52
  refine nl (hK49 _ _ ?_)
  refine wp_seq_k (fun K53 hK54 => ?_)
  refine wp_seq_k (fun K55 hK56 => ?_)
  replace h := bind_some h; obtain ⟨v57, hv65, h⟩ := h
  have J66 : ∀ (f59 : FM) (x64 : Bool) (j63 : Nat → Value) (W61 : World) (a_ : Act), FM.le f34 f59 → some (x64) = some v57 → St t W61 f59 ([(b1, .cells #[.slice none 0 0, .bool false, .bool false, .bool true, .int .i64 r3.Bad] 146 (0, 0))] :: [(b11, .cells #[.int .i64 0, .int .i64 0, .int .i64 0, .slice none 0 0] 93 (0, 0))] :: s40 :: H) → a_ = ⟨⟨[pV b1 0, uV, pV b11 0, fV, .slice A4 body39.length c5, .bool bad43, .bool empty44, uV, uV] ++ (jr j38 0 20 ([pV b1 0, pV b1 0, pV b1 0, pV b1 4, iV r3.Bad, .agg #[.slice none 0 0, fV, fV, tV, iV r3.Bad], pV b1 0] ++ (jr j63 0 4 ([.bool x64] ++ (un 20 [])))))⟩, []⟩ → K55 a_ W61 := by
   intro f59 x64 j63 W61 a_ L60 hj67 HS62  hfr_; subst hfr_
   injection hj67 with hj67; subst hj67; try dsimp only at h
   refine hK56 _ _ ?_
   replace h := ite_some h; rcases h with ⟨c69, h⟩ | ⟨c69, h⟩
   · have c69 : x64 = true := c69
     refine wpRwI 40 kr c69 ?_
     refine condT kr ?_
     refine wp_seq_k fun K70 hK71 => rl ?_
     have HS72 := HS62.u1
     refine seqL1 kr ?_
     refine seqK rfl (does_storeA (vs := [.int .i64 0, .int .i64 0, .int .i64 0, .slice none 0 0]) rfl kr kr kr rfl (ones rfl) HS72 kr ?_)
     intro W73 HS74
     refine seqL1 kr ?_
     refine nl (hK71 _ _ ?_)
     refine wp_ret ?_
     refine hret _ _ ?_
     have HS137 := HS74.cons_nil
     have HS139 := HS137.cons_nil
     refine ends (v := Value.tuple #[.agg #[.int .i64 0, .int .i64 0, .int .i64 0, .slice none 0 0], .bool false]) (results2 (q1 := .cell 2 93) (q2 := .tmp 3) kr (resN (n := 4) (cs := [.int .i64 0, .int .i64 0, .int .i64 0, .slice none 0 0]) (kv (pV b11 0)) Try.underlying93 rfl kr rfl (HS139.u2.cells 0 4 _ rfl)) (resT (kv (.bool false)))) kr ?_
     have HS145 := HS139.u3.u1.u2.u4.u4
     have HS146 := HS145.drop
     have HS147 := HS146.drop
     injection h with h
     injection h with h0_ h
     injection h with h1_ h
     injection h with h2_ h
     injection h with h3_ h
     injection h with h4_ h
     injection h with h5_ h
     subst h0_ h1_ h2_ h3_ h4_ h5_ h
     exact ⟨f59, none, 0, [], none, 0, [], rfl, (L35.trans L60), HS147, (Own.nil _), (Own.nil _)⟩
   have c69 : ¬ (x64 = true) := c69
   refine wpRwI 40 kr (Bool.eq_false_iff.mpr c69) ?_
   refine condF kr ?_
   refine wp_skip ?_
   refine hK54 _ _ ?_
   refine wp_seq_k fun K75 hK76 => rl ?_
   have HS77 := HS62.u2
   obtain ⟨f78, L79, HS80, HR81, th82⟩ := (HO41.mono L60).lend HS77
   replace h := bind_some h; obtain ⟨⟨vt83, vt84⟩, hc85, h⟩ := h
   refine seqL1 kr ?_
   refine seqK rfl (does_call kr (bus_Parse.calls k A4 c5 body39 HS80 HR81 vt83 vt84 hc85) ?_)
   rintro _ W88 ⟨f86, A90, c91, s92, rfl, L87, HS89, HO93⟩
   refine ⟨_, rfl, ?_⟩
   obtain ⟨f95, L96, HS97⟩ := th82 L87 HS89
   replace HO93 := HO93.flat (g := f95) (fun _ _ _ _ h_ => h_)
   refine seqL3 kr ?_
   refine seqK rfl (does_alloc (z := Value.agg #[.int .i64 0, .int .i64 0, .int .i64 0, .slice none 0 0]) (cs := #[.int .i64 0, .int .i64 0, .int .i64 0, .slice none 0 0]) rfl kr rfl HS97 ?_)
   intro b98 W99 HS100
   refine seqK rfl (does_storeA (vs := [.int .i64 vt83.Addr, .int .i64 vt83.Kind, .int .i64 vt83.Seq, .slice A90 vt83.Data.length c91]) rfl kr kr kr rfl (ones rfl) HS100 kr ?_)
   intro W102 HS103
   refine seqL1 kr ?_
   refine nl (hK76 _ _ ?_)
   refine wp_seq_k (fun K104 hK105 => ?_)
   refine wp_seq_k fun K106 hK107 => rl ?_
   refine seqL2 kr ?_
   replace h := ite_some h; rcases h with ⟨c109, h⟩ | ⟨c109, h⟩
   · have c109 : bad43 = true := c109
     refine seqRwI 5 kr c109 ?_
     refine seqRwI 47 kr c109 ?_
     refine seqRwI 48 kr c109 ?_
     refine seqL3 kr ?_
     refine nl (hK107 _ _ ?_)
     refine condT kr ?_
     refine wp_seq_k fun K110 hK111 => rl ?_
     refine seqL3 kr ?_
     refine seqK rfl (does_run (run_load rfl Try.underlying3 rfl (kv (pV b1 4)) (HS103.u3.cell 4)) ?_)
     have HS112 := HS103.u3
     refine seqL3 kr ?_
     refine seqK rfl (does_store (n := 1) (vs := [.int .i64 (w64 (r3.Bad + 1))]) (cs' := #[.slice none 0 0, .bool false, .bool false, .bool true, .int .i64 (w64 (r3.Bad + 1))]) rfl kr (kv (pV b1 4)) (kv (.int .i64 (w64 (r3.Bad + 1)))) rfl rfl (ones rfl) HS112 (Nat.le_of_ble_eq_true rfl) kr ?_)
     intro W113 HS114
     refine nl (hK111 _ _ ?_)
     refine wp_seq_k fun K115 hK116 => rl ?_
     have HS117 := HS114.u4
     refine seqL1 kr ?_
     refine seqK rfl (does_storeA (vs := [.int .i64 0, .int .i64 0, .int .i64 0, .slice none 0 0]) rfl kr kr kr rfl (ones rfl) HS117 kr ?_)
     intro W118 HS119
     refine seqL1 kr ?_
     refine nl (hK116 _ _ ?_)
     refine wp_ret ?_
     refine hret _ _ ?_
     have HS148 := HS119.cons_nil
     have HS150 := HS148.cons_nil
     refine ends (v := Value.tuple #[.agg #[.int .i64 0, .int .i64 0, .int .i64 0, .slice none 0 0], .bool false]) (results2 (q1 := .cell 2 93) (q2 := .tmp 3) kr (resN (n := 4) (cs := [.int .i64 0, .int .i64 0, .int .i64 0, .slice none 0 0]) (kv (pV b11 0)) Try.underlying93 rfl kr rfl (HS150.u2.cells 0 4 _ rfl)) (resT (kv (.bool false)))) kr ?_
     have HS158 := HS150.u3.u1.u2.u6.u6.u6.u6
     have HS159 := HS158.drop
     have HS160 := HS159.drop
     have HS161 := HS160.drop
     have HS162 := HS161.drop
     injection h with h
     injection h with h0_ h
     injection h with h1_ h
     injection h with h2_ h
     injection h with h3_ h
     injection h with h4_ h
     injection h with h5_ h
     subst h0_ h1_ h2_ h3_ h4_ h5_ h
     exact ⟨f95, none, 0, [], none, 0, [], rfl, (L35.trans (L60.trans L96)), HS162, (Own.nil _), (Own.nil _)⟩
   have c109 : ¬ (bad43 = true) := c109
   refine seqRwI 5 kr (Bool.eq_false_iff.mpr c109) ?_
   refine seqRwI 47 kr (Bool.eq_false_iff.mpr c109) ?_
   refine seqRwI 48 kr (Bool.eq_false_iff.mpr c109) ?_
   refine seqL3 kr ?_
   refine nl (hK107 _ _ ?_)
   replace h := ite_some h; rcases h with ⟨c121, h⟩ | ⟨c121, h⟩
   rotate_left
   · have c121 : ¬ (vt84 ≠ 0) := c121
     refine wpRwI 50 (x := (vt84 != 0)) (v := false) kr (bne_eq_false_iff_eq.mpr (Decidable.of_not_not c121)) ?_
     refine wpRwI 51 (x := (vt84 != 0)) (v := false) kr (bne_eq_false_iff_eq.mpr (Decidable.of_not_not c121)) ?_
     refine condF kr ?_
     refine wp_skip ?_
     refine hK105 _ _ ?_
     refine wp_seq_k fun K132 hK133 => rl ?_
     refine seqK rfl (does_run (run_loadN (n := 4) rfl Try.underlying93 rfl kr (kv (pV b98 0)) (cs := [.int .i64 vt83.Addr, .int .i64 vt83.Kind, .int .i64 vt83.Seq, .slice A90 vt83.Data.length c91]) rfl (HS103.cells 0 4 _ rfl)) ?_)
     have HS134 := HS103.u4
     refine seqK rfl (does_storeA (vs := [.int .i64 vt83.Addr, .int .i64 vt83.Kind, .int .i64 vt83.Seq, .slice A90 vt83.Data.length c91]) rfl kr kr kr rfl (ones rfl) HS134 kr ?_)
     intro W135 HS136
     refine seqL1 kr ?_
     refine nl (hK133 _ _ ?_)
     refine wp_ret ?_
     refine hret _ _ ?_
     have HS178 := HS136.cons_nil
     refine ends (v := Value.tuple #[.agg #[.int .i64 vt83.Addr, .int .i64 vt83.Kind, .int .i64 vt83.Seq, .slice A90 vt83.Data.length c91], .bool true]) (results2 (q1 := .cell 2 93) (q2 := .tmp 3) kr (resN (n := 4) (cs := [.int .i64 vt83.Addr, .int .i64 vt83.Kind, .int .i64 vt83.Seq, .slice A90 vt83.Data.length c91]) (kv (pV b11 0)) Try.underlying93 rfl kr rfl (HS178.u1.cells 0 4 _ rfl)) (resT (kv (.bool true)))) kr ?_
     have HS185 := HS178.u5.u1.u5.u5.u5.u5
     have HS186 := HS185.drop
     have HS187 := HS186.drop
     have HS188 := HS187.drop
     injection h with h
     injection h with h0_ h
     injection h with h1_ h
     injection h with h2_ h
     injection h with h3_ h
     injection h with h4_ h
     injection h with h5_ h
     subst h0_ h1_ h2_ h3_ h4_ h5_ h
     exact ⟨f95, A90, c91, s92, none, 0, [], rfl, (L35.trans (L60.trans L96)), HS188, HO93, (Own.nil _)⟩
   have c121 : vt84 ≠ 0 := c121
   refine wpRwI 50 kr (bne_iff_ne.mpr c121) ?_
   refine wpRwI 51 kr (bne_iff_ne.mpr c121) ?_
   refine condT kr ?_
   refine wp_seq_k fun K122 hK123 => rl ?_
   refine seqL3 kr ?_
   refine seqK rfl (does_run (run_load rfl Try.underlying3 rfl (kv (pV b1 4)) (HS103.u3.cell 4)) ?_)
   have HS124 := HS103.u3
   refine seqL3 kr ?_
   refine seqK rfl (does_store (n := 1) (vs := [.int .i64 (w64 (r3.Bad + 1))]) (cs' := #[.slice none 0 0, .bool false, .bool false, .bool true, .int .i64 (w64 (r3.Bad + 1))]) rfl kr (kv (pV b1 4)) (kv (.int .i64 (w64 (r3.Bad + 1)))) rfl rfl (ones rfl) HS124 (Nat.le_of_ble_eq_true rfl) kr ?_)
   intro W125 HS126
   refine nl (hK123 _ _ ?_)
   refine wp_seq_k fun K127 hK128 => rl ?_
   have HS129 := HS126.u4
   refine seqL1 kr ?_
   refine seqK rfl (does_storeA (vs := [.int .i64 0, .int .i64 0, .int .i64 0, .slice none 0 0]) rfl kr kr kr rfl (ones rfl) HS129 kr ?_)
   intro W130 HS131
   refine seqL1 kr ?_
   refine nl (hK128 _ _ ?_)
   refine wp_ret ?_
   refine hret _ _ ?_
   have HS163 := HS131.cons_nil
   have HS165 := HS163.cons_nil
   refine ends (v := Value.tuple #[.agg #[.int .i64 0, .int .i64 0, .int .i64 0, .slice none 0 0], .bool false]) (results2 (q1 := .cell 2 93) (q2 := .tmp 3) kr (resN (n := 4) (cs := [.int .i64 0, .int .i64 0, .int .i64 0, .slice none 0 0]) (kv (pV b11 0)) Try.underlying93 rfl kr rfl (HS165.u2.cells 0 4 _ rfl)) (resT (kv (.bool false)))) kr ?_
   have HS173 := HS165.u3.u1.u2.u6.u6.u6.u6
   have HS174 := HS173.drop
   have HS175 := HS174.drop
   have HS176 := HS175.drop
   have HS177 := HS176.drop
   injection h with h
   injection h with h0_ h
   injection h with h1_ h
   injection h with h2_ h
   injection h with h3_ h
   injection h with h4_ h
   injection h with h5_ h
   subst h0_ h1_ h2_ h3_ h4_ h5_ h
   exact ⟨f95, none, 0, [], none, 0, [], rfl, (L35.trans (L60.trans L96)), HS177, (Own.nil _), (Own.nil _)⟩
  clear h; have h := hv65; clear hv65
  refine rl ?_
  refine seqL2 kr ?_
  replace h := ite_some h; rcases h with ⟨c58, h⟩ | ⟨c58, h⟩
  · have c58 : empty44 = true := c58
    refine seqRwI 6 kr c58 ?_
    refine seqRwI 36 kr c58 ?_
    refine seqRwI 37 kr c58 ?_
    refine seqL3 kr ?_
    refine nl ?_
    refine fnRwI (F := K55) 6 (x := true) (v := empty44) kr (Eq.symm c58) ?_
    exact J66 f34 (!bad43) (jL [tV, tV, .bool bad43, .bool (!bad43)]) W51 _ fL h HS52 kr
  have c58 : ¬ (empty44 = true) := c58
  refine seqRwI 6 kr (Bool.eq_false_iff.mpr c58) ?_
  refine seqRwI 36 kr (Bool.eq_false_iff.mpr c58) ?_
  refine seqRwI 37 kr (Bool.eq_false_iff.mpr c58) ?_
  refine seqL3 kr ?_
  refine nl ?_
  refine fnRwI (F := K55) 6 (x := false) (v := empty44) kr (Eq.symm (Bool.eq_false_iff.mpr c58)) ?_
  exact J66 f34 false (jL [fV, fV]) W51 _ fL h HS52 kr
 clear h; have h := hv45; clear hv45
 refine heldG (S := Sg t f ([(b11, .cells #[.int .i64 0, .int .i64 0, .int .i64 0, .slice none 0 0] 93 (0, 0))] :: [(b1, .cells #[.slice A4 r3.body.length c5, .bool r3.escape, .bool r3.skip, .bool r3.vopen, .int .i64 r3.Bad] 146 (0, 0))] :: s6 :: H) []) (n := 23) kr rfl HS13 ?_
 intro W18 HS19
 refine gL [0, 1, 2] (fuel := 20) (bA 23 7) rfl kr kr kr hnp (Sg.g0 (Sx.of [] fL HS19)) fun X20 => ?_
 refine gQ 3 rfl kr kr kr kr kr hnp X20 (fun hl_ hS_ => run_load rfl Try.underlying91 rfl (kv (pV b1 0)) (hS_.u1.cell 0)) fun X21 => ?_
 refine gL [4, 5, 6] (fuel := 16) (bA 23 127) rfl kr kr kr hnp X21 fun X22 => ?_
 refine gQ 7 rfl kr kr kr kr kr hnp X22 (fun hl_ hS_ => run_load rfl Try.underlying4 rfl (kv (pV b1 2)) (hS_.u1.cell 2)) fun X23 => ?_
 refine gL [8] (fuel := 14) (bA 23 511) rfl kr kr kr hnp X23 fun X24 => ?_
 replace h := ite_some h; rcases h with ⟨c25, h⟩ | ⟨c25, h⟩
 · have c25 : r3.skip = true := c25
   refine gateRwI 16 (x := r3.skip) (v := true) kr c25 ?_
   refine gateRwI 17 (x := r3.skip) (v := true) kr c25 ?_
   refine gL [9, 10, 11, 12, 13, 14, 15, 16] (fuel := 6) (bA 23 131071) rfl kr kr kr hnp X24 fun X26 => ?_
   refine gQ 17 rfl kr kr kr kr kr hnp X26 (fun hl_ hS_ => run_load rfl Try.underlying91 rfl (kv (pV b1 0)) (hS_.u1.cell 0)) fun X27 => ?_
   refine gL [18, 19, 20, 21, 22] (fuel := 0) (bA 23 8388607) rfl kr kr kr hnp X27 fun X28 => ?_
   refine doneG kr ?_ _
   exact J46 f s6 r3.body true ((r3.body.length : Int) == 0) (jL [pV b1 0, pV b1 0, pV b1 0, .slice A4 r3.body.length c5, pV b1 0, pV b1 0, pV b1 2, tV, tV, uV, uV, uV, uV, tV, pV b1 0, pV b1 0, pV b1 0, .slice A4 r3.body.length c5, iV (r3.body.length : Int), .bool ((r3.body.length : Int) == 0)]) W18 _ fL h HS19 HO7 rfl kr
 have c25 : ¬ (r3.skip = true) := c25
 refine gateRwI 16 (x := r3.skip) (v := false) kr (Bool.eq_false_iff.mpr c25) ?_
 refine gateRwI 17 (x := r3.skip) (v := false) kr (Bool.eq_false_iff.mpr c25) ?_
 refine gL [9, 10, 11] (fuel := 11) (bA 23 4095) rfl kr kr kr hnp X24 fun X29 => ?_
 refine gQ 12 rfl kr kr kr kr kr hnp X29 (fun hl_ hS_ => run_load rfl Try.underlying4 rfl (kv (pV b1 1)) (hS_.u1.cell 1)) fun X30 => ?_
 refine gL [13, 14, 15, 16] (fuel := 6) (bA 23 131071) rfl kr kr kr hnp X30 fun X31 => ?_
 refine gQ 17 rfl kr kr kr kr kr hnp X31 (fun hl_ hS_ => run_load rfl Try.underlying91 rfl (kv (pV b1 0)) (hS_.u1.cell 0)) fun X32 => ?_
 refine gL [18, 19, 20, 21, 22] (fuel := 0) (bA 23 8388607) rfl kr kr kr hnp X32 fun X33 => ?_
 refine doneG kr ?_ _
 exact J46 f s6 r3.body r3.escape ((r3.body.length : Int) == 0) (jL [pV b1 0, pV b1 0, pV b1 0, .slice A4 r3.body.length c5, pV b1 0, pV b1 0, pV b1 2, fV, fV, pV b1 0, pV b1 0, pV b1 1, .bool r3.escape, .bool r3.escape, pV b1 0, pV b1 0, pV b1 0, .slice A4 r3.body.length c5, iV (r3.body.length : Int), .bool ((r3.body.length : Int) == 0)]) W18 _ fL h HS19 HO7 rfl kr

set_option maxRecDepth 100000 in
set_option maxHeartbeats 4000000 in
theorem bus_Reader_put.calls (k : Nat) (b1 : Nat) (A4 : Option Addr) (c5 : Nat) (s6 : Seg) (r3 : S_Reader) (x9 : Int) {t w : World} {f : FM} {H : List Seg} (HS : St t w f ([(b1, .cells #[.slice A4 r3.body.length c5, .bool r3.escape, .bool r3.skip, .bool r3.vopen, .int .i64 r3.Bad] 146 (0, 0))] :: s6 :: H)) (HO7 : Own (tInt .u8) 5 f A4 c5 s6 r3.body) (rr1 : List Int) (rr2 : Bool) (h : bus_Reader_put k r3 x9 = some (rr1, rr2)) :
    Calls Try.prog 79 #[pV b1 0, .int .u8 x9] w (fun e w' => ∃ (g : FM) (A40 : Option Addr) (c41 : Nat) (s42 : Seg), e = .returned (Value.tuple #[]) ∧ FM.le f g ∧ St t w' g (s42 :: [(b1, .cells #[.slice A40 rr1.length c41, .bool r3.escape, .bool rr2, .bool r3.vopen, .int .i64 r3.Bad] 146 (0, 0))] :: H) ∧ Own (tInt .u8) 5 g A40 c41 s42 rr1) := by
 unfold bus_Reader_put at h
 refine enter Try.func79 rfl (tm := ⟨[pV b1 0, .int .u8 x9] ++ (un 21 [])⟩) kr ?_
 intro B hret hnor hnp
 refine wp_seq_k (fun K10 hK11 => ?_)
 refine wp_seq_k fun K12 hK13 => rl ?_
 refine seqL3 kr ?_
 refine seqK rfl (does_run (run_load rfl Try.underlying91 rfl (kv (pV b1 0)) (HS.cell 0)) ?_)
 refine seqL2 kr ?_
 refine nl (hK13 _ _ ?_)
 replace h := ite_some h; rcases h with ⟨c15, h⟩ | ⟨c15, h⟩
 · have c15 : (r3.body.length : Int) = 21 := c15
   refine wpRwI 9 kr (beq_iff_eq.mpr c15) ?_
   refine condT kr ?_
   refine wp_seq_k fun K16 hK17 => rl ?_
   refine seqL3 kr ?_
   refine seqK rfl (does_store (n := 1) (vs := [.bool true]) (cs' := #[.slice A4 r3.body.length c5, .bool r3.escape, .bool true, .bool r3.vopen, .int .i64 r3.Bad]) rfl kr (kv (pV b1 2)) (kv (.bool true)) rfl rfl (ones rfl) HS (Nat.le_of_ble_eq_true rfl) kr ?_)
   intro W18 HS19
   refine nl (hK17 _ _ ?_)
   refine wp_ret ?_
   refine hret _ _ ?_
   refine ends_still (v := Value.tuple #[]) kr kr ?_
   have HS38 := HS19.u1
   injection h with h
   injection h with h0_ h
   subst h0_ h
   exact ⟨f, A4, c5, s6, rfl, FM.le.refl _, HS38, HO7⟩
 have c15 : ¬ ((r3.body.length : Int) = 21) := c15
 refine wpRwI 9 kr (beq_eq_false_iff_ne.mpr c15) ?_
 refine condF kr ?_
 refine wp_skip ?_
 refine hK11 _ _ ?_
 refine rl ?_
 refine seqL4 kr ?_
 refine seqK rfl (does_run (run_load rfl Try.underlying91 rfl (kv (pV b1 0)) (HS.cell 0)) ?_)
 refine seqL1 kr ?_
 refine seqK rfl (does_lit (e := (tInt .u8)) (E := 5) (vs := #[(0, Value.int .u8 x9)]) (cs := #[.int .u8 x9]) (xs := ([x9] : List Int)) rfl Try.underlying91 kr kr ⟨[.int .u8 x9], _, rfl, rfl, rfl⟩ rfl HS ?_ (by decide))
 intro b20 W21 s22 HS23 _ HO24
 replace h := guard_some h; obtain ⟨c26, h⟩ := h
 have c26 : (r3.body.length + 1) * 1 ≤ 140737488355328 := c26
 have HS28 := HS23.u2.u1
 refine seqK rfl (does_append1 (e := (tInt .u8)) (E := 5) (xs := r3.body) (ys := ([x9] : List Int)) rfl (kv (.slice A4 r3.body.length c5)) (kv (.slice (some ⟨b20, 0, none⟩) ([x9] : List Int).length 1)) Try.underlying91 inf5 HO7 HO24 HS28 c26 (lim63 c26 (by decide)) ?_)
 intro A29 c30 s31 W32 HS33 HO34
 have HS35 := HS33.u1
 refine seqL2 kr ?_
 refine seqK rfl (does_store (n := 1) (vs := [.slice A29 (r3.body ++ ([x9] : List Int)).length c30]) (cs' := #[.slice A29 (r3.body ++ ([x9] : List Int)).length c30, .bool r3.escape, .bool r3.skip, .bool r3.vopen, .int .i64 r3.Bad]) rfl kr (kv (pV b1 0)) (kv (.slice A29 (r3.body ++ ([x9] : List Int)).length c30)) rfl rfl (ones rfl) HS35 (Nat.le_of_ble_eq_true rfl) kr ?_)
 intro W36 HS37
 refine nl ?_
 refine hnor _ _ ?_
 refine ends_still (v := Value.tuple #[]) kr kr ?_
 have HS39 := HS37.u1
 injection h with h
 injection h with h0_ h
 subst h0_ h
 exact ⟨f, A29, c30, s31, rfl, FM.le.refl _, HS39, HO34⟩

set_option maxRecDepth 100000 in
set_option maxHeartbeats 4000000 in
theorem bus_Reader_Feed.calls (k : Nat) (b1 : Nat) (A4 : Option Addr) (c5 : Nat) (s6 : Seg) (r3 : S_Reader) (x9 : Int) {t w : World} {f : FM} {H : List Seg} (HS : St t w f ([(b1, .cells #[.slice A4 r3.body.length c5, .bool r3.escape, .bool r3.skip, .bool r3.vopen, .int .i64 r3.Bad] 146 (0, 0))] :: s6 :: H)) (HO7 : Own (tInt .u8) 5 f A4 c5 s6 r3.body) (rr1 : S_Packet) (rr2 : Bool) (rr3 : List Int) (rr4 : Bool) (rr5 : Bool) (rr6 : Bool) (rr7 : Int) (h : bus_Reader_Feed k r3 x9 = some (rr1, rr2, rr3, rr4, rr5, rr6, rr7)) :
    Calls Try.prog 64 #[pV b1 0, .int .u8 x9] w (fun e w' => ∃ (g : FM) (A198 : Option Addr) (c199 : Nat) (s200 : Seg) (A201 : Option Addr) (c202 : Nat) (s203 : Seg), e = .returned (Value.tuple #[.agg #[.int .i64 rr1.Addr, .int .i64 rr1.Kind, .int .i64 rr1.Seq, .slice A198 rr1.Data.length c199], .bool rr2]) ∧ FM.le f g ∧ St t w' g (s200 :: s203 :: [(b1, .cells #[.slice A201 rr3.length c202, .bool rr4, .bool rr5, .bool rr6, .int .i64 rr7] 146 (0, 0))] :: H) ∧ Own (tInt .u8) 5 g A198 c199 s200 rr1.Data ∧ Own (tInt .u8) 5 g A201 c202 s203 rr3) := by
 unfold bus_Reader_Feed at h
 refine enter Try.func64 rfl (tm := ⟨[pV b1 0, .int .u8 x9] ++ (un 55 [])⟩) kr ?_
 intro B hret hnor hnp
 refine wp_seq_k fun K10 hK11 => rl ?_
 refine seqK rfl (does_alloc (z := Value.agg #[.int .i64 0, .int .i64 0, .int .i64 0, .slice none 0 0]) (cs := #[.int .i64 0, .int .i64 0, .int .i64 0, .slice none 0 0]) rfl kr rfl HS ?_)
 intro b12 W13 HS14
 refine seqL1 kr ?_
 refine nl (hK11 _ _ ?_)
 refine wp_seq_k (fun K16 hK17 => ?_)
 refine wp_seq_k fun K18 hK19 => rl ?_
 refine seqL2 kr ?_
 refine nl (hK19 _ _ ?_)
 replace h := ite_some h; rcases h with ⟨c21, h⟩ | ⟨c21, h⟩
 · have c21 : x9 = 126 := c21
   refine wpRwI 8 kr (beq_iff_eq.mpr c21) ?_
   refine condT kr ?_
   refine wp_seq_k fun K22 hK23 => rl ?_
   have HS25 := HS14.u2.u2
   replace h := bind_some h; obtain ⟨⟨vt26, vt27, vt28, vt29, vt30, vt31, vt32⟩, hc33, h⟩ := h
   refine seqL1 kr ?_
   refine seqK rfl (does_call kr (bus_Reader_flag.calls k b1 A4 c5 s6 r3 HS25 HO7 vt26 vt27 vt28 vt29 vt30 vt31 vt32 hc33) ?_)
   rintro _ W36 ⟨f34, A38, c39, s40, A43, c44, s45, rfl, L35, HS37, HO41, HO46⟩
   refine ⟨_, rfl, ?_⟩
   have HS48 := HS37.u3
   refine seqL2 kr ?_
   refine seqK rfl (does_storeA (vs := [.int .i64 vt26.Addr, .int .i64 vt26.Kind, .int .i64 vt26.Seq, .slice A38 vt26.Data.length c39]) rfl kr kr kr rfl (ones rfl) HS48 kr ?_)
   intro W49 HS50
   refine seqL1 kr ?_
   refine nl (hK23 _ _ ?_)
   refine wp_ret ?_
   refine hret _ _ ?_
   refine ends (v := Value.tuple #[.agg #[.int .i64 vt26.Addr, .int .i64 vt26.Kind, .int .i64 vt26.Seq, .slice A38 vt26.Data.length c39], .bool vt27]) (results2 (q1 := .cell 4 93) (q2 := .tmp 5) kr (resN (n := 4) (cs := [.int .i64 vt26.Addr, .int .i64 vt26.Kind, .int .i64 vt26.Seq, .slice A38 vt26.Data.length c39]) (kv (pV b12 0)) Try.underlying93 rfl kr rfl (HS50.cells 0 4 _ rfl)) (resT (kv (.bool vt27)))) kr ?_
   have HS162 := HS50.drop
   injection h with h
   injection h with h0_ h
   injection h with h1_ h
   injection h with h2_ h
   injection h with h3_ h
   injection h with h4_ h
   injection h with h5_ h
   subst h0_ h1_ h2_ h3_ h4_ h5_ h
   exact ⟨f34, A38, c39, s40, A43, c44, s45, rfl, L35, HS162, HO41, HO46⟩
 have c21 : ¬ (x9 = 126) := c21
 refine wpRwI 8 kr (beq_eq_false_iff_ne.mpr c21) ?_
 refine condF kr ?_
 refine wp_skip ?_
 refine hK17 _ _ ?_
 refine wp_seq_k (fun K51 hK52 => ?_)
 refine blockK (fun B53 hx54 hn55 hr56 ho57 hp58 => ?_)
 refine wp_seq_k (fun K60 hK61 => ?_)
 replace h := bind_some h; obtain ⟨v62, hv70, h⟩ := h
 have J71 : ∀ (f64 : FM) (x69 : Bool) (j68 : Nat → Value) (W66 : World) (a_ : Act), FM.le f f64 → some (x69) = some v62 → St t W66 f64 ([(b12, .cells #[.int .i64 0, .int .i64 0, .int .i64 0, .slice none 0 0] 93 (0, 0))] :: [(b1, .cells #[.slice A4 r3.body.length c5, .bool r3.escape, .bool r3.skip, .bool r3.vopen, .int .i64 r3.Bad] 146 (0, 0))] :: s6 :: H) → a_ = ⟨⟨[pV b1 0, .int .u8 x9, uV, uV, pV b12 0, fV, uV, .int .u8 x9, fV] ++ (un 7 ([.bool x69] ++ (jr j68 0 11 (un 29 []))))⟩, []⟩ → K60 a_ W66 := by
  intro f64 x69 j68 W66 a_ L65 hj72 HS67  hfr_; subst hfr_
  injection hj72 with hj72; subst hj72; try dsimp only at h
  refine hK61 _ _ ?_
  replace h := ite_some h; rcases h with ⟨c74, h⟩ | ⟨c74, h⟩
  · have c74 : x69 = true := c74
    refine wpRwI 16 kr c74 ?_
    refine condT kr ?_
    refine wp_skip ?_
    refine hn55 _ _ ?_
    refine hK52 _ _ ?_
    refine wp_seq_k fun K138 hK139 => rl ?_
    refine seqL1 kr ?_
    refine seqK rfl (does_storeA (vs := [.int .i64 0, .int .i64 0, .int .i64 0, .slice none 0 0]) rfl kr kr kr rfl (ones rfl) HS67 kr ?_)
    intro W140 HS141
    refine seqL1 kr ?_
    refine nl (hK139 _ _ ?_)
    refine wp_ret ?_
    refine hret _ _ ?_
    have HS163 := HS141.cons_nil
    refine ends (v := Value.tuple #[.agg #[.int .i64 0, .int .i64 0, .int .i64 0, .slice none 0 0], .bool false]) (results2 (q1 := .cell 4 93) (q2 := .tmp 5) kr (resN (n := 4) (cs := [.int .i64 0, .int .i64 0, .int .i64 0, .slice none 0 0]) (kv (pV b12 0)) Try.underlying93 rfl kr rfl (HS163.u1.cells 0 4 _ rfl)) (resT (kv (.bool false)))) kr ?_
    have HS168 := HS163.u2.u3.u2.u3
    have HS169 := HS168.drop
    injection h with h
    injection h with h0_ h
    injection h with h1_ h
    injection h with h2_ h
    injection h with h3_ h
    injection h with h4_ h
    injection h with h5_ h
    subst h0_ h1_ h2_ h3_ h4_ h5_ h
    exact ⟨f64, none, 0, [], A4, c5, s6, rfl, L65, HS169, (Own.nil _), (HO7.mono L65)⟩
  have c74 : ¬ (x69 = true) := c74
  refine wpRwI 16 kr (Bool.eq_false_iff.mpr c74) ?_
  refine condF kr ?_
  refine wp_seq_k fun K75 hK76 => rl ?_
  refine seqL3 kr ?_
  refine seqK rfl (does_run (run_load rfl Try.underlying4 rfl (kv (pV b1 1)) (HS67.u1.cell 1)) ?_)
  refine seqL1 kr ?_
  refine nl (hK76 _ _ ?_)
  replace h := ite_some h; rcases h with ⟨c78, h⟩ | ⟨c78, h⟩
  rotate_left
  · have c78 : ¬ (r3.escape = true) := c78
    refine wpRwI 28 kr (Bool.eq_false_iff.mpr c78) ?_
    refine wpRwI 32 kr (Bool.eq_false_iff.mpr c78) ?_
    refine condF kr ?_
    refine wp_seq_k fun K117 hK118 => rl ?_
    refine seqL3 kr ?_
    refine nl (hK118 _ _ ?_)
    replace h := ite_some h; rcases h with ⟨c120, h⟩ | ⟨c120, h⟩
    · have c120 : x9 = 125 := c120
      refine wpRwI 50 kr (beq_iff_eq.mpr c120) ?_
      refine wpRwI 52 kr (beq_iff_eq.mpr c120) ?_
      refine condT kr ?_
      refine rl ?_
      have HS121 := HS67.u1
      refine seqL3 kr ?_
      refine seqK rfl (does_store (n := 1) (vs := [.bool true]) (cs' := #[.slice A4 r3.body.length c5, .bool true, .bool r3.skip, .bool r3.vopen, .int .i64 r3.Bad]) rfl kr (kv (pV b1 1)) (kv (.bool true)) rfl rfl (ones rfl) HS121 (Nat.le_of_ble_eq_true rfl) kr ?_)
      intro W122 HS123
      refine nl ?_
      refine hn55 _ _ ?_
      refine hK52 _ _ ?_
      refine wp_seq_k fun K152 hK153 => rl ?_
      have HS154 := HS123.u1
      refine seqL1 kr ?_
      refine seqK rfl (does_storeA (vs := [.int .i64 0, .int .i64 0, .int .i64 0, .slice none 0 0]) rfl kr kr kr rfl (ones rfl) HS154 kr ?_)
      intro W155 HS156
      refine seqL1 kr ?_
      refine nl (hK153 _ _ ?_)
      refine wp_ret ?_
      refine hret _ _ ?_
      have HS184 := HS156.cons_nil
      refine ends (v := Value.tuple #[.agg #[.int .i64 0, .int .i64 0, .int .i64 0, .slice none 0 0], .bool false]) (results2 (q1 := .cell 4 93) (q2 := .tmp 5) kr (resN (n := 4) (cs := [.int .i64 0, .int .i64 0, .int .i64 0, .slice none 0 0]) (kv (pV b12 0)) Try.underlying93 rfl kr rfl (HS184.u1.cells 0 4 _ rfl)) (resT (kv (.bool false)))) kr ?_
      have HS189 := HS184.u2.u3.u2.u3
      have HS190 := HS189.drop
      injection h with h
      injection h with h0_ h
      injection h with h1_ h
      injection h with h2_ h
      injection h with h3_ h
      injection h with h4_ h
      injection h with h5_ h
      subst h0_ h1_ h2_ h3_ h4_ h5_ h
      exact ⟨f64, none, 0, [], A4, c5, s6, rfl, L65, HS190, (Own.nil _), (HO7.mono L65)⟩
    have c120 : ¬ (x9 = 125) := c120
    refine wpRwI 50 kr (beq_eq_false_iff_ne.mpr c120) ?_
    refine wpRwI 52 kr (beq_eq_false_iff_ne.mpr c120) ?_
    refine condF kr ?_
    refine rl ?_
    have HS125 := HS67.u2.u2
    replace h := bind_some h; obtain ⟨⟨vt126, vt127⟩, hc128, h⟩ := h
    refine seqL2 kr ?_
    refine seqK rfl (does_call kr (bus_Reader_put.calls k b1 A4 c5 s6 r3 x9 HS125 (HO7.mono L65) vt126 vt127 hc128) ?_)
    rintro _ W131 ⟨f129, A133, c134, s135, rfl, L130, HS132, HO136⟩
    refine ⟨_, rfl, ?_⟩
    refine nl ?_
    refine hn55 _ _ ?_
    refine hK52 _ _ ?_
    refine wp_seq_k fun K157 hK158 => rl ?_
    have HS159 := HS132.u2
    refine seqL1 kr ?_
    refine seqK rfl (does_storeA (vs := [.int .i64 0, .int .i64 0, .int .i64 0, .slice none 0 0]) rfl kr kr kr rfl (ones rfl) HS159 kr ?_)
    intro W160 HS161
    refine seqL1 kr ?_
    refine nl (hK158 _ _ ?_)
    refine wp_ret ?_
    refine hret _ _ ?_
    have HS191 := HS161.cons_nil
    refine ends (v := Value.tuple #[.agg #[.int .i64 0, .int .i64 0, .int .i64 0, .slice none 0 0], .bool false]) (results2 (q1 := .cell 4 93) (q2 := .tmp 5) kr (resN (n := 4) (cs := [.int .i64 0, .int .i64 0, .int .i64 0, .slice none 0 0]) (kv (pV b12 0)) Try.underlying93 rfl kr rfl (HS191.u1.cells 0 4 _ rfl)) (resT (kv (.bool false)))) kr ?_
    have HS196 := HS191.u3.u3.u2.u3
    have HS197 := HS196.drop
    injection h with h
    injection h with h0_ h
    injection h with h1_ h
    injection h with h2_ h
    injection h with h3_ h
    injection h with h4_ h
    injection h with h5_ h
    subst h0_ h1_ h2_ h3_ h4_ h5_ h
    exact ⟨f129, none, 0, [], A133, c134, s135, rfl, (L65.trans L130), HS197, (Own.nil _), HO136⟩
  have c78 : r3.escape = true := c78
  refine wpRwI 28 kr c78 ?_
  refine wpRwI 32 kr c78 ?_
  refine condT kr ?_
  refine wp_seq_k fun K79 hK80 => rl ?_
  have HS81 := HS67.u1
  refine seqL3 kr ?_
  refine seqK rfl (does_store (n := 1) (vs := [.bool false]) (cs' := #[.slice A4 r3.body.length c5, .bool false, .bool r3.skip, .bool r3.vopen, .int .i64 r3.Bad]) rfl kr (kv (pV b1 1)) (kv (.bool false)) rfl rfl (ones rfl) HS81 (Nat.le_of_ble_eq_true rfl) kr ?_)
  intro W82 HS83
  refine nl (hK80 _ _ ?_)
  refine wp_seq_k fun K84 hK85 => rl ?_
  refine seqL3 kr ?_
  refine nl (hK85 _ _ ?_)
  refine wp_seq_k (fun K86 hK87 => ?_)
  replace h := bind_some h; obtain ⟨v88, hv96, h⟩ := h
  have J97 : ∀ (f90 : FM) (x95 : Bool) (j94 : Nat → Value) (W92 : World) (a_ : Act), FM.le f64 f90 → some (x95) = some v88 → St t W92 f90 ([(b1, .cells #[.slice A4 r3.body.length c5, .bool false, .bool r3.skip, .bool r3.vopen, .int .i64 r3.Bad] 146 (0, 0))] :: [(b12, .cells #[.int .i64 0, .int .i64 0, .int .i64 0, .slice none 0 0] 93 (0, 0))] :: s6 :: H) → a_ = ⟨⟨[pV b1 0, .int .u8 x9, uV, uV, pV b12 0, fV, .int .u8 (Go.bits .xor .u8 x9 32), .int .u8 x9, fV] ++ (un 7 ([fV] ++ (jr j68 0 11 ([tV, pV b1 0, pV b1 0, pV b1 1, tV, pV b1 0, pV b1 0, pV b1 1, .int .u8 x9, .int .u8 (Go.bits .xor .u8 x9 32)] ++ (jr j94 0 5 ([.bool x95] ++ (un 13 [])))))))⟩, []⟩ → K86 a_ W92 := by
   intro f90 x95 j94 W92 a_ L91 hj98 HS93  hfr_; subst hfr_
   injection hj98 with hj98; subst hj98; try dsimp only at h
   refine hK87 _ _ ?_
   replace h := ite_some h; rcases h with ⟨c100, h⟩ | ⟨c100, h⟩
   · have c100 : x95 = true := c100
     refine wpRwI 43 kr c100 ?_
     refine condT kr ?_
     refine rl ?_
     have HS102 := HS93.u2.u1
     replace h := bind_some h; obtain ⟨⟨vt103, vt104⟩, hc105, h⟩ := h
     refine seqL2 kr ?_
     refine seqK rfl (does_call kr (bus_Reader_put.calls k b1 A4 c5 s6 (⟨r3.body, false, r3.skip, r3.vopen, r3.Bad⟩ : S_Reader) (Go.bits .xor .u8 x9 32) HS102 (HO7.mono (L65.trans L91)) vt103 vt104 hc105) ?_)
     rintro _ W108 ⟨f106, A110, c111, s112, rfl, L107, HS109, HO113⟩
     refine ⟨_, rfl, ?_⟩
     refine nl ?_
     refine hn55 _ _ ?_
     refine hK52 _ _ ?_
     refine wp_seq_k fun K142 hK143 => rl ?_
     have HS144 := HS109.u2
     refine seqL1 kr ?_
     refine seqK rfl (does_storeA (vs := [.int .i64 0, .int .i64 0, .int .i64 0, .slice none 0 0]) rfl kr kr kr rfl (ones rfl) HS144 kr ?_)
     intro W145 HS146
     refine seqL1 kr ?_
     refine nl (hK143 _ _ ?_)
     refine wp_ret ?_
     refine hret _ _ ?_
     have HS170 := HS146.cons_nil
     refine ends (v := Value.tuple #[.agg #[.int .i64 0, .int .i64 0, .int .i64 0, .slice none 0 0], .bool false]) (results2 (q1 := .cell 4 93) (q2 := .tmp 5) kr (resN (n := 4) (cs := [.int .i64 0, .int .i64 0, .int .i64 0, .slice none 0 0]) (kv (pV b12 0)) Try.underlying93 rfl kr rfl (HS170.u1.cells 0 4 _ rfl)) (resT (kv (.bool false)))) kr ?_
     have HS175 := HS170.u3.u3.u2.u3
     have HS176 := HS175.drop
     injection h with h
     injection h with h0_ h
     injection h with h1_ h
     injection h with h2_ h
     injection h with h3_ h
     injection h with h4_ h
     injection h with h5_ h
     subst h0_ h1_ h2_ h3_ h4_ h5_ h
     exact ⟨f106, none, 0, [], A110, c111, s112, rfl, (L65.trans (L91.trans L107)), HS176, (Own.nil _), HO113⟩
   have c100 : ¬ (x95 = true) := c100
   refine wpRwI 43 kr (Bool.eq_false_iff.mpr c100) ?_
   refine condF kr ?_
   refine rl ?_
   refine seqL3 kr ?_
   refine seqK rfl (does_store (n := 1) (vs := [.bool true]) (cs' := #[.slice A4 r3.body.length c5, .bool false, .bool true, .bool r3.vopen, .int .i64 r3.Bad]) rfl kr (kv (pV b1 2)) (kv (.bool true)) rfl rfl (ones rfl) HS93 (Nat.le_of_ble_eq_true rfl) kr ?_)
   intro W115 HS116
   refine nl ?_
   refine hn55 _ _ ?_
   refine hK52 _ _ ?_
   refine wp_seq_k fun K147 hK148 => rl ?_
   have HS149 := HS116.u1
   refine seqL1 kr ?_
   refine seqK rfl (does_storeA (vs := [.int .i64 0, .int .i64 0, .int .i64 0, .slice none 0 0]) rfl kr kr kr rfl (ones rfl) HS149 kr ?_)
   intro W150 HS151
   refine seqL1 kr ?_
   refine nl (hK148 _ _ ?_)
   refine wp_ret ?_
   refine hret _ _ ?_
   have HS177 := HS151.cons_nil
   refine ends (v := Value.tuple #[.agg #[.int .i64 0, .int .i64 0, .int .i64 0, .slice none 0 0], .bool false]) (results2 (q1 := .cell 4 93) (q2 := .tmp 5) kr (resN (n := 4) (cs := [.int .i64 0, .int .i64 0, .int .i64 0, .slice none 0 0]) (kv (pV b12 0)) Try.underlying93 rfl kr rfl (HS177.u1.cells 0 4 _ rfl)) (resT (kv (.bool false)))) kr ?_
   have HS182 := HS177.u2.u3.u2.u3
   have HS183 := HS182.drop
   injection h with h
   injection h with h0_ h
   injection h with h1_ h
   injection h with h2_ h
   injection h with h3_ h
   injection h with h4_ h
   injection h with h5_ h
   subst h0_ h1_ h2_ h3_ h4_ h5_ h
   exact ⟨f90, none, 0, [], A4, c5, s6, rfl, (L65.trans L91), HS183, (Own.nil _), (HO7.mono (L65.trans L91))⟩
  clear h; have h := hv96; clear hv96
  refine rl ?_
  refine seqL3 kr ?_
  replace h := ite_some h; rcases h with ⟨c89, h⟩ | ⟨c89, h⟩
  · have c89 : (Go.bits .xor .u8 x9 32) = 126 := c89
    refine seqRwI 39 kr (beq_iff_eq.mpr c89) ?_
    refine seqRwI 40 kr (beq_iff_eq.mpr c89) ?_
    refine seqL3 kr ?_
    refine nl ?_
    exact J97 f64 true (jL [.int .u8 (Go.bits .xor .u8 x9 32), tV, tV]) W82 _ fL h HS83 kr
  have c89 : ¬ ((Go.bits .xor .u8 x9 32) = 126) := c89
  refine seqRwI 39 kr (beq_eq_false_iff_ne.mpr c89) ?_
  refine seqRwI 40 kr (beq_eq_false_iff_ne.mpr c89) ?_
  refine seqL3 kr ?_
  refine nl ?_
  exact J97 f64 ((Go.bits .xor .u8 x9 32) == 125) (jL [.int .u8 (Go.bits .xor .u8 x9 32), fV, fV, .int .u8 (Go.bits .xor .u8 x9 32), .bool ((Go.bits .xor .u8 x9 32) == 125)]) W82 _ fL h HS83 kr
 clear h; have h := hv70; clear hv70
 refine rl ?_
 refine seqL3 kr ?_
 refine seqK rfl (does_run (run_load rfl Try.underlying4 rfl (kv (pV b1 2)) (HS14.u1.cell 2)) ?_)
 refine seqL1 kr ?_
 replace h := ite_some h; rcases h with ⟨c63, h⟩ | ⟨c63, h⟩
 · have c63 : r3.skip = true := c63
   refine seqRwI 20 kr c63 ?_
   refine seqRwI 21 kr c63 ?_
   refine seqL7 kr ?_
   refine nl ?_
   exact J71 f true (jL [pV b1 0, pV b1 0, pV b1 2, tV, tV, uV, uV, uV, uV, uV, tV]) W13 _ fL h HS14 kr
 have c63 : ¬ (r3.skip = true) := c63
 refine seqRwI 20 kr (Bool.eq_false_iff.mpr c63) ?_
 refine seqRwI 21 kr (Bool.eq_false_iff.mpr c63) ?_
 refine seqL3 kr ?_
 refine seqG kr (does_run (run_load rfl Try.underlying4 rfl (kv (pV b1 3)) (HS14.u1.cell 3)) ?_)
 refine seqL3 kr ?_
 refine nl ?_
 exact J71 f (!r3.vopen) (jL [pV b1 0, pV b1 0, pV b1 2, fV, fV, pV b1 0, pV b1 0, pV b1 3, .bool r3.vopen, .bool (!r3.vopen), .bool (!r3.vopen)]) W13 _ fL h HS14 kr

set_option maxRecDepth 100000 in
set_option maxHeartbeats 4000000 in
theorem bus_Decode.calls (k : Nat) (A2 : Option Addr) (c3 : Nat) (stream1 : List Int) {t w : World} {f : FM} {H : List Seg} (HS : St t w f (H)) (HR4 : SlR (tInt .u8) f A2 c3 stream1) (rr1 : List S_Packet) (rr2 : Int) (h : bus_Decode k stream1 = some (rr1, rr2)) :
    Calls Try.prog 41 #[.slice A2 stream1.length c3] w (fun e w' => ∃ (g : FM) (A281 : Option Addr) (c282 : Nat) (s283 : Seg), e = .returned (Value.tuple #[.slice A281 rr1.length c282, .int .i64 rr2]) ∧ FM.le f g ∧ St t w' g (s283 :: H) ∧ Own ty_Packet 93 g A281 c282 s283 rr1) := by
 unfold bus_Decode at h
 refine enter Try.func41 rfl (tm := ⟨[.slice A2 stream1.length c3] ++ (un 29 [])⟩) kr ?_
 intro B hret hnor hnp
 refine wp_seq_k fun K5 hK6 => rl ?_
 refine seqL2 kr ?_
 refine nl (hK6 _ _ ?_)
 refine wp_seq_k fun K7 hK8 => rl ?_
 refine seqK rfl (does_alloc (z := Value.agg #[.slice none 0 0, .bool false, .bool false, .bool false, .int .i64 0]) (cs := #[.slice none 0 0, .bool false, .bool false, .bool false, .int .i64 0]) rfl kr rfl HS ?_)
 intro b9 W10 HS11
 refine nl (hK8 _ _ ?_)
 refine wp_seq_k fun K13 hK14 => rl ?_
 refine seqL1 kr ?_
 refine nl (hK14 _ _ ?_)
 refine wp_seq_k (fun K15 hK16 => ?_)
 refine wp_seq_k fun K17 hK18 => rl ?_
 refine seqL3 kr ?_
 refine nl (hK18 _ _ ?_)
 refine blockK (fun B19 hx20 hn21 hr22 ho23 hp24 => ?_)
 replace h := bind_some h; obtain ⟨o124, hv250, h⟩ := h
 have J251 : ∀ (f229 : FM) (A235 : Option Addr) (c236 : Nat) (s237 : Seg) (A241 : Option Addr) (c242 : Nat) (s243 : Seg) (out234 : List S_Packet) (x240 : List Int) (x246 : Bool) (x247 : Bool) (x248 : Bool) (x249 : Int) (j233 : Nat → Value) (W231 : World) (a_ : Act), FM.le f f229 → some ((out234, x240, x246, x247, x248, x249)) = some o124 → St t W231 f229 (s243 :: s237 :: [(b9, .cells #[.slice A241 x240.length c242, .bool x246, .bool x247, .bool x248, .int .i64 x249] 146 (0, 0))] :: H) → Own ty_Packet 93 f229 A235 c236 s237 out234 → Own (tInt .u8) 5 f229 A241 c242 s243 x240 → a_ = ⟨⟨[.slice A2 stream1.length c3, uV, .slice none 0 0, iV 0, pV b9 0, .slice A235 out234.length c236, uV] ++ (jr j233 0 3 ([.slice A2 stream1.length c3, iV (stream1.length : Int)] ++ (jr j233 3 15 [uV, uV, uV])))⟩, []⟩ → K15 a_ W231 := by
  intro f229 A235 c236 s237 A241 c242 s243 out234 x240 x246 x247 x248 x249 j233 W231 a_ L230 hj252 HS232 HO238 HO244 hfr_; subst hfr_
  injection hj252 with hj252; subst hj252; try dsimp only at h
  refine hK16 _ _ ?_
  refine wp_seq_k (fun K269 hK270 => ?_)
  refine heldG (S := Sg t f229 (s243 :: s237 :: [(b9, .cells #[.slice A241 x240.length c242, .bool x246, .bool x247, .bool x248, .int .i64 x249] 146 (0, 0))] :: H) []) (n := 5) kr rfl HS232 ?_
  intro W271 HS272
  refine gL [0, 1] (fuel := 3) #[true, true, false, false, false] rfl kr kr kr hnp (Sg.g0 (Sx.of [] fL HS272)) fun X273 => ?_
  refine gQ 2 rfl kr kr kr kr kr hnp X273 (fun hl_ hS_ => run_load rfl Try.underlying3 rfl (kv (pV b9 4)) (hS_.u2.cell 4)) fun X274 => ?_
  refine gL [3, 4] (fuel := 0) #[true, true, true, true, true] rfl kr kr kr hnp X274 fun X275 => ?_
  refine doneG kr ?_ _
  refine hK270 _ _ ?_
  refine wp_ret ?_
  refine hret _ _ ?_
  refine ends_still (v := Value.tuple #[.slice A235 out234.length c236, .int .i64 x249]) kr kr ?_
  have HS278 := HS272.u1.u2.u2
  have HS279 := HS278.drop
  have HS280 := HS279.drop
  injection h with h
  injection h with h0_ h
  subst h0_ h
  exact ⟨f229, A235, c236, s237, rfl, L230, HS280, HO238⟩
 clear h; have h := hv250; clear hv250
 have HS253 := HS11.cons_nil
 have HS255 := HS253.cons_nil
 refine loopK (fun n_ a_ w_ => ∃ (f128 : FM) (A134 : Option Addr) (c135 : Nat) (s136 : Seg) (A141 : Option Addr) (c142 : Nat) (s143 : Seg) (out133 : List S_Packet) (x139 : Int) (x140 : List Int) (x146 : Bool) (x147 : Bool) (x148 : Bool) (x149 : Int) (j132 : Nat → Value), FM.le f f128 ∧ St t w_ f128 (s143 :: s136 :: [(b9, .cells #[.slice A141 x140.length c142, .bool x146, .bool x147, .bool x148, .int .i64 x149] 146 (0, 0))] :: H) ∧ Own ty_Packet 93 f128 A134 c135 s136 out133 ∧ Own (tInt .u8) 5 f128 A141 c142 s143 x140 ∧ bus_Decode.l0 k stream1 n_ out133 x139 x140 x146 x147 x148 x149 = some o124 ∧ a_ = ⟨⟨[.slice A2 stream1.length c3, uV, .slice none 0 0, iV 0, pV b9 0, .slice A134 out133.length c135, uV] ++ (jr j132 0 3 ([.slice A2 stream1.length c3, iV (stream1.length : Int), iV x139] ++ (jr j132 3 14 [uV, uV, uV])))⟩, []⟩) k ⟨f, none, 0, [], none, 0, [], ([] : List S_Packet), 0, ([] : List Int), false, false, false, 0, (jL []), fL, HS255, (Own.nil _), (Own.nil _), h, kr⟩ ?_
 clear h
 rintro n127 _ W130 ⟨f128, A134, c135, s136, A141, c142, s143, out133, x139, x140, x146, x147, x148, x149, j132, L129, HS131, HO137, HO144, h, rfl⟩ K125 hK126
 obtain _ | n127 := n127
 · exact nomatch h
 simp only [bus_Decode.l0] at h
 refine wp_seq_k fun K150 hK151 => rl ?_
 refine seqL1 kr ?_
 refine nl (hK151 _ _ ?_)
 refine wp_seq_k (fun K152 hK153 => ?_)
 replace h := ite_some h; rcases h with ⟨c155, h⟩ | ⟨c155, h⟩
 rotate_left
 · have c155 : ¬ (x139 < (stream1.length : Int)) := c155
   refine wpRwI 13 kr (decide_eq_false c155) ?_
   refine condF kr ?_
   refine wp_exit ?_
   refine hx20 _ _ ?_
   exact J251 f128 A134 c135 s136 A141 c142 s143 out133 x140 x146 x147 x148 x149 (jL [(j132 0), (j132 1), (j132 2), iV x139, fV, (j132 4), (j132 5), (j132 6), (j132 7), (j132 8), (j132 9), (j132 10), (j132 11), (j132 12), (j132 13), (j132 14), (j132 15), (j132 16)]) W130 _ L129 h HS131 HO137 HO144 kr
 have c155 : x139 < (stream1.length : Int) := c155
 refine wpRwI 13 kr (decide_eq_true c155) ?_
 refine condT kr ?_
 refine wp_skip ?_
 refine hK153 _ _ ?_
 refine wp_seq_k (fun K156 hK157 => ?_)
 refine blockK (fun B158 hx159 hn160 hr161 ho162 hp163 => ?_)
 refine wp_seq_k fun K165 hK166 => rl ?_
 replace h := guard_some h; obtain ⟨c167, h⟩ := h
 have c167 : 0 ≤ x139 := c167
 obtain ⟨b171, of172, cs168, hA173, hr169, hc170⟩ := (HR4.mono L129).at (i := x139) c167 c155
 obtain rfl := hr169
 refine seqK rfl (does_run (run_indexE hA173 (sz := 1) rfl Try.underlying91 kr (kv (.slice A2 stream1.length c3)) (kv (.int .i64 x139)) c167 c155 W130) ?_)
 refine seqK rfl (does_run (run_load rfl Try.underlying5 rfl (kv (pV b171 (of172 + (x139 : Int).toNat * 1))) ((hc170 fL HS131) 0 (by decide))) ?_)
 refine seqL1 kr ?_
 refine nl (hK166 _ _ ?_)
 refine wp_seq_k fun K174 hK175 => rl ?_
 have HS176 := HS131.u2
 replace h := bind_some h; obtain ⟨⟨vt177, vt178, vt179, vt180, vt181, vt182, vt183⟩, hc184, h⟩ := h
 refine seqL1 kr ?_
 refine seqK rfl (does_call kr (bus_Reader_Feed.calls k b9 A141 c142 s143 (⟨x140, x146, x147, x148, x149⟩ : S_Reader) (rd stream1 x139) HS176 HO144 vt177 vt178 vt179 vt180 vt181 vt182 vt183 hc184) ?_)
 rintro _ W187 ⟨f185, A189, c190, s191, A194, c195, s196, rfl, L186, HS188, HO192, HO197⟩
 refine ⟨_, rfl, ?_⟩
 refine seqL3 kr ?_
 refine seqK rfl (does_alloc (z := Value.agg #[.int .i64 0, .int .i64 0, .int .i64 0, .slice none 0 0]) (cs := #[.int .i64 0, .int .i64 0, .int .i64 0, .slice none 0 0]) rfl kr rfl HS188 ?_)
 intro b199 W200 HS201
 refine seqK rfl (does_storeA (vs := [.int .i64 vt177.Addr, .int .i64 vt177.Kind, .int .i64 vt177.Seq, .slice A189 vt177.Data.length c190]) rfl kr kr kr rfl (ones rfl) HS201 kr ?_)
 intro W203 HS204
 refine seqL1 kr ?_
 refine nl (hK175 _ _ ?_)
 refine wp_seq_k fun K205 hK206 => rl ?_
 refine seqL1 kr ?_
 refine nl (hK206 _ _ ?_)
 replace h := ite_some h; rcases h with ⟨c208, h⟩ | ⟨c208, h⟩
 rotate_left
 · have c208 : ¬ (vt178 = true) := c208
   refine wpRwI 9 kr (Bool.eq_false_iff.mpr c208) ?_
   refine wpRwI 20 kr (Bool.eq_false_iff.mpr c208) ?_
   refine wpRwI 21 kr (Bool.eq_false_iff.mpr c208) ?_
   refine condF kr ?_
   refine wp_skip ?_
   refine hn160 _ _ ?_
   refine hK157 _ _ ?_
   refine rl ?_
   refine seqL2 kr ?_
   refine nl ?_
   refine hK126 n127 _ _ (Nat.lt_succ_self _) ?_
   have HS266 := HS204.u3.u4.u4.u4.u4
   have HS267 := HS266.drop
   have HS268 := HS267.drop
   exact ⟨f185, A134, c135, s136, A194, c195, s196, out133, (w64 (x139 + 1)), vt179, vt180, vt181, vt182, vt183, (jL [.int .u8 (rd stream1 x139), pV b199 0, fV, tV, pV b171 (of172 + (x139 : Int).toNat * 1), .int .u8 (rd stream1 x139), .tuple #[(ag_Packet vt177 A189 c190), .bool vt178], .int .u8 (rd stream1 x139), .tuple #[(ag_Packet vt177 A189 c190), .bool vt178], (ag_Packet vt177 A189 c190), fV, fV, (j132 12), (j132 13), (j132 14), (j132 15), iV (w64 (x139 + 1))]), (L129.trans L186), HS268, (HO137.mono L186), HO197, h, kr⟩
 have c208 : vt178 = true := c208
 refine wpRwI 9 kr c208 ?_
 refine wpRwI 20 kr c208 ?_
 refine wpRwI 21 kr c208 ?_
 refine condT kr ?_
 refine rl ?_
 refine seqL1 kr ?_
 refine seqK rfl (does_run (run_loadN (n := 4) rfl Try.underlying93 rfl kr (kv (pV b199 0)) (cs := [.int .i64 vt177.Addr, .int .i64 vt177.Kind, .int .i64 vt177.Seq, .slice A189 vt177.Data.length c190]) rfl (HS204.cells 0 4 _ rfl)) ?_)
 have HS209 := HS204.u1
 obtain ⟨f210, L211, HS212, HR213⟩ := HO192.freeze HS209
 refine seqK rfl (does_lit (e := ty_Packet) (E := 93) (vs := #[(0, Value.agg #[.int .i64 vt177.Addr, .int .i64 vt177.Kind, .int .i64 vt177.Seq, .slice A189 vt177.Data.length c190])]) (cs := #[.int .i64 vt177.Addr, .int .i64 vt177.Kind, .int .i64 vt177.Seq, .slice A189 vt177.Data.length c190]) (xs := ([vt177] : List S_Packet)) rfl Try.underlying89 kr kr ⟨[.int .i64 vt177.Addr, .int .i64 vt177.Kind, .int .i64 vt177.Seq, .slice A189 vt177.Data.length c190], _, rfl, ⟨A189, c190, rfl, HR213⟩, rfl⟩ rfl HS212 ?_ (by decide))
 intro b214 W215 s216 HS217 _ HO218
 replace h := guard_some h; obtain ⟨c220, h⟩ := h
 have c220 : (out133.length + 1) * 48 ≤ 140737488355328 := c220
 have HS222 := HS217.u4.u1
 refine seqK rfl (does_append1 (e := ty_Packet) (E := 93) (xs := out133) (ys := ([vt177] : List S_Packet)) rfl (kv (.slice A134 out133.length c135)) (kv (.slice (some ⟨b214, 0, none⟩) ([vt177] : List S_Packet).length 1)) Try.underlying89 inf93 (HO137.mono (L186.trans L211)) HO218 HS222 c220 (lim63 c220 (by decide)) ?_)
 intro A223 c224 s225 W226 HS227 HO228
 refine seqL1 kr ?_
 refine nl ?_
 refine hn160 _ _ ?_
 refine hK157 _ _ ?_
 refine rl ?_
 refine seqL2 kr ?_
 refine nl ?_
 refine hK126 n127 _ _ (Nat.lt_succ_self _) ?_
 have HS260 := HS227.u3.u1.u3.u3
 have HS261 := HS260.drop
 exact ⟨f210, A223, c224, s225, A194, c195, s196, (out133 ++ ([vt177] : List S_Packet)), (w64 (x139 + 1)), vt179, vt180, vt181, vt182, vt183, (jL [.int .u8 (rd stream1 x139), pV b199 0, tV, tV, pV b171 (of172 + (x139 : Int).toNat * 1), .int .u8 (rd stream1 x139), .tuple #[(ag_Packet vt177 A189 c190), .bool vt178], .int .u8 (rd stream1 x139), .tuple #[(ag_Packet vt177 A189 c190), .bool vt178], (ag_Packet vt177 A189 c190), tV, tV, .slice A134 out133.length c135, (ag_Packet vt177 A189 c190), .slice (some ⟨b214, 0, none⟩) ([vt177] : List S_Packet).length 1, .slice A223 (out133 ++ ([vt177] : List S_Packet)).length c224, iV (w64 (x139 + 1))]), (L129.trans (L186.trans L211)), HS261, HO228, (HO197.mono L211), h, kr⟩

set_option maxRecDepth 100000 in
set_option maxHeartbeats 4000000 in
theorem link_line_take.calls (k : Nat) (b1 : Nat) (A4 : Option Addr) (c5 : Nat) (A7 : Option Addr) (c8 : Nat) (s9 : Seg) (l3 : S_line) (vt12 : Int) {t w : World} {f : FM} {H : List Seg} (HS : St t w f ([(b1, .cells #[.slice A4 l3.fates.length c5, .slice A7 l3.way.length c8, .int .i64 l3.count] 88 (0, 0))] :: s9 :: H)) (HR6 : SlR ty_Fate f A4 c5 l3.fates) (HO10 : Own ty_parcel 117 f A7 c8 s9 l3.way) (rr1 : List S_Packet) (rr2 : List S_parcel) (h : link_line_take k l3 vt12 = some (rr1, rr2)) :
    Calls Try.prog 22 #[pV b1 0, .int .i64 vt12] w (fun e w' => ∃ (g : FM) (A176 : Option Addr) (c177 : Nat) (s178 : Seg) (A179 : Option Addr) (c180 : Nat) (s181 : Seg), e = .returned (Value.slice A176 rr1.length c177) ∧ FM.le f g ∧ St t w' g (s178 :: s181 :: [(b1, .cells #[.slice A4 l3.fates.length c5, .slice A179 rr2.length c180, .int .i64 l3.count] 88 (0, 0))] :: H) ∧ Own ty_Packet 93 g A176 c177 s178 rr1 ∧ Own ty_parcel 117 g A179 c180 s181 rr2) := by
 unfold link_line_take at h
 refine enter Try.func22 rfl (tm := ⟨[pV b1 0, iV vt12] ++ (un 41 [])⟩) kr ?_
 intro B hret hnor hnp
 refine wp_seq_k fun K13 hK14 => rl ?_
 refine seqL1 kr ?_
 refine nl (hK14 _ _ ?_)
 refine wp_seq_k fun K15 hK16 => rl ?_
 refine seqL1 kr ?_
 refine nl (hK16 _ _ ?_)
 refine wp_seq_k fun K17 hK18 => rl ?_
 refine seqL1 kr ?_
 refine nl (hK18 _ _ ?_)
 refine wp_seq_k (fun K19 hK20 => ?_)
 refine wp_seq_k fun K21 hK22 => rl ?_
 refine seqL3 kr ?_
 refine seqK rfl (does_run (run_load rfl Try.underlying86 rfl (kv (pV b1 1)) (HS.cell 1)) ?_)
 refine seqL2 kr ?_
 refine nl (hK22 _ _ ?_)
 refine blockK (fun B23 hx24 hn25 hr26 ho27 hp28 => ?_)
 replace h := bind_some h; obtain ⟨o29, hv126, h⟩ := h
 have J127 : ∀ (f109 : FM) (A115 : Option Addr) (c116 : Nat) (s117 : Seg) (A121 : Option Addr) (c122 : Nat) (s123 : Seg) (stream114 : List Int) (rest120 : List S_parcel) (j113 : Nat → Value) (W111 : World) (a_ : Act), FM.le f f109 → some ((stream114, rest120)) = some o29 → St t W111 f109 (s123 :: s117 :: [(b1, .cells #[.slice A4 l3.fates.length c5, .slice A7 l3.way.length c8, .int .i64 l3.count] 88 (0, 0))] :: s9 :: H) → Own (tInt .u8) 5 f109 A115 c116 s117 stream114 → Own ty_parcel 117 f109 A121 c122 s123 rest120 → a_ = ⟨⟨[pV b1 0, iV vt12, uV, uV, .slice none 0 0, .slice A115 stream114.length c116, .slice A121 rest120.length c122, uV, (j113 0), uV, uV, pV b1 0, pV b1 0, pV b1 1, .slice A7 l3.way.length c8, iV (l3.way.length : Int)] ++ (jr j113 1 17 (un 10 []))⟩, []⟩ → K19 a_ W111 := by
  intro f109 A115 c116 s117 A121 c122 s123 stream114 rest120 j113 W111 a_ L110 hj128 HS112 HO118 HO124 hfr_; subst hfr_
  injection hj128 with hj128; subst hj128; try dsimp only at h
  refine hK20 _ _ ?_
  refine wp_seq_k fun K145 hK146 => rl ?_
  have HS147 := HS112.u2
  refine seqL4 kr ?_
  refine seqK rfl (does_store (n := 1) (vs := [.slice A121 rest120.length c122]) (cs' := #[.slice A4 l3.fates.length c5, .slice A121 rest120.length c122, .int .i64 l3.count]) rfl kr (kv (pV b1 1)) (kv (.slice A121 rest120.length c122)) rfl rfl (ones rfl) HS147 (Nat.le_of_ble_eq_true rfl) kr ?_)
  intro W148 HS149
  refine nl (hK146 _ _ ?_)
  refine wp_seq_k fun K150 hK151 => rl ?_
  have HS152 := HS149.u2
  obtain ⟨f153, L154, HS155, HR156⟩ := HO118.freeze HS152
  replace h := bind_some h; obtain ⟨⟨vt157, vt158⟩, hc159, h⟩ := h
  refine seqL1 kr ?_
  refine seqK rfl (does_call kr (bus_Decode.calls k A115 c116 stream114 HS155 HR156 vt157 vt158 hc159) ?_)
  rintro _ W162 ⟨f160, A164, c165, s166, rfl, L161, HS163, HO167⟩
  refine ⟨_, rfl, ?_⟩
  refine seqL5 kr ?_
  refine nl (hK151 _ _ ?_)
  refine wp_seq_k fun K169 hK170 => rl ?_
  refine seqL2 kr ?_
  refine nl (hK170 _ _ ?_)
  refine wp_ret ?_
  refine hret _ _ ?_
  refine ends_still (v := Value.slice A164 vt157.length c165) kr kr ?_
  have HS174 := HS163.u1.u2.u2.u3
  have HS175 := HS174.drop
  injection h with h
  injection h with h0_ h
  subst h0_ h
  exact ⟨f160, A164, c165, s166, A121, c122, s123, rfl, (L110.trans (L154.trans L161)), HS175, HO167, (HO124.mono (L154.trans L161))⟩
 clear h; have h := hv126; clear hv126
 have HS129 := HS.cons_nil
 have HS131 := HS129.cons_nil
 refine loopK (fun n_ a_ w_ => ∃ (f33 : FM) (A39 : Option Addr) (c40 : Nat) (s41 : Seg) (A45 : Option Addr) (c46 : Nat) (s47 : Seg) (stream38 : List Int) (rest44 : List S_parcel) (x50 : Int) (j37 : Nat → Value), FM.le f f33 ∧ St t w_ f33 (s47 :: s41 :: [(b1, .cells #[.slice A4 l3.fates.length c5, .slice A7 l3.way.length c8, .int .i64 l3.count] 88 (0, 0))] :: s9 :: H) ∧ Own (tInt .u8) 5 f33 A39 c40 s41 stream38 ∧ Own ty_parcel 117 f33 A45 c46 s47 rest44 ∧ link_line_take.l0 k l3 vt12 n_ stream38 rest44 x50 = some o29 ∧ a_ = ⟨⟨[pV b1 0, iV vt12, uV, uV, .slice none 0 0, .slice A39 stream38.length c40, .slice A45 rest44.length c46, uV, (j37 0), uV, uV, pV b1 0, pV b1 0, pV b1 1, .slice A7 l3.way.length c8, iV (l3.way.length : Int), iV x50] ++ (jr j37 1 16 (un 10 []))⟩, []⟩) k ⟨f, none, 0, [], none, 0, [], ([] : List Int), ([] : List S_parcel), 0, (jL []), fL, HS131, (Own.nil _), (Own.nil _), h, kr⟩ ?_
 clear h
 rintro n32 _ W35 ⟨f33, A39, c40, s41, A45, c46, s47, stream38, rest44, x50, j37, L34, HS36, HO42, HO48, h, rfl⟩ K30 hK31
 obtain _ | n32 := n32
 · exact nomatch h
 simp only [link_line_take.l0] at h
 refine wp_seq_k fun K51 hK52 => rl ?_
 refine seqL1 kr ?_
 refine nl (hK52 _ _ ?_)
 refine wp_seq_k (fun K53 hK54 => ?_)
 replace h := ite_some h; rcases h with ⟨c56, h⟩ | ⟨c56, h⟩
 rotate_left
 · have c56 : ¬ (x50 < (l3.way.length : Int)) := c56
   refine wpRwI 17 kr (decide_eq_false c56) ?_
   refine condF kr ?_
   refine wp_exit ?_
   refine hx24 _ _ ?_
   exact J127 f33 A39 c40 s41 A45 c46 s47 stream38 rest44 (jL [(j37 0), iV x50, fV, (j37 2), (j37 3), (j37 4), (j37 5), (j37 6), (j37 7), (j37 8), (j37 9), (j37 10), (j37 11), (j37 12), (j37 13), (j37 14), (j37 15), (j37 16)]) W35 _ L34 h HS36 HO42 HO48 kr
 have c56 : x50 < (l3.way.length : Int) := c56
 refine wpRwI 17 kr (decide_eq_true c56) ?_
 refine condT kr ?_
 refine wp_skip ?_
 refine hK54 _ _ ?_
 refine wp_seq_k (fun K57 hK58 => ?_)
 refine blockK (fun B59 hx60 hn61 hr62 ho63 hp64 => ?_)
 refine wp_seq_k fun K66 hK67 => rl ?_
 replace h := guard_some h; obtain ⟨c68, h⟩ := h
 have c68 : 0 ≤ x50 := c68
 obtain ⟨b72, of73, cs69, hA74, hr70, hc71⟩ := (HO10.mono L34).at (i := x50) c68 c56
 obtain ⟨A75, c75, rfl, HR75⟩ := hr70
 refine seqK rfl (does_run (run_indexE hA74 (sz := 2) rfl Try.underlying86 kr (kv (.slice A7 l3.way.length c8)) (kv (.int .i64 x50)) c68 c56 W35) ?_)
 refine seqK rfl (does_run (run_loadN (n := 2) rfl Try.underlying117 rfl kr (kv (pV b72 (of73 + (x50 : Int).toNat * 2))) (cs := [.int .i64 ((rd l3.way x50).vat), .slice A75 ((rd l3.way x50).bytes).length c75]) rfl (fun j_ hj_ => ((hc71 HS36.u3) j_ hj_))) ?_)
 refine seqK rfl (does_alloc (z := Value.agg #[.int .i64 0, .slice none 0 0]) (cs := #[.int .i64 0, .slice none 0 0]) rfl kr rfl HS36 ?_)
 intro b76 W77 HS78
 refine seqK rfl (does_storeA (vs := [.int .i64 ((rd l3.way x50).vat), .slice A75 ((rd l3.way x50).bytes).length c75]) rfl kr kr kr rfl (ones rfl) HS78 kr ?_)
 intro W80 HS81
 refine nl (hK67 _ _ ?_)
 refine wp_seq_k fun K82 hK83 => rl ?_
 refine seqL1 kr ?_
 refine seqK rfl (does_run (run_load rfl Try.underlying3 rfl (kv (pV b76 0)) (HS81.cell 0)) ?_)
 refine seqL2 kr ?_
 refine nl (hK83 _ _ ?_)
 replace h := ite_some h; rcases h with ⟨c85, h⟩ | ⟨c85, h⟩
 · have c85 : ((rd l3.way x50).vat) = vt12 := c85
   refine wpRwI 23 kr (beq_iff_eq.mpr c85) ?_
   refine condT kr ?_
   refine rl ?_
   refine seqL2 kr ?_
   refine seqK rfl (does_run (run_load rfl Try.underlying91 rfl (kv (pV b76 1)) (HS81.cell 1)) ?_)
   replace h := guard_some h; obtain ⟨c86, h⟩ := h
   have c86 : (stream38.length + ((rd l3.way x50).bytes).length) * 1 ≤ 140737488355328 := c86
   have HS87 := HS81.u2
   refine seqK rfl (does_append (e := (tInt .u8)) (E := 5) (xs := stream38) (ys := (rd l3.way x50).bytes) rfl (kv (.slice A39 stream38.length c40)) (kv (.slice A75 ((rd l3.way x50).bytes).length c75)) Try.underlying91 inf5 HO42 HS87 (HR75.rc HS87) c86 (lim63 c86 (by decide)) ?_)
   intro A88 c89 s90 W91 HS92 HO93
   refine seqL1 kr ?_
   refine nl ?_
   refine hn61 _ _ ?_
   refine hK58 _ _ ?_
   refine rl ?_
   refine seqL2 kr ?_
   refine nl ?_
   refine hK31 n32 _ _ (Nat.lt_succ_self _) ?_
   have HS137 := HS92.u4.u4.u2.u4.u4
   have HS138 := HS137.drop
   exact ⟨f33, A88, c89, s90, A45, c46, s47, (stream38 ++ (rd l3.way x50).bytes), rest44, (w64 (x50 + 1)), (jL [pV b76 0, tV, pV b72 (of73 + (x50 : Int).toNat * 2), .agg #[.int .i64 ((rd l3.way x50).vat), .slice A75 ((rd l3.way x50).bytes).length c75], pV b76 0, iV ((rd l3.way x50).vat), iV vt12, tV, .slice A39 stream38.length c40, pV b76 1, .slice A75 ((rd l3.way x50).bytes).length c75, .slice A88 (stream38 ++ (rd l3.way x50).bytes).length c89, (j37 12), (j37 13), (j37 14), (j37 15), iV (w64 (x50 + 1))]), L34, HS138, HO93, HO48, h, kr⟩
 have c85 : ¬ (((rd l3.way x50).vat) = vt12) := c85
 refine wpRwI 23 kr (beq_eq_false_iff_ne.mpr c85) ?_
 refine condF kr ?_
 refine rl ?_
 refine seqL1 kr ?_
 refine seqK rfl (does_run (run_loadN (n := 2) rfl Try.underlying117 rfl kr (kv (pV b76 0)) (cs := [.int .i64 ((rd l3.way x50).vat), .slice A75 ((rd l3.way x50).bytes).length c75]) rfl (HS81.cells 0 2 _ rfl)) ?_)
 refine seqK rfl (does_lit (e := ty_parcel) (E := 117) (vs := #[(0, Value.agg #[.int .i64 ((rd l3.way x50).vat), .slice A75 ((rd l3.way x50).bytes).length c75])]) (cs := #[.int .i64 ((rd l3.way x50).vat), .slice A75 ((rd l3.way x50).bytes).length c75]) (xs := ([(rd l3.way x50)] : List S_parcel)) rfl Try.underlying86 kr kr ⟨[.int .i64 ((rd l3.way x50).vat), .slice A75 ((rd l3.way x50).bytes).length c75], _, rfl, ⟨A75, c75, rfl, HR75⟩, rfl⟩ rfl HS81 ?_ (by decide))
 intro b94 W95 s96 HS97 _ HO98
 replace h := guard_some h; obtain ⟨c100, h⟩ := h
 have c100 : (rest44.length + 1) * 32 ≤ 140737488355328 := c100
 have HS102 := HS97.u2.u1
 refine seqK rfl (does_append1 (e := ty_parcel) (E := 117) (xs := rest44) (ys := ([(rd l3.way x50)] : List S_parcel)) rfl (kv (.slice A45 rest44.length c46)) (kv (.slice (some ⟨b94, 0, none⟩) ([(rd l3.way x50)] : List S_parcel).length 1)) Try.underlying86 inf117 HO48 HO98 HS102 c100 (lim63 c100 (by decide)) ?_)
 intro A103 c104 s105 W106 HS107 HO108
 refine seqL1 kr ?_
 refine nl ?_
 refine hn61 _ _ ?_
 refine hK58 _ _ ?_
 refine rl ?_
 refine seqL2 kr ?_
 refine nl ?_
 refine hK31 n32 _ _ (Nat.lt_succ_self _) ?_
 have HS143 := HS107.u4.u4.u4.u3.u4
 have HS144 := HS143.drop
 exact ⟨f33, A39, c40, s41, A103, c104, s105, stream38, (rest44 ++ ([(rd l3.way x50)] : List S_parcel)), (w64 (x50 + 1)), (jL [pV b76 0, tV, pV b72 (of73 + (x50 : Int).toNat * 2), .agg #[.int .i64 ((rd l3.way x50).vat), .slice A75 ((rd l3.way x50).bytes).length c75], pV b76 0, iV ((rd l3.way x50).vat), iV vt12, fV, (j37 8), (j37 9), (j37 10), (j37 11), .slice A45 rest44.length c46, .agg #[.int .i64 ((rd l3.way x50).vat), .slice A75 ((rd l3.way x50).bytes).length c75], .slice (some ⟨b94, 0, none⟩) ([(rd l3.way x50)] : List S_parcel).length 1, .slice A103 (rest44 ++ ([(rd l3.way x50)] : List S_parcel)).length c104, iV (w64 (x50 + 1))]), L34, HS144, HO42, HO108, h, kr⟩

set_option maxRecDepth 100000 in
set_option maxHeartbeats 4000000 in
theorem link_due.calls (k : Nat) (A2 : Option Addr) (c3 : Nat) (p1 : S_Packet) {t w : World} {f : FM} {H : List Seg} (HS : St t w f (H)) (HR4 : SlR (tInt .u8) f A2 c3 p1.Data) (rr1 : Int) (h : link_due k p1 = some rr1) :
    Calls Try.prog 42 #[.agg #[.int .i64 p1.Addr, .int .i64 p1.Kind, .int .i64 p1.Seq, .slice A2 p1.Data.length c3]] w (fun e w' => ∃ (g : FM), e = .returned (Value.int .i64 rr1) ∧ FM.le f g ∧ St t w' g (H)) := by
 unfold link_due at h
 refine enter Try.func42 rfl (tm := ⟨[(ag_Packet p1 A2 c3)] ++ (un 18 [])⟩) kr ?_
 intro B hret hnor hnp
 refine wp_seq_k fun K5 hK6 => rl ?_
 refine seqK rfl (does_box (cs := #[.int .i64 p1.Addr, .int .i64 p1.Kind, .int .i64 p1.Seq, .slice A2 p1.Data.length c3]) rfl (kv (.agg #[.int .i64 p1.Addr, .int .i64 p1.Kind, .int .i64 p1.Seq, .slice A2 p1.Data.length c3])) rfl HS ?_)
 intro b7 W8 HS9
 refine seqL1 kr ?_
 refine nl (hK6 _ _ ?_)
 refine wp_seq_k (fun K11 hK12 => ?_)
 refine wp_seq_k fun K13 hK14 => rl ?_
 refine seqL1 kr ?_
 refine seqK rfl (does_run (run_load rfl Try.underlying91 rfl (kv (pV b7 3)) (HS9.cell 3)) ?_)
 refine seqL2 kr ?_
 refine nl (hK14 _ _ ?_)
 replace h := ite_some h; rcases h with ⟨c16, h⟩ | ⟨c16, h⟩
 · have c16 : (p1.Data.length : Int) < 3 := c16
   refine wpRwI 6 kr (decide_eq_true c16) ?_
   refine condT kr ?_
   refine wp_seq_k fun K17 hK18 => rl ?_
   refine seqL1 kr ?_
   refine nl (hK18 _ _ ?_)
   refine wp_ret ?_
   refine hret _ _ ?_
   refine ends_still (v := Value.int .i64 (-1)) kr kr ?_
   have HS46 := HS9.drop
   injection h with h
   subst h
   exact ⟨f, rfl, FM.le.refl _, HS46⟩
 have c16 : ¬ ((p1.Data.length : Int) < 3) := c16
 refine wpRwI 6 kr (decide_eq_false c16) ?_
 refine condF kr ?_
 refine wp_skip ?_
 refine hK12 _ _ ?_
 refine wp_seq_k (fun K19 hK20 => ?_)
 refine heldG (S := Sg t f ([(b7, .cells #[.int .i64 p1.Addr, .int .i64 p1.Kind, .int .i64 p1.Seq, .slice A2 p1.Data.length c3] 93 (0, 0))] :: H) []) (n := 13) kr rfl HS9 ?_
 intro W21 HS22
 refine gL [0] (fuel := 12) (bA 13 1) rfl kr kr kr hnp (Sg.g0 (Sx.of [] fL HS22)) fun X23 => ?_
 refine gQ 1 rfl kr kr kr kr kr hnp X23 (fun hl_ hS_ => run_load rfl Try.underlying91 rfl (kv (pV b7 3)) (hS_.cell 3)) fun X24 => ?_
 replace h := guard_some h; obtain ⟨c25, h⟩ := h
 have c25 : 1 < (p1.Data.length : Int) := c25
 obtain ⟨b29, of30, cs26, hA31, hr27, hc28⟩ := HR4.at (i := 1) (by decide) c25
 obtain rfl := hr27
 refine gQ 2 rfl kr kr kr kr kr hnp X24 (fun hl_ hS_ => run_indexE hA31 (sz := 1) rfl Try.underlying91 kr (kv (.slice A2 p1.Data.length c3)) (kv (.int .i64 1)) (by decide) c25 _) fun X32 => ?_
 refine gQ 3 rfl kr kr kr kr kr hnp X32 (fun hl_ hS_ => run_load rfl Try.underlying5 rfl (kv (pV b29 (of30 + (1 : Int).toNat * 1))) ((hc28 hl_ hS_) 0 (by decide))) fun X33 => ?_
 refine gL [4, 5, 6] (fuel := 6) (bA 13 127) rfl kr kr kr hnp X33 fun X34 => ?_
 refine gQ 7 rfl kr kr kr kr kr hnp X34 (fun hl_ hS_ => run_load rfl Try.underlying91 rfl (kv (pV b7 3)) (hS_.cell 3)) fun X35 => ?_
 replace h := guard_some h; obtain ⟨c36, h⟩ := h
 have c36 : 2 < (p1.Data.length : Int) := c36
 obtain ⟨b40, of41, cs37, hA42, hr38, hc39⟩ := HR4.at (i := 2) (by decide) c36
 obtain rfl := hr38
 refine gQ 8 rfl kr kr kr kr kr hnp X35 (fun hl_ hS_ => run_indexE hA42 (sz := 1) rfl Try.underlying91 kr (kv (.slice A2 p1.Data.length c3)) (kv (.int .i64 2)) (by decide) c36 _) fun X43 => ?_
 refine gQ 9 rfl kr kr kr kr kr hnp X43 (fun hl_ hS_ => run_load rfl Try.underlying5 rfl (kv (pV b40 (of41 + (2 : Int).toNat * 1))) ((hc39 hl_ hS_) 0 (by decide))) fun X44 => ?_
 refine gL [10, 11, 12] (fuel := 0) (bA 13 8191) rfl kr kr kr hnp X44 fun X45 => ?_
 refine doneG kr ?_ _
 refine hK20 _ _ ?_
 refine wp_ret ?_
 refine hret _ _ ?_
 refine ends_still (v := Value.int .i64 (Go.bits .or .i64 (w64 ((w64 ((rd p1.Data 1))) * 2 ^ 8)) (w64 ((rd p1.Data 2))))) kr kr ?_
 have HS47 := HS22.drop
 injection h with h
 subst h
 exact ⟨f, rfl, FM.le.refl _, HS47⟩

end Go.Sp.S4
