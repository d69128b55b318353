import Derived.Test.YtiofgpdfnhihhaaGreatDoorProg
import Derived.Test.YtiofgpdfnhihhaaGreatDoorSpCopy
import Derived.Test.YtiofgpdfnhihhaaGreatDoorFF3
import Derived.Test.YtiofgpdfnhihhaaGreatDoorSpStr
import Derived.Test.YtiofgpdfnhihhaaGreatDoorSpLib
import Derived.Test.YtiofgpdfnhihhaaGreatDoorSpBld
import Derived.Test.YtiofgpdfnhihhaaGreatDoorConv
import Derived.Test.YtiofgpdfnhihhaaGreatDoorLibs
import Derived.Test.YtiofgpdfnhihhaaGreatDoorSpGrow
import Derived.Test.YtiofgpdfnhihhaaGreatDoorSpRound
import Derived.Test.YtiofgpdfnhihhaaGreatDoorKF3n0
import Derived.Test.YtiofgpdfnhihhaaGreatDoorKF3n1
import Derived.Test.YtiofgpdfnhihhaaGreatDoorKF3n2
import Derived.Test.YtiofgpdfnhihhaaGreatDoorKF3n3
namespace Go.Sp.F3
open Go Go.Sp Go.Proofs
set_option linter.unusedVariables false
attribute [local irreducible] wpList AnyL Code.wp Calls Does Code.wpIn wpListIn CallsIn bodyPostM LeavesInM
set_option maxRecDepth 100000 in
set_option maxHeartbeats 4000000 in
theorem squeeze_writer_put.calls (k : Nat) (b1 : Nat) (A4 : Option Addr) (c5 : Nat) (s6 : Seg) (vw3 : S_writer) (v9 : Int) (n10 : Int) {t w : World} {f : FM} {H : List Seg} (HS : St t w f ([(b1, .cells #[.slice A4 vw3.out.length c5, .int .i64 vw3.used] 121 (0, 0))] :: s6 :: H)) (HO7 : Own (tInt .u8) 5 f A4 c5 s6 vw3.out) (rr1 : List Int) (rr2 : Int) (h : squeeze_writer_put k vw3 v9 n10 = some (rr1, rr2)) :
    Calls Tryz.prog 67 #[.pointer (some ⟨b1, 0, none⟩), .int .i64 v9, .int .i64 n10] w (fun e w' => ∃ (g : FM) (A342 : Option Addr) (c343 : Nat) (s344 : Seg), e = .returned (Value.tuple #[]) ∧ FM.le f g ∧ St t w' g (s344 :: [(b1, .cells #[.slice A342 rr1.length c343, .int .i64 rr2] 121 (0, 0))] :: H) ∧ Own (tInt .u8) 5 g A342 c343 s344 rr1) := by
 unfold squeeze_writer_put at h
 refine enter Tryz.func67 rfl (tm := #[pV b1 0, iV v9, iV n10, uV, uV, uV, uV, uV, uV, uV, uV, uV, uV, uV, uV, uV, uV, uV, uV, uV, uV, uV, uV, uV, uV, uV, uV, uV, uV, uV, uV, uV, uV, uV, uV, uV, uV, uV, uV, uV, uV, uV, uV, uV, uV, uV, uV, uV, uV, uV, uV, uV, uV, uV, uV, uV, uV, uV, uV, uV]) kr ?_
 intro B hret hnor hnp
 refine wp_seq_k fun K11 hK12 => rl ?_
 refine seqL3 kr ?_
 refine nl (hK12 _ _ ?_)
 refine blockK (fun B13 hx14 hn15 hr16 ho17 hp18 => ?_)
 have hq_ := bind_some h; clear h; obtain ⟨o222, hv338, h⟩ := hq_
 have J339 : ∀ (f327 : FM) (A333 : Option Addr) (c334 : Nat) (s335 : Seg) (x332 : List Int) (x337 : Int) (j331 : Nat → Value) (W329 : World) (a_ : Act), FM.le f f327 → some ((x332, x337)) = some o222 → St t W329 f327 ([(b1, .cells #[.slice A333 x332.length c334, .int .i64 x337] 121 (0, 0))] :: s335 :: H) → Own (tInt .u8) 5 f327 A333 c334 s335 x332 → a_ = ⟨#[pV b1 0, iV v9, (j331 0), uV, uV, uV, iV n10, iV (w64 (n10 - 1)), (j331 1), (j331 2), (j331 3), (j331 4), (j331 5), (j331 6), (j331 7), (j331 8), (j331 9), (j331 10), (j331 11), (j331 12), (j331 13), (j331 14), (j331 15), (j331 16), (j331 17), (j331 18), (j331 19), (j331 20), (j331 21), (j331 22), (j331 23), (j331 24), (j331 25), (j331 26), (j331 27), (j331 28), (j331 29), (j331 30), (j331 31), (j331 32), (j331 33), (j331 34), (j331 35), (j331 36), (j331 37), (j331 38), (j331 39), (j331 40), (j331 41), (j331 42), (j331 43), (j331 44), (j331 45), (j331 46), (j331 47), (j331 48), (j331 49), (j331 50), (j331 51), (j331 52)], []⟩ → B Exit.normal a_ W329 := by
  intro f327 A333 c334 s335 x332 x337 j331 W329 a_ L328 hj340 HS330 HO336 hfr_; subst hfr_
  injection hj340 with hj340; subst hj340; try dsimp only at h
  refine hnor _ _ ?_
  refine ends_still (v := Value.tuple #[]) kr kr ?_
  have HS341 := HS330.u1
  injection h with h
  injection h with h0_ h
  subst h0_ h
  exact ⟨f327, A333, c334, s335, rfl, L328, HS341, HO336⟩
 clear h; have h := hv338; clear hv338
 refine loopK (fun n_ a_ w_ => ∃ (f226 : FM) (A233 : Option Addr) (c234 : Nat) (s235 : Seg) (n231 : Int) (x232 : List Int) (x237 : Int) (j230 : Nat → Value), FM.le f f226 ∧ St t w_ f226 ([(b1, .cells #[.slice A233 x232.length c234, .int .i64 x237] 121 (0, 0))] :: s235 :: H) ∧ Own (tInt .u8) 5 f226 A233 c234 s235 x232 ∧ squeeze_writer_put.l0 k v9 n_ n231 x232 x237 = some o222 ∧ a_ = ⟨#[pV b1 0, iV v9, iV n231, uV, uV, uV, iV n10, iV (w64 (n10 - 1)), (j230 0), (j230 1), (j230 2), (j230 3), (j230 4), (j230 5), (j230 6), (j230 7), (j230 8), (j230 9), (j230 10), (j230 11), (j230 12), (j230 13), (j230 14), (j230 15), (j230 16), (j230 17), (j230 18), (j230 19), (j230 20), (j230 21), (j230 22), (j230 23), (j230 24), (j230 25), (j230 26), (j230 27), (j230 28), (j230 29), (j230 30), (j230 31), (j230 32), (j230 33), (j230 34), (j230 35), (j230 36), (j230 37), (j230 38), (j230 39), (j230 40), (j230 41), (j230 42), (j230 43), (j230 44), (j230 45), (j230 46), (j230 47), (j230 48), (j230 49), (j230 50), (j230 51)], []⟩) k ⟨f, A4, c5, s6, (w64 (n10 - 1)), vw3.out, vw3.used, (jL []), fL, HS, HO7, h, kr⟩ ?_
 clear h
 rintro n225 _ W228 ⟨f226, A233, c234, s235, n231, x232, x237, j230, L227, HS229, HO236, h, rfl⟩ K223 hK224
 obtain _ | n225 := n225
 · exact nomatch h
 simp only [squeeze_writer_put.l0] at h
 refine wp_seq_k (fun K238 hK239 => ?_)
 refine wp_seq_k fun K240 hK241 => rl ?_
 refine seqL2 kr ?_
 refine nl (hK241 _ _ ?_)
 have hq_ := ite_some h; clear h; rcases hq_ with ⟨c243, h⟩ | ⟨c243, h⟩
 · have c243 : n231 ≥ 0 := c243
   refine wpRwI 9 kr (decide_eq_true c243) ?_
   refine condT kr ?_
   refine wp_skip ?_
   refine hK239 _ _ ?_
   refine wp_seq_k (fun K244 hK245 => ?_)
   refine blockK (fun B246 hx247 hn248 hr249 ho250 hp251 => ?_)
   refine wp_seq_k (fun K253 hK254 => ?_)
   refine wp_seq_k fun K255 hK256 => rl ?_
   refine seqL3 kr ?_
   refine seqK rfl (does_run (run_load rfl Tryz.underlying3 rfl (kv (.pointer (some ⟨b1, 1, none⟩))) (HS229.cell 1)) ?_)
   refine seqL2 kr ?_
   refine nl (hK256 _ _ ?_)
   have hq_ := ite_some h; clear h; rcases hq_ with ⟨c258, h⟩ | ⟨c258, h⟩
   · have c258 : (Int.tmod x237 8) = 0 := c258
     refine wpRwI 17 kr (beq_iff_eq.mpr c258) ?_
     refine condT kr ?_
     refine rl ?_
     refine seqL4 kr ?_
     refine seqK rfl (does_run (run_load rfl Tryz.underlying30 rfl (kv (.pointer (some ⟨b1, 0, none⟩))) (HS229.cell 0)) ?_)
     refine seqK rfl (does_lit (e := (tInt .u8)) (E := 5) (vs := #[(0, Value.int .u8 0)]) (cs := #[.int .u8 0]) (xs := ([0] : List Int)) rfl Tryz.underlying30 kr kr ⟨[.int .u8 0], _, rfl, rfl, rfl⟩ rfl HS229 ?_ (by decide))
     intro b259 W260 s261 HS262 _ HO263
     have hq_ := guard_some h; clear h; obtain ⟨c265, h⟩ := hq_
     have c265 : (x232.length + 1) * 1 ≤ 140737488355328 := c265
     have HS267 := HS262.u2.u1
     refine seqK rfl (does_append1 (e := (tInt .u8)) (E := 5) (xs := x232) (ys := ([0] : List Int)) rfl (kv (.slice A233 x232.length c234)) (kv (.slice (some ⟨b259, 0, none⟩) ([0] : List Int).length 1)) Tryz.underlying30 inf5 HO236 HO263 HS267 c265 (lim63 c265 (by decide)) ?_)
     intro A268 c269 s270 W271 HS272 HO273
     have HS274 := HS272.u1
     refine seqL2 kr ?_
     refine seqK rfl (does_store (n := 1) (vs := [.slice A268 (x232 ++ ([0] : List Int)).length c269]) (cs' := #[.slice A268 (x232 ++ ([0] : List Int)).length c269, .int .i64 x237]) rfl kr (kv (.pointer (some ⟨b1, 0, none⟩))) (kv (.slice A268 (x232 ++ ([0] : List Int)).length c269)) rfl rfl (ones rfl) HS274 (Nat.le_of_ble_eq_true rfl) kr ?_)
     intro W275 HS276
     refine nl (hK254 _ _ ?_)
     refine wp_seq_k (fun K277 hK278 => ?_)
     have HS280 := HS276.u1.u1
     refine heldG (S := Sg t f226 (H) [(26, [(b1, .cells #[.slice A268 (x232 ++ ([0] : List Int)).length c269, .int .i64 x237] 121 (0, 0))]), (26, s270)]) (n := 27) kr rfl HS280 ?_
     intro W281 HS282
     refine takeGL [0, 1, 2] (n := 27) (fuel := 24) #[true, true, true, false, false, false, false, false, false, false, false, false, false, false, false, false, false, false, false, false, false, false, false, false, false, false, false] rfl kr kr kr (fun ch_ a_ w_ q_ => (fun ch_ a_ w_ q_ => hnp ch_ a_ w_ (hp18 ch_ a_ w_ q_)) ch_ a_ w_ (hp251 ch_ a_ w_ q_)) (Sg.g2 (Sx.of [[(b1, .cells #[.slice A268 (x232 ++ ([0] : List Int)).length c269, .int .i64 x237] 121 (0, 0))], s270] fL HS282) (fun _ => St.only [] HS282 fL) (fun _ => St.only [[(b1, .cells #[.slice A268 (x232 ++ ([0] : List Int)).length c269, .int .i64 x237] 121 (0, 0))]] HS282 fL)) ?_
     refine takeGQ 3 [26] rfl kr kr kr kr kr kr (fun ch_ a_ w_ q_ => (fun ch_ a_ w_ q_ => hnp ch_ a_ w_ (hp18 ch_ a_ w_ q_)) ch_ a_ w_ (hp251 ch_ a_ w_ q_)) (Sg.g2 (Sx.of [[(b1, .cells #[.slice A268 (x232 ++ ([0] : List Int)).length c269, .int .i64 x237] 121 (0, 0))], s270] fL HS282) (fun _ => St.only [] HS282 fL) (fun _ => St.only [[(b1, .cells #[.slice A268 (x232 ++ ([0] : List Int)).length c269, .int .i64 x237] 121 (0, 0))]] HS282 fL)) (fun w_ hw_ => by obtain ⟨g_, hl_, hS_⟩ := hw_.seg (j := 26) (s := [(b1, .cells #[.slice A268 (x232 ++ ([0] : List Int)).length c269, .int .i64 x237] 121 (0, 0))]) (by simp) (by simp); exact run_load rfl Tryz.underlying30 rfl (kv (.pointer (some ⟨b1, 0, none⟩))) (hS_.cell 0)) ?_
     refine takeGL [4, 5, 6] (n := 23) (fuel := 20) #[true, true, true, true, true, true, true, false, false, false, false, false, false, false, false, false, false, false, false, false, false, false, false, false, false, false, false] rfl kr kr kr (fun ch_ a_ w_ q_ => (fun ch_ a_ w_ q_ => hnp ch_ a_ w_ (hp18 ch_ a_ w_ q_)) ch_ a_ w_ (hp251 ch_ a_ w_ q_)) (Sg.g2 (Sx.of [[(b1, .cells #[.slice A268 (x232 ++ ([0] : List Int)).length c269, .int .i64 x237] 121 (0, 0))], s270] fL HS282) (fun _ => St.only [] HS282 fL) (fun _ => St.only [[(b1, .cells #[.slice A268 (x232 ++ ([0] : List Int)).length c269, .int .i64 x237] 121 (0, 0))]] HS282 fL)) ?_
     refine takeGQ 7 [26] rfl kr kr kr kr kr kr (fun ch_ a_ w_ q_ => (fun ch_ a_ w_ q_ => hnp ch_ a_ w_ (hp18 ch_ a_ w_ q_)) ch_ a_ w_ (hp251 ch_ a_ w_ q_)) (Sg.g2 (Sx.of [[(b1, .cells #[.slice A268 (x232 ++ ([0] : List Int)).length c269, .int .i64 x237] 121 (0, 0))], s270] fL HS282) (fun _ => St.only [] HS282 fL) (fun _ => St.only [[(b1, .cells #[.slice A268 (x232 ++ ([0] : List Int)).length c269, .int .i64 x237] 121 (0, 0))]] HS282 fL)) (fun w_ hw_ => by obtain ⟨g_, hl_, hS_⟩ := hw_.seg (j := 26) (s := [(b1, .cells #[.slice A268 (x232 ++ ([0] : List Int)).length c269, .int .i64 x237] 121 (0, 0))]) (by simp) (by simp); exact run_load rfl Tryz.underlying30 rfl (kv (.pointer (some ⟨b1, 0, none⟩))) (hS_.cell 0)) ?_
     have hq_ := guard_some h; clear h; obtain ⟨c283, h⟩ := hq_
     have c283 : 0 ≤ (w64 (((x232 ++ ([0] : List Int)).length : Int) - 1)) := c283
     have hq_ := guard_some h; clear h; obtain ⟨c284, h⟩ := hq_
     have c284 : (w64 (((x232 ++ ([0] : List Int)).length : Int) - 1)) < ((x232 ++ ([0] : List Int)).length : Int) := c284
     obtain ⟨b288, of289, cs285, hA290, hr286, hc287⟩ := HO273.at (i := w64 (((x232 ++ ([0] : List Int)).length : Int) - 1)) c283 c284
     obtain rfl := hr286
     refine takeGL [8, 9] (n := 19) (fuel := 17) #[true, true, true, true, true, true, true, true, true, true, false, false, false, false, false, false, false, false, false, false, false, false, false, false, false, false, false] rfl kr kr kr (fun ch_ a_ w_ q_ => (fun ch_ a_ w_ q_ => hnp ch_ a_ w_ (hp18 ch_ a_ w_ q_)) ch_ a_ w_ (hp251 ch_ a_ w_ q_)) (Sg.g2 (Sx.of [[(b1, .cells #[.slice A268 (x232 ++ ([0] : List Int)).length c269, .int .i64 x237] 121 (0, 0))], s270] fL HS282) (fun _ => St.only [] HS282 fL) (fun _ => St.only [[(b1, .cells #[.slice A268 (x232 ++ ([0] : List Int)).length c269, .int .i64 x237] 121 (0, 0))]] HS282 fL)) ?_
     refine takeGQ 10 [] rfl kr kr kr kr kr kr (fun ch_ a_ w_ q_ => (fun ch_ a_ w_ q_ => hnp ch_ a_ w_ (hp18 ch_ a_ w_ q_)) ch_ a_ w_ (hp251 ch_ a_ w_ q_)) (Sg.g2 (Sx.of [[(b1, .cells #[.slice A268 (x232 ++ ([0] : List Int)).length c269, .int .i64 x237] 121 (0, 0))], s270] fL HS282) (fun _ => St.only [] HS282 fL) (fun _ => St.only [[(b1, .cells #[.slice A268 (x232 ++ ([0] : List Int)).length c269, .int .i64 x237] 121 (0, 0))]] HS282 fL)) (fun w_ hw_ => by obtain ⟨g_, hl_, hS_⟩ := hw_.st; exact run_indexE hA290 (sz := 1) rfl Tryz.underlying30 kr (kv (.slice A268 (x232 ++ ([0] : List Int)).length c269)) (kv (.int .i64 (w64 (((x232 ++ ([0] : List Int)).length : Int) - 1)))) c283 c284 w_) ?_
     refine takeGQ 11 [26] rfl kr kr kr kr kr kr (fun ch_ a_ w_ q_ => (fun ch_ a_ w_ q_ => hnp ch_ a_ w_ (hp18 ch_ a_ w_ q_)) ch_ a_ w_ (hp251 ch_ a_ w_ q_)) (Sg.g2 (Sx.of [[(b1, .cells #[.slice A268 (x232 ++ ([0] : List Int)).length c269, .int .i64 x237] 121 (0, 0))], s270] fL HS282) (fun _ => St.only [] HS282 fL) (fun _ => St.only [[(b1, .cells #[.slice A268 (x232 ++ ([0] : List Int)).length c269, .int .i64 x237] 121 (0, 0))]] HS282 fL)) (fun w_ hw_ => by obtain ⟨g_, hl_, hS_⟩ := hw_.seg (j := 26) (s := s270) (by simp) (by simp); exact run_load rfl Tryz.underlying5 rfl (kv (.pointer (some ⟨b288, of289 + (w64 (((x232 ++ ([0] : List Int)).length : Int) - 1) : Int).toNat * 1, none⟩))) ((hc287 hS_) 0 (by decide))) ?_
     have hq_ := guard_some h; clear h; obtain ⟨c291, h⟩ := hq_
     have c291 : ¬ (n231 < 0) := c291
     refine takeGL [12, 13] (n := 15) (fuel := 13) #[true, true, true, true, true, true, true, true, true, true, true, true, true, true, false, false, false, false, false, false, false, false, false, false, false, false, false] rfl kr kr kr (fun ch_ a_ w_ q_ => (fun ch_ a_ w_ q_ => hnp ch_ a_ w_ (hp18 ch_ a_ w_ q_)) ch_ a_ w_ (hp251 ch_ a_ w_ q_)) (Sg.g2 (Sx.of [[(b1, .cells #[.slice A268 (x232 ++ ([0] : List Int)).length c269, .int .i64 x237] 121 (0, 0))], s270] fL HS282) (fun _ => St.only [] HS282 fL) (fun _ => St.only [[(b1, .cells #[.slice A268 (x232 ++ ([0] : List Int)).length c269, .int .i64 x237] 121 (0, 0))]] HS282 fL)) ?_
     refine takeGQ 14 [] rfl kr kr kr kr kr kr (fun ch_ a_ w_ q_ => (fun ch_ a_ w_ q_ => hnp ch_ a_ w_ (hp18 ch_ a_ w_ q_)) ch_ a_ w_ (hp251 ch_ a_ w_ q_)) (Sg.g2 (Sx.of [[(b1, .cells #[.slice A268 (x232 ++ ([0] : List Int)).length c269, .int .i64 x237] 121 (0, 0))], s270] fL HS282) (fun _ => St.only [] HS282 fL) (fun _ => St.only [[(b1, .cells #[.slice A268 (x232 ++ ([0] : List Int)).length c269, .int .i64 x237] 121 (0, 0))]] HS282 fL)) (fun w_ hw_ => by obtain ⟨g_, hl_, hS_⟩ := hw_.st; exact run_shr rfl (kv (.int .i64 v9)) (kv (.int .i64 n231)) c291 w_) ?_
     refine takeGL [15, 16, 17, 18, 19] (n := 12) (fuel := 7) #[true, true, true, true, true, true, true, true, true, true, true, true, true, true, true, true, true, true, true, true, false, false, false, false, false, false, false] rfl kr kr kr (fun ch_ a_ w_ q_ => (fun ch_ a_ w_ q_ => hnp ch_ a_ w_ (hp18 ch_ a_ w_ q_)) ch_ a_ w_ (hp251 ch_ a_ w_ q_)) (Sg.g2 (Sx.of [[(b1, .cells #[.slice A268 (x232 ++ ([0] : List Int)).length c269, .int .i64 x237] 121 (0, 0))], s270] fL HS282) (fun _ => St.only [] HS282 fL) (fun _ => St.only [[(b1, .cells #[.slice A268 (x232 ++ ([0] : List Int)).length c269, .int .i64 x237] 121 (0, 0))]] HS282 fL)) ?_
     refine takeGQ 20 [26] rfl kr kr kr kr kr kr (fun ch_ a_ w_ q_ => (fun ch_ a_ w_ q_ => hnp ch_ a_ w_ (hp18 ch_ a_ w_ q_)) ch_ a_ w_ (hp251 ch_ a_ w_ q_)) (Sg.g2 (Sx.of [[(b1, .cells #[.slice A268 (x232 ++ ([0] : List Int)).length c269, .int .i64 x237] 121 (0, 0))], s270] fL HS282) (fun _ => St.only [] HS282 fL) (fun _ => St.only [[(b1, .cells #[.slice A268 (x232 ++ ([0] : List Int)).length c269, .int .i64 x237] 121 (0, 0))]] HS282 fL)) (fun w_ hw_ => by obtain ⟨g_, hl_, hS_⟩ := hw_.seg (j := 26) (s := [(b1, .cells #[.slice A268 (x232 ++ ([0] : List Int)).length c269, .int .i64 x237] 121 (0, 0))]) (by simp) (by simp); exact run_load rfl Tryz.underlying3 rfl (kv (.pointer (some ⟨b1, 1, none⟩))) (hS_.cell 1)) ?_
     have hq_ := guard_some h; clear h; obtain ⟨c292, h⟩ := hq_
     have c292 : ¬ ((w64 (7 - (Int.tmod x237 8))) < 0) := c292
     refine takeGL [21, 22] (n := 6) (fuel := 4) #[true, true, true, true, true, true, true, true, true, true, true, true, true, true, true, true, true, true, true, true, true, true, true, false, false, false, false] rfl kr kr kr (fun ch_ a_ w_ q_ => (fun ch_ a_ w_ q_ => hnp ch_ a_ w_ (hp18 ch_ a_ w_ q_)) ch_ a_ w_ (hp251 ch_ a_ w_ q_)) (Sg.g2 (Sx.of [[(b1, .cells #[.slice A268 (x232 ++ ([0] : List Int)).length c269, .int .i64 x237] 121 (0, 0))], s270] fL HS282) (fun _ => St.only [] HS282 fL) (fun _ => St.only [[(b1, .cells #[.slice A268 (x232 ++ ([0] : List Int)).length c269, .int .i64 x237] 121 (0, 0))]] HS282 fL)) ?_
     refine takeGQ 23 [] rfl kr kr kr kr kr kr (fun ch_ a_ w_ q_ => (fun ch_ a_ w_ q_ => hnp ch_ a_ w_ (hp18 ch_ a_ w_ q_)) ch_ a_ w_ (hp251 ch_ a_ w_ q_)) (Sg.g2 (Sx.of [[(b1, .cells #[.slice A268 (x232 ++ ([0] : List Int)).length c269, .int .i64 x237] 121 (0, 0))], s270] fL HS282) (fun _ => St.only [] HS282 fL) (fun _ => St.only [[(b1, .cells #[.slice A268 (x232 ++ ([0] : List Int)).length c269, .int .i64 x237] 121 (0, 0))]] HS282 fL)) (fun w_ hw_ => by obtain ⟨g_, hl_, hS_⟩ := hw_.st; exact run_shl rfl (kv (.int .u8 (u8 (Go.bits .and .i64 (shr v9 (min (n231).toNat 64)) 1)))) (kv (.int .i64 (w64 (7 - (Int.tmod x237 8))))) c292 w_) ?_
     refine takeGL [24] (n := 3) (fuel := 2) #[true, true, true, true, true, true, true, true, true, true, true, true, true, true, true, true, true, true, true, true, true, true, true, true, true, false, false] rfl kr kr kr (fun ch_ a_ w_ q_ => (fun ch_ a_ w_ q_ => hnp ch_ a_ w_ (hp18 ch_ a_ w_ q_)) ch_ a_ w_ (hp251 ch_ a_ w_ q_)) (Sg.g2 (Sx.of [[(b1, .cells #[.slice A268 (x232 ++ ([0] : List Int)).length c269, .int .i64 x237] 121 (0, 0))], s270] fL HS282) (fun _ => St.only [] HS282 fL) (fun _ => St.only [[(b1, .cells #[.slice A268 (x232 ++ ([0] : List Int)).length c269, .int .i64 x237] 121 (0, 0))]] HS282 fL)) ?_
     refine takeGQ 25 [] rfl kr kr kr kr kr kr (fun ch_ a_ w_ q_ => (fun ch_ a_ w_ q_ => hnp ch_ a_ w_ (hp18 ch_ a_ w_ q_)) ch_ a_ w_ (hp251 ch_ a_ w_ q_)) (Sg.g2 (Sx.of [[(b1, .cells #[.slice A268 (x232 ++ ([0] : List Int)).length c269, .int .i64 x237] 121 (0, 0))], s270] fL HS282) (fun _ => St.only [] HS282 fL) (fun _ => St.only [[(b1, .cells #[.slice A268 (x232 ++ ([0] : List Int)).length c269, .int .i64 x237] 121 (0, 0))]] HS282 fL)) (fun w_ hw_ => by obtain ⟨g_, hl_, hS_⟩ := hw_.st; exact run_indexE hA290 (sz := 1) rfl Tryz.underlying30 kr (kv (.slice A268 (x232 ++ ([0] : List Int)).length c269)) (kv (.int .i64 (w64 (((x232 ++ ([0] : List Int)).length : Int) - 1)))) c283 c284 w_) ?_
     have HS293 := HS282.u1
     refine takeGE 26 kr rfl kr (does_put (e := (tInt .u8)) (E := 5) (vs := [.int .u8 (Go.bits .or .u8 (rd (x232 ++ ([0] : List Int)) (w64 (((x232 ++ ([0] : List Int)).length : Int) - 1))) (u8 ((u8 (Go.bits .and .i64 (shr v9 (min (n231).toNat 64)) 1)) * 2 ^ (min (w64 (7 - (Int.tmod x237 8))).toNat 8))))]) (u := Go.bits .or .u8 (rd (x232 ++ ([0] : List Int)) (w64 (((x232 ++ ([0] : List Int)).length : Int) - 1))) (u8 ((u8 (Go.bits .and .i64 (shr v9 (min (n231).toNat 64)) 1)) * 2 ^ (min (w64 (7 - (Int.tmod x237 8))).toNat 8)))) (i := w64 (((x232 ++ ([0] : List Int)).length : Int) - 1)) rfl kr HO273 HS293 hA290 (kv (.pointer (some ⟨b288, of289 + (w64 (((x232 ++ ([0] : List Int)).length : Int) - 1) : Int).toNat * 1, none⟩))) (kv (.int .u8 (Go.bits .or .u8 (rd (x232 ++ ([0] : List Int)) (w64 (((x232 ++ ([0] : List Int)).length : Int) - 1))) (u8 ((u8 (Go.bits .and .i64 (shr v9 (min (n231).toNat 64)) 1)) * 2 ^ (min (w64 (7 - (Int.tmod x237 8))).toNat 8)))))) rfl rfl c283 c284 ?_)
     intro W294 s295 HS296 HO297
     have HS298 : St t W294 f226 (s295 :: [(b1, .cells #[.slice A268 ((x232 ++ ([0] : List Int)).set (w64 (((x232 ++ ([0] : List Int)).length : Int) - 1)).toNat (Go.bits .or .u8 (rd (x232 ++ ([0] : List Int)) (w64 (((x232 ++ ([0] : List Int)).length : Int) - 1))) (u8 ((u8 (Go.bits .and .i64 (shr v9 (min (n231).toNat 64)) 1)) * 2 ^ (min (w64 (7 - (Int.tmod x237 8))).toNat 8))))).length c269, .int .i64 x237] 121 (0, 0))] :: H) := by rw [show ((x232 ++ ([0] : List Int)).set (w64 (((x232 ++ ([0] : List Int)).length : Int) - 1)).toNat (Go.bits .or .u8 (rd (x232 ++ ([0] : List Int)) (w64 (((x232 ++ ([0] : List Int)).length : Int) - 1))) (u8 ((u8 (Go.bits .and .i64 (shr v9 (min (n231).toNat 64)) 1)) * 2 ^ (min (w64 (7 - (Int.tmod x237 8))).toNat 8))))).length = (x232 ++ ([0] : List Int)).length from List.length_set]; exact HS296
     refine ⟨(Sg.g2 (Sx.of [s295, [(b1, .cells #[.slice A268 ((x232 ++ ([0] : List Int)).set (w64 (((x232 ++ ([0] : List Int)).length : Int) - 1)).toNat (Go.bits .or .u8 (rd (x232 ++ ([0] : List Int)) (w64 (((x232 ++ ([0] : List Int)).length : Int) - 1))) (u8 ((u8 (Go.bits .and .i64 (shr v9 (min (n231).toNat 64)) 1)) * 2 ^ (min (w64 (7 - (Int.tmod x237 8))).toNat 8))))).length c269, .int .i64 x237] 121 (0, 0))]] fL HS298) (fun hl_ => Bool.noConfusion (show true = false from hl_)) (fun hl_ => Bool.noConfusion (show true = false from hl_))), ?_⟩
     refine gateRwS 24 (A := A268) (m := (x232 ++ ([0] : List Int)).length) (n := ((x232 ++ ([0] : List Int)).set (w64 (((x232 ++ ([0] : List Int)).length : Int) - 1)).toNat (Go.bits .or .u8 (rd (x232 ++ ([0] : List Int)) (w64 (((x232 ++ ([0] : List Int)).length : Int) - 1))) (u8 ((u8 (Go.bits .and .i64 (shr v9 (min (n231).toNat 64)) 1)) * 2 ^ (min (w64 (7 - (Int.tmod x237 8))).toNat 8))))).length) (c := c269) kr (List.length_set).symm ?_
     refine gateRwS 30 (A := A268) (m := (x232 ++ ([0] : List Int)).length) (n := ((x232 ++ ([0] : List Int)).set (w64 (((x232 ++ ([0] : List Int)).length : Int) - 1)).toNat (Go.bits .or .u8 (rd (x232 ++ ([0] : List Int)) (w64 (((x232 ++ ([0] : List Int)).length : Int) - 1))) (u8 ((u8 (Go.bits .and .i64 (shr v9 (min (n231).toNat 64)) 1)) * 2 ^ (min (w64 (7 - (Int.tmod x237 8))).toNat 8))))).length) (c := c269) kr (List.length_set).symm ?_
     refine gateRwS 34 (A := A268) (m := (x232 ++ ([0] : List Int)).length) (n := ((x232 ++ ([0] : List Int)).set (w64 (((x232 ++ ([0] : List Int)).length : Int) - 1)).toNat (Go.bits .or .u8 (rd (x232 ++ ([0] : List Int)) (w64 (((x232 ++ ([0] : List Int)).length : Int) - 1))) (u8 ((u8 (Go.bits .and .i64 (shr v9 (min (n231).toNat 64)) 1)) * 2 ^ (min (w64 (7 - (Int.tmod x237 8))).toNat 8))))).length) (c := c269) kr (List.length_set).symm ?_
     refine doneG kr ?_ _
     refine hK278 _ _ ?_
     refine rl ?_
     refine seqL3 kr ?_
     refine seqK rfl (does_run (run_load rfl Tryz.underlying3 rfl (kv (.pointer (some ⟨b1, 1, none⟩))) (HS298.u1.cell 1)) ?_)
     have HS299 := HS298.u1
     refine seqL3 kr ?_
     refine seqK rfl (does_store (n := 1) (vs := [.int .i64 (w64 (x237 + 1))]) (cs' := #[.slice A268 ((x232 ++ ([0] : List Int)).set (w64 (((x232 ++ ([0] : List Int)).length : Int) - 1)).toNat (Go.bits .or .u8 (rd (x232 ++ ([0] : List Int)) (w64 (((x232 ++ ([0] : List Int)).length : Int) - 1))) (u8 ((u8 (Go.bits .and .i64 (shr v9 (min (n231).toNat 64)) 1)) * 2 ^ (min (w64 (7 - (Int.tmod x237 8))).toNat 8))))).length c269, .int .i64 (w64 (x237 + 1))]) rfl kr (kv (.pointer (some ⟨b1, 1, none⟩))) (kv (.int .i64 (w64 (x237 + 1)))) rfl rfl (ones rfl) HS299 (Nat.le_of_ble_eq_true rfl) kr ?_)
     intro W300 HS301
     refine nl ?_
     refine hn248 _ _ ?_
     refine hK245 _ _ ?_
     refine rl ?_
     refine seqL3 kr ?_
     refine nl ?_
     refine hK224 n225 _ _ (Nat.lt_succ_self _) ?_
     exact ⟨f226, A268, c269, s295, (w64 (n231 - 1)), ((x232 ++ ([0] : List Int)).set (w64 (((x232 ++ ([0] : List Int)).length : Int) - 1)).toNat (Go.bits .or .u8 (rd (x232 ++ ([0] : List Int)) (w64 (((x232 ++ ([0] : List Int)).length : Int) - 1))) (u8 ((u8 (Go.bits .and .i64 (shr v9 (min (n231).toNat 64)) 1)) * 2 ^ (min (w64 (7 - (Int.tmod x237 8))).toNat 8))))), (w64 (x237 + 1)), (jL [iV n231, tV, iV n231, iV (w64 (n231 - 1)), .pointer (some ⟨b1, 0, none⟩), .pointer (some ⟨b1, 0, none⟩), .pointer (some ⟨b1, 1, none⟩), iV x237, iV (Int.tmod x237 8), tV, .pointer (some ⟨b1, 0, none⟩), .pointer (some ⟨b1, 0, none⟩), .pointer (some ⟨b1, 0, none⟩), .pointer (some ⟨b1, 0, none⟩), .slice A233 x232.length c234, .slice (some ⟨b259, 0, none⟩) ([0] : List Int).length 1, .slice A268 ((x232 ++ ([0] : List Int)).set (w64 (((x232 ++ ([0] : List Int)).length : Int) - 1)).toNat (Go.bits .or .u8 (rd (x232 ++ ([0] : List Int)) (w64 (((x232 ++ ([0] : List Int)).length : Int) - 1))) (u8 ((u8 (Go.bits .and .i64 (shr v9 (min (n231).toNat 64)) 1)) * 2 ^ (min (w64 (7 - (Int.tmod x237 8))).toNat 8))))).length c269, .pointer (some ⟨b1, 0, none⟩), .pointer (some ⟨b1, 0, none⟩), .pointer (some ⟨b1, 0, none⟩), .pointer (some ⟨b1, 0, none⟩), .pointer (some ⟨b1, 0, none⟩), .slice A268 ((x232 ++ ([0] : List Int)).set (w64 (((x232 ++ ([0] : List Int)).length : Int) - 1)).toNat (Go.bits .or .u8 (rd (x232 ++ ([0] : List Int)) (w64 (((x232 ++ ([0] : List Int)).length : Int) - 1))) (u8 ((u8 (Go.bits .and .i64 (shr v9 (min (n231).toNat 64)) 1)) * 2 ^ (min (w64 (7 - (Int.tmod x237 8))).toNat 8))))).length c269, .pointer (some ⟨b1, 0, none⟩), .pointer (some ⟨b1, 0, none⟩), .pointer (some ⟨b1, 0, none⟩), .slice A268 ((x232 ++ ([0] : List Int)).set (w64 (((x232 ++ ([0] : List Int)).length : Int) - 1)).toNat (Go.bits .or .u8 (rd (x232 ++ ([0] : List Int)) (w64 (((x232 ++ ([0] : List Int)).length : Int) - 1))) (u8 ((u8 (Go.bits .and .i64 (shr v9 (min (n231).toNat 64)) 1)) * 2 ^ (min (w64 (7 - (Int.tmod x237 8))).toNat 8))))).length c269, iV ((x232 ++ ([0] : List Int)).length : Int), iV (w64 (((x232 ++ ([0] : List Int)).length : Int) - 1)), .pointer (some ⟨b288, of289 + (w64 (((x232 ++ ([0] : List Int)).length : Int) - 1) : Int).toNat * 1, none⟩), .int .u8 (rd (x232 ++ ([0] : List Int)) (w64 (((x232 ++ ([0] : List Int)).length : Int) - 1))), iV v9, iV n231, iV (shr v9 (min (n231).toNat 64)), iV (Go.bits .and .i64 (shr v9 (min (n231).toNat 64)) 1), .int .u8 (u8 (Go.bits .and .i64 (shr v9 (min (n231).toNat 64)) 1)), .pointer (some ⟨b1, 0, none⟩), .pointer (some ⟨b1, 0, none⟩), .pointer (some ⟨b1, 1, none⟩), iV x237, iV (Int.tmod x237 8), iV (w64 (7 - (Int.tmod x237 8))), .int .u8 (u8 ((u8 (Go.bits .and .i64 (shr v9 (min (n231).toNat 64)) 1)) * 2 ^ (min (w64 (7 - (Int.tmod x237 8))).toNat 8))), .int .u8 (Go.bits .or .u8 (rd (x232 ++ ([0] : List Int)) (w64 (((x232 ++ ([0] : List Int)).length : Int) - 1))) (u8 ((u8 (Go.bits .and .i64 (shr v9 (min (n231).toNat 64)) 1)) * 2 ^ (min (w64 (7 - (Int.tmod x237 8))).toNat 8)))), .pointer (some ⟨b288, of289 + (w64 (((x232 ++ ([0] : List Int)).length : Int) - 1) : Int).toNat * 1, none⟩), .pointer (some ⟨b1, 0, none⟩), .pointer (some ⟨b1, 0, none⟩), .pointer (some ⟨b1, 1, none⟩), iV x237, iV (w64 (x237 + 1)), .pointer (some ⟨b1, 0, none⟩), .pointer (some ⟨b1, 1, none⟩)]), L227, HS301, HO297, h, kr⟩
   · have c258 : ¬ ((Int.tmod x237 8) = 0) := c258
     refine wpRwI 17 kr (beq_eq_false_iff_ne.mpr c258) ?_
     refine condF kr ?_
     refine wp_skip ?_
     refine hK254 _ _ ?_
     refine wp_seq_k (fun K302 hK303 => ?_)
     have HS305 := HS229.u1.u1
     refine heldG (S := Sg t f226 (H) [(26, [(b1, .cells #[.slice A233 x232.length c234, .int .i64 x237] 121 (0, 0))]), (26, s235)]) (n := 27) kr rfl HS305 ?_
     intro W306 HS307
     refine takeGL [0, 1, 2] (n := 27) (fuel := 24) #[true, true, true, false, false, false, false, false, false, false, false, false, false, false, false, false, false, false, false, false, false, false, false, false, false, false, false] rfl kr kr kr (fun ch_ a_ w_ q_ => (fun ch_ a_ w_ q_ => hnp ch_ a_ w_ (hp18 ch_ a_ w_ q_)) ch_ a_ w_ (hp251 ch_ a_ w_ q_)) (Sg.g2 (Sx.of [[(b1, .cells #[.slice A233 x232.length c234, .int .i64 x237] 121 (0, 0))], s235] fL HS307) (fun _ => St.only [] HS307 fL) (fun _ => St.only [[(b1, .cells #[.slice A233 x232.length c234, .int .i64 x237] 121 (0, 0))]] HS307 fL)) ?_
     refine takeGQ 3 [26] rfl kr kr kr kr kr kr (fun ch_ a_ w_ q_ => (fun ch_ a_ w_ q_ => hnp ch_ a_ w_ (hp18 ch_ a_ w_ q_)) ch_ a_ w_ (hp251 ch_ a_ w_ q_)) (Sg.g2 (Sx.of [[(b1, .cells #[.slice A233 x232.length c234, .int .i64 x237] 121 (0, 0))], s235] fL HS307) (fun _ => St.only [] HS307 fL) (fun _ => St.only [[(b1, .cells #[.slice A233 x232.length c234, .int .i64 x237] 121 (0, 0))]] HS307 fL)) (fun w_ hw_ => by obtain ⟨g_, hl_, hS_⟩ := hw_.seg (j := 26) (s := [(b1, .cells #[.slice A233 x232.length c234, .int .i64 x237] 121 (0, 0))]) (by simp) (by simp); exact run_load rfl Tryz.underlying30 rfl (kv (.pointer (some ⟨b1, 0, none⟩))) (hS_.cell 0)) ?_
     refine takeGL [4, 5, 6] (n := 23) (fuel := 20) #[true, true, true, true, true, true, true, false, false, false, false, false, false, false, false, false, false, false, false, false, false, false, false, false, false, false, false] rfl kr kr kr (fun ch_ a_ w_ q_ => (fun ch_ a_ w_ q_ => hnp ch_ a_ w_ (hp18 ch_ a_ w_ q_)) ch_ a_ w_ (hp251 ch_ a_ w_ q_)) (Sg.g2 (Sx.of [[(b1, .cells #[.slice A233 x232.length c234, .int .i64 x237] 121 (0, 0))], s235] fL HS307) (fun _ => St.only [] HS307 fL) (fun _ => St.only [[(b1, .cells #[.slice A233 x232.length c234, .int .i64 x237] 121 (0, 0))]] HS307 fL)) ?_
     refine takeGQ 7 [26] rfl kr kr kr kr kr kr (fun ch_ a_ w_ q_ => (fun ch_ a_ w_ q_ => hnp ch_ a_ w_ (hp18 ch_ a_ w_ q_)) ch_ a_ w_ (hp251 ch_ a_ w_ q_)) (Sg.g2 (Sx.of [[(b1, .cells #[.slice A233 x232.length c234, .int .i64 x237] 121 (0, 0))], s235] fL HS307) (fun _ => St.only [] HS307 fL) (fun _ => St.only [[(b1, .cells #[.slice A233 x232.length c234, .int .i64 x237] 121 (0, 0))]] HS307 fL)) (fun w_ hw_ => by obtain ⟨g_, hl_, hS_⟩ := hw_.seg (j := 26) (s := [(b1, .cells #[.slice A233 x232.length c234, .int .i64 x237] 121 (0, 0))]) (by simp) (by simp); exact run_load rfl Tryz.underlying30 rfl (kv (.pointer (some ⟨b1, 0, none⟩))) (hS_.cell 0)) ?_
     have hq_ := guard_some h; clear h; obtain ⟨c308, h⟩ := hq_
     have c308 : 0 ≤ (w64 ((x232.length : Int) - 1)) := c308
     have hq_ := guard_some h; clear h; obtain ⟨c309, h⟩ := hq_
     have c309 : (w64 ((x232.length : Int) - 1)) < (x232.length : Int) := c309
     obtain ⟨b313, of314, cs310, hA315, hr311, hc312⟩ := HO236.at (i := w64 ((x232.length : Int) - 1)) c308 c309
     obtain rfl := hr311
     refine takeGL [8, 9] (n := 19) (fuel := 17) #[true, true, true, true, true, true, true, true, true, true, false, false, false, false, false, false, false, false, false, false, false, false, false, false, false, false, false] rfl kr kr kr (fun ch_ a_ w_ q_ => (fun ch_ a_ w_ q_ => hnp ch_ a_ w_ (hp18 ch_ a_ w_ q_)) ch_ a_ w_ (hp251 ch_ a_ w_ q_)) (Sg.g2 (Sx.of [[(b1, .cells #[.slice A233 x232.length c234, .int .i64 x237] 121 (0, 0))], s235] fL HS307) (fun _ => St.only [] HS307 fL) (fun _ => St.only [[(b1, .cells #[.slice A233 x232.length c234, .int .i64 x237] 121 (0, 0))]] HS307 fL)) ?_
     refine takeGQ 10 [] rfl kr kr kr kr kr kr (fun ch_ a_ w_ q_ => (fun ch_ a_ w_ q_ => hnp ch_ a_ w_ (hp18 ch_ a_ w_ q_)) ch_ a_ w_ (hp251 ch_ a_ w_ q_)) (Sg.g2 (Sx.of [[(b1, .cells #[.slice A233 x232.length c234, .int .i64 x237] 121 (0, 0))], s235] fL HS307) (fun _ => St.only [] HS307 fL) (fun _ => St.only [[(b1, .cells #[.slice A233 x232.length c234, .int .i64 x237] 121 (0, 0))]] HS307 fL)) (fun w_ hw_ => by obtain ⟨g_, hl_, hS_⟩ := hw_.st; exact run_indexE hA315 (sz := 1) rfl Tryz.underlying30 kr (kv (.slice A233 x232.length c234)) (kv (.int .i64 (w64 ((x232.length : Int) - 1)))) c308 c309 w_) ?_
     refine takeGQ 11 [26] rfl kr kr kr kr kr kr (fun ch_ a_ w_ q_ => (fun ch_ a_ w_ q_ => hnp ch_ a_ w_ (hp18 ch_ a_ w_ q_)) ch_ a_ w_ (hp251 ch_ a_ w_ q_)) (Sg.g2 (Sx.of [[(b1, .cells #[.slice A233 x232.length c234, .int .i64 x237] 121 (0, 0))], s235] fL HS307) (fun _ => St.only [] HS307 fL) (fun _ => St.only [[(b1, .cells #[.slice A233 x232.length c234, .int .i64 x237] 121 (0, 0))]] HS307 fL)) (fun w_ hw_ => by obtain ⟨g_, hl_, hS_⟩ := hw_.seg (j := 26) (s := s235) (by simp) (by simp); exact run_load rfl Tryz.underlying5 rfl (kv (.pointer (some ⟨b313, of314 + (w64 ((x232.length : Int) - 1) : Int).toNat * 1, none⟩))) ((hc312 hS_) 0 (by decide))) ?_
     have hq_ := guard_some h; clear h; obtain ⟨c316, h⟩ := hq_
     have c316 : ¬ (n231 < 0) := c316
     refine takeGL [12, 13] (n := 15) (fuel := 13) #[true, true, true, true, true, true, true, true, true, true, true, true, true, true, false, false, false, false, false, false, false, false, false, false, false, false, false] rfl kr kr kr (fun ch_ a_ w_ q_ => (fun ch_ a_ w_ q_ => hnp ch_ a_ w_ (hp18 ch_ a_ w_ q_)) ch_ a_ w_ (hp251 ch_ a_ w_ q_)) (Sg.g2 (Sx.of [[(b1, .cells #[.slice A233 x232.length c234, .int .i64 x237] 121 (0, 0))], s235] fL HS307) (fun _ => St.only [] HS307 fL) (fun _ => St.only [[(b1, .cells #[.slice A233 x232.length c234, .int .i64 x237] 121 (0, 0))]] HS307 fL)) ?_
     refine takeGQ 14 [] rfl kr kr kr kr kr kr (fun ch_ a_ w_ q_ => (fun ch_ a_ w_ q_ => hnp ch_ a_ w_ (hp18 ch_ a_ w_ q_)) ch_ a_ w_ (hp251 ch_ a_ w_ q_)) (Sg.g2 (Sx.of [[(b1, .cells #[.slice A233 x232.length c234, .int .i64 x237] 121 (0, 0))], s235] fL HS307) (fun _ => St.only [] HS307 fL) (fun _ => St.only [[(b1, .cells #[.slice A233 x232.length c234, .int .i64 x237] 121 (0, 0))]] HS307 fL)) (fun w_ hw_ => by obtain ⟨g_, hl_, hS_⟩ := hw_.st; exact run_shr rfl (kv (.int .i64 v9)) (kv (.int .i64 n231)) c316 w_) ?_
     refine takeGL [15, 16, 17, 18, 19] (n := 12) (fuel := 7) #[true, true, true, true, true, true, true, true, true, true, true, true, true, true, true, true, true, true, true, true, false, false, false, false, false, false, false] rfl kr kr kr (fun ch_ a_ w_ q_ => (fun ch_ a_ w_ q_ => hnp ch_ a_ w_ (hp18 ch_ a_ w_ q_)) ch_ a_ w_ (hp251 ch_ a_ w_ q_)) (Sg.g2 (Sx.of [[(b1, .cells #[.slice A233 x232.length c234, .int .i64 x237] 121 (0, 0))], s235] fL HS307) (fun _ => St.only [] HS307 fL) (fun _ => St.only [[(b1, .cells #[.slice A233 x232.length c234, .int .i64 x237] 121 (0, 0))]] HS307 fL)) ?_
     refine takeGQ 20 [26] rfl kr kr kr kr kr kr (fun ch_ a_ w_ q_ => (fun ch_ a_ w_ q_ => hnp ch_ a_ w_ (hp18 ch_ a_ w_ q_)) ch_ a_ w_ (hp251 ch_ a_ w_ q_)) (Sg.g2 (Sx.of [[(b1, .cells #[.slice A233 x232.length c234, .int .i64 x237] 121 (0, 0))], s235] fL HS307) (fun _ => St.only [] HS307 fL) (fun _ => St.only [[(b1, .cells #[.slice A233 x232.length c234, .int .i64 x237] 121 (0, 0))]] HS307 fL)) (fun w_ hw_ => by obtain ⟨g_, hl_, hS_⟩ := hw_.seg (j := 26) (s := [(b1, .cells #[.slice A233 x232.length c234, .int .i64 x237] 121 (0, 0))]) (by simp) (by simp); exact run_load rfl Tryz.underlying3 rfl (kv (.pointer (some ⟨b1, 1, none⟩))) (hS_.cell 1)) ?_
     have hq_ := guard_some h; clear h; obtain ⟨c317, h⟩ := hq_
     have c317 : ¬ ((w64 (7 - (Int.tmod x237 8))) < 0) := c317
     refine takeGL [21, 22] (n := 6) (fuel := 4) #[true, true, true, true, true, true, true, true, true, true, true, true, true, true, true, true, true, true, true, true, true, true, true, false, false, false, false] rfl kr kr kr (fun ch_ a_ w_ q_ => (fun ch_ a_ w_ q_ => hnp ch_ a_ w_ (hp18 ch_ a_ w_ q_)) ch_ a_ w_ (hp251 ch_ a_ w_ q_)) (Sg.g2 (Sx.of [[(b1, .cells #[.slice A233 x232.length c234, .int .i64 x237] 121 (0, 0))], s235] fL HS307) (fun _ => St.only [] HS307 fL) (fun _ => St.only [[(b1, .cells #[.slice A233 x232.length c234, .int .i64 x237] 121 (0, 0))]] HS307 fL)) ?_
     refine takeGQ 23 [] rfl kr kr kr kr kr kr (fun ch_ a_ w_ q_ => (fun ch_ a_ w_ q_ => hnp ch_ a_ w_ (hp18 ch_ a_ w_ q_)) ch_ a_ w_ (hp251 ch_ a_ w_ q_)) (Sg.g2 (Sx.of [[(b1, .cells #[.slice A233 x232.length c234, .int .i64 x237] 121 (0, 0))], s235] fL HS307) (fun _ => St.only [] HS307 fL) (fun _ => St.only [[(b1, .cells #[.slice A233 x232.length c234, .int .i64 x237] 121 (0, 0))]] HS307 fL)) (fun w_ hw_ => by obtain ⟨g_, hl_, hS_⟩ := hw_.st; exact run_shl rfl (kv (.int .u8 (u8 (Go.bits .and .i64 (shr v9 (min (n231).toNat 64)) 1)))) (kv (.int .i64 (w64 (7 - (Int.tmod x237 8))))) c317 w_) ?_
     refine takeGL [24] (n := 3) (fuel := 2) #[true, true, true, true, true, true, true, true, true, true, true, true, true, true, true, true, true, true, true, true, true, true, true, true, true, false, false] rfl kr kr kr (fun ch_ a_ w_ q_ => (fun ch_ a_ w_ q_ => hnp ch_ a_ w_ (hp18 ch_ a_ w_ q_)) ch_ a_ w_ (hp251 ch_ a_ w_ q_)) (Sg.g2 (Sx.of [[(b1, .cells #[.slice A233 x232.length c234, .int .i64 x237] 121 (0, 0))], s235] fL HS307) (fun _ => St.only [] HS307 fL) (fun _ => St.only [[(b1, .cells #[.slice A233 x232.length c234, .int .i64 x237] 121 (0, 0))]] HS307 fL)) ?_
     refine takeGQ 25 [] rfl kr kr kr kr kr kr (fun ch_ a_ w_ q_ => (fun ch_ a_ w_ q_ => hnp ch_ a_ w_ (hp18 ch_ a_ w_ q_)) ch_ a_ w_ (hp251 ch_ a_ w_ q_)) (Sg.g2 (Sx.of [[(b1, .cells #[.slice A233 x232.length c234, .int .i64 x237] 121 (0, 0))], s235] fL HS307) (fun _ => St.only [] HS307 fL) (fun _ => St.only [[(b1, .cells #[.slice A233 x232.length c234, .int .i64 x237] 121 (0, 0))]] HS307 fL)) (fun w_ hw_ => by obtain ⟨g_, hl_, hS_⟩ := hw_.st; exact run_indexE hA315 (sz := 1) rfl Tryz.underlying30 kr (kv (.slice A233 x232.length c234)) (kv (.int .i64 (w64 ((x232.length : Int) - 1)))) c308 c309 w_) ?_
     have HS318 := HS307.u1
     refine takeGE 26 kr rfl kr (does_put (e := (tInt .u8)) (E := 5) (vs := [.int .u8 (Go.bits .or .u8 (rd x232 (w64 ((x232.length : Int) - 1))) (u8 ((u8 (Go.bits .and .i64 (shr v9 (min (n231).toNat 64)) 1)) * 2 ^ (min (w64 (7 - (Int.tmod x237 8))).toNat 8))))]) (u := Go.bits .or .u8 (rd x232 (w64 ((x232.length : Int) - 1))) (u8 ((u8 (Go.bits .and .i64 (shr v9 (min (n231).toNat 64)) 1)) * 2 ^ (min (w64 (7 - (Int.tmod x237 8))).toNat 8)))) (i := w64 ((x232.length : Int) - 1)) rfl kr HO236 HS318 hA315 (kv (.pointer (some ⟨b313, of314 + (w64 ((x232.length : Int) - 1) : Int).toNat * 1, none⟩))) (kv (.int .u8 (Go.bits .or .u8 (rd x232 (w64 ((x232.length : Int) - 1))) (u8 ((u8 (Go.bits .and .i64 (shr v9 (min (n231).toNat 64)) 1)) * 2 ^ (min (w64 (7 - (Int.tmod x237 8))).toNat 8)))))) rfl rfl c308 c309 ?_)
     intro W319 s320 HS321 HO322
     have HS323 : St t W319 f226 (s320 :: [(b1, .cells #[.slice A233 (x232.set (w64 ((x232.length : Int) - 1)).toNat (Go.bits .or .u8 (rd x232 (w64 ((x232.length : Int) - 1))) (u8 ((u8 (Go.bits .and .i64 (shr v9 (min (n231).toNat 64)) 1)) * 2 ^ (min (w64 (7 - (Int.tmod x237 8))).toNat 8))))).length c234, .int .i64 x237] 121 (0, 0))] :: H) := by rw [show (x232.set (w64 ((x232.length : Int) - 1)).toNat (Go.bits .or .u8 (rd x232 (w64 ((x232.length : Int) - 1))) (u8 ((u8 (Go.bits .and .i64 (shr v9 (min (n231).toNat 64)) 1)) * 2 ^ (min (w64 (7 - (Int.tmod x237 8))).toNat 8))))).length = x232.length from List.length_set]; exact HS321
     refine ⟨(Sg.g2 (Sx.of [s320, [(b1, .cells #[.slice A233 (x232.set (w64 ((x232.length : Int) - 1)).toNat (Go.bits .or .u8 (rd x232 (w64 ((x232.length : Int) - 1))) (u8 ((u8 (Go.bits .and .i64 (shr v9 (min (n231).toNat 64)) 1)) * 2 ^ (min (w64 (7 - (Int.tmod x237 8))).toNat 8))))).length c234, .int .i64 x237] 121 (0, 0))]] fL HS323) (fun hl_ => Bool.noConfusion (show true = false from hl_)) (fun hl_ => Bool.noConfusion (show true = false from hl_))), ?_⟩
     refine gateRwS 30 (A := A233) (m := x232.length) (n := (x232.set (w64 ((x232.length : Int) - 1)).toNat (Go.bits .or .u8 (rd x232 (w64 ((x232.length : Int) - 1))) (u8 ((u8 (Go.bits .and .i64 (shr v9 (min (n231).toNat 64)) 1)) * 2 ^ (min (w64 (7 - (Int.tmod x237 8))).toNat 8))))).length) (c := c234) kr (List.length_set).symm ?_
     refine gateRwS 34 (A := A233) (m := x232.length) (n := (x232.set (w64 ((x232.length : Int) - 1)).toNat (Go.bits .or .u8 (rd x232 (w64 ((x232.length : Int) - 1))) (u8 ((u8 (Go.bits .and .i64 (shr v9 (min (n231).toNat 64)) 1)) * 2 ^ (min (w64 (7 - (Int.tmod x237 8))).toNat 8))))).length) (c := c234) kr (List.length_set).symm ?_
     refine doneG kr ?_ _
     refine hK303 _ _ ?_
     refine rl ?_
     refine seqL3 kr ?_
     refine seqK rfl (does_run (run_load rfl Tryz.underlying3 rfl (kv (.pointer (some ⟨b1, 1, none⟩))) (HS323.u1.cell 1)) ?_)
     have HS324 := HS323.u1
     refine seqL3 kr ?_
     refine seqK rfl (does_store (n := 1) (vs := [.int .i64 (w64 (x237 + 1))]) (cs' := #[.slice A233 (x232.set (w64 ((x232.length : Int) - 1)).toNat (Go.bits .or .u8 (rd x232 (w64 ((x232.length : Int) - 1))) (u8 ((u8 (Go.bits .and .i64 (shr v9 (min (n231).toNat 64)) 1)) * 2 ^ (min (w64 (7 - (Int.tmod x237 8))).toNat 8))))).length c234, .int .i64 (w64 (x237 + 1))]) rfl kr (kv (.pointer (some ⟨b1, 1, none⟩))) (kv (.int .i64 (w64 (x237 + 1)))) rfl rfl (ones rfl) HS324 (Nat.le_of_ble_eq_true rfl) kr ?_)
     intro W325 HS326
     refine nl ?_
     refine hn248 _ _ ?_
     refine hK245 _ _ ?_
     refine rl ?_
     refine seqL3 kr ?_
     refine nl ?_
     refine hK224 n225 _ _ (Nat.lt_succ_self _) ?_
     exact ⟨f226, A233, c234, s320, (w64 (n231 - 1)), (x232.set (w64 ((x232.length : Int) - 1)).toNat (Go.bits .or .u8 (rd x232 (w64 ((x232.length : Int) - 1))) (u8 ((u8 (Go.bits .and .i64 (shr v9 (min (n231).toNat 64)) 1)) * 2 ^ (min (w64 (7 - (Int.tmod x237 8))).toNat 8))))), (w64 (x237 + 1)), (jL [iV n231, tV, iV n231, iV (w64 (n231 - 1)), .pointer (some ⟨b1, 0, none⟩), .pointer (some ⟨b1, 0, none⟩), .pointer (some ⟨b1, 1, none⟩), iV x237, iV (Int.tmod x237 8), fV, (j230 10), (j230 11), (j230 12), (j230 13), (j230 14), (j230 15), (j230 16), (j230 17), (j230 18), .pointer (some ⟨b1, 0, none⟩), .pointer (some ⟨b1, 0, none⟩), .pointer (some ⟨b1, 0, none⟩), .slice A233 (x232.set (w64 ((x232.length : Int) - 1)).toNat (Go.bits .or .u8 (rd x232 (w64 ((x232.length : Int) - 1))) (u8 ((u8 (Go.bits .and .i64 (shr v9 (min (n231).toNat 64)) 1)) * 2 ^ (min (w64 (7 - (Int.tmod x237 8))).toNat 8))))).length c234, .pointer (some ⟨b1, 0, none⟩), .pointer (some ⟨b1, 0, none⟩), .pointer (some ⟨b1, 0, none⟩), .slice A233 (x232.set (w64 ((x232.length : Int) - 1)).toNat (Go.bits .or .u8 (rd x232 (w64 ((x232.length : Int) - 1))) (u8 ((u8 (Go.bits .and .i64 (shr v9 (min (n231).toNat 64)) 1)) * 2 ^ (min (w64 (7 - (Int.tmod x237 8))).toNat 8))))).length c234, iV (x232.length : Int), iV (w64 ((x232.length : Int) - 1)), .pointer (some ⟨b313, of314 + (w64 ((x232.length : Int) - 1) : Int).toNat * 1, none⟩), .int .u8 (rd x232 (w64 ((x232.length : Int) - 1))), iV v9, iV n231, iV (shr v9 (min (n231).toNat 64)), iV (Go.bits .and .i64 (shr v9 (min (n231).toNat 64)) 1), .int .u8 (u8 (Go.bits .and .i64 (shr v9 (min (n231).toNat 64)) 1)), .pointer (some ⟨b1, 0, none⟩), .pointer (some ⟨b1, 0, none⟩), .pointer (some ⟨b1, 1, none⟩), iV x237, iV (Int.tmod x237 8), iV (w64 (7 - (Int.tmod x237 8))), .int .u8 (u8 ((u8 (Go.bits .and .i64 (shr v9 (min (n231).toNat 64)) 1)) * 2 ^ (min (w64 (7 - (Int.tmod x237 8))).toNat 8))), .int .u8 (Go.bits .or .u8 (rd x232 (w64 ((x232.length : Int) - 1))) (u8 ((u8 (Go.bits .and .i64 (shr v9 (min (n231).toNat 64)) 1)) * 2 ^ (min (w64 (7 - (Int.tmod x237 8))).toNat 8)))), .pointer (some ⟨b313, of314 + (w64 ((x232.length : Int) - 1) : Int).toNat * 1, none⟩), .pointer (some ⟨b1, 0, none⟩), .pointer (some ⟨b1, 0, none⟩), .pointer (some ⟨b1, 1, none⟩), iV x237, iV (w64 (x237 + 1)), .pointer (some ⟨b1, 0, none⟩), .pointer (some ⟨b1, 1, none⟩)]), L227, HS326, HO322, h, kr⟩
 · have c243 : ¬ (n231 ≥ 0) := c243
   refine wpRwI 9 kr (decide_eq_false c243) ?_
   refine condF kr ?_
   refine wp_exit ?_
   refine hx14 _ _ ?_
   exact J339 f226 A233 c234 s235 x232 x237 (jL [iV n231, iV n231, fV, (j230 2), (j230 3), (j230 4), (j230 5), (j230 6), (j230 7), (j230 8), (j230 9), (j230 10), (j230 11), (j230 12), (j230 13), (j230 14), (j230 15), (j230 16), (j230 17), (j230 18), (j230 19), (j230 20), (j230 21), (j230 22), (j230 23), (j230 24), (j230 25), (j230 26), (j230 27), (j230 28), (j230 29), (j230 30), (j230 31), (j230 32), (j230 33), (j230 34), (j230 35), (j230 36), (j230 37), (j230 38), (j230 39), (j230 40), (j230 41), (j230 42), (j230 43), (j230 44), (j230 45), (j230 46), (j230 47), (j230 48), (j230 49), (j230 50), (j230 51)]) W228 _ L227 h HS229 HO236 kr

set_option maxRecDepth 100000 in
set_option maxHeartbeats 4000000 in
theorem squeeze_fold.calls (k : Nat)  (d1 : Int) {t w : World} {f : FM} {H : List Seg} (HS : St t w f (H)) (rr1 : Int) (h : squeeze_fold k d1 = some rr1) :
    Calls Tryz.prog 68 #[.int .i64 d1] w (fun e w' => ∃ (g : FM), e = .returned (Value.int .i64 rr1) ∧ FM.le f g ∧ St t w' g (H)) := by
 unfold squeeze_fold at h
 refine enter Tryz.func68 rfl (tm := #[iV d1, uV, uV, uV, uV, uV, uV, uV, uV, uV]) kr ?_
 intro B hret hnor hnp
 refine wp_seq_k fun K2 hK3 => rl ?_
 refine seqL1 kr ?_
 refine nl (hK3 _ _ ?_)
 refine wp_seq_k (fun K4 hK5 => ?_)
 refine wp_seq_k fun K6 hK7 => rl ?_
 refine seqL2 kr ?_
 refine nl (hK7 _ _ ?_)
 have hq_ := ite_some h; clear h; rcases hq_ with ⟨c9, h⟩ | ⟨c9, h⟩
 · have c9 : d1 < 0 := c9
   refine wpRwI 4 kr (decide_eq_true c9) ?_
   refine condT kr ?_
   refine wp_seq_k fun K10 hK11 => rl ?_
   refine seqL4 kr ?_
   refine nl (hK11 _ _ ?_)
   refine wp_ret ?_
   refine hret _ _ ?_
   refine ends_still (v := Value.int .i64 (w64 ((w64 ((-2) * d1)) - 1))) kr kr ?_
   injection h with h
   subst h
   exact ⟨f, rfl, FM.le.refl _, HS⟩
 · have c9 : ¬ (d1 < 0) := c9
   refine wpRwI 4 kr (decide_eq_false c9) ?_
   refine condF kr ?_
   refine wp_skip ?_
   refine hK5 _ _ ?_
   refine wp_seq_k fun K12 hK13 => rl ?_
   refine seqL3 kr ?_
   refine nl (hK13 _ _ ?_)
   refine wp_ret ?_
   refine hret _ _ ?_
   refine ends_still (v := Value.int .i64 (w64 (2 * d1))) kr kr ?_
   injection h with h
   subst h
   exact ⟨f, rfl, FM.le.refl _, HS⟩

set_option maxRecDepth 100000 in
set_option maxHeartbeats 4000000 in
theorem squeeze_cost.calls (k : Nat) (A2 : Option Addr) (c3 : Nat) (group1 : List Int) (vk5 : Int) {t w : World} {f : FM} {H : List Seg} (HS : St t w f (H)) (HR4 : SlR (tInt .i64) f A2 c3 group1) (rr1 : Int) (h : squeeze_cost k group1 vk5 = some rr1) :
    Calls Tryz.prog 69 #[.slice A2 group1.length c3, .int .i64 vk5] w (fun e w' => ∃ (g : FM), e = .returned (Value.int .i64 rr1) ∧ FM.le f g ∧ St t w' g (H)) := by
 unfold squeeze_cost at h
 refine enter Tryz.func69 rfl (tm := #[.slice A2 group1.length c3, iV vk5, uV, uV, uV, uV, uV, uV, uV, uV, uV, uV, uV, uV, uV, uV, uV, uV, uV, uV, uV, uV, uV, uV, uV, uV, uV, uV]) kr ?_
 intro B hret hnor hnp
 refine wp_seq_k fun K6 hK7 => rl ?_
 refine seqL1 kr ?_
 refine nl (hK7 _ _ ?_)
 refine wp_seq_k fun K8 hK9 => rl ?_
 refine seqL1 kr ?_
 refine nl (hK9 _ _ ?_)
 refine wp_seq_k (fun K10 hK11 => ?_)
 refine wp_seq_k fun K12 hK13 => rl ?_
 refine seqL3 kr ?_
 refine nl (hK13 _ _ ?_)
 refine blockK (fun B14 hx15 hn16 hr17 ho18 hp19 => ?_)
 have hq_ := bind_some h; clear h; obtain ⟨o20, hv66, h⟩ := hq_
 have J67 : ∀ (f60 : FM) (n65 : Int) (j64 : Nat → Value) (W62 : World) (a_ : Act), FM.le f f60 → some (n65) = some o20 → St t W62 f60 (H) → a_ = ⟨#[.slice A2 group1.length c3, iV vk5, uV, uV, iV 0, iV n65, uV, (j64 0), .slice A2 group1.length c3, iV (group1.length : Int), (j64 1), (j64 2), (j64 3), (j64 4), (j64 5), (j64 6), (j64 7), (j64 8), (j64 9), (j64 10), (j64 11), (j64 12), (j64 13), (j64 14), (j64 15), (j64 16), (j64 17), uV], []⟩ → K10 a_ W62 := by
  intro f60 n65 j64 W62 a_ L61 hj68 HS63  hfr_; subst hfr_
  injection hj68 with hj68; subst hj68; try dsimp only at h
  refine hK11 _ _ ?_
  refine wp_seq_k fun K69 hK70 => rl ?_
  refine seqL2 kr ?_
  refine nl (hK70 _ _ ?_)
  refine wp_ret ?_
  refine hret _ _ ?_
  refine ends_still (v := Value.int .i64 n65) kr kr ?_
  injection h with h
  subst h
  exact ⟨f60, rfl, L61, HS63⟩
 clear h; have h := hv66; clear hv66
 refine loopK (fun n_ a_ w_ => ∃ (f24 : FM) (n29 : Int) (x30 : Int) (j28 : Nat → Value), FM.le f f24 ∧ St t w_ f24 (H) ∧ squeeze_cost.l0 k group1 vk5 n_ n29 x30 = some o20 ∧ a_ = ⟨#[.slice A2 group1.length c3, iV vk5, uV, uV, iV 0, iV n29, uV, (j28 0), .slice A2 group1.length c3, iV (group1.length : Int), iV x30, (j28 1), (j28 2), (j28 3), (j28 4), (j28 5), (j28 6), (j28 7), (j28 8), (j28 9), (j28 10), (j28 11), (j28 12), (j28 13), (j28 14), (j28 15), (j28 16), uV], []⟩) k ⟨f, 0, 0, (jL []), fL, HS, h, kr⟩ ?_
 clear h
 rintro n23 _ W26 ⟨f24, n29, x30, j28, L25, HS27, h, rfl⟩ K21 hK22
 obtain _ | n23 := n23
 · exact nomatch h
 simp only [squeeze_cost.l0] at h
 refine wp_seq_k fun K31 hK32 => rl ?_
 refine seqL1 kr ?_
 refine nl (hK32 _ _ ?_)
 refine wp_seq_k (fun K33 hK34 => ?_)
 have hq_ := ite_some h; clear h; rcases hq_ with ⟨c36, h⟩ | ⟨c36, h⟩
 · have c36 : x30 < (group1.length : Int) := c36
   refine wpRwI 11 kr (decide_eq_true c36) ?_
   refine condT kr ?_
   refine wp_skip ?_
   refine hK34 _ _ ?_
   refine wp_seq_k (fun K37 hK38 => ?_)
   refine blockK (fun B39 hx40 hn41 hr42 ho43 hp44 => ?_)
   refine wp_seq_k fun K46 hK47 => rl ?_
   have hq_ := guard_some h; clear h; obtain ⟨c48, h⟩ := hq_
   have c48 : 0 ≤ x30 := c48
   obtain ⟨b52, of53, cs49, hA54, hr50, hc51⟩ := (HR4.mono L25).at (i := x30) c48 c36
   obtain rfl := hr50
   refine seqK rfl (does_run (run_indexE hA54 (sz := 1) rfl Tryz.underlying22 kr (kv (.slice A2 group1.length c3)) (kv (.int .i64 x30)) c48 c36 W26) ?_)
   refine seqK rfl (does_run (run_load rfl Tryz.underlying3 rfl (kv (.pointer (some ⟨b52, of53 + (x30 : Int).toNat * 1, none⟩))) ((hc51 fL HS27) 0 (by decide))) ?_)
   refine seqL1 kr ?_
   refine nl (hK47 _ _ ?_)
   refine wp_seq_k fun K55 hK56 => rl ?_
   refine seqL2 kr ?_
   refine nl (hK56 _ _ ?_)
   have hq_ := ite_some h; clear h; rcases hq_ with ⟨c58, h⟩ | ⟨c58, h⟩
   · have c58 : vk5 = 15 := c58
     refine wpRwI 15 kr (beq_iff_eq.mpr c58) ?_
     refine condT kr ?_
     refine rl ?_
     refine seqL3 kr ?_
     refine nl ?_
     refine hn41 _ _ ?_
     refine hK38 _ _ ?_
     refine rl ?_
     refine seqL2 kr ?_
     refine nl ?_
     refine hK22 n23 _ _ (Nat.lt_succ_self _) ?_
     exact ⟨f24, (w64 (n29 + 17)), (w64 (x30 + 1)), (jL [iV (rd group1 x30), tV, .pointer (some ⟨b52, of53 + (x30 : Int).toNat * 1, none⟩), iV (rd group1 x30), iV vk5, tV, iV n29, iV (w64 (n29 + 17)), (j28 8), (j28 9), (j28 10), (j28 11), (j28 12), (j28 13), (j28 14), (j28 15), iV (w64 (x30 + 1))]), L25, HS27, h, kr⟩
   · have c58 : ¬ (vk5 = 15) := c58
     refine wpRwI 15 kr (beq_eq_false_iff_ne.mpr c58) ?_
     refine condF kr ?_
     refine rl ?_
     have hq_ := guard_some h; clear h; obtain ⟨c59, h⟩ := hq_
     have c59 : ¬ (vk5 < 0) := c59
     refine seqL3 kr ?_
     refine seqK rfl (does_run (run_shr rfl (kv (.int .i64 (rd group1 x30))) (kv (.int .i64 vk5)) c59 W26) ?_)
     refine seqL5 kr ?_
     refine nl ?_
     refine hn41 _ _ ?_
     refine hK38 _ _ ?_
     refine rl ?_
     refine seqL2 kr ?_
     refine nl ?_
     refine hK22 n23 _ _ (Nat.lt_succ_self _) ?_
     exact ⟨f24, (w64 (n29 + (w64 ((w64 ((shr (rd group1 x30) (min (vk5).toNat 64)) + 1)) + vk5)))), (w64 (x30 + 1)), (jL [iV (rd group1 x30), tV, .pointer (some ⟨b52, of53 + (x30 : Int).toNat * 1, none⟩), iV (rd group1 x30), iV vk5, fV, (j28 6), (j28 7), iV n29, iV (rd group1 x30), iV vk5, iV (shr (rd group1 x30) (min (vk5).toNat 64)), iV (w64 ((shr (rd group1 x30) (min (vk5).toNat 64)) + 1)), iV vk5, iV (w64 ((w64 ((shr (rd group1 x30) (min (vk5).toNat 64)) + 1)) + vk5)), iV (w64 (n29 + (w64 ((w64 ((shr (rd group1 x30) (min (vk5).toNat 64)) + 1)) + vk5)))), iV (w64 (x30 + 1))]), L25, HS27, h, kr⟩
 · have c36 : ¬ (x30 < (group1.length : Int)) := c36
   refine wpRwI 11 kr (decide_eq_false c36) ?_
   refine condF kr ?_
   refine wp_exit ?_
   refine hx15 _ _ ?_
   exact J67 f24 n29 (jL [(j28 0), iV x30, fV, (j28 2), (j28 3), (j28 4), (j28 5), (j28 6), (j28 7), (j28 8), (j28 9), (j28 10), (j28 11), (j28 12), (j28 13), (j28 14), (j28 15), (j28 16)]) W26 _ L25 h HS27 kr

set_option maxRecDepth 100000 in
set_option maxHeartbeats 4000000 in
theorem squeeze_row.calls (k : Nat) (A2 : Option Addr) (c3 : Nat) (counts1 : List Int) {t w : World} {f : FM} {H : List Seg} (HS : St t w f (H)) (HR4 : SlR (tInt .i64) f A2 c3 counts1) (rr1 : List Int) (h : squeeze_row k counts1 = some rr1) :
    Calls Tryz.prog 36 #[.slice A2 counts1.length c3] w (fun e w' => ∃ (g : FM) (A2730 : Option Addr) (c2731 : Nat) (s2732 : Seg), e = .returned (Value.slice A2730 rr1.length c2731) ∧ FM.le f g ∧ St t w' g (s2732 :: H) ∧ Own (tInt .u8) 5 g A2730 c2731 s2732 rr1) := by
 unfold squeeze_row at h
 refine enterM Tryz.func36 rfl (tm := #[.slice A2 counts1.length c3, uV, uV, uV, uV, uV, uV, uV, uV, uV, uV, uV, uV, uV, uV, uV, uV, uV, uV, uV, uV, uV, uV, uV, uV, uV, uV, uV, uV, uV, uV, uV, uV, uV, uV, uV, uV, uV, uV, uV, uV, uV, uV, uV, uV, uV, uV, uV, uV, uV, uV, uV, uV, uV, uV, uV, uV, uV, uV, uV, uV, uV, uV, uV, uV, uV, uV, uV, uV, uV, uV, uV, uV, uV, uV, uV, uV, uV, uV, uV, uV, uV, uV, uV, uV, uV]) kr ?_
 intro B hret hnor hnp
 refine wp_seq_k fun K5 hK6 => rl ?_
 refine seqL1 kr ?_
 refine nl (hK6 _ _ ?_)
 refine wp_seq_k fun K7 hK8 => rl ?_
 refine seqL1 kr ?_
 refine seqK rfl (does_box (cs := #[.slice none 0 0, .int .i64 0]) rfl (kv (.agg #[.slice none 0 0, .int .i64 0])) rfl HS ?_)
 intro b9 W10 HS11
 refine seqK rfl (does_alloc (z := Value.pointer none) (cs := #[.pointer none]) rfl kr rfl HS11 ?_)
 intro b13 W14 HS15
 refine seqK rfl (does_store (n := 1) (vs := [.pointer (some ⟨b9, 0, none⟩)]) (cs' := #[.pointer (some ⟨b9, 0, none⟩)]) rfl kr (kv (.pointer (some ⟨b13, 0, none⟩))) (kv (.pointer (some ⟨b9, 0, none⟩))) rfl rfl (ones rfl) HS15 (Nat.le_of_ble_eq_true rfl) kr ?_)
 intro W17 HS18
 refine nl (hK8 _ _ ?_)
 refine wp_seq_k (fun K19 hK20 => ?_)
 have HS21 := HS18.u1
 refine heldG (S := Sg t f ([(b13, .cells #[.pointer (some ⟨b9, 0, none⟩)] 119 (0, 0))] :: H) [(4, [(b9, .cells #[.slice none 0 0, .int .i64 0] 121 (0, 0))])]) (n := 5) kr rfl HS21 ?_
 intro W22 HS23
 refine takeGQ 0 [] rfl kr kr kr kr kr kr hnp (Sg.g1 (Sx.of [[(b9, .cells #[.slice none 0 0, .int .i64 0] 121 (0, 0))]] fL HS23) (fun _ => St.only [] HS23 fL)) (fun w_ hw_ => by obtain ⟨g_, hl_, hS_⟩ := hw_.st; exact run_load rfl Tryz.underlying119 rfl (kv (.pointer (some ⟨b13, 0, none⟩))) (hS_.cell 0)) ?_
 have hq_ := guard_some h; clear h; obtain ⟨c24, h⟩ := hq_
 have c24 : 0 < (counts1.length : Int) := c24
 obtain ⟨b28, of29, cs25, hA30, hr26, hc27⟩ := HR4.at (i := 0) (by decide) c24
 obtain rfl := hr26
 refine takeGL [1] (n := 4) (fuel := 3) #[true, true, false, false, false] rfl kr kr kr hnp (Sg.g1 (Sx.of [[(b9, .cells #[.slice none 0 0, .int .i64 0] 121 (0, 0))]] fL HS23) (fun _ => St.only [] HS23 fL)) ?_
 refine takeGQ 2 [] rfl kr kr kr kr kr kr hnp (Sg.g1 (Sx.of [[(b9, .cells #[.slice none 0 0, .int .i64 0] 121 (0, 0))]] fL HS23) (fun _ => St.only [] HS23 fL)) (fun w_ hw_ => by obtain ⟨g_, hl_, hS_⟩ := hw_.st; exact run_indexE hA30 (sz := 1) rfl Tryz.underlying22 kr (kv (.slice A2 counts1.length c3)) (kv (.int .i64 0)) (by decide) c24 w_) ?_
 refine takeGQ 3 [] rfl kr kr kr kr kr kr hnp (Sg.g1 (Sx.of [[(b9, .cells #[.slice none 0 0, .int .i64 0] 121 (0, 0))]] fL HS23) (fun _ => St.only [] HS23 fL)) (fun w_ hw_ => by obtain ⟨g_, hl_, hS_⟩ := hw_.st; exact run_load rfl Tryz.underlying3 rfl (kv (.pointer (some ⟨b28, of29 + (0 : Int).toNat * 1, none⟩))) ((hc27 hl_ hS_) 0 (by decide))) ?_
 have HS32 := HS23.cons_nil
 have HO33 : Own (tInt .u8) 5 f none 0 [] ([] : List Int) := Own.nil _
 have HS34 : St t W22 f (([] : Seg) :: [(b9, .cells #[.slice none ([] : List Int).length 0, .int .i64 0] 121 (0, 0))] :: [(b13, .cells #[.pointer (some ⟨b9, 0, none⟩)] 119 (0, 0))] :: H) := HS32
 have HS35 := HS34.u1
 have hq_ := bind_some h; clear h; obtain ⟨⟨vt36, vt37⟩, hc38, h⟩ := hq_
 refine takeGE 4 kr rfl kr (does_call (f := 67) (args := #[.pointer (some ⟨b9, 0, none⟩), .int .i64 (rd counts1 0), .int .i64 16]) kr (squeeze_writer_put.calls k b9 none 0 ([] : Seg) (⟨([] : List Int), 0⟩ : S_writer) (rd counts1 0) 16 HS35 HO33 vt36 vt37 hc38) ?_)
 rintro _ W41 ⟨f39, A43, c44, s45, rfl, L40, HS42, HO46⟩
 refine ⟨_, rfl, ?_⟩
 refine ⟨(Sg.g1 (Sx.of [s45, [(b9, .cells #[.slice A43 vt36.length c44, .int .i64 vt37] 121 (0, 0))]] L40 HS42) (fun hl_ => Bool.noConfusion (show true = false from hl_))), ?_⟩
 refine doneG kr ?_ _
 refine hK20 _ _ ?_
 refine wp_seq_k fun K48 hK49 => rl ?_
 refine seqL1 kr ?_
 refine nl (hK49 _ _ ?_)
 refine wp_seq_k (fun K50 hK51 => ?_)
 refine wp_seq_k fun K52 hK53 => rl ?_
 refine seqL1 kr ?_
 refine nl (hK53 _ _ ?_)
 refine blockK (fun B54 hx55 hn56 hr57 ho58 hp59 => ?_)
 have hq_ := bind_some h; clear h; obtain ⟨o60, hv144, h⟩ := hq_
 have J145 : ∀ (f133 : FM) (A139 : Option Addr) (c140 : Nat) (s141 : Seg) (folds138 : List Int) (j137 : Nat → Value) (W135 : World) (a_ : Act), FM.le f39 f133 → some (folds138) = some o60 → St t W135 f133 (s141 :: s45 :: [(b9, .cells #[.slice A43 vt36.length c44, .int .i64 vt37] 121 (0, 0))] :: [(b13, .cells #[.pointer (some ⟨b9, 0, none⟩)] 119 (0, 0))] :: H) → Own (tInt .i64) 3 f133 A139 c140 s141 folds138 → a_ = ⟨#[.slice A2 counts1.length c3, uV, .slice none 0 0, pV b13 0, .slice A139 folds138.length c140, (j137 0), uV, uV, uV, uV, uV, .agg #[.slice none 0 0, iV 0], pV b9 0, pV b9 0, .slice A2 counts1.length c3, pV b28 (of29 + (0 : Int).toNat * 1), iV (rd counts1 0), .tuple #[], (j137 1), (j137 2), (j137 3), (j137 4), (j137 5), (j137 6), (j137 7), (j137 8), (j137 9), (j137 10), (j137 11), (j137 12), (j137 13), (j137 14), (j137 15), (j137 16), (j137 17), (j137 18), (j137 19), (j137 20), uV, uV, uV, uV, uV, uV, uV, uV, uV, uV, uV, uV, uV, uV, uV, uV, uV, uV, uV, uV, uV, uV, uV, uV, uV, uV, uV, uV, uV, uV, uV, uV, uV, uV, uV, uV, uV, uV, uV, uV, uV, uV, uV, uV, uV, uV, uV, uV], []⟩ → K50 a_ W135 := by
  intro f133 A139 c140 s141 folds138 j137 W135 a_ L134 hj146 HS136 HO142 hfr_; subst hfr_
  injection hj146 with hj146; subst hj146; try dsimp only at h
  refine hK51 _ _ ?_
  refine wp_seq_k (fun K149 hK150 => ?_)
  refine wp_seq_k fun K151 hK152 => rl ?_
  obtain ⟨f153, L154, HS155, HR156⟩ := HO142.freeze HS136
  have hq_ := bind_some h; clear h; obtain ⟨⟨vt157, vt158⟩, hc159, h⟩ := hq_
  refine seqL1 kr ?_
  refine seqK rfl (does_call (f := 35) (args := #[.slice A139 folds138.length c140, .int .i64 8]) kr (slices_Chunk_int.calls k A139 c140 folds138 8 HS155 HR156 vt157 vt158 hc159) ?_)
  rintro _ W162 ⟨f160, b164, A165, c166, b169, rfl, L161, HS163, HF168, HR167, HF170⟩
  refine ⟨_, rfl, ?_⟩
  refine nl (hK152 _ _ ?_)
  refine blockK (fun B171 hx172 hn173 hr174 ho175 hp176 => ?_)
  have hq_ := bind_some h; clear h; obtain ⟨xs177, hc178, h⟩ := hq_
  have hit179 := slices_Chunk_int_1.iter k b164 A165 c166 b169 vt157 vt158 (f := f160) HR167 HF168 HF170 xs177 hc178
  have hq_ := bind_some h; clear h; obtain ⟨o1861, hv2705, h⟩ := hq_
  have J2717 : ∀ (D : Nat) (f2706 : FM) (A2712 : Option Addr) (c2713 : Nat) (s2714 : Seg) (x2711 : List Int) (x2716 : Int) (W2708 : World) (a_ : Act), FM.le f160 f2706 → some ((x2711, x2716)) = some o1861 → St t W2708 f2706 (s2714 :: [(b9, .cells #[.slice A2712 x2711.length c2713, .int .i64 x2716] 121 (0, 0))] :: [(b13, .cells #[.pointer (some ⟨b9, 0, none⟩)] 119 (0, 0))] :: [(D, .deferred (some []))] :: H) → Own (tInt .u8) 5 f2706 A2712 c2713 s2714 x2711 → a_ = ⟨#[.slice A2 counts1.length c3, uV, .slice none 0 0, pV b13 0, .slice A139 folds138.length c140, (j137 0), uV, uV, uV, uV, uV, .agg #[.slice none 0 0, iV 0], pV b9 0, pV b9 0, .slice A2 counts1.length c3, pV b28 (of29 + (0 : Int).toNat * 1), iV (rd counts1 0), .tuple #[], (j137 1), (j137 2), (j137 3), (j137 4), (j137 5), (j137 6), (j137 7), (j137 8), (j137 9), (j137 10), (j137 11), (j137 12), (j137 13), (j137 14), (j137 15), (j137 16), (j137 17), (j137 18), (j137 19), (j137 20), .slice A139 folds138.length c140, .func (.func 66) #[] #[pV b164 0, pV b169 0], uV, uV, uV, uV, uV, uV, uV, uV, uV, uV, uV, uV, uV, uV, uV, uV, uV, uV, uV, uV, uV, uV, uV, uV, uV, uV, uV, uV, uV, uV, uV, uV, uV, uV, uV, uV, uV, uV, uV, uV, uV, uV, uV, uV, uV, uV], [mark D]⟩ → K149 a_ W2708 := by
   intro D f2706 A2712 c2713 s2714 x2711 x2716 W2708 a_ L2707 hj2719 HS2709 HO2715 hfr_; subst hfr_
   injection hj2719 with hj2719; subst hj2719; try dsimp only at h
   refine hK150 _ _ ?_
   refine wp_seq_k fun K2721 hK2722 => rl ?_
   refine seqK rfl (does_run (run_load rfl Tryz.underlying119 rfl (kv (.pointer (some ⟨b13, 0, none⟩))) (HS2709.u2.cell 0)) ?_)
   refine seqL2 kr ?_
   refine seqK rfl (does_run (run_load rfl Tryz.underlying30 rfl (kv (.pointer (some ⟨b9, 0, none⟩))) (HS2709.u1.cell 0)) ?_)
   refine seqL1 kr ?_
   refine nl (hK2722 _ _ ?_)
   refine wp_ret ?_
   refine hret _ _ ?_
   have HS2723 := HS2709.u3
   refine marked HS2723 kr ?_
   intro W2724 HS2725
   refine endsM_still (v := Value.slice A2712 x2711.length c2713) kr kr ?_
   have HS2727 := HS2725.u2.u2
   have HS2728 := HS2727.drop
   have HS2729 := HS2728.drop
   injection h with h
   subst h
   exact ⟨f2706, A2712, c2713, s2714, rfl, (L40.trans (L134.trans (L154.trans (L161.trans L2707)))), HS2729, HO2715⟩
  clear h; have h := hv2705; clear hv2705
  refine rangeK (gf := 66) (lb := #[Value.pointer (some ⟨b164, 0, none⟩), Value.pointer (some ⟨b169, 0, none⟩)]) (Hs0 := [s45, [(b9, .cells #[.slice A43 vt36.length c44, .int .i64 vt37] 121 (0, 0))], [(b13, .cells #[.pointer (some ⟨b9, 0, none⟩)] 119 (0, 0))]]) kr (fun a_ w_ => still_run (still_call Tryz.func66 rfl rfl a_) w_) hit179 (by rintro _ _ _ ⟨_, _, rfl, _⟩; rfl) fL (fun pre_ f1862 Hs_ => ∃ (A1868 : Option Addr) (c1869 : Nat) (s1870 : Seg) (x1867 : List Int) (x1872 : Int) (rest_ : List _), Hs_ = [s1870, [(b9, .cells #[.slice A1868 x1867.length c1869, .int .i64 x1872] 121 (0, 0))], [(b13, .cells #[.pointer (some ⟨b9, 0, none⟩)] 119 (0, 0))]] ∧ FM.le f160 f1862 ∧ Own (tInt .u8) 5 f1862 A1868 c1869 s1870 x1867 ∧ xs177 = pre_ ++ rest_ ∧ squeeze_row.g1 k rest_ x1867 x1872 = some o1861) (fun c_ pre_ g_ Hs_ => (False) ∨ (False)) HS163 ⟨A43, c44, s45, vt36, vt37, xs177, rfl, fL, (HO46.mono (L134.trans (L154.trans L161))), rfl, h⟩ (by rintro pre_ g_ g2_ Hs_ ⟨A1868, c1869, s1870, x1867, x1872, rest_, rfl, hl_, HO1871, hx_, h_⟩ hgg_; exact ⟨A1868, c1869, s1870, x1867, x1872, rest_, rfl, hl_.trans hgg_, (HO1871.mono hgg_), hx_, h_⟩) ?_ ?_ ?_ ?_
  · rintro c_ pre_ g_ g2_ Hs_ (hf_ | hf_) hgg_
    · exact hf_.elim
    · exact hf_.elim
  · clear h
    intro l_ H pre_ x_ rest_ vs_ W1864 f1862 Hs_ hx_ hv_ hk_ HS1865 A_ hA1882 hnA1883
    obtain ⟨A1868, c1869, s1870, x1867, x1872, rest2_, rfl, L1863, HO1871, hx2_, h⟩ := hk_
    have HS1865 : St t W1864 f1862 (s1870 :: [(b9, .cells #[.slice A1868 x1867.length c1869, .int .i64 x1872] 121 (0, 0))] :: [(b13, .cells #[.pointer (some ⟨b9, 0, none⟩)] 119 (0, 0))] :: H) := HS1865
    obtain rfl : rest2_ = x_ :: rest_ := List.append_cancel_left (hx2_.symm.trans hx_)
    obtain ⟨x1873, rfl⟩ : ∃ y_, y_ = x_ := ⟨_, rfl⟩
    obtain ⟨A1874, c1875, hv_, HR1876⟩ := hv_
    have hv_ : vs_ = #[Value.slice A1874 x1873.length c1875] := hv_; subst hv_
    simp only [squeeze_row.g1] at h
    refine RwpRwA (a' := ⟨#[.slice A2 counts1.length c3, uV, .slice none 0 0, pV b13 0, .slice A139 folds138.length c140, (j137 0), uV, uV, uV, uV, uV, .agg #[.slice none 0 0, iV 0], pV b9 0, pV b9 0, .slice A2 counts1.length c3, pV b28 (of29 + (0 : Int).toNat * 1), iV (rd counts1 0), .tuple #[], (j137 1), (j137 2), (j137 3), (j137 4), (j137 5), (j137 6), (j137 7), (j137 8), (j137 9), (j137 10), (j137 11), (j137 12), (j137 13), (j137 14), (j137 15), (j137 16), (j137 17), (j137 18), (j137 19), (j137 20), .slice A139 folds138.length c140, .func (.func 66) #[] #[pV b164 0, pV b169 0], .slice A1874 x1873.length c1875, uV, uV, uV, uV, uV, uV, uV, uV, uV, uV, uV, uV, uV, uV, uV, uV, uV, uV, uV, uV, uV, uV, uV, uV, uV, uV, uV, uV, uV, uV, uV, uV, uV, uV, uV, uV, uV, uV, uV, uV, uV, uV, uV, uV, uV], []⟩) kr ?_
    refine Rwp_region_lit kr ?_
    refine seqL1 kr ?_
    refine RwpList_nil ?_
    refine hA1882 _ _ _ [s1870, [(b9, .cells #[.slice A1868 x1867.length c1869, .int .i64 x1872] 121 (0, 0))], [(b13, .cells #[.pointer (some ⟨b9, 0, none⟩)] 119 (0, 0))]] fL HS1865 ?_
    intro H W1884 HS1885 B1877 hag1878 hrt1879 hbk1880 hnp1881
    have HS1885 : St t W1884 f1862 (s1870 :: [(b9, .cells #[.slice A1868 x1867.length c1869, .int .i64 x1872] 121 (0, 0))] :: [(b13, .cells #[.pointer (some ⟨b9, 0, none⟩)] 119 (0, 0))] :: H) := HS1885
    refine RblockK (fun B1886 hx1887 hn1888 hr1889 ho1890 hp1891 => ?_)
    refine Rwp_seq_k (fun K1893 hK1894 => ?_)
    refine Rwp_region_lit kr ?_
    refine seqL1 kr ?_
    refine RwpList_nil ?_
    refine hK1894 _ _ ?_
    refine Rwp_seq_k (fun K1895 hK1896 => ?_)
    refine Rwp_seq_k (fun K1897 hK1898 => ?_)
    refine Rwp_region_lit kr ?_
    refine seqL1 kr ?_
    refine RwpList_nil ?_
    refine hK1898 _ _ ?_
    refine RblockK (fun B1899 hx1900 hn1901 hr1902 ho1903 hp1904 => ?_)
    have hq_ := bind_some h; clear h; obtain ⟨o1905, hv1955, h⟩ := hq_
    have J1956 : ∀ (f1949 : FM) (best1954 : Int) (j1953 : Nat → Value) (W1951 : World) (a_ : Act), FM.le f1862 f1949 → some (best1954) = some o1905 → St t W1951 f1949 (s1870 :: [(b9, .cells #[.slice A1868 x1867.length c1869, .int .i64 x1872] 121 (0, 0))] :: [(b13, .cells #[.pointer (some ⟨b9, 0, none⟩)] 119 (0, 0))] :: H) → a_ = ⟨#[.slice A2 counts1.length c3, uV, .slice none 0 0, pV b13 0, .slice A139 folds138.length c140, (j137 0), .slice A1874 x1873.length c1875, iV best1954, (j1953 0), uV, uV, .agg #[.slice none 0 0, iV 0], pV b9 0, pV b9 0, .slice A2 counts1.length c3, pV b28 (of29 + (0 : Int).toNat * 1), iV (rd counts1 0), .tuple #[], (j137 1), (j137 2), (j137 3), (j137 4), (j137 5), (j137 6), (j137 7), (j137 8), (j137 9), (j137 10), (j137 11), (j137 12), (j137 13), (j137 14), (j137 15), (j137 16), (j137 17), (j137 18), (j137 19), (j137 20), .slice A139 folds138.length c140, .func (.func 66) #[] #[pV b164 0, pV b169 0], .slice A1874 x1873.length c1875, (j1953 1), (j1953 2), (j1953 3), (j1953 4), (j1953 5), (j1953 6), (j1953 7), (j1953 8), (j1953 9), (j1953 10), (j1953 11), (j1953 12), uV, uV, uV, uV, uV, uV, uV, uV, uV, uV, uV, uV, uV, uV, uV, uV, uV, uV, uV, uV, uV, uV, uV, uV, uV, uV, uV, uV, uV, uV, uV, uV, uV], []⟩ → K1895 a_ W1951 := by
     intro f1949 best1954 j1953 W1951 a_ L1950 hj1957 HS1952  hfr_; subst hfr_
     injection hj1957 with hj1957; subst hj1957; try dsimp only at h
     refine hK1896 _ _ ?_
     refine Rwp_seq_k (fun K1958 hK1959 => ?_)
     refine Rwp_region_lit kr ?_
     refine seqK rfl (does_run (run_load rfl Tryz.underlying119 rfl (kv (.pointer (some ⟨b13, 0, none⟩))) (HS1952.u2.cell 0)) ?_)
     have HS1960 := HS1952.u1
     have hq_ := bind_some h; clear h; obtain ⟨⟨vt1961, vt1962⟩, hc1963, h⟩ := hq_
     refine seqL1 kr ?_
     refine seqK rfl (does_call (f := 67) (args := #[.pointer (some ⟨b9, 0, none⟩), .int .i64 best1954, .int .i64 4]) kr (squeeze_writer_put.calls k b9 A1868 c1869 s1870 (⟨x1867, x1872⟩ : S_writer) best1954 4 HS1960 (HO1871.mono L1950) vt1961 vt1962 hc1963) ?_)
     rintro _ W1966 ⟨f1964, A1968, c1969, s1970, rfl, L1965, HS1967, HO1971⟩
     refine ⟨_, rfl, ?_⟩
     refine RwpList_nil ?_
     refine hK1959 _ _ ?_
     refine Rwp_seq_k (fun K1973 hK1974 => ?_)
     refine Rwp_region_lit kr ?_
     refine seqL3 kr ?_
     refine RwpList_nil ?_
     refine hK1974 _ _ ?_
     refine RblockK (fun B1975 hx1976 hn1977 hr1978 ho1979 hp1980 => ?_)
     have hq_ := bind_some h; clear h; obtain ⟨o2452, hv2702, h⟩ := hq_
     have J2703 : ∀ (f2691 : FM) (A2697 : Option Addr) (c2698 : Nat) (s2699 : Seg) (x2696 : List Int) (x2701 : Int) (j2695 : Nat → Value) (W2693 : World) (a_ : Act), FM.le f1964 f2691 → some ((x2696, x2701)) = some o2452 → St t W2693 f2691 (s2699 :: [(b9, .cells #[.slice A2697 x2696.length c2698, .int .i64 x2701] 121 (0, 0))] :: [(b13, .cells #[.pointer (some ⟨b9, 0, none⟩)] 119 (0, 0))] :: H) → Own (tInt .u8) 5 f2691 A2697 c2698 s2699 x2696 → a_ = ⟨#[.slice A2 counts1.length c3, uV, .slice none 0 0, pV b13 0, .slice A139 folds138.length c140, (j137 0), .slice A1874 x1873.length c1875, iV best1954, (j1953 0), uV, (j2695 0), .agg #[.slice none 0 0, iV 0], pV b9 0, pV b9 0, .slice A2 counts1.length c3, pV b28 (of29 + (0 : Int).toNat * 1), iV (rd counts1 0), .tuple #[], (j137 1), (j137 2), (j137 3), (j137 4), (j137 5), (j137 6), (j137 7), (j137 8), (j137 9), (j137 10), (j137 11), (j137 12), (j137 13), (j137 14), (j137 15), (j137 16), (j137 17), (j137 18), (j137 19), (j137 20), .slice A139 folds138.length c140, .func (.func 66) #[] #[pV b164 0, pV b169 0], .slice A1874 x1873.length c1875, (j1953 1), (j1953 2), (j1953 3), (j1953 4), (j1953 5), (j1953 6), (j1953 7), (j1953 8), (j1953 9), (j1953 10), (j1953 11), (j1953 12), pV b9 0, iV best1954, .tuple #[], .slice A1874 x1873.length c1875, iV (x1873.length : Int), (j2695 1), (j2695 2), (j2695 3), (j2695 4), (j2695 5), (j2695 6), (j2695 7), (j2695 8), (j2695 9), (j2695 10), (j2695 11), (j2695 12), (j2695 13), (j2695 14), (j2695 15), (j2695 16), (j2695 17), (j2695 18), (j2695 19), (j2695 20), (j2695 21), (j2695 22), (j2695 23), (j2695 24), uV, uV, uV, uV], []⟩ → B1886 Exit.normal a_ W2693 := by
      intro f2691 A2697 c2698 s2699 x2696 x2701 j2695 W2693 a_ L2692 hj2704 HS2694 HO2700 hfr_; subst hfr_
      injection hj2704 with hj2704; subst hj2704; try dsimp only at h
      refine hn1888 _ _ ?_
      exact hag1878 _ _ f2691 [s2699, [(b9, .cells #[.slice A2697 x2696.length c2698, .int .i64 x2701] 121 (0, 0))], [(b13, .cells #[.pointer (some ⟨b9, 0, none⟩)] 119 (0, 0))]] (L1950.trans (L1965.trans L2692)) ⟨A2697, c2698, s2699, x2696, x2701, rest_, rfl, (L1863.trans (L1950.trans (L1965.trans L2692))), HO2700, hx_.trans (List.append_cons _ _ _), h⟩ HS2694
     clear h; have h := hv2702; clear hv2702
     refine RloopK (fun n_ a_ w_ => ∃ (f2456 : FM) (A2463 : Option Addr) (c2464 : Nat) (s2465 : Seg) (x2461 : Int) (x2462 : List Int) (x2467 : Int) (j2460 : Nat → Value), FM.le f1964 f2456 ∧ St t w_ f2456 (s2465 :: [(b9, .cells #[.slice A2463 x2462.length c2464, .int .i64 x2467] 121 (0, 0))] :: [(b13, .cells #[.pointer (some ⟨b9, 0, none⟩)] 119 (0, 0))] :: H) ∧ Own (tInt .u8) 5 f2456 A2463 c2464 s2465 x2462 ∧ squeeze_row.l3 k x1873 best1954 n_ x2461 x2462 x2467 = some o2452 ∧ a_ = ⟨#[.slice A2 counts1.length c3, uV, .slice none 0 0, pV b13 0, .slice A139 folds138.length c140, (j137 0), .slice A1874 x1873.length c1875, iV best1954, (j1953 0), uV, (j2460 0), .agg #[.slice none 0 0, iV 0], pV b9 0, pV b9 0, .slice A2 counts1.length c3, pV b28 (of29 + (0 : Int).toNat * 1), iV (rd counts1 0), .tuple #[], (j137 1), (j137 2), (j137 3), (j137 4), (j137 5), (j137 6), (j137 7), (j137 8), (j137 9), (j137 10), (j137 11), (j137 12), (j137 13), (j137 14), (j137 15), (j137 16), (j137 17), (j137 18), (j137 19), (j137 20), .slice A139 folds138.length c140, .func (.func 66) #[] #[pV b164 0, pV b169 0], .slice A1874 x1873.length c1875, (j1953 1), (j1953 2), (j1953 3), (j1953 4), (j1953 5), (j1953 6), (j1953 7), (j1953 8), (j1953 9), (j1953 10), (j1953 11), (j1953 12), pV b9 0, iV best1954, .tuple #[], .slice A1874 x1873.length c1875, iV (x1873.length : Int), iV x2461, (j2460 1), (j2460 2), (j2460 3), (j2460 4), (j2460 5), (j2460 6), (j2460 7), (j2460 8), (j2460 9), (j2460 10), (j2460 11), (j2460 12), (j2460 13), (j2460 14), (j2460 15), (j2460 16), (j2460 17), (j2460 18), (j2460 19), (j2460 20), (j2460 21), (j2460 22), (j2460 23), uV, uV, uV, uV], []⟩) k ⟨f1964, A1968, c1969, s1970, 0, vt1961, vt1962, (jL []), fL, HS1967, HO1971, h, kr⟩ ?_
     clear h
     rintro n2455 _ W2458 ⟨f2456, A2463, c2464, s2465, x2461, x2462, x2467, j2460, L2457, HS2459, HO2466, h, rfl⟩ K2453 hK2454
     obtain _ | n2455 := n2455
     · exact nomatch h
     simp only [squeeze_row.l3] at h
     refine Rwp_seq_k (fun K2468 hK2469 => ?_)
     refine Rwp_region_lit kr ?_
     refine seqL1 kr ?_
     refine RwpList_nil ?_
     refine hK2469 _ _ ?_
     refine Rwp_seq_k (fun K2470 hK2471 => ?_)
     have hq_ := ite_some h; clear h; rcases hq_ with ⟨c2473, h⟩ | ⟨c2473, h⟩
     · have c2473 : x2461 < (x1873.length : Int) := c2473
       refine RwpRwI 59 kr (decide_eq_true c2473) ?_
       refine RcondT kr ?_
       refine Rwp_skip ?_
       refine hK2471 _ _ ?_
       refine Rwp_seq_k (fun K2474 hK2475 => ?_)
       refine RblockK (fun B2476 hx2477 hn2478 hr2479 ho2480 hp2481 => ?_)
       refine Rwp_seq_k (fun K2483 hK2484 => ?_)
       refine Rwp_region_lit kr ?_
       have hq_ := guard_some h; clear h; obtain ⟨c2485, h⟩ := hq_
       have c2485 : 0 ≤ x2461 := c2485
       obtain ⟨b2489, of2490, cs2486, hA2491, hr2487, hc2488⟩ := (HR1876.mono (L1950.trans (L1965.trans L2457))).at (i := x2461) c2485 c2473
       obtain rfl := hr2487
       refine seqK rfl (does_run (run_indexE hA2491 (sz := 1) rfl Tryz.underlying22 kr (kv (.slice A1874 x1873.length c1875)) (kv (.int .i64 x2461)) c2485 c2473 W2458) ?_)
       refine seqK rfl (does_run (run_load rfl Tryz.underlying3 rfl (kv (.pointer (some ⟨b2489, of2490 + (x2461 : Int).toNat * 1, none⟩))) ((hc2488 fL HS2459) 0 (by decide))) ?_)
       refine seqL1 kr ?_
       refine RwpList_nil ?_
       refine hK2484 _ _ ?_
       refine Rwp_seq_k (fun K2492 hK2493 => ?_)
       refine Rwp_seq_k (fun K2494 hK2495 => ?_)
       refine Rwp_region_lit kr ?_
       refine seqL2 kr ?_
       refine RwpList_nil ?_
       refine hK2495 _ _ ?_
       have hq_ := ite_some h; clear h; rcases hq_ with ⟨c2497, h⟩ | ⟨c2497, h⟩
       · have c2497 : best1954 = 15 := c2497
         refine RwpRwI 63 kr (beq_iff_eq.mpr c2497) ?_
         refine RcondT kr ?_
         refine Rwp_seq_k (fun K2498 hK2499 => ?_)
         refine Rwp_region_lit kr ?_
         refine seqK rfl (does_run (run_load rfl Tryz.underlying119 rfl (kv (.pointer (some ⟨b13, 0, none⟩))) (HS2459.u2.cell 0)) ?_)
         have HS2500 := HS2459.u1
         have hq_ := bind_some h; clear h; obtain ⟨⟨vt2501, vt2502⟩, hc2503, h⟩ := hq_
         refine seqL1 kr ?_
         refine seqK rfl (does_call (f := 67) (args := #[.pointer (some ⟨b9, 0, none⟩), .int .i64 (rd x1873 x2461), .int .i64 17]) kr (squeeze_writer_put.calls k b9 A2463 c2464 s2465 (⟨x2462, x2467⟩ : S_writer) (rd x1873 x2461) 17 HS2500 HO2466 vt2501 vt2502 hc2503) ?_)
         rintro _ W2506 ⟨f2504, A2508, c2509, s2510, rfl, L2505, HS2507, HO2511⟩
         refine ⟨_, rfl, ?_⟩
         refine RwpList_nil ?_
         refine hK2499 _ _ ?_
         refine Rwp_exit ?_
         refine hx2477 _ _ ?_
         refine hK2475 _ _ ?_
         refine Rwp_region_lit kr ?_
         refine seqL2 kr ?_
         refine RwpList_nil ?_
         refine hK2454 n2455 _ _ (Nat.lt_succ_self _) ?_
         exact ⟨f2504, A2508, c2509, s2510, (w64 (x2461 + 1)), vt2501, vt2502, (jL [iV (rd x1873 x2461), tV, .pointer (some ⟨b2489, of2490 + (x2461 : Int).toNat * 1, none⟩), iV (rd x1873 x2461), iV best1954, tV, .pointer (some ⟨b9, 0, none⟩), iV (rd x1873 x2461), .tuple #[], (j2460 9), (j2460 10), (j2460 11), (j2460 12), (j2460 13), (j2460 14), (j2460 15), (j2460 16), (j2460 17), (j2460 18), (j2460 19), (j2460 20), (j2460 21), (j2460 22), iV (w64 (x2461 + 1))]), (L2457.trans L2505), HS2507, HO2511, h, kr⟩
       · have c2497 : ¬ (best1954 = 15) := c2497
         refine RwpRwI 63 kr (beq_eq_false_iff_ne.mpr c2497) ?_
         refine RcondF kr ?_
         refine Rwp_skip ?_
         refine hK2493 _ _ ?_
         refine Rwp_seq_k (fun K2513 hK2514 => ?_)
         refine Rwp_seq_k (fun K2515 hK2516 => ?_)
         refine Rwp_region_lit kr ?_
         have hq_ := guard_some h; clear h; obtain ⟨c2517, h⟩ := hq_
         have c2517 : ¬ (best1954 < 0) := c2517
         refine seqL2 kr ?_
         refine seqK rfl (does_run (run_shr rfl (kv (.int .i64 (rd x1873 x2461))) (kv (.int .i64 best1954)) c2517 W2458) ?_)
         refine seqL1 kr ?_
         refine RwpList_nil ?_
         refine hK2516 _ _ ?_
         refine RblockK (fun B2518 hx2519 hn2520 hr2521 ho2522 hp2523 => ?_)
         have hq_ := bind_some h; clear h; obtain ⟨o2605, hv2660, h⟩ := hq_
         have J2661 : ∀ (f2649 : FM) (A2655 : Option Addr) (c2656 : Nat) (s2657 : Seg) (x2654 : List Int) (x2659 : Int) (j2653 : Nat → Value) (W2651 : World) (a_ : Act), FM.le f2456 f2649 → some ((x2654, x2659)) = some o2605 → St t W2651 f2649 (s2657 :: [(b9, .cells #[.slice A2655 x2654.length c2656, .int .i64 x2659] 121 (0, 0))] :: [(b13, .cells #[.pointer (some ⟨b9, 0, none⟩)] 119 (0, 0))] :: H) → Own (tInt .u8) 5 f2649 A2655 c2656 s2657 x2654 → a_ = ⟨#[.slice A2 counts1.length c3, uV, .slice none 0 0, pV b13 0, .slice A139 folds138.length c140, (j137 0), .slice A1874 x1873.length c1875, iV best1954, (j1953 0), uV, iV (rd x1873 x2461), .agg #[.slice none 0 0, iV 0], pV b9 0, pV b9 0, .slice A2 counts1.length c3, pV b28 (of29 + (0 : Int).toNat * 1), iV (rd counts1 0), .tuple #[], (j137 1), (j137 2), (j137 3), (j137 4), (j137 5), (j137 6), (j137 7), (j137 8), (j137 9), (j137 10), (j137 11), (j137 12), (j137 13), (j137 14), (j137 15), (j137 16), (j137 17), (j137 18), (j137 19), (j137 20), .slice A139 folds138.length c140, .func (.func 66) #[] #[pV b164 0, pV b169 0], .slice A1874 x1873.length c1875, (j1953 1), (j1953 2), (j1953 3), (j1953 4), (j1953 5), (j1953 6), (j1953 7), (j1953 8), (j1953 9), (j1953 10), (j1953 11), (j1953 12), pV b9 0, iV best1954, .tuple #[], .slice A1874 x1873.length c1875, iV (x1873.length : Int), iV x2461, tV, pV b2489 (of2490 + (x2461 : Int).toNat * 1), iV (rd x1873 x2461), iV best1954, fV, (j2460 6), (j2460 7), (j2460 8), iV (rd x1873 x2461), iV best1954, iV (shr (rd x1873 x2461) (min (best1954).toNat 64)), (j2653 0), (j2653 1), (j2653 2), (j2653 3), (j2653 4), (j2460 17), (j2460 18), (j2460 19), (j2460 20), (j2460 21), (j2460 22), (j2460 23), uV, uV, uV, uV], []⟩ → K2513 a_ W2651 := by
          intro f2649 A2655 c2656 s2657 x2654 x2659 j2653 W2651 a_ L2650 hj2662 HS2652 HO2658 hfr_; subst hfr_
          injection hj2662 with hj2662; subst hj2662; try dsimp only at h
          refine hK2514 _ _ ?_
          refine Rwp_seq_k (fun K2663 hK2664 => ?_)
          refine Rwp_region_lit kr ?_
          refine seqK rfl (does_run (run_load rfl Tryz.underlying119 rfl (kv (.pointer (some ⟨b13, 0, none⟩))) (HS2652.u2.cell 0)) ?_)
          have HS2665 := HS2652.u1
          have hq_ := bind_some h; clear h; obtain ⟨⟨vt2666, vt2667⟩, hc2668, h⟩ := hq_
          refine seqK rfl (does_call (f := 67) (args := #[.pointer (some ⟨b9, 0, none⟩), .int .i64 0, .int .i64 1]) kr (squeeze_writer_put.calls k b9 A2655 c2656 s2657 (⟨x2654, x2659⟩ : S_writer) 0 1 HS2665 HO2658 vt2666 vt2667 hc2668) ?_)
          rintro _ W2671 ⟨f2669, A2673, c2674, s2675, rfl, L2670, HS2672, HO2676⟩
          refine ⟨_, rfl, ?_⟩
          refine RwpList_nil ?_
          refine hK2664 _ _ ?_
          refine Rwp_region_lit kr ?_
          refine seqK rfl (does_run (run_load rfl Tryz.underlying119 rfl (kv (.pointer (some ⟨b13, 0, none⟩))) (HS2672.u2.cell 0)) ?_)
          have HS2678 := HS2672.u1
          have hq_ := bind_some h; clear h; obtain ⟨⟨vt2679, vt2680⟩, hc2681, h⟩ := hq_
          refine seqL2 kr ?_
          refine seqK rfl (does_call (f := 67) (args := #[.pointer (some ⟨b9, 0, none⟩), .int .i64 (rd x1873 x2461), .int .i64 best1954]) kr (squeeze_writer_put.calls k b9 A2673 c2674 s2675 (⟨vt2666, vt2667⟩ : S_writer) (rd x1873 x2461) best1954 HS2678 HO2676 vt2679 vt2680 hc2681) ?_)
          rintro _ W2684 ⟨f2682, A2686, c2687, s2688, rfl, L2683, HS2685, HO2689⟩
          refine ⟨_, rfl, ?_⟩
          refine RwpList_nil ?_
          refine hn2478 _ _ ?_
          refine hK2475 _ _ ?_
          refine Rwp_region_lit kr ?_
          refine seqL2 kr ?_
          refine RwpList_nil ?_
          refine hK2454 n2455 _ _ (Nat.lt_succ_self _) ?_
          exact ⟨f2682, A2686, c2687, s2688, (w64 (x2461 + 1)), vt2679, vt2680, (jL [iV (rd x1873 x2461), tV, .pointer (some ⟨b2489, of2490 + (x2461 : Int).toNat * 1, none⟩), iV (rd x1873 x2461), iV best1954, fV, (j2460 6), (j2460 7), (j2460 8), iV (rd x1873 x2461), iV best1954, iV (shr (rd x1873 x2461) (min (best1954).toNat 64)), (j2653 0), (j2653 1), (j2653 2), (j2653 3), (j2653 4), .pointer (some ⟨b9, 0, none⟩), .tuple #[], .pointer (some ⟨b9, 0, none⟩), iV (rd x1873 x2461), iV best1954, .tuple #[], iV (w64 (x2461 + 1))]), (L2457.trans (L2650.trans (L2670.trans L2683))), HS2685, HO2689, h, kr⟩
         clear h; have h := hv2660; clear hv2660
         refine RloopK (fun n_ a_ w_ => ∃ (f2609 : FM) (A2616 : Option Addr) (c2617 : Nat) (s2618 : Seg) (x2614 : Int) (x2615 : List Int) (x2620 : Int) (j2613 : Nat → Value), FM.le f2456 f2609 ∧ St t w_ f2609 (s2618 :: [(b9, .cells #[.slice A2616 x2615.length c2617, .int .i64 x2620] 121 (0, 0))] :: [(b13, .cells #[.pointer (some ⟨b9, 0, none⟩)] 119 (0, 0))] :: H) ∧ Own (tInt .u8) 5 f2609 A2616 c2617 s2618 x2615 ∧ squeeze_row.l4 k x1873 x2461 best1954 n_ x2614 x2615 x2620 = some o2605 ∧ a_ = ⟨#[.slice A2 counts1.length c3, uV, .slice none 0 0, pV b13 0, .slice A139 folds138.length c140, (j137 0), .slice A1874 x1873.length c1875, iV best1954, (j1953 0), uV, iV (rd x1873 x2461), .agg #[.slice none 0 0, iV 0], pV b9 0, pV b9 0, .slice A2 counts1.length c3, pV b28 (of29 + (0 : Int).toNat * 1), iV (rd counts1 0), .tuple #[], (j137 1), (j137 2), (j137 3), (j137 4), (j137 5), (j137 6), (j137 7), (j137 8), (j137 9), (j137 10), (j137 11), (j137 12), (j137 13), (j137 14), (j137 15), (j137 16), (j137 17), (j137 18), (j137 19), (j137 20), .slice A139 folds138.length c140, .func (.func 66) #[] #[pV b164 0, pV b169 0], .slice A1874 x1873.length c1875, (j1953 1), (j1953 2), (j1953 3), (j1953 4), (j1953 5), (j1953 6), (j1953 7), (j1953 8), (j1953 9), (j1953 10), (j1953 11), (j1953 12), pV b9 0, iV best1954, .tuple #[], .slice A1874 x1873.length c1875, iV (x1873.length : Int), iV x2461, tV, pV b2489 (of2490 + (x2461 : Int).toNat * 1), iV (rd x1873 x2461), iV best1954, fV, (j2460 6), (j2460 7), (j2460 8), iV (rd x1873 x2461), iV best1954, iV (shr (rd x1873 x2461) (min (best1954).toNat 64)), iV x2614, (j2613 0), (j2613 1), (j2613 2), (j2613 3), (j2460 17), (j2460 18), (j2460 19), (j2460 20), (j2460 21), (j2460 22), (j2460 23), uV, uV, uV, uV], []⟩) k ⟨f2456, A2463, c2464, s2465, 0, x2462, x2467, (jL [(j2460 13), (j2460 14), (j2460 15), (j2460 16)]), fL, HS2459, HO2466, h, kr⟩ ?_
         clear h
         rintro n2608 _ W2611 ⟨f2609, A2616, c2617, s2618, x2614, x2615, x2620, j2613, L2610, HS2612, HO2619, h, rfl⟩ K2606 hK2607
         obtain _ | n2608 := n2608
         · exact nomatch h
         simp only [squeeze_row.l4] at h
         refine Rwp_seq_k (fun K2621 hK2622 => ?_)
         refine Rwp_region_lit kr ?_
         refine seqL1 kr ?_
         refine RwpList_nil ?_
         refine hK2622 _ _ ?_
         refine Rwp_seq_k (fun K2623 hK2624 => ?_)
         have hq_ := ite_some h; clear h; rcases hq_ with ⟨c2626, h⟩ | ⟨c2626, h⟩
         · have c2626 : x2614 < (shr (rd x1873 x2461) (min (best1954).toNat 64)) := c2626
           refine RwpRwI 71 kr (decide_eq_true c2626) ?_
           refine RcondT kr ?_
           refine Rwp_skip ?_
           refine hK2624 _ _ ?_
           refine Rwp_seq_k (fun K2627 hK2628 => ?_)
           refine RblockK (fun B2629 hx2630 hn2631 hr2632 ho2633 hp2634 => ?_)
           refine Rwp_region_lit kr ?_
           refine seqK rfl (does_run (run_load rfl Tryz.underlying119 rfl (kv (.pointer (some ⟨b13, 0, none⟩))) (HS2612.u2.cell 0)) ?_)
           have HS2636 := HS2612.u1
           have hq_ := bind_some h; clear h; obtain ⟨⟨vt2637, vt2638⟩, hc2639, h⟩ := hq_
           refine seqK rfl (does_call (f := 67) (args := #[.pointer (some ⟨b9, 0, none⟩), .int .i64 1, .int .i64 1]) kr (squeeze_writer_put.calls k b9 A2616 c2617 s2618 (⟨x2615, x2620⟩ : S_writer) 1 1 HS2636 HO2619 vt2637 vt2638 hc2639) ?_)
           rintro _ W2642 ⟨f2640, A2644, c2645, s2646, rfl, L2641, HS2643, HO2647⟩
           refine ⟨_, rfl, ?_⟩
           refine RwpList_nil ?_
           refine hn2631 _ _ ?_
           refine hK2628 _ _ ?_
           refine Rwp_region_lit kr ?_
           refine seqL2 kr ?_
           refine RwpList_nil ?_
           refine hK2607 n2608 _ _ (Nat.lt_succ_self _) ?_
           exact ⟨f2640, A2644, c2645, s2646, (w64 (x2614 + 1)), vt2637, vt2638, (jL [tV, .pointer (some ⟨b9, 0, none⟩), .tuple #[], iV (w64 (x2614 + 1))]), (L2610.trans L2641), HS2643, HO2647, h, kr⟩
         · have c2626 : ¬ (x2614 < (shr (rd x1873 x2461) (min (best1954).toNat 64))) := c2626
           refine RwpRwI 71 kr (decide_eq_false c2626) ?_
           refine RcondF kr ?_
           refine Rwp_exit ?_
           refine hx2519 _ _ ?_
           exact J2661 f2609 A2616 c2617 s2618 x2615 x2620 (jL [iV x2614, fV, (j2613 1), (j2613 2), (j2613 3)]) W2611 _ L2610 h HS2612 HO2619 kr
     · have c2473 : ¬ (x2461 < (x1873.length : Int)) := c2473
       refine RwpRwI 59 kr (decide_eq_false c2473) ?_
       refine RcondF kr ?_
       refine Rwp_exit ?_
       refine hx1976 _ _ ?_
       exact J2703 f2456 A2463 c2464 s2465 x2462 x2467 (jL [(j2460 0), iV x2461, fV, (j2460 2), (j2460 3), (j2460 4), (j2460 5), (j2460 6), (j2460 7), (j2460 8), (j2460 9), (j2460 10), (j2460 11), (j2460 12), (j2460 13), (j2460 14), (j2460 15), (j2460 16), (j2460 17), (j2460 18), (j2460 19), (j2460 20), (j2460 21), (j2460 22), (j2460 23)]) W2458 _ L2457 h HS2459 HO2466 kr
    clear h; have h := hv1955; clear hv1955
    refine RloopK (fun n_ a_ w_ => ∃ (f1909 : FM) (best1914 : Int) (x1915 : Int) (j1913 : Nat → Value), FM.le f1862 f1909 ∧ St t w_ f1909 (s1870 :: [(b9, .cells #[.slice A1868 x1867.length c1869, .int .i64 x1872] 121 (0, 0))] :: [(b13, .cells #[.pointer (some ⟨b9, 0, none⟩)] 119 (0, 0))] :: H) ∧ squeeze_row.l2 k x1873 n_ best1914 x1915 = some o1905 ∧ a_ = ⟨#[.slice A2 counts1.length c3, uV, .slice none 0 0, pV b13 0, .slice A139 folds138.length c140, (j137 0), .slice A1874 x1873.length c1875, iV best1914, (j1913 0), uV, uV, .agg #[.slice none 0 0, iV 0], pV b9 0, pV b9 0, .slice A2 counts1.length c3, pV b28 (of29 + (0 : Int).toNat * 1), iV (rd counts1 0), .tuple #[], (j137 1), (j137 2), (j137 3), (j137 4), (j137 5), (j137 6), (j137 7), (j137 8), (j137 9), (j137 10), (j137 11), (j137 12), (j137 13), (j137 14), (j137 15), (j137 16), (j137 17), (j137 18), (j137 19), (j137 20), .slice A139 folds138.length c140, .func (.func 66) #[] #[pV b164 0, pV b169 0], .slice A1874 x1873.length c1875, iV x1915, (j1913 1), (j1913 2), (j1913 3), (j1913 4), (j1913 5), (j1913 6), (j1913 7), (j1913 8), (j1913 9), (j1913 10), (j1913 11), uV, uV, uV, uV, uV, uV, uV, uV, uV, uV, uV, uV, uV, uV, uV, uV, uV, uV, uV, uV, uV, uV, uV, uV, uV, uV, uV, uV, uV, uV, uV, uV, uV], []⟩) k ⟨f1862, 0, 0, (jL []), fL, HS1885, h, kr⟩ ?_
    clear h
    rintro n1908 _ W1911 ⟨f1909, best1914, x1915, j1913, L1910, HS1912, h, rfl⟩ K1906 hK1907
    obtain _ | n1908 := n1908
    · exact nomatch h
    simp only [squeeze_row.l2] at h
    refine Rwp_seq_k (fun K1916 hK1917 => ?_)
    refine Rwp_region_lit kr ?_
    refine seqL1 kr ?_
    refine RwpList_nil ?_
    refine hK1917 _ _ ?_
    refine Rwp_seq_k (fun K1918 hK1919 => ?_)
    have hq_ := ite_some h; clear h; rcases hq_ with ⟨c1921, h⟩ | ⟨c1921, h⟩
    · have c1921 : x1915 < 16 := c1921
      refine RwpRwI 42 kr (decide_eq_true c1921) ?_
      refine RcondT kr ?_
      refine Rwp_skip ?_
      refine hK1919 _ _ ?_
      refine Rwp_seq_k (fun K1922 hK1923 => ?_)
      refine RblockK (fun B1924 hx1925 hn1926 hr1927 ho1928 hp1929 => ?_)
      refine Rwp_seq_k (fun K1931 hK1932 => ?_)
      refine Rwp_region_lit kr ?_
      refine seqL2 kr ?_
      refine RwpList_nil ?_
      refine hK1932 _ _ ?_
      refine Rwp_seq_k (fun K1933 hK1934 => ?_)
      refine Rwp_region_lit kr ?_
      have hq_ := bind_some h; clear h; obtain ⟨vt1935, hc1936, h⟩ := hq_
      refine seqL2 kr ?_
      refine seqK rfl (does_call (f := 69) (args := #[.slice A1874 x1873.length c1875, .int .i64 x1915]) kr (squeeze_cost.calls k A1874 c1875 x1873 x1915 HS1912 (HR1876.mono L1910) vt1935 hc1936) ?_)
      rintro _ W1939 ⟨f1937, rfl, L1938, HS1940⟩
      refine ⟨_, rfl, ?_⟩
      have hq_ := bind_some h; clear h; obtain ⟨vt1941, hc1942, h⟩ := hq_
      refine seqL2 kr ?_
      refine seqK rfl (does_call (f := 69) (args := #[.slice A1874 x1873.length c1875, .int .i64 best1914]) kr (squeeze_cost.calls k A1874 c1875 x1873 best1914 HS1940 (HR1876.mono (L1910.trans L1938)) vt1941 hc1942) ?_)
      rintro _ W1945 ⟨f1943, rfl, L1944, HS1946⟩
      refine ⟨_, rfl, ?_⟩
      refine seqL1 kr ?_
      refine RwpList_nil ?_
      refine hK1934 _ _ ?_
      have hq_ := ite_some h; clear h; rcases hq_ with ⟨c1948, h⟩ | ⟨c1948, h⟩
      · have c1948 : vt1935 < vt1941 := c1948
        refine RwpRwI 50 kr (decide_eq_true c1948) ?_
        refine RcondT kr ?_
        refine Rwp_region_lit kr ?_
        refine seqL2 kr ?_
        refine RwpList_nil ?_
        refine hn1926 _ _ ?_
        refine hK1923 _ _ ?_
        refine Rwp_region_lit kr ?_
        refine seqL2 kr ?_
        refine RwpList_nil ?_
        refine hK1907 n1908 _ _ (Nat.lt_succ_self _) ?_
        exact ⟨f1943, x1915, (w64 (x1915 + 1)), (jL [iV x1915, tV, iV x1915, .slice A1874 x1873.length c1875, iV x1915, iV vt1935, .slice A1874 x1873.length c1875, iV best1914, iV vt1941, tV, iV x1915, iV (w64 (x1915 + 1))]), (L1910.trans (L1938.trans L1944)), HS1946, h, kr⟩
      · have c1948 : ¬ (vt1935 < vt1941) := c1948
        refine RwpRwI 50 kr (decide_eq_false c1948) ?_
        refine RcondF kr ?_
        refine Rwp_skip ?_
        refine hn1926 _ _ ?_
        refine hK1923 _ _ ?_
        refine Rwp_region_lit kr ?_
        refine seqL2 kr ?_
        refine RwpList_nil ?_
        refine hK1907 n1908 _ _ (Nat.lt_succ_self _) ?_
        exact ⟨f1943, best1914, (w64 (x1915 + 1)), (jL [iV x1915, tV, iV x1915, .slice A1874 x1873.length c1875, iV x1915, iV vt1935, .slice A1874 x1873.length c1875, iV best1914, iV vt1941, fV, (j1913 10), iV (w64 (x1915 + 1))]), (L1910.trans (L1938.trans L1944)), HS1946, h, kr⟩
    · have c1921 : ¬ (x1915 < 16) := c1921
      refine RwpRwI 42 kr (decide_eq_false c1921) ?_
      refine RcondF kr ?_
      refine Rwp_exit ?_
      refine hx1900 _ _ ?_
      exact J1956 f1909 best1914 (jL [(j1913 0), iV x1915, fV, (j1913 2), (j1913 3), (j1913 4), (j1913 5), (j1913 6), (j1913 7), (j1913 8), (j1913 9), (j1913 10), (j1913 11)]) W1911 _ L1910 h HS1912 kr
  · clear h
    intro D W1864 f1862 Hs_ hk_ HS1865
    obtain ⟨A1868, c1869, s1870, x1867, x1872, rest2_, rfl, L1863, HO1871, hx2_, h⟩ := hk_
    have HS1865 : St t W1864 f1862 (s1870 :: [(b9, .cells #[.slice A1868 x1867.length c1869, .int .i64 x1872] 121 (0, 0))] :: [(b13, .cells #[.pointer (some ⟨b9, 0, none⟩)] 119 (0, 0))] :: [(D, .deferred (some []))] :: H) := HS1865
    obtain rfl : rest2_ = [] := List.append_cancel_left (hx2_.symm.trans (List.append_nil _).symm)
    simp only [squeeze_row.g1] at h
    refine hn173 _ _ ?_
    exact J2717 D f1862 A1868 c1869 s1870 x1867 x1872 W1864 _ L1863 h HS1865 HO1871 kr
  · clear h
    intro D c_ pre_ x_ rest_ w9_ g_ Hs_ hc_ hx_ hk_ HS9_
    clear hc_
    rcases hk_ with hk_ | hk_
    · exact hk_.elim
    · exact hk_.elim
 clear h; have h := hv144; clear hv144
 have HS147 := HS42.cons_nil
 refine loopK (fun n_ a_ w_ => ∃ (f64 : FM) (A70 : Option Addr) (c71 : Nat) (s72 : Seg) (folds69 : List Int) (i75 : Int) (j68 : Nat → Value), FM.le f39 f64 ∧ St t w_ f64 (s72 :: s45 :: [(b9, .cells #[.slice A43 vt36.length c44, .int .i64 vt37] 121 (0, 0))] :: [(b13, .cells #[.pointer (some ⟨b9, 0, none⟩)] 119 (0, 0))] :: H) ∧ Own (tInt .i64) 3 f64 A70 c71 s72 folds69 ∧ squeeze_row.l0 k counts1 n_ folds69 i75 = some o60 ∧ a_ = ⟨#[.slice A2 counts1.length c3, uV, .slice none 0 0, pV b13 0, .slice A70 folds69.length c71, iV i75, uV, uV, uV, uV, uV, .agg #[.slice none 0 0, iV 0], pV b9 0, pV b9 0, .slice A2 counts1.length c3, pV b28 (of29 + (0 : Int).toNat * 1), iV (rd counts1 0), .tuple #[], (j68 0), (j68 1), (j68 2), (j68 3), (j68 4), (j68 5), (j68 6), (j68 7), (j68 8), (j68 9), (j68 10), (j68 11), (j68 12), (j68 13), (j68 14), (j68 15), (j68 16), (j68 17), (j68 18), (j68 19), uV, uV, uV, uV, uV, uV, uV, uV, uV, uV, uV, uV, uV, uV, uV, uV, uV, uV, uV, uV, uV, uV, uV, uV, uV, uV, uV, uV, uV, uV, uV, uV, uV, uV, uV, uV, uV, uV, uV, uV, uV, uV, uV, uV, uV, uV, uV, uV], []⟩) k ⟨f39, none, 0, [], ([] : List Int), 1, (jL []), fL, HS147, (Own.nil _), h, kr⟩ ?_
 clear h
 rintro n63 _ W66 ⟨f64, A70, c71, s72, folds69, i75, j68, L65, HS67, HO73, h, rfl⟩ K61 hK62
 obtain _ | n63 := n63
 · exact nomatch h
 simp only [squeeze_row.l0] at h
 refine wp_seq_k (fun K76 hK77 => ?_)
 refine wp_seq_k fun K78 hK79 => rl ?_
 refine seqL4 kr ?_
 refine nl (hK79 _ _ ?_)
 have hq_ := ite_some h; clear h; rcases hq_ with ⟨c81, h⟩ | ⟨c81, h⟩
 · have c81 : i75 < (counts1.length : Int) := c81
   refine wpRwI 21 kr (decide_eq_true c81) ?_
   refine condT kr ?_
   refine wp_skip ?_
   refine hK77 _ _ ?_
   refine wp_seq_k (fun K82 hK83 => ?_)
   refine blockK (fun B84 hx85 hn86 hr87 ho88 hp89 => ?_)
   have HS94 := HS67.u3.u3.u3.u3
   refine heldG (S := Sg t f64 (s45 :: [(b9, .cells #[.slice A43 vt36.length c44, .int .i64 vt37] 121 (0, 0))] :: [(b13, .cells #[.pointer (some ⟨b9, 0, none⟩)] 119 (0, 0))] :: H) [(13, s72)]) (n := 15) kr rfl HS94 ?_
   intro W95 HS96
   have hq_ := guard_some h; clear h; obtain ⟨c97, h⟩ := hq_
   have c97 : 0 ≤ i75 := c97
   obtain ⟨b101, of102, cs98, hA103, hr99, hc100⟩ := (HR4.mono (L40.trans L65)).at (i := i75) c97 c81
   obtain rfl := hr99
   refine takeGL [0, 1, 2] (n := 15) (fuel := 12) #[true, true, true, false, false, false, false, false, false, false, false, false, false, false, false] rfl kr kr kr (fun ch_ a_ w_ q_ => (fun ch_ a_ w_ q_ => hnp ch_ a_ w_ (hp59 ch_ a_ w_ q_)) ch_ a_ w_ (hp89 ch_ a_ w_ q_)) (Sg.g1 (Sx.of [s72] fL HS96) (fun _ => St.only [] HS96 fL)) ?_
   refine takeGQ 3 [] rfl kr kr kr kr kr kr (fun ch_ a_ w_ q_ => (fun ch_ a_ w_ q_ => hnp ch_ a_ w_ (hp59 ch_ a_ w_ q_)) ch_ a_ w_ (hp89 ch_ a_ w_ q_)) (Sg.g1 (Sx.of [s72] fL HS96) (fun _ => St.only [] HS96 fL)) (fun w_ hw_ => by obtain ⟨g_, hl_, hS_⟩ := hw_.st; exact run_indexE hA103 (sz := 1) rfl Tryz.underlying22 kr (kv (.slice A2 counts1.length c3)) (kv (.int .i64 i75)) c97 c81 w_) ?_
   refine takeGQ 4 [] rfl kr kr kr kr kr kr (fun ch_ a_ w_ q_ => (fun ch_ a_ w_ q_ => hnp ch_ a_ w_ (hp59 ch_ a_ w_ q_)) ch_ a_ w_ (hp89 ch_ a_ w_ q_)) (Sg.g1 (Sx.of [s72] fL HS96) (fun _ => St.only [] HS96 fL)) (fun w_ hw_ => by obtain ⟨g_, hl_, hS_⟩ := hw_.st; exact run_load rfl Tryz.underlying3 rfl (kv (.pointer (some ⟨b101, of102 + (i75 : Int).toNat * 1, none⟩))) ((hc100 hl_ hS_) 0 (by decide))) ?_
   have hq_ := guard_some h; clear h; obtain ⟨c104, h⟩ := hq_
   have c104 : 0 ≤ (w64 (i75 - 1)) := c104
   have hq_ := guard_some h; clear h; obtain ⟨c105, h⟩ := hq_
   have c105 : (w64 (i75 - 1)) < (counts1.length : Int) := c105
   obtain ⟨b109, of110, cs106, hA111, hr107, hc108⟩ := (HR4.mono (L40.trans L65)).at (i := w64 (i75 - 1)) c104 c105
   obtain rfl := hr107
   refine takeGL [5, 6, 7] (n := 10) (fuel := 7) #[true, true, true, true, true, true, true, true, false, false, false, false, false, false, false] rfl kr kr kr (fun ch_ a_ w_ q_ => (fun ch_ a_ w_ q_ => hnp ch_ a_ w_ (hp59 ch_ a_ w_ q_)) ch_ a_ w_ (hp89 ch_ a_ w_ q_)) (Sg.g1 (Sx.of [s72] fL HS96) (fun _ => St.only [] HS96 fL)) ?_
   refine takeGQ 8 [] rfl kr kr kr kr kr kr (fun ch_ a_ w_ q_ => (fun ch_ a_ w_ q_ => hnp ch_ a_ w_ (hp59 ch_ a_ w_ q_)) ch_ a_ w_ (hp89 ch_ a_ w_ q_)) (Sg.g1 (Sx.of [s72] fL HS96) (fun _ => St.only [] HS96 fL)) (fun w_ hw_ => by obtain ⟨g_, hl_, hS_⟩ := hw_.st; exact run_indexE hA111 (sz := 1) rfl Tryz.underlying22 kr (kv (.slice A2 counts1.length c3)) (kv (.int .i64 (w64 (i75 - 1)))) c104 c105 w_) ?_
   refine takeGQ 9 [] rfl kr kr kr kr kr kr (fun ch_ a_ w_ q_ => (fun ch_ a_ w_ q_ => hnp ch_ a_ w_ (hp59 ch_ a_ w_ q_)) ch_ a_ w_ (hp89 ch_ a_ w_ q_)) (Sg.g1 (Sx.of [s72] fL HS96) (fun _ => St.only [] HS96 fL)) (fun w_ hw_ => by obtain ⟨g_, hl_, hS_⟩ := hw_.st; exact run_load rfl Tryz.underlying3 rfl (kv (.pointer (some ⟨b109, of110 + (w64 (i75 - 1) : Int).toNat * 1, none⟩))) ((hc108 hl_ hS_) 0 (by decide))) ?_
   refine takeGL [10] (n := 5) (fuel := 4) #[true, true, true, true, true, true, true, true, true, true, true, false, false, false, false] rfl kr kr kr (fun ch_ a_ w_ q_ => (fun ch_ a_ w_ q_ => hnp ch_ a_ w_ (hp59 ch_ a_ w_ q_)) ch_ a_ w_ (hp89 ch_ a_ w_ q_)) (Sg.g1 (Sx.of [s72] fL HS96) (fun _ => St.only [] HS96 fL)) ?_
   have hq_ := bind_some h; clear h; obtain ⟨vt112, hc113, h⟩ := hq_
   refine takeGE 11 kr rfl kr (does_call (f := 68) (args := #[.int .i64 (w64 ((rd counts1 i75) - (rd counts1 (w64 (i75 - 1)))))]) kr (squeeze_fold.calls k (w64 ((rd counts1 i75) - (rd counts1 (w64 (i75 - 1))))) HS96 vt112 hc113) ?_)
   rintro _ W116 ⟨f114, rfl, L115, HS117⟩
   refine ⟨_, rfl, ?_⟩
   refine ⟨(Sg.g1 (Sx.of [s72] L115 HS117) (fun _ => St.only [] HS117 L115)), ?_⟩
   refine takeGE 12 kr rfl kr (does_lit (e := (tInt .i64)) (E := 3) (vs := #[(0, Value.int .i64 vt112)]) (cs := #[.int .i64 vt112]) (xs := ([vt112] : List Int)) rfl Tryz.underlying22 kr kr ⟨[.int .i64 vt112], _, rfl, rfl, rfl⟩ rfl HS117 ?_ (by decide))
   intro b118 W119 s120 HS121 _ HO122
   refine ⟨(Sg.g1 (Sx.of [s120, s72] L115 HS121) (fun _ => St.only [s120] HS121 L115)), ?_⟩
   have hq_ := guard_some h; clear h; obtain ⟨c124, h⟩ := hq_
   have c124 : (folds69.length + 1) * 8 ≤ 140737488355328 := c124
   have HS126 := HS121.u1.u1
   refine takeGE 13 kr rfl kr (does_append1 (e := (tInt .i64)) (E := 3) (xs := folds69) (ys := ([vt112] : List Int)) rfl (kv (.slice A70 folds69.length c71)) (kv (.slice (some ⟨b118, 0, none⟩) ([vt112] : List Int).length 1)) Tryz.underlying22 inf3 (HO73.mono L115) HO122 HS126 c124 (lim63 c124 (by decide)) ?_)
   intro A127 c128 s129 W130 HS131 HO132
   refine ⟨(Sg.g1 (Sx.of [s129] L115 HS131) (fun hl_ => Bool.noConfusion (show true = false from hl_))), ?_⟩
   refine takeGL [14] (n := 1) (fuel := 0) #[true, true, true, true, true, true, true, true, true, true, true, true, true, true, true] rfl kr kr kr (fun ch_ a_ w_ q_ => (fun ch_ a_ w_ q_ => hnp ch_ a_ w_ (hp59 ch_ a_ w_ q_)) ch_ a_ w_ (hp89 ch_ a_ w_ q_)) (Sg.g1 (Sx.of [s129] L115 HS131) (fun hl_ => Bool.noConfusion (show true = false from hl_))) ?_
   refine doneG kr ?_ _
   refine hn86 _ _ ?_
   refine hK83 _ _ ?_
   refine rl ?_
   refine seqL3 kr ?_
   refine nl ?_
   refine hK62 n63 _ _ (Nat.lt_succ_self _) ?_
   exact ⟨f114, A127, c128, s129, (folds69 ++ ([vt112] : List Int)), (w64 (i75 + 1)), (jL [iV i75, .slice A2 counts1.length c3, iV (counts1.length : Int), tV, iV i75, iV (w64 (i75 + 1)), .slice A70 folds69.length c71, .slice A2 counts1.length c3, iV i75, .pointer (some ⟨b101, of102 + (i75 : Int).toNat * 1, none⟩), iV (rd counts1 i75), .slice A2 counts1.length c3, iV i75, iV (w64 (i75 - 1)), .pointer (some ⟨b109, of110 + (w64 (i75 - 1) : Int).toNat * 1, none⟩), iV (rd counts1 (w64 (i75 - 1))), iV (w64 ((rd counts1 i75) - (rd counts1 (w64 (i75 - 1))))), iV vt112, .slice (some ⟨b118, 0, none⟩) ([vt112] : List Int).length 1, .slice A127 (folds69 ++ ([vt112] : List Int)).length c128]), (L65.trans L115), HS131, HO132, h, kr⟩
 · have c81 : ¬ (i75 < (counts1.length : Int)) := c81
   refine wpRwI 21 kr (decide_eq_false c81) ?_
   refine condF kr ?_
   refine wp_exit ?_
   refine hx55 _ _ ?_
   exact J145 f64 A70 c71 s72 folds69 (jL [iV i75, iV i75, .slice A2 counts1.length c3, iV (counts1.length : Int), fV, (j68 4), (j68 5), (j68 6), (j68 7), (j68 8), (j68 9), (j68 10), (j68 11), (j68 12), (j68 13), (j68 14), (j68 15), (j68 16), (j68 17), (j68 18), (j68 19)]) W66 _ L65 h HS67 HO73 kr

set_option maxRecDepth 100000 in
set_option maxHeartbeats 4000000 in
theorem squeeze_Pack.calls (k : Nat) (A4 : Option Addr) (c5 : Nat) (vw1 : Int) (vh2 : Int) (counts3 : List Int) {t w : World} {f : FM} {H : List Seg} (HS : St t w f (H)) (HR6 : SlR (tInt .i64) f A4 c5 counts3) (rr1 : List Int) (rr2 : Int) (h : squeeze_Pack k vw1 vh2 counts3 = some (rr1, rr2)) :
    Calls Tryz.prog 17 #[.int .i64 vw1, .int .i64 vh2, .slice A4 counts3.length c5] w (fun e w' => ∃ (g : FM) (A293 : Option Addr) (c294 : Nat) (s295 : Seg), e = .returned (Value.tuple #[.slice A293 rr1.length c294, .int .i64 rr2]) ∧ FM.le f g ∧ St t w' g (s295 :: H) ∧ Own (tInt .u8) 5 g A293 c294 s295 rr1) := by
 unfold squeeze_Pack at h
 refine enterM Tryz.func17 rfl (tm := #[iV vw1, iV vh2, .slice A4 counts3.length c5, uV, uV, uV, uV, uV, uV, uV, uV, uV, uV, uV, uV, uV, uV, uV, uV, uV, uV, uV, uV, uV, uV, uV, uV, uV, uV, uV, uV, uV, uV, uV, uV, uV, uV, uV, uV, uV, uV, uV, uV, uV]) kr ?_
 intro B hret hnor hnp
 refine wp_seq_k fun K7 hK8 => rl ?_
 refine seqS2 (a' := ⟨#[iV vw1, iV vh2, .slice A4 counts3.length c5, uV, uV, uV, .slice none 0 0, iV 0, uV, uV, uV, uV, uV, uV, uV, uV, uV, uV, uV, uV, uV, uV, uV, uV, uV, uV, uV, uV, uV, uV, uV, uV, uV, uV, uV, uV, uV, uV, uV, uV, uV, uV, uV, uV], []⟩) kr ?_
 refine nl (hK8 _ _ ?_)
 refine wp_seq_k (fun K9 hK10 => ?_)
 refine wp_seq_k fun K11 hK12 => rl ?_
 have hq_ := bind_some h; clear h; obtain ⟨vt13, hc14, h⟩ := hq_
 refine seqL4 kr ?_
 refine seqK rfl (does_call (f := 15) (args := #[.agg #[.int .i64 vw1, .int .i64 vh2, .slice none 0 0, .slice A4 counts3.length c5]]) kr (frame_Check_2.calls k A4 c5 (⟨vw1, vh2, ([] : List S_Card), counts3⟩ : S_Frame) HS HR6 vt13 hc14) ?_)
 rintro _ W17 ⟨f15, rfl, L16, HS18⟩
 refine ⟨_, rfl, ?_⟩
 refine seqS1 (a' := ⟨#[iV vw1, iV vh2, .slice A4 counts3.length c5, uV, uV, uV, .slice none 0 0, iV 0, iV vt13, uV, uV, uV, iV vw1, iV vh2, .slice A4 counts3.length c5, .agg #[iV vw1, iV vh2, .slice none 0 0, .slice A4 counts3.length c5], iV vt13, uV, uV, uV, uV, uV, uV, uV, uV, uV, uV, uV, uV, uV, uV, uV, uV, uV, uV, uV, uV, uV, uV, uV, uV, uV, uV, uV], []⟩) kr ?_
 refine nl (hK12 _ _ ?_)
 refine wp_seq_k fun K19 hK20 => rl ?_
 refine seqS2 (a' := ⟨#[iV vw1, iV vh2, .slice A4 counts3.length c5, uV, uV, uV, .slice none 0 0, iV 0, iV vt13, uV, uV, uV, iV vw1, iV vh2, .slice A4 counts3.length c5, .agg #[iV vw1, iV vh2, .slice none 0 0, .slice A4 counts3.length c5], iV vt13, iV vt13, .bool (vt13 != 0), uV, uV, uV, uV, uV, uV, uV, uV, uV, uV, uV, uV, uV, uV, uV, uV, uV, uV, uV, uV, uV, uV, uV, uV, uV], []⟩) kr ?_
 refine nl (hK20 _ _ ?_)
 have hq_ := ite_some h; clear h; rcases hq_ with ⟨c22, h⟩ | ⟨c22, h⟩
 · have c22 : vt13 ≠ 0 := c22
   refine wpRwI 18 kr (bne_iff_ne.mpr c22) ?_
   refine condT kr ?_
   refine wp_seq_k fun K23 hK24 => rl ?_
   refine seqS3 (a' := ⟨#[iV vw1, iV vh2, .slice A4 counts3.length c5, uV, uV, uV, .slice none 0 0, iV vt13, iV vt13, uV, uV, uV, iV vw1, iV vh2, .slice A4 counts3.length c5, .agg #[iV vw1, iV vh2, .slice none 0 0, .slice A4 counts3.length c5], iV vt13, iV vt13, tV, iV vt13, uV, uV, uV, uV, uV, uV, uV, uV, uV, uV, uV, uV, uV, uV, uV, uV, uV, uV, uV, uV, uV, uV, uV, uV], []⟩) kr ?_
   refine nl (hK24 _ _ ?_)
   refine wp_ret ?_
   refine hret _ _ ?_
   have HS287 := HS18.cons_nil
   refine endsM_still (v := Value.tuple #[.slice none 0 0, .int .i64 vt13]) kr kr ?_
   injection h with h
   injection h with h0_ h
   subst h0_ h
   exact ⟨f15, none, 0, [], rfl, L16, HS287, (Own.nil _)⟩
 · have c22 : ¬ (vt13 ≠ 0) := c22
   refine wpRwI 18 (x := (vt13 != 0)) (v := false) kr (bne_eq_false_iff_eq.mpr (Decidable.of_not_not c22)) ?_
   refine condF kr ?_
   refine wp_skip ?_
   refine hK10 _ _ ?_
   refine wp_seq_k fun K25 hK26 => rl ?_
   refine seqL4 kr ?_
   refine seqK rfl (does_lit (e := (tInt .u8)) (E := 5) (vs := #[(0, Value.int .u8 (u8 (vw1))), (1, Value.int .u8 (u8 (vh2)))]) (cs := #[.int .u8 (u8 (vw1)), .int .u8 (u8 (vh2))]) (xs := ([u8 (vw1), u8 (vh2)] : List Int)) rfl Tryz.underlying30 kr kr ⟨[.int .u8 (u8 (vw1))], _, rfl, rfl, ⟨[.int .u8 (u8 (vh2))], _, rfl, rfl, rfl⟩⟩ rfl HS18 ?_ (by decide))
   intro b27 W28 s29 HS30 _ HO31
   refine seqK rfl (does_alloc (z := Value.slice none 0 0) (cs := #[.slice none 0 0]) rfl kr rfl HS30 ?_)
   intro b33 W34 HS35
   refine seqK rfl (does_store (n := 1) (vs := [.slice (some ⟨b27, 0, none⟩) ([u8 (vw1), u8 (vh2)] : List Int).length 2]) (cs' := #[.slice (some ⟨b27, 0, none⟩) ([u8 (vw1), u8 (vh2)] : List Int).length 2]) rfl kr (kv (.pointer (some ⟨b33, 0, none⟩))) (kv (.slice (some ⟨b27, 0, none⟩) ([u8 (vw1), u8 (vh2)] : List Int).length 2)) rfl rfl (ones rfl) HS35 (Nat.le_of_ble_eq_true rfl) kr ?_)
   intro W37 HS38
   refine nl (hK26 _ _ ?_)
   refine wp_seq_k (fun K39 hK40 => ?_)
   refine wp_seq_k fun K41 hK42 => rl ?_
   have hq_ := bind_some h; clear h; obtain ⟨⟨vt43, vt44⟩, hc45, h⟩ := hq_
   refine seqL2 kr ?_
   refine seqK rfl (does_call (f := 35) (args := #[.slice A4 counts3.length c5, .int .i64 vw1]) kr (slices_Chunk_int.calls k A4 c5 counts3 vw1 HS38 (HR6.mono L16) vt43 vt44 hc45) ?_)
   rintro _ W48 ⟨f46, b50, A51, c52, b55, rfl, L47, HS49, HF54, HR53, HF56⟩
   refine ⟨_, rfl, ?_⟩
   refine nl (hK42 _ _ ?_)
   refine blockK (fun B57 hx58 hn59 hr60 ho61 hp62 => ?_)
   have hq_ := bind_some h; clear h; obtain ⟨xs63, hc64, h⟩ := hq_
   have hit65 := slices_Chunk_int_1.iter k b50 A51 c52 b55 vt43 vt44 (f := f46) HR53 HF54 HF56 xs63 hc64
   have hq_ := bind_some h; clear h; obtain ⟨o200, hv270, h⟩ := hq_
   have J281 : ∀ (D : Nat) (f271 : FM) (A277 : Option Addr) (c278 : Nat) (s279 : Seg) (x276 : List Int) (j275 : Nat → Value) (W273 : World) (a_ : Act), FM.le f46 f271 → some (x276) = some o200 → St t W273 f271 ([(b33, .cells #[.slice A277 x276.length c278] 30 (0, 0))] :: s279 :: [(D, .deferred (some []))] :: H) → Own (tInt .u8) 5 f271 A277 c278 s279 x276 → a_ = ⟨#[iV vw1, iV vh2, .slice A4 counts3.length c5, uV, uV, uV, .slice none 0 0, iV 0, iV vt13, pV b33 0, uV, uV, iV vw1, iV vh2, .slice A4 counts3.length c5, .agg #[iV vw1, iV vh2, .slice none 0 0, .slice A4 counts3.length c5], iV vt13, iV vt13, fV, uV, iV vw1, .int .u8 (u8 (vw1)), iV vh2, .int .u8 (u8 (vh2)), (j275 0), .slice A4 counts3.length c5, iV vw1, .func (.func 66) #[] #[pV b50 0, pV b55 0], uV, uV, uV, uV, uV, uV, uV, uV, uV, uV, uV, uV, uV, uV, uV, uV], [mark D]⟩ → K39 a_ W273 := by
    intro D f271 A277 c278 s279 x276 j275 W273 a_ L272 hj283 HS274 HO280 hfr_; subst hfr_
    injection hj283 with hj283; subst hj283; try dsimp only at h
    refine hK40 _ _ ?_
    refine wp_seq_k fun K285 hK286 => rl ?_
    refine seqK rfl (does_run (run_load rfl Tryz.underlying30 rfl (kv (.pointer (some ⟨b33, 0, none⟩))) (HS274.cell 0)) ?_)
    refine seqS2 (a' := ⟨#[iV vw1, iV vh2, .slice A4 counts3.length c5, uV, uV, uV, .slice A277 x276.length c278, iV 0, iV vt13, pV b33 0, uV, uV, iV vw1, iV vh2, .slice A4 counts3.length c5, .agg #[iV vw1, iV vh2, .slice none 0 0, .slice A4 counts3.length c5], iV vt13, iV vt13, fV, uV, iV vw1, .int .u8 (u8 (vw1)), iV vh2, .int .u8 (u8 (vh2)), (j275 0), .slice A4 counts3.length c5, iV vw1, .func (.func 66) #[] #[pV b50 0, pV b55 0], uV, uV, uV, uV, uV, uV, uV, uV, uV, uV, uV, uV, uV, uV, uV, .slice A277 x276.length c278], [mark D]⟩) kr ?_
    refine nl (hK286 _ _ ?_)
    refine wp_ret ?_
    refine hret _ _ ?_
    have HS289 := HS274.u2
    refine marked HS289 kr ?_
    intro W290 HS291
    refine endsM_still (v := Value.tuple #[.slice A277 x276.length c278, .int .i64 0]) kr kr ?_
    have HS292 := HS291.drop
    injection h with h
    injection h with h0_ h
    subst h0_ h
    exact ⟨f271, A277, c278, s279, rfl, (L16.trans (L47.trans L272)), HS292, HO280⟩
   clear h; have h := hv270; clear hv270
   refine rangeK (gf := 66) (lb := #[Value.pointer (some ⟨b50, 0, none⟩), Value.pointer (some ⟨b55, 0, none⟩)]) (Hs0 := [[(b33, .cells #[.slice (some ⟨b27, 0, none⟩) ([u8 (vw1), u8 (vh2)] : List Int).length 2] 30 (0, 0))], s29]) kr (fun a_ w_ => still_run (still_call Tryz.func66 rfl rfl a_) w_) hit65 (by rintro _ _ _ ⟨_, _, rfl, _⟩; rfl) fL (fun pre_ f201 Hs_ => ∃ (A207 : Option Addr) (c208 : Nat) (s209 : Seg) (x206 : List Int) (rest_ : List _), Hs_ = [[(b33, .cells #[.slice A207 x206.length c208] 30 (0, 0))], s209] ∧ FM.le f46 f201 ∧ Own (tInt .u8) 5 f201 A207 c208 s209 x206 ∧ xs63 = pre_ ++ rest_ ∧ squeeze_Pack.g0 k rest_ x206 = some o200) (fun c_ pre_ g_ Hs_ => (False) ∨ (False)) HS49 ⟨(some ⟨b27, 0, none⟩), 2, s29, ([u8 (vw1), u8 (vh2)] : List Int), xs63, rfl, fL, (HO31.mono L47), rfl, h⟩ (by rintro pre_ g_ g2_ Hs_ ⟨A207, c208, s209, x206, rest_, rfl, hl_, HO210, hx_, h_⟩ hgg_; exact ⟨A207, c208, s209, x206, rest_, rfl, hl_.trans hgg_, (HO210.mono hgg_), hx_, h_⟩) ?_ ?_ ?_ ?_
   · rintro c_ pre_ g_ g2_ Hs_ (hf_ | hf_) hgg_
     · exact hf_.elim
     · exact hf_.elim
   · clear h
     intro l_ H pre_ x_ rest_ vs_ W203 f201 Hs_ hx_ hv_ hk_ HS204 A_ hA220 hnA221
     obtain ⟨A207, c208, s209, x206, rest2_, rfl, L202, HO210, hx2_, h⟩ := hk_
     have HS204 : St t W203 f201 ([(b33, .cells #[.slice A207 x206.length c208] 30 (0, 0))] :: s209 :: H) := HS204
     obtain rfl : rest2_ = x_ :: rest_ := List.append_cancel_left (hx2_.symm.trans hx_)
     obtain ⟨x211, rfl⟩ : ∃ y_, y_ = x_ := ⟨_, rfl⟩
     obtain ⟨A212, c213, hv_, HR214⟩ := hv_
     have hv_ : vs_ = #[Value.slice A212 x211.length c213] := hv_; subst hv_
     simp only [squeeze_Pack.g0] at h
     refine RwpRwA (a' := ⟨#[iV vw1, iV vh2, .slice A4 counts3.length c5, uV, uV, uV, .slice none 0 0, iV 0, iV vt13, pV b33 0, uV, uV, iV vw1, iV vh2, .slice A4 counts3.length c5, .agg #[iV vw1, iV vh2, .slice none 0 0, .slice A4 counts3.length c5], iV vt13, iV vt13, fV, uV, iV vw1, .int .u8 (u8 (vw1)), iV vh2, .int .u8 (u8 (vh2)), .slice (some ⟨b27, 0, none⟩) ([u8 (vw1), u8 (vh2)] : List Int).length 2, .slice A4 counts3.length c5, iV vw1, .func (.func 66) #[] #[pV b50 0, pV b55 0], .slice A212 x211.length c213, uV, uV, uV, uV, uV, uV, uV, uV, uV, uV, uV, uV, uV, uV, uV], []⟩) kr ?_
     refine Rwp_region_lit kr ?_
     refine seqS1 (a' := ⟨#[iV vw1, iV vh2, .slice A4 counts3.length c5, uV, uV, uV, .slice none 0 0, iV 0, iV vt13, pV b33 0, .slice A212 x211.length c213, uV, iV vw1, iV vh2, .slice A4 counts3.length c5, .agg #[iV vw1, iV vh2, .slice none 0 0, .slice A4 counts3.length c5], iV vt13, iV vt13, fV, uV, iV vw1, .int .u8 (u8 (vw1)), iV vh2, .int .u8 (u8 (vh2)), .slice (some ⟨b27, 0, none⟩) ([u8 (vw1), u8 (vh2)] : List Int).length 2, .slice A4 counts3.length c5, iV vw1, .func (.func 66) #[] #[pV b50 0, pV b55 0], .slice A212 x211.length c213, uV, uV, uV, uV, uV, uV, uV, uV, uV, uV, uV, uV, uV, uV, uV], []⟩) kr ?_
     refine RwpList_nil ?_
     refine hA220 _ _ _ [[(b33, .cells #[.slice A207 x206.length c208] 30 (0, 0))], s209] fL HS204 ?_
     intro H W222 HS223 B215 hag216 hrt217 hbk218 hnp219
     have HS223 : St t W222 f201 ([(b33, .cells #[.slice A207 x206.length c208] 30 (0, 0))] :: s209 :: H) := HS223
     refine RblockK (fun B224 hx225 hn226 hr227 ho228 hp229 => ?_)
     refine Rwp_seq_k (fun K231 hK232 => ?_)
     refine Rwp_region_lit kr ?_
     have hq_ := bind_some h; clear h; obtain ⟨vt233, hc234, h⟩ := hq_
     refine seqL1 kr ?_
     refine seqK rfl (does_call (f := 36) (args := #[.slice A212 x211.length c213]) kr (squeeze_row.calls k A212 c213 x211 HS223 HR214 vt233 hc234) ?_)
     rintro _ W237 ⟨f235, A239, c240, s241, rfl, L236, HS238, HO242⟩
     refine ⟨_, rfl, ?_⟩
     refine seqS1 (a' := ⟨#[iV vw1, iV vh2, .slice A4 counts3.length c5, uV, uV, uV, .slice none 0 0, iV 0, iV vt13, pV b33 0, .slice A212 x211.length c213, .slice A239 vt233.length c240, iV vw1, iV vh2, .slice A4 counts3.length c5, .agg #[iV vw1, iV vh2, .slice none 0 0, .slice A4 counts3.length c5], iV vt13, iV vt13, fV, uV, iV vw1, .int .u8 (u8 (vw1)), iV vh2, .int .u8 (u8 (vh2)), .slice (some ⟨b27, 0, none⟩) ([u8 (vw1), u8 (vh2)] : List Int).length 2, .slice A4 counts3.length c5, iV vw1, .func (.func 66) #[] #[pV b50 0, pV b55 0], .slice A212 x211.length c213, .slice A212 x211.length c213, .slice A239 vt233.length c240, uV, uV, uV, uV, uV, uV, uV, uV, uV, uV, uV, uV, uV], []⟩) kr ?_
     refine RwpList_nil ?_
     refine hK232 _ _ ?_
     refine Rwp_region_lit kr ?_
     refine seqK rfl (does_run (run_load rfl Tryz.underlying30 rfl (kv (.pointer (some ⟨b33, 0, none⟩))) (HS238.u1.cell 0)) ?_)
     refine seqL7 kr ?_
     refine seqK rfl (does_lit (e := (tInt .u8)) (E := 5) (vs := #[(0, Value.int .u8 (u8 (shr (vt233.length : Int) 8))), (1, Value.int .u8 (u8 ((vt233.length : Int))))]) (cs := #[.int .u8 (u8 (shr (vt233.length : Int) 8)), .int .u8 (u8 ((vt233.length : Int)))]) (xs := ([u8 (shr (vt233.length : Int) 8), u8 ((vt233.length : Int))] : List Int)) rfl Tryz.underlying30 kr kr ⟨[.int .u8 (u8 (shr (vt233.length : Int) 8))], _, rfl, rfl, ⟨[.int .u8 (u8 ((vt233.length : Int)))], _, rfl, rfl, rfl⟩⟩ rfl HS238 ?_ (by decide))
     intro b244 W245 s246 HS247 _ HO248
     have hq_ := guard_some h; clear h; obtain ⟨c250, h⟩ := hq_
     have c250 : (x206.length + 2) * 1 ≤ 140737488355328 := c250
     have HS252 := HS247.u3.u1
     refine seqK rfl (does_append1 (e := (tInt .u8)) (E := 5) (xs := x206) (ys := ([u8 (shr (vt233.length : Int) 8), u8 ((vt233.length : Int))] : List Int)) rfl (kv (.slice A207 x206.length c208)) (kv (.slice (some ⟨b244, 0, none⟩) ([u8 (shr (vt233.length : Int) 8), u8 ((vt233.length : Int))] : List Int).length 2)) Tryz.underlying30 inf5 (HO210.mono L236) HO248 HS252 c250 (lim63 c250 (by decide)) ?_)
     intro A253 c254 s255 W256 HS257 HO258
     have hq_ := guard_some h; clear h; obtain ⟨c259, h⟩ := hq_
     have c259 : ((x206 ++ ([u8 (shr (vt233.length : Int) 8), u8 ((vt233.length : Int))] : List Int)).length + vt233.length) * 1 ≤ 140737488355328 := c259
     have HS260 := HS257.u1
     refine seqL1 kr ?_
     refine seqK rfl (does_append1 (e := (tInt .u8)) (E := 5) (xs := (x206 ++ ([u8 (shr (vt233.length : Int) 8), u8 ((vt233.length : Int))] : List Int))) (ys := vt233) rfl (kv (.slice A253 (x206 ++ ([u8 (shr (vt233.length : Int) 8), u8 ((vt233.length : Int))] : List Int)).length c254)) (kv (.slice A239 vt233.length c240)) Tryz.underlying30 inf5 HO258 HO242 HS260 c259 (lim63 c259 (by decide)) ?_)
     intro A261 c262 s263 W264 HS265 HO266
     have HS267 := HS265.u1
     refine seqK rfl (does_store (n := 1) (vs := [.slice A261 ((x206 ++ ([u8 (shr (vt233.length : Int) 8), u8 ((vt233.length : Int))] : List Int)) ++ vt233).length c262]) (cs' := #[.slice A261 ((x206 ++ ([u8 (shr (vt233.length : Int) 8), u8 ((vt233.length : Int))] : List Int)) ++ vt233).length c262]) rfl kr (kv (.pointer (some ⟨b33, 0, none⟩))) (kv (.slice A261 ((x206 ++ ([u8 (shr (vt233.length : Int) 8), u8 ((vt233.length : Int))] : List Int)) ++ vt233).length c262)) rfl rfl (ones rfl) HS267 (Nat.le_of_ble_eq_true rfl) kr ?_)
     intro W268 HS269
     refine RwpList_nil ?_
     refine hn226 _ _ ?_
     exact hag216 _ _ f235 [[(b33, .cells #[.slice A261 ((x206 ++ ([u8 (shr (vt233.length : Int) 8), u8 ((vt233.length : Int))] : List Int)) ++ vt233).length c262] 30 (0, 0))], s263] L236 ⟨A261, c262, s263, ((x206 ++ ([u8 (shr (vt233.length : Int) 8), u8 ((vt233.length : Int))] : List Int)) ++ vt233), rest_, rfl, (L202.trans L236), HO266, hx_.trans (List.append_cons _ _ _), h⟩ HS269
   · clear h
     intro D W203 f201 Hs_ hk_ HS204
     obtain ⟨A207, c208, s209, x206, rest2_, rfl, L202, HO210, hx2_, h⟩ := hk_
     have HS204 : St t W203 f201 ([(b33, .cells #[.slice A207 x206.length c208] 30 (0, 0))] :: s209 :: [(D, .deferred (some []))] :: H) := HS204
     obtain rfl : rest2_ = [] := List.append_cancel_left (hx2_.symm.trans (List.append_nil _).symm)
     simp only [squeeze_Pack.g0] at h
     refine hn59 _ _ ?_
     exact J281 D f201 A207 c208 s209 x206 (jL [.slice (some ⟨b27, 0, none⟩) ([u8 (vw1), u8 (vh2)] : List Int).length 2]) W203 _ L202 h HS204 HO210 kr
   · clear h
     intro D c_ pre_ x_ rest_ w9_ g_ Hs_ hc_ hx_ hk_ HS9_
     clear hc_
     rcases hk_ with hk_ | hk_
     · exact hk_.elim
     · exact hk_.elim

set_option maxRecDepth 100000 in
set_option maxHeartbeats 4000000 in
theorem slices_Grow_byte.calls (k : Nat)  (n1 : Int) {t w : World} {f : FM} {H : List Seg} (HS : St t w f (H)) (rr1 : List Int) (h : slices_Grow_byte k n1 = some rr1) :
    Calls Tryz.prog 37 #[.slice none 0 0, .int .i64 n1] w (fun e w' => ∃ (g : FM) (A34 : Option Addr) (c35 : Nat) (s36 : Seg), e = .returned (Value.slice A34 rr1.length c35) ∧ FM.le f g ∧ St t w' g (s36 :: H) ∧ Own (tInt .u8) 5 g A34 c35 s36 rr1) := by
 unfold slices_Grow_byte at h
 refine enter Tryz.func37 rfl (tm := #[.slice none 0 0, iV n1, uV, uV, uV, uV, uV, uV, uV, uV, uV, uV, uV, uV, uV, uV, uV, uV, uV, uV, uV, uV, uV, uV, uV, uV, uV]) kr ?_
 intro B hret hnor hnp
 refine wp_seq_k fun K2 hK3 => rl ?_
 refine seqL1 kr ?_
 refine nl (hK3 _ _ ?_)
 refine wp_seq_k (fun K4 hK5 => ?_)
 refine wp_seq_k fun K6 hK7 => rl ?_
 refine seqL2 kr ?_
 refine nl (hK7 _ _ ?_)
 have hq_ := ite_some h; clear h; rcases hq_ with ⟨c9, h⟩ | ⟨c9, h⟩
 · have c9 : n1 < 0 := c9
   refine wpRwI 6 kr (decide_eq_true c9) ?_
   refine condT kr ?_
   exact nomatch h
 · have c9 : ¬ (n1 < 0) := c9
   refine wpRwI 6 kr (decide_eq_false c9) ?_
   refine condF kr ?_
   refine wp_skip ?_
   refine hK5 _ _ ?_
   refine wp_seq_k (fun K10 hK11 => ?_)
   refine wp_seq_k fun K12 hK13 => rl ?_
   refine seqL8 kr ?_
   refine nl (hK13 _ _ ?_)
   refine wp_seq_k fun K14 hK15 => rl ?_
   refine seqL2 kr ?_
   refine nl (hK15 _ _ ?_)
   have hq_ := ite_some h; clear h; rcases hq_ with ⟨c17, h⟩ | ⟨c17, h⟩
   · have c17 : (w64 (n1 - (w64 (0 - 0)))) > 0 := c17
     refine wpRwI 16 kr (decide_eq_true c17) ?_
     refine condT kr ?_
     refine rl ?_
     refine seqL3 kr ?_
     refine seqK rfl (does_run (run_cutH (e := (tInt .u8)) (xs := []) rfl Tryz.underlying30 kr (kv (.slice none 0 0)) (kv (.int .i64 0)) (by decide) (by decide) (Nat.le_refl 0) w) ?_)
     have hq_ := guard_some h; clear h; obtain ⟨c18, h⟩ := hq_
     have c18 : 0 < (w64 (n1 - (w64 (0 - 0)))) := c18
     have hq_ := guard_some h; clear h; obtain ⟨c19, h⟩ := hq_
     have c19 : (w64 (n1 - (w64 (0 - 0)))) * 1 ≤ 140737488355328 := c19
     refine seqL1 kr ?_
     refine seqK rfl (does_growN (e := (tInt .u8)) (E := 5) (u := 0) (n := w64 (n1 - (w64 (0 - 0)))) rfl (kv (.slice none 0 0)) (kv (.int .i64 (w64 (n1 - (w64 (0 - 0)))))) Tryz.underlying30 Tryz.underlying3 inf5 c18 c19 (by omega) rfl HS ?_)
     intro b20 c21 W22 s23 HS24 HO25
     have hq_ := guard_some h; clear h; obtain ⟨c27, h⟩ := hq_
     have c27 : 0 ≤ ((List.replicate (w64 (n1 - (w64 (0 - 0)))).toNat (0 : Int)).length : Int) := c27
     refine seqL2 kr ?_
     refine seqK rfl (does_run (run_cutH (e := (tInt .u8)) (xs := (List.replicate (w64 (n1 - (w64 (0 - 0)))).toNat (0 : Int))) rfl Tryz.underlying30 kr (kv (.slice (some ⟨b20, 0, none⟩) (List.replicate (w64 (n1 - (w64 (0 - 0)))).toNat (0 : Int)).length c21)) (kv (.int .i64 0)) (by decide) c27 HO25.le W22) ?_)
     refine seqL1 kr ?_
     refine nl (hK11 _ _ ?_)
     refine wp_seq_k fun K28 hK29 => rl ?_
     refine seqL2 kr ?_
     refine nl (hK29 _ _ ?_)
     refine wp_ret ?_
     refine hret _ _ ?_
     refine ends_still (v := Value.slice (some ⟨b20, 0, none⟩) ((List.replicate (w64 (n1 - (w64 (0 - 0)))).toNat (0 : Int)).take (0 : Int).toNat).length c21) kr kr ?_
     injection h with h
     subst h
     exact ⟨f, (some ⟨b20, 0, none⟩), c21, s23, rfl, FM.le.refl _, HS24, (HO25.take (0 : Int).toNat)⟩
   · have c17 : ¬ ((w64 (n1 - (w64 (0 - 0)))) > 0) := c17
     refine wpRwI 16 kr (decide_eq_false c17) ?_
     refine condF kr ?_
     refine wp_skip ?_
     refine hK11 _ _ ?_
     refine wp_seq_k fun K30 hK31 => rl ?_
     refine seqL2 kr ?_
     refine nl (hK31 _ _ ?_)
     refine wp_ret ?_
     refine hret _ _ ?_
     have HS32 := HS.cons_nil
     refine ends_still (v := Value.slice none 0 0) kr kr ?_
     injection h with h
     subst h
     exact ⟨f, none, 0, [], rfl, FM.le.refl _, HS32, (Own.nil _)⟩

set_option maxRecDepth 100000 in
set_option maxHeartbeats 4000000 in
theorem slices_Concat_byte.calls (k : Nat) (A2 : Option Addr) (c3 : Nat) (slices1 : List (List Int)) {t w : World} {f : FM} {H : List Seg} (HS : St t w f (H)) (HR4 : SlR (tSl (tInt .u8)) f A2 c3 slices1) (rr1 : List Int) (h : slices_Concat_byte k slices1 = some rr1) :
    Calls Tryz.prog 18 #[.slice A2 slices1.length c3] w (fun e w' => ∃ (g : FM) (A201 : Option Addr) (c202 : Nat) (s203 : Seg), e = .returned (Value.slice A201 rr1.length c202) ∧ FM.le f g ∧ St t w' g (s203 :: H) ∧ Own (tInt .u8) 5 g A201 c202 s203 rr1) := by
 unfold slices_Concat_byte at h
 refine enter Tryz.func18 rfl (tm := #[.slice A2 slices1.length c3, uV, uV, uV, uV, uV, uV, uV, uV, uV, uV, uV, uV, uV, uV, uV, uV, uV, uV, uV, uV, uV, uV, uV, uV, uV, uV, uV, uV, uV, uV, uV, uV, uV, uV, uV]) kr ?_
 intro B hret hnor hnp
 refine wp_seq_k fun K5 hK6 => rl ?_
 refine seqL1 kr ?_
 refine nl (hK6 _ _ ?_)
 refine wp_seq_k fun K7 hK8 => rl ?_
 refine seqL1 kr ?_
 refine nl (hK8 _ _ ?_)
 refine wp_seq_k (fun K9 hK10 => ?_)
 refine wp_seq_k fun K11 hK12 => rl ?_
 refine seqL3 kr ?_
 refine nl (hK12 _ _ ?_)
 refine blockK (fun B13 hx14 hn15 hr16 ho17 hp18 => ?_)
 have hq_ := bind_some h; clear h; obtain ⟨o19, hv67, h⟩ := hq_
 have J68 : ∀ (f61 : FM) (size66 : Int) (j65 : Nat → Value) (W63 : World) (a_ : Act), FM.le f f61 → some (size66) = some o19 → St t W63 f61 (H) → a_ = ⟨#[.slice A2 slices1.length c3, uV, .slice none 0 0, iV size66, uV, (j65 0), uV, uV, uV, .slice A2 slices1.length c3, iV (slices1.length : Int), (j65 1), (j65 2), (j65 3), (j65 4), (j65 5), (j65 6), (j65 7), (j65 8), (j65 9), (j65 10), (j65 11), (j65 12), uV, uV, uV, uV, uV, uV, uV, uV, uV, uV, uV, uV, uV], []⟩ → K9 a_ W63 := by
  intro f61 size66 j65 W63 a_ L62 hj69 HS64  hfr_; subst hfr_
  injection hj69 with hj69; subst hj69; try dsimp only at h
  refine hK10 _ _ ?_
  refine wp_seq_k fun K70 hK71 => rl ?_
  have hq_ := bind_some h; clear h; obtain ⟨vt72, hc73, h⟩ := hq_
  refine seqL1 kr ?_
  refine seqK rfl (does_call (f := 37) (args := #[.slice none 0 0, .int .i64 size66]) kr (slices_Grow_byte.calls k size66 HS64 vt72 hc73) ?_)
  rintro _ W76 ⟨f74, A78, c79, s80, rfl, L75, HS77, HO81⟩
  refine ⟨_, rfl, ?_⟩
  refine seqL1 kr ?_
  refine nl (hK71 _ _ ?_)
  refine wp_seq_k (fun K83 hK84 => ?_)
  refine wp_seq_k fun K85 hK86 => rl ?_
  refine seqL3 kr ?_
  refine nl (hK86 _ _ ?_)
  refine blockK (fun B87 hx88 hn89 hr90 ho91 hp92 => ?_)
  have hq_ := bind_some h; clear h; obtain ⟨o139, hv196, h⟩ := hq_
  have J197 : ∀ (f186 : FM) (A192 : Option Addr) (c193 : Nat) (s194 : Seg) (newslice191 : List Int) (j190 : Nat → Value) (W188 : World) (a_ : Act), FM.le f74 f186 → some (newslice191) = some o139 → St t W188 f186 (s194 :: H) → Own (tInt .u8) 5 f186 A192 c193 s194 newslice191 → a_ = ⟨#[.slice A2 slices1.length c3, uV, .slice none 0 0, iV size66, uV, (j65 0), .slice A192 newslice191.length c193, uV, (j190 0), .slice A2 slices1.length c3, iV (slices1.length : Int), (j65 1), (j65 2), (j65 3), (j65 4), (j65 5), (j65 6), (j65 7), (j65 8), (j65 9), (j65 10), (j65 11), (j65 12), iV size66, (j190 1), .slice A2 slices1.length c3, iV (slices1.length : Int), (j190 2), (j190 3), (j190 4), (j190 5), (j190 6), (j190 7), (j190 8), (j190 9), uV], []⟩ → K83 a_ W188 := by
   intro f186 A192 c193 s194 newslice191 j190 W188 a_ L187 hj198 HS189 HO195 hfr_; subst hfr_
   injection hj198 with hj198; subst hj198; try dsimp only at h
   refine hK84 _ _ ?_
   refine wp_seq_k fun K199 hK200 => rl ?_
   refine seqL2 kr ?_
   refine nl (hK200 _ _ ?_)
   refine wp_ret ?_
   refine hret _ _ ?_
   refine ends_still (v := Value.slice A192 newslice191.length c193) kr kr ?_
   injection h with h
   subst h
   exact ⟨f186, A192, c193, s194, rfl, (L62.trans (L75.trans L187)), HS189, HO195⟩
  clear h; have h := hv196; clear hv196
  refine loopK (fun n_ a_ w_ => ∃ (f143 : FM) (A149 : Option Addr) (c150 : Nat) (s151 : Seg) (newslice148 : List Int) (x153 : Int) (j147 : Nat → Value), FM.le f74 f143 ∧ St t w_ f143 (s151 :: H) ∧ Own (tInt .u8) 5 f143 A149 c150 s151 newslice148 ∧ slices_Concat_byte.l1 k slices1 n_ newslice148 x153 = some o139 ∧ a_ = ⟨#[.slice A2 slices1.length c3, uV, .slice none 0 0, iV size66, uV, (j65 0), .slice A149 newslice148.length c150, uV, (j147 0), .slice A2 slices1.length c3, iV (slices1.length : Int), (j65 1), (j65 2), (j65 3), (j65 4), (j65 5), (j65 6), (j65 7), (j65 8), (j65 9), (j65 10), (j65 11), (j65 12), iV size66, .slice A78 vt72.length c79, .slice A2 slices1.length c3, iV (slices1.length : Int), iV x153, (j147 1), (j147 2), (j147 3), (j147 4), (j147 5), (j147 6), (j147 7), uV], []⟩) k ⟨f74, A78, c79, s80, vt72, 0, (jL []), fL, HS77, HO81, h, kr⟩ ?_
  clear h
  rintro n142 _ W145 ⟨f143, A149, c150, s151, newslice148, x153, j147, L144, HS146, HO152, h, rfl⟩ K140 hK141
  obtain _ | n142 := n142
  · exact nomatch h
  simp only [slices_Concat_byte.l1] at h
  refine wp_seq_k fun K154 hK155 => rl ?_
  refine seqL1 kr ?_
  refine nl (hK155 _ _ ?_)
  refine wp_seq_k (fun K156 hK157 => ?_)
  have hq_ := ite_some h; clear h; rcases hq_ with ⟨c159, h⟩ | ⟨c159, h⟩
  · have c159 : x153 < (slices1.length : Int) := c159
    refine wpRwI 28 kr (decide_eq_true c159) ?_
    refine condT kr ?_
    refine wp_skip ?_
    refine hK157 _ _ ?_
    refine wp_seq_k (fun K160 hK161 => ?_)
    refine blockK (fun B162 hx163 hn164 hr165 ho166 hp167 => ?_)
    refine wp_seq_k fun K169 hK170 => rl ?_
    have hq_ := guard_some h; clear h; obtain ⟨c171, h⟩ := hq_
    have c171 : 0 ≤ x153 := c171
    obtain ⟨b175, of176, cs172, hA177, hr173, hc174⟩ := (HR4.mono (L62.trans (L75.trans L144))).at (i := x153) c171 c159
    obtain ⟨A178, c178, rfl, HR178⟩ := hr173
    refine seqK rfl (does_run (run_indexE hA177 (sz := 1) rfl Tryz.underlying84 kr (kv (.slice A2 slices1.length c3)) (kv (.int .i64 x153)) c171 c159 W145) ?_)
    refine seqK rfl (does_run (run_load rfl Tryz.underlying30 rfl (kv (.pointer (some ⟨b175, of176 + (x153 : Int).toNat * 1, none⟩))) ((hc174 fL HS146) 0 (by decide))) ?_)
    refine seqL1 kr ?_
    refine nl (hK170 _ _ ?_)
    refine rl ?_
    have hq_ := guard_some h; clear h; obtain ⟨c179, h⟩ := hq_
    have c179 : (newslice148.length + (rd slices1 x153).length) * 1 ≤ 140737488355328 := c179
    refine seqL2 kr ?_
    refine seqK rfl (does_append (e := (tInt .u8)) (E := 5) (xs := newslice148) (ys := (rd slices1 x153)) rfl (kv (.slice A149 newslice148.length c150)) (kv (.slice A178 (rd slices1 x153).length c178)) Tryz.underlying30 inf5 HO152 HS146 (HR178.rc HS146) c179 (lim63 c179 (by decide)) ?_)
    intro A180 c181 s182 W183 HS184 HO185
    refine seqL1 kr ?_
    refine nl ?_
    refine hn164 _ _ ?_
    refine hK161 _ _ ?_
    refine rl ?_
    refine seqL2 kr ?_
    refine nl ?_
    refine hK141 n142 _ _ (Nat.lt_succ_self _) ?_
    exact ⟨f143, A180, c181, s182, (newslice148 ++ (rd slices1 x153)), (w64 (x153 + 1)), (jL [.slice A178 (rd slices1 x153).length c178, tV, .pointer (some ⟨b175, of176 + (x153 : Int).toNat * 1, none⟩), .slice A178 (rd slices1 x153).length c178, .slice A149 newslice148.length c150, .slice A178 (rd slices1 x153).length c178, .slice A180 (newslice148 ++ (rd slices1 x153)).length c181, iV (w64 (x153 + 1))]), L144, HS184, HO185, h, kr⟩
  · have c159 : ¬ (x153 < (slices1.length : Int)) := c159
    refine wpRwI 28 kr (decide_eq_false c159) ?_
    refine condF kr ?_
    refine wp_exit ?_
    refine hx88 _ _ ?_
    exact J197 f143 A149 c150 s151 newslice148 (jL [(j147 0), .slice A78 vt72.length c79, iV x153, fV, (j147 2), (j147 3), (j147 4), (j147 5), (j147 6), (j147 7)]) W145 _ L144 h HS146 HO152 kr
 clear h; have h := hv67; clear hv67
 refine loopK (fun n_ a_ w_ => ∃ (f23 : FM) (size28 : Int) (x29 : Int) (j27 : Nat → Value), FM.le f f23 ∧ St t w_ f23 (H) ∧ slices_Concat_byte.l0 k slices1 n_ size28 x29 = some o19 ∧ a_ = ⟨#[.slice A2 slices1.length c3, uV, .slice none 0 0, iV size28, uV, (j27 0), uV, uV, uV, .slice A2 slices1.length c3, iV (slices1.length : Int), iV x29, (j27 1), (j27 2), (j27 3), (j27 4), (j27 5), (j27 6), (j27 7), (j27 8), (j27 9), (j27 10), (j27 11), uV, uV, uV, uV, uV, uV, uV, uV, uV, uV, uV, uV, uV], []⟩) k ⟨f, 0, 0, (jL []), fL, HS, h, kr⟩ ?_
 clear h
 rintro n22 _ W25 ⟨f23, size28, x29, j27, L24, HS26, h, rfl⟩ K20 hK21
 obtain _ | n22 := n22
 · exact nomatch h
 simp only [slices_Concat_byte.l0] at h
 refine wp_seq_k fun K30 hK31 => rl ?_
 refine seqL1 kr ?_
 refine nl (hK31 _ _ ?_)
 refine wp_seq_k (fun K32 hK33 => ?_)
 have hq_ := ite_some h; clear h; rcases hq_ with ⟨c35, h⟩ | ⟨c35, h⟩
 · have c35 : x29 < (slices1.length : Int) := c35
   refine wpRwI 12 kr (decide_eq_true c35) ?_
   refine condT kr ?_
   refine wp_skip ?_
   refine hK33 _ _ ?_
   refine wp_seq_k (fun K36 hK37 => ?_)
   refine blockK (fun B38 hx39 hn40 hr41 ho42 hp43 => ?_)
   refine wp_seq_k fun K45 hK46 => rl ?_
   have hq_ := guard_some h; clear h; obtain ⟨c47, h⟩ := hq_
   have c47 : 0 ≤ x29 := c47
   obtain ⟨b51, of52, cs48, hA53, hr49, hc50⟩ := (HR4.mono L24).at (i := x29) c47 c35
   obtain ⟨A54, c54, rfl, HR54⟩ := hr49
   refine seqK rfl (does_run (run_indexE hA53 (sz := 1) rfl Tryz.underlying84 kr (kv (.slice A2 slices1.length c3)) (kv (.int .i64 x29)) c47 c35 W25) ?_)
   refine seqK rfl (does_run (run_load rfl Tryz.underlying30 rfl (kv (.pointer (some ⟨b51, of52 + (x29 : Int).toNat * 1, none⟩))) ((hc50 fL HS26) 0 (by decide))) ?_)
   refine seqL1 kr ?_
   refine nl (hK46 _ _ ?_)
   refine wp_seq_k fun K55 hK56 => rl ?_
   refine seqL5 kr ?_
   refine nl (hK56 _ _ ?_)
   refine wp_seq_k fun K57 hK58 => rl ?_
   refine seqL2 kr ?_
   refine nl (hK58 _ _ ?_)
   have hq_ := ite_some h; clear h; rcases hq_ with ⟨c60, h⟩ | ⟨c60, h⟩
   · have c60 : (w64 (size28 + ((rd slices1 x29).length : Int))) < 0 := c60
     refine wpRwI 20 kr (decide_eq_true c60) ?_
     refine condT kr ?_
     exact nomatch h
   · have c60 : ¬ ((w64 (size28 + ((rd slices1 x29).length : Int))) < 0) := c60
     refine wpRwI 20 kr (decide_eq_false c60) ?_
     refine condF kr ?_
     refine wp_skip ?_
     refine hn40 _ _ ?_
     refine hK37 _ _ ?_
     refine rl ?_
     refine seqL2 kr ?_
     refine nl ?_
     refine hK21 n22 _ _ (Nat.lt_succ_self _) ?_
     exact ⟨f23, (w64 (size28 + ((rd slices1 x29).length : Int))), (w64 (x29 + 1)), (jL [.slice A54 (rd slices1 x29).length c54, tV, .pointer (some ⟨b51, of52 + (x29 : Int).toNat * 1, none⟩), .slice A54 (rd slices1 x29).length c54, iV size28, .slice A54 (rd slices1 x29).length c54, iV ((rd slices1 x29).length : Int), iV (w64 (size28 + ((rd slices1 x29).length : Int))), iV (w64 (size28 + ((rd slices1 x29).length : Int))), fV, (j27 10), iV (w64 (x29 + 1))]), L24, HS26, h, kr⟩
 · have c35 : ¬ (x29 < (slices1.length : Int)) := c35
   refine wpRwI 12 kr (decide_eq_false c35) ?_
   refine condF kr ?_
   refine wp_exit ?_
   refine hx14 _ _ ?_
   exact J68 f23 size28 (jL [(j27 0), iV x29, fV, (j27 2), (j27 3), (j27 4), (j27 5), (j27 6), (j27 7), (j27 8), (j27 9), (j27 10), (j27 11)]) W25 _ L24 h HS26 kr

end Go.Sp.F3
