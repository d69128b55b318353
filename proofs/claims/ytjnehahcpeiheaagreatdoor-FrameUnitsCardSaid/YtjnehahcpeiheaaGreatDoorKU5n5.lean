import Derived.Test.YtjnehahcpeiheaaGreatDoorProg
import Derived.Test.YtjnehahcpeiheaaGreatDoorSpCopy
import Derived.Test.YtjnehahcpeiheaaGreatDoorFU5
import Derived.Test.YtjnehahcpeiheaaGreatDoorSpStr
import Derived.Test.YtjnehahcpeiheaaGreatDoorSpLib
import Derived.Test.YtjnehahcpeiheaaGreatDoorSpBld
import Derived.Test.YtjnehahcpeiheaaGreatDoorConv
import Derived.Test.YtjnehahcpeiheaaGreatDoorLibs
import Derived.Test.YtjnehahcpeiheaaGreatDoorSpNest
import Derived.Test.YtjnehahcpeiheaaGreatDoorSpWays
import Derived.Test.YtjnehahcpeiheaaGreatDoorSpRound
import Derived.Test.YtjnehahcpeiheaaGreatDoorKU5n0
import Derived.Test.YtjnehahcpeiheaaGreatDoorKU5n1
import Derived.Test.YtjnehahcpeiheaaGreatDoorKU5n2
import Derived.Test.YtjnehahcpeiheaaGreatDoorKU5n3
import Derived.Test.YtjnehahcpeiheaaGreatDoorKU5n4
namespace Go.Sp.U5
open Go Go.Sp Go.Proofs
set_option linter.unusedVariables false
attribute [local irreducible] wpList AnyL Code.wp Calls Does Code.wpIn wpListIn CallsIn bodyPostM LeavesInM
set_option maxRecDepth 100000 in
set_option maxHeartbeats 4000000 in
theorem spykeep3_FrameUnits.calls (k : Nat)  (n1 : Int) (vfrom2 : Int) (a3 : Int) (b4 : Int) {t w : World} {f : FM} {H : List Seg} (HS : St t w f (H)) (HA : TabF Tryz.prog "strings.asciiSpace" .u8 Go.Lib.asciiSpaceTab f) (HM : VarI 5 f) (HT : TabF Tryz.prog "internal/strconv.uint64pow10" .u64 Go.Lib.pow10Tab f) (rr1 : Bool) (h : spykeep3_FrameUnits k n1 vfrom2 a3 b4 = some rr1) :
    Calls Tryz.prog 5 #[.int .i64 n1, .int .i64 vfrom2, .int .i64 a3, .int .i64 b4] w (fun e w' => ∃ (g : FM), e = .returned (Value.bool rr1) ∧ FM.le f g ∧ St t w' g (H)) := by
 unfold spykeep3_FrameUnits at h
 refine enter Tryz.func5 rfl (tm := #[iV n1, iV vfrom2, iV a3, iV b4, uV, uV, uV, uV, uV, uV, uV, uV, uV, uV, uV, uV, uV, uV, uV, uV, uV, uV, uV, uV, uV, uV, uV, uV, uV, uV, uV, uV, uV, uV, uV, uV, uV, uV, uV, uV, uV, uV, uV, uV, uV, uV, uV, uV, uV, uV, uV, uV, uV, uV, uV, uV, uV, uV, uV, uV, uV, uV, uV, uV, uV, uV, uV, uV, uV, uV, uV, uV, uV, uV, uV, uV, uV, uV, uV, uV, uV, uV, uV, uV, uV, uV, uV, uV, uV, uV, uV, uV, uV, uV, uV, uV, uV, uV, uV, uV, uV, uV, uV, uV, uV, uV, uV, uV, uV, uV, uV, uV, uV, uV, uV, uV, uV, uV, uV, uV, uV, uV, uV, uV, uV, uV, uV, uV, uV, uV, uV, uV, uV, uV, uV, uV, uV, uV, uV, uV, uV, uV, uV, uV, uV, uV, uV, uV, uV]) kr ?_
 intro B hret hnor hnp
 refine wp_seq_k fun K5 hK6 => rl ?_
 refine seqL1 kr ?_
 refine nl (hK6 _ _ ?_)
 refine wp_seq_k fun K7 hK8 => rl ?_
 refine seqK rfl (does_lit (e := tStr) (E := 9) (vs := #[(0, Value.string ⟨#[116, 105, 99, 107]⟩), (1, Value.string ⟨#[98, 101, 97, 116]⟩), (2, Value.string ⟨#[115, 101, 99, 111, 110, 100]⟩), (3, Value.string ⟨#[109, 105, 110, 117, 116, 101]⟩), (4, Value.string ⟨#[104, 111, 117, 114]⟩), (5, Value.string ⟨#[100, 97, 121]⟩)]) (cs := #[.string ⟨#[116, 105, 99, 107]⟩, .string ⟨#[98, 101, 97, 116]⟩, .string ⟨#[115, 101, 99, 111, 110, 100]⟩, .string ⟨#[109, 105, 110, 117, 116, 101]⟩, .string ⟨#[104, 111, 117, 114]⟩, .string ⟨#[100, 97, 121]⟩]) (xs := ([(⟨#[116, 105, 99, 107]⟩ : ByteArray), (⟨#[98, 101, 97, 116]⟩ : ByteArray), (⟨#[115, 101, 99, 111, 110, 100]⟩ : ByteArray), (⟨#[109, 105, 110, 117, 116, 101]⟩ : ByteArray), (⟨#[104, 111, 117, 114]⟩ : ByteArray), (⟨#[100, 97, 121]⟩ : ByteArray)] : List ByteArray)) rfl Tryz.underlying46 kr kr ⟨[.string ⟨#[116, 105, 99, 107]⟩], _, rfl, rfl, ⟨[.string ⟨#[98, 101, 97, 116]⟩], _, rfl, rfl, ⟨[.string ⟨#[115, 101, 99, 111, 110, 100]⟩], _, rfl, rfl, ⟨[.string ⟨#[109, 105, 110, 117, 116, 101]⟩], _, rfl, rfl, ⟨[.string ⟨#[104, 111, 117, 114]⟩], _, rfl, rfl, ⟨[.string ⟨#[100, 97, 121]⟩], _, rfl, rfl, rfl⟩⟩⟩⟩⟩⟩ rfl HS ?_ (by decide))
 intro b9 W10 s11 HS12 _ HO13
 refine seqL1 kr ?_
 refine nl (hK8 _ _ ?_)
 refine wp_seq_k fun K15 hK16 => rl ?_
 refine seqK rfl (does_lit (e := (tInt .i64)) (E := 2) (vs := #[(0, Value.int .i64 1), (1, Value.int .i64 1000), (2, Value.int .i64 1000), (3, Value.int .i64 60000), (4, Value.int .i64 3600000), (5, Value.int .i64 86400000)]) (cs := #[.int .i64 1, .int .i64 1000, .int .i64 1000, .int .i64 60000, .int .i64 3600000, .int .i64 86400000]) (xs := ([1, 1000, 1000, 60000, 3600000, 86400000] : List Int)) rfl Tryz.underlying47 kr kr ⟨[.int .i64 1], _, rfl, rfl, ⟨[.int .i64 1000], _, rfl, rfl, ⟨[.int .i64 1000], _, rfl, rfl, ⟨[.int .i64 60000], _, rfl, rfl, ⟨[.int .i64 3600000], _, rfl, rfl, ⟨[.int .i64 86400000], _, rfl, rfl, rfl⟩⟩⟩⟩⟩⟩ rfl HS12 ?_ (by decide))
 intro b17 W18 s19 HS20 _ HO21
 refine seqL1 kr ?_
 refine nl (hK16 _ _ ?_)
 refine wp_seq_k fun K23 hK24 => rl ?_
 refine seqL3 kr ?_
 refine nl (hK24 _ _ ?_)
 refine wp_seq_k fun K25 hK26 => rl ?_
 have hq_ := bind_some h; clear h; obtain ⟨vt27, hc28, h⟩ := hq_
 refine seqL1 kr ?_
 refine seqK rfl (does_call (f := 10) (args := #[.int .i64 vfrom2, .int .i64 6]) kr (spymake_Below.calls k vfrom2 6 HS20 vt27 hc28) ?_)
 rintro _ W31 ⟨f29, rfl, L30, HS32⟩
 refine ⟨_, rfl, ?_⟩
 have hq_ := bind_some h; clear h; obtain ⟨vt33, hc34, h⟩ := hq_
 refine seqL1 kr ?_
 refine seqK rfl (does_call (f := 10) (args := #[.int .i64 a3, .int .i64 6]) kr (spymake_Below.calls k a3 6 HS32 vt33 hc34) ?_)
 rintro _ W37 ⟨f35, rfl, L36, HS38⟩
 refine ⟨_, rfl, ?_⟩
 have hq_ := bind_some h; clear h; obtain ⟨vt39, hc40, h⟩ := hq_
 refine seqL1 kr ?_
 refine seqK rfl (does_call (f := 10) (args := #[.int .i64 b4, .int .i64 6]) kr (spymake_Below.calls k b4 6 HS38 vt39 hc40) ?_)
 rintro _ W43 ⟨f41, rfl, L42, HS44⟩
 refine ⟨_, rfl, ?_⟩
 refine seqL3 kr ?_
 refine nl (hK26 _ _ ?_)
 refine wp_seq_k (fun K45 hK46 => ?_)
 refine heldG (S := Sg t f41 (s19 :: s11 :: H) []) (n := 17) kr rfl HS44 ?_
 intro W47 HS48
 have hq_ := guard_some h; clear h; obtain ⟨c49, h⟩ := hq_
 have c49 : 0 ≤ vt27 := c49
 have hq_ := guard_some h; clear h; obtain ⟨c50, h⟩ := hq_
 have c50 : vt27 < (([(⟨#[116, 105, 99, 107]⟩ : ByteArray), (⟨#[98, 101, 97, 116]⟩ : ByteArray), (⟨#[115, 101, 99, 111, 110, 100]⟩ : ByteArray), (⟨#[109, 105, 110, 117, 116, 101]⟩ : ByteArray), (⟨#[104, 111, 117, 114]⟩ : ByteArray), (⟨#[100, 97, 121]⟩ : ByteArray)] : List ByteArray).length : Int) := c50
 obtain ⟨cs51, hr52, hc53⟩ := (HO13.mono (L30.trans (L36.trans L42))).at' (i := vt27) c49 c50
 obtain rfl := hr52
 refine takeGL [2, 5, 6] (n := 17) (fuel := 14) #[false, false, true, false, false, true, true, false, false, false, false, false, false, false, false, false, false] rfl kr kr kr hnp (Sg.g0 (Sx.of [] (FM.le.refl _) HS48)) ?_
 refine takeGQ 7 [] rfl kr kr kr kr kr kr hnp (Sg.g0 (Sx.of [] (FM.le.refl _) HS48)) (fun w_ hw_ => by obtain ⟨g_, hl_, hS_⟩ := hw_.st; exact run_index (sz := 1) rfl Tryz.underlying46 kr (kv (.slice (some ⟨b9, 0, none⟩) ([(⟨#[116, 105, 99, 107]⟩ : ByteArray), (⟨#[98, 101, 97, 116]⟩ : ByteArray), (⟨#[115, 101, 99, 111, 110, 100]⟩ : ByteArray), (⟨#[109, 105, 110, 117, 116, 101]⟩ : ByteArray), (⟨#[104, 111, 117, 114]⟩ : ByteArray), (⟨#[100, 97, 121]⟩ : ByteArray)] : List ByteArray).length 6)) (kv (.int .i64 vt27)) c49 c50 w_) ?_
 refine takeGQ 8 [] rfl kr kr kr kr kr kr hnp (Sg.g0 (Sx.of [] (FM.le.refl _) HS48)) (fun w_ hw_ => by obtain ⟨g_, hl_, hS_⟩ := hw_.st; exact run_load rfl Tryz.underlying9 rfl (kv (.pointer (some ⟨b9, 0 + (vt27 : Int).toNat * 1, none⟩))) ((hc53 hS_.u1) 0 (by decide))) ?_
 have hq_ := bind_some h; clear h; obtain ⟨vt60, hc61, h⟩ := hq_
 have hq_ := bind_some h; clear h; obtain ⟨⟨vt77, vt78⟩, hc79, h⟩ := hq_
 refine withRn (m := 0) #[true, true, true, true, true, true, true, true, true, true, true, true, true, true, true, true, true] ?_
 intro R208 hR209 hR210
 refine withRn (m := 2) #[true, true, true, true, true, true, true, true, true, true, true, true, true, true, true, false, false] ?_
 intro R194 hR195 hR196
 refine withRn (m := 3) #[true, true, true, true, true, true, true, true, true, true, true, true, true, true, false, false, false] ?_
 intro R178 hR179 hR180
 refine withRn (m := 6) #[true, true, true, true, true, true, true, true, true, true, false, false, false, false, true, false, false] ?_
 intro R222 hR223 hR224
 refine withRn (m := 7) #[true, true, true, true, true, true, true, true, true, true, false, false, false, false, false, false, false] ?_
 intro R143 hR144 hR145
 refine withRn (m := 8) #[true, true, true, true, false, true, true, true, true, false, false, false, false, false, true, false, false] ?_
 intro R259 hR260 hR261
 refine withRn (m := 8) #[false, false, true, true, true, true, true, true, true, true, false, false, false, false, true, false, false] ?_
 intro R333 hR334 hR335
 refine withRn (m := 9) #[true, true, true, true, false, true, true, true, true, false, false, false, false, false, false, false, false] ?_
 intro R133 hR134 hR135
 refine withRn (m := 9) #[true, true, true, false, false, true, true, true, true, false, false, false, false, false, true, false, false] ?_
 intro R272 hR273 hR274
 refine withRn (m := 9) #[false, false, true, true, true, true, true, true, true, true, false, false, false, false, false, false, false] ?_
 intro R314 hR315 hR316
 refine withRn (m := 10) #[true, true, true, false, false, true, true, true, true, false, false, false, false, false, false, false, false] ?_
 intro R114 hR115 hR116
 refine withRn (m := 10) #[false, false, true, true, false, true, true, true, true, false, false, false, false, false, true, false, false] ?_
 intro R352 hR353 hR354
 refine withRn (m := 11) #[false, false, true, true, false, true, true, true, true, false, false, false, false, false, false, false, false] ?_
 intro R299 hR300 hR301
 refine withRn (m := 11) #[false, false, true, false, false, true, true, true, true, false, false, false, false, false, true, false, false] ?_
 intro R370 hR371 hR372
 have J211 : ∀ (b103 : Nat) (s105 : Seg) (A122 : Option Addr) (c123 : Nat) (s124 : Seg) (A157 : Option Addr) (c158 : Nat) (s159 : Seg) (A162 : Option Addr) (c163 : Nat) (s164 : Seg) (b182 : Nat) (f200 : FM) (W202 : World) (a_ : Act), FM.le f41 f200 → Own ty_Card 51 f200 A157 c158 s159 vt77.Cards → Own (tInt .i64) 3 f200 A162 c163 s164 vt77.Counts → Own (tInt .i64) 3 f200 (some ⟨b103, 0, none⟩) 1 s105 ([0] : List Int) → Own (tInt .u8) 5 f200 A122 c123 s124 vt60 → St t W202 f200 ([(b182, .cells #[.int .i64 vt77.W, .int .i64 vt77.H, .slice A157 vt77.Cards.length c158, .slice A162 vt77.Counts.length c163] 29 (0, 0))] :: s105 :: s159 :: s164 :: s124 :: s19 :: s11 :: H) → a_ = ⟨#[iV (Int.tmod n1 1073741824), iV vt27, iV vt33, iV vt39, uV, uV, uV, uV, fV, .slice (some ⟨b9, 0, none⟩) ([(⟨#[116, 105, 99, 107]⟩ : ByteArray), (⟨#[98, 101, 97, 116]⟩ : ByteArray), (⟨#[115, 101, 99, 111, 110, 100]⟩ : ByteArray), (⟨#[109, 105, 110, 117, 116, 101]⟩ : ByteArray), (⟨#[104, 111, 117, 114]⟩ : ByteArray), (⟨#[100, 97, 121]⟩ : ByteArray)] : List ByteArray).length 6, .slice (some ⟨b17, 0, none⟩) ([1, 1000, 1000, 60000, 3600000, 86400000] : List Int).length 6, pV b182 0, iV vt78, uV, uV, uV, uV, .slice (some ⟨b9, 0, none⟩) ([(⟨#[116, 105, 99, 107]⟩ : ByteArray), (⟨#[98, 101, 97, 116]⟩ : ByteArray), (⟨#[115, 101, 99, 111, 110, 100]⟩ : ByteArray), (⟨#[109, 105, 110, 117, 116, 101]⟩ : ByteArray), (⟨#[104, 111, 117, 114]⟩ : ByteArray), (⟨#[100, 97, 121]⟩ : ByteArray)] : List ByteArray).length 6, .slice (some ⟨b17, 0, none⟩) ([1, 1000, 1000, 60000, 3600000, 86400000] : List Int).length 6, iV n1, iV (Int.tmod n1 1073741824), iV vfrom2, iV vt27, iV a3, iV vt33, iV b4, iV vt39, .tuple #[(ag_Frame vt77 A157 c158 A162 c163), iV vt78], .slice (some ⟨b103, 0, none⟩) ([0] : List Int).length 1, .agg #[iV 1, iV 1, .slice none 0 0, .slice (some ⟨b103, 0, none⟩) ([0] : List Int).length 1], iV (Int.tmod n1 1073741824), .slice A122 vt60.length c123, .string (bstr vt60), .slice (some ⟨b9, 0, none⟩) ([(⟨#[116, 105, 99, 107]⟩ : ByteArray), (⟨#[98, 101, 97, 116]⟩ : ByteArray), (⟨#[115, 101, 99, 111, 110, 100]⟩ : ByteArray), (⟨#[109, 105, 110, 117, 116, 101]⟩ : ByteArray), (⟨#[104, 111, 117, 114]⟩ : ByteArray), (⟨#[100, 97, 121]⟩ : ByteArray)] : List ByteArray).length 6, iV vt27, pV b9 (0 + (vt27 : Int).toNat * 1), .string (rd ([(⟨#[116, 105, 99, 107]⟩ : ByteArray), (⟨#[98, 101, 97, 116]⟩ : ByteArray), (⟨#[115, 101, 99, 111, 110, 100]⟩ : ByteArray), (⟨#[109, 105, 110, 117, 116, 101]⟩ : ByteArray), (⟨#[104, 111, 117, 114]⟩ : ByteArray), (⟨#[100, 97, 121]⟩ : ByteArray)] : List ByteArray) vt27), .agg #[.string ⟨#[84]⟩, .string (bstr vt60), .string (rd ([(⟨#[116, 105, 99, 107]⟩ : ByteArray), (⟨#[98, 101, 97, 116]⟩ : ByteArray), (⟨#[115, 101, 99, 111, 110, 100]⟩ : ByteArray), (⟨#[109, 105, 110, 117, 116, 101]⟩ : ByteArray), (⟨#[104, 111, 117, 114]⟩ : ByteArray), (⟨#[100, 97, 121]⟩ : ByteArray)] : List ByteArray) vt27), .string ⟨#[]⟩], .tuple #[(ag_Frame vt77 A157 c158 A162 c163), iV vt78], (ag_Frame vt77 A157 c158 A162 c163), iV vt78, uV, uV, uV, uV, uV, uV, uV, uV, uV, uV, uV, uV, uV, uV, uV, uV, uV, uV, uV, uV, uV, uV, uV, uV, uV, uV, uV, uV, uV, uV, uV, uV, uV, uV, uV, uV, uV, uV, uV, uV, uV, uV, uV, uV, uV, uV, uV, uV, uV, uV, uV, uV, uV, uV, uV, uV, uV, uV, uV, uV, uV, uV, uV, uV, uV, uV, uV, uV, uV, uV, uV, uV, uV, uV, uV, uV, uV, uV, uV, uV, uV, uV, uV, uV, uV, uV, uV, uV, uV, uV, uV, uV, uV, uV, uV, uV, uV, uV, uV, uV, uV, uV, uV, uV, uV, uV, uV, uV], []⟩ → R208 a_ W202 := by
  intro b103 s105 A122 c123 s124 A157 c158 s159 A162 c163 s164 b182 f200 W202 a_ L201 HO204 HO205 HO206 HO207 HS203 hfr_; subst hfr_
  refine hR209 _ _ ?_
  refine doneG kr ?_ _
  refine hK46 _ _ ?_
  refine wp_seq_k (fun K575 hK576 => ?_)
  refine heldG (S := Sg t f200 ([(b182, .cells #[.int .i64 vt77.W, .int .i64 vt77.H, .slice A157 vt77.Cards.length c158, .slice A162 vt77.Counts.length c163] 29 (0, 0))] :: s105 :: s159 :: s164 :: s124 :: s19 :: s11 :: H) []) (n := 11) kr rfl HS203 ?_
  intro W577 HS578
  refine takeGQ 0 [] rfl kr kr kr kr kr kr hnp (Sg.g0 (Sx.of [] (FM.le.refl _) HS578)) (fun w_ hw_ => by obtain ⟨g_, hl_, hS_⟩ := hw_.st; exact run_loadN (n := 4) rfl Tryz.underlying29 rfl kr (kv (.pointer (some ⟨b182, 0, none⟩))) (cs := [.int .i64 vt77.W, .int .i64 vt77.H, .slice A157 vt77.Cards.length c158, .slice A162 vt77.Counts.length c163]) rfl (hS_.cells 0 4 _ rfl)) ?_
  have hq_ := guard_some h; clear h; obtain ⟨c579, h⟩ := hq_
  have c579 : 0 ≤ vt33 := c579
  have hq_ := guard_some h; clear h; obtain ⟨c580, h⟩ := hq_
  have c580 : vt33 < (([(⟨#[116, 105, 99, 107]⟩ : ByteArray), (⟨#[98, 101, 97, 116]⟩ : ByteArray), (⟨#[115, 101, 99, 111, 110, 100]⟩ : ByteArray), (⟨#[109, 105, 110, 117, 116, 101]⟩ : ByteArray), (⟨#[104, 111, 117, 114]⟩ : ByteArray), (⟨#[100, 97, 121]⟩ : ByteArray)] : List ByteArray).length : Int) := c580
  obtain ⟨cs581, hr582, hc583⟩ := (HO13.mono (L30.trans (L36.trans (L42.trans L201)))).at' (i := vt33) c579 c580
  obtain rfl := hr582
  refine takeGL [1, 2] (n := 10) (fuel := 8) #[true, true, true, false, false, false, false, false, false, false, false] rfl kr kr kr hnp (Sg.g0 (Sx.of [] (FM.le.refl _) HS578)) ?_
  refine takeGQ 3 [] rfl kr kr kr kr kr kr hnp (Sg.g0 (Sx.of [] (FM.le.refl _) HS578)) (fun w_ hw_ => by obtain ⟨g_, hl_, hS_⟩ := hw_.st; exact run_index (sz := 1) rfl Tryz.underlying46 kr (kv (.slice (some ⟨b9, 0, none⟩) ([(⟨#[116, 105, 99, 107]⟩ : ByteArray), (⟨#[98, 101, 97, 116]⟩ : ByteArray), (⟨#[115, 101, 99, 111, 110, 100]⟩ : ByteArray), (⟨#[109, 105, 110, 117, 116, 101]⟩ : ByteArray), (⟨#[104, 111, 117, 114]⟩ : ByteArray), (⟨#[100, 97, 121]⟩ : ByteArray)] : List ByteArray).length 6)) (kv (.int .i64 vt33)) c579 c580 w_) ?_
  refine takeGQ 4 [] rfl kr kr kr kr kr kr hnp (Sg.g0 (Sx.of [] (FM.le.refl _) HS578)) (fun w_ hw_ => by obtain ⟨g_, hl_, hS_⟩ := hw_.st; exact run_load rfl Tryz.underlying9 rfl (kv (.pointer (some ⟨b9, 0 + (vt33 : Int).toNat * 1, none⟩))) ((hc583 hS_.u6) 0 (by decide))) ?_
  have HS584 := HS578.u2
  obtain ⟨f585, L586, HS587, HR588, th589⟩ := HO204.lend HS584
  have HS590 := HS587.u2
  obtain ⟨f591, L592, HS593, HR594, th595⟩ := (HO205.mono L586).lend HS590
  have hq_ := bind_some h; clear h; obtain ⟨⟨vt596, vt597⟩, hc598, h⟩ := hq_
  refine takeGE 5 kr rfl kr (does_call (f := 19) (args := #[.agg #[.int .i64 vt77.W, .int .i64 vt77.H, .slice A157 vt77.Cards.length c158, .slice A162 vt77.Counts.length c163], .string ⟨#[84]⟩, .string (rd ([(⟨#[116, 105, 99, 107]⟩ : ByteArray), (⟨#[98, 101, 97, 116]⟩ : ByteArray), (⟨#[115, 101, 99, 111, 110, 100]⟩ : ByteArray), (⟨#[109, 105, 110, 117, 116, 101]⟩ : ByteArray), (⟨#[104, 111, 117, 114]⟩ : ByteArray), (⟨#[100, 97, 121]⟩ : ByteArray)] : List ByteArray) vt33)]) kr (frame_Number.calls k A157 c158 A162 c163 vt77 (⟨#[84]⟩ : ByteArray) (rd ([(⟨#[116, 105, 99, 107]⟩ : ByteArray), (⟨#[98, 101, 97, 116]⟩ : ByteArray), (⟨#[115, 101, 99, 111, 110, 100]⟩ : ByteArray), (⟨#[109, 105, 110, 117, 116, 101]⟩ : ByteArray), (⟨#[104, 111, 117, 114]⟩ : ByteArray), (⟨#[100, 97, 121]⟩ : ByteArray)] : List ByteArray) vt33) HS593 (HR588.mono L592) HR594 (HT.mono (L30.trans (L36.trans (L42.trans (L201.trans (L586.trans L592)))))) vt596 vt597 hc598) ?_)
  rintro _ W601 ⟨f599, rfl, L600, HS602⟩
  refine ⟨_, rfl, ?_⟩
  obtain ⟨f603, L604, HS605⟩ := th595 L600 HS602
  obtain ⟨f606, L607, HS608⟩ := th589 L604 HS605
  have HS609 := HS608.u6
  have HS610 := HS609.u6
  have HS611 := HS610.u6
  have HS612 := HS611.u4
  have HS613 := HS612.u4
  have HS614 := HS613.u6
  have HS615 := HS614.u6
  refine ⟨(Sg.g0 (Sx.of [] L607 HS615)), ?_⟩
  refine takeGL [6, 7, 8, 9, 10] (n := 5) (fuel := 0) #[true, true, true, true, true, true, true, true, true, true, true] rfl kr kr kr hnp (Sg.g0 (Sx.of [] L607 HS615)) ?_
  refine doneG kr ?_ _
  refine hK576 _ _ ?_
  refine wp_seq_k (fun K616 hK617 => ?_)
  refine heldG (S := Sg t f606 ([(b182, .cells #[.int .i64 vt77.W, .int .i64 vt77.H, .slice A157 vt77.Cards.length c158, .slice A162 vt77.Counts.length c163] 29 (0, 0))] :: s105 :: s159 :: s164 :: s124 :: s19 :: s11 :: H) []) (n := 11) kr rfl HS615 ?_
  intro W618 HS619
  refine takeGQ 0 [] rfl kr kr kr kr kr kr hnp (Sg.g0 (Sx.of [] (FM.le.refl _) HS619)) (fun w_ hw_ => by obtain ⟨g_, hl_, hS_⟩ := hw_.st; exact run_loadN (n := 4) rfl Tryz.underlying29 rfl kr (kv (.pointer (some ⟨b182, 0, none⟩))) (cs := [.int .i64 vt77.W, .int .i64 vt77.H, .slice A157 vt77.Cards.length c158, .slice A162 vt77.Counts.length c163]) rfl (hS_.cells 0 4 _ rfl)) ?_
  have hq_ := guard_some h; clear h; obtain ⟨c620, h⟩ := hq_
  have c620 : 0 ≤ vt39 := c620
  have hq_ := guard_some h; clear h; obtain ⟨c621, h⟩ := hq_
  have c621 : vt39 < (([(⟨#[116, 105, 99, 107]⟩ : ByteArray), (⟨#[98, 101, 97, 116]⟩ : ByteArray), (⟨#[115, 101, 99, 111, 110, 100]⟩ : ByteArray), (⟨#[109, 105, 110, 117, 116, 101]⟩ : ByteArray), (⟨#[104, 111, 117, 114]⟩ : ByteArray), (⟨#[100, 97, 121]⟩ : ByteArray)] : List ByteArray).length : Int) := c621
  obtain ⟨cs622, hr623, hc624⟩ := (HO13.mono (L30.trans (L36.trans (L42.trans (L201.trans L607))))).at' (i := vt39) c620 c621
  obtain rfl := hr623
  refine takeGL [1, 2] (n := 10) (fuel := 8) #[true, true, true, false, false, false, false, false, false, false, false] rfl kr kr kr hnp (Sg.g0 (Sx.of [] (FM.le.refl _) HS619)) ?_
  refine takeGQ 3 [] rfl kr kr kr kr kr kr hnp (Sg.g0 (Sx.of [] (FM.le.refl _) HS619)) (fun w_ hw_ => by obtain ⟨g_, hl_, hS_⟩ := hw_.st; exact run_index (sz := 1) rfl Tryz.underlying46 kr (kv (.slice (some ⟨b9, 0, none⟩) ([(⟨#[116, 105, 99, 107]⟩ : ByteArray), (⟨#[98, 101, 97, 116]⟩ : ByteArray), (⟨#[115, 101, 99, 111, 110, 100]⟩ : ByteArray), (⟨#[109, 105, 110, 117, 116, 101]⟩ : ByteArray), (⟨#[104, 111, 117, 114]⟩ : ByteArray), (⟨#[100, 97, 121]⟩ : ByteArray)] : List ByteArray).length 6)) (kv (.int .i64 vt39)) c620 c621 w_) ?_
  refine takeGQ 4 [] rfl kr kr kr kr kr kr hnp (Sg.g0 (Sx.of [] (FM.le.refl _) HS619)) (fun w_ hw_ => by obtain ⟨g_, hl_, hS_⟩ := hw_.st; exact run_load rfl Tryz.underlying9 rfl (kv (.pointer (some ⟨b9, 0 + (vt39 : Int).toNat * 1, none⟩))) ((hc624 hS_.u6) 0 (by decide))) ?_
  have HS625 := HS619.u2
  obtain ⟨f626, L627, HS628, HR629, th630⟩ := (HO204.mono L607).lend HS625
  have HS631 := HS628.u2
  obtain ⟨f632, L633, HS634, HR635, th636⟩ := (HO205.mono (L607.trans L627)).lend HS631
  have hq_ := bind_some h; clear h; obtain ⟨⟨vt637, vt638⟩, hc639, h⟩ := hq_
  refine takeGE 5 kr rfl kr (does_call (f := 19) (args := #[.agg #[.int .i64 vt77.W, .int .i64 vt77.H, .slice A157 vt77.Cards.length c158, .slice A162 vt77.Counts.length c163], .string ⟨#[84]⟩, .string (rd ([(⟨#[116, 105, 99, 107]⟩ : ByteArray), (⟨#[98, 101, 97, 116]⟩ : ByteArray), (⟨#[115, 101, 99, 111, 110, 100]⟩ : ByteArray), (⟨#[109, 105, 110, 117, 116, 101]⟩ : ByteArray), (⟨#[104, 111, 117, 114]⟩ : ByteArray), (⟨#[100, 97, 121]⟩ : ByteArray)] : List ByteArray) vt39)]) kr (frame_Number.calls k A157 c158 A162 c163 vt77 (⟨#[84]⟩ : ByteArray) (rd ([(⟨#[116, 105, 99, 107]⟩ : ByteArray), (⟨#[98, 101, 97, 116]⟩ : ByteArray), (⟨#[115, 101, 99, 111, 110, 100]⟩ : ByteArray), (⟨#[109, 105, 110, 117, 116, 101]⟩ : ByteArray), (⟨#[104, 111, 117, 114]⟩ : ByteArray), (⟨#[100, 97, 121]⟩ : ByteArray)] : List ByteArray) vt39) HS634 (HR629.mono L633) HR635 (HT.mono (L30.trans (L36.trans (L42.trans (L201.trans (L607.trans (L627.trans L633))))))) vt637 vt638 hc639) ?_)
  rintro _ W642 ⟨f640, rfl, L641, HS643⟩
  refine ⟨_, rfl, ?_⟩
  obtain ⟨f644, L645, HS646⟩ := th636 L641 HS643
  obtain ⟨f647, L648, HS649⟩ := th630 L645 HS646
  have HS650 := HS649.u6
  have HS651 := HS650.u6
  have HS652 := HS651.u6
  have HS653 := HS652.u4
  have HS654 := HS653.u4
  have HS655 := HS654.u6
  have HS656 := HS655.u6
  refine ⟨(Sg.g0 (Sx.of [] L648 HS656)), ?_⟩
  refine takeGL [6, 7, 8, 9, 10] (n := 5) (fuel := 0) #[true, true, true, true, true, true, true, true, true, true, true] rfl kr kr kr hnp (Sg.g0 (Sx.of [] L648 HS656)) ?_
  refine doneG kr ?_ _
  refine hK617 _ _ ?_
  refine wp_seq_k (fun K657 hK658 => ?_)
  refine wp_seq_k fun K659 hK660 => rl ?_
  have hq_ := bind_some h; clear h; obtain ⟨vt661, hc662, h⟩ := hq_
  refine seqK rfl (does_call (f := 9) (args := #[]) kr (spykeep3_filed.calls k  HS656 (HA.mono (L30.trans (L36.trans (L42.trans (L201.trans (L607.trans L648)))))) (HM.mono (L30.trans (L36.trans (L42.trans (L201.trans (L607.trans L648)))))) (HT.mono (L30.trans (L36.trans (L42.trans (L201.trans (L607.trans L648)))))) vt661 hc662) ?_)
  rintro _ W665 ⟨f663, rfl, L664, HS666⟩
  refine ⟨_, rfl, ?_⟩
  refine seqL2 kr ?_
  have hq_ := ite_some h; clear h; rcases hq_ with ⟨c667, h⟩ | ⟨c667, h⟩
  · have c667 : ¬ (vt661 = true) := c667
    refine seqRwI 60 (x := (!vt661)) (v := true) kr (congrArg (fun b_ => !b_) (show vt661 = false from (Bool.eq_false_iff.mpr c667)) : (!vt661) = true) ?_
    refine seqRwI 61 (x := (!vt661)) (v := true) kr (congrArg (fun b_ => !b_) (show vt661 = false from (Bool.eq_false_iff.mpr c667)) : (!vt661) = true) ?_
    refine seqL19 kr ?_
    refine nl (hK660 _ _ ?_)
    refine condT kr ?_
    refine wp_seq_k fun K668 hK669 => rl ?_
    refine seqL1 kr ?_
    refine nl (hK669 _ _ ?_)
    refine wp_ret ?_
    refine hret _ _ ?_
    refine ends_still (v := Value.bool false) kr kr ?_
    have HS812 := HS666.drop
    have HS813 := HS812.drop
    have HS814 := HS813.drop
    have HS815 := HS814.drop
    have HS816 := HS815.drop
    have HS817 := HS816.drop
    have HS818 := HS817.drop
    injection h with h
    subst h
    exact ⟨f663, rfl, (L30.trans (L36.trans (L42.trans (L201.trans (L607.trans (L648.trans L664)))))), HS818⟩
  · have c667 : ¬ (¬ (vt661 = true)) := c667
    refine seqRwI 60 (x := (!vt661)) (v := false) kr (congrArg (fun b_ => !b_) (show vt661 = true from (Decidable.of_not_not c667)) : (!vt661) = false) ?_
    refine seqRwI 61 (x := (!vt661)) (v := false) kr (congrArg (fun b_ => !b_) (show vt661 = true from (Decidable.of_not_not c667)) : (!vt661) = false) ?_
    refine seqL4 kr ?_
    have hq_ := ite_some h; clear h; rcases hq_ with ⟨c670, h⟩ | ⟨c670, h⟩
    · have c670 : vt78 ≠ 0 := c670
      refine seqRwI 63 (x := (vt78 != 0)) (v := true) kr (bne_iff_ne.mpr c670) ?_
      refine seqRwI 64 (x := (vt78 != 0)) (v := true) kr (bne_iff_ne.mpr c670) ?_
      refine seqRwI 65 (x := (vt78 != 0)) (v := true) kr (bne_iff_ne.mpr c670) ?_
      refine seqL15 kr ?_
      refine nl (hK660 _ _ ?_)
      refine condT kr ?_
      refine wp_seq_k fun K671 hK672 => rl ?_
      refine seqL1 kr ?_
      refine nl (hK672 _ _ ?_)
      refine wp_ret ?_
      refine hret _ _ ?_
      refine ends_still (v := Value.bool false) kr kr ?_
      have HS819 := HS666.drop
      have HS820 := HS819.drop
      have HS821 := HS820.drop
      have HS822 := HS821.drop
      have HS823 := HS822.drop
      have HS824 := HS823.drop
      have HS825 := HS824.drop
      injection h with h
      subst h
      exact ⟨f663, rfl, (L30.trans (L36.trans (L42.trans (L201.trans (L607.trans (L648.trans L664)))))), HS825⟩
    · have c670 : ¬ (vt78 ≠ 0) := c670
      refine seqRwI 63 (x := (vt78 != 0)) (v := false) kr (bne_eq_false_iff_eq.mpr (Decidable.of_not_not c670)) ?_
      refine seqRwI 64 (x := (vt78 != 0)) (v := false) kr (bne_eq_false_iff_eq.mpr (Decidable.of_not_not c670)) ?_
      refine seqRwI 65 (x := (vt78 != 0)) (v := false) kr (bne_eq_false_iff_eq.mpr (Decidable.of_not_not c670)) ?_
      refine seqL3 kr ?_
      have hq_ := ite_some h; clear h; rcases hq_ with ⟨c673, h⟩ | ⟨c673, h⟩
      · have c673 : vt597 ≠ 0 := c673
        refine seqRwI 67 (x := (vt597 != 0)) (v := true) kr (bne_iff_ne.mpr c673) ?_
        refine seqRwI 68 (x := (vt597 != 0)) (v := true) kr (bne_iff_ne.mpr c673) ?_
        refine seqL5 kr ?_
        have hq_ := ite_some h; clear h; rcases hq_ with ⟨c674, h⟩ | ⟨c674, h⟩
        · have c674 : vt597 ≠ 3 := c674
          refine seqRwI 70 (x := (vt597 != 3)) (v := true) kr (bne_iff_ne.mpr c674) ?_
          refine seqRwI 71 (x := (vt597 != 3)) (v := true) kr (bne_iff_ne.mpr c674) ?_
          refine seqRwI 72 (x := (vt597 != 3)) (v := true) kr (bne_iff_ne.mpr c674) ?_
          refine seqRwI 73 (x := (vt597 != 3)) (v := true) kr (bne_iff_ne.mpr c674) ?_
          refine seqL7 kr ?_
          refine nl (hK660 _ _ ?_)
          refine condT kr ?_
          refine wp_seq_k fun K675 hK676 => rl ?_
          refine seqL1 kr ?_
          refine nl (hK676 _ _ ?_)
          refine wp_ret ?_
          refine hret _ _ ?_
          refine ends_still (v := Value.bool false) kr kr ?_
          have HS826 := HS666.drop
          have HS827 := HS826.drop
          have HS828 := HS827.drop
          have HS829 := HS828.drop
          have HS830 := HS829.drop
          have HS831 := HS830.drop
          have HS832 := HS831.drop
          injection h with h
          subst h
          exact ⟨f663, rfl, (L30.trans (L36.trans (L42.trans (L201.trans (L607.trans (L648.trans L664)))))), HS832⟩
        · have c674 : ¬ (vt597 ≠ 3) := c674
          refine seqRwI 70 (x := (vt597 != 3)) (v := false) kr (bne_eq_false_iff_eq.mpr (Decidable.of_not_not c674)) ?_
          refine seqRwI 71 (x := (vt597 != 3)) (v := false) kr (bne_eq_false_iff_eq.mpr (Decidable.of_not_not c674)) ?_
          refine seqRwI 72 (x := (vt597 != 3)) (v := false) kr (bne_eq_false_iff_eq.mpr (Decidable.of_not_not c674)) ?_
          refine seqRwI 73 (x := (vt597 != 3)) (v := false) kr (bne_eq_false_iff_eq.mpr (Decidable.of_not_not c674)) ?_
          refine seqL3 kr ?_
          have hq_ := ite_some h; clear h; rcases hq_ with ⟨c677, h⟩ | ⟨c677, h⟩
          · have c677 : vt638 ≠ 0 := c677
            refine seqRwI 75 (x := (vt638 != 0)) (v := true) kr (bne_iff_ne.mpr c677) ?_
            refine seqRwI 76 (x := (vt638 != 0)) (v := true) kr (bne_iff_ne.mpr c677) ?_
            refine seqL4 kr ?_
            refine nl (hK660 _ _ ?_)
            have hq_ := ite_some h; clear h; rcases hq_ with ⟨c679, h⟩ | ⟨c679, h⟩
            · have c679 : vt638 ≠ 3 := c679
              refine wpRwI 78 (x := (vt638 != 3)) (v := true) kr (bne_iff_ne.mpr c679) ?_
              refine wpRwI 79 (x := (vt638 != 3)) (v := true) kr (bne_iff_ne.mpr c679) ?_
              refine wpRwI 80 (x := (vt638 != 3)) (v := true) kr (bne_iff_ne.mpr c679) ?_
              refine condT kr ?_
              refine wp_seq_k fun K680 hK681 => rl ?_
              refine seqL1 kr ?_
              refine nl (hK681 _ _ ?_)
              refine wp_ret ?_
              refine hret _ _ ?_
              refine ends_still (v := Value.bool false) kr kr ?_
              have HS833 := HS666.drop
              have HS834 := HS833.drop
              have HS835 := HS834.drop
              have HS836 := HS835.drop
              have HS837 := HS836.drop
              have HS838 := HS837.drop
              have HS839 := HS838.drop
              injection h with h
              subst h
              exact ⟨f663, rfl, (L30.trans (L36.trans (L42.trans (L201.trans (L607.trans (L648.trans L664)))))), HS839⟩
            · have c679 : ¬ (vt638 ≠ 3) := c679
              refine wpRwI 78 (x := (vt638 != 3)) (v := false) kr (bne_eq_false_iff_eq.mpr (Decidable.of_not_not c679)) ?_
              refine wpRwI 79 (x := (vt638 != 3)) (v := false) kr (bne_eq_false_iff_eq.mpr (Decidable.of_not_not c679)) ?_
              refine wpRwI 80 (x := (vt638 != 3)) (v := false) kr (bne_eq_false_iff_eq.mpr (Decidable.of_not_not c679)) ?_
              refine condF kr ?_
              refine wp_skip ?_
              refine hK658 _ _ ?_
              refine wp_seq_k (fun K682 hK683 => ?_)
              refine wp_seq_k (fun K684 hK685 => ?_)
              refine heldG (S := Sg t f663 ([(b182, .cells #[.int .i64 vt77.W, .int .i64 vt77.H, .slice A157 vt77.Cards.length c158, .slice A162 vt77.Counts.length c163] 29 (0, 0))] :: s105 :: s159 :: s164 :: s124 :: s19 :: s11 :: H) []) (n := 32) kr rfl HS666 ?_
              intro W686 HS687
              have hq_ := guard_some h; clear h; obtain ⟨c688, h⟩ := hq_
              have c688 : vt27 < (([1, 1000, 1000, 60000, 3600000, 86400000] : List Int).length : Int) := c688
              obtain ⟨cs689, hr690, hc691⟩ := (HO21.mono (L30.trans (L36.trans (L42.trans (L201.trans (L607.trans (L648.trans L664))))))).at' (i := vt27) c49 c688
              obtain rfl := hr690
              refine takeG [0, 1, 2, 3, 4] (n := 32) (fuel := 27) (l' := #[true, true, true, true, true, false, false, false, false, false, false, false, false, false, false, false, false, false, false, false, false, false, false, false, false, false, false, false, false, false, false, false]) (a' := ⟨#[iV (Int.tmod n1 1073741824), iV vt27, iV vt33, iV vt39, uV, uV, uV, uV, fV, .slice (some ⟨b9, 0, none⟩) ([(⟨#[116, 105, 99, 107]⟩ : ByteArray), (⟨#[98, 101, 97, 116]⟩ : ByteArray), (⟨#[115, 101, 99, 111, 110, 100]⟩ : ByteArray), (⟨#[109, 105, 110, 117, 116, 101]⟩ : ByteArray), (⟨#[104, 111, 117, 114]⟩ : ByteArray), (⟨#[100, 97, 121]⟩ : ByteArray)] : List ByteArray).length 6, .slice (some ⟨b17, 0, none⟩) ([1, 1000, 1000, 60000, 3600000, 86400000] : List Int).length 6, pV b182 0, iV vt78, iV vt596, iV vt597, iV vt637, iV vt638, .slice (some ⟨b9, 0, none⟩) ([(⟨#[116, 105, 99, 107]⟩ : ByteArray), (⟨#[98, 101, 97, 116]⟩ : ByteArray), (⟨#[115, 101, 99, 111, 110, 100]⟩ : ByteArray), (⟨#[109, 105, 110, 117, 116, 101]⟩ : ByteArray), (⟨#[104, 111, 117, 114]⟩ : ByteArray), (⟨#[100, 97, 121]⟩ : ByteArray)] : List ByteArray).length 6, .slice (some ⟨b17, 0, none⟩) ([1, 1000, 1000, 60000, 3600000, 86400000] : List Int).length 6, iV n1, iV (Int.tmod n1 1073741824), iV vfrom2, iV vt27, iV a3, iV vt33, iV b4, iV vt39, .tuple #[(ag_Frame vt77 A157 c158 A162 c163), iV vt78], .slice (some ⟨b103, 0, none⟩) ([0] : List Int).length 1, .agg #[iV 1, iV 1, .slice none 0 0, .slice (some ⟨b103, 0, none⟩) ([0] : List Int).length 1], iV (Int.tmod n1 1073741824), .slice A122 vt60.length c123, .string (bstr vt60), .slice (some ⟨b9, 0, none⟩) ([(⟨#[116, 105, 99, 107]⟩ : ByteArray), (⟨#[98, 101, 97, 116]⟩ : ByteArray), (⟨#[115, 101, 99, 111, 110, 100]⟩ : ByteArray), (⟨#[109, 105, 110, 117, 116, 101]⟩ : ByteArray), (⟨#[104, 111, 117, 114]⟩ : ByteArray), (⟨#[100, 97, 121]⟩ : ByteArray)] : List ByteArray).length 6, iV vt27, pV b9 (0 + (vt27 : Int).toNat * 1), .string (rd ([(⟨#[116, 105, 99, 107]⟩ : ByteArray), (⟨#[98, 101, 97, 116]⟩ : ByteArray), (⟨#[115, 101, 99, 111, 110, 100]⟩ : ByteArray), (⟨#[109, 105, 110, 117, 116, 101]⟩ : ByteArray), (⟨#[104, 111, 117, 114]⟩ : ByteArray), (⟨#[100, 97, 121]⟩ : ByteArray)] : List ByteArray) vt27), .agg #[.string ⟨#[84]⟩, .string (bstr vt60), .string (rd ([(⟨#[116, 105, 99, 107]⟩ : ByteArray), (⟨#[98, 101, 97, 116]⟩ : ByteArray), (⟨#[115, 101, 99, 111, 110, 100]⟩ : ByteArray), (⟨#[109, 105, 110, 117, 116, 101]⟩ : ByteArray), (⟨#[104, 111, 117, 114]⟩ : ByteArray), (⟨#[100, 97, 121]⟩ : ByteArray)] : List ByteArray) vt27), .string ⟨#[]⟩], .tuple #[(ag_Frame vt77 A157 c158 A162 c163), iV vt78], (ag_Frame vt77 A157 c158 A162 c163), iV vt78, .tuple #[iV vt596, iV vt597], (ag_Frame vt77 A157 c158 A162 c163), .slice (some ⟨b9, 0, none⟩) ([(⟨#[116, 105, 99, 107]⟩ : ByteArray), (⟨#[98, 101, 97, 116]⟩ : ByteArray), (⟨#[115, 101, 99, 111, 110, 100]⟩ : ByteArray), (⟨#[109, 105, 110, 117, 116, 101]⟩ : ByteArray), (⟨#[104, 111, 117, 114]⟩ : ByteArray), (⟨#[100, 97, 121]⟩ : ByteArray)] : List ByteArray).length 6, iV vt33, pV b9 (0 + (vt33 : Int).toNat * 1), .string (rd ([(⟨#[116, 105, 99, 107]⟩ : ByteArray), (⟨#[98, 101, 97, 116]⟩ : ByteArray), (⟨#[115, 101, 99, 111, 110, 100]⟩ : ByteArray), (⟨#[109, 105, 110, 117, 116, 101]⟩ : ByteArray), (⟨#[104, 111, 117, 114]⟩ : ByteArray), (⟨#[100, 97, 121]⟩ : ByteArray)] : List ByteArray) vt33), .tuple #[iV vt596, iV vt597], iV vt596, iV vt597, .tuple #[iV vt637, iV vt638], (ag_Frame vt77 A157 c158 A162 c163), .slice (some ⟨b9, 0, none⟩) ([(⟨#[116, 105, 99, 107]⟩ : ByteArray), (⟨#[98, 101, 97, 116]⟩ : ByteArray), (⟨#[115, 101, 99, 111, 110, 100]⟩ : ByteArray), (⟨#[109, 105, 110, 117, 116, 101]⟩ : ByteArray), (⟨#[104, 111, 117, 114]⟩ : ByteArray), (⟨#[100, 97, 121]⟩ : ByteArray)] : List ByteArray).length 6, iV vt39, pV b9 (0 + (vt39 : Int).toNat * 1), .string (rd ([(⟨#[116, 105, 99, 107]⟩ : ByteArray), (⟨#[98, 101, 97, 116]⟩ : ByteArray), (⟨#[115, 101, 99, 111, 110, 100]⟩ : ByteArray), (⟨#[109, 105, 110, 117, 116, 101]⟩ : ByteArray), (⟨#[104, 111, 117, 114]⟩ : ByteArray), (⟨#[100, 97, 121]⟩ : ByteArray)] : List ByteArray) vt39), .tuple #[iV vt637, iV vt638], iV vt637, iV vt638, .bool vt661, fV, fV, iV vt78, fV, fV, fV, iV vt597, tV, tV, iV vt597, fV, fV, fV, fV, iV vt638, tV, tV, iV vt638, fV, fV, fV, iV vt597, .bool (vt597 == 0), iV (Int.tmod n1 1073741824), .slice (some ⟨b17, 0, none⟩) ([1, 1000, 1000, 60000, 3600000, 86400000] : List Int).length 6, iV vt27, uV, uV, uV, uV, uV, uV, uV, uV, uV, uV, uV, uV, uV, uV, uV, uV, uV, uV, uV, uV, uV, uV, uV, uV, uV, uV, uV, uV, uV, uV, uV, uV, uV, uV, uV, uV, uV, uV, uV, uV, uV, uV, uV, uV, uV, uV, uV, uV, uV, uV, uV, uV, uV, uV, uV, uV, uV, uV, uV, uV, uV, uV, uV], []⟩) rfl kr kr kr hnp (Sg.g0 (Sx.of [] (FM.le.refl _) HS687)) ?_
              refine takeGQ 5 [] rfl kr kr kr kr kr kr hnp (Sg.g0 (Sx.of [] (FM.le.refl _) HS687)) (fun w_ hw_ => by obtain ⟨g_, hl_, hS_⟩ := hw_.st; exact run_index (sz := 1) rfl Tryz.underlying47 kr (kv (.slice (some ⟨b17, 0, none⟩) ([1, 1000, 1000, 60000, 3600000, 86400000] : List Int).length 6)) (kv (.int .i64 vt27)) c49 c688 w_) ?_
              refine takeGQ 6 [] rfl kr kr kr kr kr kr hnp (Sg.g0 (Sx.of [] (FM.le.refl _) HS687)) (fun w_ hw_ => by obtain ⟨g_, hl_, hS_⟩ := hw_.st; exact run_load rfl Tryz.underlying2 rfl (kv (.pointer (some ⟨b17, 0 + (vt27 : Int).toNat * 1, none⟩))) ((hc691 hS_.u5) 0 (by decide))) ?_
              have hq_ := guard_some h; clear h; obtain ⟨c692, h⟩ := hq_
              have c692 : vt33 < (([1, 1000, 1000, 60000, 3600000, 86400000] : List Int).length : Int) := c692
              obtain ⟨cs693, hr694, hc695⟩ := (HO21.mono (L30.trans (L36.trans (L42.trans (L201.trans (L607.trans (L648.trans L664))))))).at' (i := vt33) c579 c692
              obtain rfl := hr694
              refine takeGL [7, 8, 9] (n := 25) (fuel := 22) #[true, true, true, true, true, true, true, true, true, true, false, false, false, false, false, false, false, false, false, false, false, false, false, false, false, false, false, false, false, false, false, false] rfl kr kr kr hnp (Sg.g0 (Sx.of [] (FM.le.refl _) HS687)) ?_
              refine takeGQ 10 [] rfl kr kr kr kr kr kr hnp (Sg.g0 (Sx.of [] (FM.le.refl _) HS687)) (fun w_ hw_ => by obtain ⟨g_, hl_, hS_⟩ := hw_.st; exact run_index (sz := 1) rfl Tryz.underlying47 kr (kv (.slice (some ⟨b17, 0, none⟩) ([1, 1000, 1000, 60000, 3600000, 86400000] : List Int).length 6)) (kv (.int .i64 vt33)) c579 c692 w_) ?_
              refine takeGQ 11 [] rfl kr kr kr kr kr kr hnp (Sg.g0 (Sx.of [] (FM.le.refl _) HS687)) (fun w_ hw_ => by obtain ⟨g_, hl_, hS_⟩ := hw_.st; exact run_load rfl Tryz.underlying2 rfl (kv (.pointer (some ⟨b17, 0 + (vt33 : Int).toNat * 1, none⟩))) ((hc695 hS_.u5) 0 (by decide))) ?_
              have hq_ := guard_some h; clear h; obtain ⟨c696, h⟩ := hq_
              have c696 : ¬ ((rd ([1, 1000, 1000, 60000, 3600000, 86400000] : List Int) vt33) = 0) := c696
              refine takeGQ 12 [] rfl kr kr kr kr kr kr hnp (Sg.g0 (Sx.of [] (FM.le.refl _) HS687)) (fun w_ hw_ => by obtain ⟨g_, hl_, hS_⟩ := hw_.st; exact run_rem rfl (kv (.int .i64 (w64 ((Int.tmod n1 1073741824) * (rd ([1, 1000, 1000, 60000, 3600000, 86400000] : List Int) vt27))))) (kv (.int .i64 (rd ([1, 1000, 1000, 60000, 3600000, 86400000] : List Int) vt33))) c696 w_) ?_
              refine takeGL [13, 14, 15] (n := 19) (fuel := 16) #[true, true, true, true, true, true, true, true, true, true, true, true, true, true, true, true, false, false, false, false, false, false, false, false, false, false, false, false, false, false, false, false] rfl kr kr kr hnp (Sg.g0 (Sx.of [] (FM.le.refl _) HS687)) ?_
              have hq_ := ite_some h; clear h; rcases hq_ with ⟨c697, h⟩ | ⟨c697, h⟩
              · have c697 : ((vt597 == 0) != ((Int.tmod (w64 ((Int.tmod n1 1073741824) * (rd ([1, 1000, 1000, 60000, 3600000, 86400000] : List Int) vt27))) (rd ([1, 1000, 1000, 60000, 3600000, 86400000] : List Int) vt33)) == 0)) = true := c697
                refine gateRwI 95 (x := ((vt597 == 0) != ((Int.tmod (w64 ((Int.tmod n1 1073741824) * (rd ([1, 1000, 1000, 60000, 3600000, 86400000] : List Int) vt27))) (rd ([1, 1000, 1000, 60000, 3600000, 86400000] : List Int) vt33)) == 0))) (v := true) kr c697 ?_
                refine gateRwI 96 (x := ((vt597 == 0) != ((Int.tmod (w64 ((Int.tmod n1 1073741824) * (rd ([1, 1000, 1000, 60000, 3600000, 86400000] : List Int) vt27))) (rd ([1, 1000, 1000, 60000, 3600000, 86400000] : List Int) vt33)) == 0))) (v := true) kr c697 ?_
                refine takeGL [16, 17, 18, 19, 20, 21, 22, 23, 24, 25, 26, 27, 28, 29, 30, 31] (n := 16) (fuel := 0) #[true, true, true, true, true, true, true, true, true, true, true, true, true, true, true, true, true, true, true, true, true, true, true, true, true, true, true, true, true, true, true, true] rfl kr kr kr hnp (Sg.g0 (Sx.of [] (FM.le.refl _) HS687)) ?_
                refine doneG kr ?_ _
                refine hK685 _ _ ?_
                refine condT kr ?_
                refine wp_seq_k fun K698 hK699 => rl ?_
                refine seqL1 kr ?_
                refine nl (hK699 _ _ ?_)
                refine wp_ret ?_
                refine hret _ _ ?_
                refine ends_still (v := Value.bool false) kr kr ?_
                have HS840 := HS687.drop
                have HS841 := HS840.drop
                have HS842 := HS841.drop
                have HS843 := HS842.drop
                have HS844 := HS843.drop
                have HS845 := HS844.drop
                have HS846 := HS845.drop
                injection h with h
                subst h
                exact ⟨f663, rfl, (L30.trans (L36.trans (L42.trans (L201.trans (L607.trans (L648.trans L664)))))), HS846⟩
              · have c697 : ¬ (((vt597 == 0) != ((Int.tmod (w64 ((Int.tmod n1 1073741824) * (rd ([1, 1000, 1000, 60000, 3600000, 86400000] : List Int) vt27))) (rd ([1, 1000, 1000, 60000, 3600000, 86400000] : List Int) vt33)) == 0)) = true) := c697
                refine gateRwI 95 (x := ((vt597 == 0) != ((Int.tmod (w64 ((Int.tmod n1 1073741824) * (rd ([1, 1000, 1000, 60000, 3600000, 86400000] : List Int) vt27))) (rd ([1, 1000, 1000, 60000, 3600000, 86400000] : List Int) vt33)) == 0))) (v := false) kr (Bool.eq_false_iff.mpr c697) ?_
                refine gateRwI 96 (x := ((vt597 == 0) != ((Int.tmod (w64 ((Int.tmod n1 1073741824) * (rd ([1, 1000, 1000, 60000, 3600000, 86400000] : List Int) vt27))) (rd ([1, 1000, 1000, 60000, 3600000, 86400000] : List Int) vt33)) == 0))) (v := false) kr (Bool.eq_false_iff.mpr c697) ?_
                refine takeGL [16, 17, 18, 19, 20] (n := 16) (fuel := 11) #[true, true, true, true, true, true, true, true, true, true, true, true, true, true, true, true, true, true, true, true, true, false, false, false, false, false, false, false, false, false, false, false] rfl kr kr kr hnp (Sg.g0 (Sx.of [] (FM.le.refl _) HS687)) ?_
                refine takeGQ 21 [] rfl kr kr kr kr kr kr hnp (Sg.g0 (Sx.of [] (FM.le.refl _) HS687)) (fun w_ hw_ => by obtain ⟨g_, hl_, hS_⟩ := hw_.st; exact run_index (sz := 1) rfl Tryz.underlying47 kr (kv (.slice (some ⟨b17, 0, none⟩) ([1, 1000, 1000, 60000, 3600000, 86400000] : List Int).length 6)) (kv (.int .i64 vt27)) c49 c688 w_) ?_
                refine takeGQ 22 [] rfl kr kr kr kr kr kr hnp (Sg.g0 (Sx.of [] (FM.le.refl _) HS687)) (fun w_ hw_ => by obtain ⟨g_, hl_, hS_⟩ := hw_.st; exact run_load rfl Tryz.underlying2 rfl (kv (.pointer (some ⟨b17, 0 + (vt27 : Int).toNat * 1, none⟩))) ((hc691 hS_.u5) 0 (by decide))) ?_
                have hq_ := guard_some h; clear h; obtain ⟨c700, h⟩ := hq_
                have c700 : vt39 < (([1, 1000, 1000, 60000, 3600000, 86400000] : List Int).length : Int) := c700
                obtain ⟨cs701, hr702, hc703⟩ := (HO21.mono (L30.trans (L36.trans (L42.trans (L201.trans (L607.trans (L648.trans L664))))))).at' (i := vt39) c620 c700
                obtain rfl := hr702
                refine takeGL [23, 24, 25] (n := 9) (fuel := 6) #[true, true, true, true, true, true, true, true, true, true, true, true, true, true, true, true, true, true, true, true, true, true, true, true, true, true, false, false, false, false, false, false] rfl kr kr kr hnp (Sg.g0 (Sx.of [] (FM.le.refl _) HS687)) ?_
                refine takeGQ 26 [] rfl kr kr kr kr kr kr hnp (Sg.g0 (Sx.of [] (FM.le.refl _) HS687)) (fun w_ hw_ => by obtain ⟨g_, hl_, hS_⟩ := hw_.st; exact run_index (sz := 1) rfl Tryz.underlying47 kr (kv (.slice (some ⟨b17, 0, none⟩) ([1, 1000, 1000, 60000, 3600000, 86400000] : List Int).length 6)) (kv (.int .i64 vt39)) c620 c700 w_) ?_
                refine takeGQ 27 [] rfl kr kr kr kr kr kr hnp (Sg.g0 (Sx.of [] (FM.le.refl _) HS687)) (fun w_ hw_ => by obtain ⟨g_, hl_, hS_⟩ := hw_.st; exact run_load rfl Tryz.underlying2 rfl (kv (.pointer (some ⟨b17, 0 + (vt39 : Int).toNat * 1, none⟩))) ((hc703 hS_.u5) 0 (by decide))) ?_
                have hq_ := guard_some h; clear h; obtain ⟨c704, h⟩ := hq_
                have c704 : ¬ ((rd ([1, 1000, 1000, 60000, 3600000, 86400000] : List Int) vt39) = 0) := c704
                refine takeGQ 28 [] rfl kr kr kr kr kr kr hnp (Sg.g0 (Sx.of [] (FM.le.refl _) HS687)) (fun w_ hw_ => by obtain ⟨g_, hl_, hS_⟩ := hw_.st; exact run_rem rfl (kv (.int .i64 (w64 ((Int.tmod n1 1073741824) * (rd ([1, 1000, 1000, 60000, 3600000, 86400000] : List Int) vt27))))) (kv (.int .i64 (rd ([1, 1000, 1000, 60000, 3600000, 86400000] : List Int) vt39))) c704 w_) ?_
                refine takeGL [29, 30, 31] (n := 3) (fuel := 0) #[true, true, true, true, true, true, true, true, true, true, true, true, true, true, true, true, true, true, true, true, true, true, true, true, true, true, true, true, true, true, true, true] rfl kr kr kr hnp (Sg.g0 (Sx.of [] (FM.le.refl _) HS687)) ?_
                refine doneG kr ?_ _
                refine hK685 _ _ ?_
                have hq_ := ite_some h; clear h; rcases hq_ with ⟨c706, h⟩ | ⟨c706, h⟩
                · have c706 : ((vt638 == 0) != ((Int.tmod (w64 ((Int.tmod n1 1073741824) * (rd ([1, 1000, 1000, 60000, 3600000, 86400000] : List Int) vt27))) (rd ([1, 1000, 1000, 60000, 3600000, 86400000] : List Int) vt39)) == 0)) = true := c706
                  refine wpRwI 111 (x := ((vt638 == 0) != ((Int.tmod (w64 ((Int.tmod n1 1073741824) * (rd ([1, 1000, 1000, 60000, 3600000, 86400000] : List Int) vt27))) (rd ([1, 1000, 1000, 60000, 3600000, 86400000] : List Int) vt39)) == 0))) (v := true) kr c706 ?_
                  refine wpRwI 112 (x := ((vt638 == 0) != ((Int.tmod (w64 ((Int.tmod n1 1073741824) * (rd ([1, 1000, 1000, 60000, 3600000, 86400000] : List Int) vt27))) (rd ([1, 1000, 1000, 60000, 3600000, 86400000] : List Int) vt39)) == 0))) (v := true) kr c706 ?_
                  refine condT kr ?_
                  refine wp_seq_k fun K707 hK708 => rl ?_
                  refine seqL1 kr ?_
                  refine nl (hK708 _ _ ?_)
                  refine wp_ret ?_
                  refine hret _ _ ?_
                  refine ends_still (v := Value.bool false) kr kr ?_
                  have HS847 := HS687.drop
                  have HS848 := HS847.drop
                  have HS849 := HS848.drop
                  have HS850 := HS849.drop
                  have HS851 := HS850.drop
                  have HS852 := HS851.drop
                  have HS853 := HS852.drop
                  injection h with h
                  subst h
                  exact ⟨f663, rfl, (L30.trans (L36.trans (L42.trans (L201.trans (L607.trans (L648.trans L664)))))), HS853⟩
                · have c706 : ¬ (((vt638 == 0) != ((Int.tmod (w64 ((Int.tmod n1 1073741824) * (rd ([1, 1000, 1000, 60000, 3600000, 86400000] : List Int) vt27))) (rd ([1, 1000, 1000, 60000, 3600000, 86400000] : List Int) vt39)) == 0)) = true) := c706
                  refine wpRwI 111 (x := ((vt638 == 0) != ((Int.tmod (w64 ((Int.tmod n1 1073741824) * (rd ([1, 1000, 1000, 60000, 3600000, 86400000] : List Int) vt27))) (rd ([1, 1000, 1000, 60000, 3600000, 86400000] : List Int) vt39)) == 0))) (v := false) kr (Bool.eq_false_iff.mpr c706) ?_
                  refine wpRwI 112 (x := ((vt638 == 0) != ((Int.tmod (w64 ((Int.tmod n1 1073741824) * (rd ([1, 1000, 1000, 60000, 3600000, 86400000] : List Int) vt27))) (rd ([1, 1000, 1000, 60000, 3600000, 86400000] : List Int) vt39)) == 0))) (v := false) kr (Bool.eq_false_iff.mpr c706) ?_
                  refine condF kr ?_
                  refine wp_skip ?_
                  refine hK683 _ _ ?_
                  refine wp_seq_k (fun K709 hK710 => ?_)
                  refine heldG (S := Sg t f663 ([(b182, .cells #[.int .i64 vt77.W, .int .i64 vt77.H, .slice A157 vt77.Cards.length c158, .slice A162 vt77.Counts.length c163] 29 (0, 0))] :: s105 :: s159 :: s164 :: s124 :: s19 :: s11 :: H) []) (n := 37) kr rfl HS687 ?_
                  intro W711 HS712
                  refine takeGL [0, 1, 2] (n := 37) (fuel := 34) #[true, true, true, false, false, false, false, false, false, false, false, false, false, false, false, false, false, false, false, false, false, false, false, false, false, false, false, false, false, false, false, false, false, false, false, false, false] rfl kr kr kr hnp (Sg.g0 (Sx.of [] (FM.le.refl _) HS712)) ?_
                  refine gateRwI 114 (x := (vt597 != 0)) (v := true) kr (bne_iff_ne.mpr c673) ?_
                  refine gateRwI 115 (x := (vt597 != 0)) (v := true) kr (bne_iff_ne.mpr c673) ?_
                  refine takeGL [3, 4, 5, 6, 7, 8, 9, 10, 11, 12, 13, 14, 15, 16, 17, 18, 19, 20, 21, 22, 23, 24, 25, 26, 27, 28, 29, 30, 31, 32, 33, 34, 35, 36] (n := 34) (fuel := 0) #[true, true, true, true, true, true, true, true, true, true, true, true, true, true, true, true, true, true, true, true, true, true, true, true, true, true, true, true, true, true, true, true, true, true, true, true, true] rfl kr kr kr hnp (Sg.g0 (Sx.of [] (FM.le.refl _) HS712)) ?_
                  refine doneG kr ?_ _
                  refine hK710 _ _ ?_
                  refine wp_ret ?_
                  refine hret _ _ ?_
                  refine ends_still (v := Value.bool true) kr kr ?_
                  have HS854 := HS712.drop
                  have HS855 := HS854.drop
                  have HS856 := HS855.drop
                  have HS857 := HS856.drop
                  have HS858 := HS857.drop
                  have HS859 := HS858.drop
                  have HS860 := HS859.drop
                  injection h with h
                  subst h
                  exact ⟨f663, rfl, (L30.trans (L36.trans (L42.trans (L201.trans (L607.trans (L648.trans L664)))))), HS860⟩
          · have c677 : ¬ (vt638 ≠ 0) := c677
            refine seqRwI 75 (x := (vt638 != 0)) (v := false) kr (bne_eq_false_iff_eq.mpr (Decidable.of_not_not c677)) ?_
            refine seqRwI 76 (x := (vt638 != 0)) (v := false) kr (bne_eq_false_iff_eq.mpr (Decidable.of_not_not c677)) ?_
            refine seqL4 kr ?_
            refine nl (hK660 _ _ ?_)
            refine condF kr ?_
            refine wp_skip ?_
            refine hK658 _ _ ?_
            refine wp_seq_k (fun K713 hK714 => ?_)
            refine wp_seq_k (fun K715 hK716 => ?_)
            refine heldG (S := Sg t f663 ([(b182, .cells #[.int .i64 vt77.W, .int .i64 vt77.H, .slice A157 vt77.Cards.length c158, .slice A162 vt77.Counts.length c163] 29 (0, 0))] :: s105 :: s159 :: s164 :: s124 :: s19 :: s11 :: H) []) (n := 32) kr rfl HS666 ?_
            intro W717 HS718
            have hq_ := guard_some h; clear h; obtain ⟨c719, h⟩ := hq_
            have c719 : vt27 < (([1, 1000, 1000, 60000, 3600000, 86400000] : List Int).length : Int) := c719
            obtain ⟨cs720, hr721, hc722⟩ := (HO21.mono (L30.trans (L36.trans (L42.trans (L201.trans (L607.trans (L648.trans L664))))))).at' (i := vt27) c49 c719
            obtain rfl := hr721
            refine takeG [0, 1, 2, 3, 4] (n := 32) (fuel := 27) (l' := #[true, true, true, true, true, false, false, false, false, false, false, false, false, false, false, false, false, false, false, false, false, false, false, false, false, false, false, false, false, false, false, false]) (a' := ⟨#[iV (Int.tmod n1 1073741824), iV vt27, iV vt33, iV vt39, uV, uV, uV, uV, fV, .slice (some ⟨b9, 0, none⟩) ([(⟨#[116, 105, 99, 107]⟩ : ByteArray), (⟨#[98, 101, 97, 116]⟩ : ByteArray), (⟨#[115, 101, 99, 111, 110, 100]⟩ : ByteArray), (⟨#[109, 105, 110, 117, 116, 101]⟩ : ByteArray), (⟨#[104, 111, 117, 114]⟩ : ByteArray), (⟨#[100, 97, 121]⟩ : ByteArray)] : List ByteArray).length 6, .slice (some ⟨b17, 0, none⟩) ([1, 1000, 1000, 60000, 3600000, 86400000] : List Int).length 6, pV b182 0, iV vt78, iV vt596, iV vt597, iV vt637, iV vt638, .slice (some ⟨b9, 0, none⟩) ([(⟨#[116, 105, 99, 107]⟩ : ByteArray), (⟨#[98, 101, 97, 116]⟩ : ByteArray), (⟨#[115, 101, 99, 111, 110, 100]⟩ : ByteArray), (⟨#[109, 105, 110, 117, 116, 101]⟩ : ByteArray), (⟨#[104, 111, 117, 114]⟩ : ByteArray), (⟨#[100, 97, 121]⟩ : ByteArray)] : List ByteArray).length 6, .slice (some ⟨b17, 0, none⟩) ([1, 1000, 1000, 60000, 3600000, 86400000] : List Int).length 6, iV n1, iV (Int.tmod n1 1073741824), iV vfrom2, iV vt27, iV a3, iV vt33, iV b4, iV vt39, .tuple #[(ag_Frame vt77 A157 c158 A162 c163), iV vt78], .slice (some ⟨b103, 0, none⟩) ([0] : List Int).length 1, .agg #[iV 1, iV 1, .slice none 0 0, .slice (some ⟨b103, 0, none⟩) ([0] : List Int).length 1], iV (Int.tmod n1 1073741824), .slice A122 vt60.length c123, .string (bstr vt60), .slice (some ⟨b9, 0, none⟩) ([(⟨#[116, 105, 99, 107]⟩ : ByteArray), (⟨#[98, 101, 97, 116]⟩ : ByteArray), (⟨#[115, 101, 99, 111, 110, 100]⟩ : ByteArray), (⟨#[109, 105, 110, 117, 116, 101]⟩ : ByteArray), (⟨#[104, 111, 117, 114]⟩ : ByteArray), (⟨#[100, 97, 121]⟩ : ByteArray)] : List ByteArray).length 6, iV vt27, pV b9 (0 + (vt27 : Int).toNat * 1), .string (rd ([(⟨#[116, 105, 99, 107]⟩ : ByteArray), (⟨#[98, 101, 97, 116]⟩ : ByteArray), (⟨#[115, 101, 99, 111, 110, 100]⟩ : ByteArray), (⟨#[109, 105, 110, 117, 116, 101]⟩ : ByteArray), (⟨#[104, 111, 117, 114]⟩ : ByteArray), (⟨#[100, 97, 121]⟩ : ByteArray)] : List ByteArray) vt27), .agg #[.string ⟨#[84]⟩, .string (bstr vt60), .string (rd ([(⟨#[116, 105, 99, 107]⟩ : ByteArray), (⟨#[98, 101, 97, 116]⟩ : ByteArray), (⟨#[115, 101, 99, 111, 110, 100]⟩ : ByteArray), (⟨#[109, 105, 110, 117, 116, 101]⟩ : ByteArray), (⟨#[104, 111, 117, 114]⟩ : ByteArray), (⟨#[100, 97, 121]⟩ : ByteArray)] : List ByteArray) vt27), .string ⟨#[]⟩], .tuple #[(ag_Frame vt77 A157 c158 A162 c163), iV vt78], (ag_Frame vt77 A157 c158 A162 c163), iV vt78, .tuple #[iV vt596, iV vt597], (ag_Frame vt77 A157 c158 A162 c163), .slice (some ⟨b9, 0, none⟩) ([(⟨#[116, 105, 99, 107]⟩ : ByteArray), (⟨#[98, 101, 97, 116]⟩ : ByteArray), (⟨#[115, 101, 99, 111, 110, 100]⟩ : ByteArray), (⟨#[109, 105, 110, 117, 116, 101]⟩ : ByteArray), (⟨#[104, 111, 117, 114]⟩ : ByteArray), (⟨#[100, 97, 121]⟩ : ByteArray)] : List ByteArray).length 6, iV vt33, pV b9 (0 + (vt33 : Int).toNat * 1), .string (rd ([(⟨#[116, 105, 99, 107]⟩ : ByteArray), (⟨#[98, 101, 97, 116]⟩ : ByteArray), (⟨#[115, 101, 99, 111, 110, 100]⟩ : ByteArray), (⟨#[109, 105, 110, 117, 116, 101]⟩ : ByteArray), (⟨#[104, 111, 117, 114]⟩ : ByteArray), (⟨#[100, 97, 121]⟩ : ByteArray)] : List ByteArray) vt33), .tuple #[iV vt596, iV vt597], iV vt596, iV vt597, .tuple #[iV vt637, iV vt638], (ag_Frame vt77 A157 c158 A162 c163), .slice (some ⟨b9, 0, none⟩) ([(⟨#[116, 105, 99, 107]⟩ : ByteArray), (⟨#[98, 101, 97, 116]⟩ : ByteArray), (⟨#[115, 101, 99, 111, 110, 100]⟩ : ByteArray), (⟨#[109, 105, 110, 117, 116, 101]⟩ : ByteArray), (⟨#[104, 111, 117, 114]⟩ : ByteArray), (⟨#[100, 97, 121]⟩ : ByteArray)] : List ByteArray).length 6, iV vt39, pV b9 (0 + (vt39 : Int).toNat * 1), .string (rd ([(⟨#[116, 105, 99, 107]⟩ : ByteArray), (⟨#[98, 101, 97, 116]⟩ : ByteArray), (⟨#[115, 101, 99, 111, 110, 100]⟩ : ByteArray), (⟨#[109, 105, 110, 117, 116, 101]⟩ : ByteArray), (⟨#[104, 111, 117, 114]⟩ : ByteArray), (⟨#[100, 97, 121]⟩ : ByteArray)] : List ByteArray) vt39), .tuple #[iV vt637, iV vt638], iV vt637, iV vt638, .bool vt661, fV, fV, iV vt78, fV, fV, fV, iV vt597, tV, tV, iV vt597, fV, fV, fV, fV, iV vt638, fV, fV, uV, uV, fV, fV, iV vt597, .bool (vt597 == 0), iV (Int.tmod n1 1073741824), .slice (some ⟨b17, 0, none⟩) ([1, 1000, 1000, 60000, 3600000, 86400000] : List Int).length 6, iV vt27, uV, uV, uV, uV, uV, uV, uV, uV, uV, uV, uV, uV, uV, uV, uV, uV, uV, uV, uV, uV, uV, uV, uV, uV, uV, uV, uV, uV, uV, uV, uV, uV, uV, uV, uV, uV, uV, uV, uV, uV, uV, uV, uV, uV, uV, uV, uV, uV, uV, uV, uV, uV, uV, uV, uV, uV, uV, uV, uV, uV, uV, uV, uV], []⟩) rfl kr kr kr hnp (Sg.g0 (Sx.of [] (FM.le.refl _) HS718)) ?_
            refine takeGQ 5 [] rfl kr kr kr kr kr kr hnp (Sg.g0 (Sx.of [] (FM.le.refl _) HS718)) (fun w_ hw_ => by obtain ⟨g_, hl_, hS_⟩ := hw_.st; exact run_index (sz := 1) rfl Tryz.underlying47 kr (kv (.slice (some ⟨b17, 0, none⟩) ([1, 1000, 1000, 60000, 3600000, 86400000] : List Int).length 6)) (kv (.int .i64 vt27)) c49 c719 w_) ?_
            refine takeGQ 6 [] rfl kr kr kr kr kr kr hnp (Sg.g0 (Sx.of [] (FM.le.refl _) HS718)) (fun w_ hw_ => by obtain ⟨g_, hl_, hS_⟩ := hw_.st; exact run_load rfl Tryz.underlying2 rfl (kv (.pointer (some ⟨b17, 0 + (vt27 : Int).toNat * 1, none⟩))) ((hc722 hS_.u5) 0 (by decide))) ?_
            have hq_ := guard_some h; clear h; obtain ⟨c723, h⟩ := hq_
            have c723 : vt33 < (([1, 1000, 1000, 60000, 3600000, 86400000] : List Int).length : Int) := c723
            obtain ⟨cs724, hr725, hc726⟩ := (HO21.mono (L30.trans (L36.trans (L42.trans (L201.trans (L607.trans (L648.trans L664))))))).at' (i := vt33) c579 c723
            obtain rfl := hr725
            refine takeGL [7, 8, 9] (n := 25) (fuel := 22) #[true, true, true, true, true, true, true, true, true, true, false, false, false, false, false, false, false, false, false, false, false, false, false, false, false, false, false, false, false, false, false, false] rfl kr kr kr hnp (Sg.g0 (Sx.of [] (FM.le.refl _) HS718)) ?_
            refine takeGQ 10 [] rfl kr kr kr kr kr kr hnp (Sg.g0 (Sx.of [] (FM.le.refl _) HS718)) (fun w_ hw_ => by obtain ⟨g_, hl_, hS_⟩ := hw_.st; exact run_index (sz := 1) rfl Tryz.underlying47 kr (kv (.slice (some ⟨b17, 0, none⟩) ([1, 1000, 1000, 60000, 3600000, 86400000] : List Int).length 6)) (kv (.int .i64 vt33)) c579 c723 w_) ?_
            refine takeGQ 11 [] rfl kr kr kr kr kr kr hnp (Sg.g0 (Sx.of [] (FM.le.refl _) HS718)) (fun w_ hw_ => by obtain ⟨g_, hl_, hS_⟩ := hw_.st; exact run_load rfl Tryz.underlying2 rfl (kv (.pointer (some ⟨b17, 0 + (vt33 : Int).toNat * 1, none⟩))) ((hc726 hS_.u5) 0 (by decide))) ?_
            have hq_ := guard_some h; clear h; obtain ⟨c727, h⟩ := hq_
            have c727 : ¬ ((rd ([1, 1000, 1000, 60000, 3600000, 86400000] : List Int) vt33) = 0) := c727
            refine takeGQ 12 [] rfl kr kr kr kr kr kr hnp (Sg.g0 (Sx.of [] (FM.le.refl _) HS718)) (fun w_ hw_ => by obtain ⟨g_, hl_, hS_⟩ := hw_.st; exact run_rem rfl (kv (.int .i64 (w64 ((Int.tmod n1 1073741824) * (rd ([1, 1000, 1000, 60000, 3600000, 86400000] : List Int) vt27))))) (kv (.int .i64 (rd ([1, 1000, 1000, 60000, 3600000, 86400000] : List Int) vt33))) c727 w_) ?_
            refine takeGL [13, 14, 15] (n := 19) (fuel := 16) #[true, true, true, true, true, true, true, true, true, true, true, true, true, true, true, true, false, false, false, false, false, false, false, false, false, false, false, false, false, false, false, false] rfl kr kr kr hnp (Sg.g0 (Sx.of [] (FM.le.refl _) HS718)) ?_
            have hq_ := ite_some h; clear h; rcases hq_ with ⟨c728, h⟩ | ⟨c728, h⟩
            · have c728 : ((vt597 == 0) != ((Int.tmod (w64 ((Int.tmod n1 1073741824) * (rd ([1, 1000, 1000, 60000, 3600000, 86400000] : List Int) vt27))) (rd ([1, 1000, 1000, 60000, 3600000, 86400000] : List Int) vt33)) == 0)) = true := c728
              refine gateRwI 95 (x := ((vt597 == 0) != ((Int.tmod (w64 ((Int.tmod n1 1073741824) * (rd ([1, 1000, 1000, 60000, 3600000, 86400000] : List Int) vt27))) (rd ([1, 1000, 1000, 60000, 3600000, 86400000] : List Int) vt33)) == 0))) (v := true) kr c728 ?_
              refine gateRwI 96 (x := ((vt597 == 0) != ((Int.tmod (w64 ((Int.tmod n1 1073741824) * (rd ([1, 1000, 1000, 60000, 3600000, 86400000] : List Int) vt27))) (rd ([1, 1000, 1000, 60000, 3600000, 86400000] : List Int) vt33)) == 0))) (v := true) kr c728 ?_
              refine takeGL [16, 17, 18, 19, 20, 21, 22, 23, 24, 25, 26, 27, 28, 29, 30, 31] (n := 16) (fuel := 0) #[true, true, true, true, true, true, true, true, true, true, true, true, true, true, true, true, true, true, true, true, true, true, true, true, true, true, true, true, true, true, true, true] rfl kr kr kr hnp (Sg.g0 (Sx.of [] (FM.le.refl _) HS718)) ?_
              refine doneG kr ?_ _
              refine hK716 _ _ ?_
              refine condT kr ?_
              refine wp_seq_k fun K729 hK730 => rl ?_
              refine seqL1 kr ?_
              refine nl (hK730 _ _ ?_)
              refine wp_ret ?_
              refine hret _ _ ?_
              refine ends_still (v := Value.bool false) kr kr ?_
              have HS861 := HS718.drop
              have HS862 := HS861.drop
              have HS863 := HS862.drop
              have HS864 := HS863.drop
              have HS865 := HS864.drop
              have HS866 := HS865.drop
              have HS867 := HS866.drop
              injection h with h
              subst h
              exact ⟨f663, rfl, (L30.trans (L36.trans (L42.trans (L201.trans (L607.trans (L648.trans L664)))))), HS867⟩
            · have c728 : ¬ (((vt597 == 0) != ((Int.tmod (w64 ((Int.tmod n1 1073741824) * (rd ([1, 1000, 1000, 60000, 3600000, 86400000] : List Int) vt27))) (rd ([1, 1000, 1000, 60000, 3600000, 86400000] : List Int) vt33)) == 0)) = true) := c728
              refine gateRwI 95 (x := ((vt597 == 0) != ((Int.tmod (w64 ((Int.tmod n1 1073741824) * (rd ([1, 1000, 1000, 60000, 3600000, 86400000] : List Int) vt27))) (rd ([1, 1000, 1000, 60000, 3600000, 86400000] : List Int) vt33)) == 0))) (v := false) kr (Bool.eq_false_iff.mpr c728) ?_
              refine gateRwI 96 (x := ((vt597 == 0) != ((Int.tmod (w64 ((Int.tmod n1 1073741824) * (rd ([1, 1000, 1000, 60000, 3600000, 86400000] : List Int) vt27))) (rd ([1, 1000, 1000, 60000, 3600000, 86400000] : List Int) vt33)) == 0))) (v := false) kr (Bool.eq_false_iff.mpr c728) ?_
              refine takeGL [16, 17, 18, 19, 20] (n := 16) (fuel := 11) #[true, true, true, true, true, true, true, true, true, true, true, true, true, true, true, true, true, true, true, true, true, false, false, false, false, false, false, false, false, false, false, false] rfl kr kr kr hnp (Sg.g0 (Sx.of [] (FM.le.refl _) HS718)) ?_
              refine takeGQ 21 [] rfl kr kr kr kr kr kr hnp (Sg.g0 (Sx.of [] (FM.le.refl _) HS718)) (fun w_ hw_ => by obtain ⟨g_, hl_, hS_⟩ := hw_.st; exact run_index (sz := 1) rfl Tryz.underlying47 kr (kv (.slice (some ⟨b17, 0, none⟩) ([1, 1000, 1000, 60000, 3600000, 86400000] : List Int).length 6)) (kv (.int .i64 vt27)) c49 c719 w_) ?_
              refine takeGQ 22 [] rfl kr kr kr kr kr kr hnp (Sg.g0 (Sx.of [] (FM.le.refl _) HS718)) (fun w_ hw_ => by obtain ⟨g_, hl_, hS_⟩ := hw_.st; exact run_load rfl Tryz.underlying2 rfl (kv (.pointer (some ⟨b17, 0 + (vt27 : Int).toNat * 1, none⟩))) ((hc722 hS_.u5) 0 (by decide))) ?_
              have hq_ := guard_some h; clear h; obtain ⟨c731, h⟩ := hq_
              have c731 : vt39 < (([1, 1000, 1000, 60000, 3600000, 86400000] : List Int).length : Int) := c731
              obtain ⟨cs732, hr733, hc734⟩ := (HO21.mono (L30.trans (L36.trans (L42.trans (L201.trans (L607.trans (L648.trans L664))))))).at' (i := vt39) c620 c731
              obtain rfl := hr733
              refine takeGL [23, 24, 25] (n := 9) (fuel := 6) #[true, true, true, true, true, true, true, true, true, true, true, true, true, true, true, true, true, true, true, true, true, true, true, true, true, true, false, false, false, false, false, false] rfl kr kr kr hnp (Sg.g0 (Sx.of [] (FM.le.refl _) HS718)) ?_
              refine takeGQ 26 [] rfl kr kr kr kr kr kr hnp (Sg.g0 (Sx.of [] (FM.le.refl _) HS718)) (fun w_ hw_ => by obtain ⟨g_, hl_, hS_⟩ := hw_.st; exact run_index (sz := 1) rfl Tryz.underlying47 kr (kv (.slice (some ⟨b17, 0, none⟩) ([1, 1000, 1000, 60000, 3600000, 86400000] : List Int).length 6)) (kv (.int .i64 vt39)) c620 c731 w_) ?_
              refine takeGQ 27 [] rfl kr kr kr kr kr kr hnp (Sg.g0 (Sx.of [] (FM.le.refl _) HS718)) (fun w_ hw_ => by obtain ⟨g_, hl_, hS_⟩ := hw_.st; exact run_load rfl Tryz.underlying2 rfl (kv (.pointer (some ⟨b17, 0 + (vt39 : Int).toNat * 1, none⟩))) ((hc734 hS_.u5) 0 (by decide))) ?_
              have hq_ := guard_some h; clear h; obtain ⟨c735, h⟩ := hq_
              have c735 : ¬ ((rd ([1, 1000, 1000, 60000, 3600000, 86400000] : List Int) vt39) = 0) := c735
              refine takeGQ 28 [] rfl kr kr kr kr kr kr hnp (Sg.g0 (Sx.of [] (FM.le.refl _) HS718)) (fun w_ hw_ => by obtain ⟨g_, hl_, hS_⟩ := hw_.st; exact run_rem rfl (kv (.int .i64 (w64 ((Int.tmod n1 1073741824) * (rd ([1, 1000, 1000, 60000, 3600000, 86400000] : List Int) vt27))))) (kv (.int .i64 (rd ([1, 1000, 1000, 60000, 3600000, 86400000] : List Int) vt39))) c735 w_) ?_
              refine takeGL [29, 30, 31] (n := 3) (fuel := 0) #[true, true, true, true, true, true, true, true, true, true, true, true, true, true, true, true, true, true, true, true, true, true, true, true, true, true, true, true, true, true, true, true] rfl kr kr kr hnp (Sg.g0 (Sx.of [] (FM.le.refl _) HS718)) ?_
              refine doneG kr ?_ _
              refine hK716 _ _ ?_
              have hq_ := ite_some h; clear h; rcases hq_ with ⟨c737, h⟩ | ⟨c737, h⟩
              · have c737 : ((vt638 == 0) != ((Int.tmod (w64 ((Int.tmod n1 1073741824) * (rd ([1, 1000, 1000, 60000, 3600000, 86400000] : List Int) vt27))) (rd ([1, 1000, 1000, 60000, 3600000, 86400000] : List Int) vt39)) == 0)) = true := c737
                refine wpRwI 111 (x := ((vt638 == 0) != ((Int.tmod (w64 ((Int.tmod n1 1073741824) * (rd ([1, 1000, 1000, 60000, 3600000, 86400000] : List Int) vt27))) (rd ([1, 1000, 1000, 60000, 3600000, 86400000] : List Int) vt39)) == 0))) (v := true) kr c737 ?_
                refine wpRwI 112 (x := ((vt638 == 0) != ((Int.tmod (w64 ((Int.tmod n1 1073741824) * (rd ([1, 1000, 1000, 60000, 3600000, 86400000] : List Int) vt27))) (rd ([1, 1000, 1000, 60000, 3600000, 86400000] : List Int) vt39)) == 0))) (v := true) kr c737 ?_
                refine condT kr ?_
                refine wp_seq_k fun K738 hK739 => rl ?_
                refine seqL1 kr ?_
                refine nl (hK739 _ _ ?_)
                refine wp_ret ?_
                refine hret _ _ ?_
                refine ends_still (v := Value.bool false) kr kr ?_
                have HS868 := HS718.drop
                have HS869 := HS868.drop
                have HS870 := HS869.drop
                have HS871 := HS870.drop
                have HS872 := HS871.drop
                have HS873 := HS872.drop
                have HS874 := HS873.drop
                injection h with h
                subst h
                exact ⟨f663, rfl, (L30.trans (L36.trans (L42.trans (L201.trans (L607.trans (L648.trans L664)))))), HS874⟩
              · have c737 : ¬ (((vt638 == 0) != ((Int.tmod (w64 ((Int.tmod n1 1073741824) * (rd ([1, 1000, 1000, 60000, 3600000, 86400000] : List Int) vt27))) (rd ([1, 1000, 1000, 60000, 3600000, 86400000] : List Int) vt39)) == 0)) = true) := c737
                refine wpRwI 111 (x := ((vt638 == 0) != ((Int.tmod (w64 ((Int.tmod n1 1073741824) * (rd ([1, 1000, 1000, 60000, 3600000, 86400000] : List Int) vt27))) (rd ([1, 1000, 1000, 60000, 3600000, 86400000] : List Int) vt39)) == 0))) (v := false) kr (Bool.eq_false_iff.mpr c737) ?_
                refine wpRwI 112 (x := ((vt638 == 0) != ((Int.tmod (w64 ((Int.tmod n1 1073741824) * (rd ([1, 1000, 1000, 60000, 3600000, 86400000] : List Int) vt27))) (rd ([1, 1000, 1000, 60000, 3600000, 86400000] : List Int) vt39)) == 0))) (v := false) kr (Bool.eq_false_iff.mpr c737) ?_
                refine condF kr ?_
                refine wp_skip ?_
                refine hK714 _ _ ?_
                refine wp_seq_k (fun K740 hK741 => ?_)
                refine heldG (S := Sg t f663 ([(b182, .cells #[.int .i64 vt77.W, .int .i64 vt77.H, .slice A157 vt77.Cards.length c158, .slice A162 vt77.Counts.length c163] 29 (0, 0))] :: s105 :: s159 :: s164 :: s124 :: s19 :: s11 :: H) []) (n := 37) kr rfl HS718 ?_
                intro W742 HS743
                refine takeGL [0, 1, 2] (n := 37) (fuel := 34) #[true, true, true, false, false, false, false, false, false, false, false, false, false, false, false, false, false, false, false, false, false, false, false, false, false, false, false, false, false, false, false, false, false, false, false, false, false] rfl kr kr kr hnp (Sg.g0 (Sx.of [] (FM.le.refl _) HS743)) ?_
                refine gateRwI 114 (x := (vt597 != 0)) (v := true) kr (bne_iff_ne.mpr c673) ?_
                refine gateRwI 115 (x := (vt597 != 0)) (v := true) kr (bne_iff_ne.mpr c673) ?_
                refine takeGL [3, 4, 5, 6, 7, 8, 9, 10, 11, 12, 13, 14, 15, 16, 17, 18, 19, 20, 21, 22, 23, 24, 25, 26, 27, 28, 29, 30, 31, 32, 33, 34, 35, 36] (n := 34) (fuel := 0) #[true, true, true, true, true, true, true, true, true, true, true, true, true, true, true, true, true, true, true, true, true, true, true, true, true, true, true, true, true, true, true, true, true, true, true, true, true] rfl kr kr kr hnp (Sg.g0 (Sx.of [] (FM.le.refl _) HS743)) ?_
                refine doneG kr ?_ _
                refine hK741 _ _ ?_
                refine wp_ret ?_
                refine hret _ _ ?_
                refine ends_still (v := Value.bool true) kr kr ?_
                have HS875 := HS743.drop
                have HS876 := HS875.drop
                have HS877 := HS876.drop
                have HS878 := HS877.drop
                have HS879 := HS878.drop
                have HS880 := HS879.drop
                have HS881 := HS880.drop
                injection h with h
                subst h
                exact ⟨f663, rfl, (L30.trans (L36.trans (L42.trans (L201.trans (L607.trans (L648.trans L664)))))), HS881⟩
      · have c673 : ¬ (vt597 ≠ 0) := c673
        refine seqRwI 67 (x := (vt597 != 0)) (v := false) kr (bne_eq_false_iff_eq.mpr (Decidable.of_not_not c673)) ?_
        refine seqRwI 68 (x := (vt597 != 0)) (v := false) kr (bne_eq_false_iff_eq.mpr (Decidable.of_not_not c673)) ?_
        refine seqL8 kr ?_
        have hq_ := ite_some h; clear h; rcases hq_ with ⟨c744, h⟩ | ⟨c744, h⟩
        · have c744 : vt638 ≠ 0 := c744
          refine seqRwI 75 (x := (vt638 != 0)) (v := true) kr (bne_iff_ne.mpr c744) ?_
          refine seqRwI 76 (x := (vt638 != 0)) (v := true) kr (bne_iff_ne.mpr c744) ?_
          refine seqL4 kr ?_
          refine nl (hK660 _ _ ?_)
          have hq_ := ite_some h; clear h; rcases hq_ with ⟨c746, h⟩ | ⟨c746, h⟩
          · have c746 : vt638 ≠ 3 := c746
            refine wpRwI 78 (x := (vt638 != 3)) (v := true) kr (bne_iff_ne.mpr c746) ?_
            refine wpRwI 79 (x := (vt638 != 3)) (v := true) kr (bne_iff_ne.mpr c746) ?_
            refine wpRwI 80 (x := (vt638 != 3)) (v := true) kr (bne_iff_ne.mpr c746) ?_
            refine condT kr ?_
            refine wp_seq_k fun K747 hK748 => rl ?_
            refine seqL1 kr ?_
            refine nl (hK748 _ _ ?_)
            refine wp_ret ?_
            refine hret _ _ ?_
            refine ends_still (v := Value.bool false) kr kr ?_
            have HS882 := HS666.drop
            have HS883 := HS882.drop
            have HS884 := HS883.drop
            have HS885 := HS884.drop
            have HS886 := HS885.drop
            have HS887 := HS886.drop
            have HS888 := HS887.drop
            injection h with h
            subst h
            exact ⟨f663, rfl, (L30.trans (L36.trans (L42.trans (L201.trans (L607.trans (L648.trans L664)))))), HS888⟩
          · have c746 : ¬ (vt638 ≠ 3) := c746
            refine wpRwI 78 (x := (vt638 != 3)) (v := false) kr (bne_eq_false_iff_eq.mpr (Decidable.of_not_not c746)) ?_
            refine wpRwI 79 (x := (vt638 != 3)) (v := false) kr (bne_eq_false_iff_eq.mpr (Decidable.of_not_not c746)) ?_
            refine wpRwI 80 (x := (vt638 != 3)) (v := false) kr (bne_eq_false_iff_eq.mpr (Decidable.of_not_not c746)) ?_
            refine condF kr ?_
            refine wp_skip ?_
            refine hK658 _ _ ?_
            refine wp_seq_k (fun K749 hK750 => ?_)
            refine wp_seq_k (fun K751 hK752 => ?_)
            refine heldG (S := Sg t f663 ([(b182, .cells #[.int .i64 vt77.W, .int .i64 vt77.H, .slice A157 vt77.Cards.length c158, .slice A162 vt77.Counts.length c163] 29 (0, 0))] :: s105 :: s159 :: s164 :: s124 :: s19 :: s11 :: H) []) (n := 32) kr rfl HS666 ?_
            intro W753 HS754
            have hq_ := guard_some h; clear h; obtain ⟨c755, h⟩ := hq_
            have c755 : vt27 < (([1, 1000, 1000, 60000, 3600000, 86400000] : List Int).length : Int) := c755
            obtain ⟨cs756, hr757, hc758⟩ := (HO21.mono (L30.trans (L36.trans (L42.trans (L201.trans (L607.trans (L648.trans L664))))))).at' (i := vt27) c49 c755
            obtain rfl := hr757
            refine takeG [0, 1, 2, 3, 4] (n := 32) (fuel := 27) (l' := #[true, true, true, true, true, false, false, false, false, false, false, false, false, false, false, false, false, false, false, false, false, false, false, false, false, false, false, false, false, false, false, false]) (a' := ⟨#[iV (Int.tmod n1 1073741824), iV vt27, iV vt33, iV vt39, uV, uV, uV, uV, fV, .slice (some ⟨b9, 0, none⟩) ([(⟨#[116, 105, 99, 107]⟩ : ByteArray), (⟨#[98, 101, 97, 116]⟩ : ByteArray), (⟨#[115, 101, 99, 111, 110, 100]⟩ : ByteArray), (⟨#[109, 105, 110, 117, 116, 101]⟩ : ByteArray), (⟨#[104, 111, 117, 114]⟩ : ByteArray), (⟨#[100, 97, 121]⟩ : ByteArray)] : List ByteArray).length 6, .slice (some ⟨b17, 0, none⟩) ([1, 1000, 1000, 60000, 3600000, 86400000] : List Int).length 6, pV b182 0, iV vt78, iV vt596, iV vt597, iV vt637, iV vt638, .slice (some ⟨b9, 0, none⟩) ([(⟨#[116, 105, 99, 107]⟩ : ByteArray), (⟨#[98, 101, 97, 116]⟩ : ByteArray), (⟨#[115, 101, 99, 111, 110, 100]⟩ : ByteArray), (⟨#[109, 105, 110, 117, 116, 101]⟩ : ByteArray), (⟨#[104, 111, 117, 114]⟩ : ByteArray), (⟨#[100, 97, 121]⟩ : ByteArray)] : List ByteArray).length 6, .slice (some ⟨b17, 0, none⟩) ([1, 1000, 1000, 60000, 3600000, 86400000] : List Int).length 6, iV n1, iV (Int.tmod n1 1073741824), iV vfrom2, iV vt27, iV a3, iV vt33, iV b4, iV vt39, .tuple #[(ag_Frame vt77 A157 c158 A162 c163), iV vt78], .slice (some ⟨b103, 0, none⟩) ([0] : List Int).length 1, .agg #[iV 1, iV 1, .slice none 0 0, .slice (some ⟨b103, 0, none⟩) ([0] : List Int).length 1], iV (Int.tmod n1 1073741824), .slice A122 vt60.length c123, .string (bstr vt60), .slice (some ⟨b9, 0, none⟩) ([(⟨#[116, 105, 99, 107]⟩ : ByteArray), (⟨#[98, 101, 97, 116]⟩ : ByteArray), (⟨#[115, 101, 99, 111, 110, 100]⟩ : ByteArray), (⟨#[109, 105, 110, 117, 116, 101]⟩ : ByteArray), (⟨#[104, 111, 117, 114]⟩ : ByteArray), (⟨#[100, 97, 121]⟩ : ByteArray)] : List ByteArray).length 6, iV vt27, pV b9 (0 + (vt27 : Int).toNat * 1), .string (rd ([(⟨#[116, 105, 99, 107]⟩ : ByteArray), (⟨#[98, 101, 97, 116]⟩ : ByteArray), (⟨#[115, 101, 99, 111, 110, 100]⟩ : ByteArray), (⟨#[109, 105, 110, 117, 116, 101]⟩ : ByteArray), (⟨#[104, 111, 117, 114]⟩ : ByteArray), (⟨#[100, 97, 121]⟩ : ByteArray)] : List ByteArray) vt27), .agg #[.string ⟨#[84]⟩, .string (bstr vt60), .string (rd ([(⟨#[116, 105, 99, 107]⟩ : ByteArray), (⟨#[98, 101, 97, 116]⟩ : ByteArray), (⟨#[115, 101, 99, 111, 110, 100]⟩ : ByteArray), (⟨#[109, 105, 110, 117, 116, 101]⟩ : ByteArray), (⟨#[104, 111, 117, 114]⟩ : ByteArray), (⟨#[100, 97, 121]⟩ : ByteArray)] : List ByteArray) vt27), .string ⟨#[]⟩], .tuple #[(ag_Frame vt77 A157 c158 A162 c163), iV vt78], (ag_Frame vt77 A157 c158 A162 c163), iV vt78, .tuple #[iV vt596, iV vt597], (ag_Frame vt77 A157 c158 A162 c163), .slice (some ⟨b9, 0, none⟩) ([(⟨#[116, 105, 99, 107]⟩ : ByteArray), (⟨#[98, 101, 97, 116]⟩ : ByteArray), (⟨#[115, 101, 99, 111, 110, 100]⟩ : ByteArray), (⟨#[109, 105, 110, 117, 116, 101]⟩ : ByteArray), (⟨#[104, 111, 117, 114]⟩ : ByteArray), (⟨#[100, 97, 121]⟩ : ByteArray)] : List ByteArray).length 6, iV vt33, pV b9 (0 + (vt33 : Int).toNat * 1), .string (rd ([(⟨#[116, 105, 99, 107]⟩ : ByteArray), (⟨#[98, 101, 97, 116]⟩ : ByteArray), (⟨#[115, 101, 99, 111, 110, 100]⟩ : ByteArray), (⟨#[109, 105, 110, 117, 116, 101]⟩ : ByteArray), (⟨#[104, 111, 117, 114]⟩ : ByteArray), (⟨#[100, 97, 121]⟩ : ByteArray)] : List ByteArray) vt33), .tuple #[iV vt596, iV vt597], iV vt596, iV vt597, .tuple #[iV vt637, iV vt638], (ag_Frame vt77 A157 c158 A162 c163), .slice (some ⟨b9, 0, none⟩) ([(⟨#[116, 105, 99, 107]⟩ : ByteArray), (⟨#[98, 101, 97, 116]⟩ : ByteArray), (⟨#[115, 101, 99, 111, 110, 100]⟩ : ByteArray), (⟨#[109, 105, 110, 117, 116, 101]⟩ : ByteArray), (⟨#[104, 111, 117, 114]⟩ : ByteArray), (⟨#[100, 97, 121]⟩ : ByteArray)] : List ByteArray).length 6, iV vt39, pV b9 (0 + (vt39 : Int).toNat * 1), .string (rd ([(⟨#[116, 105, 99, 107]⟩ : ByteArray), (⟨#[98, 101, 97, 116]⟩ : ByteArray), (⟨#[115, 101, 99, 111, 110, 100]⟩ : ByteArray), (⟨#[109, 105, 110, 117, 116, 101]⟩ : ByteArray), (⟨#[104, 111, 117, 114]⟩ : ByteArray), (⟨#[100, 97, 121]⟩ : ByteArray)] : List ByteArray) vt39), .tuple #[iV vt637, iV vt638], iV vt637, iV vt638, .bool vt661, fV, fV, iV vt78, fV, fV, fV, iV vt597, fV, fV, uV, uV, fV, fV, fV, iV vt638, tV, tV, iV vt638, fV, fV, fV, iV vt597, .bool (vt597 == 0), iV (Int.tmod n1 1073741824), .slice (some ⟨b17, 0, none⟩) ([1, 1000, 1000, 60000, 3600000, 86400000] : List Int).length 6, iV vt27, uV, uV, uV, uV, uV, uV, uV, uV, uV, uV, uV, uV, uV, uV, uV, uV, uV, uV, uV, uV, uV, uV, uV, uV, uV, uV, uV, uV, uV, uV, uV, uV, uV, uV, uV, uV, uV, uV, uV, uV, uV, uV, uV, uV, uV, uV, uV, uV, uV, uV, uV, uV, uV, uV, uV, uV, uV, uV, uV, uV, uV, uV, uV], []⟩) rfl kr kr kr hnp (Sg.g0 (Sx.of [] (FM.le.refl _) HS754)) ?_
            refine takeGQ 5 [] rfl kr kr kr kr kr kr hnp (Sg.g0 (Sx.of [] (FM.le.refl _) HS754)) (fun w_ hw_ => by obtain ⟨g_, hl_, hS_⟩ := hw_.st; exact run_index (sz := 1) rfl Tryz.underlying47 kr (kv (.slice (some ⟨b17, 0, none⟩) ([1, 1000, 1000, 60000, 3600000, 86400000] : List Int).length 6)) (kv (.int .i64 vt27)) c49 c755 w_) ?_
            refine takeGQ 6 [] rfl kr kr kr kr kr kr hnp (Sg.g0 (Sx.of [] (FM.le.refl _) HS754)) (fun w_ hw_ => by obtain ⟨g_, hl_, hS_⟩ := hw_.st; exact run_load rfl Tryz.underlying2 rfl (kv (.pointer (some ⟨b17, 0 + (vt27 : Int).toNat * 1, none⟩))) ((hc758 hS_.u5) 0 (by decide))) ?_
            have hq_ := guard_some h; clear h; obtain ⟨c759, h⟩ := hq_
            have c759 : vt33 < (([1, 1000, 1000, 60000, 3600000, 86400000] : List Int).length : Int) := c759
            obtain ⟨cs760, hr761, hc762⟩ := (HO21.mono (L30.trans (L36.trans (L42.trans (L201.trans (L607.trans (L648.trans L664))))))).at' (i := vt33) c579 c759
            obtain rfl := hr761
            refine takeGL [7, 8, 9] (n := 25) (fuel := 22) #[true, true, true, true, true, true, true, true, true, true, false, false, false, false, false, false, false, false, false, false, false, false, false, false, false, false, false, false, false, false, false, false] rfl kr kr kr hnp (Sg.g0 (Sx.of [] (FM.le.refl _) HS754)) ?_
            refine takeGQ 10 [] rfl kr kr kr kr kr kr hnp (Sg.g0 (Sx.of [] (FM.le.refl _) HS754)) (fun w_ hw_ => by obtain ⟨g_, hl_, hS_⟩ := hw_.st; exact run_index (sz := 1) rfl Tryz.underlying47 kr (kv (.slice (some ⟨b17, 0, none⟩) ([1, 1000, 1000, 60000, 3600000, 86400000] : List Int).length 6)) (kv (.int .i64 vt33)) c579 c759 w_) ?_
            refine takeGQ 11 [] rfl kr kr kr kr kr kr hnp (Sg.g0 (Sx.of [] (FM.le.refl _) HS754)) (fun w_ hw_ => by obtain ⟨g_, hl_, hS_⟩ := hw_.st; exact run_load rfl Tryz.underlying2 rfl (kv (.pointer (some ⟨b17, 0 + (vt33 : Int).toNat * 1, none⟩))) ((hc762 hS_.u5) 0 (by decide))) ?_
            have hq_ := guard_some h; clear h; obtain ⟨c763, h⟩ := hq_
            have c763 : ¬ ((rd ([1, 1000, 1000, 60000, 3600000, 86400000] : List Int) vt33) = 0) := c763
            refine takeGQ 12 [] rfl kr kr kr kr kr kr hnp (Sg.g0 (Sx.of [] (FM.le.refl _) HS754)) (fun w_ hw_ => by obtain ⟨g_, hl_, hS_⟩ := hw_.st; exact run_rem rfl (kv (.int .i64 (w64 ((Int.tmod n1 1073741824) * (rd ([1, 1000, 1000, 60000, 3600000, 86400000] : List Int) vt27))))) (kv (.int .i64 (rd ([1, 1000, 1000, 60000, 3600000, 86400000] : List Int) vt33))) c763 w_) ?_
            refine takeGL [13, 14, 15] (n := 19) (fuel := 16) #[true, true, true, true, true, true, true, true, true, true, true, true, true, true, true, true, false, false, false, false, false, false, false, false, false, false, false, false, false, false, false, false] rfl kr kr kr hnp (Sg.g0 (Sx.of [] (FM.le.refl _) HS754)) ?_
            have hq_ := ite_some h; clear h; rcases hq_ with ⟨c764, h⟩ | ⟨c764, h⟩
            · have c764 : ((vt597 == 0) != ((Int.tmod (w64 ((Int.tmod n1 1073741824) * (rd ([1, 1000, 1000, 60000, 3600000, 86400000] : List Int) vt27))) (rd ([1, 1000, 1000, 60000, 3600000, 86400000] : List Int) vt33)) == 0)) = true := c764
              refine gateRwI 95 (x := ((vt597 == 0) != ((Int.tmod (w64 ((Int.tmod n1 1073741824) * (rd ([1, 1000, 1000, 60000, 3600000, 86400000] : List Int) vt27))) (rd ([1, 1000, 1000, 60000, 3600000, 86400000] : List Int) vt33)) == 0))) (v := true) kr c764 ?_
              refine gateRwI 96 (x := ((vt597 == 0) != ((Int.tmod (w64 ((Int.tmod n1 1073741824) * (rd ([1, 1000, 1000, 60000, 3600000, 86400000] : List Int) vt27))) (rd ([1, 1000, 1000, 60000, 3600000, 86400000] : List Int) vt33)) == 0))) (v := true) kr c764 ?_
              refine takeGL [16, 17, 18, 19, 20, 21, 22, 23, 24, 25, 26, 27, 28, 29, 30, 31] (n := 16) (fuel := 0) #[true, true, true, true, true, true, true, true, true, true, true, true, true, true, true, true, true, true, true, true, true, true, true, true, true, true, true, true, true, true, true, true] rfl kr kr kr hnp (Sg.g0 (Sx.of [] (FM.le.refl _) HS754)) ?_
              refine doneG kr ?_ _
              refine hK752 _ _ ?_
              refine condT kr ?_
              refine wp_seq_k fun K765 hK766 => rl ?_
              refine seqL1 kr ?_
              refine nl (hK766 _ _ ?_)
              refine wp_ret ?_
              refine hret _ _ ?_
              refine ends_still (v := Value.bool false) kr kr ?_
              have HS889 := HS754.drop
              have HS890 := HS889.drop
              have HS891 := HS890.drop
              have HS892 := HS891.drop
              have HS893 := HS892.drop
              have HS894 := HS893.drop
              have HS895 := HS894.drop
              injection h with h
              subst h
              exact ⟨f663, rfl, (L30.trans (L36.trans (L42.trans (L201.trans (L607.trans (L648.trans L664)))))), HS895⟩
            · have c764 : ¬ (((vt597 == 0) != ((Int.tmod (w64 ((Int.tmod n1 1073741824) * (rd ([1, 1000, 1000, 60000, 3600000, 86400000] : List Int) vt27))) (rd ([1, 1000, 1000, 60000, 3600000, 86400000] : List Int) vt33)) == 0)) = true) := c764
              refine gateRwI 95 (x := ((vt597 == 0) != ((Int.tmod (w64 ((Int.tmod n1 1073741824) * (rd ([1, 1000, 1000, 60000, 3600000, 86400000] : List Int) vt27))) (rd ([1, 1000, 1000, 60000, 3600000, 86400000] : List Int) vt33)) == 0))) (v := false) kr (Bool.eq_false_iff.mpr c764) ?_
              refine gateRwI 96 (x := ((vt597 == 0) != ((Int.tmod (w64 ((Int.tmod n1 1073741824) * (rd ([1, 1000, 1000, 60000, 3600000, 86400000] : List Int) vt27))) (rd ([1, 1000, 1000, 60000, 3600000, 86400000] : List Int) vt33)) == 0))) (v := false) kr (Bool.eq_false_iff.mpr c764) ?_
              refine takeGL [16, 17, 18, 19, 20] (n := 16) (fuel := 11) #[true, true, true, true, true, true, true, true, true, true, true, true, true, true, true, true, true, true, true, true, true, false, false, false, false, false, false, false, false, false, false, false] rfl kr kr kr hnp (Sg.g0 (Sx.of [] (FM.le.refl _) HS754)) ?_
              refine takeGQ 21 [] rfl kr kr kr kr kr kr hnp (Sg.g0 (Sx.of [] (FM.le.refl _) HS754)) (fun w_ hw_ => by obtain ⟨g_, hl_, hS_⟩ := hw_.st; exact run_index (sz := 1) rfl Tryz.underlying47 kr (kv (.slice (some ⟨b17, 0, none⟩) ([1, 1000, 1000, 60000, 3600000, 86400000] : List Int).length 6)) (kv (.int .i64 vt27)) c49 c755 w_) ?_
              refine takeGQ 22 [] rfl kr kr kr kr kr kr hnp (Sg.g0 (Sx.of [] (FM.le.refl _) HS754)) (fun w_ hw_ => by obtain ⟨g_, hl_, hS_⟩ := hw_.st; exact run_load rfl Tryz.underlying2 rfl (kv (.pointer (some ⟨b17, 0 + (vt27 : Int).toNat * 1, none⟩))) ((hc758 hS_.u5) 0 (by decide))) ?_
              have hq_ := guard_some h; clear h; obtain ⟨c767, h⟩ := hq_
              have c767 : vt39 < (([1, 1000, 1000, 60000, 3600000, 86400000] : List Int).length : Int) := c767
              obtain ⟨cs768, hr769, hc770⟩ := (HO21.mono (L30.trans (L36.trans (L42.trans (L201.trans (L607.trans (L648.trans L664))))))).at' (i := vt39) c620 c767
              obtain rfl := hr769
              refine takeGL [23, 24, 25] (n := 9) (fuel := 6) #[true, true, true, true, true, true, true, true, true, true, true, true, true, true, true, true, true, true, true, true, true, true, true, true, true, true, false, false, false, false, false, false] rfl kr kr kr hnp (Sg.g0 (Sx.of [] (FM.le.refl _) HS754)) ?_
              refine takeGQ 26 [] rfl kr kr kr kr kr kr hnp (Sg.g0 (Sx.of [] (FM.le.refl _) HS754)) (fun w_ hw_ => by obtain ⟨g_, hl_, hS_⟩ := hw_.st; exact run_index (sz := 1) rfl Tryz.underlying47 kr (kv (.slice (some ⟨b17, 0, none⟩) ([1, 1000, 1000, 60000, 3600000, 86400000] : List Int).length 6)) (kv (.int .i64 vt39)) c620 c767 w_) ?_
              refine takeGQ 27 [] rfl kr kr kr kr kr kr hnp (Sg.g0 (Sx.of [] (FM.le.refl _) HS754)) (fun w_ hw_ => by obtain ⟨g_, hl_, hS_⟩ := hw_.st; exact run_load rfl Tryz.underlying2 rfl (kv (.pointer (some ⟨b17, 0 + (vt39 : Int).toNat * 1, none⟩))) ((hc770 hS_.u5) 0 (by decide))) ?_
              have hq_ := guard_some h; clear h; obtain ⟨c771, h⟩ := hq_
              have c771 : ¬ ((rd ([1, 1000, 1000, 60000, 3600000, 86400000] : List Int) vt39) = 0) := c771
              refine takeGQ 28 [] rfl kr kr kr kr kr kr hnp (Sg.g0 (Sx.of [] (FM.le.refl _) HS754)) (fun w_ hw_ => by obtain ⟨g_, hl_, hS_⟩ := hw_.st; exact run_rem rfl (kv (.int .i64 (w64 ((Int.tmod n1 1073741824) * (rd ([1, 1000, 1000, 60000, 3600000, 86400000] : List Int) vt27))))) (kv (.int .i64 (rd ([1, 1000, 1000, 60000, 3600000, 86400000] : List Int) vt39))) c771 w_) ?_
              refine takeGL [29, 30, 31] (n := 3) (fuel := 0) #[true, true, true, true, true, true, true, true, true, true, true, true, true, true, true, true, true, true, true, true, true, true, true, true, true, true, true, true, true, true, true, true] rfl kr kr kr hnp (Sg.g0 (Sx.of [] (FM.le.refl _) HS754)) ?_
              refine doneG kr ?_ _
              refine hK752 _ _ ?_
              have hq_ := ite_some h; clear h; rcases hq_ with ⟨c773, h⟩ | ⟨c773, h⟩
              · have c773 : ((vt638 == 0) != ((Int.tmod (w64 ((Int.tmod n1 1073741824) * (rd ([1, 1000, 1000, 60000, 3600000, 86400000] : List Int) vt27))) (rd ([1, 1000, 1000, 60000, 3600000, 86400000] : List Int) vt39)) == 0)) = true := c773
                refine wpRwI 111 (x := ((vt638 == 0) != ((Int.tmod (w64 ((Int.tmod n1 1073741824) * (rd ([1, 1000, 1000, 60000, 3600000, 86400000] : List Int) vt27))) (rd ([1, 1000, 1000, 60000, 3600000, 86400000] : List Int) vt39)) == 0))) (v := true) kr c773 ?_
                refine wpRwI 112 (x := ((vt638 == 0) != ((Int.tmod (w64 ((Int.tmod n1 1073741824) * (rd ([1, 1000, 1000, 60000, 3600000, 86400000] : List Int) vt27))) (rd ([1, 1000, 1000, 60000, 3600000, 86400000] : List Int) vt39)) == 0))) (v := true) kr c773 ?_
                refine condT kr ?_
                refine wp_seq_k fun K774 hK775 => rl ?_
                refine seqL1 kr ?_
                refine nl (hK775 _ _ ?_)
                refine wp_ret ?_
                refine hret _ _ ?_
                refine ends_still (v := Value.bool false) kr kr ?_
                have HS896 := HS754.drop
                have HS897 := HS896.drop
                have HS898 := HS897.drop
                have HS899 := HS898.drop
                have HS900 := HS899.drop
                have HS901 := HS900.drop
                have HS902 := HS901.drop
                injection h with h
                subst h
                exact ⟨f663, rfl, (L30.trans (L36.trans (L42.trans (L201.trans (L607.trans (L648.trans L664)))))), HS902⟩
              · have c773 : ¬ (((vt638 == 0) != ((Int.tmod (w64 ((Int.tmod n1 1073741824) * (rd ([1, 1000, 1000, 60000, 3600000, 86400000] : List Int) vt27))) (rd ([1, 1000, 1000, 60000, 3600000, 86400000] : List Int) vt39)) == 0)) = true) := c773
                refine wpRwI 111 (x := ((vt638 == 0) != ((Int.tmod (w64 ((Int.tmod n1 1073741824) * (rd ([1, 1000, 1000, 60000, 3600000, 86400000] : List Int) vt27))) (rd ([1, 1000, 1000, 60000, 3600000, 86400000] : List Int) vt39)) == 0))) (v := false) kr (Bool.eq_false_iff.mpr c773) ?_
                refine wpRwI 112 (x := ((vt638 == 0) != ((Int.tmod (w64 ((Int.tmod n1 1073741824) * (rd ([1, 1000, 1000, 60000, 3600000, 86400000] : List Int) vt27))) (rd ([1, 1000, 1000, 60000, 3600000, 86400000] : List Int) vt39)) == 0))) (v := false) kr (Bool.eq_false_iff.mpr c773) ?_
                refine condF kr ?_
                refine wp_skip ?_
                refine hK750 _ _ ?_
                refine wp_seq_k (fun K776 hK777 => ?_)
                refine heldG (S := Sg t f663 ([(b182, .cells #[.int .i64 vt77.W, .int .i64 vt77.H, .slice A157 vt77.Cards.length c158, .slice A162 vt77.Counts.length c163] 29 (0, 0))] :: s105 :: s159 :: s164 :: s124 :: s19 :: s11 :: H) []) (n := 37) kr rfl HS754 ?_
                intro W778 HS779
                refine takeGL [0, 1, 2] (n := 37) (fuel := 34) #[true, true, true, false, false, false, false, false, false, false, false, false, false, false, false, false, false, false, false, false, false, false, false, false, false, false, false, false, false, false, false, false, false, false, false, false, false] rfl kr kr kr hnp (Sg.g0 (Sx.of [] (FM.le.refl _) HS779)) ?_
                refine gateRwI 114 (x := (vt597 != 0)) (v := false) kr (bne_eq_false_iff_eq.mpr (Decidable.of_not_not c673)) ?_
                refine gateRwI 115 (x := (vt597 != 0)) (v := false) kr (bne_eq_false_iff_eq.mpr (Decidable.of_not_not c673)) ?_
                refine takeGL [3, 4, 5, 6] (n := 34) (fuel := 30) #[true, true, true, true, true, true, true, false, false, false, false, false, false, false, false, false, false, false, false, false, false, false, false, false, false, false, false, false, false, false, false, false, false, false, false, false, false] rfl kr kr kr hnp (Sg.g0 (Sx.of [] (FM.le.refl _) HS779)) ?_
                refine gateRwI 117 (x := (vt638 != 0)) (v := true) kr (bne_iff_ne.mpr c744) ?_
                refine gateRwI 118 (x := (vt638 != 0)) (v := true) kr (bne_iff_ne.mpr c744) ?_
                refine gateRwI 119 (x := (vt638 != 0)) (v := true) kr (bne_iff_ne.mpr c744) ?_
                refine takeGL [7, 8, 9, 10, 11, 12, 13, 14, 15, 16, 17, 18, 19, 20, 21, 22, 23, 24, 25, 26, 27, 28, 29, 30, 31, 32, 33, 34, 35, 36] (n := 30) (fuel := 0) #[true, true, true, true, true, true, true, true, true, true, true, true, true, true, true, true, true, true, true, true, true, true, true, true, true, true, true, true, true, true, true, true, true, true, true, true, true] rfl kr kr kr hnp (Sg.g0 (Sx.of [] (FM.le.refl _) HS779)) ?_
                refine doneG kr ?_ _
                refine hK777 _ _ ?_
                refine wp_ret ?_
                refine hret _ _ ?_
                refine ends_still (v := Value.bool true) kr kr ?_
                have HS903 := HS779.drop
                have HS904 := HS903.drop
                have HS905 := HS904.drop
                have HS906 := HS905.drop
                have HS907 := HS906.drop
                have HS908 := HS907.drop
                have HS909 := HS908.drop
                injection h with h
                subst h
                exact ⟨f663, rfl, (L30.trans (L36.trans (L42.trans (L201.trans (L607.trans (L648.trans L664)))))), HS909⟩
        · have c744 : ¬ (vt638 ≠ 0) := c744
          refine seqRwI 75 (x := (vt638 != 0)) (v := false) kr (bne_eq_false_iff_eq.mpr (Decidable.of_not_not c744)) ?_
          refine seqRwI 76 (x := (vt638 != 0)) (v := false) kr (bne_eq_false_iff_eq.mpr (Decidable.of_not_not c744)) ?_
          refine seqL4 kr ?_
          refine nl (hK660 _ _ ?_)
          refine condF kr ?_
          refine wp_skip ?_
          refine hK658 _ _ ?_
          refine wp_seq_k (fun K780 hK781 => ?_)
          refine wp_seq_k (fun K782 hK783 => ?_)
          refine heldG (S := Sg t f663 ([(b182, .cells #[.int .i64 vt77.W, .int .i64 vt77.H, .slice A157 vt77.Cards.length c158, .slice A162 vt77.Counts.length c163] 29 (0, 0))] :: s105 :: s159 :: s164 :: s124 :: s19 :: s11 :: H) []) (n := 32) kr rfl HS666 ?_
          intro W784 HS785
          have hq_ := guard_some h; clear h; obtain ⟨c786, h⟩ := hq_
          have c786 : vt27 < (([1, 1000, 1000, 60000, 3600000, 86400000] : List Int).length : Int) := c786
          obtain ⟨cs787, hr788, hc789⟩ := (HO21.mono (L30.trans (L36.trans (L42.trans (L201.trans (L607.trans (L648.trans L664))))))).at' (i := vt27) c49 c786
          obtain rfl := hr788
          refine takeG [0, 1, 2, 3, 4] (n := 32) (fuel := 27) (l' := #[true, true, true, true, true, false, false, false, false, false, false, false, false, false, false, false, false, false, false, false, false, false, false, false, false, false, false, false, false, false, false, false]) (a' := ⟨#[iV (Int.tmod n1 1073741824), iV vt27, iV vt33, iV vt39, uV, uV, uV, uV, fV, .slice (some ⟨b9, 0, none⟩) ([(⟨#[116, 105, 99, 107]⟩ : ByteArray), (⟨#[98, 101, 97, 116]⟩ : ByteArray), (⟨#[115, 101, 99, 111, 110, 100]⟩ : ByteArray), (⟨#[109, 105, 110, 117, 116, 101]⟩ : ByteArray), (⟨#[104, 111, 117, 114]⟩ : ByteArray), (⟨#[100, 97, 121]⟩ : ByteArray)] : List ByteArray).length 6, .slice (some ⟨b17, 0, none⟩) ([1, 1000, 1000, 60000, 3600000, 86400000] : List Int).length 6, pV b182 0, iV vt78, iV vt596, iV vt597, iV vt637, iV vt638, .slice (some ⟨b9, 0, none⟩) ([(⟨#[116, 105, 99, 107]⟩ : ByteArray), (⟨#[98, 101, 97, 116]⟩ : ByteArray), (⟨#[115, 101, 99, 111, 110, 100]⟩ : ByteArray), (⟨#[109, 105, 110, 117, 116, 101]⟩ : ByteArray), (⟨#[104, 111, 117, 114]⟩ : ByteArray), (⟨#[100, 97, 121]⟩ : ByteArray)] : List ByteArray).length 6, .slice (some ⟨b17, 0, none⟩) ([1, 1000, 1000, 60000, 3600000, 86400000] : List Int).length 6, iV n1, iV (Int.tmod n1 1073741824), iV vfrom2, iV vt27, iV a3, iV vt33, iV b4, iV vt39, .tuple #[(ag_Frame vt77 A157 c158 A162 c163), iV vt78], .slice (some ⟨b103, 0, none⟩) ([0] : List Int).length 1, .agg #[iV 1, iV 1, .slice none 0 0, .slice (some ⟨b103, 0, none⟩) ([0] : List Int).length 1], iV (Int.tmod n1 1073741824), .slice A122 vt60.length c123, .string (bstr vt60), .slice (some ⟨b9, 0, none⟩) ([(⟨#[116, 105, 99, 107]⟩ : ByteArray), (⟨#[98, 101, 97, 116]⟩ : ByteArray), (⟨#[115, 101, 99, 111, 110, 100]⟩ : ByteArray), (⟨#[109, 105, 110, 117, 116, 101]⟩ : ByteArray), (⟨#[104, 111, 117, 114]⟩ : ByteArray), (⟨#[100, 97, 121]⟩ : ByteArray)] : List ByteArray).length 6, iV vt27, pV b9 (0 + (vt27 : Int).toNat * 1), .string (rd ([(⟨#[116, 105, 99, 107]⟩ : ByteArray), (⟨#[98, 101, 97, 116]⟩ : ByteArray), (⟨#[115, 101, 99, 111, 110, 100]⟩ : ByteArray), (⟨#[109, 105, 110, 117, 116, 101]⟩ : ByteArray), (⟨#[104, 111, 117, 114]⟩ : ByteArray), (⟨#[100, 97, 121]⟩ : ByteArray)] : List ByteArray) vt27), .agg #[.string ⟨#[84]⟩, .string (bstr vt60), .string (rd ([(⟨#[116, 105, 99, 107]⟩ : ByteArray), (⟨#[98, 101, 97, 116]⟩ : ByteArray), (⟨#[115, 101, 99, 111, 110, 100]⟩ : ByteArray), (⟨#[109, 105, 110, 117, 116, 101]⟩ : ByteArray), (⟨#[104, 111, 117, 114]⟩ : ByteArray), (⟨#[100, 97, 121]⟩ : ByteArray)] : List ByteArray) vt27), .string ⟨#[]⟩], .tuple #[(ag_Frame vt77 A157 c158 A162 c163), iV vt78], (ag_Frame vt77 A157 c158 A162 c163), iV vt78, .tuple #[iV vt596, iV vt597], (ag_Frame vt77 A157 c158 A162 c163), .slice (some ⟨b9, 0, none⟩) ([(⟨#[116, 105, 99, 107]⟩ : ByteArray), (⟨#[98, 101, 97, 116]⟩ : ByteArray), (⟨#[115, 101, 99, 111, 110, 100]⟩ : ByteArray), (⟨#[109, 105, 110, 117, 116, 101]⟩ : ByteArray), (⟨#[104, 111, 117, 114]⟩ : ByteArray), (⟨#[100, 97, 121]⟩ : ByteArray)] : List ByteArray).length 6, iV vt33, pV b9 (0 + (vt33 : Int).toNat * 1), .string (rd ([(⟨#[116, 105, 99, 107]⟩ : ByteArray), (⟨#[98, 101, 97, 116]⟩ : ByteArray), (⟨#[115, 101, 99, 111, 110, 100]⟩ : ByteArray), (⟨#[109, 105, 110, 117, 116, 101]⟩ : ByteArray), (⟨#[104, 111, 117, 114]⟩ : ByteArray), (⟨#[100, 97, 121]⟩ : ByteArray)] : List ByteArray) vt33), .tuple #[iV vt596, iV vt597], iV vt596, iV vt597, .tuple #[iV vt637, iV vt638], (ag_Frame vt77 A157 c158 A162 c163), .slice (some ⟨b9, 0, none⟩) ([(⟨#[116, 105, 99, 107]⟩ : ByteArray), (⟨#[98, 101, 97, 116]⟩ : ByteArray), (⟨#[115, 101, 99, 111, 110, 100]⟩ : ByteArray), (⟨#[109, 105, 110, 117, 116, 101]⟩ : ByteArray), (⟨#[104, 111, 117, 114]⟩ : ByteArray), (⟨#[100, 97, 121]⟩ : ByteArray)] : List ByteArray).length 6, iV vt39, pV b9 (0 + (vt39 : Int).toNat * 1), .string (rd ([(⟨#[116, 105, 99, 107]⟩ : ByteArray), (⟨#[98, 101, 97, 116]⟩ : ByteArray), (⟨#[115, 101, 99, 111, 110, 100]⟩ : ByteArray), (⟨#[109, 105, 110, 117, 116, 101]⟩ : ByteArray), (⟨#[104, 111, 117, 114]⟩ : ByteArray), (⟨#[100, 97, 121]⟩ : ByteArray)] : List ByteArray) vt39), .tuple #[iV vt637, iV vt638], iV vt637, iV vt638, .bool vt661, fV, fV, iV vt78, fV, fV, fV, iV vt597, fV, fV, uV, uV, fV, fV, fV, iV vt638, fV, fV, uV, uV, fV, fV, iV vt597, .bool (vt597 == 0), iV (Int.tmod n1 1073741824), .slice (some ⟨b17, 0, none⟩) ([1, 1000, 1000, 60000, 3600000, 86400000] : List Int).length 6, iV vt27, uV, uV, uV, uV, uV, uV, uV, uV, uV, uV, uV, uV, uV, uV, uV, uV, uV, uV, uV, uV, uV, uV, uV, uV, uV, uV, uV, uV, uV, uV, uV, uV, uV, uV, uV, uV, uV, uV, uV, uV, uV, uV, uV, uV, uV, uV, uV, uV, uV, uV, uV, uV, uV, uV, uV, uV, uV, uV, uV, uV, uV, uV, uV], []⟩) rfl kr kr kr hnp (Sg.g0 (Sx.of [] (FM.le.refl _) HS785)) ?_
          refine takeGQ 5 [] rfl kr kr kr kr kr kr hnp (Sg.g0 (Sx.of [] (FM.le.refl _) HS785)) (fun w_ hw_ => by obtain ⟨g_, hl_, hS_⟩ := hw_.st; exact run_index (sz := 1) rfl Tryz.underlying47 kr (kv (.slice (some ⟨b17, 0, none⟩) ([1, 1000, 1000, 60000, 3600000, 86400000] : List Int).length 6)) (kv (.int .i64 vt27)) c49 c786 w_) ?_
          refine takeGQ 6 [] rfl kr kr kr kr kr kr hnp (Sg.g0 (Sx.of [] (FM.le.refl _) HS785)) (fun w_ hw_ => by obtain ⟨g_, hl_, hS_⟩ := hw_.st; exact run_load rfl Tryz.underlying2 rfl (kv (.pointer (some ⟨b17, 0 + (vt27 : Int).toNat * 1, none⟩))) ((hc789 hS_.u5) 0 (by decide))) ?_
          have hq_ := guard_some h; clear h; obtain ⟨c790, h⟩ := hq_
          have c790 : vt33 < (([1, 1000, 1000, 60000, 3600000, 86400000] : List Int).length : Int) := c790
          obtain ⟨cs791, hr792, hc793⟩ := (HO21.mono (L30.trans (L36.trans (L42.trans (L201.trans (L607.trans (L648.trans L664))))))).at' (i := vt33) c579 c790
          obtain rfl := hr792
          refine takeGL [7, 8, 9] (n := 25) (fuel := 22) #[true, true, true, true, true, true, true, true, true, true, false, false, false, false, false, false, false, false, false, false, false, false, false, false, false, false, false, false, false, false, false, false] rfl kr kr kr hnp (Sg.g0 (Sx.of [] (FM.le.refl _) HS785)) ?_
          refine takeGQ 10 [] rfl kr kr kr kr kr kr hnp (Sg.g0 (Sx.of [] (FM.le.refl _) HS785)) (fun w_ hw_ => by obtain ⟨g_, hl_, hS_⟩ := hw_.st; exact run_index (sz := 1) rfl Tryz.underlying47 kr (kv (.slice (some ⟨b17, 0, none⟩) ([1, 1000, 1000, 60000, 3600000, 86400000] : List Int).length 6)) (kv (.int .i64 vt33)) c579 c790 w_) ?_
          refine takeGQ 11 [] rfl kr kr kr kr kr kr hnp (Sg.g0 (Sx.of [] (FM.le.refl _) HS785)) (fun w_ hw_ => by obtain ⟨g_, hl_, hS_⟩ := hw_.st; exact run_load rfl Tryz.underlying2 rfl (kv (.pointer (some ⟨b17, 0 + (vt33 : Int).toNat * 1, none⟩))) ((hc793 hS_.u5) 0 (by decide))) ?_
          have hq_ := guard_some h; clear h; obtain ⟨c794, h⟩ := hq_
          have c794 : ¬ ((rd ([1, 1000, 1000, 60000, 3600000, 86400000] : List Int) vt33) = 0) := c794
          refine takeGQ 12 [] rfl kr kr kr kr kr kr hnp (Sg.g0 (Sx.of [] (FM.le.refl _) HS785)) (fun w_ hw_ => by obtain ⟨g_, hl_, hS_⟩ := hw_.st; exact run_rem rfl (kv (.int .i64 (w64 ((Int.tmod n1 1073741824) * (rd ([1, 1000, 1000, 60000, 3600000, 86400000] : List Int) vt27))))) (kv (.int .i64 (rd ([1, 1000, 1000, 60000, 3600000, 86400000] : List Int) vt33))) c794 w_) ?_
          refine takeGL [13, 14, 15] (n := 19) (fuel := 16) #[true, true, true, true, true, true, true, true, true, true, true, true, true, true, true, true, false, false, false, false, false, false, false, false, false, false, false, false, false, false, false, false] rfl kr kr kr hnp (Sg.g0 (Sx.of [] (FM.le.refl _) HS785)) ?_
          have hq_ := ite_some h; clear h; rcases hq_ with ⟨c795, h⟩ | ⟨c795, h⟩
          · have c795 : ((vt597 == 0) != ((Int.tmod (w64 ((Int.tmod n1 1073741824) * (rd ([1, 1000, 1000, 60000, 3600000, 86400000] : List Int) vt27))) (rd ([1, 1000, 1000, 60000, 3600000, 86400000] : List Int) vt33)) == 0)) = true := c795
            refine gateRwI 95 (x := ((vt597 == 0) != ((Int.tmod (w64 ((Int.tmod n1 1073741824) * (rd ([1, 1000, 1000, 60000, 3600000, 86400000] : List Int) vt27))) (rd ([1, 1000, 1000, 60000, 3600000, 86400000] : List Int) vt33)) == 0))) (v := true) kr c795 ?_
            refine gateRwI 96 (x := ((vt597 == 0) != ((Int.tmod (w64 ((Int.tmod n1 1073741824) * (rd ([1, 1000, 1000, 60000, 3600000, 86400000] : List Int) vt27))) (rd ([1, 1000, 1000, 60000, 3600000, 86400000] : List Int) vt33)) == 0))) (v := true) kr c795 ?_
            refine takeGL [16, 17, 18, 19, 20, 21, 22, 23, 24, 25, 26, 27, 28, 29, 30, 31] (n := 16) (fuel := 0) #[true, true, true, true, true, true, true, true, true, true, true, true, true, true, true, true, true, true, true, true, true, true, true, true, true, true, true, true, true, true, true, true] rfl kr kr kr hnp (Sg.g0 (Sx.of [] (FM.le.refl _) HS785)) ?_
            refine doneG kr ?_ _
            refine hK783 _ _ ?_
            refine condT kr ?_
            refine wp_seq_k fun K796 hK797 => rl ?_
            refine seqL1 kr ?_
            refine nl (hK797 _ _ ?_)
            refine wp_ret ?_
            refine hret _ _ ?_
            refine ends_still (v := Value.bool false) kr kr ?_
            have HS910 := HS785.drop
            have HS911 := HS910.drop
            have HS912 := HS911.drop
            have HS913 := HS912.drop
            have HS914 := HS913.drop
            have HS915 := HS914.drop
            have HS916 := HS915.drop
            injection h with h
            subst h
            exact ⟨f663, rfl, (L30.trans (L36.trans (L42.trans (L201.trans (L607.trans (L648.trans L664)))))), HS916⟩
          · have c795 : ¬ (((vt597 == 0) != ((Int.tmod (w64 ((Int.tmod n1 1073741824) * (rd ([1, 1000, 1000, 60000, 3600000, 86400000] : List Int) vt27))) (rd ([1, 1000, 1000, 60000, 3600000, 86400000] : List Int) vt33)) == 0)) = true) := c795
            refine gateRwI 95 (x := ((vt597 == 0) != ((Int.tmod (w64 ((Int.tmod n1 1073741824) * (rd ([1, 1000, 1000, 60000, 3600000, 86400000] : List Int) vt27))) (rd ([1, 1000, 1000, 60000, 3600000, 86400000] : List Int) vt33)) == 0))) (v := false) kr (Bool.eq_false_iff.mpr c795) ?_
            refine gateRwI 96 (x := ((vt597 == 0) != ((Int.tmod (w64 ((Int.tmod n1 1073741824) * (rd ([1, 1000, 1000, 60000, 3600000, 86400000] : List Int) vt27))) (rd ([1, 1000, 1000, 60000, 3600000, 86400000] : List Int) vt33)) == 0))) (v := false) kr (Bool.eq_false_iff.mpr c795) ?_
            refine takeGL [16, 17, 18, 19, 20] (n := 16) (fuel := 11) #[true, true, true, true, true, true, true, true, true, true, true, true, true, true, true, true, true, true, true, true, true, false, false, false, false, false, false, false, false, false, false, false] rfl kr kr kr hnp (Sg.g0 (Sx.of [] (FM.le.refl _) HS785)) ?_
            refine takeGQ 21 [] rfl kr kr kr kr kr kr hnp (Sg.g0 (Sx.of [] (FM.le.refl _) HS785)) (fun w_ hw_ => by obtain ⟨g_, hl_, hS_⟩ := hw_.st; exact run_index (sz := 1) rfl Tryz.underlying47 kr (kv (.slice (some ⟨b17, 0, none⟩) ([1, 1000, 1000, 60000, 3600000, 86400000] : List Int).length 6)) (kv (.int .i64 vt27)) c49 c786 w_) ?_
            refine takeGQ 22 [] rfl kr kr kr kr kr kr hnp (Sg.g0 (Sx.of [] (FM.le.refl _) HS785)) (fun w_ hw_ => by obtain ⟨g_, hl_, hS_⟩ := hw_.st; exact run_load rfl Tryz.underlying2 rfl (kv (.pointer (some ⟨b17, 0 + (vt27 : Int).toNat * 1, none⟩))) ((hc789 hS_.u5) 0 (by decide))) ?_
            have hq_ := guard_some h; clear h; obtain ⟨c798, h⟩ := hq_
            have c798 : vt39 < (([1, 1000, 1000, 60000, 3600000, 86400000] : List Int).length : Int) := c798
            obtain ⟨cs799, hr800, hc801⟩ := (HO21.mono (L30.trans (L36.trans (L42.trans (L201.trans (L607.trans (L648.trans L664))))))).at' (i := vt39) c620 c798
            obtain rfl := hr800
            refine takeGL [23, 24, 25] (n := 9) (fuel := 6) #[true, true, true, true, true, true, true, true, true, true, true, true, true, true, true, true, true, true, true, true, true, true, true, true, true, true, false, false, false, false, false, false] rfl kr kr kr hnp (Sg.g0 (Sx.of [] (FM.le.refl _) HS785)) ?_
            refine takeGQ 26 [] rfl kr kr kr kr kr kr hnp (Sg.g0 (Sx.of [] (FM.le.refl _) HS785)) (fun w_ hw_ => by obtain ⟨g_, hl_, hS_⟩ := hw_.st; exact run_index (sz := 1) rfl Tryz.underlying47 kr (kv (.slice (some ⟨b17, 0, none⟩) ([1, 1000, 1000, 60000, 3600000, 86400000] : List Int).length 6)) (kv (.int .i64 vt39)) c620 c798 w_) ?_
            refine takeGQ 27 [] rfl kr kr kr kr kr kr hnp (Sg.g0 (Sx.of [] (FM.le.refl _) HS785)) (fun w_ hw_ => by obtain ⟨g_, hl_, hS_⟩ := hw_.st; exact run_load rfl Tryz.underlying2 rfl (kv (.pointer (some ⟨b17, 0 + (vt39 : Int).toNat * 1, none⟩))) ((hc801 hS_.u5) 0 (by decide))) ?_
            have hq_ := guard_some h; clear h; obtain ⟨c802, h⟩ := hq_
            have c802 : ¬ ((rd ([1, 1000, 1000, 60000, 3600000, 86400000] : List Int) vt39) = 0) := c802
            refine takeGQ 28 [] rfl kr kr kr kr kr kr hnp (Sg.g0 (Sx.of [] (FM.le.refl _) HS785)) (fun w_ hw_ => by obtain ⟨g_, hl_, hS_⟩ := hw_.st; exact run_rem rfl (kv (.int .i64 (w64 ((Int.tmod n1 1073741824) * (rd ([1, 1000, 1000, 60000, 3600000, 86400000] : List Int) vt27))))) (kv (.int .i64 (rd ([1, 1000, 1000, 60000, 3600000, 86400000] : List Int) vt39))) c802 w_) ?_
            refine takeGL [29, 30, 31] (n := 3) (fuel := 0) #[true, true, true, true, true, true, true, true, true, true, true, true, true, true, true, true, true, true, true, true, true, true, true, true, true, true, true, true, true, true, true, true] rfl kr kr kr hnp (Sg.g0 (Sx.of [] (FM.le.refl _) HS785)) ?_
            refine doneG kr ?_ _
            refine hK783 _ _ ?_
            have hq_ := ite_some h; clear h; rcases hq_ with ⟨c804, h⟩ | ⟨c804, h⟩
            · have c804 : ((vt638 == 0) != ((Int.tmod (w64 ((Int.tmod n1 1073741824) * (rd ([1, 1000, 1000, 60000, 3600000, 86400000] : List Int) vt27))) (rd ([1, 1000, 1000, 60000, 3600000, 86400000] : List Int) vt39)) == 0)) = true := c804
              refine wpRwI 111 (x := ((vt638 == 0) != ((Int.tmod (w64 ((Int.tmod n1 1073741824) * (rd ([1, 1000, 1000, 60000, 3600000, 86400000] : List Int) vt27))) (rd ([1, 1000, 1000, 60000, 3600000, 86400000] : List Int) vt39)) == 0))) (v := true) kr c804 ?_
              refine wpRwI 112 (x := ((vt638 == 0) != ((Int.tmod (w64 ((Int.tmod n1 1073741824) * (rd ([1, 1000, 1000, 60000, 3600000, 86400000] : List Int) vt27))) (rd ([1, 1000, 1000, 60000, 3600000, 86400000] : List Int) vt39)) == 0))) (v := true) kr c804 ?_
              refine condT kr ?_
              refine wp_seq_k fun K805 hK806 => rl ?_
              refine seqL1 kr ?_
              refine nl (hK806 _ _ ?_)
              refine wp_ret ?_
              refine hret _ _ ?_
              refine ends_still (v := Value.bool false) kr kr ?_
              have HS917 := HS785.drop
              have HS918 := HS917.drop
              have HS919 := HS918.drop
              have HS920 := HS919.drop
              have HS921 := HS920.drop
              have HS922 := HS921.drop
              have HS923 := HS922.drop
              injection h with h
              subst h
              exact ⟨f663, rfl, (L30.trans (L36.trans (L42.trans (L201.trans (L607.trans (L648.trans L664)))))), HS923⟩
            · have c804 : ¬ (((vt638 == 0) != ((Int.tmod (w64 ((Int.tmod n1 1073741824) * (rd ([1, 1000, 1000, 60000, 3600000, 86400000] : List Int) vt27))) (rd ([1, 1000, 1000, 60000, 3600000, 86400000] : List Int) vt39)) == 0)) = true) := c804
              refine wpRwI 111 (x := ((vt638 == 0) != ((Int.tmod (w64 ((Int.tmod n1 1073741824) * (rd ([1, 1000, 1000, 60000, 3600000, 86400000] : List Int) vt27))) (rd ([1, 1000, 1000, 60000, 3600000, 86400000] : List Int) vt39)) == 0))) (v := false) kr (Bool.eq_false_iff.mpr c804) ?_
              refine wpRwI 112 (x := ((vt638 == 0) != ((Int.tmod (w64 ((Int.tmod n1 1073741824) * (rd ([1, 1000, 1000, 60000, 3600000, 86400000] : List Int) vt27))) (rd ([1, 1000, 1000, 60000, 3600000, 86400000] : List Int) vt39)) == 0))) (v := false) kr (Bool.eq_false_iff.mpr c804) ?_
              refine condF kr ?_
              refine wp_skip ?_
              refine hK781 _ _ ?_
              refine wp_seq_k (fun K807 hK808 => ?_)
              refine heldG (S := Sg t f663 ([(b182, .cells #[.int .i64 vt77.W, .int .i64 vt77.H, .slice A157 vt77.Cards.length c158, .slice A162 vt77.Counts.length c163] 29 (0, 0))] :: s105 :: s159 :: s164 :: s124 :: s19 :: s11 :: H) []) (n := 37) kr rfl HS785 ?_
              intro W809 HS810
              refine takeGL [0, 1, 2] (n := 37) (fuel := 34) #[true, true, true, false, false, false, false, false, false, false, false, false, false, false, false, false, false, false, false, false, false, false, false, false, false, false, false, false, false, false, false, false, false, false, false, false, false] rfl kr kr kr hnp (Sg.g0 (Sx.of [] (FM.le.refl _) HS810)) ?_
              refine gateRwI 114 (x := (vt597 != 0)) (v := false) kr (bne_eq_false_iff_eq.mpr (Decidable.of_not_not c673)) ?_
              refine gateRwI 115 (x := (vt597 != 0)) (v := false) kr (bne_eq_false_iff_eq.mpr (Decidable.of_not_not c673)) ?_
              refine takeGL [3, 4, 5, 6] (n := 34) (fuel := 30) #[true, true, true, true, true, true, true, false, false, false, false, false, false, false, false, false, false, false, false, false, false, false, false, false, false, false, false, false, false, false, false, false, false, false, false, false, false] rfl kr kr kr hnp (Sg.g0 (Sx.of [] (FM.le.refl _) HS810)) ?_
              refine gateRwI 117 (x := (vt638 != 0)) (v := false) kr (bne_eq_false_iff_eq.mpr (Decidable.of_not_not c744)) ?_
              refine gateRwI 118 (x := (vt638 != 0)) (v := false) kr (bne_eq_false_iff_eq.mpr (Decidable.of_not_not c744)) ?_
              refine gateRwI 119 (x := (vt638 != 0)) (v := false) kr (bne_eq_false_iff_eq.mpr (Decidable.of_not_not c744)) ?_
              refine takeGL [7, 8, 9] (n := 30) (fuel := 27) #[true, true, true, true, true, true, true, true, true, true, false, false, false, false, false, false, false, false, false, false, false, false, false, false, false, false, false, false, false, false, false, false, false, false, false, false, false] rfl kr kr kr hnp (Sg.g0 (Sx.of [] (FM.le.refl _) HS810)) ?_
              refine takeGQ 10 [] rfl kr kr kr kr kr kr hnp (Sg.g0 (Sx.of [] (FM.le.refl _) HS810)) (fun w_ hw_ => by obtain ⟨g_, hl_, hS_⟩ := hw_.st; exact run_index (sz := 1) rfl Tryz.underlying47 kr (kv (.slice (some ⟨b17, 0, none⟩) ([1, 1000, 1000, 60000, 3600000, 86400000] : List Int).length 6)) (kv (.int .i64 vt33)) c579 c790 w_) ?_
              refine takeGQ 11 [] rfl kr kr kr kr kr kr hnp (Sg.g0 (Sx.of [] (FM.le.refl _) HS810)) (fun w_ hw_ => by obtain ⟨g_, hl_, hS_⟩ := hw_.st; exact run_load rfl Tryz.underlying2 rfl (kv (.pointer (some ⟨b17, 0 + (vt33 : Int).toNat * 1, none⟩))) ((hc793 hS_.u5) 0 (by decide))) ?_
              refine takeGL [12, 13, 14, 15] (n := 25) (fuel := 21) #[true, true, true, true, true, true, true, true, true, true, true, true, true, true, true, true, false, false, false, false, false, false, false, false, false, false, false, false, false, false, false, false, false, false, false, false, false] rfl kr kr kr hnp (Sg.g0 (Sx.of [] (FM.le.refl _) HS810)) ?_
              refine takeGQ 16 [] rfl kr kr kr kr kr kr hnp (Sg.g0 (Sx.of [] (FM.le.refl _) HS810)) (fun w_ hw_ => by obtain ⟨g_, hl_, hS_⟩ := hw_.st; exact run_index (sz := 1) rfl Tryz.underlying47 kr (kv (.slice (some ⟨b17, 0, none⟩) ([1, 1000, 1000, 60000, 3600000, 86400000] : List Int).length 6)) (kv (.int .i64 vt39)) c620 c798 w_) ?_
              refine takeGQ 17 [] rfl kr kr kr kr kr kr hnp (Sg.g0 (Sx.of [] (FM.le.refl _) HS810)) (fun w_ hw_ => by obtain ⟨g_, hl_, hS_⟩ := hw_.st; exact run_load rfl Tryz.underlying2 rfl (kv (.pointer (some ⟨b17, 0 + (vt39 : Int).toNat * 1, none⟩))) ((hc801 hS_.u5) 0 (by decide))) ?_
              refine takeGL [18, 19, 20] (n := 19) (fuel := 16) #[true, true, true, true, true, true, true, true, true, true, true, true, true, true, true, true, true, true, true, true, true, false, false, false, false, false, false, false, false, false, false, false, false, false, false, false, false] rfl kr kr kr hnp (Sg.g0 (Sx.of [] (FM.le.refl _) HS810)) ?_
              have hq_ := ite_some h; clear h; rcases hq_ with ⟨c811, h⟩ | ⟨c811, h⟩
              · have c811 : (w64 (vt596 * (rd ([1, 1000, 1000, 60000, 3600000, 86400000] : List Int) vt33))) = (w64 (vt637 * (rd ([1, 1000, 1000, 60000, 3600000, 86400000] : List Int) vt39))) := c811
                refine gateRwI 132 (x := ((w64 (vt596 * (rd ([1, 1000, 1000, 60000, 3600000, 86400000] : List Int) vt33))) == (w64 (vt637 * (rd ([1, 1000, 1000, 60000, 3600000, 86400000] : List Int) vt39))))) (v := true) kr (beq_iff_eq.mpr c811) ?_
                refine gateRwI 133 (x := ((w64 (vt596 * (rd ([1, 1000, 1000, 60000, 3600000, 86400000] : List Int) vt33))) == (w64 (vt637 * (rd ([1, 1000, 1000, 60000, 3600000, 86400000] : List Int) vt39))))) (v := true) kr (beq_iff_eq.mpr c811) ?_
                refine takeGL [21, 22, 23] (n := 16) (fuel := 13) #[true, true, true, true, true, true, true, true, true, true, true, true, true, true, true, true, true, true, true, true, true, true, true, true, false, false, false, false, false, false, false, false, false, false, false, false, false] rfl kr kr kr hnp (Sg.g0 (Sx.of [] (FM.le.refl _) HS810)) ?_
                refine takeGQ 24 [] rfl kr kr kr kr kr kr hnp (Sg.g0 (Sx.of [] (FM.le.refl _) HS810)) (fun w_ hw_ => by obtain ⟨g_, hl_, hS_⟩ := hw_.st; exact run_index (sz := 1) rfl Tryz.underlying47 kr (kv (.slice (some ⟨b17, 0, none⟩) ([1, 1000, 1000, 60000, 3600000, 86400000] : List Int).length 6)) (kv (.int .i64 vt33)) c579 c790 w_) ?_
                refine takeGQ 25 [] rfl kr kr kr kr kr kr hnp (Sg.g0 (Sx.of [] (FM.le.refl _) HS810)) (fun w_ hw_ => by obtain ⟨g_, hl_, hS_⟩ := hw_.st; exact run_load rfl Tryz.underlying2 rfl (kv (.pointer (some ⟨b17, 0 + (vt33 : Int).toNat * 1, none⟩))) ((hc793 hS_.u5) 0 (by decide))) ?_
                refine takeGL [26, 27, 28, 29] (n := 11) (fuel := 7) #[true, true, true, true, true, true, true, true, true, true, true, true, true, true, true, true, true, true, true, true, true, true, true, true, true, true, true, true, true, true, false, false, false, false, false, false, false] rfl kr kr kr hnp (Sg.g0 (Sx.of [] (FM.le.refl _) HS810)) ?_
                refine takeGQ 30 [] rfl kr kr kr kr kr kr hnp (Sg.g0 (Sx.of [] (FM.le.refl _) HS810)) (fun w_ hw_ => by obtain ⟨g_, hl_, hS_⟩ := hw_.st; exact run_index (sz := 1) rfl Tryz.underlying47 kr (kv (.slice (some ⟨b17, 0, none⟩) ([1, 1000, 1000, 60000, 3600000, 86400000] : List Int).length 6)) (kv (.int .i64 vt27)) c49 c786 w_) ?_
                refine takeGQ 31 [] rfl kr kr kr kr kr kr hnp (Sg.g0 (Sx.of [] (FM.le.refl _) HS810)) (fun w_ hw_ => by obtain ⟨g_, hl_, hS_⟩ := hw_.st; exact run_load rfl Tryz.underlying2 rfl (kv (.pointer (some ⟨b17, 0 + (vt27 : Int).toNat * 1, none⟩))) ((hc789 hS_.u5) 0 (by decide))) ?_
                refine takeGL [32, 33, 34, 35, 36] (n := 5) (fuel := 0) #[true, true, true, true, true, true, true, true, true, true, true, true, true, true, true, true, true, true, true, true, true, true, true, true, true, true, true, true, true, true, true, true, true, true, true, true, true] rfl kr kr kr hnp (Sg.g0 (Sx.of [] (FM.le.refl _) HS810)) ?_
                refine doneG kr ?_ _
                refine hK808 _ _ ?_
                refine wp_ret ?_
                refine hret _ _ ?_
                refine ends_still (v := Value.bool ((w64 (vt596 * (rd ([1, 1000, 1000, 60000, 3600000, 86400000] : List Int) vt33))) == (w64 ((Int.tmod n1 1073741824) * (rd ([1, 1000, 1000, 60000, 3600000, 86400000] : List Int) vt27))))) kr kr ?_
                have HS924 := HS810.drop
                have HS925 := HS924.drop
                have HS926 := HS925.drop
                have HS927 := HS926.drop
                have HS928 := HS927.drop
                have HS929 := HS928.drop
                have HS930 := HS929.drop
                injection h with h
                subst h
                exact ⟨f663, rfl, (L30.trans (L36.trans (L42.trans (L201.trans (L607.trans (L648.trans L664)))))), HS930⟩
              · have c811 : ¬ ((w64 (vt596 * (rd ([1, 1000, 1000, 60000, 3600000, 86400000] : List Int) vt33))) = (w64 (vt637 * (rd ([1, 1000, 1000, 60000, 3600000, 86400000] : List Int) vt39)))) := c811
                refine gateRwI 132 (x := ((w64 (vt596 * (rd ([1, 1000, 1000, 60000, 3600000, 86400000] : List Int) vt33))) == (w64 (vt637 * (rd ([1, 1000, 1000, 60000, 3600000, 86400000] : List Int) vt39))))) (v := false) kr (beq_eq_false_iff_ne.mpr c811) ?_
                refine gateRwI 133 (x := ((w64 (vt596 * (rd ([1, 1000, 1000, 60000, 3600000, 86400000] : List Int) vt33))) == (w64 (vt637 * (rd ([1, 1000, 1000, 60000, 3600000, 86400000] : List Int) vt39))))) (v := false) kr (beq_eq_false_iff_ne.mpr c811) ?_
                refine takeGL [21, 22, 23, 24, 25, 26, 27, 28, 29, 30, 31, 32, 33, 34, 35, 36] (n := 16) (fuel := 0) #[true, true, true, true, true, true, true, true, true, true, true, true, true, true, true, true, true, true, true, true, true, true, true, true, true, true, true, true, true, true, true, true, true, true, true, true, true] rfl kr kr kr hnp (Sg.g0 (Sx.of [] (FM.le.refl _) HS810)) ?_
                refine doneG kr ?_ _
                refine hK808 _ _ ?_
                refine wp_ret ?_
                refine hret _ _ ?_
                refine ends_still (v := Value.bool false) kr kr ?_
                have HS931 := HS810.drop
                have HS932 := HS931.drop
                have HS933 := HS932.drop
                have HS934 := HS933.drop
                have HS935 := HS934.drop
                have HS936 := HS935.drop
                have HS937 := HS936.drop
                injection h with h
                subst h
                exact ⟨f663, rfl, (L30.trans (L36.trans (L42.trans (L201.trans (L607.trans (L648.trans L664)))))), HS937⟩
 have J197 : ∀ (b103 : Nat) (s105 : Seg) (A122 : Option Addr) (c123 : Nat) (s124 : Seg) (A157 : Option Addr) (c158 : Nat) (s159 : Seg) (A162 : Option Addr) (c163 : Nat) (s164 : Seg) (b182 : Nat) (f186 : FM) (W188 : World) (a_ : Act), FM.le f41 f186 → Own ty_Card 51 f186 A157 c158 s159 vt77.Cards → Own (tInt .i64) 3 f186 A162 c163 s164 vt77.Counts → Own (tInt .i64) 3 f186 (some ⟨b103, 0, none⟩) 1 s105 ([0] : List Int) → Own (tInt .u8) 5 f186 A122 c123 s124 vt60 → St t W188 f186 ([(b182, .cells #[.int .i64 0, .int .i64 0, .slice none 0 0, .slice none 0 0] 29 (0, 0))] :: s105 :: s159 :: s164 :: s124 :: s19 :: s11 :: H) → a_ = ⟨#[iV (Int.tmod n1 1073741824), iV vt27, iV vt33, iV vt39, uV, uV, uV, uV, fV, .slice (some ⟨b9, 0, none⟩) ([(⟨#[116, 105, 99, 107]⟩ : ByteArray), (⟨#[98, 101, 97, 116]⟩ : ByteArray), (⟨#[115, 101, 99, 111, 110, 100]⟩ : ByteArray), (⟨#[109, 105, 110, 117, 116, 101]⟩ : ByteArray), (⟨#[104, 111, 117, 114]⟩ : ByteArray), (⟨#[100, 97, 121]⟩ : ByteArray)] : List ByteArray).length 6, .slice (some ⟨b17, 0, none⟩) ([1, 1000, 1000, 60000, 3600000, 86400000] : List Int).length 6, pV b182 0, uV, uV, uV, uV, uV, .slice (some ⟨b9, 0, none⟩) ([(⟨#[116, 105, 99, 107]⟩ : ByteArray), (⟨#[98, 101, 97, 116]⟩ : ByteArray), (⟨#[115, 101, 99, 111, 110, 100]⟩ : ByteArray), (⟨#[109, 105, 110, 117, 116, 101]⟩ : ByteArray), (⟨#[104, 111, 117, 114]⟩ : ByteArray), (⟨#[100, 97, 121]⟩ : ByteArray)] : List ByteArray).length 6, .slice (some ⟨b17, 0, none⟩) ([1, 1000, 1000, 60000, 3600000, 86400000] : List Int).length 6, iV n1, iV (Int.tmod n1 1073741824), iV vfrom2, iV vt27, iV a3, iV vt33, iV b4, iV vt39, .tuple #[(ag_Frame vt77 A157 c158 A162 c163), iV vt78], .slice (some ⟨b103, 0, none⟩) ([0] : List Int).length 1, .agg #[iV 1, iV 1, .slice none 0 0, .slice (some ⟨b103, 0, none⟩) ([0] : List Int).length 1], iV (Int.tmod n1 1073741824), .slice A122 vt60.length c123, .string (bstr vt60), .slice (some ⟨b9, 0, none⟩) ([(⟨#[116, 105, 99, 107]⟩ : ByteArray), (⟨#[98, 101, 97, 116]⟩ : ByteArray), (⟨#[115, 101, 99, 111, 110, 100]⟩ : ByteArray), (⟨#[109, 105, 110, 117, 116, 101]⟩ : ByteArray), (⟨#[104, 111, 117, 114]⟩ : ByteArray), (⟨#[100, 97, 121]⟩ : ByteArray)] : List ByteArray).length 6, iV vt27, pV b9 (0 + (vt27 : Int).toNat * 1), .string (rd ([(⟨#[116, 105, 99, 107]⟩ : ByteArray), (⟨#[98, 101, 97, 116]⟩ : ByteArray), (⟨#[115, 101, 99, 111, 110, 100]⟩ : ByteArray), (⟨#[109, 105, 110, 117, 116, 101]⟩ : ByteArray), (⟨#[104, 111, 117, 114]⟩ : ByteArray), (⟨#[100, 97, 121]⟩ : ByteArray)] : List ByteArray) vt27), .agg #[.string ⟨#[84]⟩, .string (bstr vt60), .string (rd ([(⟨#[116, 105, 99, 107]⟩ : ByteArray), (⟨#[98, 101, 97, 116]⟩ : ByteArray), (⟨#[115, 101, 99, 111, 110, 100]⟩ : ByteArray), (⟨#[109, 105, 110, 117, 116, 101]⟩ : ByteArray), (⟨#[104, 111, 117, 114]⟩ : ByteArray), (⟨#[100, 97, 121]⟩ : ByteArray)] : List ByteArray) vt27), .string ⟨#[]⟩], .tuple #[(ag_Frame vt77 A157 c158 A162 c163), iV vt78], (ag_Frame vt77 A157 c158 A162 c163), iV vt78, uV, uV, uV, uV, uV, uV, uV, uV, uV, uV, uV, uV, uV, uV, uV, uV, uV, uV, uV, uV, uV, uV, uV, uV, uV, uV, uV, uV, uV, uV, uV, uV, uV, uV, uV, uV, uV, uV, uV, uV, uV, uV, uV, uV, uV, uV, uV, uV, uV, uV, uV, uV, uV, uV, uV, uV, uV, uV, uV, uV, uV, uV, uV, uV, uV, uV, uV, uV, uV, uV, uV, uV, uV, uV, uV, uV, uV, uV, uV, uV, uV, uV, uV, uV, uV, uV, uV, uV, uV, uV, uV, uV, uV, uV, uV, uV, uV, uV, uV, uV, uV, uV, uV, uV, uV, uV, uV, uV], []⟩ → R194 a_ W188 := by
  intro b103 s105 A122 c123 s124 A157 c158 s159 A162 c163 s164 b182 f186 W188 a_ L187 HO190 HO191 HO192 HO193 HS189 hfr_; subst hfr_
  refine hR195 _ _ ?_
  refine takeGE 15 kr rfl (wanted_none rfl _) ?_
  refine does_store (n := 4) (vs := [.int .i64 vt77.W, .int .i64 vt77.H, .slice A157 vt77.Cards.length c158, .slice A162 vt77.Counts.length c163]) (cs' := #[.int .i64 vt77.W, .int .i64 vt77.H, .slice A157 vt77.Cards.length c158, .slice A162 vt77.Counts.length c163]) rfl kr (kv (.pointer (some ⟨b182, 0, none⟩))) (kv (.agg #[.int .i64 vt77.W, .int .i64 vt77.H, .slice A157 vt77.Cards.length c158, .slice A162 vt77.Counts.length c163])) rfl rfl (by intro u_ hu_; simp only [List.mem_cons, List.not_mem_nil, or_false] at hu_; rcases hu_ with rfl | rfl | rfl | rfl <;> rfl) HS189 (Nat.le_of_ble_eq_true rfl) kr ?_
  intro W389 HS390
  refine ⟨(Sg.g0 (Sx.of [[(b182, .cells #[.int .i64 vt77.W, .int .i64 vt77.H, .slice A157 vt77.Cards.length c158, .slice A162 vt77.Counts.length c163] 29 (0, 0))], s105, s159, s164, s124] L187 HS390)), ?_⟩
  refine takeGL [16] (n := 1) (fuel := 0) #[true, true, true, true, true, true, true, true, true, true, true, true, true, true, true, true, true] rfl kr kr kr hnp (Sg.g0 (Sx.of [[(b182, .cells #[.int .i64 vt77.W, .int .i64 vt77.H, .slice A157 vt77.Cards.length c158, .slice A162 vt77.Counts.length c163] 29 (0, 0))], s105, s159, s164, s124] L187 HS390)) ?_
  refine hR210 _ _ ?_
  exact J211 b103 s105 A122 c123 s124 A157 c158 s159 A162 c163 s164 b182 f186 W389 _ L187 HO190 HO191 HO192 HO193 HS390 kr
 have J181 : ∀ (b103 : Nat) (s105 : Seg) (A122 : Option Addr) (c123 : Nat) (s124 : Seg) (A157 : Option Addr) (c158 : Nat) (s159 : Seg) (A162 : Option Addr) (c163 : Nat) (s164 : Seg) (f170 : FM) (W172 : World) (a_ : Act), FM.le f41 f170 → Own ty_Card 51 f170 A157 c158 s159 vt77.Cards → Own (tInt .i64) 3 f170 A162 c163 s164 vt77.Counts → Own (tInt .i64) 3 f170 (some ⟨b103, 0, none⟩) 1 s105 ([0] : List Int) → Own (tInt .u8) 5 f170 A122 c123 s124 vt60 → St t W172 f170 (s105 :: s159 :: s164 :: s124 :: s19 :: s11 :: H) → a_ = ⟨#[iV (Int.tmod n1 1073741824), iV vt27, iV vt33, iV vt39, uV, uV, uV, uV, fV, .slice (some ⟨b9, 0, none⟩) ([(⟨#[116, 105, 99, 107]⟩ : ByteArray), (⟨#[98, 101, 97, 116]⟩ : ByteArray), (⟨#[115, 101, 99, 111, 110, 100]⟩ : ByteArray), (⟨#[109, 105, 110, 117, 116, 101]⟩ : ByteArray), (⟨#[104, 111, 117, 114]⟩ : ByteArray), (⟨#[100, 97, 121]⟩ : ByteArray)] : List ByteArray).length 6, .slice (some ⟨b17, 0, none⟩) ([1, 1000, 1000, 60000, 3600000, 86400000] : List Int).length 6, uV, uV, uV, uV, uV, uV, .slice (some ⟨b9, 0, none⟩) ([(⟨#[116, 105, 99, 107]⟩ : ByteArray), (⟨#[98, 101, 97, 116]⟩ : ByteArray), (⟨#[115, 101, 99, 111, 110, 100]⟩ : ByteArray), (⟨#[109, 105, 110, 117, 116, 101]⟩ : ByteArray), (⟨#[104, 111, 117, 114]⟩ : ByteArray), (⟨#[100, 97, 121]⟩ : ByteArray)] : List ByteArray).length 6, .slice (some ⟨b17, 0, none⟩) ([1, 1000, 1000, 60000, 3600000, 86400000] : List Int).length 6, iV n1, iV (Int.tmod n1 1073741824), iV vfrom2, iV vt27, iV a3, iV vt33, iV b4, iV vt39, .tuple #[(ag_Frame vt77 A157 c158 A162 c163), iV vt78], .slice (some ⟨b103, 0, none⟩) ([0] : List Int).length 1, .agg #[iV 1, iV 1, .slice none 0 0, .slice (some ⟨b103, 0, none⟩) ([0] : List Int).length 1], iV (Int.tmod n1 1073741824), .slice A122 vt60.length c123, .string (bstr vt60), .slice (some ⟨b9, 0, none⟩) ([(⟨#[116, 105, 99, 107]⟩ : ByteArray), (⟨#[98, 101, 97, 116]⟩ : ByteArray), (⟨#[115, 101, 99, 111, 110, 100]⟩ : ByteArray), (⟨#[109, 105, 110, 117, 116, 101]⟩ : ByteArray), (⟨#[104, 111, 117, 114]⟩ : ByteArray), (⟨#[100, 97, 121]⟩ : ByteArray)] : List ByteArray).length 6, iV vt27, pV b9 (0 + (vt27 : Int).toNat * 1), .string (rd ([(⟨#[116, 105, 99, 107]⟩ : ByteArray), (⟨#[98, 101, 97, 116]⟩ : ByteArray), (⟨#[115, 101, 99, 111, 110, 100]⟩ : ByteArray), (⟨#[109, 105, 110, 117, 116, 101]⟩ : ByteArray), (⟨#[104, 111, 117, 114]⟩ : ByteArray), (⟨#[100, 97, 121]⟩ : ByteArray)] : List ByteArray) vt27), .agg #[.string ⟨#[84]⟩, .string (bstr vt60), .string (rd ([(⟨#[116, 105, 99, 107]⟩ : ByteArray), (⟨#[98, 101, 97, 116]⟩ : ByteArray), (⟨#[115, 101, 99, 111, 110, 100]⟩ : ByteArray), (⟨#[109, 105, 110, 117, 116, 101]⟩ : ByteArray), (⟨#[104, 111, 117, 114]⟩ : ByteArray), (⟨#[100, 97, 121]⟩ : ByteArray)] : List ByteArray) vt27), .string ⟨#[]⟩], .tuple #[(ag_Frame vt77 A157 c158 A162 c163), iV vt78], (ag_Frame vt77 A157 c158 A162 c163), iV vt78, uV, uV, uV, uV, uV, uV, uV, uV, uV, uV, uV, uV, uV, uV, uV, uV, uV, uV, uV, uV, uV, uV, uV, uV, uV, uV, uV, uV, uV, uV, uV, uV, uV, uV, uV, uV, uV, uV, uV, uV, uV, uV, uV, uV, uV, uV, uV, uV, uV, uV, uV, uV, uV, uV, uV, uV, uV, uV, uV, uV, uV, uV, uV, uV, uV, uV, uV, uV, uV, uV, uV, uV, uV, uV, uV, uV, uV, uV, uV, uV, uV, uV, uV, uV, uV, uV, uV, uV, uV, uV, uV, uV, uV, uV, uV, uV, uV, uV, uV, uV, uV, uV, uV, uV, uV, uV, uV, uV], []⟩ → R178 a_ W172 := by
  intro b103 s105 A122 c123 s124 A157 c158 s159 A162 c163 s164 f170 W172 a_ L171 HO174 HO175 HO176 HO177 HS173 hfr_; subst hfr_
  refine hR179 _ _ ?_
  refine takeGE 14 kr rfl (wanted_none rfl _) ?_
  refine does_alloc (z := Value.agg #[.int .i64 0, .int .i64 0, .slice none 0 0, .slice none 0 0]) (cs := #[.int .i64 0, .int .i64 0, .slice none 0 0, .slice none 0 0]) rfl kr rfl HS173 ?_
  intro b391 W392 HS393
  refine ⟨(Sg.g0 (Sx.of [[(b391, .cells #[.int .i64 0, .int .i64 0, .slice none 0 0, .slice none 0 0] 29 (0, 0))], s105, s159, s164, s124] L171 HS393)), ?_⟩
  refine hR196 _ _ ?_
  exact J197 b103 s105 A122 c123 s124 A157 c158 s159 A162 c163 s164 b391 f170 W392 _ L171 HO174 HO175 HO176 HO177 HS393 kr
 have J225 : ∀ (b103 : Nat) (s105 : Seg) (A122 : Option Addr) (c123 : Nat) (s124 : Seg) (b212 : Nat) (f216 : FM) (W218 : World) (a_ : Act), FM.le f41 f216 → Own (tInt .i64) 3 f216 (some ⟨b103, 0, none⟩) 1 s105 ([0] : List Int) → Own (tInt .u8) 5 f216 A122 c123 s124 vt60 → St t W218 f216 ([(b212, .cells #[.int .i64 0, .int .i64 0, .slice none 0 0, .slice none 0 0] 29 (0, 0))] :: s124 :: s105 :: s19 :: s11 :: H) → a_ = ⟨#[iV (Int.tmod n1 1073741824), iV vt27, iV vt33, iV vt39, uV, uV, uV, uV, fV, .slice (some ⟨b9, 0, none⟩) ([(⟨#[116, 105, 99, 107]⟩ : ByteArray), (⟨#[98, 101, 97, 116]⟩ : ByteArray), (⟨#[115, 101, 99, 111, 110, 100]⟩ : ByteArray), (⟨#[109, 105, 110, 117, 116, 101]⟩ : ByteArray), (⟨#[104, 111, 117, 114]⟩ : ByteArray), (⟨#[100, 97, 121]⟩ : ByteArray)] : List ByteArray).length 6, .slice (some ⟨b17, 0, none⟩) ([1, 1000, 1000, 60000, 3600000, 86400000] : List Int).length 6, pV b212 0, uV, uV, uV, uV, uV, .slice (some ⟨b9, 0, none⟩) ([(⟨#[116, 105, 99, 107]⟩ : ByteArray), (⟨#[98, 101, 97, 116]⟩ : ByteArray), (⟨#[115, 101, 99, 111, 110, 100]⟩ : ByteArray), (⟨#[109, 105, 110, 117, 116, 101]⟩ : ByteArray), (⟨#[104, 111, 117, 114]⟩ : ByteArray), (⟨#[100, 97, 121]⟩ : ByteArray)] : List ByteArray).length 6, .slice (some ⟨b17, 0, none⟩) ([1, 1000, 1000, 60000, 3600000, 86400000] : List Int).length 6, iV n1, iV (Int.tmod n1 1073741824), iV vfrom2, iV vt27, iV a3, iV vt33, iV b4, iV vt39, uV, .slice (some ⟨b103, 0, none⟩) ([0] : List Int).length 1, .agg #[iV 1, iV 1, .slice none 0 0, .slice (some ⟨b103, 0, none⟩) ([0] : List Int).length 1], iV (Int.tmod n1 1073741824), .slice A122 vt60.length c123, .string (bstr vt60), .slice (some ⟨b9, 0, none⟩) ([(⟨#[116, 105, 99, 107]⟩ : ByteArray), (⟨#[98, 101, 97, 116]⟩ : ByteArray), (⟨#[115, 101, 99, 111, 110, 100]⟩ : ByteArray), (⟨#[109, 105, 110, 117, 116, 101]⟩ : ByteArray), (⟨#[104, 111, 117, 114]⟩ : ByteArray), (⟨#[100, 97, 121]⟩ : ByteArray)] : List ByteArray).length 6, iV vt27, pV b9 (0 + (vt27 : Int).toNat * 1), .string (rd ([(⟨#[116, 105, 99, 107]⟩ : ByteArray), (⟨#[98, 101, 97, 116]⟩ : ByteArray), (⟨#[115, 101, 99, 111, 110, 100]⟩ : ByteArray), (⟨#[109, 105, 110, 117, 116, 101]⟩ : ByteArray), (⟨#[104, 111, 117, 114]⟩ : ByteArray), (⟨#[100, 97, 121]⟩ : ByteArray)] : List ByteArray) vt27), .agg #[.string ⟨#[84]⟩, .string (bstr vt60), .string (rd ([(⟨#[116, 105, 99, 107]⟩ : ByteArray), (⟨#[98, 101, 97, 116]⟩ : ByteArray), (⟨#[115, 101, 99, 111, 110, 100]⟩ : ByteArray), (⟨#[109, 105, 110, 117, 116, 101]⟩ : ByteArray), (⟨#[104, 111, 117, 114]⟩ : ByteArray), (⟨#[100, 97, 121]⟩ : ByteArray)] : List ByteArray) vt27), .string ⟨#[]⟩], uV, uV, uV, uV, uV, uV, uV, uV, uV, uV, uV, uV, uV, uV, uV, uV, uV, uV, uV, uV, uV, uV, uV, uV, uV, uV, uV, uV, uV, uV, uV, uV, uV, uV, uV, uV, uV, uV, uV, uV, uV, uV, uV, uV, uV, uV, uV, uV, uV, uV, uV, uV, uV, uV, uV, uV, uV, uV, uV, uV, uV, uV, uV, uV, uV, uV, uV, uV, uV, uV, uV, uV, uV, uV, uV, uV, uV, uV, uV, uV, uV, uV, uV, uV, uV, uV, uV, uV, uV, uV, uV, uV, uV, uV, uV, uV, uV, uV, uV, uV, uV, uV, uV, uV, uV, uV, uV, uV, uV, uV, uV], []⟩ → R222 a_ W218 := by
  intro b103 s105 A122 c123 s124 b212 f216 W218 a_ L217 HO220 HO221 HS219 hfr_; subst hfr_
  refine hR223 _ _ ?_
  refine takeGE 10 kr rfl (wanted_none rfl _) ?_
  have HS395 := HS219.u2
  obtain ⟨f396, L397, HS398, HR399, th400⟩ := HO220.lend HS395
  refine does_call (f := 17) (args := #[.agg #[.int .i64 1, .int .i64 1, .slice none 0 0, .slice (some ⟨b103, 0, none⟩) ([0] : List Int).length 1], .agg #[.string ⟨#[84]⟩, .string (bstr vt60), .string (rd ([(⟨#[116, 105, 99, 107]⟩ : ByteArray), (⟨#[98, 101, 97, 116]⟩ : ByteArray), (⟨#[115, 101, 99, 111, 110, 100]⟩ : ByteArray), (⟨#[109, 105, 110, 117, 116, 101]⟩ : ByteArray), (⟨#[104, 111, 117, 114]⟩ : ByteArray), (⟨#[100, 97, 121]⟩ : ByteArray)] : List ByteArray) vt27), .string ⟨#[]⟩]]) kr (frame_Set.calls k none 0 (some ⟨b103, 0, none⟩) 1 (⟨1, 1, ([] : List S_Card), ([0] : List Int)⟩ : S_Frame) (⟨(⟨#[84]⟩ : ByteArray), (bstr vt60), (rd ([(⟨#[116, 105, 99, 107]⟩ : ByteArray), (⟨#[98, 101, 97, 116]⟩ : ByteArray), (⟨#[115, 101, 99, 111, 110, 100]⟩ : ByteArray), (⟨#[109, 105, 110, 117, 116, 101]⟩ : ByteArray), (⟨#[104, 111, 117, 114]⟩ : ByteArray), (⟨#[100, 97, 121]⟩ : ByteArray)] : List ByteArray) vt27), (⟨#[]⟩ : ByteArray)⟩ : S_Card) HS398 (SlR.nil _ _) HR399 (HA.mono (L30.trans (L36.trans (L42.trans (L217.trans L397))))) vt77 vt78 hc79) ?_
  rintro _ W403 ⟨f401, A405, c406, s407, A410, c411, s412, rfl, L402, HS404, HO408, HO413⟩
  refine ⟨_, rfl, ?_⟩
  obtain ⟨f415, L416, HS417⟩ := th400 L402 HS404
  replace HO408 := HO408.flat (g := f415) (fun _ _ _ _ h_ => h_)
  replace HO413 := HO413.flat (g := f415) (fun _ _ _ _ h_ => h_)
  refine ⟨(Sg.g0 (Sx.of [s105, s407, s412, [(b212, .cells #[.int .i64 0, .int .i64 0, .slice none 0 0, .slice none 0 0] 29 (0, 0))], s124] (L217.trans L416) HS417)), ?_⟩
  refine takeGL [11, 12, 13] (n := 5) (fuel := 2) #[true, true, true, true, true, true, true, true, true, true, true, true, true, true, true, false, false] rfl kr kr kr hnp (Sg.g0 (Sx.of [s105, s407, s412, [(b212, .cells #[.int .i64 0, .int .i64 0, .slice none 0 0, .slice none 0 0] 29 (0, 0))], s124] (L217.trans L416) HS417)) ?_
  have HS418 := HS417.u6
  have HS419 := HS418.u6
  have HS420 := HS419.u6
  have HS421 := HS420.u5
  have HS422 := HS421.u5
  have HS423 := HS422.u5
  have HS424 := HS423.u6
  refine hR196 _ _ ?_
  exact J197 b103 s105 A122 c123 s124 A405 c406 s407 A410 c411 s412 b212 f415 W403 _ (L217.trans L416) HO408 HO413 (HO220.mono L416) (HO221.mono L416) HS424 kr
 have J146 : ∀ (b103 : Nat) (s105 : Seg) (A122 : Option Addr) (c123 : Nat) (s124 : Seg) (f137 : FM) (W139 : World) (a_ : Act), FM.le f41 f137 → Own (tInt .i64) 3 f137 (some ⟨b103, 0, none⟩) 1 s105 ([0] : List Int) → Own (tInt .u8) 5 f137 A122 c123 s124 vt60 → St t W139 f137 (s124 :: s105 :: s19 :: s11 :: H) → a_ = ⟨#[iV (Int.tmod n1 1073741824), iV vt27, iV vt33, iV vt39, uV, uV, uV, uV, fV, .slice (some ⟨b9, 0, none⟩) ([(⟨#[116, 105, 99, 107]⟩ : ByteArray), (⟨#[98, 101, 97, 116]⟩ : ByteArray), (⟨#[115, 101, 99, 111, 110, 100]⟩ : ByteArray), (⟨#[109, 105, 110, 117, 116, 101]⟩ : ByteArray), (⟨#[104, 111, 117, 114]⟩ : ByteArray), (⟨#[100, 97, 121]⟩ : ByteArray)] : List ByteArray).length 6, .slice (some ⟨b17, 0, none⟩) ([1, 1000, 1000, 60000, 3600000, 86400000] : List Int).length 6, uV, uV, uV, uV, uV, uV, .slice (some ⟨b9, 0, none⟩) ([(⟨#[116, 105, 99, 107]⟩ : ByteArray), (⟨#[98, 101, 97, 116]⟩ : ByteArray), (⟨#[115, 101, 99, 111, 110, 100]⟩ : ByteArray), (⟨#[109, 105, 110, 117, 116, 101]⟩ : ByteArray), (⟨#[104, 111, 117, 114]⟩ : ByteArray), (⟨#[100, 97, 121]⟩ : ByteArray)] : List ByteArray).length 6, .slice (some ⟨b17, 0, none⟩) ([1, 1000, 1000, 60000, 3600000, 86400000] : List Int).length 6, iV n1, iV (Int.tmod n1 1073741824), iV vfrom2, iV vt27, iV a3, iV vt33, iV b4, iV vt39, uV, .slice (some ⟨b103, 0, none⟩) ([0] : List Int).length 1, .agg #[iV 1, iV 1, .slice none 0 0, .slice (some ⟨b103, 0, none⟩) ([0] : List Int).length 1], iV (Int.tmod n1 1073741824), .slice A122 vt60.length c123, .string (bstr vt60), .slice (some ⟨b9, 0, none⟩) ([(⟨#[116, 105, 99, 107]⟩ : ByteArray), (⟨#[98, 101, 97, 116]⟩ : ByteArray), (⟨#[115, 101, 99, 111, 110, 100]⟩ : ByteArray), (⟨#[109, 105, 110, 117, 116, 101]⟩ : ByteArray), (⟨#[104, 111, 117, 114]⟩ : ByteArray), (⟨#[100, 97, 121]⟩ : ByteArray)] : List ByteArray).length 6, iV vt27, pV b9 (0 + (vt27 : Int).toNat * 1), .string (rd ([(⟨#[116, 105, 99, 107]⟩ : ByteArray), (⟨#[98, 101, 97, 116]⟩ : ByteArray), (⟨#[115, 101, 99, 111, 110, 100]⟩ : ByteArray), (⟨#[109, 105, 110, 117, 116, 101]⟩ : ByteArray), (⟨#[104, 111, 117, 114]⟩ : ByteArray), (⟨#[100, 97, 121]⟩ : ByteArray)] : List ByteArray) vt27), .agg #[.string ⟨#[84]⟩, .string (bstr vt60), .string (rd ([(⟨#[116, 105, 99, 107]⟩ : ByteArray), (⟨#[98, 101, 97, 116]⟩ : ByteArray), (⟨#[115, 101, 99, 111, 110, 100]⟩ : ByteArray), (⟨#[109, 105, 110, 117, 116, 101]⟩ : ByteArray), (⟨#[104, 111, 117, 114]⟩ : ByteArray), (⟨#[100, 97, 121]⟩ : ByteArray)] : List ByteArray) vt27), .string ⟨#[]⟩], uV, uV, uV, uV, uV, uV, uV, uV, uV, uV, uV, uV, uV, uV, uV, uV, uV, uV, uV, uV, uV, uV, uV, uV, uV, uV, uV, uV, uV, uV, uV, uV, uV, uV, uV, uV, uV, uV, uV, uV, uV, uV, uV, uV, uV, uV, uV, uV, uV, uV, uV, uV, uV, uV, uV, uV, uV, uV, uV, uV, uV, uV, uV, uV, uV, uV, uV, uV, uV, uV, uV, uV, uV, uV, uV, uV, uV, uV, uV, uV, uV, uV, uV, uV, uV, uV, uV, uV, uV, uV, uV, uV, uV, uV, uV, uV, uV, uV, uV, uV, uV, uV, uV, uV, uV, uV, uV, uV, uV, uV, uV], []⟩ → R143 a_ W139 := by
  intro b103 s105 A122 c123 s124 f137 W139 a_ L138 HO141 HO142 HS140 hfr_; subst hfr_
  refine hR144 _ _ ?_
  refine takeEither 10 14 kr rfl rfl rfl rfl ?_ ?_
  · have HS425 := HS140.u1
    obtain ⟨f426, L427, HS428, HR429, th430⟩ := HO141.lend HS425
    refine does_call (f := 17) (args := #[.agg #[.int .i64 1, .int .i64 1, .slice none 0 0, .slice (some ⟨b103, 0, none⟩) ([0] : List Int).length 1], .agg #[.string ⟨#[84]⟩, .string (bstr vt60), .string (rd ([(⟨#[116, 105, 99, 107]⟩ : ByteArray), (⟨#[98, 101, 97, 116]⟩ : ByteArray), (⟨#[115, 101, 99, 111, 110, 100]⟩ : ByteArray), (⟨#[109, 105, 110, 117, 116, 101]⟩ : ByteArray), (⟨#[104, 111, 117, 114]⟩ : ByteArray), (⟨#[100, 97, 121]⟩ : ByteArray)] : List ByteArray) vt27), .string ⟨#[]⟩]]) kr (frame_Set.calls k none 0 (some ⟨b103, 0, none⟩) 1 (⟨1, 1, ([] : List S_Card), ([0] : List Int)⟩ : S_Frame) (⟨(⟨#[84]⟩ : ByteArray), (bstr vt60), (rd ([(⟨#[116, 105, 99, 107]⟩ : ByteArray), (⟨#[98, 101, 97, 116]⟩ : ByteArray), (⟨#[115, 101, 99, 111, 110, 100]⟩ : ByteArray), (⟨#[109, 105, 110, 117, 116, 101]⟩ : ByteArray), (⟨#[104, 111, 117, 114]⟩ : ByteArray), (⟨#[100, 97, 121]⟩ : ByteArray)] : List ByteArray) vt27), (⟨#[]⟩ : ByteArray)⟩ : S_Card) HS428 (SlR.nil _ _) HR429 (HA.mono (L30.trans (L36.trans (L42.trans (L138.trans L427))))) vt77 vt78 hc79) ?_
    rintro _ W433 ⟨f431, A435, c436, s437, A440, c441, s442, rfl, L432, HS434, HO438, HO443⟩
    refine ⟨_, rfl, ?_⟩
    obtain ⟨f445, L446, HS447⟩ := th430 L432 HS434
    replace HO438 := HO438.flat (g := f445) (fun _ _ _ _ h_ => h_)
    replace HO443 := HO443.flat (g := f445) (fun _ _ _ _ h_ => h_)
    refine ⟨(Sg.g0 (Sx.of [s105, s437, s442, s124] (L138.trans L446) HS447)), ?_⟩
    refine takeGL [11, 12, 13] (n := 6) (fuel := 3) #[true, true, true, true, true, true, true, true, true, true, true, true, true, true, false, false, false] rfl kr kr kr hnp (Sg.g0 (Sx.of [s105, s437, s442, s124] (L138.trans L446) HS447)) ?_
    refine hR180 _ _ ?_
    exact J181 b103 s105 A122 c123 s124 A435 c436 s437 A440 c441 s442 f445 W433 _ (L138.trans L446) HO438 HO443 (HO141.mono L446) (HO142.mono L446) HS447 kr
  · refine does_alloc (z := Value.agg #[.int .i64 0, .int .i64 0, .slice none 0 0, .slice none 0 0]) (cs := #[.int .i64 0, .int .i64 0, .slice none 0 0, .slice none 0 0]) rfl kr rfl HS140 ?_
    intro b448 W449 HS450
    refine ⟨(Sg.g0 (Sx.of [[(b448, .cells #[.int .i64 0, .int .i64 0, .slice none 0 0, .slice none 0 0] 29 (0, 0))], s124, s105] L138 HS450)), ?_⟩
    refine hR224 _ _ ?_
    exact J225 b103 s105 A122 c123 s124 b448 f137 W449 _ L138 HO141 HO142 HS450 kr
 have J262 : ∀ (b103 : Nat) (s105 : Seg) (A122 : Option Addr) (c123 : Nat) (s124 : Seg) (b249 : Nat) (f253 : FM) (W255 : World) (a_ : Act), FM.le f41 f253 → Own (tInt .i64) 3 f253 (some ⟨b103, 0, none⟩) 1 s105 ([0] : List Int) → Own (tInt .u8) 5 f253 A122 c123 s124 vt60 → St t W255 f253 ([(b249, .cells #[.int .i64 0, .int .i64 0, .slice none 0 0, .slice none 0 0] 29 (0, 0))] :: s124 :: s105 :: s19 :: s11 :: H) → a_ = ⟨#[iV (Int.tmod n1 1073741824), iV vt27, iV vt33, iV vt39, uV, uV, uV, uV, fV, .slice (some ⟨b9, 0, none⟩) ([(⟨#[116, 105, 99, 107]⟩ : ByteArray), (⟨#[98, 101, 97, 116]⟩ : ByteArray), (⟨#[115, 101, 99, 111, 110, 100]⟩ : ByteArray), (⟨#[109, 105, 110, 117, 116, 101]⟩ : ByteArray), (⟨#[104, 111, 117, 114]⟩ : ByteArray), (⟨#[100, 97, 121]⟩ : ByteArray)] : List ByteArray).length 6, .slice (some ⟨b17, 0, none⟩) ([1, 1000, 1000, 60000, 3600000, 86400000] : List Int).length 6, pV b249 0, uV, uV, uV, uV, uV, .slice (some ⟨b9, 0, none⟩) ([(⟨#[116, 105, 99, 107]⟩ : ByteArray), (⟨#[98, 101, 97, 116]⟩ : ByteArray), (⟨#[115, 101, 99, 111, 110, 100]⟩ : ByteArray), (⟨#[109, 105, 110, 117, 116, 101]⟩ : ByteArray), (⟨#[104, 111, 117, 114]⟩ : ByteArray), (⟨#[100, 97, 121]⟩ : ByteArray)] : List ByteArray).length 6, .slice (some ⟨b17, 0, none⟩) ([1, 1000, 1000, 60000, 3600000, 86400000] : List Int).length 6, iV n1, iV (Int.tmod n1 1073741824), iV vfrom2, iV vt27, iV a3, iV vt33, iV b4, iV vt39, uV, .slice (some ⟨b103, 0, none⟩) ([0] : List Int).length 1, .agg #[iV 1, iV 1, .slice none 0 0, .slice (some ⟨b103, 0, none⟩) ([0] : List Int).length 1], iV (Int.tmod n1 1073741824), .slice A122 vt60.length c123, uV, .slice (some ⟨b9, 0, none⟩) ([(⟨#[116, 105, 99, 107]⟩ : ByteArray), (⟨#[98, 101, 97, 116]⟩ : ByteArray), (⟨#[115, 101, 99, 111, 110, 100]⟩ : ByteArray), (⟨#[109, 105, 110, 117, 116, 101]⟩ : ByteArray), (⟨#[104, 111, 117, 114]⟩ : ByteArray), (⟨#[100, 97, 121]⟩ : ByteArray)] : List ByteArray).length 6, iV vt27, pV b9 (0 + (vt27 : Int).toNat * 1), .string (rd ([(⟨#[116, 105, 99, 107]⟩ : ByteArray), (⟨#[98, 101, 97, 116]⟩ : ByteArray), (⟨#[115, 101, 99, 111, 110, 100]⟩ : ByteArray), (⟨#[109, 105, 110, 117, 116, 101]⟩ : ByteArray), (⟨#[104, 111, 117, 114]⟩ : ByteArray), (⟨#[100, 97, 121]⟩ : ByteArray)] : List ByteArray) vt27), uV, uV, uV, uV, uV, uV, uV, uV, uV, uV, uV, uV, uV, uV, uV, uV, uV, uV, uV, uV, uV, uV, uV, uV, uV, uV, uV, uV, uV, uV, uV, uV, uV, uV, uV, uV, uV, uV, uV, uV, uV, uV, uV, uV, uV, uV, uV, uV, uV, uV, uV, uV, uV, uV, uV, uV, uV, uV, uV, uV, uV, uV, uV, uV, uV, uV, uV, uV, uV, uV, uV, uV, uV, uV, uV, uV, uV, uV, uV, uV, uV, uV, uV, uV, uV, uV, uV, uV, uV, uV, uV, uV, uV, uV, uV, uV, uV, uV, uV, uV, uV, uV, uV, uV, uV, uV, uV, uV, uV, uV, uV, uV], []⟩ → R259 a_ W255 := by
  intro b103 s105 A122 c123 s124 b249 f253 W255 a_ L254 HO257 HO258 HS256 hfr_; subst hfr_
  refine hR260 _ _ ?_
  refine takeGE 4 kr rfl (wanted_none rfl _) ?_
  refine does_run (run_bstr (f := _) rfl Tryz.underlying23 Tryz.underlying5 Tryz.underlying9 (kv (.slice A122 vt60.length c123)) ((HO258.mono (FM.le.refl _)).rc HS256.u1)) ?_
  refine ⟨(Sg.g0 (Sx.of [[(b249, .cells #[.int .i64 0, .int .i64 0, .slice none 0 0, .slice none 0 0] 29 (0, 0))], s124, s105] L254 HS256)), ?_⟩
  refine takeGL [9] (n := 7) (fuel := 6) #[true, true, true, true, true, true, true, true, true, true, false, false, false, false, true, false, false] rfl kr kr kr hnp (Sg.g0 (Sx.of [[(b249, .cells #[.int .i64 0, .int .i64 0, .slice none 0 0, .slice none 0 0] 29 (0, 0))], s124, s105] L254 HS256)) ?_
  refine hR224 _ _ ?_
  exact J225 b103 s105 A122 c123 s124 b249 f253 W255 _ L254 HO257 HO258 HS256 kr
 have J336 : ∀ (A289 : Option Addr) (c290 : Nat) (s291 : Seg) (b324 : Nat) (f328 : FM) (W330 : World) (a_ : Act), FM.le f41 f328 → Own (tInt .u8) 5 f328 A289 c290 s291 vt60 → St t W330 f328 ([(b324, .cells #[.int .i64 0, .int .i64 0, .slice none 0 0, .slice none 0 0] 29 (0, 0))] :: s291 :: s19 :: s11 :: H) → a_ = ⟨#[iV (Int.tmod n1 1073741824), iV vt27, iV vt33, iV vt39, uV, uV, uV, uV, fV, .slice (some ⟨b9, 0, none⟩) ([(⟨#[116, 105, 99, 107]⟩ : ByteArray), (⟨#[98, 101, 97, 116]⟩ : ByteArray), (⟨#[115, 101, 99, 111, 110, 100]⟩ : ByteArray), (⟨#[109, 105, 110, 117, 116, 101]⟩ : ByteArray), (⟨#[104, 111, 117, 114]⟩ : ByteArray), (⟨#[100, 97, 121]⟩ : ByteArray)] : List ByteArray).length 6, .slice (some ⟨b17, 0, none⟩) ([1, 1000, 1000, 60000, 3600000, 86400000] : List Int).length 6, pV b324 0, uV, uV, uV, uV, uV, .slice (some ⟨b9, 0, none⟩) ([(⟨#[116, 105, 99, 107]⟩ : ByteArray), (⟨#[98, 101, 97, 116]⟩ : ByteArray), (⟨#[115, 101, 99, 111, 110, 100]⟩ : ByteArray), (⟨#[109, 105, 110, 117, 116, 101]⟩ : ByteArray), (⟨#[104, 111, 117, 114]⟩ : ByteArray), (⟨#[100, 97, 121]⟩ : ByteArray)] : List ByteArray).length 6, .slice (some ⟨b17, 0, none⟩) ([1, 1000, 1000, 60000, 3600000, 86400000] : List Int).length 6, iV n1, iV (Int.tmod n1 1073741824), iV vfrom2, iV vt27, iV a3, iV vt33, iV b4, iV vt39, uV, uV, uV, iV (Int.tmod n1 1073741824), .slice A289 vt60.length c290, .string (bstr vt60), .slice (some ⟨b9, 0, none⟩) ([(⟨#[116, 105, 99, 107]⟩ : ByteArray), (⟨#[98, 101, 97, 116]⟩ : ByteArray), (⟨#[115, 101, 99, 111, 110, 100]⟩ : ByteArray), (⟨#[109, 105, 110, 117, 116, 101]⟩ : ByteArray), (⟨#[104, 111, 117, 114]⟩ : ByteArray), (⟨#[100, 97, 121]⟩ : ByteArray)] : List ByteArray).length 6, iV vt27, pV b9 (0 + (vt27 : Int).toNat * 1), .string (rd ([(⟨#[116, 105, 99, 107]⟩ : ByteArray), (⟨#[98, 101, 97, 116]⟩ : ByteArray), (⟨#[115, 101, 99, 111, 110, 100]⟩ : ByteArray), (⟨#[109, 105, 110, 117, 116, 101]⟩ : ByteArray), (⟨#[104, 111, 117, 114]⟩ : ByteArray), (⟨#[100, 97, 121]⟩ : ByteArray)] : List ByteArray) vt27), .agg #[.string ⟨#[84]⟩, .string (bstr vt60), .string (rd ([(⟨#[116, 105, 99, 107]⟩ : ByteArray), (⟨#[98, 101, 97, 116]⟩ : ByteArray), (⟨#[115, 101, 99, 111, 110, 100]⟩ : ByteArray), (⟨#[109, 105, 110, 117, 116, 101]⟩ : ByteArray), (⟨#[104, 111, 117, 114]⟩ : ByteArray), (⟨#[100, 97, 121]⟩ : ByteArray)] : List ByteArray) vt27), .string ⟨#[]⟩], uV, uV, uV, uV, uV, uV, uV, uV, uV, uV, uV, uV, uV, uV, uV, uV, uV, uV, uV, uV, uV, uV, uV, uV, uV, uV, uV, uV, uV, uV, uV, uV, uV, uV, uV, uV, uV, uV, uV, uV, uV, uV, uV, uV, uV, uV, uV, uV, uV, uV, uV, uV, uV, uV, uV, uV, uV, uV, uV, uV, uV, uV, uV, uV, uV, uV, uV, uV, uV, uV, uV, uV, uV, uV, uV, uV, uV, uV, uV, uV, uV, uV, uV, uV, uV, uV, uV, uV, uV, uV, uV, uV, uV, uV, uV, uV, uV, uV, uV, uV, uV, uV, uV, uV, uV, uV, uV, uV, uV, uV, uV], []⟩ → R333 a_ W330 := by
  intro A289 c290 s291 b324 f328 W330 a_ L329 HO332 HS331 hfr_; subst hfr_
  refine hR334 _ _ ?_
  refine takeGE 0 kr rfl (wanted_none rfl _) ?_
  refine does_lit (e := (tInt .i64)) (E := 3) (vs := #[(0, Value.int .i64 0)]) (cs := #[.int .i64 0]) (xs := ([0] : List Int)) rfl Tryz.underlying22 kr kr ⟨[.int .i64 0], _, rfl, rfl, rfl⟩ rfl HS331 ?_ (by decide)
  intro b452 W453 s454 HS455 _ HO456
  refine ⟨(Sg.g0 (Sx.of [s454, [(b324, .cells #[.int .i64 0, .int .i64 0, .slice none 0 0, .slice none 0 0] 29 (0, 0))], s291] L329 HS455)), ?_⟩
  refine takeGL [1] (n := 7) (fuel := 6) #[true, true, true, true, true, true, true, true, true, true, false, false, false, false, true, false, false] rfl kr kr kr hnp (Sg.g0 (Sx.of [s454, [(b324, .cells #[.int .i64 0, .int .i64 0, .slice none 0 0, .slice none 0 0] 29 (0, 0))], s291] L329 HS455)) ?_
  have HS458 := HS455.u4
  have HS459 := HS458.u4
  have HS460 := HS459.u2
  have HS461 := HS460.u4
  have HS462 := HS461.u4
  refine hR224 _ _ ?_
  exact J225 b452 s454 A289 c290 s291 b324 f328 W453 _ L329 HO456 HO332 HS462 kr
 have J136 : ∀ (b103 : Nat) (s105 : Seg) (A122 : Option Addr) (c123 : Nat) (s124 : Seg) (f127 : FM) (W129 : World) (a_ : Act), FM.le f41 f127 → Own (tInt .i64) 3 f127 (some ⟨b103, 0, none⟩) 1 s105 ([0] : List Int) → Own (tInt .u8) 5 f127 A122 c123 s124 vt60 → St t W129 f127 (s124 :: s105 :: s19 :: s11 :: H) → a_ = ⟨#[iV (Int.tmod n1 1073741824), iV vt27, iV vt33, iV vt39, uV, uV, uV, uV, fV, .slice (some ⟨b9, 0, none⟩) ([(⟨#[116, 105, 99, 107]⟩ : ByteArray), (⟨#[98, 101, 97, 116]⟩ : ByteArray), (⟨#[115, 101, 99, 111, 110, 100]⟩ : ByteArray), (⟨#[109, 105, 110, 117, 116, 101]⟩ : ByteArray), (⟨#[104, 111, 117, 114]⟩ : ByteArray), (⟨#[100, 97, 121]⟩ : ByteArray)] : List ByteArray).length 6, .slice (some ⟨b17, 0, none⟩) ([1, 1000, 1000, 60000, 3600000, 86400000] : List Int).length 6, uV, uV, uV, uV, uV, uV, .slice (some ⟨b9, 0, none⟩) ([(⟨#[116, 105, 99, 107]⟩ : ByteArray), (⟨#[98, 101, 97, 116]⟩ : ByteArray), (⟨#[115, 101, 99, 111, 110, 100]⟩ : ByteArray), (⟨#[109, 105, 110, 117, 116, 101]⟩ : ByteArray), (⟨#[104, 111, 117, 114]⟩ : ByteArray), (⟨#[100, 97, 121]⟩ : ByteArray)] : List ByteArray).length 6, .slice (some ⟨b17, 0, none⟩) ([1, 1000, 1000, 60000, 3600000, 86400000] : List Int).length 6, iV n1, iV (Int.tmod n1 1073741824), iV vfrom2, iV vt27, iV a3, iV vt33, iV b4, iV vt39, uV, .slice (some ⟨b103, 0, none⟩) ([0] : List Int).length 1, .agg #[iV 1, iV 1, .slice none 0 0, .slice (some ⟨b103, 0, none⟩) ([0] : List Int).length 1], iV (Int.tmod n1 1073741824), .slice A122 vt60.length c123, uV, .slice (some ⟨b9, 0, none⟩) ([(⟨#[116, 105, 99, 107]⟩ : ByteArray), (⟨#[98, 101, 97, 116]⟩ : ByteArray), (⟨#[115, 101, 99, 111, 110, 100]⟩ : ByteArray), (⟨#[109, 105, 110, 117, 116, 101]⟩ : ByteArray), (⟨#[104, 111, 117, 114]⟩ : ByteArray), (⟨#[100, 97, 121]⟩ : ByteArray)] : List ByteArray).length 6, iV vt27, pV b9 (0 + (vt27 : Int).toNat * 1), .string (rd ([(⟨#[116, 105, 99, 107]⟩ : ByteArray), (⟨#[98, 101, 97, 116]⟩ : ByteArray), (⟨#[115, 101, 99, 111, 110, 100]⟩ : ByteArray), (⟨#[109, 105, 110, 117, 116, 101]⟩ : ByteArray), (⟨#[104, 111, 117, 114]⟩ : ByteArray), (⟨#[100, 97, 121]⟩ : ByteArray)] : List ByteArray) vt27), uV, uV, uV, uV, uV, uV, uV, uV, uV, uV, uV, uV, uV, uV, uV, uV, uV, uV, uV, uV, uV, uV, uV, uV, uV, uV, uV, uV, uV, uV, uV, uV, uV, uV, uV, uV, uV, uV, uV, uV, uV, uV, uV, uV, uV, uV, uV, uV, uV, uV, uV, uV, uV, uV, uV, uV, uV, uV, uV, uV, uV, uV, uV, uV, uV, uV, uV, uV, uV, uV, uV, uV, uV, uV, uV, uV, uV, uV, uV, uV, uV, uV, uV, uV, uV, uV, uV, uV, uV, uV, uV, uV, uV, uV, uV, uV, uV, uV, uV, uV, uV, uV, uV, uV, uV, uV, uV, uV, uV, uV, uV, uV], []⟩ → R133 a_ W129 := by
  intro b103 s105 A122 c123 s124 f127 W129 a_ L128 HO131 HO132 HS130 hfr_; subst hfr_
  refine hR134 _ _ ?_
  refine takeEither 4 14 kr rfl rfl rfl rfl ?_ ?_
  · refine does_run (run_bstr (f := _) rfl Tryz.underlying23 Tryz.underlying5 Tryz.underlying9 (kv (.slice A122 vt60.length c123)) ((HO132.mono (FM.le.refl _)).rc HS130)) ?_
    refine ⟨(Sg.g0 (Sx.of [s124, s105] L128 HS130)), ?_⟩
    refine takeGL [9] (n := 8) (fuel := 7) #[true, true, true, true, true, true, true, true, true, true, false, false, false, false, false, false, false] rfl kr kr kr hnp (Sg.g0 (Sx.of [s124, s105] L128 HS130)) ?_
    refine hR145 _ _ ?_
    exact J146 b103 s105 A122 c123 s124 f127 W129 _ L128 HO131 HO132 HS130 kr
  · refine does_alloc (z := Value.agg #[.int .i64 0, .int .i64 0, .slice none 0 0, .slice none 0 0]) (cs := #[.int .i64 0, .int .i64 0, .slice none 0 0, .slice none 0 0]) rfl kr rfl HS130 ?_
    intro b463 W464 HS465
    refine ⟨(Sg.g0 (Sx.of [[(b463, .cells #[.int .i64 0, .int .i64 0, .slice none 0 0, .slice none 0 0] 29 (0, 0))], s124, s105] L128 HS465)), ?_⟩
    refine hR261 _ _ ?_
    exact J262 b103 s105 A122 c123 s124 b463 f127 W464 _ L128 HO131 HO132 HS465 kr
 have J275 : ∀ (b103 : Nat) (s105 : Seg) (b263 : Nat) (f267 : FM) (W269 : World) (a_ : Act), FM.le f41 f267 → Own (tInt .i64) 3 f267 (some ⟨b103, 0, none⟩) 1 s105 ([0] : List Int) → St t W269 f267 ([(b263, .cells #[.int .i64 0, .int .i64 0, .slice none 0 0, .slice none 0 0] 29 (0, 0))] :: s105 :: s19 :: s11 :: H) → a_ = ⟨#[iV (Int.tmod n1 1073741824), iV vt27, iV vt33, iV vt39, uV, uV, uV, uV, fV, .slice (some ⟨b9, 0, none⟩) ([(⟨#[116, 105, 99, 107]⟩ : ByteArray), (⟨#[98, 101, 97, 116]⟩ : ByteArray), (⟨#[115, 101, 99, 111, 110, 100]⟩ : ByteArray), (⟨#[109, 105, 110, 117, 116, 101]⟩ : ByteArray), (⟨#[104, 111, 117, 114]⟩ : ByteArray), (⟨#[100, 97, 121]⟩ : ByteArray)] : List ByteArray).length 6, .slice (some ⟨b17, 0, none⟩) ([1, 1000, 1000, 60000, 3600000, 86400000] : List Int).length 6, pV b263 0, uV, uV, uV, uV, uV, .slice (some ⟨b9, 0, none⟩) ([(⟨#[116, 105, 99, 107]⟩ : ByteArray), (⟨#[98, 101, 97, 116]⟩ : ByteArray), (⟨#[115, 101, 99, 111, 110, 100]⟩ : ByteArray), (⟨#[109, 105, 110, 117, 116, 101]⟩ : ByteArray), (⟨#[104, 111, 117, 114]⟩ : ByteArray), (⟨#[100, 97, 121]⟩ : ByteArray)] : List ByteArray).length 6, .slice (some ⟨b17, 0, none⟩) ([1, 1000, 1000, 60000, 3600000, 86400000] : List Int).length 6, iV n1, iV (Int.tmod n1 1073741824), iV vfrom2, iV vt27, iV a3, iV vt33, iV b4, iV vt39, uV, .slice (some ⟨b103, 0, none⟩) ([0] : List Int).length 1, .agg #[iV 1, iV 1, .slice none 0 0, .slice (some ⟨b103, 0, none⟩) ([0] : List Int).length 1], iV (Int.tmod n1 1073741824), uV, uV, .slice (some ⟨b9, 0, none⟩) ([(⟨#[116, 105, 99, 107]⟩ : ByteArray), (⟨#[98, 101, 97, 116]⟩ : ByteArray), (⟨#[115, 101, 99, 111, 110, 100]⟩ : ByteArray), (⟨#[109, 105, 110, 117, 116, 101]⟩ : ByteArray), (⟨#[104, 111, 117, 114]⟩ : ByteArray), (⟨#[100, 97, 121]⟩ : ByteArray)] : List ByteArray).length 6, iV vt27, pV b9 (0 + (vt27 : Int).toNat * 1), .string (rd ([(⟨#[116, 105, 99, 107]⟩ : ByteArray), (⟨#[98, 101, 97, 116]⟩ : ByteArray), (⟨#[115, 101, 99, 111, 110, 100]⟩ : ByteArray), (⟨#[109, 105, 110, 117, 116, 101]⟩ : ByteArray), (⟨#[104, 111, 117, 114]⟩ : ByteArray), (⟨#[100, 97, 121]⟩ : ByteArray)] : List ByteArray) vt27), uV, uV, uV, uV, uV, uV, uV, uV, uV, uV, uV, uV, uV, uV, uV, uV, uV, uV, uV, uV, uV, uV, uV, uV, uV, uV, uV, uV, uV, uV, uV, uV, uV, uV, uV, uV, uV, uV, uV, uV, uV, uV, uV, uV, uV, uV, uV, uV, uV, uV, uV, uV, uV, uV, uV, uV, uV, uV, uV, uV, uV, uV, uV, uV, uV, uV, uV, uV, uV, uV, uV, uV, uV, uV, uV, uV, uV, uV, uV, uV, uV, uV, uV, uV, uV, uV, uV, uV, uV, uV, uV, uV, uV, uV, uV, uV, uV, uV, uV, uV, uV, uV, uV, uV, uV, uV, uV, uV, uV, uV, uV, uV], []⟩ → R272 a_ W269 := by
  intro b103 s105 b263 f267 W269 a_ L268 HO271 HS270 hfr_; subst hfr_
  refine hR273 _ _ ?_
  refine takeGE 3 kr rfl (wanted_none rfl _) ?_
  refine does_call (f := 18) (args := #[.int .i64 (Int.tmod n1 1073741824)]) kr (spykeep3_decimal.calls k (Int.tmod n1 1073741824) HS270 vt60 hc61) ?_
  rintro _ W469 ⟨f467, A471, c472, s473, rfl, L468, HS470, HO474⟩
  refine ⟨_, rfl, ?_⟩
  refine ⟨(Sg.g0 (Sx.of [s473, [(b263, .cells #[.int .i64 0, .int .i64 0, .slice none 0 0, .slice none 0 0] 29 (0, 0))], s105] (L268.trans L468) HS470)), ?_⟩
  have HS476 := HS470.u4
  have HS477 := HS476.u4
  have HS478 := HS477.u4
  have HS479 := HS478.u3
  have HS480 := HS479.u4
  refine hR261 _ _ ?_
  exact J262 b103 s105 A471 c472 s473 b263 f467 W469 _ (L268.trans L468) (HO271.mono L468) HO474 HS480 kr
 have J317 : ∀ (A289 : Option Addr) (c290 : Nat) (s291 : Seg) (f309 : FM) (W311 : World) (a_ : Act), FM.le f41 f309 → Own (tInt .u8) 5 f309 A289 c290 s291 vt60 → St t W311 f309 (s291 :: s19 :: s11 :: H) → a_ = ⟨#[iV (Int.tmod n1 1073741824), iV vt27, iV vt33, iV vt39, uV, uV, uV, uV, fV, .slice (some ⟨b9, 0, none⟩) ([(⟨#[116, 105, 99, 107]⟩ : ByteArray), (⟨#[98, 101, 97, 116]⟩ : ByteArray), (⟨#[115, 101, 99, 111, 110, 100]⟩ : ByteArray), (⟨#[109, 105, 110, 117, 116, 101]⟩ : ByteArray), (⟨#[104, 111, 117, 114]⟩ : ByteArray), (⟨#[100, 97, 121]⟩ : ByteArray)] : List ByteArray).length 6, .slice (some ⟨b17, 0, none⟩) ([1, 1000, 1000, 60000, 3600000, 86400000] : List Int).length 6, uV, uV, uV, uV, uV, uV, .slice (some ⟨b9, 0, none⟩) ([(⟨#[116, 105, 99, 107]⟩ : ByteArray), (⟨#[98, 101, 97, 116]⟩ : ByteArray), (⟨#[115, 101, 99, 111, 110, 100]⟩ : ByteArray), (⟨#[109, 105, 110, 117, 116, 101]⟩ : ByteArray), (⟨#[104, 111, 117, 114]⟩ : ByteArray), (⟨#[100, 97, 121]⟩ : ByteArray)] : List ByteArray).length 6, .slice (some ⟨b17, 0, none⟩) ([1, 1000, 1000, 60000, 3600000, 86400000] : List Int).length 6, iV n1, iV (Int.tmod n1 1073741824), iV vfrom2, iV vt27, iV a3, iV vt33, iV b4, iV vt39, uV, uV, uV, iV (Int.tmod n1 1073741824), .slice A289 vt60.length c290, .string (bstr vt60), .slice (some ⟨b9, 0, none⟩) ([(⟨#[116, 105, 99, 107]⟩ : ByteArray), (⟨#[98, 101, 97, 116]⟩ : ByteArray), (⟨#[115, 101, 99, 111, 110, 100]⟩ : ByteArray), (⟨#[109, 105, 110, 117, 116, 101]⟩ : ByteArray), (⟨#[104, 111, 117, 114]⟩ : ByteArray), (⟨#[100, 97, 121]⟩ : ByteArray)] : List ByteArray).length 6, iV vt27, pV b9 (0 + (vt27 : Int).toNat * 1), .string (rd ([(⟨#[116, 105, 99, 107]⟩ : ByteArray), (⟨#[98, 101, 97, 116]⟩ : ByteArray), (⟨#[115, 101, 99, 111, 110, 100]⟩ : ByteArray), (⟨#[109, 105, 110, 117, 116, 101]⟩ : ByteArray), (⟨#[104, 111, 117, 114]⟩ : ByteArray), (⟨#[100, 97, 121]⟩ : ByteArray)] : List ByteArray) vt27), .agg #[.string ⟨#[84]⟩, .string (bstr vt60), .string (rd ([(⟨#[116, 105, 99, 107]⟩ : ByteArray), (⟨#[98, 101, 97, 116]⟩ : ByteArray), (⟨#[115, 101, 99, 111, 110, 100]⟩ : ByteArray), (⟨#[109, 105, 110, 117, 116, 101]⟩ : ByteArray), (⟨#[104, 111, 117, 114]⟩ : ByteArray), (⟨#[100, 97, 121]⟩ : ByteArray)] : List ByteArray) vt27), .string ⟨#[]⟩], uV, uV, uV, uV, uV, uV, uV, uV, uV, uV, uV, uV, uV, uV, uV, uV, uV, uV, uV, uV, uV, uV, uV, uV, uV, uV, uV, uV, uV, uV, uV, uV, uV, uV, uV, uV, uV, uV, uV, uV, uV, uV, uV, uV, uV, uV, uV, uV, uV, uV, uV, uV, uV, uV, uV, uV, uV, uV, uV, uV, uV, uV, uV, uV, uV, uV, uV, uV, uV, uV, uV, uV, uV, uV, uV, uV, uV, uV, uV, uV, uV, uV, uV, uV, uV, uV, uV, uV, uV, uV, uV, uV, uV, uV, uV, uV, uV, uV, uV, uV, uV, uV, uV, uV, uV, uV, uV, uV, uV, uV, uV], []⟩ → R314 a_ W311 := by
  intro A289 c290 s291 f309 W311 a_ L310 HO313 HS312 hfr_; subst hfr_
  refine hR315 _ _ ?_
  refine takeEither 0 14 kr rfl rfl rfl rfl ?_ ?_
  · refine does_lit (e := (tInt .i64)) (E := 3) (vs := #[(0, Value.int .i64 0)]) (cs := #[.int .i64 0]) (xs := ([0] : List Int)) rfl Tryz.underlying22 kr kr ⟨[.int .i64 0], _, rfl, rfl, rfl⟩ rfl HS312 ?_ (by decide)
    intro b481 W482 s483 HS484 _ HO485
    refine ⟨(Sg.g0 (Sx.of [s483, s291] L310 HS484)), ?_⟩
    refine takeGL [1] (n := 8) (fuel := 7) #[true, true, true, true, true, true, true, true, true, true, false, false, false, false, false, false, false] rfl kr kr kr hnp (Sg.g0 (Sx.of [s483, s291] L310 HS484)) ?_
    have HS487 := HS484.u3
    have HS488 := HS487.u3
    have HS489 := HS488.u2
    have HS490 := HS489.u3
    refine hR145 _ _ ?_
    exact J146 b481 s483 A289 c290 s291 f309 W482 _ L310 HO485 HO313 HS490 kr
  · refine does_alloc (z := Value.agg #[.int .i64 0, .int .i64 0, .slice none 0 0, .slice none 0 0]) (cs := #[.int .i64 0, .int .i64 0, .slice none 0 0, .slice none 0 0]) rfl kr rfl HS312 ?_
    intro b491 W492 HS493
    refine ⟨(Sg.g0 (Sx.of [[(b491, .cells #[.int .i64 0, .int .i64 0, .slice none 0 0, .slice none 0 0] 29 (0, 0))], s291] L310 HS493)), ?_⟩
    refine hR335 _ _ ?_
    exact J336 A289 c290 s291 b491 f309 W492 _ L310 HO313 HS493 kr
 have J117 : ∀ (b103 : Nat) (s105 : Seg) (f109 : FM) (W111 : World) (a_ : Act), FM.le f41 f109 → Own (tInt .i64) 3 f109 (some ⟨b103, 0, none⟩) 1 s105 ([0] : List Int) → St t W111 f109 (s105 :: s19 :: s11 :: H) → a_ = ⟨#[iV (Int.tmod n1 1073741824), iV vt27, iV vt33, iV vt39, uV, uV, uV, uV, fV, .slice (some ⟨b9, 0, none⟩) ([(⟨#[116, 105, 99, 107]⟩ : ByteArray), (⟨#[98, 101, 97, 116]⟩ : ByteArray), (⟨#[115, 101, 99, 111, 110, 100]⟩ : ByteArray), (⟨#[109, 105, 110, 117, 116, 101]⟩ : ByteArray), (⟨#[104, 111, 117, 114]⟩ : ByteArray), (⟨#[100, 97, 121]⟩ : ByteArray)] : List ByteArray).length 6, .slice (some ⟨b17, 0, none⟩) ([1, 1000, 1000, 60000, 3600000, 86400000] : List Int).length 6, uV, uV, uV, uV, uV, uV, .slice (some ⟨b9, 0, none⟩) ([(⟨#[116, 105, 99, 107]⟩ : ByteArray), (⟨#[98, 101, 97, 116]⟩ : ByteArray), (⟨#[115, 101, 99, 111, 110, 100]⟩ : ByteArray), (⟨#[109, 105, 110, 117, 116, 101]⟩ : ByteArray), (⟨#[104, 111, 117, 114]⟩ : ByteArray), (⟨#[100, 97, 121]⟩ : ByteArray)] : List ByteArray).length 6, .slice (some ⟨b17, 0, none⟩) ([1, 1000, 1000, 60000, 3600000, 86400000] : List Int).length 6, iV n1, iV (Int.tmod n1 1073741824), iV vfrom2, iV vt27, iV a3, iV vt33, iV b4, iV vt39, uV, .slice (some ⟨b103, 0, none⟩) ([0] : List Int).length 1, .agg #[iV 1, iV 1, .slice none 0 0, .slice (some ⟨b103, 0, none⟩) ([0] : List Int).length 1], iV (Int.tmod n1 1073741824), uV, uV, .slice (some ⟨b9, 0, none⟩) ([(⟨#[116, 105, 99, 107]⟩ : ByteArray), (⟨#[98, 101, 97, 116]⟩ : ByteArray), (⟨#[115, 101, 99, 111, 110, 100]⟩ : ByteArray), (⟨#[109, 105, 110, 117, 116, 101]⟩ : ByteArray), (⟨#[104, 111, 117, 114]⟩ : ByteArray), (⟨#[100, 97, 121]⟩ : ByteArray)] : List ByteArray).length 6, iV vt27, pV b9 (0 + (vt27 : Int).toNat * 1), .string (rd ([(⟨#[116, 105, 99, 107]⟩ : ByteArray), (⟨#[98, 101, 97, 116]⟩ : ByteArray), (⟨#[115, 101, 99, 111, 110, 100]⟩ : ByteArray), (⟨#[109, 105, 110, 117, 116, 101]⟩ : ByteArray), (⟨#[104, 111, 117, 114]⟩ : ByteArray), (⟨#[100, 97, 121]⟩ : ByteArray)] : List ByteArray) vt27), uV, uV, uV, uV, uV, uV, uV, uV, uV, uV, uV, uV, uV, uV, uV, uV, uV, uV, uV, uV, uV, uV, uV, uV, uV, uV, uV, uV, uV, uV, uV, uV, uV, uV, uV, uV, uV, uV, uV, uV, uV, uV, uV, uV, uV, uV, uV, uV, uV, uV, uV, uV, uV, uV, uV, uV, uV, uV, uV, uV, uV, uV, uV, uV, uV, uV, uV, uV, uV, uV, uV, uV, uV, uV, uV, uV, uV, uV, uV, uV, uV, uV, uV, uV, uV, uV, uV, uV, uV, uV, uV, uV, uV, uV, uV, uV, uV, uV, uV, uV, uV, uV, uV, uV, uV, uV, uV, uV, uV, uV, uV, uV], []⟩ → R114 a_ W111 := by
  intro b103 s105 f109 W111 a_ L110 HO113 HS112 hfr_; subst hfr_
  refine hR115 _ _ ?_
  refine takeEither 3 14 kr rfl rfl rfl rfl ?_ ?_
  · refine does_call (f := 18) (args := #[.int .i64 (Int.tmod n1 1073741824)]) kr (spykeep3_decimal.calls k (Int.tmod n1 1073741824) HS112 vt60 hc61) ?_
    rintro _ W497 ⟨f495, A499, c500, s501, rfl, L496, HS498, HO502⟩
    refine ⟨_, rfl, ?_⟩
    refine ⟨(Sg.g0 (Sx.of [s501, s105] (L110.trans L496) HS498)), ?_⟩
    refine hR135 _ _ ?_
    exact J136 b103 s105 A499 c500 s501 f495 W497 _ (L110.trans L496) (HO113.mono L496) HO502 HS498 kr
  · refine does_alloc (z := Value.agg #[.int .i64 0, .int .i64 0, .slice none 0 0, .slice none 0 0]) (cs := #[.int .i64 0, .int .i64 0, .slice none 0 0, .slice none 0 0]) rfl kr rfl HS112 ?_
    intro b504 W505 HS506
    refine ⟨(Sg.g0 (Sx.of [[(b504, .cells #[.int .i64 0, .int .i64 0, .slice none 0 0, .slice none 0 0] 29 (0, 0))], s105] L110 HS506)), ?_⟩
    refine hR274 _ _ ?_
    exact J275 b103 s105 b504 f109 W505 _ L110 HO113 HS506 kr
 have J355 : ∀ (A289 : Option Addr) (c290 : Nat) (s291 : Seg) (b343 : Nat) (f347 : FM) (W349 : World) (a_ : Act), FM.le f41 f347 → Own (tInt .u8) 5 f347 A289 c290 s291 vt60 → St t W349 f347 ([(b343, .cells #[.int .i64 0, .int .i64 0, .slice none 0 0, .slice none 0 0] 29 (0, 0))] :: s291 :: s19 :: s11 :: H) → a_ = ⟨#[iV (Int.tmod n1 1073741824), iV vt27, iV vt33, iV vt39, uV, uV, uV, uV, fV, .slice (some ⟨b9, 0, none⟩) ([(⟨#[116, 105, 99, 107]⟩ : ByteArray), (⟨#[98, 101, 97, 116]⟩ : ByteArray), (⟨#[115, 101, 99, 111, 110, 100]⟩ : ByteArray), (⟨#[109, 105, 110, 117, 116, 101]⟩ : ByteArray), (⟨#[104, 111, 117, 114]⟩ : ByteArray), (⟨#[100, 97, 121]⟩ : ByteArray)] : List ByteArray).length 6, .slice (some ⟨b17, 0, none⟩) ([1, 1000, 1000, 60000, 3600000, 86400000] : List Int).length 6, pV b343 0, uV, uV, uV, uV, uV, .slice (some ⟨b9, 0, none⟩) ([(⟨#[116, 105, 99, 107]⟩ : ByteArray), (⟨#[98, 101, 97, 116]⟩ : ByteArray), (⟨#[115, 101, 99, 111, 110, 100]⟩ : ByteArray), (⟨#[109, 105, 110, 117, 116, 101]⟩ : ByteArray), (⟨#[104, 111, 117, 114]⟩ : ByteArray), (⟨#[100, 97, 121]⟩ : ByteArray)] : List ByteArray).length 6, .slice (some ⟨b17, 0, none⟩) ([1, 1000, 1000, 60000, 3600000, 86400000] : List Int).length 6, iV n1, iV (Int.tmod n1 1073741824), iV vfrom2, iV vt27, iV a3, iV vt33, iV b4, iV vt39, uV, uV, uV, iV (Int.tmod n1 1073741824), .slice A289 vt60.length c290, uV, .slice (some ⟨b9, 0, none⟩) ([(⟨#[116, 105, 99, 107]⟩ : ByteArray), (⟨#[98, 101, 97, 116]⟩ : ByteArray), (⟨#[115, 101, 99, 111, 110, 100]⟩ : ByteArray), (⟨#[109, 105, 110, 117, 116, 101]⟩ : ByteArray), (⟨#[104, 111, 117, 114]⟩ : ByteArray), (⟨#[100, 97, 121]⟩ : ByteArray)] : List ByteArray).length 6, iV vt27, pV b9 (0 + (vt27 : Int).toNat * 1), .string (rd ([(⟨#[116, 105, 99, 107]⟩ : ByteArray), (⟨#[98, 101, 97, 116]⟩ : ByteArray), (⟨#[115, 101, 99, 111, 110, 100]⟩ : ByteArray), (⟨#[109, 105, 110, 117, 116, 101]⟩ : ByteArray), (⟨#[104, 111, 117, 114]⟩ : ByteArray), (⟨#[100, 97, 121]⟩ : ByteArray)] : List ByteArray) vt27), uV, uV, uV, uV, uV, uV, uV, uV, uV, uV, uV, uV, uV, uV, uV, uV, uV, uV, uV, uV, uV, uV, uV, uV, uV, uV, uV, uV, uV, uV, uV, uV, uV, uV, uV, uV, uV, uV, uV, uV, uV, uV, uV, uV, uV, uV, uV, uV, uV, uV, uV, uV, uV, uV, uV, uV, uV, uV, uV, uV, uV, uV, uV, uV, uV, uV, uV, uV, uV, uV, uV, uV, uV, uV, uV, uV, uV, uV, uV, uV, uV, uV, uV, uV, uV, uV, uV, uV, uV, uV, uV, uV, uV, uV, uV, uV, uV, uV, uV, uV, uV, uV, uV, uV, uV, uV, uV, uV, uV, uV, uV, uV], []⟩ → R352 a_ W349 := by
  intro A289 c290 s291 b343 f347 W349 a_ L348 HO351 HS350 hfr_; subst hfr_
  refine hR353 _ _ ?_
  refine takeEither 0 4 kr rfl rfl rfl rfl ?_ ?_
  · refine does_lit (e := (tInt .i64)) (E := 3) (vs := #[(0, Value.int .i64 0)]) (cs := #[.int .i64 0]) (xs := ([0] : List Int)) rfl Tryz.underlying22 kr kr ⟨[.int .i64 0], _, rfl, rfl, rfl⟩ rfl HS350 ?_ (by decide)
    intro b508 W509 s510 HS511 _ HO512
    refine ⟨(Sg.g0 (Sx.of [s510, [(b343, .cells #[.int .i64 0, .int .i64 0, .slice none 0 0, .slice none 0 0] 29 (0, 0))], s291] L348 HS511)), ?_⟩
    refine takeGL [1] (n := 9) (fuel := 8) #[true, true, true, true, false, true, true, true, true, false, false, false, false, false, true, false, false] rfl kr kr kr hnp (Sg.g0 (Sx.of [s510, [(b343, .cells #[.int .i64 0, .int .i64 0, .slice none 0 0, .slice none 0 0] 29 (0, 0))], s291] L348 HS511)) ?_
    have HS514 := HS511.u4
    have HS515 := HS514.u4
    have HS516 := HS515.u2
    have HS517 := HS516.u4
    have HS518 := HS517.u4
    refine hR261 _ _ ?_
    exact J262 b508 s510 A289 c290 s291 b343 f347 W509 _ L348 HO512 HO351 HS518 kr
  · refine does_run (run_bstr (f := _) rfl Tryz.underlying23 Tryz.underlying5 Tryz.underlying9 (kv (.slice A289 vt60.length c290)) ((HO351.mono (FM.le.refl _)).rc HS350.u1)) ?_
    refine ⟨(Sg.g0 (Sx.of [[(b343, .cells #[.int .i64 0, .int .i64 0, .slice none 0 0, .slice none 0 0] 29 (0, 0))], s291] L348 HS350)), ?_⟩
    refine takeGL [9] (n := 9) (fuel := 8) #[false, false, true, true, true, true, true, true, true, true, false, false, false, false, true, false, false] rfl kr kr kr hnp (Sg.g0 (Sx.of [[(b343, .cells #[.int .i64 0, .int .i64 0, .slice none 0 0, .slice none 0 0] 29 (0, 0))], s291] L348 HS350)) ?_
    refine hR335 _ _ ?_
    exact J336 A289 c290 s291 b343 f347 W349 _ L348 HO351 HS350 kr
 have J302 : ∀ (A289 : Option Addr) (c290 : Nat) (s291 : Seg) (f294 : FM) (W296 : World) (a_ : Act), FM.le f41 f294 → Own (tInt .u8) 5 f294 A289 c290 s291 vt60 → St t W296 f294 (s291 :: s19 :: s11 :: H) → a_ = ⟨#[iV (Int.tmod n1 1073741824), iV vt27, iV vt33, iV vt39, uV, uV, uV, uV, fV, .slice (some ⟨b9, 0, none⟩) ([(⟨#[116, 105, 99, 107]⟩ : ByteArray), (⟨#[98, 101, 97, 116]⟩ : ByteArray), (⟨#[115, 101, 99, 111, 110, 100]⟩ : ByteArray), (⟨#[109, 105, 110, 117, 116, 101]⟩ : ByteArray), (⟨#[104, 111, 117, 114]⟩ : ByteArray), (⟨#[100, 97, 121]⟩ : ByteArray)] : List ByteArray).length 6, .slice (some ⟨b17, 0, none⟩) ([1, 1000, 1000, 60000, 3600000, 86400000] : List Int).length 6, uV, uV, uV, uV, uV, uV, .slice (some ⟨b9, 0, none⟩) ([(⟨#[116, 105, 99, 107]⟩ : ByteArray), (⟨#[98, 101, 97, 116]⟩ : ByteArray), (⟨#[115, 101, 99, 111, 110, 100]⟩ : ByteArray), (⟨#[109, 105, 110, 117, 116, 101]⟩ : ByteArray), (⟨#[104, 111, 117, 114]⟩ : ByteArray), (⟨#[100, 97, 121]⟩ : ByteArray)] : List ByteArray).length 6, .slice (some ⟨b17, 0, none⟩) ([1, 1000, 1000, 60000, 3600000, 86400000] : List Int).length 6, iV n1, iV (Int.tmod n1 1073741824), iV vfrom2, iV vt27, iV a3, iV vt33, iV b4, iV vt39, uV, uV, uV, iV (Int.tmod n1 1073741824), .slice A289 vt60.length c290, uV, .slice (some ⟨b9, 0, none⟩) ([(⟨#[116, 105, 99, 107]⟩ : ByteArray), (⟨#[98, 101, 97, 116]⟩ : ByteArray), (⟨#[115, 101, 99, 111, 110, 100]⟩ : ByteArray), (⟨#[109, 105, 110, 117, 116, 101]⟩ : ByteArray), (⟨#[104, 111, 117, 114]⟩ : ByteArray), (⟨#[100, 97, 121]⟩ : ByteArray)] : List ByteArray).length 6, iV vt27, pV b9 (0 + (vt27 : Int).toNat * 1), .string (rd ([(⟨#[116, 105, 99, 107]⟩ : ByteArray), (⟨#[98, 101, 97, 116]⟩ : ByteArray), (⟨#[115, 101, 99, 111, 110, 100]⟩ : ByteArray), (⟨#[109, 105, 110, 117, 116, 101]⟩ : ByteArray), (⟨#[104, 111, 117, 114]⟩ : ByteArray), (⟨#[100, 97, 121]⟩ : ByteArray)] : List ByteArray) vt27), uV, uV, uV, uV, uV, uV, uV, uV, uV, uV, uV, uV, uV, uV, uV, uV, uV, uV, uV, uV, uV, uV, uV, uV, uV, uV, uV, uV, uV, uV, uV, uV, uV, uV, uV, uV, uV, uV, uV, uV, uV, uV, uV, uV, uV, uV, uV, uV, uV, uV, uV, uV, uV, uV, uV, uV, uV, uV, uV, uV, uV, uV, uV, uV, uV, uV, uV, uV, uV, uV, uV, uV, uV, uV, uV, uV, uV, uV, uV, uV, uV, uV, uV, uV, uV, uV, uV, uV, uV, uV, uV, uV, uV, uV, uV, uV, uV, uV, uV, uV, uV, uV, uV, uV, uV, uV, uV, uV, uV, uV, uV, uV], []⟩ → R299 a_ W296 := by
  intro A289 c290 s291 f294 W296 a_ L295 HO298 HS297 hfr_; subst hfr_
  refine hR300 _ _ ?_
  refine takeAny3 0 4 14 kr (Way.mk' rfl rfl ?_) (Way.mk' rfl rfl ?_) (Way.mk' rfl rfl ?_)
  · refine does_lit (e := (tInt .i64)) (E := 3) (vs := #[(0, Value.int .i64 0)]) (cs := #[.int .i64 0]) (xs := ([0] : List Int)) rfl Tryz.underlying22 kr kr ⟨[.int .i64 0], _, rfl, rfl, rfl⟩ rfl HS297 ?_ (by decide)
    intro b519 W520 s521 HS522 _ HO523
    refine ⟨(Sg.g0 (Sx.of [s521, s291] L295 HS522)), ?_⟩
    refine takeGL [1] (n := 10) (fuel := 9) #[true, true, true, true, false, true, true, true, true, false, false, false, false, false, false, false, false] rfl kr kr kr hnp (Sg.g0 (Sx.of [s521, s291] L295 HS522)) ?_
    have HS525 := HS522.u3
    have HS526 := HS525.u3
    have HS527 := HS526.u2
    have HS528 := HS527.u3
    refine hR135 _ _ ?_
    exact J136 b519 s521 A289 c290 s291 f294 W520 _ L295 HO523 HO298 HS528 kr
  · refine does_run (run_bstr (f := _) rfl Tryz.underlying23 Tryz.underlying5 Tryz.underlying9 (kv (.slice A289 vt60.length c290)) ((HO298.mono (FM.le.refl _)).rc HS297)) ?_
    refine ⟨(Sg.g0 (Sx.of [s291] L295 HS297)), ?_⟩
    refine takeGL [9] (n := 10) (fuel := 9) #[false, false, true, true, true, true, true, true, true, true, false, false, false, false, false, false, false] rfl kr kr kr hnp (Sg.g0 (Sx.of [s291] L295 HS297)) ?_
    refine hR316 _ _ ?_
    exact J317 A289 c290 s291 f294 W296 _ L295 HO298 HS297 kr
  · refine does_alloc (z := Value.agg #[.int .i64 0, .int .i64 0, .slice none 0 0, .slice none 0 0]) (cs := #[.int .i64 0, .int .i64 0, .slice none 0 0, .slice none 0 0]) rfl kr rfl HS297 ?_
    intro b529 W530 HS531
    refine ⟨(Sg.g0 (Sx.of [[(b529, .cells #[.int .i64 0, .int .i64 0, .slice none 0 0, .slice none 0 0] 29 (0, 0))], s291] L295 HS531)), ?_⟩
    refine hR354 _ _ ?_
    exact J355 A289 c290 s291 b529 f294 W530 _ L295 HO298 HS531 kr
 have J373 : ∀ (b362 : Nat) (f366 : FM) (W368 : World) (a_ : Act), FM.le f41 f366 → St t W368 f366 ([(b362, .cells #[.int .i64 0, .int .i64 0, .slice none 0 0, .slice none 0 0] 29 (0, 0))] :: s19 :: s11 :: H) → a_ = ⟨#[iV (Int.tmod n1 1073741824), iV vt27, iV vt33, iV vt39, uV, uV, uV, uV, fV, .slice (some ⟨b9, 0, none⟩) ([(⟨#[116, 105, 99, 107]⟩ : ByteArray), (⟨#[98, 101, 97, 116]⟩ : ByteArray), (⟨#[115, 101, 99, 111, 110, 100]⟩ : ByteArray), (⟨#[109, 105, 110, 117, 116, 101]⟩ : ByteArray), (⟨#[104, 111, 117, 114]⟩ : ByteArray), (⟨#[100, 97, 121]⟩ : ByteArray)] : List ByteArray).length 6, .slice (some ⟨b17, 0, none⟩) ([1, 1000, 1000, 60000, 3600000, 86400000] : List Int).length 6, pV b362 0, uV, uV, uV, uV, uV, .slice (some ⟨b9, 0, none⟩) ([(⟨#[116, 105, 99, 107]⟩ : ByteArray), (⟨#[98, 101, 97, 116]⟩ : ByteArray), (⟨#[115, 101, 99, 111, 110, 100]⟩ : ByteArray), (⟨#[109, 105, 110, 117, 116, 101]⟩ : ByteArray), (⟨#[104, 111, 117, 114]⟩ : ByteArray), (⟨#[100, 97, 121]⟩ : ByteArray)] : List ByteArray).length 6, .slice (some ⟨b17, 0, none⟩) ([1, 1000, 1000, 60000, 3600000, 86400000] : List Int).length 6, iV n1, iV (Int.tmod n1 1073741824), iV vfrom2, iV vt27, iV a3, iV vt33, iV b4, iV vt39, uV, uV, uV, iV (Int.tmod n1 1073741824), uV, uV, .slice (some ⟨b9, 0, none⟩) ([(⟨#[116, 105, 99, 107]⟩ : ByteArray), (⟨#[98, 101, 97, 116]⟩ : ByteArray), (⟨#[115, 101, 99, 111, 110, 100]⟩ : ByteArray), (⟨#[109, 105, 110, 117, 116, 101]⟩ : ByteArray), (⟨#[104, 111, 117, 114]⟩ : ByteArray), (⟨#[100, 97, 121]⟩ : ByteArray)] : List ByteArray).length 6, iV vt27, pV b9 (0 + (vt27 : Int).toNat * 1), .string (rd ([(⟨#[116, 105, 99, 107]⟩ : ByteArray), (⟨#[98, 101, 97, 116]⟩ : ByteArray), (⟨#[115, 101, 99, 111, 110, 100]⟩ : ByteArray), (⟨#[109, 105, 110, 117, 116, 101]⟩ : ByteArray), (⟨#[104, 111, 117, 114]⟩ : ByteArray), (⟨#[100, 97, 121]⟩ : ByteArray)] : List ByteArray) vt27), uV, uV, uV, uV, uV, uV, uV, uV, uV, uV, uV, uV, uV, uV, uV, uV, uV, uV, uV, uV, uV, uV, uV, uV, uV, uV, uV, uV, uV, uV, uV, uV, uV, uV, uV, uV, uV, uV, uV, uV, uV, uV, uV, uV, uV, uV, uV, uV, uV, uV, uV, uV, uV, uV, uV, uV, uV, uV, uV, uV, uV, uV, uV, uV, uV, uV, uV, uV, uV, uV, uV, uV, uV, uV, uV, uV, uV, uV, uV, uV, uV, uV, uV, uV, uV, uV, uV, uV, uV, uV, uV, uV, uV, uV, uV, uV, uV, uV, uV, uV, uV, uV, uV, uV, uV, uV, uV, uV, uV, uV, uV, uV], []⟩ → R370 a_ W368 := by
  intro b362 f366 W368 a_ L367  HS369 hfr_; subst hfr_
  refine hR371 _ _ ?_
  refine takeEither 0 3 kr rfl rfl rfl rfl ?_ ?_
  · refine does_lit (e := (tInt .i64)) (E := 3) (vs := #[(0, Value.int .i64 0)]) (cs := #[.int .i64 0]) (xs := ([0] : List Int)) rfl Tryz.underlying22 kr kr ⟨[.int .i64 0], _, rfl, rfl, rfl⟩ rfl HS369 ?_ (by decide)
    intro b533 W534 s535 HS536 _ HO537
    refine ⟨(Sg.g0 (Sx.of [s535, [(b362, .cells #[.int .i64 0, .int .i64 0, .slice none 0 0, .slice none 0 0] 29 (0, 0))]] L367 HS536)), ?_⟩
    refine takeGL [1] (n := 10) (fuel := 9) #[true, true, true, false, false, true, true, true, true, false, false, false, false, false, true, false, false] rfl kr kr kr hnp (Sg.g0 (Sx.of [s535, [(b362, .cells #[.int .i64 0, .int .i64 0, .slice none 0 0, .slice none 0 0] 29 (0, 0))]] L367 HS536)) ?_
    have HS539 := HS536.u3
    have HS540 := HS539.u3
    have HS541 := HS540.u2
    have HS542 := HS541.u3
    refine hR274 _ _ ?_
    exact J275 b533 s535 b362 f366 W534 _ L367 HO537 HS542 kr
  · refine does_call (f := 18) (args := #[.int .i64 (Int.tmod n1 1073741824)]) kr (spykeep3_decimal.calls k (Int.tmod n1 1073741824) HS369 vt60 hc61) ?_
    rintro _ W545 ⟨f543, A547, c548, s549, rfl, L544, HS546, HO550⟩
    refine ⟨_, rfl, ?_⟩
    refine ⟨(Sg.g0 (Sx.of [s549, [(b362, .cells #[.int .i64 0, .int .i64 0, .slice none 0 0, .slice none 0 0] 29 (0, 0))]] (L367.trans L544) HS546)), ?_⟩
    have HS552 := HS546.u3
    have HS553 := HS552.u3
    have HS554 := HS553.u2
    have HS555 := HS554.u3
    refine hR354 _ _ ?_
    exact J355 A547 c548 s549 b362 f543 W545 _ (L367.trans L544) HO550 HS555 kr
 refine takeAny3 0 3 14 kr (Way.mk' rfl rfl ?_) (Way.mk' rfl rfl ?_) (Way.mk' rfl rfl ?_)
 · refine does_lit (e := (tInt .i64)) (E := 3) (vs := #[(0, Value.int .i64 0)]) (cs := #[.int .i64 0]) (xs := ([0] : List Int)) rfl Tryz.underlying22 kr kr ⟨[.int .i64 0], _, rfl, rfl, rfl⟩ rfl HS48 ?_ (by decide)
   intro b556 W557 s558 HS559 _ HO560
   refine ⟨(Sg.g0 (Sx.of [s558] (FM.le.refl _) HS559)), ?_⟩
   refine takeGL [1] (n := 11) (fuel := 10) #[true, true, true, false, false, true, true, true, true, false, false, false, false, false, false, false, false] rfl kr kr kr hnp (Sg.g0 (Sx.of [s558] (FM.le.refl _) HS559)) ?_
   refine hR116 _ _ ?_
   exact J117 b556 s558 f41 W557 _ (FM.le.refl _) HO560 HS559 kr
 · refine does_call (f := 18) (args := #[.int .i64 (Int.tmod n1 1073741824)]) kr (spykeep3_decimal.calls k (Int.tmod n1 1073741824) HS48 vt60 hc61) ?_
   rintro _ W564 ⟨f562, A566, c567, s568, rfl, L563, HS565, HO569⟩
   refine ⟨_, rfl, ?_⟩
   refine ⟨(Sg.g0 (Sx.of [s568] L563 HS565)), ?_⟩
   refine hR301 _ _ ?_
   exact J302 A566 c567 s568 f562 W564 _ L563 HO569 HS565 kr
 · refine does_alloc (z := Value.agg #[.int .i64 0, .int .i64 0, .slice none 0 0, .slice none 0 0]) (cs := #[.int .i64 0, .int .i64 0, .slice none 0 0, .slice none 0 0]) rfl kr rfl HS48 ?_
   intro b571 W572 HS573
   refine ⟨(Sg.g0 (Sx.of [[(b571, .cells #[.int .i64 0, .int .i64 0, .slice none 0 0, .slice none 0 0] 29 (0, 0))]] (FM.le.refl _) HS573)), ?_⟩
   refine hR372 _ _ ?_
   exact J373 b571 f41 W572 _ (FM.le.refl _) HS573 kr

end Go.Sp.U5
