import Derived.Test.YtjnehahcpeiheaaGreatDoorProg
import Derived.Test.YtjnehahcpeiheaaGreatDoorSpCopy
import Derived.Test.YtjnehahcpeiheaaGreatDoorFT6
import Derived.Test.YtjnehahcpeiheaaGreatDoorSpStr
import Derived.Test.YtjnehahcpeiheaaGreatDoorSpLib
import Derived.Test.YtjnehahcpeiheaaGreatDoorSpBld
import Derived.Test.YtjnehahcpeiheaaGreatDoorConv
import Derived.Test.YtjnehahcpeiheaaGreatDoorLibs
import Derived.Test.YtjnehahcpeiheaaGreatDoorSpWays
import Derived.Test.YtjnehahcpeiheaaGreatDoorSpRound
import Derived.Test.YtjnehahcpeiheaaGreatDoorKT6n0
namespace Go.Sp.T6
open Go Go.Sp Go.Proofs
set_option linter.unusedVariables false
attribute [local irreducible] wpList AnyL Code.wp Calls Does Code.wpIn wpListIn CallsIn bodyPostM LeavesInM
set_option maxRecDepth 100000 in
set_option maxHeartbeats 4000000 in
theorem spymake_Cards.calls (k : Nat) (A2 : Option Addr) (c3 : Nat) (x1 : S_Shot) {t w : World} {f : FM} {H : List Seg} (HS : St t w f (H)) (HR4 : SlR ty_Hit f A2 c3 x1.Hits) (HT : TabF Tryz.prog "internal/strconv.uint64pow10" .u64 Go.Lib.pow10Tab f) (rr1 : List S_Card) (h : spymake_Cards k x1 = some rr1) :
    Calls Tryz.prog 53 #[.agg #[.int .i64 x1.Kind, .int .u64 x1.Seed, .int .i64 x1.Number, .int .i64 x1.Begin, .int .i64 x1.Beats, .int .i64 x1.Plate.A, .int .i64 x1.Plate.B, .int .i64 x1.Plate.C, .int .i64 x1.Plate.D, .int .i64 x1.Seeing, .int .i64 x1.DriftX, .int .i64 x1.DriftY, .int .i64 x1.Lamp, .slice A2 x1.Hits.length c3]] w (fun e w' => ∃ (g : FM) (A265 : Option Addr) (c266 : Nat) (s267 : Seg), e = .returned (Value.slice A265 rr1.length c266) ∧ FM.le f g ∧ St t w' g (s267 :: H) ∧ Own ty_Card 51 g A265 c266 s267 rr1) := by
 unfold spymake_Cards at h
 refine enter Tryz.func53 rfl (tm := #[(ag_Shot x1 A2 c3), uV, uV, uV, uV, uV, uV, uV, uV, uV, uV, uV, uV, uV, uV, uV, uV, uV, uV, uV, uV, uV, uV, uV, uV, uV, uV, uV, uV, uV, uV, uV, uV, uV, uV, uV, uV, uV, uV, uV, uV, uV, uV, uV, uV, uV, uV, uV, uV, uV, uV, uV, uV, uV, uV, uV, uV, uV, uV, uV, uV, uV, uV, uV, uV, uV, uV, uV, uV, uV, uV, uV, uV, uV, uV, uV, uV, uV]) kr ?_
 intro B hret hnor hnp
 refine wp_seq_k fun K5 hK6 => rl ?_
 refine seqK rfl (does_box (cs := #[.int .i64 x1.Kind, .int .u64 x1.Seed, .int .i64 x1.Number, .int .i64 x1.Begin, .int .i64 x1.Beats, .int .i64 x1.Plate.A, .int .i64 x1.Plate.B, .int .i64 x1.Plate.C, .int .i64 x1.Plate.D, .int .i64 x1.Seeing, .int .i64 x1.DriftX, .int .i64 x1.DriftY, .int .i64 x1.Lamp, .slice A2 x1.Hits.length c3]) rfl (kv (.agg #[.int .i64 x1.Kind, .int .u64 x1.Seed, .int .i64 x1.Number, .int .i64 x1.Begin, .int .i64 x1.Beats, .int .i64 x1.Plate.A, .int .i64 x1.Plate.B, .int .i64 x1.Plate.C, .int .i64 x1.Plate.D, .int .i64 x1.Seeing, .int .i64 x1.DriftX, .int .i64 x1.DriftY, .int .i64 x1.Lamp, .slice A2 x1.Hits.length c3])) rfl HS ?_)
 intro b7 W8 HS9
 refine seqL1 kr ?_
 refine nl (hK6 _ _ ?_)
 refine wp_seq_k fun K11 hK12 => rl ?_
 refine seqL1 kr ?_
 refine nl (hK12 _ _ ?_)
 refine wp_seq_k fun K13 hK14 => rl ?_
 refine seqK rfl (does_lit (e := tStr) (E := 9) (vs := #[(0, Value.string ⟨#[98, 105, 97, 115]⟩), (1, Value.string ⟨#[100, 97, 114, 107]⟩), (2, Value.string ⟨#[102, 108, 97, 116]⟩), (3, Value.string ⟨#[115, 99, 105, 101, 110, 99, 101]⟩)]) (cs := #[.string ⟨#[98, 105, 97, 115]⟩, .string ⟨#[100, 97, 114, 107]⟩, .string ⟨#[102, 108, 97, 116]⟩, .string ⟨#[115, 99, 105, 101, 110, 99, 101]⟩]) (xs := ([Z42, Z0, Z2, Z8] : List ByteArray)) rfl Tryz.underlying46 kr kr ⟨[.string ⟨#[98, 105, 97, 115]⟩], _, rfl, rfl, ⟨[.string ⟨#[100, 97, 114, 107]⟩], _, rfl, rfl, ⟨[.string ⟨#[102, 108, 97, 116]⟩], _, rfl, rfl, ⟨[.string ⟨#[115, 99, 105, 101, 110, 99, 101]⟩], _, rfl, rfl, rfl⟩⟩⟩⟩ rfl HS9 ?_ (by decide))
 intro b15 W16 s17 HS18 _ HO19
 refine seqL1 kr ?_
 refine seqK rfl (does_run (run_load rfl Tryz.underlying3 rfl (kv (.pointer (some ⟨b7, 0, none⟩))) (HS18.u1.cell 0)) ?_)
 have hq_ := bind_some h; clear h; obtain ⟨vt21, hc22, h⟩ := hq_
 refine seqK rfl (does_call (f := 10) (args := #[.int .i64 x1.Kind, .int .i64 4]) kr (spymake_Below.calls k x1.Kind 4 HS18 vt21 hc22) ?_)
 rintro _ W25 ⟨f23, rfl, L24, HS26⟩
 refine ⟨_, rfl, ?_⟩
 have hq_ := guard_some h; clear h; obtain ⟨c27, h⟩ := hq_
 have c27 : 0 ≤ vt21 := c27
 have hq_ := guard_some h; clear h; obtain ⟨c28, h⟩ := hq_
 have c28 : vt21 < (([Z42, Z0, Z2, Z8] : List ByteArray).length : Int) := c28
 obtain ⟨cs29, hr30, hc31⟩ := (HO19.mono L24).at' (i := vt21) c27 c28
 obtain rfl := hr30
 refine seqK rfl (does_run (run_index (sz := 1) rfl Tryz.underlying46 kr (kv (.slice (some ⟨b15, 0, none⟩) ([Z42, Z0, Z2, Z8] : List ByteArray).length 4)) (kv (.int .i64 vt21)) c27 c28 W25) ?_)
 refine seqK rfl (does_run (run_load rfl Tryz.underlying9 rfl (kv (.pointer (some ⟨b15, 0 + (vt21 : Int).toNat * 1, none⟩))) ((hc31 HS26) 0 (by decide))) ?_)
 refine seqL1 kr ?_
 refine nl (hK14 _ _ ?_)
 refine wp_seq_k (fun K32 hK33 => ?_)
 refine heldG (S := Sg t f23 (s17 :: [(b7, .cells #[.int .i64 x1.Kind, .int .u64 x1.Seed, .int .i64 x1.Number, .int .i64 x1.Begin, .int .i64 x1.Beats, .int .i64 x1.Plate.A, .int .i64 x1.Plate.B, .int .i64 x1.Plate.C, .int .i64 x1.Plate.D, .int .i64 x1.Seeing, .int .i64 x1.DriftX, .int .i64 x1.DriftY, .int .i64 x1.Lamp, .slice A2 x1.Hits.length c3] 76 (0, 0))] :: H) []) (n := 16) kr rfl HS26 ?_
 intro W34 HS35
 refine takeGL [0, 1, 2, 3] (n := 16) (fuel := 12) #[true, true, true, true, false, false, false, false, false, false, false, false, false, false, false, false] rfl kr kr kr hnp (Sg.g0 (Sx.of [] fL HS35)) ?_
 refine takeGQ 4 [] rfl kr kr kr kr kr kr hnp (Sg.g0 (Sx.of [] fL HS35)) (fun w_ hw_ => by obtain ⟨g_, hl_, hS_⟩ := hw_.st; exact run_load rfl Tryz.underlying3 rfl (kv (.pointer (some ⟨b7, 2, none⟩))) (hS_.u1.cell 2)) ?_
 refine takeGL [6, 7] (n := 11) (fuel := 9) #[true, true, true, true, true, false, true, true, false, false, false, false, false, false, false, false] rfl kr kr kr hnp (Sg.g0 (Sx.of [] fL HS35)) ?_
 refine takeGQ 8 [] rfl kr kr kr kr kr kr hnp (Sg.g0 (Sx.of [] fL HS35)) (fun w_ hw_ => by obtain ⟨g_, hl_, hS_⟩ := hw_.st; exact run_load rfl Tryz.underlying70 rfl (kv (.pointer (some ⟨b7, 3, none⟩))) (hS_.u1.cell 3)) ?_
 refine takeGL [10, 11] (n := 8) (fuel := 6) #[true, true, true, true, true, false, true, true, true, false, true, true, false, false, false, false] rfl kr kr kr hnp (Sg.g0 (Sx.of [] fL HS35)) ?_
 refine takeGQ 12 [] rfl kr kr kr kr kr kr hnp (Sg.g0 (Sx.of [] fL HS35)) (fun w_ hw_ => by obtain ⟨g_, hl_, hS_⟩ := hw_.st; exact run_load rfl Tryz.underlying3 rfl (kv (.pointer (some ⟨b7, 4, none⟩))) (hS_.u1.cell 4)) ?_
 have hq_ := bind_some h; clear h; obtain ⟨vt36, hc37, h⟩ := hq_
 refine takeGE 5 kr rfl kr (does_call (f := 83) (args := #[.string ⟨#[78, 85, 77, 66, 69, 82]⟩, .int .i64 x1.Number, .string ⟨#[]⟩]) kr (spymake_Cards_1.calls k Z29 x1.Number Z44 HS35 (HT.mono L24) vt36 hc37) ?_)
 rintro _ W40 ⟨f38, rfl, L39, HS41⟩
 refine ⟨_, rfl, ?_⟩
 refine ⟨(Sg.g0 (Sx.of [] L39 HS41)), ?_⟩
 have hq_ := bind_some h; clear h; obtain ⟨vt42, hc43, h⟩ := hq_
 refine takeGE 9 kr rfl kr (does_call (f := 83) (args := #[.string ⟨#[66, 69, 71, 73, 78]⟩, .int .i64 x1.Begin, .string ⟨#[116, 105, 99, 107]⟩]) kr (spymake_Cards_1.calls k (⟨#[66, 69, 71, 73, 78]⟩ : ByteArray) x1.Begin Z9 HS41 (HT.mono (L24.trans L39)) vt42 hc43) ?_)
 rintro _ W46 ⟨f44, rfl, L45, HS47⟩
 refine ⟨_, rfl, ?_⟩
 refine ⟨(Sg.g0 (Sx.of [] (L39.trans L45) HS47)), ?_⟩
 have hq_ := bind_some h; clear h; obtain ⟨vt48, hc49, h⟩ := hq_
 refine takeGE 13 kr rfl kr (does_call (f := 83) (args := #[.string ⟨#[66, 69, 65, 84, 83]⟩, .int .i64 x1.Beats, .string ⟨#[98, 101, 97, 116]⟩]) kr (spymake_Cards_1.calls k (⟨#[66, 69, 65, 84, 83]⟩ : ByteArray) x1.Beats Z41 HS47 (HT.mono (L24.trans (L39.trans L45))) vt48 hc49) ?_)
 rintro _ W52 ⟨f50, rfl, L51, HS53⟩
 refine ⟨_, rfl, ?_⟩
 refine ⟨(Sg.g0 (Sx.of [] (L39.trans (L45.trans L51)) HS53)), ?_⟩
 refine takeGE 14 kr rfl kr (does_lit (e := ty_Card) (E := 51) (vs := #[(0, Value.agg #[.string ⟨#[75, 73, 78, 68]⟩, .string (rd ([Z42, Z0, Z2, Z8] : List ByteArray) vt21), .string ⟨#[]⟩, .string ⟨#[]⟩]), (1, Value.agg #[.string vt36.Key, .string vt36.Value, .string vt36.Unit, .string vt36.Note]), (2, Value.agg #[.string vt42.Key, .string vt42.Value, .string vt42.Unit, .string vt42.Note]), (3, Value.agg #[.string vt48.Key, .string vt48.Value, .string vt48.Unit, .string vt48.Note])]) (cs := #[.string ⟨#[75, 73, 78, 68]⟩, .string (rd ([Z42, Z0, Z2, Z8] : List ByteArray) vt21), .string ⟨#[]⟩, .string ⟨#[]⟩, .string vt36.Key, .string vt36.Value, .string vt36.Unit, .string vt36.Note, .string vt42.Key, .string vt42.Value, .string vt42.Unit, .string vt42.Note, .string vt48.Key, .string vt48.Value, .string vt48.Unit, .string vt48.Note]) (xs := ([(⟨Z27, (rd ([Z42, Z0, Z2, Z8] : List ByteArray) vt21), Z44, Z44⟩ : S_Card), vt36, vt42, vt48] : List S_Card)) rfl Tryz.underlying27 kr kr ⟨[.string ⟨#[75, 73, 78, 68]⟩, .string (rd ([Z42, Z0, Z2, Z8] : List ByteArray) vt21), .string ⟨#[]⟩, .string ⟨#[]⟩], _, rfl, rfl, ⟨[.string vt36.Key, .string vt36.Value, .string vt36.Unit, .string vt36.Note], _, rfl, rfl, ⟨[.string vt42.Key, .string vt42.Value, .string vt42.Unit, .string vt42.Note], _, rfl, rfl, ⟨[.string vt48.Key, .string vt48.Value, .string vt48.Unit, .string vt48.Note], _, rfl, rfl, rfl⟩⟩⟩⟩ rfl HS53 ?_ (by decide))
 intro b54 W55 s56 HS57 _ HO58
 refine ⟨(Sg.g0 (Sx.of [s56] (L39.trans (L45.trans L51)) HS57)), ?_⟩
 refine takeGL [15] (n := 1) (fuel := 0) #[true, true, true, true, true, true, true, true, true, true, true, true, true, true, true, true] rfl kr kr kr hnp (Sg.g0 (Sx.of [s56] (L39.trans (L45.trans L51)) HS57)) ?_
 refine doneG kr ?_ _
 refine hK33 _ _ ?_
 refine wp_seq_k (fun K60 hK61 => ?_)
 refine wp_seq_k fun K62 hK63 => rl ?_
 refine seqL1 kr ?_
 refine seqK rfl (does_run (run_load rfl Tryz.underlying3 rfl (kv (.pointer (some ⟨b7, 0, none⟩))) (HS57.u2.cell 0)) ?_)
 refine seqL1 kr ?_
 refine nl (hK63 _ _ ?_)
 have hq_ := ite_some h; clear h; rcases hq_ with ⟨c65, h⟩ | ⟨c65, h⟩
 · have c65 : x1.Kind ≠ 3 := c65
   refine wpRwI 31 kr (bne_iff_ne.mpr c65) ?_
   refine condT kr ?_
   refine wp_seq_k fun K66 hK67 => rl ?_
   refine seqL2 kr ?_
   refine nl (hK67 _ _ ?_)
   refine wp_ret ?_
   refine hret _ _ ?_
   refine ends_still (v := Value.slice (some ⟨b54, 0, none⟩) ([(⟨Z27, (rd ([Z42, Z0, Z2, Z8] : List ByteArray) vt21), Z44, Z44⟩ : S_Card), vt36, vt42, vt48] : List S_Card).length 4) kr kr ?_
   have HS258 := HS57.u2.u2
   have HS259 := HS258.drop
   have HS260 := HS259.drop
   injection h with h
   subst h
   exact ⟨f50, (some ⟨b54, 0, none⟩), 4, s56, rfl, (L24.trans (L39.trans (L45.trans L51))), HS260, HO58⟩
 · have c65 : ¬ (x1.Kind ≠ 3) := c65
   refine wpRwI 31 (x := (x1.Kind != 3)) (v := false) kr (bne_eq_false_iff_eq.mpr (Decidable.of_not_not c65)) ?_
   refine condF kr ?_
   refine wp_skip ?_
   refine hK61 _ _ ?_
   refine wp_seq_k (fun K68 hK69 => ?_)
   refine wp_seq_k fun K70 hK71 => rl ?_
   refine seqL2 kr ?_
   refine seqK rfl (does_run (run_load rfl Tryz.underlying2 rfl (kv (.pointer (some ⟨b7, 5, none⟩))) (HS57.u2.cell 5)) ?_)
   refine seqL2 kr ?_
   refine seqK rfl (does_run (run_load rfl Tryz.underlying2 rfl (kv (.pointer (some ⟨b7, 6, none⟩))) (HS57.u2.cell 6)) ?_)
   refine seqL2 kr ?_
   refine seqK rfl (does_run (run_load rfl Tryz.underlying2 rfl (kv (.pointer (some ⟨b7, 7, none⟩))) (HS57.u2.cell 7)) ?_)
   refine seqL2 kr ?_
   refine seqK rfl (does_run (run_load rfl Tryz.underlying2 rfl (kv (.pointer (some ⟨b7, 8, none⟩))) (HS57.u2.cell 8)) ?_)
   refine seqL2 kr ?_
   refine nl (hK71 _ _ ?_)
   refine blockK (fun B72 hx73 hn74 hr75 ho76 hp77 => ?_)
   have hq_ := bind_some h; clear h; obtain ⟨o138, hv209, h⟩ := hq_
   have J210 : ∀ (f199 : FM) (A205 : Option Addr) (c206 : Nat) (s207 : Seg) (out204 : List S_Card) (j203 : Nat → Value) (W201 : World) (a_ : Act), FM.le f50 f199 → some (out204) = some o138 → St t W201 f199 (s207 :: s17 :: [(b7, .cells #[.int .i64 x1.Kind, .int .u64 x1.Seed, .int .i64 x1.Number, .int .i64 x1.Begin, .int .i64 x1.Beats, .int .i64 x1.Plate.A, .int .i64 x1.Plate.B, .int .i64 x1.Plate.C, .int .i64 x1.Plate.D, .int .i64 x1.Seeing, .int .i64 x1.DriftX, .int .i64 x1.DriftY, .int .i64 x1.Lamp, .slice A2 x1.Hits.length c3] 76 (0, 0))] :: H) → Own ty_Card 51 f199 A205 c206 s207 out204 → a_ = ⟨#[(ag_Shot x1 A2 c3), pV b7 0, .slice none 0 0, .func (.func 83) #[] #[], .string (rd ([Z42, Z0, Z2, Z8] : List ByteArray) vt21), .slice A205 out204.length c206, (j203 0), (j203 1), .slice (some ⟨b15, 0, none⟩) ([Z42, Z0, Z2, Z8] : List ByteArray).length 4, pV b7 0, iV x1.Kind, iV vt21, pV b15 (0 + (vt21 : Int).toNat * 1), .string (rd ([Z42, Z0, Z2, Z8] : List ByteArray) vt21), .string (rd ([Z42, Z0, Z2, Z8] : List ByteArray) vt21), .agg #[.string ⟨#[75, 73, 78, 68]⟩, .string (rd ([Z42, Z0, Z2, Z8] : List ByteArray) vt21), .string ⟨#[]⟩, .string ⟨#[]⟩], .func (.func 83) #[] #[], pV b7 2, iV x1.Number, (ag_Card vt36), .func (.func 83) #[] #[], pV b7 3, iV x1.Begin, (ag_Card vt42), .func (.func 83) #[] #[], pV b7 4, iV x1.Beats, (ag_Card vt48), (j203 2), pV b7 0, iV x1.Kind, fV, uV, pV b7 5, pV b7 5, iV x1.Plate.A, pV b7 5, pV b7 6, iV x1.Plate.B, pV b7 5, pV b7 7, iV x1.Plate.C, pV b7 5, pV b7 8, iV x1.Plate.D, .agg #[iV x1.Plate.A, iV x1.Plate.B, iV x1.Plate.C, iV x1.Plate.D], (j203 3), (j203 4), (j203 5), (j203 6), (j203 7), (j203 8), (j203 9), (j203 10), (j203 11), (j203 12), (j203 13), (j203 14), (j203 15), (j203 16), (j203 17), (j203 18), (j203 19), uV, uV, uV, uV, uV, uV, uV, uV, uV, uV, uV, uV, uV, uV, uV], []⟩ → K68 a_ W201 := by
    intro f199 A205 c206 s207 out204 j203 W201 a_ L200 hj211 HS202 HO208 hfr_; subst hfr_
    injection hj211 with hj211; subst hj211; try dsimp only at h
    refine hK69 _ _ ?_
    refine wp_seq_k (fun K217 hK218 => ?_)
    have HS221 := HS202.u2.u2.u2
    refine heldG (S := Sg t f199 (s17 :: [(b7, .cells #[.int .i64 x1.Kind, .int .u64 x1.Seed, .int .i64 x1.Number, .int .i64 x1.Begin, .int .i64 x1.Beats, .int .i64 x1.Plate.A, .int .i64 x1.Plate.B, .int .i64 x1.Plate.C, .int .i64 x1.Plate.D, .int .i64 x1.Seeing, .int .i64 x1.DriftX, .int .i64 x1.DriftY, .int .i64 x1.Lamp, .slice A2 x1.Hits.length c3] 76 (0, 0))] :: H) [(14, s207)]) (n := 16) kr rfl HS221 ?_
    intro W222 HS223
    refine takeGL [0, 1, 2] (n := 16) (fuel := 13) #[true, true, true, false, false, false, false, false, false, false, false, false, false, false, false, false] rfl kr kr kr hnp (Sg.g1 (Sx.of [s207] fL HS223) (fun _ => St.only [] HS223 fL)) ?_
    refine takeGQ 3 [] rfl kr kr kr kr kr kr hnp (Sg.g1 (Sx.of [s207] fL HS223) (fun _ => St.only [] HS223 fL)) (fun w_ hw_ => by obtain ⟨g_, hl_, hS_⟩ := hw_.st; exact run_load rfl Tryz.underlying3 rfl (kv (.pointer (some ⟨b7, 9, none⟩))) (hS_.u1.cell 9)) ?_
    refine takeGL [5, 6] (n := 12) (fuel := 10) #[true, true, true, true, false, true, true, false, false, false, false, false, false, false, false, false] rfl kr kr kr hnp (Sg.g1 (Sx.of [s207] fL HS223) (fun _ => St.only [] HS223 fL)) ?_
    refine takeGQ 7 [] rfl kr kr kr kr kr kr hnp (Sg.g1 (Sx.of [s207] fL HS223) (fun _ => St.only [] HS223 fL)) (fun w_ hw_ => by obtain ⟨g_, hl_, hS_⟩ := hw_.st; exact run_load rfl Tryz.underlying73 rfl (kv (.pointer (some ⟨b7, 10, none⟩))) (hS_.u1.cell 10)) ?_
    refine takeGL [9, 10] (n := 9) (fuel := 7) #[true, true, true, true, false, true, true, true, false, true, true, false, false, false, false, false] rfl kr kr kr hnp (Sg.g1 (Sx.of [s207] fL HS223) (fun _ => St.only [] HS223 fL)) ?_
    refine takeGQ 11 [] rfl kr kr kr kr kr kr hnp (Sg.g1 (Sx.of [s207] fL HS223) (fun _ => St.only [] HS223 fL)) (fun w_ hw_ => by obtain ⟨g_, hl_, hS_⟩ := hw_.st; exact run_load rfl Tryz.underlying73 rfl (kv (.pointer (some ⟨b7, 11, none⟩))) (hS_.u1.cell 11)) ?_
    have hq_ := bind_some h; clear h; obtain ⟨vt224, hc225, h⟩ := hq_
    refine takeGE 4 kr rfl kr (does_call (f := 83) (args := #[.string ⟨#[83, 69, 69, 73, 78, 71]⟩, .int .i64 x1.Seeing, .string ⟨#[99, 101, 108, 108]⟩]) kr (spymake_Cards_1.calls k (⟨#[83, 69, 69, 73, 78, 71]⟩ : ByteArray) x1.Seeing Z43 HS223 (HT.mono (L24.trans (L39.trans (L45.trans (L51.trans L200))))) vt224 hc225) ?_)
    rintro _ W228 ⟨f226, rfl, L227, HS229⟩
    refine ⟨_, rfl, ?_⟩
    refine ⟨(Sg.g1 (Sx.of [s207] L227 HS229) (fun _ => St.only [] HS229 L227)), ?_⟩
    have hq_ := bind_some h; clear h; obtain ⟨vt230, hc231, h⟩ := hq_
    refine takeGE 8 kr rfl kr (does_call (f := 83) (args := #[.string ⟨#[68, 82, 73, 70, 84, 45, 88]⟩, .int .i64 x1.DriftX, .string ⟨#[115, 117, 98]⟩]) kr (spymake_Cards_1.calls k (⟨#[68, 82, 73, 70, 84, 45, 88]⟩ : ByteArray) x1.DriftX Z7 HS229 (HT.mono (L24.trans (L39.trans (L45.trans (L51.trans (L200.trans L227)))))) vt230 hc231) ?_)
    rintro _ W234 ⟨f232, rfl, L233, HS235⟩
    refine ⟨_, rfl, ?_⟩
    refine ⟨(Sg.g1 (Sx.of [s207] (L227.trans L233) HS235) (fun _ => St.only [] HS235 (L227.trans L233))), ?_⟩
    have hq_ := bind_some h; clear h; obtain ⟨vt236, hc237, h⟩ := hq_
    refine takeGE 12 kr rfl kr (does_call (f := 83) (args := #[.string ⟨#[68, 82, 73, 70, 84, 45, 89]⟩, .int .i64 x1.DriftY, .string ⟨#[115, 117, 98]⟩]) kr (spymake_Cards_1.calls k (⟨#[68, 82, 73, 70, 84, 45, 89]⟩ : ByteArray) x1.DriftY Z7 HS235 (HT.mono (L24.trans (L39.trans (L45.trans (L51.trans (L200.trans (L227.trans L233))))))) vt236 hc237) ?_)
    rintro _ W240 ⟨f238, rfl, L239, HS241⟩
    refine ⟨_, rfl, ?_⟩
    refine ⟨(Sg.g1 (Sx.of [s207] (L227.trans (L233.trans L239)) HS241) (fun _ => St.only [] HS241 (L227.trans (L233.trans L239)))), ?_⟩
    refine takeGE 13 kr rfl kr (does_lit (e := ty_Card) (E := 51) (vs := #[(0, Value.agg #[.string vt224.Key, .string vt224.Value, .string vt224.Unit, .string vt224.Note]), (1, Value.agg #[.string vt230.Key, .string vt230.Value, .string vt230.Unit, .string vt230.Note]), (2, Value.agg #[.string vt236.Key, .string vt236.Value, .string vt236.Unit, .string vt236.Note])]) (cs := #[.string vt224.Key, .string vt224.Value, .string vt224.Unit, .string vt224.Note, .string vt230.Key, .string vt230.Value, .string vt230.Unit, .string vt230.Note, .string vt236.Key, .string vt236.Value, .string vt236.Unit, .string vt236.Note]) (xs := ([vt224, vt230, vt236] : List S_Card)) rfl Tryz.underlying27 kr kr ⟨[.string vt224.Key, .string vt224.Value, .string vt224.Unit, .string vt224.Note], _, rfl, rfl, ⟨[.string vt230.Key, .string vt230.Value, .string vt230.Unit, .string vt230.Note], _, rfl, rfl, ⟨[.string vt236.Key, .string vt236.Value, .string vt236.Unit, .string vt236.Note], _, rfl, rfl, rfl⟩⟩⟩ rfl HS241 ?_ (by decide))
    intro b242 W243 s244 HS245 _ HO246
    refine ⟨(Sg.g1 (Sx.of [s244, s207] (L227.trans (L233.trans L239)) HS245) (fun _ => St.only [s244] HS245 (L227.trans (L233.trans L239)))), ?_⟩
    have hq_ := guard_some h; clear h; obtain ⟨c248, h⟩ := hq_
    have c248 : (out204.length + 3) * 64 ≤ 140737488355328 := c248
    have HS250 := HS245.u1.u1
    refine takeGE 14 kr rfl kr (does_append1 (e := ty_Card) (E := 51) (xs := out204) (ys := ([vt224, vt230, vt236] : List S_Card)) rfl (kv (.slice A205 out204.length c206)) (kv (.slice (some ⟨b242, 0, none⟩) ([vt224, vt230, vt236] : List S_Card).length 3)) Tryz.underlying27 inf51 (HO208.mono (L227.trans (L233.trans L239))) HO246 HS250 c248 (lim63 c248 (by decide)) ?_)
    intro A251 c252 s253 W254 HS255 HO256
    refine ⟨(Sg.g1 (Sx.of [s253] (L227.trans (L233.trans L239)) HS255) (fun hl_ => Bool.noConfusion (show true = false from hl_))), ?_⟩
    refine takeGL [15] (n := 1) (fuel := 0) #[true, true, true, true, true, true, true, true, true, true, true, true, true, true, true, true] rfl kr kr kr hnp (Sg.g1 (Sx.of [s253] (L227.trans (L233.trans L239)) HS255) (fun hl_ => Bool.noConfusion (show true = false from hl_))) ?_
    refine doneG kr ?_ _
    refine hK218 _ _ ?_
    refine wp_ret ?_
    refine hret _ _ ?_
    refine ends_still (v := Value.slice A251 (out204 ++ ([vt224, vt230, vt236] : List S_Card)).length c252) kr kr ?_
    have HS262 := HS255.u2.u2
    have HS263 := HS262.drop
    have HS264 := HS263.drop
    injection h with h
    subst h
    exact ⟨f238, A251, c252, s253, rfl, (L24.trans (L39.trans (L45.trans (L51.trans (L200.trans (L227.trans (L233.trans L239))))))), HS264, HO256⟩
   clear h; have h := hv209; clear hv209
   refine loopK (fun n_ a_ w_ => ∃ (f142 : FM) (A148 : Option Addr) (c149 : Nat) (s150 : Seg) (out147 : List S_Card) (x152 : Int) (j146 : Nat → Value), FM.le f50 f142 ∧ St t w_ f142 (s150 :: s17 :: [(b7, .cells #[.int .i64 x1.Kind, .int .u64 x1.Seed, .int .i64 x1.Number, .int .i64 x1.Begin, .int .i64 x1.Beats, .int .i64 x1.Plate.A, .int .i64 x1.Plate.B, .int .i64 x1.Plate.C, .int .i64 x1.Plate.D, .int .i64 x1.Seeing, .int .i64 x1.DriftX, .int .i64 x1.DriftY, .int .i64 x1.Lamp, .slice A2 x1.Hits.length c3] 76 (0, 0))] :: H) ∧ Own ty_Card 51 f142 A148 c149 s150 out147 ∧ spymake_Cards.l0 k x1 n_ out147 x152 = some o138 ∧ a_ = ⟨#[(ag_Shot x1 A2 c3), pV b7 0, .slice none 0 0, .func (.func 83) #[] #[], .string (rd ([Z42, Z0, Z2, Z8] : List ByteArray) vt21), .slice A148 out147.length c149, (j146 0), (j146 1), .slice (some ⟨b15, 0, none⟩) ([Z42, Z0, Z2, Z8] : List ByteArray).length 4, pV b7 0, iV x1.Kind, iV vt21, pV b15 (0 + (vt21 : Int).toNat * 1), .string (rd ([Z42, Z0, Z2, Z8] : List ByteArray) vt21), .string (rd ([Z42, Z0, Z2, Z8] : List ByteArray) vt21), .agg #[.string ⟨#[75, 73, 78, 68]⟩, .string (rd ([Z42, Z0, Z2, Z8] : List ByteArray) vt21), .string ⟨#[]⟩, .string ⟨#[]⟩], .func (.func 83) #[] #[], pV b7 2, iV x1.Number, (ag_Card vt36), .func (.func 83) #[] #[], pV b7 3, iV x1.Begin, (ag_Card vt42), .func (.func 83) #[] #[], pV b7 4, iV x1.Beats, (ag_Card vt48), .slice (some ⟨b54, 0, none⟩) ([(⟨Z27, (rd ([Z42, Z0, Z2, Z8] : List ByteArray) vt21), Z44, Z44⟩ : S_Card), vt36, vt42, vt48] : List S_Card).length 4, pV b7 0, iV x1.Kind, fV, uV, pV b7 5, pV b7 5, iV x1.Plate.A, pV b7 5, pV b7 6, iV x1.Plate.B, pV b7 5, pV b7 7, iV x1.Plate.C, pV b7 5, pV b7 8, iV x1.Plate.D, .agg #[iV x1.Plate.A, iV x1.Plate.B, iV x1.Plate.C, iV x1.Plate.D], iV x152, (j146 2), (j146 3), (j146 4), (j146 5), (j146 6), (j146 7), (j146 8), (j146 9), (j146 10), (j146 11), (j146 12), (j146 13), (j146 14), (j146 15), (j146 16), (j146 17), uV, uV, uV, uV, uV, uV, uV, uV, uV, uV, uV, uV, uV, uV, uV], []⟩) k ⟨f50, (some ⟨b54, 0, none⟩), 4, s56, ([(⟨Z27, (rd ([Z42, Z0, Z2, Z8] : List ByteArray) vt21), Z44, Z44⟩ : S_Card), vt36, vt42, vt48] : List S_Card), 0, (jL []), fL, HS57, HO58, h, kr⟩ ?_
   clear h
   rintro n141 _ W144 ⟨f142, A148, c149, s150, out147, x152, j146, L143, HS145, HO151, h, rfl⟩ K139 hK140
   obtain _ | n141 := n141
   · exact nomatch h
   simp only [spymake_Cards.l0] at h
   refine wp_seq_k fun K153 hK154 => rl ?_
   refine seqL1 kr ?_
   refine nl (hK154 _ _ ?_)
   refine wp_seq_k (fun K155 hK156 => ?_)
   have hq_ := ite_some h; clear h; rcases hq_ with ⟨c158, h⟩ | ⟨c158, h⟩
   · have c158 : x152 < 4 := c158
     refine wpRwI 47 kr (decide_eq_true c158) ?_
     refine condT kr ?_
     refine wp_skip ?_
     refine hK156 _ _ ?_
     refine wp_seq_k (fun K159 hK160 => ?_)
     refine blockK (fun B161 hx162 hn163 hr164 ho165 hp166 => ?_)
     refine wp_seq_k fun K168 hK169 => rl ?_
     have hq_ := guard_some h; clear h; obtain ⟨c170, h⟩ := hq_
     have c170 : 0 ≤ x152 := c170
     refine seqL1 kr ?_
     refine seqK rfl (does_run (run_arr_int rfl Tryz.underlying145 kr Tryz.underlying2 (kv (.agg #[.int .i64 x1.Plate.A, .int .i64 x1.Plate.B, .int .i64 x1.Plate.C, .int .i64 x1.Plate.D])) (kv (.int .i64 x152)) (xs := [x1.Plate.A, x1.Plate.B, x1.Plate.C, x1.Plate.D]) rfl c170 c158 rfl W144) ?_)
     refine seqL2 kr ?_
     refine nl (hK169 _ _ ?_)
     refine rl ?_
     refine seqL5 kr ?_
     refine seqK rfl (does_lit (e := (tInt .u8)) (E := 5) (vs := #[(0, Value.int .u8 (u8 (w64 (65 + x152))))]) (cs := #[.int .u8 (u8 (w64 (65 + x152)))]) (xs := ([u8 (w64 (65 + x152))] : List Int)) rfl Tryz.underlying23 kr kr ⟨[.int .u8 (u8 (w64 (65 + x152)))], _, rfl, rfl, rfl⟩ rfl HS145 ?_ (by decide))
     intro b171 W172 s173 HS174 _ HO175
     refine seqK rfl (does_run (run_bstr (f := _) rfl Tryz.underlying23 Tryz.underlying5 Tryz.underlying9 (kv (.slice (some ⟨b171, 0, none⟩) ([u8 (w64 (65 + x152))] : List Int).length 1)) ((HO175.mono fL).rc HS174)) ?_)
     have hq_ := guard_some h; clear h; obtain ⟨c177, h⟩ := hq_
     have c177 : Z30.size + (bstr ([u8 (w64 (65 + x152))] : List Int)).size ≤ 9223372036854775807 := c177
     refine seqK rfl (does_run (run_concat rfl (kv (.string ⟨#[80, 76, 65, 84, 69, 45]⟩)) (kv (.string (bstr ([u8 (w64 (65 + x152))] : List Int)))) c177 W172) ?_)
     have hq_ := bind_some h; clear h; obtain ⟨vt178, hc179, h⟩ := hq_
     refine seqL1 kr ?_
     refine seqK rfl (does_call (f := 83) (args := #[.string (Z30 ++ (bstr ([u8 (w64 (65 + x152))] : List Int))), .int .i64 (rd [x1.Plate.A, x1.Plate.B, x1.Plate.C, x1.Plate.D] x152), .string ⟨#[]⟩]) kr (spymake_Cards_1.calls k (Z30 ++ (bstr ([u8 (w64 (65 + x152))] : List Int))) (rd [x1.Plate.A, x1.Plate.B, x1.Plate.C, x1.Plate.D] x152) Z44 HS174 (HT.mono (L24.trans (L39.trans (L45.trans (L51.trans L143))))) vt178 hc179) ?_)
     rintro _ W182 ⟨f180, rfl, L181, HS183⟩
     refine ⟨_, rfl, ?_⟩
     refine seqK rfl (does_lit (e := ty_Card) (E := 51) (vs := #[(0, Value.agg #[.string vt178.Key, .string vt178.Value, .string vt178.Unit, .string vt178.Note])]) (cs := #[.string vt178.Key, .string vt178.Value, .string vt178.Unit, .string vt178.Note]) (xs := ([vt178] : List S_Card)) rfl Tryz.underlying27 kr kr ⟨[.string vt178.Key, .string vt178.Value, .string vt178.Unit, .string vt178.Note], _, rfl, rfl, rfl⟩ rfl HS183 ?_ (by decide))
     intro b184 W185 s186 HS187 _ HO188
     have hq_ := guard_some h; clear h; obtain ⟨c190, h⟩ := hq_
     have c190 : (out147.length + 1) * 64 ≤ 140737488355328 := c190
     have HS192 := HS187.u2.u1
     refine seqK rfl (does_append1 (e := ty_Card) (E := 51) (xs := out147) (ys := ([vt178] : List S_Card)) rfl (kv (.slice A148 out147.length c149)) (kv (.slice (some ⟨b184, 0, none⟩) ([vt178] : List S_Card).length 1)) Tryz.underlying27 inf51 (HO151.mono L181) HO188 HS192 c190 (lim63 c190 (by decide)) ?_)
     intro A193 c194 s195 W196 HS197 HO198
     refine seqL1 kr ?_
     refine nl ?_
     refine hn163 _ _ ?_
     refine hK160 _ _ ?_
     refine rl ?_
     refine seqL2 kr ?_
     refine nl ?_
     refine hK140 n141 _ _ (Nat.lt_succ_self _) ?_
     have HS215 := HS197.u3.u3.u2.u3
     have HS216 := HS215.drop
     exact ⟨f180, A193, c194, s195, (out147 ++ ([vt178] : List S_Card)), (w64 (x152 + 1)), (jL [iV x152, iV (rd [x1.Plate.A, x1.Plate.B, x1.Plate.C, x1.Plate.D] x152), tV, iV x152, iV (rd [x1.Plate.A, x1.Plate.B, x1.Plate.C, x1.Plate.D] x152), .slice A148 out147.length c149, .func (.func 83) #[] #[], iV x152, iV (w64 (65 + x152)), .int .u8 (u8 (w64 (65 + x152))), .slice (some ⟨b171, 0, none⟩) ([u8 (w64 (65 + x152))] : List Int).length 1, .string (bstr ([u8 (w64 (65 + x152))] : List Int)), .string (Z30 ++ (bstr ([u8 (w64 (65 + x152))] : List Int))), iV (rd [x1.Plate.A, x1.Plate.B, x1.Plate.C, x1.Plate.D] x152), (ag_Card vt178), .slice (some ⟨b184, 0, none⟩) ([vt178] : List S_Card).length 1, .slice A193 (out147 ++ ([vt178] : List S_Card)).length c194, iV (w64 (x152 + 1))]), (L143.trans L181), HS216, HO198, h, kr⟩
   · have c158 : ¬ (x152 < 4) := c158
     refine wpRwI 47 kr (decide_eq_false c158) ?_
     refine condF kr ?_
     refine wp_exit ?_
     refine hx73 _ _ ?_
     exact J210 f142 A148 c149 s150 out147 (jL [(j146 0), (j146 1), .slice (some ⟨b54, 0, none⟩) ([(⟨Z27, (rd ([Z42, Z0, Z2, Z8] : List ByteArray) vt21), Z44, Z44⟩ : S_Card), vt36, vt42, vt48] : List S_Card).length 4, iV x152, fV, (j146 3), (j146 4), (j146 5), (j146 6), (j146 7), (j146 8), (j146 9), (j146 10), (j146 11), (j146 12), (j146 13), (j146 14), (j146 15), (j146 16), (j146 17)]) W144 _ L143 h HS145 HO151 kr

set_option maxRecDepth 100000 in
set_option maxHeartbeats 4000000 in
theorem spymake_Stream_Frame.calls (k : Nat) (b1 : Nat) (A4 : Option Addr) (c5 : Nat) (A8 : Option Addr) (c9 : Nat) (s3 : S_Stream) (x7 : S_Shot) (vw11 : Int) (vh12 : Int) {t w : World} {f : FM} {H : List Seg} (HS : St t w f ([(b1, .cells #[.slice A4 s3.L.length c5, .int .i64 s3.vat] 33 (0, 0))] :: H)) (HR6 : SlR (tInt .i64) f A4 c5 s3.L) (HR10 : SlR ty_Hit f A8 c9 x7.Hits) (HT : TabF Tryz.prog "internal/strconv.uint64pow10" .u64 Go.Lib.pow10Tab f) (rr1 : S_Frame) (rr2 : Int) (h : spymake_Stream_Frame k s3 x7 vw11 vh12 = some (rr1, rr2)) :
    Calls Tryz.prog 26 #[.pointer (some ⟨b1, 0, none⟩), .agg #[.int .i64 x7.Kind, .int .u64 x7.Seed, .int .i64 x7.Number, .int .i64 x7.Begin, .int .i64 x7.Beats, .int .i64 x7.Plate.A, .int .i64 x7.Plate.B, .int .i64 x7.Plate.C, .int .i64 x7.Plate.D, .int .i64 x7.Seeing, .int .i64 x7.DriftX, .int .i64 x7.DriftY, .int .i64 x7.Lamp, .slice A8 x7.Hits.length c9], .int .i64 vw11, .int .i64 vh12] w (fun e w' => ∃ (g : FM) (A321 : Option Addr) (c322 : Nat) (s323 : Seg) (A324 : Option Addr) (c325 : Nat) (s326 : Seg), e = .returned (Value.agg #[.int .i64 rr1.W, .int .i64 rr1.H, .slice A321 rr1.Cards.length c322, .slice A324 rr1.Counts.length c325]) ∧ FM.le f g ∧ St t w' g (s323 :: s326 :: [(b1, .cells #[.slice A4 s3.L.length c5, .int .i64 rr2] 33 (0, 0))] :: H) ∧ Own ty_Card 51 g A321 c322 s323 rr1.Cards ∧ Own (tInt .i64) 3 g A324 c325 s326 rr1.Counts) := by
 unfold spymake_Stream_Frame at h
 refine enter Tryz.func26 rfl (tm := #[pV b1 0, (ag_Shot x7 A8 c9), iV vw11, iV vh12, uV, uV, uV, uV, uV, uV, uV, uV, uV, uV, uV, uV, uV, uV, uV, uV, uV, uV, uV, uV, uV, uV, uV, uV, uV, uV, uV, uV, uV, uV, uV, uV, uV, uV, uV, uV, uV, uV, uV, uV, uV, uV, uV, uV, uV, uV, uV]) kr ?_
 intro B hret hnor hnp
 refine wp_seq_k fun K13 hK14 => rl ?_
 refine seqK rfl (does_box (cs := #[.int .i64 x7.Kind, .int .u64 x7.Seed, .int .i64 x7.Number, .int .i64 x7.Begin, .int .i64 x7.Beats, .int .i64 x7.Plate.A, .int .i64 x7.Plate.B, .int .i64 x7.Plate.C, .int .i64 x7.Plate.D, .int .i64 x7.Seeing, .int .i64 x7.DriftX, .int .i64 x7.DriftY, .int .i64 x7.Lamp, .slice A8 x7.Hits.length c9]) rfl (kv (.agg #[.int .i64 x7.Kind, .int .u64 x7.Seed, .int .i64 x7.Number, .int .i64 x7.Begin, .int .i64 x7.Beats, .int .i64 x7.Plate.A, .int .i64 x7.Plate.B, .int .i64 x7.Plate.C, .int .i64 x7.Plate.D, .int .i64 x7.Seeing, .int .i64 x7.DriftX, .int .i64 x7.DriftY, .int .i64 x7.Lamp, .slice A8 x7.Hits.length c9])) rfl HS ?_)
 intro b15 W16 HS17
 refine seqK rfl (does_alloc (z := Value.agg #[.int .i64 0, .int .i64 0, .slice none 0 0, .slice none 0 0]) (cs := #[.int .i64 0, .int .i64 0, .slice none 0 0, .slice none 0 0]) rfl kr rfl HS17 ?_)
 intro b19 W20 HS21
 refine nl (hK14 _ _ ?_)
 refine wp_seq_k fun K23 hK24 => rl ?_
 refine seqL2 kr ?_
 refine seqK rfl (does_run (run_loadN (n := 14) rfl Tryz.underlying76 rfl kr (kv (.pointer (some ⟨b15, 0, none⟩))) (cs := [.int .i64 x7.Kind, .int .u64 x7.Seed, .int .i64 x7.Number, .int .i64 x7.Begin, .int .i64 x7.Beats, .int .i64 x7.Plate.A, .int .i64 x7.Plate.B, .int .i64 x7.Plate.C, .int .i64 x7.Plate.D, .int .i64 x7.Seeing, .int .i64 x7.DriftX, .int .i64 x7.DriftY, .int .i64 x7.Lamp, .slice A8 x7.Hits.length c9]) rfl (HS21.u1.cells 0 14 _ rfl)) ?_)
 have hq_ := bind_some h; clear h; obtain ⟨vt25, hc26, h⟩ := hq_
 refine seqK rfl (does_call (f := 53) (args := #[.agg #[.int .i64 x7.Kind, .int .u64 x7.Seed, .int .i64 x7.Number, .int .i64 x7.Begin, .int .i64 x7.Beats, .int .i64 x7.Plate.A, .int .i64 x7.Plate.B, .int .i64 x7.Plate.C, .int .i64 x7.Plate.D, .int .i64 x7.Seeing, .int .i64 x7.DriftX, .int .i64 x7.DriftY, .int .i64 x7.Lamp, .slice A8 x7.Hits.length c9]]) kr (spymake_Cards.calls k A8 c9 x7 HS21 HR10 HT vt25 hc26) ?_)
 rintro _ W29 ⟨f27, A31, c32, s33, rfl, L28, HS30, HO34⟩
 refine ⟨_, rfl, ?_⟩
 refine seqL1 kr ?_
 refine seqK rfl (does_alloc (z := Value.agg #[.int .i64 0, .int .i64 0, .slice none 0 0, .slice none 0 0]) (cs := #[.int .i64 0, .int .i64 0, .slice none 0 0, .slice none 0 0]) rfl kr rfl HS30 ?_)
 intro b36 W37 HS38
 refine seqK rfl (does_storeA (vs := [.int .i64 vw11, .int .i64 vh12, .slice A31 vt25.length c32, .slice none 0 0]) rfl kr kr kr rfl (ones rfl) HS38 kr ?_)
 intro W40 HS41
 refine nl (hK24 _ _ ?_)
 refine wp_seq_k fun K42 hK43 => rl ?_
 refine seqK rfl (does_lit (e := (tInt .i64)) (E := 3) (vs := #[(0, Value.int .i64 2), (1, Value.int .i64 256), (2, Value.int .i64 300), (3, Value.int .i64 5000), (4, Value.int .i64 65536)]) (cs := #[.int .i64 2, .int .i64 256, .int .i64 300, .int .i64 5000, .int .i64 65536]) (xs := ([2, 256, 300, 5000, 65536] : List Int)) rfl Tryz.underlying22 kr kr ⟨[.int .i64 2], _, rfl, rfl, ⟨[.int .i64 256], _, rfl, rfl, ⟨[.int .i64 300], _, rfl, rfl, ⟨[.int .i64 5000], _, rfl, rfl, ⟨[.int .i64 65536], _, rfl, rfl, rfl⟩⟩⟩⟩⟩ rfl HS41 ?_ (by decide))
 intro b44 W45 s46 HS47 _ HO48
 have HS50 := HS47.u5
 have hq_ := bind_some h; clear h; obtain ⟨⟨vt51, vt52⟩, hc53, h⟩ := hq_
 refine seqL1 kr ?_
 refine seqK rfl (does_call (f := 28) (args := #[.pointer (some ⟨b1, 0, none⟩), .int .i64 5]) kr (spymake_Stream_Next.calls k b1 A4 c5 s3 5 HS50 (HR6.mono L28) vt51 vt52 hc53) ?_)
 rintro _ W56 ⟨f54, rfl, L55, HS57⟩
 refine ⟨_, rfl, ?_⟩
 have hq_ := guard_some h; clear h; obtain ⟨c58, h⟩ := hq_
 have c58 : 0 ≤ vt51 := c58
 have hq_ := guard_some h; clear h; obtain ⟨c59, h⟩ := hq_
 have c59 : vt51 < (([2, 256, 300, 5000, 65536] : List Int).length : Int) := c59
 obtain ⟨cs60, hr61, hc62⟩ := (HO48.mono L55).at' (i := vt51) c58 c59
 obtain rfl := hr61
 refine seqK rfl (does_run (run_index (sz := 1) rfl Tryz.underlying22 kr (kv (.slice (some ⟨b44, 0, none⟩) ([2, 256, 300, 5000, 65536] : List Int).length 5)) (kv (.int .i64 vt51)) c58 c59 W56) ?_)
 refine seqK rfl (does_run (run_load rfl Tryz.underlying3 rfl (kv (.pointer (some ⟨b44, 0 + (vt51 : Int).toNat * 1, none⟩))) ((hc62 HS57.u1) 0 (by decide))) ?_)
 refine seqL1 kr ?_
 refine nl (hK43 _ _ ?_)
 refine wp_seq_k fun K63 hK64 => rl ?_
 have hq_ := bind_some h; clear h; obtain ⟨⟨vt65, vt66⟩, hc67, h⟩ := hq_
 refine seqL2 kr ?_
 refine seqK rfl (does_call (f := 28) (args := #[.pointer (some ⟨b1, 0, none⟩), .int .i64 (rd ([2, 256, 300, 5000, 65536] : List Int) vt51)]) kr (spymake_Stream_Next.calls k b1 A4 c5 (⟨s3.L, vt52⟩ : S_Stream) (rd ([2, 256, 300, 5000, 65536] : List Int) vt51) HS57 (HR6.mono (L28.trans L55)) vt65 vt66 hc67) ?_)
 rintro _ W70 ⟨f68, rfl, L69, HS71⟩
 refine ⟨_, rfl, ?_⟩
 refine seqL1 kr ?_
 refine nl (hK64 _ _ ?_)
 refine wp_seq_k (fun K72 hK73 => ?_)
 refine wp_seq_k fun K74 hK75 => rl ?_
 refine seqL4 kr ?_
 refine nl (hK75 _ _ ?_)
 refine blockK (fun B76 hx77 hn78 hr79 ho80 hp81 => ?_)
 have hq_ := bind_some h; clear h; obtain ⟨o176, hv286, h⟩ := hq_
 have J287 : ∀ (f274 : FM) (A281 : Option Addr) (c282 : Nat) (s283 : Seg) (x279 : Int) (x280 : List Int) (j278 : Nat → Value) (W276 : World) (a_ : Act), FM.le f68 f274 → some ((x279, x280)) = some o176 → St t W276 f274 (s283 :: [(b1, .cells #[.slice A4 s3.L.length c5, .int .i64 x279] 33 (0, 0))] :: s46 :: [(b36, .cells #[.int .i64 vw11, .int .i64 vh12, .slice A31 vt25.length c32, .slice A281 x280.length c282] 29 (0, 0))] :: s33 :: [(b19, .cells #[.int .i64 0, .int .i64 0, .slice none 0 0, .slice none 0 0] 29 (0, 0))] :: [(b15, .cells #[.int .i64 x7.Kind, .int .u64 x7.Seed, .int .i64 x7.Number, .int .i64 x7.Begin, .int .i64 x7.Beats, .int .i64 x7.Plate.A, .int .i64 x7.Plate.B, .int .i64 x7.Plate.C, .int .i64 x7.Plate.D, .int .i64 x7.Seeing, .int .i64 x7.DriftX, .int .i64 x7.DriftY, .int .i64 x7.Lamp, .slice A8 x7.Hits.length c9] 76 (0, 0))] :: H) → Own (tInt .i64) 3 f274 A281 c282 s283 x280 → a_ = ⟨#[pV b1 0, (ag_Shot x7 A8 c9), iV vw11, iV vh12, uV, pV b15 0, uV, uV, pV b19 0, pV b36 0, iV (rd ([2, 256, 300, 5000, 65536] : List Int) vt51), iV vt65, (j278 0), iV vw11, iV vh12, (ag_Shot x7 A8 c9), .slice A31 vt25.length c32, .agg #[iV vw11, iV vh12, .slice A31 vt25.length c32, .slice none 0 0], .slice (some ⟨b44, 0, none⟩) ([2, 256, 300, 5000, 65536] : List Int).length 5, pV b1 0, iV vt51, pV b44 (0 + (vt51 : Int).toNat * 1), iV (rd ([2, 256, 300, 5000, 65536] : List Int) vt51), pV b1 0, iV (rd ([2, 256, 300, 5000, 65536] : List Int) vt51), iV vt65, iV vw11, iV vh12, iV (w64 (vw11 * vh12)), (j278 1), (j278 2), (j278 3), (j278 4), (j278 5), (j278 6), (j278 7), (j278 8), (j278 9), (j278 10), (j278 11), (j278 12), (j278 13), (j278 14), (j278 15), (j278 16), (j278 17), (j278 18), (j278 19), (j278 20), (j278 21), uV], []⟩ → K72 a_ W276 := by
  intro f274 A281 c282 s283 x279 x280 j278 W276 a_ L275 hj288 HS277 HO284 hfr_; subst hfr_
  injection hj288 with hj288; subst hj288; try dsimp only at h
  refine hK73 _ _ ?_
  refine wp_seq_k fun K305 hK306 => rl ?_
  refine seqK rfl (does_run (run_loadN (n := 4) rfl Tryz.underlying29 rfl kr (kv (.pointer (some ⟨b36, 0, none⟩))) (cs := [.int .i64 vw11, .int .i64 vh12, .slice A31 vt25.length c32, .slice A281 x280.length c282]) rfl (HS277.u3.cells 0 4 _ rfl)) ?_)
  have HS307 := HS277.u5
  refine seqK rfl (does_storeA (vs := [.int .i64 vw11, .int .i64 vh12, .slice A31 vt25.length c32, .slice A281 x280.length c282]) rfl kr kr kr rfl (ones rfl) HS307 kr ?_)
  intro W308 HS309
  refine nl (hK306 _ _ ?_)
  refine wp_ret ?_
  refine hret _ _ ?_
  refine ends (v := Value.agg #[.int .i64 vw11, .int .i64 vh12, .slice A31 vt25.length c32, .slice A281 x280.length c282]) (results1 (q1 := .cell 8 29) kr (resN (n := 4) (cs := [.int .i64 vw11, .int .i64 vh12, .slice A31 vt25.length c32, .slice A281 x280.length c282]) (kv (.pointer (some ⟨b19, 0, none⟩))) Tryz.underlying29 rfl kr rfl (HS309.cells 0 4 _ rfl))) kr ?_
  have HS316 := HS309.u2.u2.u5.u6.u6.u6.u6
  have HS317 := HS316.drop
  have HS318 := HS317.drop
  have HS319 := HS318.drop
  have HS320 := HS319.drop
  injection h with h
  injection h with h0_ h
  subst h0_ h
  exact ⟨f274, A31, c32, s33, A281, c282, s283, rfl, (L28.trans (L55.trans (L69.trans L275))), HS320, (HO34.mono (L55.trans (L69.trans L275))), HO284⟩
 clear h; have h := hv286; clear hv286
 have HS289 := HS71.cons_nil
 refine loopK (fun n_ a_ w_ => ∃ (f180 : FM) (A188 : Option Addr) (c189 : Nat) (s190 : Seg) (x185 : Int) (x186 : Int) (x187 : List Int) (j184 : Nat → Value), FM.le f68 f180 ∧ St t w_ f180 (s190 :: [(b1, .cells #[.slice A4 s3.L.length c5, .int .i64 x186] 33 (0, 0))] :: s46 :: [(b36, .cells #[.int .i64 vw11, .int .i64 vh12, .slice A31 vt25.length c32, .slice A188 x187.length c189] 29 (0, 0))] :: s33 :: [(b19, .cells #[.int .i64 0, .int .i64 0, .slice none 0 0, .slice none 0 0] 29 (0, 0))] :: [(b15, .cells #[.int .i64 x7.Kind, .int .u64 x7.Seed, .int .i64 x7.Number, .int .i64 x7.Begin, .int .i64 x7.Beats, .int .i64 x7.Plate.A, .int .i64 x7.Plate.B, .int .i64 x7.Plate.C, .int .i64 x7.Plate.D, .int .i64 x7.Seeing, .int .i64 x7.DriftX, .int .i64 x7.DriftY, .int .i64 x7.Lamp, .slice A8 x7.Hits.length c9] 76 (0, 0))] :: H) ∧ Own (tInt .i64) 3 f180 A188 c189 s190 x187 ∧ spymake_Stream_Frame.l0 k vw11 vh12 s3 vt51 vt65 n_ x185 x186 x187 = some o176 ∧ a_ = ⟨#[pV b1 0, (ag_Shot x7 A8 c9), iV vw11, iV vh12, uV, pV b15 0, uV, uV, pV b19 0, pV b36 0, iV (rd ([2, 256, 300, 5000, 65536] : List Int) vt51), iV vt65, (j184 0), iV vw11, iV vh12, (ag_Shot x7 A8 c9), .slice A31 vt25.length c32, .agg #[iV vw11, iV vh12, .slice A31 vt25.length c32, .slice none 0 0], .slice (some ⟨b44, 0, none⟩) ([2, 256, 300, 5000, 65536] : List Int).length 5, pV b1 0, iV vt51, pV b44 (0 + (vt51 : Int).toNat * 1), iV (rd ([2, 256, 300, 5000, 65536] : List Int) vt51), pV b1 0, iV (rd ([2, 256, 300, 5000, 65536] : List Int) vt51), iV vt65, iV vw11, iV vh12, iV (w64 (vw11 * vh12)), iV x185, (j184 1), (j184 2), (j184 3), (j184 4), (j184 5), (j184 6), (j184 7), (j184 8), (j184 9), (j184 10), (j184 11), (j184 12), (j184 13), (j184 14), (j184 15), (j184 16), (j184 17), (j184 18), (j184 19), (j184 20), uV], []⟩) k ⟨f68, none, 0, [], 0, vt66, ([] : List Int), (jL []), fL, HS289, (Own.nil _), h, kr⟩ ?_
 clear h
 rintro n179 _ W182 ⟨f180, A188, c189, s190, x185, x186, x187, j184, L181, HS183, HO191, h, rfl⟩ K177 hK178
 obtain _ | n179 := n179
 · exact nomatch h
 simp only [spymake_Stream_Frame.l0] at h
 refine wp_seq_k fun K193 hK194 => rl ?_
 refine seqL1 kr ?_
 refine nl (hK194 _ _ ?_)
 refine wp_seq_k (fun K195 hK196 => ?_)
 have hq_ := ite_some h; clear h; rcases hq_ with ⟨c198, h⟩ | ⟨c198, h⟩
 · have c198 : x185 < (w64 (vw11 * vh12)) := c198
   refine wpRwI 30 kr (decide_eq_true c198) ?_
   refine condT kr ?_
   refine wp_skip ?_
   refine hK196 _ _ ?_
   refine wp_seq_k (fun K199 hK200 => ?_)
   refine blockK (fun B201 hx202 hn203 hr204 ho205 hp206 => ?_)
   refine wp_seq_k fun K208 hK209 => rl ?_
   have HS210 := HS183.u1
   have hq_ := bind_some h; clear h; obtain ⟨⟨vt211, vt212⟩, hc213, h⟩ := hq_
   refine seqL2 kr ?_
   refine seqK rfl (does_call (f := 29) (args := #[.pointer (some ⟨b1, 0, none⟩), .int .i64 (-3), .int .i64 3]) kr (spymake_Stream_Range.calls k b1 A4 c5 (⟨s3.L, x186⟩ : S_Stream) (-3) 3 HS210 (HR6.mono (L28.trans (L55.trans (L69.trans L181)))) vt211 vt212 hc213) ?_)
   rintro _ W216 ⟨f214, rfl, L215, HS217⟩
   refine ⟨_, rfl, ?_⟩
   refine seqL2 kr ?_
   refine nl (hK209 _ _ ?_)
   refine wp_seq_k (fun K218 hK219 => ?_)
   refine wp_seq_k fun K220 hK221 => rl ?_
   have hq_ := bind_some h; clear h; obtain ⟨⟨vt222, vt223⟩, hc224, h⟩ := hq_
   refine seqL1 kr ?_
   refine seqK rfl (does_call (f := 28) (args := #[.pointer (some ⟨b1, 0, none⟩), .int .i64 3]) kr (spymake_Stream_Next.calls k b1 A4 c5 (⟨s3.L, vt212⟩ : S_Stream) 3 HS217 (HR6.mono (L28.trans (L55.trans (L69.trans (L181.trans L215))))) vt222 vt223 hc224) ?_)
   rintro _ W227 ⟨f225, rfl, L226, HS228⟩
   refine ⟨_, rfl, ?_⟩
   refine seqL1 kr ?_
   refine nl (hK221 _ _ ?_)
   have hq_ := ite_some h; clear h; rcases hq_ with ⟨c230, h⟩ | ⟨c230, h⟩
   · have c230 : vt222 = 0 := c230
     refine wpRwI 37 kr (beq_iff_eq.mpr c230) ?_
     refine condT kr ?_
     refine rl ?_
     have hq_ := bind_some h; clear h; obtain ⟨⟨vt231, vt232⟩, hc233, h⟩ := hq_
     refine seqL2 kr ?_
     refine seqK rfl (does_call (f := 28) (args := #[.pointer (some ⟨b1, 0, none⟩), .int .i64 (rd ([2, 256, 300, 5000, 65536] : List Int) vt51)]) kr (spymake_Stream_Next.calls k b1 A4 c5 (⟨s3.L, vt223⟩ : S_Stream) (rd ([2, 256, 300, 5000, 65536] : List Int) vt51) HS228 (HR6.mono (L28.trans (L55.trans (L69.trans (L181.trans (L215.trans L226)))))) vt231 vt232 hc233) ?_)
     rintro _ W236 ⟨f234, rfl, L235, HS237⟩
     refine ⟨_, rfl, ?_⟩
     refine seqL1 kr ?_
     refine nl (hK219 _ _ ?_)
     refine rl ?_
     refine seqL1 kr ?_
     refine seqK rfl (does_run (run_load rfl Tryz.underlying22 rfl (kv (.pointer (some ⟨b36, 3, none⟩))) (HS237.u3.cell 3)) ?_)
     refine seqL3 kr ?_
     refine seqK rfl (does_lit (e := (tInt .i64)) (E := 3) (vs := #[(0, Value.int .i64 (mx 0 (mn 65535 vt231)))]) (cs := #[.int .i64 (mx 0 (mn 65535 vt231))]) (xs := ([mx 0 (mn 65535 vt231)] : List Int)) rfl Tryz.underlying22 kr kr ⟨[.int .i64 (mx 0 (mn 65535 vt231))], _, rfl, rfl, rfl⟩ rfl HS237 ?_ (by decide))
     intro b238 W239 s240 HS241 _ HO242
     have hq_ := guard_some h; clear h; obtain ⟨c244, h⟩ := hq_
     have c244 : (x187.length + 1) * 8 ≤ 140737488355328 := c244
     have HS246 := HS241.u2.u1
     refine seqK rfl (does_append1 (e := (tInt .i64)) (E := 3) (xs := x187) (ys := ([mx 0 (mn 65535 vt231)] : List Int)) rfl (kv (.slice A188 x187.length c189)) (kv (.slice (some ⟨b238, 0, none⟩) ([mx 0 (mn 65535 vt231)] : List Int).length 1)) Tryz.underlying22 inf3 (HO191.mono (L215.trans (L226.trans L235))) HO242 HS246 c244 (lim63 c244 (by decide)) ?_)
     intro A247 c248 s249 W250 HS251 HO252
     have HS253 := HS251.u3
     refine seqL1 kr ?_
     refine seqK rfl (does_store (n := 1) (vs := [.slice A247 (x187 ++ ([mx 0 (mn 65535 vt231)] : List Int)).length c248]) (cs' := #[.int .i64 vw11, .int .i64 vh12, .slice A31 vt25.length c32, .slice A247 (x187 ++ ([mx 0 (mn 65535 vt231)] : List Int)).length c248]) rfl kr (kv (.pointer (some ⟨b36, 3, none⟩))) (kv (.slice A247 (x187 ++ ([mx 0 (mn 65535 vt231)] : List Int)).length c248)) rfl rfl (ones rfl) HS253 (Nat.le_of_ble_eq_true rfl) kr ?_)
     intro W254 HS255
     refine nl ?_
     refine hn203 _ _ ?_
     refine hK200 _ _ ?_
     refine rl ?_
     refine seqL2 kr ?_
     refine nl ?_
     refine hK178 n179 _ _ (Nat.lt_succ_self _) ?_
     have HS297 := HS255.u6.u6.u6.u3.u6.u6.u6
     exact ⟨f234, A247, c248, s249, (w64 (x185 + 1)), vt232, (x187 ++ ([mx 0 (mn 65535 vt231)] : List Int)), (jL [iV vt231, tV, iV vt65, .pointer (some ⟨b1, 0, none⟩), iV vt211, iV (w64 (vt65 + vt211)), .pointer (some ⟨b1, 0, none⟩), iV vt222, tV, .pointer (some ⟨b1, 0, none⟩), iV (rd ([2, 256, 300, 5000, 65536] : List Int) vt51), iV vt231, .pointer (some ⟨b36, 3, none⟩), .slice A188 x187.length c189, iV vt231, iV (mn 65535 vt231), iV (mx 0 (mn 65535 vt231)), .slice (some ⟨b238, 0, none⟩) ([mx 0 (mn 65535 vt231)] : List Int).length 1, .slice A247 (x187 ++ ([mx 0 (mn 65535 vt231)] : List Int)).length c248, .pointer (some ⟨b36, 3, none⟩), iV (w64 (x185 + 1))]), (L181.trans (L215.trans (L226.trans L235))), HS297, HO252, h, kr⟩
   · have c230 : ¬ (vt222 = 0) := c230
     refine wpRwI 37 kr (beq_eq_false_iff_ne.mpr c230) ?_
     refine condF kr ?_
     refine wp_skip ?_
     refine hK219 _ _ ?_
     refine rl ?_
     refine seqL1 kr ?_
     refine seqK rfl (does_run (run_load rfl Tryz.underlying22 rfl (kv (.pointer (some ⟨b36, 3, none⟩))) (HS228.u3.cell 3)) ?_)
     refine seqL3 kr ?_
     refine seqK rfl (does_lit (e := (tInt .i64)) (E := 3) (vs := #[(0, Value.int .i64 (mx 0 (mn 65535 (w64 (vt65 + vt211)))))]) (cs := #[.int .i64 (mx 0 (mn 65535 (w64 (vt65 + vt211))))]) (xs := ([mx 0 (mn 65535 (w64 (vt65 + vt211)))] : List Int)) rfl Tryz.underlying22 kr kr ⟨[.int .i64 (mx 0 (mn 65535 (w64 (vt65 + vt211))))], _, rfl, rfl, rfl⟩ rfl HS228 ?_ (by decide))
     intro b256 W257 s258 HS259 _ HO260
     have hq_ := guard_some h; clear h; obtain ⟨c262, h⟩ := hq_
     have c262 : (x187.length + 1) * 8 ≤ 140737488355328 := c262
     have HS264 := HS259.u2.u1
     refine seqK rfl (does_append1 (e := (tInt .i64)) (E := 3) (xs := x187) (ys := ([mx 0 (mn 65535 (w64 (vt65 + vt211)))] : List Int)) rfl (kv (.slice A188 x187.length c189)) (kv (.slice (some ⟨b256, 0, none⟩) ([mx 0 (mn 65535 (w64 (vt65 + vt211)))] : List Int).length 1)) Tryz.underlying22 inf3 (HO191.mono (L215.trans L226)) HO260 HS264 c262 (lim63 c262 (by decide)) ?_)
     intro A265 c266 s267 W268 HS269 HO270
     have HS271 := HS269.u3
     refine seqL1 kr ?_
     refine seqK rfl (does_store (n := 1) (vs := [.slice A265 (x187 ++ ([mx 0 (mn 65535 (w64 (vt65 + vt211)))] : List Int)).length c266]) (cs' := #[.int .i64 vw11, .int .i64 vh12, .slice A31 vt25.length c32, .slice A265 (x187 ++ ([mx 0 (mn 65535 (w64 (vt65 + vt211)))] : List Int)).length c266]) rfl kr (kv (.pointer (some ⟨b36, 3, none⟩))) (kv (.slice A265 (x187 ++ ([mx 0 (mn 65535 (w64 (vt65 + vt211)))] : List Int)).length c266)) rfl rfl (ones rfl) HS271 (Nat.le_of_ble_eq_true rfl) kr ?_)
     intro W272 HS273
     refine nl ?_
     refine hn203 _ _ ?_
     refine hK200 _ _ ?_
     refine rl ?_
     refine seqL2 kr ?_
     refine nl ?_
     refine hK178 n179 _ _ (Nat.lt_succ_self _) ?_
     have HS304 := HS273.u6.u6.u6.u3.u6.u6.u6
     exact ⟨f225, A265, c266, s267, (w64 (x185 + 1)), vt223, (x187 ++ ([mx 0 (mn 65535 (w64 (vt65 + vt211)))] : List Int)), (jL [iV (w64 (vt65 + vt211)), tV, iV vt65, .pointer (some ⟨b1, 0, none⟩), iV vt211, iV (w64 (vt65 + vt211)), .pointer (some ⟨b1, 0, none⟩), iV vt222, fV, (j184 9), (j184 10), (j184 11), .pointer (some ⟨b36, 3, none⟩), .slice A188 x187.length c189, iV (w64 (vt65 + vt211)), iV (mn 65535 (w64 (vt65 + vt211))), iV (mx 0 (mn 65535 (w64 (vt65 + vt211)))), .slice (some ⟨b256, 0, none⟩) ([mx 0 (mn 65535 (w64 (vt65 + vt211)))] : List Int).length 1, .slice A265 (x187 ++ ([mx 0 (mn 65535 (w64 (vt65 + vt211)))] : List Int)).length c266, .pointer (some ⟨b36, 3, none⟩), iV (w64 (x185 + 1))]), (L181.trans (L215.trans L226)), HS304, HO270, h, kr⟩
 · have c198 : ¬ (x185 < (w64 (vw11 * vh12))) := c198
   refine wpRwI 30 kr (decide_eq_false c198) ?_
   refine condF kr ?_
   refine wp_exit ?_
   refine hx77 _ _ ?_
   exact J287 f180 A188 c189 s190 x186 x187 (jL [(j184 0), iV x185, fV, (j184 2), (j184 3), (j184 4), (j184 5), (j184 6), (j184 7), (j184 8), (j184 9), (j184 10), (j184 11), (j184 12), (j184 13), (j184 14), (j184 15), (j184 16), (j184 17), (j184 18), (j184 19), (j184 20)]) W182 _ L181 h HS183 HO191 kr

theorem strconv_Itoa.calls (k : Nat) (n : Int) {t w : World} {f : FM} {H : List Seg} (HS : St t w f H) (HT : TabF Tryz.prog "internal/strconv.uint64pow10" .u64 Go.Lib.pow10Tab f) (r1 : ByteArray) (h : strconv_Itoa k n = some r1) :
    Calls Tryz.prog 44 #[.int .i64 n] w (fun e w' => ∃ (g : FM), e = .returned (Value.string r1) ∧ FM.le f g ∧ St t w' g H) := by
  unfold strconv_Itoa at h
  have hq_ := guard_some h; clear h; obtain ⟨h1, h⟩ := hq_
  have hq_ := guard_some h; clear h; obtain ⟨h2, h⟩ := hq_
  injection h with h; subst h
  exact (itoa_calls (n := n) (fun w_ ht_ => Tryz.strconv_Itoa n h1 h2 w_ ht_) HS (HT.tab HS)).mono fun e w' ⟨he, hs⟩ => ⟨f, he, FM.le.refl _, hs⟩

set_option maxRecDepth 100000 in
set_option maxHeartbeats 4000000 in
theorem spymake_Stream_Notes.calls (k : Nat) (b1 : Nat) (A4 : Option Addr) (c5 : Nat) (A8 : Option Addr) (c9 : Nat) (A11 : Option Addr) (c12 : Nat) (s3 : S_Stream) (vf7 : S_Frame) {t w : World} {f : FM} {H : List Seg} (HS : St t w f ([(b1, .cells #[.slice A4 s3.L.length c5, .int .i64 s3.vat] 33 (0, 0))] :: H)) (HR6 : SlR (tInt .i64) f A4 c5 s3.L) (HR10 : SlR ty_Card f A8 c9 vf7.Cards) (HR13 : SlR (tInt .i64) f A11 c12 vf7.Counts) (HT : TabF Tryz.prog "internal/strconv.uint64pow10" .u64 Go.Lib.pow10Tab f) (rr1 : S_Frame) (rr2 : Int) (h : spymake_Stream_Notes k s3 vf7 = some (rr1, rr2)) :
    Calls Tryz.prog 25 #[.pointer (some ⟨b1, 0, none⟩), .agg #[.int .i64 vf7.W, .int .i64 vf7.H, .slice A8 vf7.Cards.length c9, .slice A11 vf7.Counts.length c12]] w (fun e w' => ∃ (g : FM) (A475 : Option Addr) (c476 : Nat) (s477 : Seg) (A478 : Option Addr) (c479 : Nat), e = .returned (Value.agg #[.int .i64 rr1.W, .int .i64 rr1.H, .slice A475 rr1.Cards.length c476, .slice A478 rr1.Counts.length c479]) ∧ FM.le f g ∧ St t w' g (s477 :: [(b1, .cells #[.slice A4 s3.L.length c5, .int .i64 rr2] 33 (0, 0))] :: H) ∧ Own ty_Card 51 g A475 c476 s477 rr1.Cards ∧ SlR (tInt .i64) g A478 c479 rr1.Counts) := by
 unfold spymake_Stream_Notes at h
 refine enter Tryz.func25 rfl (tm := #[pV b1 0, (ag_Frame vf7 A8 c9 A11 c12), uV, uV, uV, uV, uV, uV, uV, uV, uV, uV, uV, uV, uV, uV, uV, uV, uV, uV, uV, uV, uV, uV, uV, uV, uV, uV, uV, uV, uV, uV, uV, uV, uV, uV, uV, uV, uV, uV, uV, uV, uV, uV, uV, uV, uV, uV, uV, uV, uV, uV]) kr ?_
 intro B hret hnor hnp
 refine wp_seq_k fun K14 hK15 => rl ?_
 refine seqK rfl (does_box (cs := #[.int .i64 vf7.W, .int .i64 vf7.H, .slice A8 vf7.Cards.length c9, .slice A11 vf7.Counts.length c12]) rfl (kv (.agg #[.int .i64 vf7.W, .int .i64 vf7.H, .slice A8 vf7.Cards.length c9, .slice A11 vf7.Counts.length c12])) rfl HS ?_)
 intro b16 W17 HS18
 refine seqK rfl (does_alloc (z := Value.agg #[.int .i64 0, .int .i64 0, .slice none 0 0, .slice none 0 0]) (cs := #[.int .i64 0, .int .i64 0, .slice none 0 0, .slice none 0 0]) rfl kr rfl HS18 ?_)
 intro b20 W21 HS22
 refine nl (hK15 _ _ ?_)
 refine wp_seq_k fun K24 hK25 => rl ?_
 refine seqK rfl (does_lit (e := ty_Card) (E := 51) (vs := #[]) (cs := #[]) (xs := ([] : List S_Card)) rfl Tryz.underlying27 kr kr rfl rfl HS22 ?_ (by decide))
 intro b26 W27 s28 HS29 _ HO30
 refine seqL1 kr ?_
 refine seqK rfl (does_run (run_load rfl Tryz.underlying27 rfl (kv (.pointer (some ⟨b16, 2, none⟩))) (HS29.u2.cell 2)) ?_)
 have hq_ := guard_some h; clear h; obtain ⟨c32, h⟩ := hq_
 have c32 : (([] : List S_Card).length + vf7.Cards.length) * 64 ≤ 140737488355328 := c32
 refine seqK rfl (does_append (e := ty_Card) (E := 51) (xs := ([] : List S_Card)) (ys := vf7.Cards) rfl (kv (.slice (some ⟨b26, 0, none⟩) ([] : List S_Card).length 0)) (kv (.slice A8 vf7.Cards.length c9)) Tryz.underlying27 inf51 HO30 HS29 (HR10.rc HS29) c32 (lim63 c32 (by decide)) ?_)
 intro A33 c34 s35 W36 HS37 HO38
 refine seqL1 kr ?_
 refine nl (hK25 _ _ ?_)
 refine wp_seq_k (fun K39 hK40 => ?_)
 refine wp_seq_k fun K41 hK42 => rl ?_
 have HS43 := HS37.u3
 have hq_ := bind_some h; clear h; obtain ⟨⟨vt44, vt45⟩, hc46, h⟩ := hq_
 refine seqL1 kr ?_
 refine seqK rfl (does_call (f := 28) (args := #[.pointer (some ⟨b1, 0, none⟩), .int .i64 4]) kr (spymake_Stream_Next.calls k b1 A4 c5 s3 4 HS43 HR6 vt44 vt45 hc46) ?_)
 rintro _ W49 ⟨f47, rfl, L48, HS50⟩
 refine ⟨_, rfl, ?_⟩
 refine seqL1 kr ?_
 refine nl (hK42 _ _ ?_)
 refine blockK (fun B51 hx52 hn53 hr54 ho55 hp56 => ?_)
 have hq_ := bind_some h; clear h; obtain ⟨o241, hv438, h⟩ := hq_
 have J439 : ∀ (f427 : FM) (A433 : Option Addr) (c434 : Nat) (s435 : Seg) (l432 : List S_Card) (x437 : Int) (j431 : Nat → Value) (W429 : World) (a_ : Act), FM.le f47 f427 → some ((l432, x437)) = some o241 → St t W429 f427 ([(b1, .cells #[.slice A4 s3.L.length c5, .int .i64 x437] 33 (0, 0))] :: s435 :: [(b20, .cells #[.int .i64 0, .int .i64 0, .slice none 0 0, .slice none 0 0] 29 (0, 0))] :: [(b16, .cells #[.int .i64 vf7.W, .int .i64 vf7.H, .slice A8 vf7.Cards.length c9, .slice A11 vf7.Counts.length c12] 29 (0, 0))] :: H) → Own ty_Card 51 f427 A433 c434 s435 l432 → a_ = ⟨#[pV b1 0, (ag_Frame vf7 A8 c9 A11 c12), uV, pV b16 0, pV b20 0, .slice A433 l432.length c434, (j431 0), (j431 1), .slice (some ⟨b26, 0, none⟩) ([] : List S_Card).length 0, pV b16 2, .slice A8 vf7.Cards.length c9, (j431 2), pV b1 0, iV vt44, (j431 3), (j431 4), (j431 5), (j431 6), (j431 7), (j431 8), (j431 9), (j431 10), (j431 11), (j431 12), (j431 13), (j431 14), (j431 15), (j431 16), (j431 17), (j431 18), (j431 19), (j431 20), (j431 21), (j431 22), (j431 23), (j431 24), (j431 25), (j431 26), (j431 27), (j431 28), (j431 29), (j431 30), (j431 31), (j431 32), (j431 33), (j431 34), (j431 35), (j431 36), (j431 37), uV, uV, uV], []⟩ → K39 a_ W429 := by
  intro f427 A433 c434 s435 l432 x437 j431 W429 a_ L428 hj440 HS430 HO436 hfr_; subst hfr_
  injection hj440 with hj440; subst hj440; try dsimp only at h
  refine hK40 _ _ ?_
  refine wp_seq_k fun K459 hK460 => rl ?_
  have HS461 := HS430.u3
  refine seqL2 kr ?_
  refine seqK rfl (does_store (n := 1) (vs := [.slice A433 l432.length c434]) (cs' := #[.int .i64 vf7.W, .int .i64 vf7.H, .slice A433 l432.length c434, .slice A11 vf7.Counts.length c12]) rfl kr (kv (.pointer (some ⟨b16, 2, none⟩))) (kv (.slice A433 l432.length c434)) rfl rfl (ones rfl) HS461 (Nat.le_of_ble_eq_true rfl) kr ?_)
  intro W462 HS463
  refine nl (hK460 _ _ ?_)
  refine wp_seq_k fun K464 hK465 => rl ?_
  refine seqK rfl (does_run (run_loadN (n := 4) rfl Tryz.underlying29 rfl kr (kv (.pointer (some ⟨b16, 0, none⟩))) (cs := [.int .i64 vf7.W, .int .i64 vf7.H, .slice A433 l432.length c434, .slice A11 vf7.Counts.length c12]) rfl (HS463.cells 0 4 _ rfl)) ?_)
  have HS466 := HS463.u3
  refine seqK rfl (does_storeA (vs := [.int .i64 vf7.W, .int .i64 vf7.H, .slice A433 l432.length c434, .slice A11 vf7.Counts.length c12]) rfl kr kr kr rfl (ones rfl) HS466 kr ?_)
  intro W467 HS468
  refine nl (hK465 _ _ ?_)
  refine wp_ret ?_
  refine hret _ _ ?_
  refine ends (v := Value.agg #[.int .i64 vf7.W, .int .i64 vf7.H, .slice A433 l432.length c434, .slice A11 vf7.Counts.length c12]) (results1 (q1 := .cell 4 29) kr (resN (n := 4) (cs := [.int .i64 vf7.W, .int .i64 vf7.H, .slice A433 l432.length c434, .slice A11 vf7.Counts.length c12]) (kv (.pointer (some ⟨b20, 0, none⟩))) Tryz.underlying29 rfl kr rfl (HS468.cells 0 4 _ rfl))) kr ?_
  have HS472 := HS468.u2.u3.u3.u3
  have HS473 := HS472.drop
  have HS474 := HS473.drop
  injection h with h
  injection h with h0_ h
  subst h0_ h
  exact ⟨f427, A433, c434, s435, A11, c12, rfl, (L48.trans L428), HS474, HO436, (HR13.mono (L48.trans L428))⟩
 clear h; have h := hv438; clear hv438
 refine loopK (fun n_ a_ w_ => ∃ (f245 : FM) (A251 : Option Addr) (c252 : Nat) (s253 : Seg) (l250 : List S_Card) (x255 : Int) (x256 : Int) (j249 : Nat → Value), FM.le f47 f245 ∧ St t w_ f245 ([(b1, .cells #[.slice A4 s3.L.length c5, .int .i64 x256] 33 (0, 0))] :: s253 :: [(b20, .cells #[.int .i64 0, .int .i64 0, .slice none 0 0, .slice none 0 0] 29 (0, 0))] :: [(b16, .cells #[.int .i64 vf7.W, .int .i64 vf7.H, .slice A8 vf7.Cards.length c9, .slice A11 vf7.Counts.length c12] 29 (0, 0))] :: H) ∧ Own ty_Card 51 f245 A251 c252 s253 l250 ∧ spymake_Stream_Notes.l0 k vt44 s3 n_ l250 x255 x256 = some o241 ∧ a_ = ⟨#[pV b1 0, (ag_Frame vf7 A8 c9 A11 c12), uV, pV b16 0, pV b20 0, .slice A251 l250.length c252, (j249 0), (j249 1), .slice (some ⟨b26, 0, none⟩) ([] : List S_Card).length 0, pV b16 2, .slice A8 vf7.Cards.length c9, .slice A33 (([] : List S_Card) ++ vf7.Cards).length c34, pV b1 0, iV vt44, iV x255, (j249 2), (j249 3), (j249 4), (j249 5), (j249 6), (j249 7), (j249 8), (j249 9), (j249 10), (j249 11), (j249 12), (j249 13), (j249 14), (j249 15), (j249 16), (j249 17), (j249 18), (j249 19), (j249 20), (j249 21), (j249 22), (j249 23), (j249 24), (j249 25), (j249 26), (j249 27), (j249 28), (j249 29), (j249 30), (j249 31), (j249 32), (j249 33), (j249 34), (j249 35), uV, uV, uV], []⟩) k ⟨f47, A33, c34, s35, (([] : List S_Card) ++ vf7.Cards), 0, vt45, (jL []), fL, HS50, (HO38.mono L48), h, kr⟩ ?_
 clear h
 rintro n244 _ W247 ⟨f245, A251, c252, s253, l250, x255, x256, j249, L246, HS248, HO254, h, rfl⟩ K242 hK243
 obtain _ | n244 := n244
 · exact nomatch h
 simp only [spymake_Stream_Notes.l0] at h
 refine wp_seq_k fun K257 hK258 => rl ?_
 refine seqL1 kr ?_
 refine nl (hK258 _ _ ?_)
 refine wp_seq_k (fun K259 hK260 => ?_)
 have hq_ := ite_some h; clear h; rcases hq_ with ⟨c262, h⟩ | ⟨c262, h⟩
 · have c262 : x255 < vt44 := c262
   refine wpRwI 15 kr (decide_eq_true c262) ?_
   refine condT kr ?_
   refine wp_skip ?_
   refine hK260 _ _ ?_
   refine wp_seq_k (fun K263 hK264 => ?_)
   refine blockK (fun B265 hx266 hn267 hr268 ho269 hp270 => ?_)
   refine wp_seq_k fun K272 hK273 => rl ?_
   refine seqL2 kr ?_
   refine nl (hK273 _ _ ?_)
   refine wp_seq_k fun K274 hK275 => rl ?_
   have hq_ := bind_some h; clear h; obtain ⟨vt276, hc277, h⟩ := hq_
   refine seqL1 kr ?_
   refine seqK rfl (does_call (f := 44) (args := #[.int .i64 x255]) kr (strconv_Itoa.calls k x255 HS248 (HT.mono (L48.trans L246)) vt276 hc277) ?_)
   rintro _ W280 ⟨f278, rfl, L279, HS281⟩
   refine ⟨_, rfl, ?_⟩
   have hq_ := guard_some h; clear h; obtain ⟨c282, h⟩ := hq_
   have c282 : Z33.size + vt276.size ≤ 9223372036854775807 := c282
   refine seqK rfl (does_run (run_concat rfl (kv (.string ⟨#[88]⟩)) (kv (.string vt276)) c282 W280) ?_)
   refine seqK rfl (does_lit (e := tStr) (E := 9) (vs := #[(0, Value.string ⟨#[49]⟩), (1, Value.string ⟨#[97, 47, 98]⟩), (2, Value.string ⟨#[61]⟩), (3, Value.string ⟨#[91, 55, 93]⟩), (4, Value.string ⟨#[45, 49, 50]⟩), (5, Value.string ⟨#[50, 48]⟩)]) (cs := #[.string ⟨#[49]⟩, .string ⟨#[97, 47, 98]⟩, .string ⟨#[61]⟩, .string ⟨#[91, 55, 93]⟩, .string ⟨#[45, 49, 50]⟩, .string ⟨#[50, 48]⟩]) (xs := ([Z17, Z39, Z22, Z36, Z15, Z18] : List ByteArray)) rfl Tryz.underlying46 kr kr ⟨[.string ⟨#[49]⟩], _, rfl, rfl, ⟨[.string ⟨#[97, 47, 98]⟩], _, rfl, rfl, ⟨[.string ⟨#[61]⟩], _, rfl, rfl, ⟨[.string ⟨#[91, 55, 93]⟩], _, rfl, rfl, ⟨[.string ⟨#[45, 49, 50]⟩], _, rfl, rfl, ⟨[.string ⟨#[50, 48]⟩], _, rfl, rfl, rfl⟩⟩⟩⟩⟩⟩ rfl HS281 ?_ (by decide))
   intro b283 W284 s285 HS286 _ HO287
   have HS289 := HS286.u1
   have hq_ := bind_some h; clear h; obtain ⟨⟨vt290, vt291⟩, hc292, h⟩ := hq_
   refine seqL1 kr ?_
   refine seqK rfl (does_call (f := 28) (args := #[.pointer (some ⟨b1, 0, none⟩), .int .i64 6]) kr (spymake_Stream_Next.calls k b1 A4 c5 (⟨s3.L, x256⟩ : S_Stream) 6 HS289 (HR6.mono (L48.trans (L246.trans L279))) vt290 vt291 hc292) ?_)
   rintro _ W295 ⟨f293, rfl, L294, HS296⟩
   refine ⟨_, rfl, ?_⟩
   have hq_ := guard_some h; clear h; obtain ⟨c297, h⟩ := hq_
   have c297 : 0 ≤ vt290 := c297
   have hq_ := guard_some h; clear h; obtain ⟨c298, h⟩ := hq_
   have c298 : vt290 < (([Z17, Z39, Z22, Z36, Z15, Z18] : List ByteArray).length : Int) := c298
   obtain ⟨cs299, hr300, hc301⟩ := (HO287.mono L294).at' (i := vt290) c297 c298
   obtain rfl := hr300
   refine seqK rfl (does_run (run_index (sz := 1) rfl Tryz.underlying46 kr (kv (.slice (some ⟨b283, 0, none⟩) ([Z17, Z39, Z22, Z36, Z15, Z18] : List ByteArray).length 6)) (kv (.int .i64 vt290)) c297 c298 W295) ?_)
   refine seqK rfl (does_run (run_load rfl Tryz.underlying9 rfl (kv (.pointer (some ⟨b283, 0 + (vt290 : Int).toNat * 1, none⟩))) ((hc301 HS296.u1) 0 (by decide))) ?_)
   refine seqL1 kr ?_
   refine seqK rfl (does_alloc (z := Value.agg #[.string ⟨#[]⟩, .string ⟨#[]⟩, .string ⟨#[]⟩, .string ⟨#[]⟩]) (cs := #[.string ⟨#[]⟩, .string ⟨#[]⟩, .string ⟨#[]⟩, .string ⟨#[]⟩]) rfl kr rfl HS296 ?_)
   intro b302 W303 HS304
   refine seqK rfl (does_storeA (vs := [.string (Z33 ++ vt276), .string (rd ([Z17, Z39, Z22, Z36, Z15, Z18] : List ByteArray) vt290), .string ⟨#[]⟩, .string ⟨#[]⟩]) rfl kr kr kr rfl (ones rfl) HS304 kr ?_)
   intro W306 HS307
   refine nl (hK275 _ _ ?_)
   refine wp_seq_k (fun K308 hK309 => ?_)
   refine wp_seq_k fun K310 hK311 => rl ?_
   have HS312 := HS307.u1
   have hq_ := bind_some h; clear h; obtain ⟨⟨vt313, vt314⟩, hc315, h⟩ := hq_
   refine seqL1 kr ?_
   refine seqK rfl (does_call (f := 28) (args := #[.pointer (some ⟨b1, 0, none⟩), .int .i64 2]) kr (spymake_Stream_Next.calls k b1 A4 c5 (⟨s3.L, vt291⟩ : S_Stream) 2 HS312 (HR6.mono (L48.trans (L246.trans (L279.trans L294)))) vt313 vt314 hc315) ?_)
   rintro _ W318 ⟨f316, rfl, L317, HS319⟩
   refine ⟨_, rfl, ?_⟩
   refine seqL1 kr ?_
   refine nl (hK311 _ _ ?_)
   have hq_ := bind_some h; clear h; obtain ⟨v320, hv351, h⟩ := hq_
   have J352 : ∀ (f344 : FM) (x349 : Int) (x350 : ByteArray) (j348 : Nat → Value) (W346 : World) (a_ : Act), FM.le f316 f344 → some ((x349, x350)) = some v320 → St t W346 f344 ([(b1, .cells #[.slice A4 s3.L.length c5, .int .i64 x349] 33 (0, 0))] :: [(b302, .cells #[.string (Z33 ++ vt276), .string (rd ([Z17, Z39, Z22, Z36, Z15, Z18] : List ByteArray) vt290), .string x350, .string ⟨#[]⟩] 51 (0, 0))] :: s285 :: s253 :: [(b20, .cells #[.int .i64 0, .int .i64 0, .slice none 0 0, .slice none 0 0] 29 (0, 0))] :: [(b16, .cells #[.int .i64 vf7.W, .int .i64 vf7.H, .slice A8 vf7.Cards.length c9, .slice A11 vf7.Counts.length c12] 29 (0, 0))] :: H) → a_ = ⟨#[pV b1 0, (ag_Frame vf7 A8 c9 A11 c12), uV, pV b16 0, pV b20 0, .slice A251 l250.length c252, iV x255, pV b302 0, .slice (some ⟨b26, 0, none⟩) ([] : List S_Card).length 0, pV b16 2, .slice A8 vf7.Cards.length c9, .slice A33 (([] : List S_Card) ++ vf7.Cards).length c34, pV b1 0, iV vt44, iV x255, tV, iV x255, iV x255, .string vt276, .string (Z33 ++ vt276), .slice (some ⟨b283, 0, none⟩) ([Z17, Z39, Z22, Z36, Z15, Z18] : List ByteArray).length 6, pV b1 0, iV vt290, pV b283 (0 + (vt290 : Int).toNat * 1), .string (rd ([Z17, Z39, Z22, Z36, Z15, Z18] : List ByteArray) vt290), .agg #[.string (Z33 ++ vt276), .string (rd ([Z17, Z39, Z22, Z36, Z15, Z18] : List ByteArray) vt290), .string ⟨#[]⟩, .string ⟨#[]⟩], pV b1 0, iV vt313, .bool (vt313 == 0), (j348 0), (j348 1), (j348 2), (j348 3), (j348 4), (j348 5), (j249 22), (j249 23), (j249 24), (j249 25), (j249 26), (j249 27), (j249 28), (j249 29), (j249 30), (j249 31), (j249 32), (j249 33), (j249 34), (j249 35), uV, uV, uV], []⟩ → K308 a_ W346 := by
    intro f344 x349 x350 j348 W346 a_ L345 hj353 HS347  hfr_; subst hfr_
    injection hj353 with hj353; subst hj353; try dsimp only at h
    refine hK309 _ _ ?_
    refine wp_seq_k (fun K362 hK363 => ?_)
    refine wp_seq_k fun K364 hK365 => rl ?_
    have hq_ := bind_some h; clear h; obtain ⟨⟨vt366, vt367⟩, hc368, h⟩ := hq_
    refine seqL1 kr ?_
    refine seqK rfl (does_call (f := 28) (args := #[.pointer (some ⟨b1, 0, none⟩), .int .i64 2]) kr (spymake_Stream_Next.calls k b1 A4 c5 (⟨s3.L, x349⟩ : S_Stream) 2 HS347 (HR6.mono (L48.trans (L246.trans (L279.trans (L294.trans (L317.trans L345)))))) vt366 vt367 hc368) ?_)
    rintro _ W371 ⟨f369, rfl, L370, HS372⟩
    refine ⟨_, rfl, ?_⟩
    refine seqL1 kr ?_
    refine nl (hK365 _ _ ?_)
    have hq_ := ite_some h; clear h; rcases hq_ with ⟨c374, h⟩ | ⟨c374, h⟩
    · have c374 : vt366 = 0 := c374
      refine wpRwI 37 kr (beq_iff_eq.mpr c374) ?_
      refine condT kr ?_
      refine rl ?_
      refine seqK rfl (does_lit (e := tStr) (E := 9) (vs := #[(0, Value.string ⟨#[97]⟩), (1, Value.string ⟨#[47, 32, 98]⟩), (2, Value.string ⟨#[120, 32, 32, 121]⟩), (3, Value.string ⟨#[91, 122, 93, 32, 61, 32, 49]⟩)]) (cs := #[.string ⟨#[97]⟩, .string ⟨#[47, 32, 98]⟩, .string ⟨#[120, 32, 32, 121]⟩, .string ⟨#[91, 122, 93, 32, 61, 32, 49]⟩]) (xs := ([Z40, Z16, Z11, Z35] : List ByteArray)) rfl Tryz.underlying46 kr kr ⟨[.string ⟨#[97]⟩], _, rfl, rfl, ⟨[.string ⟨#[47, 32, 98]⟩], _, rfl, rfl, ⟨[.string ⟨#[120, 32, 32, 121]⟩], _, rfl, rfl, ⟨[.string ⟨#[91, 122, 93, 32, 61, 32, 49]⟩], _, rfl, rfl, rfl⟩⟩⟩⟩ rfl HS372 ?_ (by decide))
      intro b375 W376 s377 HS378 _ HO379
      have HS381 := HS378.u1
      have hq_ := bind_some h; clear h; obtain ⟨⟨vt382, vt383⟩, hc384, h⟩ := hq_
      refine seqL1 kr ?_
      refine seqK rfl (does_call (f := 28) (args := #[.pointer (some ⟨b1, 0, none⟩), .int .i64 4]) kr (spymake_Stream_Next.calls k b1 A4 c5 (⟨s3.L, vt367⟩ : S_Stream) 4 HS381 (HR6.mono (L48.trans (L246.trans (L279.trans (L294.trans (L317.trans (L345.trans L370))))))) vt382 vt383 hc384) ?_)
      rintro _ W387 ⟨f385, rfl, L386, HS388⟩
      refine ⟨_, rfl, ?_⟩
      have hq_ := guard_some h; clear h; obtain ⟨c389, h⟩ := hq_
      have c389 : 0 ≤ vt382 := c389
      have hq_ := guard_some h; clear h; obtain ⟨c390, h⟩ := hq_
      have c390 : vt382 < (([Z40, Z16, Z11, Z35] : List ByteArray).length : Int) := c390
      obtain ⟨cs391, hr392, hc393⟩ := (HO379.mono L386).at' (i := vt382) c389 c390
      obtain rfl := hr392
      refine seqK rfl (does_run (run_index (sz := 1) rfl Tryz.underlying46 kr (kv (.slice (some ⟨b375, 0, none⟩) ([Z40, Z16, Z11, Z35] : List ByteArray).length 4)) (kv (.int .i64 vt382)) c389 c390 W387) ?_)
      refine seqK rfl (does_run (run_load rfl Tryz.underlying9 rfl (kv (.pointer (some ⟨b375, 0 + (vt382 : Int).toNat * 1, none⟩))) ((hc393 HS388.u1) 0 (by decide))) ?_)
      have HS394 := HS388.u2
      refine seqL1 kr ?_
      refine seqK rfl (does_store (n := 1) (vs := [.string (rd ([Z40, Z16, Z11, Z35] : List ByteArray) vt382)]) (cs' := #[.string (Z33 ++ vt276), .string (rd ([Z17, Z39, Z22, Z36, Z15, Z18] : List ByteArray) vt290), .string x350, .string (rd ([Z40, Z16, Z11, Z35] : List ByteArray) vt382)]) rfl kr (kv (.pointer (some ⟨b302, 3, none⟩))) (kv (.string (rd ([Z40, Z16, Z11, Z35] : List ByteArray) vt382))) rfl rfl (ones rfl) HS394 (Nat.le_of_ble_eq_true rfl) kr ?_)
      intro W395 HS396
      refine nl (hK363 _ _ ?_)
      refine rl ?_
      refine seqL1 kr ?_
      refine seqK rfl (does_run (run_loadN (n := 4) rfl Tryz.underlying51 rfl kr (kv (.pointer (some ⟨b302, 0, none⟩))) (cs := [.string (Z33 ++ vt276), .string (rd ([Z17, Z39, Z22, Z36, Z15, Z18] : List ByteArray) vt290), .string x350, .string (rd ([Z40, Z16, Z11, Z35] : List ByteArray) vt382)]) rfl (HS396.cells 0 4 _ rfl)) ?_)
      refine seqK rfl (does_lit (e := ty_Card) (E := 51) (vs := #[(0, Value.agg #[.string (Z33 ++ vt276), .string (rd ([Z17, Z39, Z22, Z36, Z15, Z18] : List ByteArray) vt290), .string x350, .string (rd ([Z40, Z16, Z11, Z35] : List ByteArray) vt382)])]) (cs := #[.string (Z33 ++ vt276), .string (rd ([Z17, Z39, Z22, Z36, Z15, Z18] : List ByteArray) vt290), .string x350, .string (rd ([Z40, Z16, Z11, Z35] : List ByteArray) vt382)]) (xs := ([(⟨(Z33 ++ vt276), (rd ([Z17, Z39, Z22, Z36, Z15, Z18] : List ByteArray) vt290), x350, (rd ([Z40, Z16, Z11, Z35] : List ByteArray) vt382)⟩ : S_Card)] : List S_Card)) rfl Tryz.underlying27 kr kr ⟨[.string (Z33 ++ vt276), .string (rd ([Z17, Z39, Z22, Z36, Z15, Z18] : List ByteArray) vt290), .string x350, .string (rd ([Z40, Z16, Z11, Z35] : List ByteArray) vt382)], _, rfl, rfl, rfl⟩ rfl HS396 ?_ (by decide))
      intro b397 W398 s399 HS400 _ HO401
      have hq_ := guard_some h; clear h; obtain ⟨c403, h⟩ := hq_
      have c403 : (l250.length + 1) * 64 ≤ 140737488355328 := c403
      have HS405 := HS400.u5.u1
      refine seqK rfl (does_append1 (e := ty_Card) (E := 51) (xs := l250) (ys := ([(⟨(Z33 ++ vt276), (rd ([Z17, Z39, Z22, Z36, Z15, Z18] : List ByteArray) vt290), x350, (rd ([Z40, Z16, Z11, Z35] : List ByteArray) vt382)⟩ : S_Card)] : List S_Card)) rfl (kv (.slice A251 l250.length c252)) (kv (.slice (some ⟨b397, 0, none⟩) ([(⟨(Z33 ++ vt276), (rd ([Z17, Z39, Z22, Z36, Z15, Z18] : List ByteArray) vt290), x350, (rd ([Z40, Z16, Z11, Z35] : List ByteArray) vt382)⟩ : S_Card)] : List S_Card).length 1)) Tryz.underlying27 inf51 (HO254.mono (L279.trans (L294.trans (L317.trans (L345.trans (L370.trans L386)))))) HO401 HS405 c403 (lim63 c403 (by decide)) ?_)
      intro A406 c407 s408 W409 HS410 HO411
      refine seqL1 kr ?_
      refine nl ?_
      refine hn267 _ _ ?_
      refine hK264 _ _ ?_
      refine rl ?_
      refine seqL2 kr ?_
      refine nl ?_
      refine hK243 n244 _ _ (Nat.lt_succ_self _) ?_
      have HS447 := HS410.u6.u6.u2.u4.u6.u6.u6
      have HS448 := HS447.drop
      have HS449 := HS448.drop
      have HS450 := HS449.drop
      exact ⟨f385, A406, c407, s408, (l250 ++ ([(⟨(Z33 ++ vt276), (rd ([Z17, Z39, Z22, Z36, Z15, Z18] : List ByteArray) vt290), x350, (rd ([Z40, Z16, Z11, Z35] : List ByteArray) vt382)⟩ : S_Card)] : List S_Card)), (w64 (x255 + 1)), vt383, (jL [iV x255, .pointer (some ⟨b302, 0, none⟩), tV, iV x255, iV x255, .string vt276, .string (Z33 ++ vt276), .slice (some ⟨b283, 0, none⟩) ([Z17, Z39, Z22, Z36, Z15, Z18] : List ByteArray).length 6, .pointer (some ⟨b1, 0, none⟩), iV vt290, .pointer (some ⟨b283, 0 + (vt290 : Int).toNat * 1, none⟩), .string (rd ([Z17, Z39, Z22, Z36, Z15, Z18] : List ByteArray) vt290), .agg #[.string (Z33 ++ vt276), .string (rd ([Z17, Z39, Z22, Z36, Z15, Z18] : List ByteArray) vt290), .string ⟨#[]⟩, .string ⟨#[]⟩], .pointer (some ⟨b1, 0, none⟩), iV vt313, .bool (vt313 == 0), (j348 0), (j348 1), (j348 2), (j348 3), (j348 4), (j348 5), .pointer (some ⟨b1, 0, none⟩), iV vt366, tV, .slice (some ⟨b375, 0, none⟩) ([Z40, Z16, Z11, Z35] : List ByteArray).length 4, .pointer (some ⟨b1, 0, none⟩), iV vt382, .pointer (some ⟨b375, 0 + (vt382 : Int).toNat * 1, none⟩), .string (rd ([Z40, Z16, Z11, Z35] : List ByteArray) vt382), .pointer (some ⟨b302, 3, none⟩), .slice A251 l250.length c252, .agg #[.string (Z33 ++ vt276), .string (rd ([Z17, Z39, Z22, Z36, Z15, Z18] : List ByteArray) vt290), .string x350, .string (rd ([Z40, Z16, Z11, Z35] : List ByteArray) vt382)], .slice (some ⟨b397, 0, none⟩) ([(⟨(Z33 ++ vt276), (rd ([Z17, Z39, Z22, Z36, Z15, Z18] : List ByteArray) vt290), x350, (rd ([Z40, Z16, Z11, Z35] : List ByteArray) vt382)⟩ : S_Card)] : List S_Card).length 1, .slice A406 (l250 ++ ([(⟨(Z33 ++ vt276), (rd ([Z17, Z39, Z22, Z36, Z15, Z18] : List ByteArray) vt290), x350, (rd ([Z40, Z16, Z11, Z35] : List ByteArray) vt382)⟩ : S_Card)] : List S_Card)).length c407, iV (w64 (x255 + 1))]), (L246.trans (L279.trans (L294.trans (L317.trans (L345.trans (L370.trans L386)))))), HS450, HO411, h, kr⟩
    · have c374 : ¬ (vt366 = 0) := c374
      refine wpRwI 37 kr (beq_eq_false_iff_ne.mpr c374) ?_
      refine condF kr ?_
      refine wp_skip ?_
      refine hK363 _ _ ?_
      refine rl ?_
      refine seqL1 kr ?_
      refine seqK rfl (does_run (run_loadN (n := 4) rfl Tryz.underlying51 rfl kr (kv (.pointer (some ⟨b302, 0, none⟩))) (cs := [.string (Z33 ++ vt276), .string (rd ([Z17, Z39, Z22, Z36, Z15, Z18] : List ByteArray) vt290), .string x350, .string ⟨#[]⟩]) rfl (HS372.u1.cells 0 4 _ rfl)) ?_)
      refine seqK rfl (does_lit (e := ty_Card) (E := 51) (vs := #[(0, Value.agg #[.string (Z33 ++ vt276), .string (rd ([Z17, Z39, Z22, Z36, Z15, Z18] : List ByteArray) vt290), .string x350, .string ⟨#[]⟩])]) (cs := #[.string (Z33 ++ vt276), .string (rd ([Z17, Z39, Z22, Z36, Z15, Z18] : List ByteArray) vt290), .string x350, .string ⟨#[]⟩]) (xs := ([(⟨(Z33 ++ vt276), (rd ([Z17, Z39, Z22, Z36, Z15, Z18] : List ByteArray) vt290), x350, Z44⟩ : S_Card)] : List S_Card)) rfl Tryz.underlying27 kr kr ⟨[.string (Z33 ++ vt276), .string (rd ([Z17, Z39, Z22, Z36, Z15, Z18] : List ByteArray) vt290), .string x350, .string ⟨#[]⟩], _, rfl, rfl, rfl⟩ rfl HS372 ?_ (by decide))
      intro b412 W413 s414 HS415 _ HO416
      have hq_ := guard_some h; clear h; obtain ⟨c418, h⟩ := hq_
      have c418 : (l250.length + 1) * 64 ≤ 140737488355328 := c418
      have HS420 := HS415.u4.u1
      refine seqK rfl (does_append1 (e := ty_Card) (E := 51) (xs := l250) (ys := ([(⟨(Z33 ++ vt276), (rd ([Z17, Z39, Z22, Z36, Z15, Z18] : List ByteArray) vt290), x350, Z44⟩ : S_Card)] : List S_Card)) rfl (kv (.slice A251 l250.length c252)) (kv (.slice (some ⟨b412, 0, none⟩) ([(⟨(Z33 ++ vt276), (rd ([Z17, Z39, Z22, Z36, Z15, Z18] : List ByteArray) vt290), x350, Z44⟩ : S_Card)] : List S_Card).length 1)) Tryz.underlying27 inf51 (HO254.mono (L279.trans (L294.trans (L317.trans (L345.trans L370))))) HO416 HS420 c418 (lim63 c418 (by decide)) ?_)
      intro A421 c422 s423 W424 HS425 HO426
      refine seqL1 kr ?_
      refine nl ?_
      refine hn267 _ _ ?_
      refine hK264 _ _ ?_
      refine rl ?_
      refine seqL2 kr ?_
      refine nl ?_
      refine hK243 n244 _ _ (Nat.lt_succ_self _) ?_
      have HS456 := HS425.u5.u5.u2.u3.u5.u5
      have HS457 := HS456.drop
      have HS458 := HS457.drop
      exact ⟨f369, A421, c422, s423, (l250 ++ ([(⟨(Z33 ++ vt276), (rd ([Z17, Z39, Z22, Z36, Z15, Z18] : List ByteArray) vt290), x350, Z44⟩ : S_Card)] : List S_Card)), (w64 (x255 + 1)), vt367, (jL [iV x255, .pointer (some ⟨b302, 0, none⟩), tV, iV x255, iV x255, .string vt276, .string (Z33 ++ vt276), .slice (some ⟨b283, 0, none⟩) ([Z17, Z39, Z22, Z36, Z15, Z18] : List ByteArray).length 6, .pointer (some ⟨b1, 0, none⟩), iV vt290, .pointer (some ⟨b283, 0 + (vt290 : Int).toNat * 1, none⟩), .string (rd ([Z17, Z39, Z22, Z36, Z15, Z18] : List ByteArray) vt290), .agg #[.string (Z33 ++ vt276), .string (rd ([Z17, Z39, Z22, Z36, Z15, Z18] : List ByteArray) vt290), .string ⟨#[]⟩, .string ⟨#[]⟩], .pointer (some ⟨b1, 0, none⟩), iV vt313, .bool (vt313 == 0), (j348 0), (j348 1), (j348 2), (j348 3), (j348 4), (j348 5), .pointer (some ⟨b1, 0, none⟩), iV vt366, fV, (j249 25), (j249 26), (j249 27), (j249 28), (j249 29), (j249 30), .slice A251 l250.length c252, .agg #[.string (Z33 ++ vt276), .string (rd ([Z17, Z39, Z22, Z36, Z15, Z18] : List ByteArray) vt290), .string x350, .string ⟨#[]⟩], .slice (some ⟨b412, 0, none⟩) ([(⟨(Z33 ++ vt276), (rd ([Z17, Z39, Z22, Z36, Z15, Z18] : List ByteArray) vt290), x350, Z44⟩ : S_Card)] : List S_Card).length 1, .slice A421 (l250 ++ ([(⟨(Z33 ++ vt276), (rd ([Z17, Z39, Z22, Z36, Z15, Z18] : List ByteArray) vt290), x350, Z44⟩ : S_Card)] : List S_Card)).length c422, iV (w64 (x255 + 1))]), (L246.trans (L279.trans (L294.trans (L317.trans (L345.trans L370))))), HS458, HO426, h, kr⟩
   clear h; have h := hv351; clear hv351
   have hq_ := ite_some h; clear h; rcases hq_ with ⟨c321, h⟩ | ⟨c321, h⟩
   · have c321 : vt313 = 0 := c321
     refine wpRwI 28 kr (beq_iff_eq.mpr c321) ?_
     refine condT kr ?_
     refine rl ?_
     refine seqK rfl (does_lit (e := tStr) (E := 9) (vs := #[(0, Value.string ⟨#[116, 105, 99, 107]⟩), (1, Value.string ⟨#[109, 105, 110, 117, 116, 101]⟩), (2, Value.string ⟨#[99, 101, 108, 108]⟩), (3, Value.string ⟨#[116, 117, 114, 110]⟩), (4, Value.string ⟨#[111, 100, 100]⟩)]) (cs := #[.string ⟨#[116, 105, 99, 107]⟩, .string ⟨#[109, 105, 110, 117, 116, 101]⟩, .string ⟨#[99, 101, 108, 108]⟩, .string ⟨#[116, 117, 114, 110]⟩, .string ⟨#[111, 100, 100]⟩]) (xs := ([Z9, Z4, Z43, Z10, Z5] : List ByteArray)) rfl Tryz.underlying46 kr kr ⟨[.string ⟨#[116, 105, 99, 107]⟩], _, rfl, rfl, ⟨[.string ⟨#[109, 105, 110, 117, 116, 101]⟩], _, rfl, rfl, ⟨[.string ⟨#[99, 101, 108, 108]⟩], _, rfl, rfl, ⟨[.string ⟨#[116, 117, 114, 110]⟩], _, rfl, rfl, ⟨[.string ⟨#[111, 100, 100]⟩], _, rfl, rfl, rfl⟩⟩⟩⟩⟩ rfl HS319 ?_ (by decide))
     intro b322 W323 s324 HS325 _ HO326
     have HS328 := HS325.u1
     have hq_ := bind_some h; clear h; obtain ⟨⟨vt329, vt330⟩, hc331, h⟩ := hq_
     refine seqL1 kr ?_
     refine seqK rfl (does_call (f := 28) (args := #[.pointer (some ⟨b1, 0, none⟩), .int .i64 5]) kr (spymake_Stream_Next.calls k b1 A4 c5 (⟨s3.L, vt314⟩ : S_Stream) 5 HS328 (HR6.mono (L48.trans (L246.trans (L279.trans (L294.trans L317))))) vt329 vt330 hc331) ?_)
     rintro _ W334 ⟨f332, rfl, L333, HS335⟩
     refine ⟨_, rfl, ?_⟩
     have hq_ := guard_some h; clear h; obtain ⟨c336, h⟩ := hq_
     have c336 : 0 ≤ vt329 := c336
     have hq_ := guard_some h; clear h; obtain ⟨c337, h⟩ := hq_
     have c337 : vt329 < (([Z9, Z4, Z43, Z10, Z5] : List ByteArray).length : Int) := c337
     obtain ⟨cs338, hr339, hc340⟩ := (HO326.mono L333).at' (i := vt329) c336 c337
     obtain rfl := hr339
     refine seqK rfl (does_run (run_index (sz := 1) rfl Tryz.underlying46 kr (kv (.slice (some ⟨b322, 0, none⟩) ([Z9, Z4, Z43, Z10, Z5] : List ByteArray).length 5)) (kv (.int .i64 vt329)) c336 c337 W334) ?_)
     refine seqK rfl (does_run (run_load rfl Tryz.underlying9 rfl (kv (.pointer (some ⟨b322, 0 + (vt329 : Int).toNat * 1, none⟩))) ((hc340 HS335.u1) 0 (by decide))) ?_)
     have HS341 := HS335.u2
     refine seqL1 kr ?_
     refine seqK rfl (does_store (n := 1) (vs := [.string (rd ([Z9, Z4, Z43, Z10, Z5] : List ByteArray) vt329)]) (cs' := #[.string (Z33 ++ vt276), .string (rd ([Z17, Z39, Z22, Z36, Z15, Z18] : List ByteArray) vt290), .string (rd ([Z9, Z4, Z43, Z10, Z5] : List ByteArray) vt329), .string ⟨#[]⟩]) rfl kr (kv (.pointer (some ⟨b302, 2, none⟩))) (kv (.string (rd ([Z9, Z4, Z43, Z10, Z5] : List ByteArray) vt329))) rfl rfl (ones rfl) HS341 (Nat.le_of_ble_eq_true rfl) kr ?_)
     intro W342 HS343
     refine nl ?_
     refine fnRwI (F := K308) 28 (x := true) (v := (vt313 == 0)) kr (Eq.symm (beq_iff_eq.mpr c321)) ?_
     have HS360 := HS343.u6.u6.u6.u6.u4.u5.u6
     have HS361 := HS360.drop
     exact J352 f332 vt330 (rd ([Z9, Z4, Z43, Z10, Z5] : List ByteArray) vt329) (jL [.slice (some ⟨b322, 0, none⟩) ([Z9, Z4, Z43, Z10, Z5] : List ByteArray).length 5, .pointer (some ⟨b1, 0, none⟩), iV vt329, .pointer (some ⟨b322, 0 + (vt329 : Int).toNat * 1, none⟩), .string (rd ([Z9, Z4, Z43, Z10, Z5] : List ByteArray) vt329), .pointer (some ⟨b302, 2, none⟩)]) W342 _ L333 h HS361 kr
   · have c321 : ¬ (vt313 = 0) := c321
     refine wpRwI 28 kr (beq_eq_false_iff_ne.mpr c321) ?_
     refine condF kr ?_
     refine wp_skip ?_
     refine fnRwI (F := K308) 28 (x := false) (v := (vt313 == 0)) kr (Eq.symm (beq_eq_false_iff_ne.mpr c321)) ?_
     exact J352 f316 vt314 Z44 (jL [(j249 16), (j249 17), (j249 18), (j249 19), (j249 20), (j249 21)]) W318 _ fL h HS319 kr
 · have c262 : ¬ (x255 < vt44) := c262
   refine wpRwI 15 kr (decide_eq_false c262) ?_
   refine condF kr ?_
   refine wp_exit ?_
   refine hx52 _ _ ?_
   exact J439 f245 A251 c252 s253 l250 x256 (jL [(j249 0), (j249 1), .slice A33 (([] : List S_Card) ++ vf7.Cards).length c34, iV x255, fV, (j249 3), (j249 4), (j249 5), (j249 6), (j249 7), (j249 8), (j249 9), (j249 10), (j249 11), (j249 12), (j249 13), (j249 14), (j249 15), (j249 16), (j249 17), (j249 18), (j249 19), (j249 20), (j249 21), (j249 22), (j249 23), (j249 24), (j249 25), (j249 26), (j249 27), (j249 28), (j249 29), (j249 30), (j249 31), (j249 32), (j249 33), (j249 34), (j249 35)]) W247 _ L246 h HS248 HO254 kr

set_option maxRecDepth 100000 in
set_option maxHeartbeats 4000000 in
theorem spykeep3_noted.calls (k : Nat) (b1 : Nat) (A4 : Option Addr) (c5 : Nat) (s3 : S_Stream) {t w : World} {f : FM} {H : List Seg} (HS : St t w f ([(b1, .cells #[.slice A4 s3.L.length c5, .int .i64 s3.vat] 33 (0, 0))] :: H)) (HR6 : SlR (tInt .i64) f A4 c5 s3.L) (HT : TabF Tryz.prog "internal/strconv.uint64pow10" .u64 Go.Lib.pow10Tab f) (rr1 : S_Frame) (rr2 : Int) (h : spykeep3_noted k s3 = some (rr1, rr2)) :
    Calls Tryz.prog 8 #[.pointer (some ⟨b1, 0, none⟩)] w (fun e w' => ∃ (g : FM) (A182 : Option Addr) (c183 : Nat) (s184 : Seg) (A185 : Option Addr) (c186 : Nat), e = .returned (Value.agg #[.int .i64 rr1.W, .int .i64 rr1.H, .slice A182 rr1.Cards.length c183, .slice A185 rr1.Counts.length c186]) ∧ FM.le f g ∧ St t w' g (s184 :: [(b1, .cells #[.slice A4 s3.L.length c5, .int .i64 rr2] 33 (0, 0))] :: H) ∧ Own ty_Card 51 g A182 c183 s184 rr1.Cards ∧ SlR (tInt .i64) g A185 c186 rr1.Counts) := by
 unfold spykeep3_noted at h
 refine enter Tryz.func8 rfl (tm := #[pV b1 0, uV, uV, uV, uV, uV, uV, uV, uV, uV, uV, uV, uV, uV, uV, uV, uV, uV, uV, uV, uV]) kr ?_
 intro B hret hnor hnp
 refine wp_seq_k fun K7 hK8 => rl ?_
 refine seqK rfl (does_alloc (z := Value.agg #[.int .i64 0, .int .i64 0, .slice none 0 0, .slice none 0 0]) (cs := #[.int .i64 0, .int .i64 0, .slice none 0 0, .slice none 0 0]) rfl kr rfl HS ?_)
 intro b9 W10 HS11
 refine nl (hK8 _ _ ?_)
 refine wp_seq_k fun K13 hK14 => rl ?_
 have HS15 := HS11.u1
 have hq_ := bind_some h; clear h; obtain ⟨⟨vt16, vt17⟩, hc18, h⟩ := hq_
 refine seqL1 kr ?_
 refine seqK rfl (does_call (f := 24) (args := #[.pointer (some ⟨b1, 0, none⟩), .int .i64 9]) kr (spymake_Stream_Sensor.calls k b1 A4 c5 s3 9 HS15 HR6 vt16 vt17 hc18) ?_)
 rintro _ W21 ⟨f19, A23, c24, s25, A28, c29, s30, A33, c34, s35, rfl, L20, HS22, HO26, HO31, HO36⟩
 refine ⟨_, rfl, ?_⟩
 refine seqK rfl (does_alloc (z := Value.agg #[.int .i64 0, .int .i64 0, .slice none 0 0, .slice none 0 0, .slice none 0 0, .int .i64 0, .int .i64 0, .int .i64 0]) (cs := #[.int .i64 0, .int .i64 0, .slice none 0 0, .slice none 0 0, .slice none 0 0, .int .i64 0, .int .i64 0, .int .i64 0]) rfl kr rfl HS22 ?_)
 intro b38 W39 HS40
 refine seqK rfl (does_storeA (vs := [.int .i64 vt16.W, .int .i64 vt16.H, .slice A23 vt16.Bias.length c24, .slice A28 vt16.Dark.length c29, .slice A33 vt16.Flat.length c34, .int .i64 vt16.Full, .int .i64 vt16.Gain, .int .i64 vt16.Noise]) rfl kr kr kr rfl (ones rfl) HS40 kr ?_)
 intro W42 HS43
 refine nl (hK14 _ _ ?_)
 refine wp_seq_k (fun K44 hK45 => ?_)
 have HS51 := HS43.u3.u3.u3.u3.u5.u5
 refine heldG (S := Sg t f19 ([(b38, .cells #[.int .i64 vt16.W, .int .i64 vt16.H, .slice A23 vt16.Bias.length c24, .slice A28 vt16.Dark.length c29, .slice A33 vt16.Flat.length c34, .int .i64 vt16.Full, .int .i64 vt16.Gain, .int .i64 vt16.Noise] 65 (0, 0))] :: s25 :: s30 :: s35 :: H) [(5, [(b1, .cells #[.slice A4 s3.L.length c5, .int .i64 vt17] 33 (0, 0))]), (15, [(b9, .cells #[.int .i64 0, .int .i64 0, .slice none 0 0, .slice none 0 0] 29 (0, 0))])]) (n := 16) kr rfl HS51 ?_
 intro W52 HS53
 refine takeGL [0, 1, 2] (n := 16) (fuel := 13) #[true, true, true, false, false, false, false, false, false, false, false, false, false, false, false, false] rfl kr kr kr hnp (Sg.g2 (Sx.of [[(b1, .cells #[.slice A4 s3.L.length c5, .int .i64 vt17] 33 (0, 0))], [(b9, .cells #[.int .i64 0, .int .i64 0, .slice none 0 0, .slice none 0 0] 29 (0, 0))]] fL HS53) (fun _ => St.only [] HS53 fL) (fun _ => St.only [[(b1, .cells #[.slice A4 s3.L.length c5, .int .i64 vt17] 33 (0, 0))]] HS53 fL)) ?_
 refine takeGQ 3 [] rfl kr kr kr kr kr kr hnp (Sg.g2 (Sx.of [[(b1, .cells #[.slice A4 s3.L.length c5, .int .i64 vt17] 33 (0, 0))], [(b9, .cells #[.int .i64 0, .int .i64 0, .slice none 0 0, .slice none 0 0] 29 (0, 0))]] fL HS53) (fun _ => St.only [] HS53 fL) (fun _ => St.only [[(b1, .cells #[.slice A4 s3.L.length c5, .int .i64 vt17] 33 (0, 0))]] HS53 fL)) (fun w_ hw_ => by obtain ⟨g_, hl_, hS_⟩ := hw_.st; exact run_loadN (n := 8) rfl Tryz.underlying65 rfl kr (kv (.pointer (some ⟨b38, 0, none⟩))) (cs := [.int .i64 vt16.W, .int .i64 vt16.H, .slice A23 vt16.Bias.length c24, .slice A28 vt16.Dark.length c29, .slice A33 vt16.Flat.length c34, .int .i64 vt16.Full, .int .i64 vt16.Gain, .int .i64 vt16.Noise]) rfl (hS_.cells 0 8 _ rfl)) ?_
 refine takeGL [4, 6, 9] (n := 12) (fuel := 9) #[true, true, true, true, true, false, true, false, false, true, false, false, false, false, false, false] rfl kr kr kr hnp (Sg.g2 (Sx.of [[(b1, .cells #[.slice A4 s3.L.length c5, .int .i64 vt17] 33 (0, 0))], [(b9, .cells #[.int .i64 0, .int .i64 0, .slice none 0 0, .slice none 0 0] 29 (0, 0))]] fL HS53) (fun _ => St.only [] HS53 fL) (fun _ => St.only [[(b1, .cells #[.slice A4 s3.L.length c5, .int .i64 vt17] 33 (0, 0))]] HS53 fL)) ?_
 refine takeGQ 10 [] rfl kr kr kr kr kr kr hnp (Sg.g2 (Sx.of [[(b1, .cells #[.slice A4 s3.L.length c5, .int .i64 vt17] 33 (0, 0))], [(b9, .cells #[.int .i64 0, .int .i64 0, .slice none 0 0, .slice none 0 0] 29 (0, 0))]] fL HS53) (fun _ => St.only [] HS53 fL) (fun _ => St.only [[(b1, .cells #[.slice A4 s3.L.length c5, .int .i64 vt17] 33 (0, 0))]] HS53 fL)) (fun w_ hw_ => by obtain ⟨g_, hl_, hS_⟩ := hw_.st; exact run_load rfl Tryz.underlying3 rfl (kv (.pointer (some ⟨b38, 0, none⟩))) (hS_.cell 0)) ?_
 refine takeGL [11] (n := 8) (fuel := 7) #[true, true, true, true, true, false, true, false, false, true, true, true, false, false, false, false] rfl kr kr kr hnp (Sg.g2 (Sx.of [[(b1, .cells #[.slice A4 s3.L.length c5, .int .i64 vt17] 33 (0, 0))], [(b9, .cells #[.int .i64 0, .int .i64 0, .slice none 0 0, .slice none 0 0] 29 (0, 0))]] fL HS53) (fun _ => St.only [] HS53 fL) (fun _ => St.only [[(b1, .cells #[.slice A4 s3.L.length c5, .int .i64 vt17] 33 (0, 0))]] HS53 fL)) ?_
 refine takeGQ 12 [] rfl kr kr kr kr kr kr hnp (Sg.g2 (Sx.of [[(b1, .cells #[.slice A4 s3.L.length c5, .int .i64 vt17] 33 (0, 0))], [(b9, .cells #[.int .i64 0, .int .i64 0, .slice none 0 0, .slice none 0 0] 29 (0, 0))]] fL HS53) (fun _ => St.only [] HS53 fL) (fun _ => St.only [[(b1, .cells #[.slice A4 s3.L.length c5, .int .i64 vt17] 33 (0, 0))]] HS53 fL)) (fun w_ hw_ => by obtain ⟨g_, hl_, hS_⟩ := hw_.st; exact run_load rfl Tryz.underlying3 rfl (kv (.pointer (some ⟨b38, 1, none⟩))) (hS_.cell 1)) ?_
 have hq_ := bind_some h; clear h; obtain ⟨⟨vt54, vt55⟩, hc56, h⟩ := hq_
 refine takeGE 5 kr rfl kr (does_call (f := 28) (args := #[.pointer (some ⟨b1, 0, none⟩), .int .i64 4]) kr (spymake_Stream_Next.calls k b1 A4 c5 (⟨s3.L, vt17⟩ : S_Stream) 4 HS53 (HR6.mono L20) vt54 vt55 hc56) ?_)
 rintro _ W59 ⟨f57, rfl, L58, HS60⟩
 refine ⟨_, rfl, ?_⟩
 refine ⟨(Sg.g2 (Sx.of [[(b1, .cells #[.slice A4 s3.L.length c5, .int .i64 vt55] 33 (0, 0))], [(b9, .cells #[.int .i64 0, .int .i64 0, .slice none 0 0, .slice none 0 0] 29 (0, 0))]] L58 HS60) (fun hl_ => Bool.noConfusion (show true = false from hl_)) (fun _ => St.only [[(b1, .cells #[.slice A4 s3.L.length c5, .int .i64 vt55] 33 (0, 0))]] HS60 L58)), ?_⟩
 have hq_ := bind_some h; clear h; obtain ⟨⟨vt61, vt62⟩, hc63, h⟩ := hq_
 refine takeGE 7 kr rfl kr (does_call (f := 29) (args := #[.pointer (some ⟨b1, 0, none⟩), .int .i64 1, .int .i64 99]) kr (spymake_Stream_Range.calls k b1 A4 c5 (⟨s3.L, vt55⟩ : S_Stream) 1 99 HS60 (HR6.mono (L20.trans L58)) vt61 vt62 hc63) ?_)
 rintro _ W66 ⟨f64, rfl, L65, HS67⟩
 refine ⟨_, rfl, ?_⟩
 refine ⟨(Sg.g2 (Sx.of [[(b1, .cells #[.slice A4 s3.L.length c5, .int .i64 vt62] 33 (0, 0))], [(b9, .cells #[.int .i64 0, .int .i64 0, .slice none 0 0, .slice none 0 0] 29 (0, 0))]] (L58.trans L65) HS67) (fun hl_ => Bool.noConfusion (show true = false from hl_)) (fun _ => St.only [[(b1, .cells #[.slice A4 s3.L.length c5, .int .i64 vt62] 33 (0, 0))]] HS67 (L58.trans L65))), ?_⟩
 have HS68 := HS67.u3
 obtain ⟨f69, L70, HS71, HR72, th73⟩ := (HO26.mono (L58.trans L65)).lend HS68
 have HS74 := HS71.u3
 obtain ⟨f75, L76, HS77, HR78, th79⟩ := (HO31.mono (L58.trans (L65.trans L70))).lend HS74
 have HS80 := HS77.u3
 obtain ⟨f81, L82, HS83, HR84, th85⟩ := (HO36.mono (L58.trans (L65.trans (L70.trans L76)))).lend HS80
 have hq_ := bind_some h; clear h; obtain ⟨⟨vt86, vt87⟩, hc88, h⟩ := hq_
 refine takeGE 8 kr rfl kr (does_call (f := 27) (args := #[.pointer (some ⟨b1, 0, none⟩), .agg #[.int .i64 vt16.W, .int .i64 vt16.H, .slice A23 vt16.Bias.length c24, .slice A28 vt16.Dark.length c29, .slice A33 vt16.Flat.length c34, .int .i64 vt16.Full, .int .i64 vt16.Gain, .int .i64 vt16.Noise], .int .i64 vt54, .int .i64 vt61]) kr (spymake_Stream_Shot.calls k b1 A4 c5 A23 c24 A28 c29 A33 c34 (⟨s3.L, vt62⟩ : S_Stream) vt16 vt54 vt61 HS83 (HR6.mono (L20.trans (L58.trans (L65.trans (L70.trans (L76.trans L82)))))) (HR72.mono (L76.trans L82)) (HR78.mono L82) HR84 vt86 vt87 hc88) ?_)
 rintro _ W91 ⟨f89, A93, c94, s95, rfl, L90, HS92, HO96⟩
 refine ⟨_, rfl, ?_⟩
 obtain ⟨f98, L99, HS100⟩ := th85 L90 HS92
 obtain ⟨f101, L102, HS103⟩ := th79 L99 HS100
 obtain ⟨f104, L105, HS106⟩ := th73 L102 HS103
 replace HO96 := HO96.flat (g := f104) (fun _ _ _ _ h_ => h_)
 have HS113 := HS106.u2.u2.u2.u6.u6.u6.u6
 refine ⟨(Sg.g2 (Sx.of [s95, [(b1, .cells #[.slice A4 s3.L.length c5, .int .i64 vt87] 33 (0, 0))], [(b9, .cells #[.int .i64 0, .int .i64 0, .slice none 0 0, .slice none 0 0] 29 (0, 0))]] (L58.trans (L65.trans L105)) HS113) (fun hl_ => Bool.noConfusion (show true = false from hl_)) (fun _ => St.only [s95, [(b1, .cells #[.slice A4 s3.L.length c5, .int .i64 vt87] 33 (0, 0))]] HS113 (L58.trans (L65.trans L105)))), ?_⟩
 obtain ⟨f114, L115, HS116, HR117, th118⟩ := HO96.lend HS113
 have hq_ := bind_some h; clear h; obtain ⟨⟨vt119, vt120⟩, hc121, h⟩ := hq_
 refine takeGE 13 kr rfl kr (does_call (f := 26) (args := #[.pointer (some ⟨b1, 0, none⟩), .agg #[.int .i64 vt86.Kind, .int .u64 vt86.Seed, .int .i64 vt86.Number, .int .i64 vt86.Begin, .int .i64 vt86.Beats, .int .i64 vt86.Plate.A, .int .i64 vt86.Plate.B, .int .i64 vt86.Plate.C, .int .i64 vt86.Plate.D, .int .i64 vt86.Seeing, .int .i64 vt86.DriftX, .int .i64 vt86.DriftY, .int .i64 vt86.Lamp, .slice A93 vt86.Hits.length c94], .int .i64 vt16.W, .int .i64 vt16.H]) kr (spymake_Stream_Frame.calls k b1 A4 c5 A93 c94 (⟨s3.L, vt87⟩ : S_Stream) vt86 vt16.W vt16.H HS116 (HR6.mono (L20.trans (L58.trans (L65.trans (L105.trans L115))))) HR117 (HT.mono (L20.trans (L58.trans (L65.trans (L105.trans L115))))) vt119 vt120 hc121) ?_)
 rintro _ W124 ⟨f122, A126, c127, s128, A131, c132, s133, rfl, L123, HS125, HO129, HO134⟩
 refine ⟨_, rfl, ?_⟩
 obtain ⟨f136, L137, HS138⟩ := th118 L123 HS125
 replace HO129 := HO129.flat (g := f136) (fun _ _ _ _ h_ => h_)
 replace HO134 := HO134.flat (g := f136) (fun _ _ _ _ h_ => h_)
 refine ⟨(Sg.g2 (Sx.of [s95, s128, s133, [(b1, .cells #[.slice A4 s3.L.length c5, .int .i64 vt120] 33 (0, 0))], [(b9, .cells #[.int .i64 0, .int .i64 0, .slice none 0 0, .slice none 0 0] 29 (0, 0))]] (L58.trans (L65.trans (L105.trans L137))) HS138) (fun hl_ => Bool.noConfusion (show true = false from hl_)) (fun _ => St.only [s95, s128, s133, [(b1, .cells #[.slice A4 s3.L.length c5, .int .i64 vt120] 33 (0, 0))]] HS138 (L58.trans (L65.trans (L105.trans L137))))), ?_⟩
 have HS139 := HS138.u1
 obtain ⟨f140, L141, HS142, HR143⟩ := HO129.freeze HS139
 have HS144 := HS142.u1
 obtain ⟨f145, L146, HS147, HR148⟩ := (HO134.mono L141).freeze HS144
 have HS149 := HS147.u1
 have hq_ := bind_some h; clear h; obtain ⟨⟨vt150, vt151⟩, hc152, h⟩ := hq_
 refine takeGE 14 kr rfl kr (does_call (f := 25) (args := #[.pointer (some ⟨b1, 0, none⟩), .agg #[.int .i64 vt119.W, .int .i64 vt119.H, .slice A126 vt119.Cards.length c127, .slice A131 vt119.Counts.length c132]]) kr (spymake_Stream_Notes.calls k b1 A4 c5 A126 c127 A131 c132 (⟨s3.L, vt120⟩ : S_Stream) vt119 HS149 (HR6.mono (L20.trans (L58.trans (L65.trans (L105.trans (L137.trans (L141.trans L146))))))) (HR143.mono L146) HR148 (HT.mono (L20.trans (L58.trans (L65.trans (L105.trans (L137.trans (L141.trans L146))))))) vt150 vt151 hc152) ?_)
 rintro _ W155 ⟨f153, A157, c158, s159, A162, c163, rfl, L154, HS156, HO160, HR164⟩
 refine ⟨_, rfl, ?_⟩
 refine ⟨(Sg.g2 (Sx.of [s159, [(b1, .cells #[.slice A4 s3.L.length c5, .int .i64 vt151] 33 (0, 0))], s95, [(b9, .cells #[.int .i64 0, .int .i64 0, .slice none 0 0, .slice none 0 0] 29 (0, 0))]] (L58.trans (L65.trans (L105.trans (L137.trans (L141.trans (L146.trans L154)))))) HS156) (fun hl_ => Bool.noConfusion (show true = false from hl_)) (fun _ => St.only [s159, [(b1, .cells #[.slice A4 s3.L.length c5, .int .i64 vt151] 33 (0, 0))], s95] HS156 (L58.trans (L65.trans (L105.trans (L137.trans (L141.trans (L146.trans L154)))))))), ?_⟩
 have HS165 := HS156.u3
 refine takeGE 15 kr rfl kr (does_storeA (vs := [.int .i64 vt150.W, .int .i64 vt150.H, .slice A157 vt150.Cards.length c158, .slice A162 vt150.Counts.length c163]) rfl kr kr kr rfl (ones rfl) HS165 kr ?_)
 intro W166 HS167
 refine ⟨(Sg.g2 (Sx.of [[(b9, .cells #[.int .i64 vt150.W, .int .i64 vt150.H, .slice A157 vt150.Cards.length c158, .slice A162 vt150.Counts.length c163] 29 (0, 0))], s159, [(b1, .cells #[.slice A4 s3.L.length c5, .int .i64 vt151] 33 (0, 0))], s95] (L58.trans (L65.trans (L105.trans (L137.trans (L141.trans (L146.trans L154)))))) HS167) (fun hl_ => Bool.noConfusion (show true = false from hl_)) (fun hl_ => Bool.noConfusion (show true = false from hl_))), ?_⟩
 refine doneG kr ?_ _
 refine hK45 _ _ ?_
 refine wp_ret ?_
 refine hret _ _ ?_
 refine ends (v := Value.agg #[.int .i64 vt150.W, .int .i64 vt150.H, .slice A157 vt150.Cards.length c158, .slice A162 vt150.Counts.length c163]) (results1 (q1 := .cell 2 29) kr (resN (n := 4) (cs := [.int .i64 vt150.W, .int .i64 vt150.H, .slice A157 vt150.Cards.length c158, .slice A162 vt150.Counts.length c163]) (kv (.pointer (some ⟨b9, 0, none⟩))) Tryz.underlying29 rfl kr rfl (HS167.cells 0 4 _ rfl))) kr ?_
 have HS175 := HS167.u2.u2.u7.u7.u7.u7.u7.u7
 have HS176 := HS175.drop
 have HS177 := HS176.drop
 have HS178 := HS177.drop
 have HS179 := HS178.drop
 have HS180 := HS179.drop
 have HS181 := HS180.drop
 injection h with h
 injection h with h0_ h
 subst h0_ h
 exact ⟨f153, A157, c158, s159, A162, c163, rfl, (L20.trans (L58.trans (L65.trans (L105.trans (L137.trans (L141.trans (L146.trans L154))))))), HS181, HO160, HR164⟩

set_option maxRecDepth 100000 in
set_option maxHeartbeats 4000000 in
theorem frame_Check_1.calls (k : Nat)  (n1 : Int) {t w : World} {f : FM} {H : List Seg} (HS : St t w f (H)) (rr1 : Bool) (h : frame_Check_1 k n1 = some rr1) :
    Calls Tryz.prog 42 #[.int .i64 n1] w (fun e w' => ∃ (g : FM), e = .returned (Value.bool rr1) ∧ FM.le f g ∧ St t w' g (H)) := by
 unfold frame_Check_1 at h
 refine enter Tryz.func42 rfl (tm := #[iV n1, uV, uV, uV, uV, uV, uV, uV, uV]) kr ?_
 intro B hret hnor hnp
 refine wp_seq_k fun K2 hK3 => rl ?_
 refine seqL1 kr ?_
 refine nl (hK3 _ _ ?_)
 refine wp_seq_k fun K4 hK5 => rl ?_
 refine seqL3 kr ?_
 have hq_ := ite_some h; clear h; rcases hq_ with ⟨c6, h⟩ | ⟨c6, h⟩
 · have c6 : n1 < 0 := c6
   refine seqRwI 4 kr (decide_eq_true c6) ?_
   refine seqRwI 5 kr (decide_eq_true c6) ?_
   refine seqL4 kr ?_
   refine nl (hK5 _ _ ?_)
   refine wp_ret ?_
   refine hret _ _ ?_
   refine ends_still (v := Value.bool true) kr kr ?_
   injection h with h
   subst h
   exact ⟨f, rfl, FM.le.refl _, HS⟩
 · have c6 : ¬ (n1 < 0) := c6
   refine seqRwI 4 kr (decide_eq_false c6) ?_
   refine seqRwI 5 kr (decide_eq_false c6) ?_
   refine seqL4 kr ?_
   refine nl (hK5 _ _ ?_)
   refine wp_ret ?_
   refine hret _ _ ?_
   refine ends_still (v := Value.bool (decide (n1 > 65535))) kr kr ?_
   injection h with h
   subst h
   exact ⟨f, rfl, FM.le.refl _, HS⟩

set_option maxRecDepth 100000 in
set_option maxHeartbeats 4000000 in
theorem slices_IndexFunc_int__frame_Check_1.calls (k : Nat) (A2 : Option Addr) (c3 : Nat) (s1 : List Int) {t w : World} {f : FM} {H : List Seg} (HS : St t w f (H)) (HR4 : SlR (tInt .i64) f A2 c3 s1) (rr1 : Int) (h : slices_IndexFunc_int__frame_Check_1 k s1 = some rr1) :
    Calls Tryz.prog 69 #[.slice A2 s1.length c3, .func (.func 42) #[] #[]] w (fun e w' => ∃ (g : FM), e = .returned (Value.int .i64 rr1) ∧ FM.le f g ∧ St t w' g (H)) := by
 unfold slices_IndexFunc_int__frame_Check_1 at h
 refine enter Tryz.func69 rfl (tm := #[.slice A2 s1.length c3, .func (.func 42) #[] #[], uV, uV, uV, uV, uV, uV, uV, uV, uV, uV, uV, uV, uV, uV, uV, uV, uV]) kr ?_
 intro B hret hnor hnp
 refine wp_seq_k fun K5 hK6 => rl ?_
 refine seqL1 kr ?_
 refine nl (hK6 _ _ ?_)
 refine wp_seq_k (fun K7 hK8 => ?_)
 refine wp_seq_k fun K9 hK10 => rl ?_
 refine seqL3 kr ?_
 refine nl (hK10 _ _ ?_)
 refine blockK (fun B11 hx12 hn13 hr14 ho15 hp16 => ?_)
 have hq_ := bind_some h; clear h; obtain ⟨o17, hv68, h⟩ := hq_
 have JR70 : ∀ z_, some (Sum.inl z_) = some o17 → some z_ = some rr1 := by
  intro z_ e_; injection e_ with e_; subst e_; exact h
 have J69 : ∀ (f63 : FM) (j67 : Nat → Value) (W65 : World) (a_ : Act), FM.le f f63 → some (Sum.inr ()) = some o17 → St t W65 f63 (H) → a_ = ⟨#[.slice A2 s1.length c3, .func (.func 42) #[] #[], uV, uV, (j67 0), (j67 1), .slice A2 s1.length c3, iV (s1.length : Int), (j67 2), (j67 3), (j67 4), (j67 5), (j67 6), (j67 7), (j67 8), (j67 9), (j67 10), (j67 11), (j67 12)], []⟩ → K7 a_ W65 := by
  intro f63 j67 W65 a_ L64 hj71 HS66  hfr_; subst hfr_
  injection hj71 with hj71; subst hj71; try dsimp only at h
  simp only [Sum.elim_inr] at h
  refine hK8 _ _ ?_
  refine wp_seq_k fun K72 hK73 => rl ?_
  refine seqL1 kr ?_
  refine nl (hK73 _ _ ?_)
  refine wp_ret ?_
  refine hret _ _ ?_
  refine ends_still (v := Value.int .i64 (-1)) kr kr ?_
  injection h with h
  subst h
  exact ⟨f63, rfl, L64, HS66⟩
 clear h; have h := hv68; clear hv68
 refine loopK (fun n_ a_ w_ => ∃ (f21 : FM) (x26 : Int) (j25 : Nat → Value), FM.le f f21 ∧ St t w_ f21 (H) ∧ slices_IndexFunc_int__frame_Check_1.l0 k s1 n_ x26 = some o17 ∧ a_ = ⟨#[.slice A2 s1.length c3, .func (.func 42) #[] #[], uV, uV, (j25 0), (j25 1), .slice A2 s1.length c3, iV (s1.length : Int), iV x26, (j25 2), (j25 3), (j25 4), (j25 5), (j25 6), (j25 7), (j25 8), (j25 9), (j25 10), (j25 11)], []⟩) k ⟨f, 0, (jL [iV 0]), fL, HS, h, kr⟩ ?_
 clear h
 rintro n20 _ W23 ⟨f21, x26, j25, L22, HS24, h, rfl⟩ K18 hK19
 obtain _ | n20 := n20
 · exact nomatch h
 simp only [slices_IndexFunc_int__frame_Check_1.l0] at h
 refine wp_seq_k fun K27 hK28 => rl ?_
 refine seqL1 kr ?_
 refine nl (hK28 _ _ ?_)
 refine wp_seq_k (fun K29 hK30 => ?_)
 have hq_ := ite_some h; clear h; rcases hq_ with ⟨c32, h⟩ | ⟨c32, h⟩
 · have c32 : x26 < (s1.length : Int) := c32
   refine wpRwI 9 kr (decide_eq_true c32) ?_
   refine condT kr ?_
   refine wp_skip ?_
   refine hK30 _ _ ?_
   refine wp_seq_k (fun K33 hK34 => ?_)
   refine blockK (fun B35 hx36 hn37 hr38 ho39 hp40 => ?_)
   refine wp_seq_k fun K42 hK43 => rl ?_
   refine seqL2 kr ?_
   refine nl (hK43 _ _ ?_)
   refine wp_seq_k fun K44 hK45 => rl ?_
   have hq_ := guard_some h; clear h; obtain ⟨c46, h⟩ := hq_
   have c46 : 0 ≤ x26 := c46
   obtain ⟨b50, of51, cs47, hA52, hr48, hc49⟩ := (HR4.mono L22).at (i := x26) c46 c32
   obtain rfl := hr48
   refine seqL3 kr ?_
   refine seqK rfl (does_run (run_indexE hA52 (sz := 1) rfl Tryz.underlying22 kr (kv (.slice A2 s1.length c3)) (kv (.int .i64 x26)) c46 c32 W23) ?_)
   refine seqK rfl (does_run (run_load rfl Tryz.underlying3 rfl (kv (.pointer (some ⟨b50, of51 + (x26 : Int).toNat * 1, none⟩))) ((hc49 fL HS24) 0 (by decide))) ?_)
   have hq_ := bind_some h; clear h; obtain ⟨vt53, hc54, h⟩ := hq_
   refine seqK rfl (does_call (f := 42) (args := #[.int .i64 (rd s1 x26)]) kr (frame_Check_1.calls k (rd s1 x26) HS24 vt53 hc54) ?_)
   rintro _ W57 ⟨f55, rfl, L56, HS58⟩
   refine ⟨_, rfl, ?_⟩
   refine nl (hK45 _ _ ?_)
   have hq_ := ite_some h; clear h; rcases hq_ with ⟨c60, h⟩ | ⟨c60, h⟩
   · have c60 : vt53 = true := c60
     refine wpRwI 16 kr c60 ?_
     refine condT kr ?_
     refine wp_seq_k fun K61 hK62 => rl ?_
     refine seqL2 kr ?_
     refine nl (hK62 _ _ ?_)
     refine wp_ret ?_
     refine hr38 _ _ ?_
     refine hr14 _ _ ?_
     refine hret _ _ ?_
     refine ends_still (v := Value.int .i64 x26) kr kr ?_
     replace h := JR70 _ h
     injection h with h
     subst h
     exact ⟨f55, rfl, (L22.trans L56), HS58⟩
   · have c60 : ¬ (vt53 = true) := c60
     refine wpRwI 16 kr (Bool.eq_false_iff.mpr c60) ?_
     refine condF kr ?_
     refine wp_skip ?_
     refine hn37 _ _ ?_
     refine hK34 _ _ ?_
     refine rl ?_
     refine seqL2 kr ?_
     refine nl ?_
     refine hK19 n20 _ _ (Nat.lt_succ_self _) ?_
     exact ⟨f55, (w64 (x26 + 1)), (jL [(j25 0), iV x26, tV, iV x26, .func (.func 42) #[] #[], .slice A2 s1.length c3, iV x26, .pointer (some ⟨b50, of51 + (x26 : Int).toNat * 1, none⟩), iV (rd s1 x26), fV, (j25 10), iV (w64 (x26 + 1))]), (L22.trans L56), HS58, h, kr⟩
 · have c32 : ¬ (x26 < (s1.length : Int)) := c32
   refine wpRwI 9 kr (decide_eq_false c32) ?_
   refine condF kr ?_
   refine wp_exit ?_
   refine hx12 _ _ ?_
   exact J69 f21 (jL [(j25 0), (j25 1), iV x26, fV, (j25 3), (j25 4), (j25 5), (j25 6), (j25 7), (j25 8), (j25 9), (j25 10), (j25 11)]) W23 _ L22 h HS24 kr

set_option maxRecDepth 100000 in
set_option maxHeartbeats 4000000 in
theorem slices_ContainsFunc_int__frame_Check_1.calls (k : Nat) (A2 : Option Addr) (c3 : Nat) (s1 : List Int) {t w : World} {f : FM} {H : List Seg} (HS : St t w f (H)) (HR4 : SlR (tInt .i64) f A2 c3 s1) (rr1 : Bool) (h : slices_ContainsFunc_int__frame_Check_1 k s1 = some rr1) :
    Calls Tryz.prog 41 #[.slice A2 s1.length c3, .func (.func 42) #[] #[]] w (fun e w' => ∃ (g : FM), e = .returned (Value.bool rr1) ∧ FM.le f g ∧ St t w' g (H)) := by
 unfold slices_ContainsFunc_int__frame_Check_1 at h
 refine enter Tryz.func41 rfl (tm := #[.slice A2 s1.length c3, .func (.func 42) #[] #[], uV, uV, uV, uV, uV, uV, uV]) kr ?_
 intro B hret hnor hnp
 refine wp_seq_k fun K5 hK6 => rl ?_
 refine seqL1 kr ?_
 refine nl (hK6 _ _ ?_)
 refine wp_seq_k fun K7 hK8 => rl ?_
 have hq_ := bind_some h; clear h; obtain ⟨vt9, hc10, h⟩ := hq_
 refine seqL2 kr ?_
 refine seqK rfl (does_call (f := 69) (args := #[.slice A2 s1.length c3, .func (.func 42) #[] #[]]) kr (slices_IndexFunc_int__frame_Check_1.calls k A2 c3 s1 HS HR4 vt9 hc10) ?_)
 rintro _ W13 ⟨f11, rfl, L12, HS14⟩
 refine ⟨_, rfl, ?_⟩
 refine seqL2 kr ?_
 refine nl (hK8 _ _ ?_)
 refine wp_ret ?_
 refine hret _ _ ?_
 refine ends_still (v := Value.bool (decide (vt9 ≥ 0))) kr kr ?_
 injection h with h
 subst h
 exact ⟨f11, rfl, L12, HS14⟩

set_option maxRecDepth 100000 in
set_option maxHeartbeats 4000000 in
theorem frame_upper.calls (k : Nat)  (c1 : Int) {t w : World} {f : FM} {H : List Seg} (HS : St t w f (H)) (rr1 : Bool) (h : frame_upper k c1 = some rr1) :
    Calls Tryz.prog 70 #[.int .u8 c1] w (fun e w' => ∃ (g : FM), e = .returned (Value.bool rr1) ∧ FM.le f g ∧ St t w' g (H)) := by
 unfold frame_upper at h
 refine enter Tryz.func70 rfl (tm := #[.int .u8 c1, uV, uV, uV, uV, uV, uV, uV, uV]) kr ?_
 intro B hret hnor hnp
 refine wp_seq_k fun K2 hK3 => rl ?_
 refine seqL1 kr ?_
 refine nl (hK3 _ _ ?_)
 refine wp_seq_k fun K4 hK5 => rl ?_
 refine seqL3 kr ?_
 have hq_ := ite_some h; clear h; rcases hq_ with ⟨c6, h⟩ | ⟨c6, h⟩
 · have c6 : c1 ≥ 65 := c6
   refine seqRwI 4 kr (decide_eq_true c6) ?_
   refine seqRwI 5 kr (decide_eq_true c6) ?_
   refine seqL4 kr ?_
   refine nl (hK5 _ _ ?_)
   refine wp_ret ?_
   refine hret _ _ ?_
   refine ends_still (v := Value.bool (decide (c1 ≤ 90))) kr kr ?_
   injection h with h
   subst h
   exact ⟨f, rfl, FM.le.refl _, HS⟩
 · have c6 : ¬ (c1 ≥ 65) := c6
   refine seqRwI 4 kr (decide_eq_false c6) ?_
   refine seqRwI 5 kr (decide_eq_false c6) ?_
   refine seqL4 kr ?_
   refine nl (hK5 _ _ ?_)
   refine wp_ret ?_
   refine hret _ _ ?_
   refine ends_still (v := Value.bool false) kr kr ?_
   injection h with h
   subst h
   exact ⟨f, rfl, FM.le.refl _, HS⟩

set_option maxRecDepth 100000 in
set_option maxHeartbeats 4000000 in
theorem frame_digit.calls (k : Nat)  (c1 : Int) {t w : World} {f : FM} {H : List Seg} (HS : St t w f (H)) (rr1 : Bool) (h : frame_digit k c1 = some rr1) :
    Calls Tryz.prog 103 #[.int .u8 c1] w (fun e w' => ∃ (g : FM), e = .returned (Value.bool rr1) ∧ FM.le f g ∧ St t w' g (H)) := by
 unfold frame_digit at h
 refine enter Tryz.func103 rfl (tm := #[.int .u8 c1, uV, uV, uV, uV, uV, uV, uV, uV]) kr ?_
 intro B hret hnor hnp
 refine wp_seq_k fun K2 hK3 => rl ?_
 refine seqL1 kr ?_
 refine nl (hK3 _ _ ?_)
 refine wp_seq_k fun K4 hK5 => rl ?_
 refine seqL3 kr ?_
 have hq_ := ite_some h; clear h; rcases hq_ with ⟨c6, h⟩ | ⟨c6, h⟩
 · have c6 : c1 ≥ 48 := c6
   refine seqRwI 4 kr (decide_eq_true c6) ?_
   refine seqRwI 5 kr (decide_eq_true c6) ?_
   refine seqL4 kr ?_
   refine nl (hK5 _ _ ?_)
   refine wp_ret ?_
   refine hret _ _ ?_
   refine ends_still (v := Value.bool (decide (c1 ≤ 57))) kr kr ?_
   injection h with h
   subst h
   exact ⟨f, rfl, FM.le.refl _, HS⟩
 · have c6 : ¬ (c1 ≥ 48) := c6
   refine seqRwI 4 kr (decide_eq_false c6) ?_
   refine seqRwI 5 kr (decide_eq_false c6) ?_
   refine seqL4 kr ?_
   refine nl (hK5 _ _ ?_)
   refine wp_ret ?_
   refine hret _ _ ?_
   refine ends_still (v := Value.bool false) kr kr ?_
   injection h with h
   subst h
   exact ⟨f, rfl, FM.le.refl _, HS⟩

set_option maxRecDepth 100000 in
set_option maxHeartbeats 4000000 in
theorem frame_inKey.calls (k : Nat)  (c1 : Int) {t w : World} {f : FM} {H : List Seg} (HS : St t w f (H)) (rr1 : Bool) (h : frame_inKey k c1 = some rr1) :
    Calls Tryz.prog 72 #[.int .u8 c1] w (fun e w' => ∃ (g : FM), e = .returned (Value.bool rr1) ∧ FM.le f g ∧ St t w' g (H)) := by
 unfold frame_inKey at h
 refine enter Tryz.func72 rfl (tm := #[.int .u8 c1, uV, uV, uV, uV, uV, uV, uV, uV, uV, uV, uV, uV]) kr ?_
 intro B hret hnor hnp
 refine wp_seq_k fun K2 hK3 => rl ?_
 refine seqL1 kr ?_
 refine nl (hK3 _ _ ?_)
 refine wp_seq_k fun K4 hK5 => rl ?_
 have hq_ := bind_some h; clear h; obtain ⟨vt6, hc7, h⟩ := hq_
 refine seqL1 kr ?_
 refine seqK rfl (does_call (f := 70) (args := #[.int .u8 c1]) kr (frame_upper.calls k c1 HS vt6 hc7) ?_)
 rintro _ W10 ⟨f8, rfl, L9, HS11⟩
 refine ⟨_, rfl, ?_⟩
 refine seqL1 kr ?_
 have hq_ := ite_some h; clear h; rcases hq_ with ⟨c12, h⟩ | ⟨c12, h⟩
 · have c12 : vt6 = true := c12
   refine seqRwI 4 kr c12 ?_
   refine seqRwI 5 kr c12 ?_
   refine seqL8 kr ?_
   refine nl (hK5 _ _ ?_)
   refine wp_ret ?_
   refine hret _ _ ?_
   refine ends_still (v := Value.bool true) kr kr ?_
   injection h with h
   subst h
   exact ⟨f8, rfl, L9, HS11⟩
 · have c12 : ¬ (vt6 = true) := c12
   refine seqRwI 4 kr (Bool.eq_false_iff.mpr c12) ?_
   refine seqRwI 5 kr (Bool.eq_false_iff.mpr c12) ?_
   have hq_ := bind_some h; clear h; obtain ⟨vt13, hc14, h⟩ := hq_
   refine seqL1 kr ?_
   refine seqG kr (does_call (f := 103) (args := #[.int .u8 c1]) kr (frame_digit.calls k c1 HS11 vt13 hc14) ?_)
   rintro _ W17 ⟨f15, rfl, L16, HS18⟩
   refine ⟨_, rfl, ?_⟩
   refine seqL2 kr ?_
   have hq_ := ite_some h; clear h; rcases hq_ with ⟨c19, h⟩ | ⟨c19, h⟩
   · have c19 : vt13 = true := c19
     refine seqRwI 7 kr c19 ?_
     refine seqRwI 8 kr c19 ?_
     refine seqRwI 9 kr c19 ?_
     refine seqL4 kr ?_
     refine nl (hK5 _ _ ?_)
     refine wp_ret ?_
     refine hret _ _ ?_
     refine ends_still (v := Value.bool true) kr kr ?_
     injection h with h
     subst h
     exact ⟨f15, rfl, (L9.trans L16), HS18⟩
   · have c19 : ¬ (vt13 = true) := c19
     refine seqRwI 7 kr (Bool.eq_false_iff.mpr c19) ?_
     refine seqRwI 8 kr (Bool.eq_false_iff.mpr c19) ?_
     refine seqRwI 9 kr (Bool.eq_false_iff.mpr c19) ?_
     refine seqL4 kr ?_
     refine nl (hK5 _ _ ?_)
     refine wp_ret ?_
     refine hret _ _ ?_
     refine ends_still (v := Value.bool (c1 == 45)) kr kr ?_
     injection h with h
     subst h
     exact ⟨f15, rfl, (L9.trans L16), HS18⟩

set_option maxRecDepth 100000 in
set_option maxHeartbeats 4000000 in
theorem frame_all__frame_inKey.calls (k : Nat)  (s1 : ByteArray) {t w : World} {f : FM} {H : List Seg} (HS : St t w f (H)) (rr1 : Bool) (h : frame_all__frame_inKey k s1 = some rr1) :
    Calls Tryz.prog 71 #[.string s1, .func (.func 72) #[] #[]] w (fun e w' => ∃ (g : FM), e = .returned (Value.bool rr1) ∧ FM.le f g ∧ St t w' g (H)) := by
 unfold frame_all__frame_inKey at h
 refine enter Tryz.func71 rfl (tm := #[.string s1, .func (.func 72) #[] #[], uV, uV, uV, uV, uV, uV, uV, uV, uV, uV, uV, uV, uV, uV, uV, uV]) kr ?_
 intro B hret hnor hnp
 refine wp_seq_k fun K2 hK3 => rl ?_
 refine seqL1 kr ?_
 refine nl (hK3 _ _ ?_)
 refine wp_seq_k (fun K4 hK5 => ?_)
 refine wp_seq_k fun K6 hK7 => rl ?_
 refine seqL3 kr ?_
 refine nl (hK7 _ _ ?_)
 refine blockK (fun B8 hx9 hn10 hr11 ho12 hp13 => ?_)
 have hq_ := bind_some h; clear h; obtain ⟨o14, hv59, h⟩ := hq_
 have JR61 : ∀ z_, some (Sum.inl z_) = some o14 → some z_ = some rr1 := by
  intro z_ e_; injection e_ with e_; subst e_; exact h
 have J60 : ∀ (f54 : FM) (j58 : Nat → Value) (W56 : World) (a_ : Act), FM.le f f54 → some (Sum.inr ()) = some o14 → St t W56 f54 (H) → a_ = ⟨#[.string s1, .func (.func 72) #[] #[], uV, uV, (j58 0), (j58 1), .string s1, iV (s1.size : Int), (j58 2), (j58 3), (j58 4), (j58 5), (j58 6), (j58 7), (j58 8), (j58 9), (j58 10), (j58 11)], []⟩ → K4 a_ W56 := by
  intro f54 j58 W56 a_ L55 hj62 HS57  hfr_; subst hfr_
  injection hj62 with hj62; subst hj62; try dsimp only at h
  simp only [Sum.elim_inr] at h
  refine hK5 _ _ ?_
  refine wp_seq_k fun K63 hK64 => rl ?_
  refine seqL1 kr ?_
  refine nl (hK64 _ _ ?_)
  refine wp_ret ?_
  refine hret _ _ ?_
  refine ends_still (v := Value.bool true) kr kr ?_
  injection h with h
  subst h
  exact ⟨f54, rfl, L55, HS57⟩
 clear h; have h := hv59; clear hv59
 refine loopK (fun n_ a_ w_ => ∃ (f18 : FM) (x23 : Int) (j22 : Nat → Value), FM.le f f18 ∧ St t w_ f18 (H) ∧ frame_all__frame_inKey.l0 k s1 n_ x23 = some o14 ∧ a_ = ⟨#[.string s1, .func (.func 72) #[] #[], uV, uV, (j22 0), (j22 1), .string s1, iV (s1.size : Int), iV x23, (j22 2), (j22 3), (j22 4), (j22 5), (j22 6), (j22 7), (j22 8), (j22 9), (j22 10)], []⟩) k ⟨f, 0, (jL [fV]), fL, HS, h, kr⟩ ?_
 clear h
 rintro n17 _ W20 ⟨f18, x23, j22, L19, HS21, h, rfl⟩ K15 hK16
 obtain _ | n17 := n17
 · exact nomatch h
 simp only [frame_all__frame_inKey.l0] at h
 refine wp_seq_k fun K24 hK25 => rl ?_
 refine seqL1 kr ?_
 refine nl (hK25 _ _ ?_)
 refine wp_seq_k (fun K26 hK27 => ?_)
 have hq_ := ite_some h; clear h; rcases hq_ with ⟨c29, h⟩ | ⟨c29, h⟩
 · have c29 : x23 < (s1.size : Int) := c29
   refine wpRwI 9 kr (decide_eq_true c29) ?_
   refine condT kr ?_
   refine wp_skip ?_
   refine hK27 _ _ ?_
   refine wp_seq_k (fun K30 hK31 => ?_)
   refine blockK (fun B32 hx33 hn34 hr35 ho36 hp37 => ?_)
   refine wp_seq_k fun K39 hK40 => rl ?_
   refine seqL2 kr ?_
   refine nl (hK40 _ _ ?_)
   refine wp_seq_k fun K41 hK42 => rl ?_
   have hq_ := guard_some h; clear h; obtain ⟨c43, h⟩ := hq_
   have c43 : 0 ≤ x23 := c43
   refine seqL3 kr ?_
   refine seqK rfl (does_run (run_byte rfl Tryz.underlying9 (kv (.string s1)) (kv (.int .i64 x23)) c43 c29 W20) ?_)
   have hq_ := bind_some h; clear h; obtain ⟨vt44, hc45, h⟩ := hq_
   refine seqK rfl (does_call (f := 72) (args := #[.int .u8 (bt s1 x23)]) kr (frame_inKey.calls k (bt s1 x23) HS21 vt44 hc45) ?_)
   rintro _ W48 ⟨f46, rfl, L47, HS49⟩
   refine ⟨_, rfl, ?_⟩
   refine seqL1 kr ?_
   refine nl (hK42 _ _ ?_)
   have hq_ := ite_some h; clear h; rcases hq_ with ⟨c51, h⟩ | ⟨c51, h⟩
   · have c51 : ¬ (vt44 = true) := c51
     refine wpRwI 16 kr (congrArg (fun b_ => !b_) (show vt44 = false from (Bool.eq_false_iff.mpr c51)) : (!vt44) = true) ?_
     refine condT kr ?_
     refine wp_seq_k fun K52 hK53 => rl ?_
     refine seqL1 kr ?_
     refine nl (hK53 _ _ ?_)
     refine wp_ret ?_
     refine hr35 _ _ ?_
     refine hr11 _ _ ?_
     refine hret _ _ ?_
     refine ends_still (v := Value.bool false) kr kr ?_
     replace h := JR61 _ h
     injection h with h
     subst h
     exact ⟨f46, rfl, (L19.trans L47), HS49⟩
   · have c51 : ¬ (¬ (vt44 = true)) := c51
     refine wpRwI 16 (x := (!vt44)) (v := false) kr (congrArg (fun b_ => !b_) (show vt44 = true from (Decidable.of_not_not c51)) : (!vt44) = false) ?_
     refine condF kr ?_
     refine wp_skip ?_
     refine hn34 _ _ ?_
     refine hK31 _ _ ?_
     refine rl ?_
     refine seqL2 kr ?_
     refine nl ?_
     refine hK16 n17 _ _ (Nat.lt_succ_self _) ?_
     exact ⟨f46, (w64 (x23 + 1)), (jL [(j22 0), iV x23, tV, iV x23, .func (.func 72) #[] #[], .string s1, iV x23, .int .u8 (bt s1 x23), .bool vt44, fV, iV (w64 (x23 + 1))]), (L19.trans L47), HS49, h, kr⟩
 · have c29 : ¬ (x23 < (s1.size : Int)) := c29
   refine wpRwI 9 kr (decide_eq_false c29) ?_
   refine condF kr ?_
   refine wp_exit ?_
   refine hx9 _ _ ?_
   exact J60 f18 (jL [(j22 0), (j22 1), iV x23, fV, (j22 3), (j22 4), (j22 5), (j22 6), (j22 7), (j22 8), (j22 9), (j22 10)]) W20 _ L19 h HS21 kr

set_option maxRecDepth 100000 in
set_option maxHeartbeats 4000000 in
theorem frame_own.calls (k : Nat)  (key1 : ByteArray) {t w : World} {f : FM} {H : List Seg} (HS : St t w f (H)) (rr1 : Bool) (h : frame_own k key1 = some rr1) :
    Calls Tryz.prog 73 #[.string key1] w (fun e w' => ∃ (g : FM), e = .returned (Value.bool rr1) ∧ FM.le f g ∧ St t w' g (H)) := by
 unfold frame_own at h
 refine enter Tryz.func73 rfl (tm := #[.string key1, uV, uV, uV, uV, uV, uV, uV, uV, uV, uV, uV, uV, uV, uV, uV, uV]) kr ?_
 intro B hret hnor hnp
 refine wp_seq_k fun K2 hK3 => rl ?_
 refine seqL1 kr ?_
 refine nl (hK3 _ _ ?_)
 refine wp_seq_k fun K4 hK5 => rl ?_
 refine seqL3 kr ?_
 have hq_ := ite_some h; clear h; rcases hq_ with ⟨c6, h⟩ | ⟨c6, h⟩
 · have c6 : (key1.toList == Z31.toList) = true := c6
   refine seqRwI 4 kr c6 ?_
   refine seqRwI 5 kr c6 ?_
   refine seqL12 kr ?_
   refine nl (hK5 _ _ ?_)
   refine wp_ret ?_
   refine hret _ _ ?_
   refine ends_still (v := Value.bool true) kr kr ?_
   injection h with h
   subst h
   exact ⟨f, rfl, FM.le.refl _, HS⟩
 · have c6 : ¬ ((key1.toList == Z31.toList) = true) := c6
   refine seqRwI 4 kr (Bool.eq_false_iff.mpr c6) ?_
   refine seqRwI 5 kr (Bool.eq_false_iff.mpr c6) ?_
   refine seqL4 kr ?_
   have hq_ := ite_some h; clear h; rcases hq_ with ⟨c7, h⟩ | ⟨c7, h⟩
   · have c7 : (key1.toList == Z26.toList) = true := c7
     refine seqRwI 7 kr c7 ?_
     refine seqRwI 8 kr c7 ?_
     refine seqRwI 9 kr c7 ?_
     refine seqL8 kr ?_
     refine nl (hK5 _ _ ?_)
     refine wp_ret ?_
     refine hret _ _ ?_
     refine ends_still (v := Value.bool true) kr kr ?_
     injection h with h
     subst h
     exact ⟨f, rfl, FM.le.refl _, HS⟩
   · have c7 : ¬ ((key1.toList == Z26.toList) = true) := c7
     refine seqRwI 7 kr (Bool.eq_false_iff.mpr c7) ?_
     refine seqRwI 8 kr (Bool.eq_false_iff.mpr c7) ?_
     refine seqRwI 9 kr (Bool.eq_false_iff.mpr c7) ?_
     refine seqL4 kr ?_
     have hq_ := ite_some h; clear h; rcases hq_ with ⟨c8, h⟩ | ⟨c8, h⟩
     · have c8 : (key1.toList == Z24.toList) = true := c8
       refine seqRwI 11 kr c8 ?_
       refine seqRwI 12 kr c8 ?_
       refine seqRwI 13 kr c8 ?_
       refine seqL4 kr ?_
       refine nl (hK5 _ _ ?_)
       refine wp_ret ?_
       refine hret _ _ ?_
       refine ends_still (v := Value.bool true) kr kr ?_
       injection h with h
       subst h
       exact ⟨f, rfl, FM.le.refl _, HS⟩
     · have c8 : ¬ ((key1.toList == Z24.toList) = true) := c8
       refine seqRwI 11 kr (Bool.eq_false_iff.mpr c8) ?_
       refine seqRwI 12 kr (Bool.eq_false_iff.mpr c8) ?_
       refine seqRwI 13 kr (Bool.eq_false_iff.mpr c8) ?_
       refine seqL4 kr ?_
       refine nl (hK5 _ _ ?_)
       refine wp_ret ?_
       refine hret _ _ ?_
       refine ends_still (v := Value.bool (key1.toList == Z25.toList)) kr kr ?_
       injection h with h
       subst h
       exact ⟨f, rfl, FM.le.refl _, HS⟩

set_option maxRecDepth 100000 in
set_option maxHeartbeats 4000000 in
theorem frame_inked.calls (k : Nat)  (c1 : Int) {t w : World} {f : FM} {H : List Seg} (HS : St t w f (H)) (rr1 : Bool) (h : frame_inked k c1 = some rr1) :
    Calls Tryz.prog 74 #[.int .u8 c1] w (fun e w' => ∃ (g : FM), e = .returned (Value.bool rr1) ∧ FM.le f g ∧ St t w' g (H)) := by
 unfold frame_inked at h
 refine enter Tryz.func74 rfl (tm := #[.int .u8 c1, uV, uV, uV, uV, uV, uV, uV, uV]) kr ?_
 intro B hret hnor hnp
 refine wp_seq_k fun K2 hK3 => rl ?_
 refine seqL1 kr ?_
 refine nl (hK3 _ _ ?_)
 refine wp_seq_k fun K4 hK5 => rl ?_
 refine seqL3 kr ?_
 have hq_ := ite_some h; clear h; rcases hq_ with ⟨c6, h⟩ | ⟨c6, h⟩
 · have c6 : c1 > 32 := c6
   refine seqRwI 4 kr (decide_eq_true c6) ?_
   refine seqRwI 5 kr (decide_eq_true c6) ?_
   refine seqL4 kr ?_
   refine nl (hK5 _ _ ?_)
   refine wp_ret ?_
   refine hret _ _ ?_
   refine ends_still (v := Value.bool (decide (c1 ≤ 126))) kr kr ?_
   injection h with h
   subst h
   exact ⟨f, rfl, FM.le.refl _, HS⟩
 · have c6 : ¬ (c1 > 32) := c6
   refine seqRwI 4 kr (decide_eq_false c6) ?_
   refine seqRwI 5 kr (decide_eq_false c6) ?_
   refine seqL4 kr ?_
   refine nl (hK5 _ _ ?_)
   refine wp_ret ?_
   refine hret _ _ ?_
   refine ends_still (v := Value.bool false) kr kr ?_
   injection h with h
   subst h
   exact ⟨f, rfl, FM.le.refl _, HS⟩

end Go.Sp.T6
