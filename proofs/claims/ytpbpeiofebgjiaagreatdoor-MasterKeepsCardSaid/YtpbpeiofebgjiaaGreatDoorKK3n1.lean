import Derived.Test.YtpbpeiofebgjiaaGreatDoorProg
import Derived.Test.YtpbpeiofebgjiaaGreatDoorSpCopy
import Derived.Test.YtpbpeiofebgjiaaGreatDoorFK3
import Derived.Test.YtpbpeiofebgjiaaGreatDoorSpStr
import Derived.Test.YtpbpeiofebgjiaaGreatDoorSpLib
import Derived.Test.YtpbpeiofebgjiaaGreatDoorConv
import Derived.Test.YtpbpeiofebgjiaaGreatDoorLibs
import Derived.Test.YtpbpeiofebgjiaaGreatDoorKK3n0
namespace Go.Sp.K3
open Go Go.Sp Go.Proofs
set_option linter.unusedVariables false
attribute [local irreducible] wpList AnyL Code.wp Calls Does
set_option maxRecDepth 100000 in
set_option maxHeartbeats 4000000 in
theorem sensor_pour__sensor_Bleed_3.calls (k : Nat) (b1 : Nat) (b3 : Nat) (A8 : Option Addr) (c9 : Nat) (b5 : Nat) (A12 : Option Addr) (c13 : Nat) (A15 : Option Addr) (c16 : Nat) (A18 : Option Addr) (c19 : Nat) (A22 : Option Addr) (c23 : Nat) (A25 : Option Addr) (c26 : Nat) (A28 : Option Addr) (c29 : Nat) (A31 : Option Addr) (c32 : Nat) (s33 : Seg) (A38 : Option Addr) (c39 : Nat) (v7 : List Int) (v11 : S_Sensor) (s21 : S_Sensor) (held35 : List Int) (order37 : List Int) {t w : World} {f : FM} {H : List Seg} (HS : St t w f ([(b1, .cells #[.func (.func 17) #[] #[.pointer (some ⟨b3, 0, none⟩), .pointer (some ⟨b5, 0, none⟩)]] 63 (0, 0))] :: [(b3, .cells #[.slice A8 v7.length c9] 32 (0, 0))] :: [(b5, .cells #[.int .i64 v11.W, .int .i64 v11.H, .slice A12 v11.Bias.length c13, .slice A15 v11.Dark.length c16, .slice A18 v11.Flat.length c19, .int .i64 v11.Full, .int .i64 v11.Gain, .int .i64 v11.Noise] 30 (0, 0))] :: s33 :: H)) (HR10 : SlR (tInt .i64) f A8 c9 v7) (HR14 : SlR (tInt .i64) f A12 c13 v11.Bias) (HR17 : SlR (tInt .i64) f A15 c16 v11.Dark) (HR20 : SlR (tInt .i64) f A18 c19 v11.Flat) (HR24 : SlR (tInt .i64) f A22 c23 s21.Bias) (HR27 : SlR (tInt .i64) f A25 c26 s21.Dark) (HR30 : SlR (tInt .i64) f A28 c29 s21.Flat) (HO34 : Own (tInt .i64) 28 f A31 c32 s33 held35) (HR40 : SlR (tInt .i64) f A38 c39 order37) (rr1 : Int) (rr2 : List Int) (h : sensor_pour__sensor_Bleed_3 k v7 v11 s21 held35 order37 = some (rr1, rr2)) :
    Calls Tryz.prog 18 #[.agg #[.int .i64 s21.W, .int .i64 s21.H, .slice A22 s21.Bias.length c23, .slice A25 s21.Dark.length c26, .slice A28 s21.Flat.length c29, .int .i64 s21.Full, .int .i64 s21.Gain, .int .i64 s21.Noise], .slice A31 held35.length c32, .slice A38 order37.length c39, .func (.func 21) #[] #[.pointer (some ⟨b1, 0, none⟩)]] w (fun e w' => ∃ (g : FM) (s210 : Seg), e = .returned (Value.int .i64 rr1) ∧ FM.le f g ∧ St t w' g ([(b1, .cells #[.func (.func 17) #[] #[.pointer (some ⟨b3, 0, none⟩), .pointer (some ⟨b5, 0, none⟩)]] 63 (0, 0))] :: [(b3, .cells #[.slice A8 v7.length c9] 32 (0, 0))] :: [(b5, .cells #[.int .i64 v11.W, .int .i64 v11.H, .slice A12 v11.Bias.length c13, .slice A15 v11.Dark.length c16, .slice A18 v11.Flat.length c19, .int .i64 v11.Full, .int .i64 v11.Gain, .int .i64 v11.Noise] 30 (0, 0))] :: s210 :: H) ∧ Own (tInt .i64) 28 g A31 c32 s210 rr2 ∧ rr2.length = held35.length) := by
 unfold sensor_pour__sensor_Bleed_3 at h
 refine enter Tryz.func18 rfl (tm := #[(ag_Sensor s21 A22 c23 A25 c26 A28 c29), .slice A31 held35.length c32, .slice A38 order37.length c39, .func (.func 21) #[] #[pV b1 0], uV, uV, uV, uV, uV, uV, uV, uV, uV, uV, uV, uV, uV, uV, uV, uV, uV, uV, uV, uV, uV, uV, uV, uV, uV, uV, uV, uV, uV, uV, uV, uV, uV, uV, uV, uV, uV, uV, uV, uV]) kr ?_
 intro B hret hnor hnp
 refine wp_seq_k fun K41 hK42 => rl ?_
 refine seqK rfl (does_box (cs := #[.int .i64 s21.W, .int .i64 s21.H, .slice A22 s21.Bias.length c23, .slice A25 s21.Dark.length c26, .slice A28 s21.Flat.length c29, .int .i64 s21.Full, .int .i64 s21.Gain, .int .i64 s21.Noise]) rfl (kv (.agg #[.int .i64 s21.W, .int .i64 s21.H, .slice A22 s21.Bias.length c23, .slice A25 s21.Dark.length c26, .slice A28 s21.Flat.length c29, .int .i64 s21.Full, .int .i64 s21.Gain, .int .i64 s21.Noise])) rfl HS ?_)
 intro b43 W44 HS45
 refine seqL1 kr ?_
 refine nl (hK42 _ _ ?_)
 refine wp_seq_k fun K47 hK48 => rl ?_
 refine seqL1 kr ?_
 refine nl (hK48 _ _ ?_)
 refine wp_seq_k (fun K49 hK50 => ?_)
 refine wp_seq_k fun K51 hK52 => rl ?_
 refine seqL3 kr ?_
 refine nl (hK52 _ _ ?_)
 refine blockK (fun B53 hx54 hn55 hr56 ho57 hp58 => ?_)
 have hq_ := bind_some h; clear h; obtain ⟨o122, hv199, h⟩ := hq_
 have J200 : ∀ (f189 : FM) (s195 : Seg) (held194 : List Int) (flow198 : Int) (j193 : Nat → Value) (W191 : World) (a_ : Act), FM.le f f189 → some ((held194, flow198)) = some o122 → St t W191 f189 ([(b43, .cells #[.int .i64 s21.W, .int .i64 s21.H, .slice A22 s21.Bias.length c23, .slice A25 s21.Dark.length c26, .slice A28 s21.Flat.length c29, .int .i64 s21.Full, .int .i64 s21.Gain, .int .i64 s21.Noise] 30 (0, 0))] :: [(b1, .cells #[.func (.func 17) #[] #[.pointer (some ⟨b3, 0, none⟩), .pointer (some ⟨b5, 0, none⟩)]] 63 (0, 0))] :: [(b3, .cells #[.slice A8 v7.length c9] 32 (0, 0))] :: [(b5, .cells #[.int .i64 v11.W, .int .i64 v11.H, .slice A12 v11.Bias.length c13, .slice A15 v11.Dark.length c16, .slice A18 v11.Flat.length c19, .int .i64 v11.Full, .int .i64 v11.Gain, .int .i64 v11.Noise] 30 (0, 0))] :: s195 :: H) → Own (tInt .i64) 28 f189 A31 c32 s195 held194 → held194.length = held35.length → a_ = ⟨#[(ag_Sensor s21 A22 c23 A25 c26 A28 c29), .slice A31 held194.length c32, .slice A38 order37.length c39, .func (.func 21) #[] #[pV b1 0], pV b43 0, uV, uV, uV, iV 0, iV flow198, uV, (j193 0), (j193 1), .slice A38 order37.length c39, iV (order37.length : Int), (j193 2), (j193 3), (j193 4), (j193 5), (j193 6), (j193 7), (j193 8), (j193 9), (j193 10), (j193 11), (j193 12), (j193 13), (j193 14), (j193 15), (j193 16), (j193 17), (j193 18), (j193 19), (j193 20), (j193 21), (j193 22), (j193 23), (j193 24), (j193 25), (j193 26), (j193 27), (j193 28), (j193 29), uV], []⟩ → K49 a_ W191 := by
  intro f189 s195 held194 flow198 j193 W191 a_ L190 hj201 HS192 HO196 HL197 hfr_; subst hfr_
  injection hj201 with hj201; subst hj201; try dsimp only at h
  refine hK50 _ _ ?_
  refine wp_seq_k fun K207 hK208 => rl ?_
  refine seqL2 kr ?_
  refine nl (hK208 _ _ ?_)
  refine wp_ret ?_
  refine hret _ _ ?_
  refine ends_still (v := Value.int .i64 flow198) kr kr ?_
  have HS209 := HS192.drop
  injection h with h
  injection h with h0_ h
  subst h0_ h
  exact ⟨f189, s195, rfl, L190, HS209, HO196, HL197⟩
 clear h; have h := hv199; clear hv199
 refine loopK (fun n_ a_ w_ => ∃ (f126 : FM) (s132 : Seg) (held131 : List Int) (flow135 : Int) (x136 : Int) (j130 : Nat → Value), FM.le f f126 ∧ St t w_ f126 ([(b43, .cells #[.int .i64 s21.W, .int .i64 s21.H, .slice A22 s21.Bias.length c23, .slice A25 s21.Dark.length c26, .slice A28 s21.Flat.length c29, .int .i64 s21.Full, .int .i64 s21.Gain, .int .i64 s21.Noise] 30 (0, 0))] :: [(b1, .cells #[.func (.func 17) #[] #[.pointer (some ⟨b3, 0, none⟩), .pointer (some ⟨b5, 0, none⟩)]] 63 (0, 0))] :: [(b3, .cells #[.slice A8 v7.length c9] 32 (0, 0))] :: [(b5, .cells #[.int .i64 v11.W, .int .i64 v11.H, .slice A12 v11.Bias.length c13, .slice A15 v11.Dark.length c16, .slice A18 v11.Flat.length c19, .int .i64 v11.Full, .int .i64 v11.Gain, .int .i64 v11.Noise] 30 (0, 0))] :: s132 :: H) ∧ Own (tInt .i64) 28 f126 A31 c32 s132 held131 ∧ held131.length = held35.length ∧ sensor_pour__sensor_Bleed_3.l0 k order37 v7 v11 s21 n_ held131 flow135 x136 = some o122 ∧ a_ = ⟨#[(ag_Sensor s21 A22 c23 A25 c26 A28 c29), .slice A31 held131.length c32, .slice A38 order37.length c39, .func (.func 21) #[] #[pV b1 0], pV b43 0, uV, uV, uV, iV 0, iV flow135, uV, (j130 0), (j130 1), .slice A38 order37.length c39, iV (order37.length : Int), iV x136, (j130 2), (j130 3), (j130 4), (j130 5), (j130 6), (j130 7), (j130 8), (j130 9), (j130 10), (j130 11), (j130 12), (j130 13), (j130 14), (j130 15), (j130 16), (j130 17), (j130 18), (j130 19), (j130 20), (j130 21), (j130 22), (j130 23), (j130 24), (j130 25), (j130 26), (j130 27), (j130 28), uV], []⟩) k ⟨f, s33, held35, 0, 0, (fun i_ => [undef, undef, undef, undef, undef, undef, undef, undef, undef, undef, undef, undef, undef, undef, undef, undef, undef, undef, undef, undef, undef, undef, undef, undef, undef, undef, undef, undef, undef].getD i_ undef), (FM.le.refl _), HS45, HO34, rfl, h, kr⟩ ?_
 clear h
 rintro n125 _ W128 ⟨f126, s132, held131, flow135, x136, j130, L127, HS129, HO133, HL134, h, rfl⟩ K123 hK124
 obtain _ | n125 := n125
 · exact nomatch h
 simp only [sensor_pour__sensor_Bleed_3.l0] at h
 refine wp_seq_k fun K137 hK138 => rl ?_
 refine seqL1 kr ?_
 refine nl (hK138 _ _ ?_)
 refine wp_seq_k (fun K139 hK140 => ?_)
 have hq_ := ite_some h; clear h; rcases hq_ with ⟨c142, h⟩ | ⟨c142, h⟩
 · have c142 : x136 < (order37.length : Int) := c142
   refine wpRwI 16 (x := (decide (x136 < (order37.length : Int)))) (v := true) kr (decide_eq_true c142) ?_
   refine condT kr ?_
   refine wp_skip ?_
   refine hK140 _ _ ?_
   refine wp_seq_k (fun K143 hK144 => ?_)
   refine blockK (fun B145 hx146 hn147 hr148 ho149 hp150 => ?_)
   refine wp_seq_k fun K152 hK153 => rl ?_
   have hq_ := guard_some h; clear h; obtain ⟨c154, h⟩ := hq_
   have c154 : 0 ≤ x136 := c154
   obtain ⟨b158, of159, cs155, hA160, hr156, hc157⟩ := (HR40.mono L127).at (i := x136) c154 c142
   obtain rfl := hr156
   refine seqK rfl (does_run (run_indexE hA160 (sz := 1) rfl Tryz.underlying22 kr (kv (.slice A38 order37.length c39)) (kv (.int .i64 x136)) c154 c142 W128) ?_)
   refine seqK rfl (does_run (run_load rfl Tryz.underlying3 rfl (kv (.pointer (some ⟨b158, of159 + (x136 : Int).toNat * 1, none⟩))) ((hc157 (FM.le.refl _) HS129) 0 (by decide))) ?_)
   refine seqL1 kr ?_
   refine nl (hK153 _ _ ?_)
   refine wp_seq_k (fun K161 hK162 => ?_)
   refine heldG (S := Sg t f126 ([(b43, .cells #[.int .i64 s21.W, .int .i64 s21.H, .slice A22 s21.Bias.length c23, .slice A25 s21.Dark.length c26, .slice A28 s21.Flat.length c29, .int .i64 s21.Full, .int .i64 s21.Gain, .int .i64 s21.Noise] 30 (0, 0))] :: [(b1, .cells #[.func (.func 17) #[] #[.pointer (some ⟨b3, 0, none⟩), .pointer (some ⟨b5, 0, none⟩)]] 63 (0, 0))] :: [(b3, .cells #[.slice A8 v7.length c9] 32 (0, 0))] :: [(b5, .cells #[.int .i64 v11.W, .int .i64 v11.H, .slice A12 v11.Bias.length c13, .slice A15 v11.Dark.length c16, .slice A18 v11.Flat.length c19, .int .i64 v11.Full, .int .i64 v11.Gain, .int .i64 v11.Noise] 30 (0, 0))] :: s132 :: H) []) (n := 10) kr rfl HS129 ?_
   intro W163 HS164
   refine takeGL [0, 1] (n := 10) (fuel := 8) #[true, true, false, false, false, false, false, false, false, false] rfl kr kr kr (fun ch_ a_ w_ q_ => (fun ch_ a_ w_ q_ => hnp ch_ a_ w_ (hp58 ch_ a_ w_ q_)) ch_ a_ w_ (hp150 ch_ a_ w_ q_)) (Sg.g0 (Sx.of [] (FM.le.refl _) HS164)) ?_
   refine takeGQ 2 [] rfl kr kr kr kr kr kr (fun ch_ a_ w_ q_ => (fun ch_ a_ w_ q_ => hnp ch_ a_ w_ (hp58 ch_ a_ w_ q_)) ch_ a_ w_ (hp150 ch_ a_ w_ q_)) (Sg.g0 (Sx.of [] (FM.le.refl _) HS164)) (fun w_ hw_ => by obtain ⟨g_, hl_, hS_⟩ := hw_.st; exact run_load rfl Tryz.underlying28 rfl (kv (.pointer (some ⟨b43, 5, none⟩))) (hS_.cell 5)) ?_
   have hq_ := guard_some h; clear h; obtain ⟨c165, h⟩ := hq_
   have c165 : 0 ≤ (rd order37 x136) := c165
   have hq_ := guard_some h; clear h; obtain ⟨c166, h⟩ := hq_
   have c166 : (rd order37 x136) < (held131.length : Int) := c166
   obtain ⟨b170, of171, cs167, hA172, hr168, hc169⟩ := HO133.at (i := (rd order37 x136)) c165 c166
   obtain rfl := hr168
   refine takeGL [3, 4] (n := 7) (fuel := 5) #[true, true, true, true, true, false, false, false, false, false] rfl kr kr kr (fun ch_ a_ w_ q_ => (fun ch_ a_ w_ q_ => hnp ch_ a_ w_ (hp58 ch_ a_ w_ q_)) ch_ a_ w_ (hp150 ch_ a_ w_ q_)) (Sg.g0 (Sx.of [] (FM.le.refl _) HS164)) ?_
   refine takeGQ 5 [] rfl kr kr kr kr kr kr (fun ch_ a_ w_ q_ => (fun ch_ a_ w_ q_ => hnp ch_ a_ w_ (hp58 ch_ a_ w_ q_)) ch_ a_ w_ (hp150 ch_ a_ w_ q_)) (Sg.g0 (Sx.of [] (FM.le.refl _) HS164)) (fun w_ hw_ => by obtain ⟨g_, hl_, hS_⟩ := hw_.st; exact run_indexE hA172 (sz := 1) rfl Tryz.underlying32 kr (kv (.slice A31 held131.length c32)) (kv (.int .i64 (rd order37 x136))) c165 c166 w_) ?_
   refine takeGQ 6 [] rfl kr kr kr kr kr kr (fun ch_ a_ w_ q_ => (fun ch_ a_ w_ q_ => hnp ch_ a_ w_ (hp58 ch_ a_ w_ q_)) ch_ a_ w_ (hp150 ch_ a_ w_ q_)) (Sg.g0 (Sx.of [] (FM.le.refl _) HS164)) (fun w_ hw_ => by obtain ⟨g_, hl_, hS_⟩ := hw_.st; exact run_load rfl Tryz.underlying28 rfl (kv (.pointer (some ⟨b170, of171 + ((rd order37 x136) : Int).toNat * 1, none⟩))) ((hc169 hS_.u4) 0 (by decide))) ?_
   refine takeGL [7, 8, 9] (n := 3) (fuel := 0) #[true, true, true, true, true, true, true, true, true, true] rfl kr kr kr (fun ch_ a_ w_ q_ => (fun ch_ a_ w_ q_ => hnp ch_ a_ w_ (hp58 ch_ a_ w_ q_)) ch_ a_ w_ (hp150 ch_ a_ w_ q_)) (Sg.g0 (Sx.of [] (FM.le.refl _) HS164)) ?_
   refine doneG kr ?_ _
   refine hK162 _ _ ?_
   refine wp_seq_k fun K173 hK174 => rl ?_
   refine seqL2 kr ?_
   refine seqK rfl (does_run (run_indexE hA172 (sz := 1) rfl Tryz.underlying32 kr (kv (.slice A31 held131.length c32)) (kv (.int .i64 (rd order37 x136))) c165 c166 W163) ?_)
   refine seqK rfl (does_run (run_load rfl Tryz.underlying28 rfl (kv (.pointer (some ⟨b170, of171 + ((rd order37 x136) : Int).toNat * 1, none⟩))) ((hc169 HS164.u4) 0 (by decide))) ?_)
   refine seqL2 kr ?_
   refine seqK rfl (does_run (run_indexE hA172 (sz := 1) rfl Tryz.underlying32 kr (kv (.slice A31 held131.length c32)) (kv (.int .i64 (rd order37 x136))) c165 c166 W163) ?_)
   have HS175 := HS164.u4
   refine seqK rfl (does_put (e := (tInt .i64)) (E := 28) (vs := [.int .i64 (w64 ((rd held131 (rd order37 x136)) + (mn flow135 (w64 (s21.Full - (rd held131 (rd order37 x136)))))))]) (u := w64 ((rd held131 (rd order37 x136)) + (mn flow135 (w64 (s21.Full - (rd held131 (rd order37 x136))))))) (i := (rd order37 x136)) rfl kr HO133 HS175 hA172 (kv (.pointer (some ⟨b170, of171 + ((rd order37 x136) : Int).toNat * 1, none⟩))) (kv (.int .i64 (w64 ((rd held131 (rd order37 x136)) + (mn flow135 (w64 (s21.Full - (rd held131 (rd order37 x136))))))))) rfl rfl c165 c166 ?_)
   intro W176 s177 HS178 HO179
   refine seqRwS 1 (A := A31) (m := held131.length) (n := (held131.set ((rd order37 x136)).toNat (w64 ((rd held131 (rd order37 x136)) + (mn flow135 (w64 (s21.Full - (rd held131 (rd order37 x136)))))))).length) (c := c32) kr (List.length_set).symm ?_
   refine seqRwS 22 (A := A31) (m := held131.length) (n := (held131.set ((rd order37 x136)).toNat (w64 ((rd held131 (rd order37 x136)) + (mn flow135 (w64 (s21.Full - (rd held131 (rd order37 x136)))))))).length) (c := c32) kr (List.length_set).symm ?_
   refine seqRwS 28 (A := A31) (m := held131.length) (n := (held131.set ((rd order37 x136)).toNat (w64 ((rd held131 (rd order37 x136)) + (mn flow135 (w64 (s21.Full - (rd held131 (rd order37 x136)))))))).length) (c := c32) kr (List.length_set).symm ?_
   refine nl (hK174 _ _ ?_)
   refine rl ?_
   have HS180 := HS178.u4
   have HS181 := HS180.u4
   have HS182 := HS181.u4
   have hq_ := bind_some h; clear h; obtain ⟨vt183, hc184, h⟩ := hq_
   refine seqL3 kr ?_
   refine seqK rfl (does_call (f := 21) (args := #[.int .i64 (rd order37 x136), .pointer (some ⟨b1, 0, none⟩)]) kr (sensor_Bleed_3.calls k b1 b3 A8 c9 b5 A12 c13 A15 c16 A18 c19 v7 v11 (rd order37 x136) HS182 (HR10.mono L127) (HR14.mono L127) (HR17.mono L127) (HR20.mono L127) vt183 hc184) ?_)
   rintro _ W187 ⟨f185, rfl, L186, HS188⟩
   refine ⟨_, rfl, ?_⟩
   refine seqL4 kr ?_
   refine nl ?_
   refine hn147 _ _ ?_
   refine hK144 _ _ ?_
   refine rl ?_
   refine seqL2 kr ?_
   refine nl ?_
   refine hK124 n125 _ _ (Nat.lt_succ_self _) ?_
   have HS202 := HS188.u3
   have HS203 := HS202.u3
   have HS204 := HS203.u3
   have HS205 := HS204.u3
   have HS206 := HS205.u4
   exact ⟨f185, s177, (held131.set ((rd order37 x136)).toNat (w64 ((rd held131 (rd order37 x136)) + (mn flow135 (w64 (s21.Full - (rd held131 (rd order37 x136)))))))), (w64 (flow135 + (w64 (vt183 - (mn flow135 (w64 (s21.Full - (rd held131 (rd order37 x136))))))))), (w64 (x136 + 1)), (fun i_ => [Value.int .i64 (rd order37 x136), Value.int .i64 (mn flow135 (w64 (s21.Full - (rd held131 (rd order37 x136))))), Value.bool true, Value.pointer (some ⟨b158, of159 + (x136 : Int).toNat * 1, none⟩), Value.int .i64 (rd order37 x136), Value.int .i64 flow135, Value.pointer (some ⟨b43, 5, none⟩), Value.int .i64 s21.Full, Value.slice A31 (held131.set ((rd order37 x136)).toNat (w64 ((rd held131 (rd order37 x136)) + (mn flow135 (w64 (s21.Full - (rd held131 (rd order37 x136)))))))).length c32, Value.int .i64 (rd order37 x136), Value.pointer (some ⟨b170, of171 + ((rd order37 x136) : Int).toNat * 1, none⟩), Value.int .i64 (rd held131 (rd order37 x136)), Value.int .i64 (w64 (s21.Full - (rd held131 (rd order37 x136)))), Value.int .i64 (mn flow135 (w64 (s21.Full - (rd held131 (rd order37 x136))))), Value.slice A31 (held131.set ((rd order37 x136)).toNat (w64 ((rd held131 (rd order37 x136)) + (mn flow135 (w64 (s21.Full - (rd held131 (rd order37 x136)))))))).length c32, Value.int .i64 (rd order37 x136), Value.pointer (some ⟨b170, of171 + ((rd order37 x136) : Int).toNat * 1, none⟩), Value.int .i64 (rd held131 (rd order37 x136)), Value.int .i64 (mn flow135 (w64 (s21.Full - (rd held131 (rd order37 x136))))), Value.int .i64 (w64 ((rd held131 (rd order37 x136)) + (mn flow135 (w64 (s21.Full - (rd held131 (rd order37 x136))))))), Value.pointer (some ⟨b170, of171 + ((rd order37 x136) : Int).toNat * 1, none⟩), Value.int .i64 flow135, Value.func (.func 21) #[] #[.pointer (some ⟨b1, 0, none⟩)], Value.int .i64 (rd order37 x136), Value.int .i64 vt183, Value.int .i64 (mn flow135 (w64 (s21.Full - (rd held131 (rd order37 x136))))), Value.int .i64 (w64 (vt183 - (mn flow135 (w64 (s21.Full - (rd held131 (rd order37 x136))))))), Value.int .i64 (w64 (flow135 + (w64 (vt183 - (mn flow135 (w64 (s21.Full - (rd held131 (rd order37 x136))))))))), Value.int .i64 (w64 (x136 + 1))].getD i_ undef), (L127.trans L186), HS206, (HO179.mono L186), (List.length_set.trans HL134), h, kr⟩
 · have c142 : ¬ (x136 < (order37.length : Int)) := c142
   refine wpRwI 16 (x := (decide (x136 < (order37.length : Int)))) (v := false) kr (decide_eq_false c142) ?_
   refine condF kr ?_
   refine wp_exit ?_
   refine hx54 _ _ ?_
   exact J200 f126 s132 held131 flow135 (fun i_ => [(j130 0), (j130 1), Value.int .i64 x136, Value.bool false, (j130 3), (j130 4), (j130 5), (j130 6), (j130 7), (j130 8), (j130 9), (j130 10), (j130 11), (j130 12), (j130 13), (j130 14), (j130 15), (j130 16), (j130 17), (j130 18), (j130 19), (j130 20), (j130 21), (j130 22), (j130 23), (j130 24), (j130 25), (j130 26), (j130 27), (j130 28)].getD i_ undef) W128 _ L127 h HS129 HO133 HL134 kr

set_option maxRecDepth 100000 in
set_option maxHeartbeats 4000000 in
theorem sensor_Bleed.calls (k : Nat) (A2 : Option Addr) (c3 : Nat) (A5 : Option Addr) (c6 : Nat) (A8 : Option Addr) (c9 : Nat) (A12 : Option Addr) (c13 : Nat) (s1 : S_Sensor) (q11 : List Int) {t w : World} {f : FM} {H : List Seg} (HS : St t w f (H)) (HR4 : SlR (tInt .i64) f A2 c3 s1.Bias) (HR7 : SlR (tInt .i64) f A5 c6 s1.Dark) (HR10 : SlR (tInt .i64) f A8 c9 s1.Flat) (HR14 : SlR (tInt .i64) f A12 c13 q11) (rr1 : List Int) (rr2 : Int) (rr3 : Int) (h : sensor_Bleed k s1 q11 = some (rr1, rr2, rr3)) :
    Calls Tryz.prog 6 #[.agg #[.int .i64 s1.W, .int .i64 s1.H, .slice A2 s1.Bias.length c3, .slice A5 s1.Dark.length c6, .slice A8 s1.Flat.length c9, .int .i64 s1.Full, .int .i64 s1.Gain, .int .i64 s1.Noise], .slice A12 q11.length c13] w (fun e w' => ∃ (g : FM) (A559 : Option Addr) (c560 : Nat) (s561 : Seg), e = .returned (Value.tuple #[.slice A559 rr1.length c560, .int .i64 rr2, .int .i64 rr3]) ∧ FM.le f g ∧ St t w' g (s561 :: H) ∧ Own (tInt .i64) 28 g A559 c560 s561 rr1) := by
 unfold sensor_Bleed at h
 refine enter Tryz.func6 rfl (tm := #[(ag_Sensor s1 A2 c3 A5 c6 A8 c9), .slice A12 q11.length c13, uV, uV, uV, uV, uV, uV, uV, uV, uV, uV, uV, uV, uV, uV, uV, uV, uV, uV, uV, uV, uV, uV, uV, uV, uV, uV, uV, uV, uV, uV, uV, uV, uV, uV, uV, uV, uV, uV, uV, uV, uV, uV, uV, uV, uV, uV, uV, uV, uV, uV, uV, uV, uV, uV, uV, uV, uV, uV, uV, uV, uV, uV, uV, uV, uV, uV, uV, uV, uV, uV, uV, uV, uV, uV, uV, uV, uV, uV, uV]) kr ?_
 intro B hret hnor hnp
 refine wp_seq_k fun K15 hK16 => rl ?_
 refine seqK rfl (does_box (cs := #[.int .i64 s1.W, .int .i64 s1.H, .slice A2 s1.Bias.length c3, .slice A5 s1.Dark.length c6, .slice A8 s1.Flat.length c9, .int .i64 s1.Full, .int .i64 s1.Gain, .int .i64 s1.Noise]) rfl (kv (.agg #[.int .i64 s1.W, .int .i64 s1.H, .slice A2 s1.Bias.length c3, .slice A5 s1.Dark.length c6, .slice A8 s1.Flat.length c9, .int .i64 s1.Full, .int .i64 s1.Gain, .int .i64 s1.Noise])) rfl HS ?_)
 intro b17 W18 HS19
 refine seqK rfl (does_box (cs := #[.slice A12 q11.length c13]) rfl (kv (.slice A12 q11.length c13)) rfl HS19 ?_)
 intro b21 W22 HS23
 refine seqL3 kr ?_
 refine nl (hK16 _ _ ?_)
 refine wp_seq_k (fun K25 hK26 => ?_)
 refine wp_seq_k fun K27 hK28 => rl ?_
 refine seqK rfl (does_run (run_loadN (n := 8) rfl Tryz.underlying30 rfl kr (kv (.pointer (some ⟨b17, 0, none⟩))) (cs := [.int .i64 s1.W, .int .i64 s1.H, .slice A2 s1.Bias.length c3, .slice A5 s1.Dark.length c6, .slice A8 s1.Flat.length c9, .int .i64 s1.Full, .int .i64 s1.Gain, .int .i64 s1.Noise]) rfl (HS23.u1.cells 0 8 _ rfl)) ?_)
 refine seqK rfl (does_run (run_load rfl Tryz.underlying32 rfl (kv (.pointer (some ⟨b21, 0, none⟩))) (HS23.cell 0)) ?_)
 have hq_ := bind_some h; clear h; obtain ⟨vt29, hc30, h⟩ := hq_
 refine seqL1 kr ?_
 refine seqK rfl (does_call (f := 15) (args := #[.agg #[.int .i64 s1.W, .int .i64 s1.H, .slice A2 s1.Bias.length c3, .slice A5 s1.Dark.length c6, .slice A8 s1.Flat.length c9, .int .i64 s1.Full, .int .i64 s1.Gain, .int .i64 s1.Noise], .int .i64 (q11.length : Int)]) kr (sensor_sized.calls k A2 c3 A5 c6 A8 c9 s1 (q11.length : Int) HS23 HR4 HR7 HR10 vt29 hc30) ?_)
 rintro _ W33 ⟨f31, rfl, L32, HS34⟩
 refine ⟨_, rfl, ?_⟩
 refine seqL1 kr ?_
 refine nl (hK28 _ _ ?_)
 refine wp_seq_k fun K35 hK36 => rl ?_
 refine seqL2 kr ?_
 refine nl (hK36 _ _ ?_)
 have hq_ := ite_some h; clear h; rcases hq_ with ⟨c38, h⟩ | ⟨c38, h⟩
 · have c38 : vt29 ≠ 0 := c38
   refine wpRwI 19 (x := (vt29 != 0)) (v := true) kr (bne_iff_ne.mpr c38) ?_
   refine condT kr ?_
   refine wp_seq_k fun K39 hK40 => rl ?_
   refine seqL4 kr ?_
   refine nl (hK40 _ _ ?_)
   refine wp_ret ?_
   refine hret _ _ ?_
   have HS540 := HS34.cons_nil
   refine ends_still (v := Value.tuple #[.slice none 0 0, .int .i64 0, .int .i64 vt29]) kr kr ?_
   have HS542 := HS540.u2
   have HS543 := HS542.u2
   have HS544 := HS543.drop
   have HS545 := HS544.drop
   injection h with h
   injection h with h0_ h
   injection h with h1_ h
   subst h0_ h1_ h
   exact ⟨f31, none, 0, [], rfl, L32, HS545, (Own.nil _)⟩
 · have c38 : ¬ (vt29 ≠ 0) := c38
   refine wpRwI 19 (x := (vt29 != 0)) (v := false) kr (bne_eq_false_iff_eq.mpr (Decidable.of_not_not c38)) ?_
   refine condF kr ?_
   refine wp_skip ?_
   refine hK26 _ _ ?_
   refine wp_seq_k (fun K41 hK42 => ?_)
   refine wp_seq_k fun K43 hK44 => rl ?_
   refine seqK rfl (does_run (run_load rfl Tryz.underlying32 rfl (kv (.pointer (some ⟨b21, 0, none⟩))) (HS34.cell 0)) ?_)
   have hq_ := bind_some h; clear h; obtain ⟨vt45, hc46, h⟩ := hq_
   refine seqK rfl (does_call (f := 16) (args := #[.slice A12 q11.length c13, .int .i64 4294967296]) kr (sensor_outside_Quanta.calls k A12 c13 q11 4294967296 HS34 (HR14.mono L32) vt45 hc46) ?_)
   rintro _ W49 ⟨f47, rfl, L48, HS50⟩
   refine ⟨_, rfl, ?_⟩
   refine nl (hK44 _ _ ?_)
   have hq_ := ite_some h; clear h; rcases hq_ with ⟨c52, h⟩ | ⟨c52, h⟩
   · have c52 : vt45 = true := c52
     refine wpRwI 22 (x := vt45) (v := true) kr c52 ?_
     refine condT kr ?_
     refine wp_seq_k fun K53 hK54 => rl ?_
     refine seqL3 kr ?_
     refine nl (hK54 _ _ ?_)
     refine wp_ret ?_
     refine hret _ _ ?_
     have HS546 := HS50.cons_nil
     refine ends_still (v := Value.tuple #[.slice none 0 0, .int .i64 0, .int .i64 4]) kr kr ?_
     have HS548 := HS546.u2
     have HS549 := HS548.u2
     have HS550 := HS549.drop
     have HS551 := HS550.drop
     injection h with h
     injection h with h0_ h
     injection h with h1_ h
     subst h0_ h1_ h
     exact ⟨f47, none, 0, [], rfl, (L32.trans L48), HS551, (Own.nil _)⟩
   · have c52 : ¬ (vt45 = true) := c52
     refine wpRwI 22 (x := vt45) (v := false) kr (Bool.eq_false_iff.mpr c52) ?_
     refine condF kr ?_
     refine wp_skip ?_
     refine hK42 _ _ ?_
     refine wp_seq_k fun K55 hK56 => rl ?_
     refine seqK rfl (does_run (run_load rfl Tryz.underlying32 rfl (kv (.pointer (some ⟨b21, 0, none⟩))) (HS50.cell 0)) ?_)
     have hq_ := guard_some h; clear h; obtain ⟨c57, h⟩ := hq_
     have c57 : 0 ≤ (q11.length : Int) := c57
     have hq_ := guard_some h; clear h; obtain ⟨c58, h⟩ := hq_
     have c58 : (q11.length : Int) * 8 ≤ 140737488355328 := c58
     refine seqL1 kr ?_
     refine seqK rfl (does_make (e := (tInt .i64)) (E := 28) (u := 0) (n := (q11.length : Int)) rfl (kv (.int .i64 (q11.length : Int))) (kv (.int .i64 (q11.length : Int))) Tryz.underlying32 inf28 c57 c58 (by omega) rfl HS50 ?_)
     intro b59 W60 s61 HS62 HO63
     refine seqL1 kr ?_
     refine nl (hK56 _ _ ?_)
     refine wp_seq_k (fun K65 hK66 => ?_)
     refine wp_seq_k fun K67 hK68 => rl ?_
     refine seqK rfl (does_run (run_load rfl Tryz.underlying32 rfl (kv (.pointer (some ⟨b21, 0, none⟩))) (HS62.u1.cell 0)) ?_)
     refine seqL2 kr ?_
     refine nl (hK68 _ _ ?_)
     refine blockK (fun B69 hx70 hn71 hr72 ho73 hp74 => ?_)
     have hq_ := bind_some h; clear h; obtain ⟨o117, hv172, h⟩ := hq_
     have J173 : ∀ (f163 : FM) (s169 : Seg) (out168 : List Int) (j167 : Nat → Value) (W165 : World) (a_ : Act), FM.le f47 f163 → some (out168) = some o117 → St t W165 f163 (s169 :: [(b21, .cells #[.slice A12 q11.length c13] 32 (0, 0))] :: [(b17, .cells #[.int .i64 s1.W, .int .i64 s1.H, .slice A2 s1.Bias.length c3, .slice A5 s1.Dark.length c6, .slice A8 s1.Flat.length c9, .int .i64 s1.Full, .int .i64 s1.Gain, .int .i64 s1.Noise] 30 (0, 0))] :: H) → Own (tInt .i64) 28 f163 (some ⟨b59, 0, none⟩) ((q11.length : Int)).toNat s169 out168 → out168.length = (List.replicate ((q11.length : Int)).toNat (0 : Int)).length → a_ = ⟨#[(ag_Sensor s1 A2 c3 A5 c6 A8 c9), .slice A12 q11.length c13, pV b17 0, pV b21 0, .slice (some ⟨b59, 0, none⟩) out168.length ((q11.length : Int)).toNat, iV 0, iV 0, iV vt29, (j167 0), (j167 1), uV, uV, uV, uV, (ag_Sensor s1 A2 c3 A5 c6 A8 c9), .slice A12 q11.length c13, iV (q11.length : Int), iV vt29, iV vt29, fV, uV, .slice A12 q11.length c13, fV, .slice A12 q11.length c13, iV (q11.length : Int), (j167 2), .slice A12 q11.length c13, iV (q11.length : Int), (j167 3), (j167 4), (j167 5), (j167 6), (j167 7), (j167 8), (j167 9), (j167 10), (j167 11), (j167 12), (j167 13), (j167 14), (j167 15), uV, uV, uV, uV, uV, uV, uV, uV, uV, uV, uV, uV, uV, uV, uV, uV, uV, uV, uV, uV, uV, uV, uV, uV, uV, uV, uV, uV, uV, uV, uV, uV, uV, uV, uV, uV, uV, uV, uV, uV], []⟩ → K65 a_ W165 := by
      intro f163 s169 out168 j167 W165 a_ L164 hj174 HS166 HO170 HL171 hfr_; subst hfr_
      injection hj174 with hj174; subst hj174; try dsimp only at h
      refine hK66 _ _ ?_
      refine wp_seq_k fun K175 hK176 => rl ?_
      refine seqL1 kr ?_
      refine seqK rfl (does_alloc (z := Value.nilFunc) (cs := #[.nilFunc]) rfl kr rfl HS166 ?_)
      intro b177 W178 HS179
      refine seqK rfl (does_store (n := 1) (vs := [.func (.func 17) #[] #[.pointer (some ⟨b21, 0, none⟩), .pointer (some ⟨b17, 0, none⟩)]]) (cs' := #[.func (.func 17) #[] #[.pointer (some ⟨b21, 0, none⟩), .pointer (some ⟨b17, 0, none⟩)]]) rfl kr (kv (.pointer (some ⟨b177, 0, none⟩))) (kv (.func (.func 17) #[] #[.pointer (some ⟨b21, 0, none⟩), .pointer (some ⟨b17, 0, none⟩)])) rfl rfl (by intro u_ hu_; simp only [List.mem_cons, List.not_mem_nil, or_false] at hu_; subst hu_; rfl) HS179 (Nat.le_of_ble_eq_true rfl) kr ?_)
      intro W181 HS182
      refine nl (hK176 _ _ ?_)
      refine wp_seq_k (fun K183 hK184 => ?_)
      refine wp_seq_k fun K185 hK186 => rl ?_
      refine seqL1 kr ?_
      refine seqK rfl (does_run (run_load rfl Tryz.underlying3 rfl (kv (.pointer (some ⟨b17, 0, none⟩))) (HS182.u3.cell 0)) ?_)
      refine seqL1 kr ?_
      refine nl (hK186 _ _ ?_)
      refine blockK (fun B187 hx188 hn189 hr190 ho191 hp192 => ?_)
      have hq_ := bind_some h; clear h; obtain ⟨o354, hv529, h⟩ := hq_
      have J530 : ∀ (f519 : FM) (s525 : Seg) (out524 : List Int) (lost528 : Int) (j523 : Nat → Value) (W521 : World) (a_ : Act), FM.le f163 f519 → some ((out524, lost528)) = some o354 → St t W521 f519 ([(b177, .cells #[.func (.func 17) #[] #[.pointer (some ⟨b21, 0, none⟩), .pointer (some ⟨b17, 0, none⟩)]] 63 (0, 0))] :: s525 :: [(b21, .cells #[.slice A12 q11.length c13] 32 (0, 0))] :: [(b17, .cells #[.int .i64 s1.W, .int .i64 s1.H, .slice A2 s1.Bias.length c3, .slice A5 s1.Dark.length c6, .slice A8 s1.Flat.length c9, .int .i64 s1.Full, .int .i64 s1.Gain, .int .i64 s1.Noise] 30 (0, 0))] :: H) → Own (tInt .i64) 28 f519 (some ⟨b59, 0, none⟩) ((q11.length : Int)).toNat s525 out524 → out524.length = out168.length → a_ = ⟨#[(ag_Sensor s1 A2 c3 A5 c6 A8 c9), .slice A12 q11.length c13, pV b17 0, pV b21 0, .slice (some ⟨b59, 0, none⟩) out524.length ((q11.length : Int)).toNat, iV lost528, iV 0, iV vt29, (j167 0), (j167 1), pV b177 0, (j523 0), (j523 1), (j523 2), (ag_Sensor s1 A2 c3 A5 c6 A8 c9), .slice A12 q11.length c13, iV (q11.length : Int), iV vt29, iV vt29, fV, uV, .slice A12 q11.length c13, fV, .slice A12 q11.length c13, iV (q11.length : Int), (j167 2), .slice A12 q11.length c13, iV (q11.length : Int), (j167 3), (j167 4), (j167 5), (j167 6), (j167 7), (j167 8), (j167 9), (j167 10), (j167 11), (j167 12), (j167 13), (j167 14), (j167 15), .func (.func 17) #[] #[pV b21 0, pV b17 0], pV b17 0, iV s1.W, (j523 3), (j523 4), (j523 5), (j523 6), (j523 7), (j523 8), (j523 9), (j523 10), (j523 11), (j523 12), (j523 13), (j523 14), (j523 15), (j523 16), (j523 17), (j523 18), (j523 19), (j523 20), (j523 21), (j523 22), (j523 23), (j523 24), (j523 25), (j523 26), (j523 27), (j523 28), (j523 29), (j523 30), (j523 31), (j523 32), (j523 33), (j523 34), (j523 35), (j523 36), (j523 37), uV, uV], []⟩ → K183 a_ W521 := by
       intro f519 s525 out524 lost528 j523 W521 a_ L520 hj531 HS522 HO526 HL527 hfr_; subst hfr_
       injection hj531 with hj531; subst hj531; try dsimp only at h
       refine hK184 _ _ ?_
       refine wp_seq_k fun K538 hK539 => rl ?_
       refine seqL5 kr ?_
       refine nl (hK539 _ _ ?_)
       refine wp_ret ?_
       refine hret _ _ ?_
       refine ends_still (v := Value.tuple #[.slice (some ⟨b59, 0, none⟩) out524.length ((q11.length : Int)).toNat, .int .i64 lost528, .int .i64 0]) kr kr ?_
       have HS552 := HS522.u1
       have HS553 := HS552.u3
       have HS554 := HS553.u3
       have HS555 := HS554.u3
       have HS556 := HS555.drop
       have HS557 := HS556.drop
       have HS558 := HS557.drop
       injection h with h
       injection h with h0_ h
       injection h with h1_ h
       subst h0_ h1_ h
       exact ⟨f519, (some ⟨b59, 0, none⟩), (((q11.length : Int)).toNat), s525, rfl, (L32.trans (L48.trans (L164.trans L520))), HS558, HO526⟩
      clear h; have h := hv529; clear hv529
      refine loopK (fun n_ a_ w_ => ∃ (f358 : FM) (s364 : Seg) (out363 : List Int) (lost367 : Int) (x368 : Int) (j362 : Nat → Value), FM.le f163 f358 ∧ St t w_ f358 ([(b177, .cells #[.func (.func 17) #[] #[.pointer (some ⟨b21, 0, none⟩), .pointer (some ⟨b17, 0, none⟩)]] 63 (0, 0))] :: s364 :: [(b21, .cells #[.slice A12 q11.length c13] 32 (0, 0))] :: [(b17, .cells #[.int .i64 s1.W, .int .i64 s1.H, .slice A2 s1.Bias.length c3, .slice A5 s1.Dark.length c6, .slice A8 s1.Flat.length c9, .int .i64 s1.Full, .int .i64 s1.Gain, .int .i64 s1.Noise] 30 (0, 0))] :: H) ∧ Own (tInt .i64) 28 f358 (some ⟨b59, 0, none⟩) ((q11.length : Int)).toNat s364 out363 ∧ out363.length = out168.length ∧ sensor_Bleed.l1 k s1 q11 n_ out363 lost367 x368 = some o354 ∧ a_ = ⟨#[(ag_Sensor s1 A2 c3 A5 c6 A8 c9), .slice A12 q11.length c13, pV b17 0, pV b21 0, .slice (some ⟨b59, 0, none⟩) out363.length ((q11.length : Int)).toNat, iV lost367, iV 0, iV vt29, (j167 0), (j167 1), pV b177 0, (j362 0), (j362 1), (j362 2), (ag_Sensor s1 A2 c3 A5 c6 A8 c9), .slice A12 q11.length c13, iV (q11.length : Int), iV vt29, iV vt29, fV, uV, .slice A12 q11.length c13, fV, .slice A12 q11.length c13, iV (q11.length : Int), (j167 2), .slice A12 q11.length c13, iV (q11.length : Int), (j167 3), (j167 4), (j167 5), (j167 6), (j167 7), (j167 8), (j167 9), (j167 10), (j167 11), (j167 12), (j167 13), (j167 14), (j167 15), .func (.func 17) #[] #[pV b21 0, pV b17 0], pV b17 0, iV s1.W, iV x368, (j362 3), (j362 4), (j362 5), (j362 6), (j362 7), (j362 8), (j362 9), (j362 10), (j362 11), (j362 12), (j362 13), (j362 14), (j362 15), (j362 16), (j362 17), (j362 18), (j362 19), (j362 20), (j362 21), (j362 22), (j362 23), (j362 24), (j362 25), (j362 26), (j362 27), (j362 28), (j362 29), (j362 30), (j362 31), (j362 32), (j362 33), (j362 34), (j362 35), (j362 36), uV, uV], []⟩) k ⟨f163, s169, out168, 0, 0, (fun i_ => [undef, undef, undef, undef, undef, undef, undef, undef, undef, undef, undef, undef, undef, undef, undef, undef, undef, undef, undef, undef, undef, undef, undef, undef, undef, undef, undef, undef, undef, undef, undef, undef, undef, undef, undef, undef, undef].getD i_ undef), (FM.le.refl _), HS182, HO170, rfl, h, kr⟩ ?_
      clear h
      rintro n357 _ W360 ⟨f358, s364, out363, lost367, x368, j362, L359, HS361, HO365, HL366, h, rfl⟩ K355 hK356
      obtain _ | n357 := n357
      · exact nomatch h
      simp only [sensor_Bleed.l1] at h
      refine wp_seq_k fun K369 hK370 => rl ?_
      refine seqL1 kr ?_
      refine nl (hK370 _ _ ?_)
      refine wp_seq_k (fun K371 hK372 => ?_)
      have hq_ := ite_some h; clear h; rcases hq_ with ⟨c374, h⟩ | ⟨c374, h⟩
      · have c374 : x368 < s1.W := c374
        refine wpRwI 45 (x := (decide (x368 < s1.W))) (v := true) kr (decide_eq_true c374) ?_
        refine condT kr ?_
        refine wp_skip ?_
        refine hK372 _ _ ?_
        refine wp_seq_k (fun K375 hK376 => ?_)
        refine blockK (fun B377 hx378 hn379 hr380 ho381 hp382 => ?_)
        refine wp_seq_k fun K384 hK385 => rl ?_
        refine seqL2 kr ?_
        refine nl (hK385 _ _ ?_)
        refine wp_seq_k fun K386 hK387 => rl ?_
        refine seqL1 kr ?_
        refine nl (hK387 _ _ ?_)
        refine wp_seq_k (fun K388 hK389 => ?_)
        refine wp_seq_k fun K390 hK391 => rl ?_
        refine seqL1 kr ?_
        refine seqK rfl (does_run (run_load rfl Tryz.underlying3 rfl (kv (.pointer (some ⟨b17, 1, none⟩))) (HS361.u3.cell 1)) ?_)
        refine seqL1 kr ?_
        refine nl (hK391 _ _ ?_)
        refine blockK (fun B392 hx393 hn394 hr395 ho396 hp397 => ?_)
        have hq_ := bind_some h; clear h; obtain ⟨o398, hv457, h⟩ := hq_
        have J458 : ∀ (f446 : FM) (A452 : Option Addr) (c453 : Nat) (s454 : Seg) (column451 : List Int) (j450 : Nat → Value) (W448 : World) (a_ : Act), FM.le f358 f446 → some (column451) = some o398 → St t W448 f446 (s454 :: [(b177, .cells #[.func (.func 17) #[] #[.pointer (some ⟨b21, 0, none⟩), .pointer (some ⟨b17, 0, none⟩)]] 63 (0, 0))] :: s364 :: [(b21, .cells #[.slice A12 q11.length c13] 32 (0, 0))] :: [(b17, .cells #[.int .i64 s1.W, .int .i64 s1.H, .slice A2 s1.Bias.length c3, .slice A5 s1.Dark.length c6, .slice A8 s1.Flat.length c9, .int .i64 s1.Full, .int .i64 s1.Gain, .int .i64 s1.Noise] 30 (0, 0))] :: H) → Own (tInt .i64) 3 f446 A452 c453 s454 column451 → a_ = ⟨#[(ag_Sensor s1 A2 c3 A5 c6 A8 c9), .slice A12 q11.length c13, pV b17 0, pV b21 0, .slice (some ⟨b59, 0, none⟩) out363.length ((q11.length : Int)).toNat, iV lost367, iV 0, iV vt29, (j167 0), (j167 1), pV b177 0, iV x368, .slice A452 column451.length c453, (j450 0), (ag_Sensor s1 A2 c3 A5 c6 A8 c9), .slice A12 q11.length c13, iV (q11.length : Int), iV vt29, iV vt29, fV, uV, .slice A12 q11.length c13, fV, .slice A12 q11.length c13, iV (q11.length : Int), (j167 2), .slice A12 q11.length c13, iV (q11.length : Int), (j167 3), (j167 4), (j167 5), (j167 6), (j167 7), (j167 8), (j167 9), (j167 10), (j167 11), (j167 12), (j167 13), (j167 14), (j167 15), .func (.func 17) #[] #[pV b21 0, pV b17 0], pV b17 0, iV s1.W, iV x368, tV, iV x368, pV b17 1, iV s1.H, (j450 1), (j450 2), (j450 3), (j450 4), (j450 5), (j450 6), (j450 7), (j450 8), (j450 9), (j450 10), (j450 11), (j450 12), (j450 13), (j362 20), (j362 21), (j362 22), (j362 23), (j362 24), (j362 25), (j362 26), (j362 27), (j362 28), (j362 29), (j362 30), (j362 31), (j362 32), (j362 33), (j362 34), (j362 35), (j362 36), uV, uV], []⟩ → K388 a_ W448 := by
         intro f446 A452 c453 s454 column451 j450 W448 a_ L447 hj459 HS449 HO455 hfr_; subst hfr_
         injection hj459 with hj459; subst hj459; try dsimp only at h
         refine hK389 _ _ ?_
         refine wp_seq_k fun K462 hK463 => rl ?_
         refine seqL1 kr ?_
         refine seqK rfl (does_run (run_loadN (n := 8) rfl Tryz.underlying30 rfl kr (kv (.pointer (some ⟨b17, 0, none⟩))) (cs := [.int .i64 s1.W, .int .i64 s1.H, .slice A2 s1.Bias.length c3, .slice A5 s1.Dark.length c6, .slice A8 s1.Flat.length c9, .int .i64 s1.Full, .int .i64 s1.Gain, .int .i64 s1.Noise]) rfl (HS449.u4.cells 0 8 _ rfl)) ?_)
         obtain ⟨f464, L465, HS466, HR467, th468⟩ := HO455.lend HS449
         have HS469 := HS466.u1
         have HS470 := HS469.u3
         have HS471 := HS470.u3
         have HS472 := HS471.u3
         have hq_ := bind_some h; clear h; obtain ⟨⟨vt473, vt474⟩, hc475, h⟩ := hq_
         refine seqL3 kr ?_
         refine seqK rfl (does_call (f := 18) (args := #[.agg #[.int .i64 s1.W, .int .i64 s1.H, .slice A2 s1.Bias.length c3, .slice A5 s1.Dark.length c6, .slice A8 s1.Flat.length c9, .int .i64 s1.Full, .int .i64 s1.Gain, .int .i64 s1.Noise], .slice (some ⟨b59, 0, none⟩) out363.length ((q11.length : Int)).toNat, .slice A452 column451.length c453, .func (.func 19) #[] #[.pointer (some ⟨b177, 0, none⟩)]]) kr (sensor_pour__sensor_Bleed_2.calls k b177 b21 A12 c13 b17 A2 c3 A5 c6 A8 c9 A2 c3 A5 c6 A8 c9 (some ⟨b59, 0, none⟩) (((q11.length : Int)).toNat) s364 A452 c453 q11 s1 s1 out363 column451 HS472 (HR14.mono (L32.trans (L48.trans (L164.trans (L359.trans (L447.trans L465)))))) (HR4.mono (L32.trans (L48.trans (L164.trans (L359.trans (L447.trans L465)))))) (HR7.mono (L32.trans (L48.trans (L164.trans (L359.trans (L447.trans L465)))))) (HR10.mono (L32.trans (L48.trans (L164.trans (L359.trans (L447.trans L465)))))) (HR4.mono (L32.trans (L48.trans (L164.trans (L359.trans (L447.trans L465)))))) (HR7.mono (L32.trans (L48.trans (L164.trans (L359.trans (L447.trans L465)))))) (HR10.mono (L32.trans (L48.trans (L164.trans (L359.trans (L447.trans L465)))))) (HO365.mono (L447.trans L465)) HR467 vt473 vt474 hc475) ?_)
         rintro _ W478 ⟨f476, s480, rfl, L477, HS479, HO481, HL482⟩
         refine ⟨_, rfl, ?_⟩
         obtain ⟨f483, L484, HS485⟩ := th468 L477 HS479
         replace HO481 := HO481.flat (g := f483) (fun _ _ _ _ h_ => h_)
         refine seqRwS 4 (A := (some ⟨b59, 0, none⟩)) (m := out363.length) (n := vt474.length) (c := ((q11.length : Int)).toNat) kr (HL482).symm ?_
         refine seqRwS 64 (A := (some ⟨b59, 0, none⟩)) (m := out363.length) (n := vt474.length) (c := ((q11.length : Int)).toNat) kr (HL482).symm ?_
         refine seqL2 kr ?_
         refine nl (hK463 _ _ ?_)
         refine wp_seq_k fun K486 hK487 => rl ?_
         have hq_ := bind_some h; clear h; obtain ⟨vt488, hc489, h⟩ := hq_
         refine seqL1 kr ?_
         refine seqK rfl (does_call (f := 20) (args := #[.slice A452 column451.length c453]) kr (slices_Reverse_int.calls k A452 c453 s454 column451 HS485 (HO455.mono L484) vt488 hc489) ?_)
         rintro _ W492 ⟨f490, s494, rfl, L491, HS493, HO495, HL496⟩
         refine ⟨_, rfl, ?_⟩
         refine seqRwS 12 (A := A452) (m := column451.length) (n := vt488.length) (c := c453) kr (HL496).symm ?_
         refine seqRwS 65 (A := A452) (m := column451.length) (n := vt488.length) (c := c453) kr (HL496).symm ?_
         refine seqRwS 69 (A := A452) (m := column451.length) (n := vt488.length) (c := c453) kr (HL496).symm ?_
         refine nl (hK487 _ _ ?_)
         refine rl ?_
         refine seqL1 kr ?_
         refine seqK rfl (does_run (run_loadN (n := 8) rfl Tryz.underlying30 rfl kr (kv (.pointer (some ⟨b17, 0, none⟩))) (cs := [.int .i64 s1.W, .int .i64 s1.H, .slice A2 s1.Bias.length c3, .slice A5 s1.Dark.length c6, .slice A8 s1.Flat.length c9, .int .i64 s1.Full, .int .i64 s1.Gain, .int .i64 s1.Noise]) rfl (HS493.u3.cells 0 8 _ rfl)) ?_)
         obtain ⟨f497, L498, HS499, HR500, th501⟩ := HO495.lend HS493
         have HS502 := HS499.u3
         have HS503 := HS502.u3
         have HS504 := HS503.u3
         have HS505 := HS504.u3
         have hq_ := bind_some h; clear h; obtain ⟨⟨vt506, vt507⟩, hc508, h⟩ := hq_
         refine seqL3 kr ?_
         refine seqK rfl (does_call (f := 18) (args := #[.agg #[.int .i64 s1.W, .int .i64 s1.H, .slice A2 s1.Bias.length c3, .slice A5 s1.Dark.length c6, .slice A8 s1.Flat.length c9, .int .i64 s1.Full, .int .i64 s1.Gain, .int .i64 s1.Noise], .slice (some ⟨b59, 0, none⟩) vt474.length ((q11.length : Int)).toNat, .slice A452 vt488.length c453, .func (.func 21) #[] #[.pointer (some ⟨b177, 0, none⟩)]]) kr (sensor_pour__sensor_Bleed_3.calls k b177 b21 A12 c13 b17 A2 c3 A5 c6 A8 c9 A2 c3 A5 c6 A8 c9 (some ⟨b59, 0, none⟩) (((q11.length : Int)).toNat) s480 A452 c453 q11 s1 s1 vt474 vt488 HS505 (HR14.mono (L32.trans (L48.trans (L164.trans (L359.trans (L447.trans (L484.trans (L491.trans L498)))))))) (HR4.mono (L32.trans (L48.trans (L164.trans (L359.trans (L447.trans (L484.trans (L491.trans L498)))))))) (HR7.mono (L32.trans (L48.trans (L164.trans (L359.trans (L447.trans (L484.trans (L491.trans L498)))))))) (HR10.mono (L32.trans (L48.trans (L164.trans (L359.trans (L447.trans (L484.trans (L491.trans L498)))))))) (HR4.mono (L32.trans (L48.trans (L164.trans (L359.trans (L447.trans (L484.trans (L491.trans L498)))))))) (HR7.mono (L32.trans (L48.trans (L164.trans (L359.trans (L447.trans (L484.trans (L491.trans L498)))))))) (HR10.mono (L32.trans (L48.trans (L164.trans (L359.trans (L447.trans (L484.trans (L491.trans L498)))))))) (HO481.mono (L491.trans L498)) HR500 vt506 vt507 hc508) ?_)
         rintro _ W511 ⟨f509, s513, rfl, L510, HS512, HO514, HL515⟩
         refine ⟨_, rfl, ?_⟩
         obtain ⟨f516, L517, HS518⟩ := th501 L510 HS512
         replace HO514 := HO514.flat (g := f516) (fun _ _ _ _ h_ => h_)
         refine seqRwS 4 (A := (some ⟨b59, 0, none⟩)) (m := vt474.length) (n := vt507.length) (c := ((q11.length : Int)).toNat) kr (HL515).symm ?_
         refine seqRwS 64 (A := (some ⟨b59, 0, none⟩)) (m := vt474.length) (n := vt507.length) (c := ((q11.length : Int)).toNat) kr (HL515).symm ?_
         refine seqRwS 73 (A := (some ⟨b59, 0, none⟩)) (m := vt474.length) (n := vt507.length) (c := ((q11.length : Int)).toNat) kr (HL515).symm ?_
         refine seqL2 kr ?_
         refine nl ?_
         refine hn379 _ _ ?_
         refine hK376 _ _ ?_
         refine rl ?_
         refine seqL2 kr ?_
         refine nl ?_
         refine hK356 n357 _ _ (Nat.lt_succ_self _) ?_
         have HS532 := HS518.u3
         have HS533 := HS532.u3
         have HS534 := HS533.u4
         have HS535 := HS534.u4
         have HS536 := HS535.u4
         have HS537 := HS536.drop
         exact ⟨f516, s513, vt507, (w64 ((w64 (lost367 + vt473)) + vt506)), (w64 (x368 + 1)), (fun i_ => [Value.int .i64 x368, Value.slice A452 vt488.length c453, (j450 0), Value.bool true, Value.int .i64 x368, Value.pointer (some ⟨b17, 1, none⟩), Value.int .i64 s1.H, (j450 1), (j450 2), (j450 3), (j450 4), (j450 5), (j450 6), (j450 7), (j450 8), (j450 9), (j450 10), (j450 11), (j450 12), (j450 13), Value.int .i64 lost367, (ag_Sensor s1 A2 c3 A5 c6 A8 c9), Value.slice (some ⟨b59, 0, none⟩) vt507.length ((q11.length : Int)).toNat, Value.slice A452 vt488.length c453, Value.func (.func 19) #[] #[.pointer (some ⟨b177, 0, none⟩)], Value.int .i64 vt473, Value.int .i64 (w64 (lost367 + vt473)), Value.slice A452 vt488.length c453, Value.tuple #[], Value.int .i64 (w64 (lost367 + vt473)), (ag_Sensor s1 A2 c3 A5 c6 A8 c9), Value.slice (some ⟨b59, 0, none⟩) vt507.length ((q11.length : Int)).toNat, Value.slice A452 vt488.length c453, Value.func (.func 21) #[] #[.pointer (some ⟨b177, 0, none⟩)], Value.int .i64 vt506, Value.int .i64 (w64 ((w64 (lost367 + vt473)) + vt506)), Value.int .i64 (w64 (x368 + 1))].getD i_ undef), (L359.trans (L447.trans (L484.trans (L491.trans L517)))), HS537, HO514, (HL515.trans (HL482.trans HL366)), h, kr⟩
        clear h; have h := hv457; clear hv457
        have HS460 := HS361.cons_nil
        refine loopK (fun n_ a_ w_ => ∃ (f402 : FM) (A408 : Option Addr) (c409 : Nat) (s410 : Seg) (column407 : List Int) (x413 : Int) (j406 : Nat → Value), FM.le f358 f402 ∧ St t w_ f402 (s410 :: [(b177, .cells #[.func (.func 17) #[] #[.pointer (some ⟨b21, 0, none⟩), .pointer (some ⟨b17, 0, none⟩)]] 63 (0, 0))] :: s364 :: [(b21, .cells #[.slice A12 q11.length c13] 32 (0, 0))] :: [(b17, .cells #[.int .i64 s1.W, .int .i64 s1.H, .slice A2 s1.Bias.length c3, .slice A5 s1.Dark.length c6, .slice A8 s1.Flat.length c9, .int .i64 s1.Full, .int .i64 s1.Gain, .int .i64 s1.Noise] 30 (0, 0))] :: H) ∧ Own (tInt .i64) 3 f402 A408 c409 s410 column407 ∧ sensor_Bleed.l2 k s1 x368 n_ column407 x413 = some o398 ∧ a_ = ⟨#[(ag_Sensor s1 A2 c3 A5 c6 A8 c9), .slice A12 q11.length c13, pV b17 0, pV b21 0, .slice (some ⟨b59, 0, none⟩) out363.length ((q11.length : Int)).toNat, iV lost367, iV 0, iV vt29, (j167 0), (j167 1), pV b177 0, iV x368, .slice A408 column407.length c409, (j406 0), (ag_Sensor s1 A2 c3 A5 c6 A8 c9), .slice A12 q11.length c13, iV (q11.length : Int), iV vt29, iV vt29, fV, uV, .slice A12 q11.length c13, fV, .slice A12 q11.length c13, iV (q11.length : Int), (j167 2), .slice A12 q11.length c13, iV (q11.length : Int), (j167 3), (j167 4), (j167 5), (j167 6), (j167 7), (j167 8), (j167 9), (j167 10), (j167 11), (j167 12), (j167 13), (j167 14), (j167 15), .func (.func 17) #[] #[pV b21 0, pV b17 0], pV b17 0, iV s1.W, iV x368, tV, iV x368, pV b17 1, iV s1.H, iV x413, (j406 1), (j406 2), (j406 3), (j406 4), (j406 5), (j406 6), (j406 7), (j406 8), (j406 9), (j406 10), (j406 11), (j406 12), (j362 20), (j362 21), (j362 22), (j362 23), (j362 24), (j362 25), (j362 26), (j362 27), (j362 28), (j362 29), (j362 30), (j362 31), (j362 32), (j362 33), (j362 34), (j362 35), (j362 36), uV, uV], []⟩) k ⟨f358, none, 0, [], ([] : List Int), 0, (fun i_ => [(j362 2), (j362 8), (j362 9), (j362 10), (j362 11), (j362 12), (j362 13), (j362 14), (j362 15), (j362 16), (j362 17), (j362 18), (j362 19)].getD i_ undef), (FM.le.refl _), HS460, (Own.nil _), h, kr⟩ ?_
        clear h
        rintro n401 _ W404 ⟨f402, A408, c409, s410, column407, x413, j406, L403, HS405, HO411, h, rfl⟩ K399 hK400
        obtain _ | n401 := n401
        · exact nomatch h
        simp only [sensor_Bleed.l2] at h
        refine wp_seq_k fun K414 hK415 => rl ?_
        refine seqL1 kr ?_
        refine nl (hK415 _ _ ?_)
        refine wp_seq_k (fun K416 hK417 => ?_)
        have hq_ := ite_some h; clear h; rcases hq_ with ⟨c419, h⟩ | ⟨c419, h⟩
        · have c419 : x413 < s1.H := c419
          refine wpRwI 50 (x := (decide (x413 < s1.H))) (v := true) kr (decide_eq_true c419) ?_
          refine condT kr ?_
          refine wp_skip ?_
          refine hK417 _ _ ?_
          refine wp_seq_k (fun K420 hK421 => ?_)
          refine blockK (fun B422 hx423 hn424 hr425 ho426 hp427 => ?_)
          refine wp_seq_k fun K429 hK430 => rl ?_
          refine seqL2 kr ?_
          refine nl (hK430 _ _ ?_)
          refine rl ?_
          refine seqL3 kr ?_
          refine seqK rfl (does_run (run_load rfl Tryz.underlying3 rfl (kv (.pointer (some ⟨b17, 0, none⟩))) (HS405.u4.cell 0)) ?_)
          refine seqL3 kr ?_
          refine seqK rfl (does_lit (e := (tInt .i64)) (E := 3) (vs := #[(0, Value.int .i64 (w64 ((w64 (x413 * s1.W)) + x368)))]) (cs := #[.int .i64 (w64 ((w64 (x413 * s1.W)) + x368))]) (xs := ([w64 ((w64 (x413 * s1.W)) + x368)] : List Int)) rfl Tryz.underlying22 kr kr ⟨[.int .i64 (w64 ((w64 (x413 * s1.W)) + x368))], _, rfl, rfl, rfl⟩ rfl HS405 ?_ (by decide))
          intro b431 W432 s433 HS434 _ HO435
          have hq_ := guard_some h; clear h; obtain ⟨c437, h⟩ := hq_
          have c437 : (column407.length + 1) * 8 ≤ 140737488355328 := c437
          have HS438 := HS434.u1
          have HS439 := HS438.u1
          refine seqK rfl (does_append1 (e := (tInt .i64)) (E := 3) (xs := column407) (ys := ([w64 ((w64 (x413 * s1.W)) + x368)] : List Int)) rfl (kv (.slice A408 column407.length c409)) (kv (.slice (some ⟨b431, 0, none⟩) ([w64 ((w64 (x413 * s1.W)) + x368)] : List Int).length 1)) Tryz.underlying22 inf3 HO411 HO435 HS439 c437 (lim63 c437 (by decide)) ?_)
          intro A440 c441 s442 W443 HS444 HO445
          refine seqL1 kr ?_
          refine nl ?_
          refine hn424 _ _ ?_
          refine hK421 _ _ ?_
          refine rl ?_
          refine seqL2 kr ?_
          refine nl ?_
          refine hK400 n401 _ _ (Nat.lt_succ_self _) ?_
          exact ⟨f402, A440, c441, s442, (column407 ++ ([w64 ((w64 (x413 * s1.W)) + x368)] : List Int)), (w64 (x413 + 1)), (fun i_ => [Value.int .i64 x413, Value.bool true, Value.int .i64 x413, Value.slice A408 column407.length c409, Value.int .i64 x413, Value.pointer (some ⟨b17, 0, none⟩), Value.int .i64 s1.W, Value.int .i64 (w64 (x413 * s1.W)), Value.int .i64 x368, Value.int .i64 (w64 ((w64 (x413 * s1.W)) + x368)), Value.slice (some ⟨b431, 0, none⟩) ([w64 ((w64 (x413 * s1.W)) + x368)] : List Int).length 1, Value.slice A440 (column407 ++ ([w64 ((w64 (x413 * s1.W)) + x368)] : List Int)).length c441, Value.int .i64 (w64 (x413 + 1))].getD i_ undef), L403, HS444, HO445, h, kr⟩
        · have c419 : ¬ (x413 < s1.H) := c419
          refine wpRwI 50 (x := (decide (x413 < s1.H))) (v := false) kr (decide_eq_false c419) ?_
          refine condF kr ?_
          refine wp_exit ?_
          refine hx393 _ _ ?_
          exact J458 f402 A408 c409 s410 column407 (fun i_ => [(j406 0), Value.int .i64 x413, Value.bool false, (j406 2), (j406 3), (j406 4), (j406 5), (j406 6), (j406 7), (j406 8), (j406 9), (j406 10), (j406 11), (j406 12)].getD i_ undef) W404 _ L403 h HS405 HO411 kr
      · have c374 : ¬ (x368 < s1.W) := c374
        refine wpRwI 45 (x := (decide (x368 < s1.W))) (v := false) kr (decide_eq_false c374) ?_
        refine condF kr ?_
        refine wp_exit ?_
        refine hx188 _ _ ?_
        exact J530 f358 s364 out363 lost367 (fun i_ => [(j362 0), (j362 1), (j362 2), Value.int .i64 x368, Value.bool false, (j362 4), (j362 5), (j362 6), (j362 7), (j362 8), (j362 9), (j362 10), (j362 11), (j362 12), (j362 13), (j362 14), (j362 15), (j362 16), (j362 17), (j362 18), (j362 19), (j362 20), (j362 21), (j362 22), (j362 23), (j362 24), (j362 25), (j362 26), (j362 27), (j362 28), (j362 29), (j362 30), (j362 31), (j362 32), (j362 33), (j362 34), (j362 35), (j362 36)].getD i_ undef) W360 _ L359 h HS361 HO365 HL366 kr
     clear h; have h := hv172; clear hv172
     refine loopK (fun n_ a_ w_ => ∃ (f121 : FM) (s127 : Seg) (out126 : List Int) (x130 : Int) (j125 : Nat → Value), FM.le f47 f121 ∧ St t w_ f121 (s127 :: [(b21, .cells #[.slice A12 q11.length c13] 32 (0, 0))] :: [(b17, .cells #[.int .i64 s1.W, .int .i64 s1.H, .slice A2 s1.Bias.length c3, .slice A5 s1.Dark.length c6, .slice A8 s1.Flat.length c9, .int .i64 s1.Full, .int .i64 s1.Gain, .int .i64 s1.Noise] 30 (0, 0))] :: H) ∧ Own (tInt .i64) 28 f121 (some ⟨b59, 0, none⟩) ((q11.length : Int)).toNat s127 out126 ∧ out126.length = (List.replicate ((q11.length : Int)).toNat (0 : Int)).length ∧ sensor_Bleed.l0 k q11 s1 n_ out126 x130 = some o117 ∧ a_ = ⟨#[(ag_Sensor s1 A2 c3 A5 c6 A8 c9), .slice A12 q11.length c13, pV b17 0, pV b21 0, .slice (some ⟨b59, 0, none⟩) out126.length ((q11.length : Int)).toNat, iV 0, iV 0, iV vt29, (j125 0), (j125 1), uV, uV, uV, uV, (ag_Sensor s1 A2 c3 A5 c6 A8 c9), .slice A12 q11.length c13, iV (q11.length : Int), iV vt29, iV vt29, fV, uV, .slice A12 q11.length c13, fV, .slice A12 q11.length c13, iV (q11.length : Int), .slice (some ⟨b59, 0, none⟩) (List.replicate ((q11.length : Int)).toNat (0 : Int)).length ((q11.length : Int)).toNat, .slice A12 q11.length c13, iV (q11.length : Int), iV x130, (j125 2), (j125 3), (j125 4), (j125 5), (j125 6), (j125 7), (j125 8), (j125 9), (j125 10), (j125 11), (j125 12), (j125 13), uV, uV, uV, uV, uV, uV, uV, uV, uV, uV, uV, uV, uV, uV, uV, uV, uV, uV, uV, uV, uV, uV, uV, uV, uV, uV, uV, uV, uV, uV, uV, uV, uV, uV, uV, uV, uV, uV, uV, uV], []⟩) k ⟨f47, s61, (List.replicate ((q11.length : Int)).toNat (0 : Int)), 0, (fun i_ => [undef, undef, undef, undef, undef, undef, undef, undef, undef, undef, undef, undef, undef, undef].getD i_ undef), (FM.le.refl _), HS62, HO63, rfl, h, kr⟩ ?_
     clear h
     rintro n120 _ W123 ⟨f121, s127, out126, x130, j125, L122, HS124, HO128, HL129, h, rfl⟩ K118 hK119
     obtain _ | n120 := n120
     · exact nomatch h
     simp only [sensor_Bleed.l0] at h
     refine wp_seq_k fun K131 hK132 => rl ?_
     refine seqL1 kr ?_
     refine nl (hK132 _ _ ?_)
     refine wp_seq_k (fun K133 hK134 => ?_)
     have hq_ := ite_some h; clear h; rcases hq_ with ⟨c136, h⟩ | ⟨c136, h⟩
     · have c136 : x130 < (q11.length : Int) := c136
       refine wpRwI 29 (x := (decide (x130 < (q11.length : Int)))) (v := true) kr (decide_eq_true c136) ?_
       refine condT kr ?_
       refine wp_skip ?_
       refine hK134 _ _ ?_
       refine wp_seq_k (fun K137 hK138 => ?_)
       refine blockK (fun B139 hx140 hn141 hr142 ho143 hp144 => ?_)
       refine wp_seq_k fun K146 hK147 => rl ?_
       have hq_ := guard_some h; clear h; obtain ⟨c148, h⟩ := hq_
       have c148 : 0 ≤ x130 := c148
       obtain ⟨b152, of153, cs149, hA154, hr150, hc151⟩ := (HR14.mono (L32.trans (L48.trans L122))).at (i := x130) c148 c136
       obtain rfl := hr150
       refine seqL1 kr ?_
       refine seqK rfl (does_run (run_indexE hA154 (sz := 1) rfl Tryz.underlying32 kr (kv (.slice A12 q11.length c13)) (kv (.int .i64 x130)) c148 c136 W123) ?_)
       refine seqK rfl (does_run (run_load rfl Tryz.underlying28 rfl (kv (.pointer (some ⟨b152, of153 + (x130 : Int).toNat * 1, none⟩))) ((hc151 (FM.le.refl _) HS124) 0 (by decide))) ?_)
       refine seqL2 kr ?_
       refine nl (hK147 _ _ ?_)
       refine rl ?_
       refine seqL4 kr ?_
       refine seqK rfl (does_run (run_load rfl Tryz.underlying28 rfl (kv (.pointer (some ⟨b17, 5, none⟩))) (HS124.u2.cell 5)) ?_)
       have hq_ := guard_some h; clear h; obtain ⟨c155, h⟩ := hq_
       have c155 : x130 < (out126.length : Int) := c155
       obtain ⟨cs156, hr157, hc158⟩ := HO128.at' (i := x130) c148 c155
       obtain rfl := hr157
       refine seqL1 kr ?_
       refine seqK rfl (does_run (run_index (sz := 1) rfl Tryz.underlying32 kr (kv (.slice (some ⟨b59, 0, none⟩) out126.length ((q11.length : Int)).toNat)) (kv (.int .i64 x130)) c148 c155 W123) ?_)
       refine seqK rfl (does_put (e := (tInt .i64)) (E := 28) (vs := [.int .i64 (mn (rd q11 x130) s1.Full)]) (u := mn (rd q11 x130) s1.Full) (i := x130) rfl kr HO128 HS124 rfl (kv (.pointer (some ⟨b59, 0 + (x130 : Int).toNat * 1, none⟩))) (kv (.int .i64 (mn (rd q11 x130) s1.Full))) rfl rfl c148 c155 ?_)
       intro W159 s160 HS161 HO162
       refine seqRwS 4 (A := (some ⟨b59, 0, none⟩)) (m := out126.length) (n := (out126.set (x130).toNat (mn (rd q11 x130) s1.Full)).length) (c := ((q11.length : Int)).toNat) kr (List.length_set).symm ?_
       refine seqRwS 33 (A := (some ⟨b59, 0, none⟩)) (m := out126.length) (n := (out126.set (x130).toNat (mn (rd q11 x130) s1.Full)).length) (c := ((q11.length : Int)).toNat) kr (List.length_set).symm ?_
       refine nl ?_
       refine hn141 _ _ ?_
       refine hK138 _ _ ?_
       refine rl ?_
       refine seqL2 kr ?_
       refine nl ?_
       refine hK119 n120 _ _ (Nat.lt_succ_self _) ?_
       exact ⟨f121, s160, (out126.set (x130).toNat (mn (rd q11 x130) s1.Full)), (w64 (x130 + 1)), (fun i_ => [Value.int .i64 x130, Value.int .i64 (rd q11 x130), Value.bool true, Value.int .i64 x130, Value.pointer (some ⟨b152, of153 + (x130 : Int).toNat * 1, none⟩), Value.int .i64 (rd q11 x130), Value.slice (some ⟨b59, 0, none⟩) (out126.set (x130).toNat (mn (rd q11 x130) s1.Full)).length ((q11.length : Int)).toNat, Value.int .i64 x130, Value.int .i64 (rd q11 x130), Value.pointer (some ⟨b17, 5, none⟩), Value.int .i64 s1.Full, Value.int .i64 (mn (rd q11 x130) s1.Full), Value.pointer (some ⟨b59, 0 + (x130 : Int).toNat * 1, none⟩), Value.int .i64 (w64 (x130 + 1))].getD i_ undef), L122, HS161, HO162, (List.length_set.trans HL129), h, kr⟩
     · have c136 : ¬ (x130 < (q11.length : Int)) := c136
       refine wpRwI 29 (x := (decide (x130 < (q11.length : Int)))) (v := false) kr (decide_eq_false c136) ?_
       refine condF kr ?_
       refine wp_exit ?_
       refine hx70 _ _ ?_
       exact J173 f121 s127 out126 (fun i_ => [(j125 0), (j125 1), Value.slice (some ⟨b59, 0, none⟩) (List.replicate ((q11.length : Int)).toNat (0 : Int)).length ((q11.length : Int)).toNat, Value.int .i64 x130, Value.bool false, (j125 3), (j125 4), (j125 5), (j125 6), (j125 7), (j125 8), (j125 9), (j125 10), (j125 11), (j125 12), (j125 13)].getD i_ undef) W123 _ L122 h HS124 HO128 HL129 kr

set_option maxRecDepth 100000 in
set_option maxHeartbeats 4000000 in
theorem quanta_Mix.calls (k : Nat)  (seed1 : Int) (n2 : Int) {t w : World} {f : FM} {H : List Seg} (HS : St t w f (H)) (rr1 : Int) (h : quanta_Mix k seed1 n2 = some rr1) :
    Calls Tryz.prog 23 #[.int .u64 seed1, .int .i64 n2] w (fun e w' => ∃ (g : FM), e = .returned (Value.int .u64 rr1) ∧ FM.le f g ∧ St t w' g (H)) := by
 unfold quanta_Mix at h
 refine enter Tryz.func23 rfl (tm := #[.int .u64 seed1, iV n2, uV, uV, uV, uV, uV, uV, uV, uV, uV, uV, uV, uV, uV, uV, uV, uV, uV, uV, uV, uV, uV, uV, uV, uV]) kr ?_
 intro B hret hnor hnp
 refine wp_seq_k fun K3 hK4 => rl ?_
 refine seqL1 kr ?_
 refine nl (hK4 _ _ ?_)
 refine wp_seq_k fun K5 hK6 => rl ?_
 refine seqL7 kr ?_
 refine nl (hK6 _ _ ?_)
 refine wp_seq_k fun K7 hK8 => rl ?_
 refine seqL6 kr ?_
 refine nl (hK8 _ _ ?_)
 refine wp_seq_k fun K9 hK10 => rl ?_
 refine seqL6 kr ?_
 refine nl (hK10 _ _ ?_)
 refine wp_seq_k fun K11 hK12 => rl ?_
 refine seqL5 kr ?_
 refine nl (hK12 _ _ ?_)
 refine wp_ret ?_
 refine hret _ _ ?_
 refine ends_still (v := Value.int .u64 (Go.bits .xor .u64 (u64 ((Go.bits .xor .u64 (u64 ((Go.bits .xor .u64 (u64 (seed1 + (u64 ((u64 (w64 (n2 + 1))) * 11400714819323198485)))) (shr (u64 (seed1 + (u64 ((u64 (w64 (n2 + 1))) * 11400714819323198485)))) 30)) * 13787848793156543929)) (shr (u64 ((Go.bits .xor .u64 (u64 (seed1 + (u64 ((u64 (w64 (n2 + 1))) * 11400714819323198485)))) (shr (u64 (seed1 + (u64 ((u64 (w64 (n2 + 1))) * 11400714819323198485)))) 30)) * 13787848793156543929)) 27)) * 10723151780598845931)) (shr (u64 ((Go.bits .xor .u64 (u64 ((Go.bits .xor .u64 (u64 (seed1 + (u64 ((u64 (w64 (n2 + 1))) * 11400714819323198485)))) (shr (u64 (seed1 + (u64 ((u64 (w64 (n2 + 1))) * 11400714819323198485)))) 30)) * 13787848793156543929)) (shr (u64 ((Go.bits .xor .u64 (u64 (seed1 + (u64 ((u64 (w64 (n2 + 1))) * 11400714819323198485)))) (shr (u64 (seed1 + (u64 ((u64 (w64 (n2 + 1))) * 11400714819323198485)))) 30)) * 13787848793156543929)) 27)) * 10723151780598845931)) 31))) kr kr ?_
 injection h with h
 subst h
 exact ⟨f, rfl, FM.le.refl _, HS⟩

set_option maxRecDepth 100000 in
set_option maxHeartbeats 4000000 in
theorem bits_Mul64.calls (k : Nat)  (x1 : Int) (y2 : Int) {t w : World} {f : FM} {H : List Seg} (HS : St t w f (H)) (rr1 : Int) (rr2 : Int) (h : bits_Mul64 k x1 y2 = some (rr1, rr2)) :
    Calls Tryz.prog 35 #[.int .u64 x1, .int .u64 y2] w (fun e w' => ∃ (g : FM), e = .returned (Value.tuple #[.int .u64 rr1, .int .u64 rr2]) ∧ FM.le f g ∧ St t w' g (H)) := by
 unfold bits_Mul64 at h
 refine enter Tryz.func35 rfl (tm := #[.int .u64 x1, .int .u64 y2, uV, uV, uV, uV, uV, uV, uV, uV, uV, uV, uV, uV, uV, uV, uV, uV, uV, uV, uV, uV, uV, uV, uV, uV, uV, uV, uV, uV, uV, uV, uV, uV, uV, uV, uV, uV, uV, uV, uV, uV, uV, uV, uV, uV, uV, uV, uV, uV, uV]) kr ?_
 intro B hret hnor hnp
 refine wp_seq_k fun K3 hK4 => rl ?_
 refine seqL2 kr ?_
 refine nl (hK4 _ _ ?_)
 refine wp_seq_k fun K5 hK6 => rl ?_
 refine seqL3 kr ?_
 refine nl (hK6 _ _ ?_)
 refine wp_seq_k fun K7 hK8 => rl ?_
 refine seqL3 kr ?_
 refine nl (hK8 _ _ ?_)
 refine wp_seq_k fun K9 hK10 => rl ?_
 refine seqL3 kr ?_
 refine nl (hK10 _ _ ?_)
 refine wp_seq_k fun K11 hK12 => rl ?_
 refine seqL3 kr ?_
 refine nl (hK12 _ _ ?_)
 refine wp_seq_k fun K13 hK14 => rl ?_
 refine seqL4 kr ?_
 refine nl (hK14 _ _ ?_)
 refine wp_seq_k fun K15 hK16 => rl ?_
 refine seqL7 kr ?_
 refine nl (hK16 _ _ ?_)
 refine wp_seq_k fun K17 hK18 => rl ?_
 refine seqL3 kr ?_
 refine nl (hK18 _ _ ?_)
 refine wp_seq_k fun K19 hK20 => rl ?_
 refine seqL3 kr ?_
 refine nl (hK20 _ _ ?_)
 refine wp_seq_k fun K21 hK22 => rl ?_
 refine seqL6 kr ?_
 refine nl (hK22 _ _ ?_)
 refine wp_seq_k fun K23 hK24 => rl ?_
 refine seqL9 kr ?_
 refine nl (hK24 _ _ ?_)
 refine wp_seq_k fun K25 hK26 => rl ?_
 refine seqL4 kr ?_
 refine nl (hK26 _ _ ?_)
 refine wp_ret ?_
 refine hret _ _ ?_
 refine ends_still (v := Value.tuple #[.int .u64 (u64 ((u64 ((u64 ((shr x1 32) * (shr y2 32))) + (shr (u64 ((u64 ((shr x1 32) * (Go.bits .and .u64 y2 4294967295))) + (shr (u64 ((Go.bits .and .u64 x1 4294967295) * (Go.bits .and .u64 y2 4294967295))) 32))) 32))) + (shr (u64 ((Go.bits .and .u64 (u64 ((u64 ((shr x1 32) * (Go.bits .and .u64 y2 4294967295))) + (shr (u64 ((Go.bits .and .u64 x1 4294967295) * (Go.bits .and .u64 y2 4294967295))) 32))) 4294967295) + (u64 ((Go.bits .and .u64 x1 4294967295) * (shr y2 32))))) 32))), .int .u64 (u64 (x1 * y2))]) kr kr ?_
 injection h with h
 injection h with h0_ h
 subst h0_ h
 exact ⟨f, rfl, FM.le.refl _, HS⟩

set_option maxRecDepth 100000 in
set_option maxHeartbeats 4000000 in
theorem quanta_Below.calls (k : Nat)  (x1 : Int) (n2 : Int) {t w : World} {f : FM} {H : List Seg} (HS : St t w f (H)) (rr1 : Int) (h : quanta_Below k x1 n2 = some rr1) :
    Calls Tryz.prog 22 #[.int .u64 x1, .int .i64 n2] w (fun e w' => ∃ (g : FM), e = .returned (Value.int .i64 rr1) ∧ FM.le f g ∧ St t w' g (H)) := by
 unfold quanta_Below at h
 refine enter Tryz.func22 rfl (tm := #[.int .u64 x1, iV n2, uV, uV, uV, uV, uV, uV, uV, uV, uV, uV, uV, uV, uV, uV, uV, uV]) kr ?_
 intro B hret hnor hnp
 refine wp_seq_k fun K3 hK4 => rl ?_
 refine seqL1 kr ?_
 refine nl (hK4 _ _ ?_)
 refine wp_seq_k (fun K5 hK6 => ?_)
 refine wp_seq_k fun K7 hK8 => rl ?_
 refine seqL2 kr ?_
 refine nl (hK8 _ _ ?_)
 have hq_ := ite_some h; clear h; rcases hq_ with ⟨c10, h⟩ | ⟨c10, h⟩
 · have c10 : n2 < 1 := c10
   refine wpRwI 8 (x := (decide (n2 < 1))) (v := true) kr (decide_eq_true c10) ?_
   refine condT kr ?_
   refine wp_seq_k fun K11 hK12 => rl ?_
   refine seqL1 kr ?_
   refine nl (hK12 _ _ ?_)
   refine wp_ret ?_
   refine hret _ _ ?_
   refine ends_still (v := Value.int .i64 0) kr kr ?_
   injection h with h
   subst h
   exact ⟨f, rfl, FM.le.refl _, HS⟩
 · have c10 : ¬ (n2 < 1) := c10
   refine wpRwI 8 (x := (decide (n2 < 1))) (v := false) kr (decide_eq_false c10) ?_
   refine condF kr ?_
   refine wp_skip ?_
   refine hK6 _ _ ?_
   refine wp_seq_k fun K13 hK14 => rl ?_
   have hq_ := bind_some h; clear h; obtain ⟨⟨vt15, vt16⟩, hc17, h⟩ := hq_
   refine seqL3 kr ?_
   refine seqK rfl (does_call (f := 35) (args := #[.int .u64 x1, .int .u64 (u64 (n2))]) kr (bits_Mul64.calls k x1 (u64 (n2)) HS vt15 vt16 hc17) ?_)
   rintro _ W20 ⟨f18, rfl, L19, HS21⟩
   refine ⟨_, rfl, ?_⟩
   refine seqL5 kr ?_
   refine nl (hK14 _ _ ?_)
   refine wp_seq_k fun K22 hK23 => rl ?_
   refine seqL3 kr ?_
   refine nl (hK23 _ _ ?_)
   refine wp_ret ?_
   refine hret _ _ ?_
   refine ends_still (v := Value.int .i64 (w64 (vt15))) kr kr ?_
   injection h with h
   subst h
   exact ⟨f18, rfl, L19, HS21⟩

set_option maxRecDepth 100000 in
set_option maxHeartbeats 4000000 in
theorem sensor_Read.calls (k : Nat) (A2 : Option Addr) (c3 : Nat) (A5 : Option Addr) (c6 : Nat) (A8 : Option Addr) (c9 : Nat) (A14 : Option Addr) (c15 : Nat) (s1 : S_Sensor) (seed11 : Int) (number12 : Int) (q13 : List Int) {t w : World} {f : FM} {H : List Seg} (HS : St t w f (H)) (HR4 : SlR (tInt .i64) f A2 c3 s1.Bias) (HR7 : SlR (tInt .i64) f A5 c6 s1.Dark) (HR10 : SlR (tInt .i64) f A8 c9 s1.Flat) (HR16 : SlR (tInt .i64) f A14 c15 q13) (rr1 : List Int) (rr2 : Int) (h : sensor_Read k s1 seed11 number12 q13 = some (rr1, rr2)) :
    Calls Tryz.prog 7 #[.agg #[.int .i64 s1.W, .int .i64 s1.H, .slice A2 s1.Bias.length c3, .slice A5 s1.Dark.length c6, .slice A8 s1.Flat.length c9, .int .i64 s1.Full, .int .i64 s1.Gain, .int .i64 s1.Noise], .int .u64 seed11, .int .i64 number12, .slice A14 q13.length c15] w (fun e w' => ∃ (g : FM) (A241 : Option Addr) (c242 : Nat) (s243 : Seg), e = .returned (Value.tuple #[.slice A241 rr1.length c242, .int .i64 rr2]) ∧ FM.le f g ∧ St t w' g (s243 :: H) ∧ Own (tInt .i64) 3 g A241 c242 s243 rr1) := by
 unfold sensor_Read at h
 refine enter Tryz.func7 rfl (tm := #[(ag_Sensor s1 A2 c3 A5 c6 A8 c9), .int .u64 seed11, iV number12, .slice A14 q13.length c15, uV, uV, uV, uV, uV, uV, uV, uV, uV, uV, uV, uV, uV, uV, uV, uV, uV, uV, uV, uV, uV, uV, uV, uV, uV, uV, uV, uV, uV, uV, uV, uV, uV, uV, uV, uV, uV, uV, uV, uV, uV, uV, uV, uV, uV, uV, uV, uV, uV, uV, uV, uV, uV, uV, uV, uV, uV, uV, uV, uV, uV, uV, uV, uV, uV]) kr ?_
 intro B hret hnor hnp
 refine wp_seq_k fun K17 hK18 => rl ?_
 refine seqK rfl (does_box (cs := #[.int .i64 s1.W, .int .i64 s1.H, .slice A2 s1.Bias.length c3, .slice A5 s1.Dark.length c6, .slice A8 s1.Flat.length c9, .int .i64 s1.Full, .int .i64 s1.Gain, .int .i64 s1.Noise]) rfl (kv (.agg #[.int .i64 s1.W, .int .i64 s1.H, .slice A2 s1.Bias.length c3, .slice A5 s1.Dark.length c6, .slice A8 s1.Flat.length c9, .int .i64 s1.Full, .int .i64 s1.Gain, .int .i64 s1.Noise])) rfl HS ?_)
 intro b19 W20 HS21
 refine seqL2 kr ?_
 refine nl (hK18 _ _ ?_)
 refine wp_seq_k (fun K23 hK24 => ?_)
 refine wp_seq_k fun K25 hK26 => rl ?_
 refine seqK rfl (does_run (run_loadN (n := 8) rfl Tryz.underlying30 rfl kr (kv (.pointer (some ⟨b19, 0, none⟩))) (cs := [.int .i64 s1.W, .int .i64 s1.H, .slice A2 s1.Bias.length c3, .slice A5 s1.Dark.length c6, .slice A8 s1.Flat.length c9, .int .i64 s1.Full, .int .i64 s1.Gain, .int .i64 s1.Noise]) rfl (HS21.cells 0 8 _ rfl)) ?_)
 have hq_ := bind_some h; clear h; obtain ⟨vt27, hc28, h⟩ := hq_
 refine seqL2 kr ?_
 refine seqK rfl (does_call (f := 15) (args := #[.agg #[.int .i64 s1.W, .int .i64 s1.H, .slice A2 s1.Bias.length c3, .slice A5 s1.Dark.length c6, .slice A8 s1.Flat.length c9, .int .i64 s1.Full, .int .i64 s1.Gain, .int .i64 s1.Noise], .int .i64 (q13.length : Int)]) kr (sensor_sized.calls k A2 c3 A5 c6 A8 c9 s1 (q13.length : Int) HS21 HR4 HR7 HR10 vt27 hc28) ?_)
 rintro _ W31 ⟨f29, rfl, L30, HS32⟩
 refine ⟨_, rfl, ?_⟩
 refine seqL1 kr ?_
 refine nl (hK26 _ _ ?_)
 refine wp_seq_k fun K33 hK34 => rl ?_
 refine seqL2 kr ?_
 refine nl (hK34 _ _ ?_)
 have hq_ := ite_some h; clear h; rcases hq_ with ⟨c36, h⟩ | ⟨c36, h⟩
 · have c36 : vt27 ≠ 0 := c36
   refine wpRwI 20 (x := (vt27 != 0)) (v := true) kr (bne_iff_ne.mpr c36) ?_
   refine condT kr ?_
   refine wp_seq_k fun K37 hK38 => rl ?_
   refine seqL3 kr ?_
   refine nl (hK38 _ _ ?_)
   refine wp_ret ?_
   refine hret _ _ ?_
   have HS231 := HS32.cons_nil
   refine ends_still (v := Value.tuple #[.slice none 0 0, .int .i64 vt27]) kr kr ?_
   have HS233 := HS231.u1
   have HS234 := HS233.drop
   injection h with h
   injection h with h0_ h
   subst h0_ h
   exact ⟨f29, none, 0, [], rfl, L30, HS234, (Own.nil _)⟩
 · have c36 : ¬ (vt27 ≠ 0) := c36
   refine wpRwI 20 (x := (vt27 != 0)) (v := false) kr (bne_eq_false_iff_eq.mpr (Decidable.of_not_not c36)) ?_
   refine condF kr ?_
   refine wp_skip ?_
   refine hK24 _ _ ?_
   refine wp_seq_k (fun K39 hK40 => ?_)
   refine wp_seq_k fun K41 hK42 => rl ?_
   have hq_ := bind_some h; clear h; obtain ⟨vt43, hc44, h⟩ := hq_
   refine seqL1 kr ?_
   refine seqK rfl (does_call (f := 16) (args := #[.slice A14 q13.length c15, .int .i64 4294967296]) kr (sensor_outside_Quanta.calls k A14 c15 q13 4294967296 HS32 (HR16.mono L30) vt43 hc44) ?_)
   rintro _ W47 ⟨f45, rfl, L46, HS48⟩
   refine ⟨_, rfl, ?_⟩
   refine nl (hK42 _ _ ?_)
   have hq_ := ite_some h; clear h; rcases hq_ with ⟨c50, h⟩ | ⟨c50, h⟩
   · have c50 : vt43 = true := c50
     refine wpRwI 23 (x := vt43) (v := true) kr c50 ?_
     refine condT kr ?_
     refine wp_seq_k fun K51 hK52 => rl ?_
     refine seqL2 kr ?_
     refine nl (hK52 _ _ ?_)
     refine wp_ret ?_
     refine hret _ _ ?_
     have HS235 := HS48.cons_nil
     refine ends_still (v := Value.tuple #[.slice none 0 0, .int .i64 4]) kr kr ?_
     have HS237 := HS235.u1
     have HS238 := HS237.drop
     injection h with h
     injection h with h0_ h
     subst h0_ h
     exact ⟨f45, none, 0, [], rfl, (L30.trans L46), HS238, (Own.nil _)⟩
   · have c50 : ¬ (vt43 = true) := c50
     refine wpRwI 23 (x := vt43) (v := false) kr (Bool.eq_false_iff.mpr c50) ?_
     refine condF kr ?_
     refine wp_skip ?_
     refine hK40 _ _ ?_
     refine wp_seq_k fun K53 hK54 => rl ?_
     have hq_ := guard_some h; clear h; obtain ⟨c55, h⟩ := hq_
     have c55 : 0 ≤ (q13.length : Int) := c55
     have hq_ := guard_some h; clear h; obtain ⟨c56, h⟩ := hq_
     have c56 : (q13.length : Int) * 8 ≤ 140737488355328 := c56
     refine seqL2 kr ?_
     refine seqK rfl (does_make (e := (tInt .i64)) (E := 3) (u := 0) (n := (q13.length : Int)) rfl (kv (.int .i64 (q13.length : Int))) (kv (.int .i64 (q13.length : Int))) Tryz.underlying22 inf3 c55 c56 (by omega) rfl HS48 ?_)
     intro b57 W58 s59 HS60 HO61
     refine seqL1 kr ?_
     refine nl (hK54 _ _ ?_)
     refine wp_seq_k (fun K63 hK64 => ?_)
     refine wp_seq_k fun K65 hK66 => rl ?_
     refine seqL3 kr ?_
     refine nl (hK66 _ _ ?_)
     refine blockK (fun B67 hx68 hn69 hr70 ho71 hp72 => ?_)
     have hq_ := bind_some h; clear h; obtain ⟨o143, hv226, h⟩ := hq_
     have J227 : ∀ (f217 : FM) (s223 : Seg) (out222 : List Int) (j221 : Nat → Value) (W219 : World) (a_ : Act), FM.le f45 f217 → some (out222) = some o143 → St t W219 f217 (s223 :: [(b19, .cells #[.int .i64 s1.W, .int .i64 s1.H, .slice A2 s1.Bias.length c3, .slice A5 s1.Dark.length c6, .slice A8 s1.Flat.length c9, .int .i64 s1.Full, .int .i64 s1.Gain, .int .i64 s1.Noise] 30 (0, 0))] :: H) → Own (tInt .i64) 3 f217 (some ⟨b57, 0, none⟩) ((q13.length : Int)).toNat s223 out222 → out222.length = (List.replicate ((q13.length : Int)).toNat (0 : Int)).length → a_ = ⟨#[(ag_Sensor s1 A2 c3 A5 c6 A8 c9), .int .u64 seed11, iV number12, .slice A14 q13.length c15, pV b19 0, uV, uV, uV, .slice none 0 0, iV 0, iV vt27, .slice (some ⟨b57, 0, none⟩) out222.length ((q13.length : Int)).toNat, (j221 0), (j221 1), (j221 2), (ag_Sensor s1 A2 c3 A5 c6 A8 c9), .slice A14 q13.length c15, iV (q13.length : Int), iV vt27, iV vt27, fV, uV, .slice A14 q13.length c15, fV, .slice A14 q13.length c15, iV (q13.length : Int), (j221 3), .slice A14 q13.length c15, iV (q13.length : Int), (j221 4), (j221 5), (j221 6), (j221 7), (j221 8), (j221 9), (j221 10), (j221 11), (j221 12), (j221 13), (j221 14), (j221 15), (j221 16), (j221 17), (j221 18), (j221 19), (j221 20), (j221 21), (j221 22), (j221 23), (j221 24), (j221 25), (j221 26), (j221 27), (j221 28), (j221 29), (j221 30), (j221 31), (j221 32), (j221 33), (j221 34), (j221 35), (j221 36), (j221 37), (j221 38), (j221 39), (j221 40), (j221 41), (j221 42), uV], []⟩ → K63 a_ W219 := by
      intro f217 s223 out222 j221 W219 a_ L218 hj228 HS220 HO224 HL225 hfr_; subst hfr_
      injection hj228 with hj228; subst hj228; try dsimp only at h
      refine hK64 _ _ ?_
      refine wp_seq_k fun K229 hK230 => rl ?_
      refine seqL3 kr ?_
      refine nl (hK230 _ _ ?_)
      refine wp_ret ?_
      refine hret _ _ ?_
      refine ends_still (v := Value.tuple #[.slice (some ⟨b57, 0, none⟩) out222.length ((q13.length : Int)).toNat, .int .i64 0]) kr kr ?_
      have HS239 := HS220.u1
      have HS240 := HS239.drop
      injection h with h
      injection h with h0_ h
      subst h0_ h
      exact ⟨f217, (some ⟨b57, 0, none⟩), (((q13.length : Int)).toNat), s223, rfl, (L30.trans (L46.trans L218)), HS240, HO224⟩
     clear h; have h := hv226; clear hv226
     refine loopK (fun n_ a_ w_ => ∃ (f147 : FM) (s153 : Seg) (out152 : List Int) (x156 : Int) (j151 : Nat → Value), FM.le f45 f147 ∧ St t w_ f147 (s153 :: [(b19, .cells #[.int .i64 s1.W, .int .i64 s1.H, .slice A2 s1.Bias.length c3, .slice A5 s1.Dark.length c6, .slice A8 s1.Flat.length c9, .int .i64 s1.Full, .int .i64 s1.Gain, .int .i64 s1.Noise] 30 (0, 0))] :: H) ∧ Own (tInt .i64) 3 f147 (some ⟨b57, 0, none⟩) ((q13.length : Int)).toNat s153 out152 ∧ out152.length = (List.replicate ((q13.length : Int)).toNat (0 : Int)).length ∧ sensor_Read.l0 k q13 seed11 number12 s1 n_ out152 x156 = some o143 ∧ a_ = ⟨#[(ag_Sensor s1 A2 c3 A5 c6 A8 c9), .int .u64 seed11, iV number12, .slice A14 q13.length c15, pV b19 0, uV, uV, uV, .slice none 0 0, iV 0, iV vt27, .slice (some ⟨b57, 0, none⟩) out152.length ((q13.length : Int)).toNat, (j151 0), (j151 1), (j151 2), (ag_Sensor s1 A2 c3 A5 c6 A8 c9), .slice A14 q13.length c15, iV (q13.length : Int), iV vt27, iV vt27, fV, uV, .slice A14 q13.length c15, fV, .slice A14 q13.length c15, iV (q13.length : Int), .slice (some ⟨b57, 0, none⟩) (List.replicate ((q13.length : Int)).toNat (0 : Int)).length ((q13.length : Int)).toNat, .slice A14 q13.length c15, iV (q13.length : Int), iV x156, (j151 3), (j151 4), (j151 5), (j151 6), (j151 7), (j151 8), (j151 9), (j151 10), (j151 11), (j151 12), (j151 13), (j151 14), (j151 15), (j151 16), (j151 17), (j151 18), (j151 19), (j151 20), (j151 21), (j151 22), (j151 23), (j151 24), (j151 25), (j151 26), (j151 27), (j151 28), (j151 29), (j151 30), (j151 31), (j151 32), (j151 33), (j151 34), (j151 35), (j151 36), (j151 37), (j151 38), (j151 39), (j151 40), uV], []⟩) k ⟨f45, s59, (List.replicate ((q13.length : Int)).toNat (0 : Int)), 0, (fun i_ => [undef, undef, undef, undef, undef, undef, undef, undef, undef, undef, undef, undef, undef, undef, undef, undef, undef, undef, undef, undef, undef, undef, undef, undef, undef, undef, undef, undef, undef, undef, undef, undef, undef, undef, undef, undef, undef, undef, undef, undef, undef].getD i_ undef), (FM.le.refl _), HS60, HO61, rfl, h, kr⟩ ?_
     clear h
     rintro n146 _ W149 ⟨f147, s153, out152, x156, j151, L148, HS150, HO154, HL155, h, rfl⟩ K144 hK145
     obtain _ | n146 := n146
     · exact nomatch h
     simp only [sensor_Read.l0] at h
     refine wp_seq_k fun K157 hK158 => rl ?_
     refine seqL1 kr ?_
     refine nl (hK158 _ _ ?_)
     refine wp_seq_k (fun K159 hK160 => ?_)
     have hq_ := ite_some h; clear h; rcases hq_ with ⟨c162, h⟩ | ⟨c162, h⟩
     · have c162 : x156 < (q13.length : Int) := c162
       refine wpRwI 30 (x := (decide (x156 < (q13.length : Int)))) (v := true) kr (decide_eq_true c162) ?_
       refine condT kr ?_
       refine wp_skip ?_
       refine hK160 _ _ ?_
       refine wp_seq_k (fun K163 hK164 => ?_)
       refine blockK (fun B165 hx166 hn167 hr168 ho169 hp170 => ?_)
       refine wp_seq_k fun K172 hK173 => rl ?_
       have hq_ := guard_some h; clear h; obtain ⟨c174, h⟩ := hq_
       have c174 : 0 ≤ x156 := c174
       obtain ⟨b178, of179, cs175, hA180, hr176, hc177⟩ := (HR16.mono (L30.trans (L46.trans L148))).at (i := x156) c174 c162
       obtain rfl := hr176
       refine seqL1 kr ?_
       refine seqK rfl (does_run (run_indexE hA180 (sz := 1) rfl Tryz.underlying32 kr (kv (.slice A14 q13.length c15)) (kv (.int .i64 x156)) c174 c162 W149) ?_)
       refine seqK rfl (does_run (run_load rfl Tryz.underlying28 rfl (kv (.pointer (some ⟨b178, of179 + (x156 : Int).toNat * 1, none⟩))) ((hc177 (FM.le.refl _) HS150) 0 (by decide))) ?_)
       refine seqL2 kr ?_
       refine nl (hK173 _ _ ?_)
       refine wp_seq_k (fun K181 hK182 => ?_)
       refine heldG (S := Sg t f147 (s153 :: [(b19, .cells #[.int .i64 s1.W, .int .i64 s1.H, .slice A2 s1.Bias.length c3, .slice A5 s1.Dark.length c6, .slice A8 s1.Flat.length c9, .int .i64 s1.Full, .int .i64 s1.Gain, .int .i64 s1.Noise] 30 (0, 0))] :: H) []) (n := 17) kr rfl HS150 ?_
       intro W183 HS184
       refine takeGL [0, 1, 2, 3, 4, 5, 6, 8] (n := 17) (fuel := 9) #[true, true, true, true, true, true, true, false, true, false, false, false, false, false, false, false, false] rfl kr kr kr (fun ch_ a_ w_ q_ => (fun ch_ a_ w_ q_ => hnp ch_ a_ w_ (hp72 ch_ a_ w_ q_)) ch_ a_ w_ (hp170 ch_ a_ w_ q_)) (Sg.g0 (Sx.of [] (FM.le.refl _) HS184)) ?_
       refine takeGQ 9 [] rfl kr kr kr kr kr kr (fun ch_ a_ w_ q_ => (fun ch_ a_ w_ q_ => hnp ch_ a_ w_ (hp72 ch_ a_ w_ q_)) ch_ a_ w_ (hp170 ch_ a_ w_ q_)) (Sg.g0 (Sx.of [] (FM.le.refl _) HS184)) (fun w_ hw_ => by obtain ⟨g_, hl_, hS_⟩ := hw_.st; exact run_load rfl Tryz.underlying3 rfl (kv (.pointer (some ⟨b19, 7, none⟩))) (hS_.u1.cell 7)) ?_
       refine takeGL [10, 11, 13] (n := 8) (fuel := 5) #[true, true, true, true, true, true, true, false, true, true, true, true, false, true, false, false, false] rfl kr kr kr (fun ch_ a_ w_ q_ => (fun ch_ a_ w_ q_ => hnp ch_ a_ w_ (hp72 ch_ a_ w_ q_)) ch_ a_ w_ (hp170 ch_ a_ w_ q_)) (Sg.g0 (Sx.of [] (FM.le.refl _) HS184)) ?_
       refine takeGQ 14 [] rfl kr kr kr kr kr kr (fun ch_ a_ w_ q_ => (fun ch_ a_ w_ q_ => hnp ch_ a_ w_ (hp72 ch_ a_ w_ q_)) ch_ a_ w_ (hp170 ch_ a_ w_ q_)) (Sg.g0 (Sx.of [] (FM.le.refl _) HS184)) (fun w_ hw_ => by obtain ⟨g_, hl_, hS_⟩ := hw_.st; exact run_load rfl Tryz.underlying3 rfl (kv (.pointer (some ⟨b19, 7, none⟩))) (hS_.u1.cell 7)) ?_
       have hq_ := bind_some h; clear h; obtain ⟨vt185, hc186, h⟩ := hq_
       refine takeGE 7 kr rfl kr (does_call (f := 23) (args := #[.int .u64 seed11, .int .i64 (w64 ((w64 (number12 * (q13.length : Int))) + x156))]) kr (quanta_Mix.calls k seed11 (w64 ((w64 (number12 * (q13.length : Int))) + x156)) HS184 vt185 hc186) ?_)
       rintro _ W189 ⟨f187, rfl, L188, HS190⟩
       refine ⟨_, rfl, ?_⟩
       refine ⟨(Sg.g0 (Sx.of [] L188 HS190)), ?_⟩
       have hq_ := bind_some h; clear h; obtain ⟨vt191, hc192, h⟩ := hq_
       refine takeGE 12 kr rfl kr (does_call (f := 22) (args := #[.int .u64 vt185, .int .i64 (w64 ((w64 (2 * s1.Noise)) + 1))]) kr (quanta_Below.calls k vt185 (w64 ((w64 (2 * s1.Noise)) + 1)) HS190 vt191 hc192) ?_)
       rintro _ W195 ⟨f193, rfl, L194, HS196⟩
       refine ⟨_, rfl, ?_⟩
       refine ⟨(Sg.g0 (Sx.of [] (L188.trans L194) HS196)), ?_⟩
       refine takeGL [15, 16] (n := 2) (fuel := 0) #[true, true, true, true, true, true, true, true, true, true, true, true, true, true, true, true, true] rfl kr kr kr (fun ch_ a_ w_ q_ => (fun ch_ a_ w_ q_ => hnp ch_ a_ w_ (hp72 ch_ a_ w_ q_)) ch_ a_ w_ (hp170 ch_ a_ w_ q_)) (Sg.g0 (Sx.of [] (L188.trans L194) HS196)) ?_
       refine doneG kr ?_ _
       refine hK182 _ _ ?_
       have HS197 := HS196.u1
       have HS198 := HS197.u1
       refine heldG (S := Sg t f193 ([(b19, .cells #[.int .i64 s1.W, .int .i64 s1.H, .slice A2 s1.Bias.length c3, .slice A5 s1.Dark.length c6, .slice A8 s1.Flat.length c9, .int .i64 s1.Full, .int .i64 s1.Gain, .int .i64 s1.Noise] 30 (0, 0))] :: H) [(17, s153)]) (n := 18) kr rfl HS198 ?_
       intro W199 HS200
       refine takeGL [0, 1, 2] (n := 18) (fuel := 15) #[true, true, true, false, false, false, false, false, false, false, false, false, false, false, false, false, false, false] rfl kr kr kr (fun ch_ a_ w_ q_ => (fun ch_ a_ w_ q_ => hnp ch_ a_ w_ (hp72 ch_ a_ w_ q_)) ch_ a_ w_ (hp170 ch_ a_ w_ q_)) (Sg.g1 (Sx.of [s153] (FM.le.refl _) HS200) (fun _ => St.only [] HS200 (FM.le.refl _))) ?_
       refine takeGQ 3 [] rfl kr kr kr kr kr kr (fun ch_ a_ w_ q_ => (fun ch_ a_ w_ q_ => hnp ch_ a_ w_ (hp72 ch_ a_ w_ q_)) ch_ a_ w_ (hp170 ch_ a_ w_ q_)) (Sg.g1 (Sx.of [s153] (FM.le.refl _) HS200) (fun _ => St.only [] HS200 (FM.le.refl _))) (fun w_ hw_ => by obtain ⟨g_, hl_, hS_⟩ := hw_.st; exact run_load rfl Tryz.underlying22 rfl (kv (.pointer (some ⟨b19, 2, none⟩))) (hS_.cell 2)) ?_
       have hq_ := guard_some h; clear h; obtain ⟨c201, h⟩ := hq_
       have c201 : x156 < (s1.Bias.length : Int) := c201
       obtain ⟨b205, of206, cs202, hA207, hr203, hc204⟩ := (HR4.mono (L30.trans (L46.trans (L148.trans (L188.trans L194))))).at (i := x156) c174 c201
       obtain rfl := hr203
       refine takeGL [4] (n := 14) (fuel := 13) #[true, true, true, true, true, false, false, false, false, false, false, false, false, false, false, false, false, false] rfl kr kr kr (fun ch_ a_ w_ q_ => (fun ch_ a_ w_ q_ => hnp ch_ a_ w_ (hp72 ch_ a_ w_ q_)) ch_ a_ w_ (hp170 ch_ a_ w_ q_)) (Sg.g1 (Sx.of [s153] (FM.le.refl _) HS200) (fun _ => St.only [] HS200 (FM.le.refl _))) ?_
       refine takeGQ 5 [] rfl kr kr kr kr kr kr (fun ch_ a_ w_ q_ => (fun ch_ a_ w_ q_ => hnp ch_ a_ w_ (hp72 ch_ a_ w_ q_)) ch_ a_ w_ (hp170 ch_ a_ w_ q_)) (Sg.g1 (Sx.of [s153] (FM.le.refl _) HS200) (fun _ => St.only [] HS200 (FM.le.refl _))) (fun w_ hw_ => by obtain ⟨g_, hl_, hS_⟩ := hw_.st; exact run_indexE hA207 (sz := 1) rfl Tryz.underlying22 kr (kv (.slice A2 s1.Bias.length c3)) (kv (.int .i64 x156)) c174 c201 w_) ?_
       refine takeGQ 6 [] rfl kr kr kr kr kr kr (fun ch_ a_ w_ q_ => (fun ch_ a_ w_ q_ => hnp ch_ a_ w_ (hp72 ch_ a_ w_ q_)) ch_ a_ w_ (hp170 ch_ a_ w_ q_)) (Sg.g1 (Sx.of [s153] (FM.le.refl _) HS200) (fun _ => St.only [] HS200 (FM.le.refl _))) (fun w_ hw_ => by obtain ⟨g_, hl_, hS_⟩ := hw_.st; exact run_load rfl Tryz.underlying3 rfl (kv (.pointer (some ⟨b205, of206 + (x156 : Int).toNat * 1, none⟩))) ((hc204 hl_ hS_) 0 (by decide))) ?_
       refine takeGL [7, 8] (n := 11) (fuel := 9) #[true, true, true, true, true, true, true, true, true, false, false, false, false, false, false, false, false, false] rfl kr kr kr (fun ch_ a_ w_ q_ => (fun ch_ a_ w_ q_ => hnp ch_ a_ w_ (hp72 ch_ a_ w_ q_)) ch_ a_ w_ (hp170 ch_ a_ w_ q_)) (Sg.g1 (Sx.of [s153] (FM.le.refl _) HS200) (fun _ => St.only [] HS200 (FM.le.refl _))) ?_
       refine takeGQ 9 [] rfl kr kr kr kr kr kr (fun ch_ a_ w_ q_ => (fun ch_ a_ w_ q_ => hnp ch_ a_ w_ (hp72 ch_ a_ w_ q_)) ch_ a_ w_ (hp170 ch_ a_ w_ q_)) (Sg.g1 (Sx.of [s153] (FM.le.refl _) HS200) (fun _ => St.only [] HS200 (FM.le.refl _))) (fun w_ hw_ => by obtain ⟨g_, hl_, hS_⟩ := hw_.st; exact run_load rfl Tryz.underlying28 rfl (kv (.pointer (some ⟨b19, 6, none⟩))) (hS_.cell 6)) ?_
       have hq_ := guard_some h; clear h; obtain ⟨c208, h⟩ := hq_
       have c208 : ¬ (s1.Gain = 0) := c208
       refine takeGQ 10 [] rfl kr kr kr kr kr kr (fun ch_ a_ w_ q_ => (fun ch_ a_ w_ q_ => hnp ch_ a_ w_ (hp72 ch_ a_ w_ q_)) ch_ a_ w_ (hp170 ch_ a_ w_ q_)) (Sg.g1 (Sx.of [s153] (FM.le.refl _) HS200) (fun _ => St.only [] HS200 (FM.le.refl _))) (fun w_ hw_ => by obtain ⟨g_, hl_, hS_⟩ := hw_.st; exact run_div rfl (kv (.int .i64 (rd q13 x156))) (kv (.int .i64 s1.Gain)) c208 w_) ?_
       have hq_ := guard_some h; clear h; obtain ⟨c209, h⟩ := hq_
       have c209 : x156 < (out152.length : Int) := c209
       obtain ⟨cs210, hr211, hc212⟩ := (HO154.mono (L188.trans L194)).at' (i := x156) c174 c209
       obtain rfl := hr211
       refine takeGL [11, 12, 13, 14, 15] (n := 7) (fuel := 2) #[true, true, true, true, true, true, true, true, true, true, true, true, true, true, true, true, false, false] rfl kr kr kr (fun ch_ a_ w_ q_ => (fun ch_ a_ w_ q_ => hnp ch_ a_ w_ (hp72 ch_ a_ w_ q_)) ch_ a_ w_ (hp170 ch_ a_ w_ q_)) (Sg.g1 (Sx.of [s153] (FM.le.refl _) HS200) (fun _ => St.only [] HS200 (FM.le.refl _))) ?_
       refine takeGQ 16 [] rfl kr kr kr kr kr kr (fun ch_ a_ w_ q_ => (fun ch_ a_ w_ q_ => hnp ch_ a_ w_ (hp72 ch_ a_ w_ q_)) ch_ a_ w_ (hp170 ch_ a_ w_ q_)) (Sg.g1 (Sx.of [s153] (FM.le.refl _) HS200) (fun _ => St.only [] HS200 (FM.le.refl _))) (fun w_ hw_ => by obtain ⟨g_, hl_, hS_⟩ := hw_.st; exact run_index (sz := 1) rfl Tryz.underlying22 kr (kv (.slice (some ⟨b57, 0, none⟩) out152.length ((q13.length : Int)).toNat)) (kv (.int .i64 x156)) c174 c209 w_) ?_
       refine takeGE 17 kr rfl kr (does_put (e := (tInt .i64)) (E := 3) (vs := [.int .i64 (mn 65535 (mx 0 (w64 ((w64 ((rd s1.Bias x156) + (w64 (Int.tdiv (rd q13 x156) s1.Gain)))) + (w64 (vt191 - s1.Noise))))))]) (u := mn 65535 (mx 0 (w64 ((w64 ((rd s1.Bias x156) + (w64 (Int.tdiv (rd q13 x156) s1.Gain)))) + (w64 (vt191 - s1.Noise)))))) (i := x156) rfl kr (HO154.mono (L188.trans L194)) HS200 rfl (kv (.pointer (some ⟨b57, 0 + (x156 : Int).toNat * 1, none⟩))) (kv (.int .i64 (mn 65535 (mx 0 (w64 ((w64 ((rd s1.Bias x156) + (w64 (Int.tdiv (rd q13 x156) s1.Gain)))) + (w64 (vt191 - s1.Noise)))))))) rfl rfl c174 c209 ?_)
       intro W213 s214 HS215 HO216
       refine ⟨(Sg.g1 (Sx.of [s214] (FM.le.refl _) HS215) (fun hl_ => Bool.noConfusion (show true = false from hl_))), ?_⟩
       refine gateRwS 11 (A := (some ⟨b57, 0, none⟩)) (m := out152.length) (n := (out152.set (x156).toNat (mn 65535 (mx 0 (w64 ((w64 ((rd s1.Bias x156) + (w64 (Int.tdiv (rd q13 x156) s1.Gain)))) + (w64 (vt191 - s1.Noise))))))).length) (c := ((q13.length : Int)).toNat) kr (List.length_set).symm ?_
       refine gateRwS 50 (A := (some ⟨b57, 0, none⟩)) (m := out152.length) (n := (out152.set (x156).toNat (mn 65535 (mx 0 (w64 ((w64 ((rd s1.Bias x156) + (w64 (Int.tdiv (rd q13 x156) s1.Gain)))) + (w64 (vt191 - s1.Noise))))))).length) (c := ((q13.length : Int)).toNat) kr (List.length_set).symm ?_
       refine doneG kr ?_ _
       refine hn167 _ _ ?_
       refine hK164 _ _ ?_
       refine rl ?_
       refine seqL2 kr ?_
       refine nl ?_
       refine hK145 n146 _ _ (Nat.lt_succ_self _) ?_
       exact ⟨f193, s214, (out152.set (x156).toNat (mn 65535 (mx 0 (w64 ((w64 ((rd s1.Bias x156) + (w64 (Int.tdiv (rd q13 x156) s1.Gain)))) + (w64 (vt191 - s1.Noise))))))), (w64 (x156 + 1)), (fun i_ => [Value.int .i64 x156, Value.int .i64 (rd q13 x156), Value.int .i64 (w64 (vt191 - s1.Noise)), Value.bool true, Value.int .i64 x156, Value.pointer (some ⟨b178, of179 + (x156 : Int).toNat * 1, none⟩), Value.int .i64 (rd q13 x156), Value.int .u64 seed11, Value.int .i64 number12, Value.slice A14 q13.length c15, Value.int .i64 (q13.length : Int), Value.int .i64 (w64 (number12 * (q13.length : Int))), Value.int .i64 x156, Value.int .i64 (w64 ((w64 (number12 * (q13.length : Int))) + x156)), Value.int .u64 vt185, Value.pointer (some ⟨b19, 7, none⟩), Value.int .i64 s1.Noise, Value.int .i64 (w64 (2 * s1.Noise)), Value.int .i64 (w64 ((w64 (2 * s1.Noise)) + 1)), Value.int .i64 vt191, Value.pointer (some ⟨b19, 7, none⟩), Value.int .i64 s1.Noise, Value.int .i64 (w64 (vt191 - s1.Noise)), Value.slice (some ⟨b57, 0, none⟩) (out152.set (x156).toNat (mn 65535 (mx 0 (w64 ((w64 ((rd s1.Bias x156) + (w64 (Int.tdiv (rd q13 x156) s1.Gain)))) + (w64 (vt191 - s1.Noise))))))).length ((q13.length : Int)).toNat, Value.int .i64 x156, Value.pointer (some ⟨b19, 2, none⟩), Value.slice A2 s1.Bias.length c3, Value.int .i64 x156, Value.pointer (some ⟨b205, of206 + (x156 : Int).toNat * 1, none⟩), Value.int .i64 (rd s1.Bias x156), Value.int .i64 (rd q13 x156), Value.pointer (some ⟨b19, 6, none⟩), Value.int .i64 s1.Gain, Value.int .i64 (w64 (Int.tdiv (rd q13 x156) s1.Gain)), Value.int .i64 (w64 ((rd s1.Bias x156) + (w64 (Int.tdiv (rd q13 x156) s1.Gain)))), Value.int .i64 (w64 (vt191 - s1.Noise)), Value.int .i64 (w64 ((w64 ((rd s1.Bias x156) + (w64 (Int.tdiv (rd q13 x156) s1.Gain)))) + (w64 (vt191 - s1.Noise)))), Value.int .i64 (mx 0 (w64 ((w64 ((rd s1.Bias x156) + (w64 (Int.tdiv (rd q13 x156) s1.Gain)))) + (w64 (vt191 - s1.Noise))))), Value.int .i64 (mn 65535 (mx 0 (w64 ((w64 ((rd s1.Bias x156) + (w64 (Int.tdiv (rd q13 x156) s1.Gain)))) + (w64 (vt191 - s1.Noise)))))), Value.pointer (some ⟨b57, 0 + (x156 : Int).toNat * 1, none⟩), Value.int .i64 (w64 (x156 + 1))].getD i_ undef), (L148.trans (L188.trans L194)), HS215, HO216, (List.length_set.trans HL155), h, kr⟩
     · have c162 : ¬ (x156 < (q13.length : Int)) := c162
       refine wpRwI 30 (x := (decide (x156 < (q13.length : Int)))) (v := false) kr (decide_eq_false c162) ?_
       refine condF kr ?_
       refine wp_exit ?_
       refine hx68 _ _ ?_
       exact J227 f147 s153 out152 (fun i_ => [(j151 0), (j151 1), (j151 2), Value.slice (some ⟨b57, 0, none⟩) (List.replicate ((q13.length : Int)).toNat (0 : Int)).length ((q13.length : Int)).toNat, Value.int .i64 x156, Value.bool false, (j151 4), (j151 5), (j151 6), (j151 7), (j151 8), (j151 9), (j151 10), (j151 11), (j151 12), (j151 13), (j151 14), (j151 15), (j151 16), (j151 17), (j151 18), (j151 19), (j151 20), (j151 21), (j151 22), (j151 23), (j151 24), (j151 25), (j151 26), (j151 27), (j151 28), (j151 29), (j151 30), (j151 31), (j151 32), (j151 33), (j151 34), (j151 35), (j151 36), (j151 37), (j151 38), (j151 39), (j151 40)].getD i_ undef) W149 _ L148 h HS150 HO154 HL155 kr

theorem strconv_FormatInt.calls (k : Nat) (n b : Int) {t w : World} {f : FM} {H : List Seg} (HS : St t w f H) (HT : TabF Tryz.prog "internal/strconv.uint64pow10" .u64 Go.Lib.pow10Tab f) (r1 : ByteArray) (h : strconv_FormatInt k n b = some r1) :
    Calls Tryz.prog 40 #[.int .i64 n, .int .i64 b] w (fun e w' => ∃ (g : FM), e = .returned (Value.string r1) ∧ FM.le f g ∧ St t w' g H) := by
  unfold strconv_FormatInt at h
  have hq_ := guard_some h; clear h; obtain ⟨h0, h⟩ := hq_
  have hq_ := guard_some h; clear h; obtain ⟨h1, h⟩ := hq_
  have hq_ := guard_some h; clear h; obtain ⟨h2, h⟩ := hq_
  injection h with h; subst h
  subst h0
  exact (itoa_calls (n := n) (fun w_ ht_ => Tryz.strconv_FormatInt_10 n h1 h2 w_ ht_) HS (HT.tab HS)).mono fun e w' ⟨he, hs⟩ => ⟨f, he, FM.le.refl _, hs⟩

set_option maxRecDepth 100000 in
set_option maxHeartbeats 4000000 in
theorem spymake_Cards_1.calls (k : Nat)  (key1 : ByteArray) (n2 : Int) (unit3 : ByteArray) {t w : World} {f : FM} {H : List Seg} (HS : St t w f (H)) (HT : TabF Tryz.prog "internal/strconv.uint64pow10" .u64 Go.Lib.pow10Tab f) (rr1 : S_Card) (h : spymake_Cards_1 k key1 n2 unit3 = some rr1) :
    Calls Tryz.prog 39 #[.string key1, .int .i64 n2, .string unit3] w (fun e w' => ∃ (g : FM), e = .returned (Value.agg #[.string rr1.Key, .string rr1.Value, .string rr1.Unit, .string rr1.Note]) ∧ FM.le f g ∧ St t w' g (H)) := by
 unfold spymake_Cards_1 at h
 refine enter Tryz.func39 rfl (tm := #[.string key1, iV n2, .string unit3, uV, uV, uV, uV, uV, uV, uV, uV, uV]) kr ?_
 intro B hret hnor hnp
 refine wp_seq_k fun K4 hK5 => rl ?_
 refine seqK rfl (does_alloc (z := Value.agg #[.string ⟨#[]⟩, .string ⟨#[]⟩, .string ⟨#[]⟩, .string ⟨#[]⟩]) (cs := #[.string ⟨#[]⟩, .string ⟨#[]⟩, .string ⟨#[]⟩, .string ⟨#[]⟩]) rfl kr rfl HS ?_)
 intro b6 W7 HS8
 refine nl (hK5 _ _ ?_)
 refine wp_seq_k fun K10 hK11 => rl ?_
 have hq_ := bind_some h; clear h; obtain ⟨vt12, hc13, h⟩ := hq_
 refine seqL2 kr ?_
 refine seqK rfl (does_call (f := 40) (args := #[.int .i64 n2, .int .i64 10]) kr (strconv_FormatInt.calls k n2 10 HS8 HT vt12 hc13) ?_)
 rintro _ W16 ⟨f14, rfl, L15, HS17⟩
 refine ⟨_, rfl, ?_⟩
 refine seqL2 kr ?_
 refine seqK rfl (does_store (n := 4) (vs := [.string key1, .string vt12, .string unit3, .string ⟨#[]⟩]) (cs' := #[.string key1, .string vt12, .string unit3, .string ⟨#[]⟩]) rfl kr (kv (.pointer (some ⟨b6, 0, none⟩))) (kv (.agg #[.string key1, .string vt12, .string unit3, .string ⟨#[]⟩])) rfl rfl (by intro u_ hu_; simp only [List.mem_cons, List.not_mem_nil, or_false] at hu_; rcases hu_ with rfl | rfl | rfl | rfl <;> rfl) HS17 (Nat.le_of_ble_eq_true rfl) kr ?_)
 intro W18 HS19
 refine nl (hK11 _ _ ?_)
 refine wp_ret ?_
 refine hret _ _ ?_
 refine ends (v := Value.agg #[.string key1, .string vt12, .string unit3, .string ⟨#[]⟩]) (results1 (q1 := .cell 6 98) kr (resN (n := 4) (cs := [.string key1, .string vt12, .string unit3, .string ⟨#[]⟩]) (kv (.pointer (some ⟨b6, 0, none⟩))) Tryz.underlying98 rfl kr rfl (HS19.cells 0 4 _ rfl))) kr ?_
 have HS20 := HS19.drop
 injection h with h
 subst h
 exact ⟨f14, rfl, L15, HS20⟩

set_option maxRecDepth 100000 in
set_option maxHeartbeats 4000000 in
theorem spymake_Cards.calls (k : Nat) (A2 : Option Addr) (c3 : Nat) (x1 : S_Shot) {t w : World} {f : FM} {H : List Seg} (HS : St t w f (H)) (HR4 : SlR ty_Hit f A2 c3 x1.Hits) (HT : TabF Tryz.prog "internal/strconv.uint64pow10" .u64 Go.Lib.pow10Tab f) (rr1 : List S_Card) (h : spymake_Cards k x1 = some rr1) :
    Calls Tryz.prog 25 #[.agg #[.int .i64 x1.Kind, .int .u64 x1.Seed, .int .i64 x1.Number, .int .i64 x1.Begin, .int .i64 x1.Beats, .int .i64 x1.Plate.A, .int .i64 x1.Plate.B, .int .i64 x1.Plate.C, .int .i64 x1.Plate.D, .int .i64 x1.Seeing, .int .i64 x1.DriftX, .int .i64 x1.DriftY, .int .i64 x1.Lamp, .slice A2 x1.Hits.length c3]] w (fun e w' => ∃ (g : FM) (A265 : Option Addr) (c266 : Nat) (s267 : Seg), e = .returned (Value.slice A265 rr1.length c266) ∧ FM.le f g ∧ St t w' g (s267 :: H) ∧ Own ty_Card 98 g A265 c266 s267 rr1) := by
 unfold spymake_Cards at h
 refine enter Tryz.func25 rfl (tm := #[(ag_Shot x1 A2 c3), uV, uV, uV, uV, uV, uV, uV, uV, uV, uV, uV, uV, uV, uV, uV, uV, uV, uV, uV, uV, uV, uV, uV, uV, uV, uV, uV, uV, uV, uV, uV, uV, uV, uV, uV, uV, uV, uV, uV, uV, uV, uV, uV, uV, uV, uV, uV, uV, uV, uV, uV, uV, uV, uV, uV, uV, uV, uV, uV, uV, uV, uV, uV, uV, uV, uV, uV, uV, uV, uV, uV, uV, uV, uV, uV, uV, uV]) kr ?_
 intro B hret hnor hnp
 refine wp_seq_k fun K5 hK6 => rl ?_
 refine seqK rfl (does_box (cs := #[.int .i64 x1.Kind, .int .u64 x1.Seed, .int .i64 x1.Number, .int .i64 x1.Begin, .int .i64 x1.Beats, .int .i64 x1.Plate.A, .int .i64 x1.Plate.B, .int .i64 x1.Plate.C, .int .i64 x1.Plate.D, .int .i64 x1.Seeing, .int .i64 x1.DriftX, .int .i64 x1.DriftY, .int .i64 x1.Lamp, .slice A2 x1.Hits.length c3]) rfl (kv (.agg #[.int .i64 x1.Kind, .int .u64 x1.Seed, .int .i64 x1.Number, .int .i64 x1.Begin, .int .i64 x1.Beats, .int .i64 x1.Plate.A, .int .i64 x1.Plate.B, .int .i64 x1.Plate.C, .int .i64 x1.Plate.D, .int .i64 x1.Seeing, .int .i64 x1.DriftX, .int .i64 x1.DriftY, .int .i64 x1.Lamp, .slice A2 x1.Hits.length c3])) rfl HS ?_)
 intro b7 W8 HS9
 refine seqL1 kr ?_
 refine nl (hK6 _ _ ?_)
 refine wp_seq_k fun K11 hK12 => rl ?_
 refine seqL1 kr ?_
 refine nl (hK12 _ _ ?_)
 refine wp_seq_k fun K13 hK14 => rl ?_
 refine seqK rfl (does_lit (e := tStr) (E := 9) (vs := #[(0, Value.string ⟨#[98, 105, 97, 115]⟩), (1, Value.string ⟨#[100, 97, 114, 107]⟩), (2, Value.string ⟨#[102, 108, 97, 116]⟩), (3, Value.string ⟨#[115, 99, 105, 101, 110, 99, 101]⟩)]) (cs := #[.string ⟨#[98, 105, 97, 115]⟩, .string ⟨#[100, 97, 114, 107]⟩, .string ⟨#[102, 108, 97, 116]⟩, .string ⟨#[115, 99, 105, 101, 110, 99, 101]⟩]) (xs := ([(⟨#[98, 105, 97, 115]⟩ : ByteArray), (⟨#[100, 97, 114, 107]⟩ : ByteArray), (⟨#[102, 108, 97, 116]⟩ : ByteArray), (⟨#[115, 99, 105, 101, 110, 99, 101]⟩ : ByteArray)] : List ByteArray)) rfl Tryz.underlying101 kr kr ⟨[.string ⟨#[98, 105, 97, 115]⟩], _, rfl, rfl, ⟨[.string ⟨#[100, 97, 114, 107]⟩], _, rfl, rfl, ⟨[.string ⟨#[102, 108, 97, 116]⟩], _, rfl, rfl, ⟨[.string ⟨#[115, 99, 105, 101, 110, 99, 101]⟩], _, rfl, rfl, rfl⟩⟩⟩⟩ rfl HS9 ?_ (by decide))
 intro b15 W16 s17 HS18 _ HO19
 refine seqL1 kr ?_
 refine seqK rfl (does_run (run_load rfl Tryz.underlying3 rfl (kv (.pointer (some ⟨b7, 0, none⟩))) (HS18.u1.cell 0)) ?_)
 have hq_ := bind_some h; clear h; obtain ⟨vt21, hc22, h⟩ := hq_
 refine seqK rfl (does_call (f := 27) (args := #[.int .i64 x1.Kind, .int .i64 4]) kr (spymake_Below.calls k x1.Kind 4 HS18 vt21 hc22) ?_)
 rintro _ W25 ⟨f23, rfl, L24, HS26⟩
 refine ⟨_, rfl, ?_⟩
 have hq_ := guard_some h; clear h; obtain ⟨c27, h⟩ := hq_
 have c27 : 0 ≤ vt21 := c27
 have hq_ := guard_some h; clear h; obtain ⟨c28, h⟩ := hq_
 have c28 : vt21 < (([(⟨#[98, 105, 97, 115]⟩ : ByteArray), (⟨#[100, 97, 114, 107]⟩ : ByteArray), (⟨#[102, 108, 97, 116]⟩ : ByteArray), (⟨#[115, 99, 105, 101, 110, 99, 101]⟩ : ByteArray)] : List ByteArray).length : Int) := c28
 obtain ⟨cs29, hr30, hc31⟩ := (HO19.mono L24).at' (i := vt21) c27 c28
 obtain rfl := hr30
 refine seqK rfl (does_run (run_index (sz := 1) rfl Tryz.underlying101 kr (kv (.slice (some ⟨b15, 0, none⟩) ([(⟨#[98, 105, 97, 115]⟩ : ByteArray), (⟨#[100, 97, 114, 107]⟩ : ByteArray), (⟨#[102, 108, 97, 116]⟩ : ByteArray), (⟨#[115, 99, 105, 101, 110, 99, 101]⟩ : ByteArray)] : List ByteArray).length 4)) (kv (.int .i64 vt21)) c27 c28 W25) ?_)
 refine seqK rfl (does_run (run_load rfl Tryz.underlying9 rfl (kv (.pointer (some ⟨b15, 0 + (vt21 : Int).toNat * 1, none⟩))) ((hc31 HS26) 0 (by decide))) ?_)
 refine seqL1 kr ?_
 refine nl (hK14 _ _ ?_)
 refine wp_seq_k (fun K32 hK33 => ?_)
 refine heldG (S := Sg t f23 (s17 :: [(b7, .cells #[.int .i64 x1.Kind, .int .u64 x1.Seed, .int .i64 x1.Number, .int .i64 x1.Begin, .int .i64 x1.Beats, .int .i64 x1.Plate.A, .int .i64 x1.Plate.B, .int .i64 x1.Plate.C, .int .i64 x1.Plate.D, .int .i64 x1.Seeing, .int .i64 x1.DriftX, .int .i64 x1.DriftY, .int .i64 x1.Lamp, .slice A2 x1.Hits.length c3] 77 (0, 0))] :: H) []) (n := 16) kr rfl HS26 ?_
 intro W34 HS35
 refine takeGL [0, 1, 2, 3] (n := 16) (fuel := 12) #[true, true, true, true, false, false, false, false, false, false, false, false, false, false, false, false] rfl kr kr kr hnp (Sg.g0 (Sx.of [] (FM.le.refl _) HS35)) ?_
 refine takeGQ 4 [] rfl kr kr kr kr kr kr hnp (Sg.g0 (Sx.of [] (FM.le.refl _) HS35)) (fun w_ hw_ => by obtain ⟨g_, hl_, hS_⟩ := hw_.st; exact run_load rfl Tryz.underlying3 rfl (kv (.pointer (some ⟨b7, 2, none⟩))) (hS_.u1.cell 2)) ?_
 refine takeGL [6, 7] (n := 11) (fuel := 9) #[true, true, true, true, true, false, true, true, false, false, false, false, false, false, false, false] rfl kr kr kr hnp (Sg.g0 (Sx.of [] (FM.le.refl _) HS35)) ?_
 refine takeGQ 8 [] rfl kr kr kr kr kr kr hnp (Sg.g0 (Sx.of [] (FM.le.refl _) HS35)) (fun w_ hw_ => by obtain ⟨g_, hl_, hS_⟩ := hw_.st; exact run_load rfl Tryz.underlying71 rfl (kv (.pointer (some ⟨b7, 3, none⟩))) (hS_.u1.cell 3)) ?_
 refine takeGL [10, 11] (n := 8) (fuel := 6) #[true, true, true, true, true, false, true, true, true, false, true, true, false, false, false, false] rfl kr kr kr hnp (Sg.g0 (Sx.of [] (FM.le.refl _) HS35)) ?_
 refine takeGQ 12 [] rfl kr kr kr kr kr kr hnp (Sg.g0 (Sx.of [] (FM.le.refl _) HS35)) (fun w_ hw_ => by obtain ⟨g_, hl_, hS_⟩ := hw_.st; exact run_load rfl Tryz.underlying3 rfl (kv (.pointer (some ⟨b7, 4, none⟩))) (hS_.u1.cell 4)) ?_
 have hq_ := bind_some h; clear h; obtain ⟨vt36, hc37, h⟩ := hq_
 refine takeGE 5 kr rfl kr (does_call (f := 39) (args := #[.string ⟨#[78, 85, 77, 66, 69, 82]⟩, .int .i64 x1.Number, .string ⟨#[]⟩]) kr (spymake_Cards_1.calls k (⟨#[78, 85, 77, 66, 69, 82]⟩ : ByteArray) x1.Number (⟨#[]⟩ : ByteArray) HS35 (HT.mono L24) vt36 hc37) ?_)
 rintro _ W40 ⟨f38, rfl, L39, HS41⟩
 refine ⟨_, rfl, ?_⟩
 refine ⟨(Sg.g0 (Sx.of [] L39 HS41)), ?_⟩
 have hq_ := bind_some h; clear h; obtain ⟨vt42, hc43, h⟩ := hq_
 refine takeGE 9 kr rfl kr (does_call (f := 39) (args := #[.string ⟨#[66, 69, 71, 73, 78]⟩, .int .i64 x1.Begin, .string ⟨#[116, 105, 99, 107]⟩]) kr (spymake_Cards_1.calls k (⟨#[66, 69, 71, 73, 78]⟩ : ByteArray) x1.Begin (⟨#[116, 105, 99, 107]⟩ : ByteArray) HS41 (HT.mono (L24.trans L39)) vt42 hc43) ?_)
 rintro _ W46 ⟨f44, rfl, L45, HS47⟩
 refine ⟨_, rfl, ?_⟩
 refine ⟨(Sg.g0 (Sx.of [] (L39.trans L45) HS47)), ?_⟩
 have hq_ := bind_some h; clear h; obtain ⟨vt48, hc49, h⟩ := hq_
 refine takeGE 13 kr rfl kr (does_call (f := 39) (args := #[.string ⟨#[66, 69, 65, 84, 83]⟩, .int .i64 x1.Beats, .string ⟨#[98, 101, 97, 116]⟩]) kr (spymake_Cards_1.calls k (⟨#[66, 69, 65, 84, 83]⟩ : ByteArray) x1.Beats (⟨#[98, 101, 97, 116]⟩ : ByteArray) HS47 (HT.mono (L24.trans (L39.trans L45))) vt48 hc49) ?_)
 rintro _ W52 ⟨f50, rfl, L51, HS53⟩
 refine ⟨_, rfl, ?_⟩
 refine ⟨(Sg.g0 (Sx.of [] (L39.trans (L45.trans L51)) HS53)), ?_⟩
 refine takeGE 14 kr rfl kr (does_lit (e := ty_Card) (E := 98) (vs := #[(0, Value.agg #[.string ⟨#[75, 73, 78, 68]⟩, .string (rd ([(⟨#[98, 105, 97, 115]⟩ : ByteArray), (⟨#[100, 97, 114, 107]⟩ : ByteArray), (⟨#[102, 108, 97, 116]⟩ : ByteArray), (⟨#[115, 99, 105, 101, 110, 99, 101]⟩ : ByteArray)] : List ByteArray) vt21), .string ⟨#[]⟩, .string ⟨#[]⟩]), (1, Value.agg #[.string vt36.Key, .string vt36.Value, .string vt36.Unit, .string vt36.Note]), (2, Value.agg #[.string vt42.Key, .string vt42.Value, .string vt42.Unit, .string vt42.Note]), (3, Value.agg #[.string vt48.Key, .string vt48.Value, .string vt48.Unit, .string vt48.Note])]) (cs := #[.string ⟨#[75, 73, 78, 68]⟩, .string (rd ([(⟨#[98, 105, 97, 115]⟩ : ByteArray), (⟨#[100, 97, 114, 107]⟩ : ByteArray), (⟨#[102, 108, 97, 116]⟩ : ByteArray), (⟨#[115, 99, 105, 101, 110, 99, 101]⟩ : ByteArray)] : List ByteArray) vt21), .string ⟨#[]⟩, .string ⟨#[]⟩, .string vt36.Key, .string vt36.Value, .string vt36.Unit, .string vt36.Note, .string vt42.Key, .string vt42.Value, .string vt42.Unit, .string vt42.Note, .string vt48.Key, .string vt48.Value, .string vt48.Unit, .string vt48.Note]) (xs := ([(⟨(⟨#[75, 73, 78, 68]⟩ : ByteArray), (rd ([(⟨#[98, 105, 97, 115]⟩ : ByteArray), (⟨#[100, 97, 114, 107]⟩ : ByteArray), (⟨#[102, 108, 97, 116]⟩ : ByteArray), (⟨#[115, 99, 105, 101, 110, 99, 101]⟩ : ByteArray)] : List ByteArray) vt21), (⟨#[]⟩ : ByteArray), (⟨#[]⟩ : ByteArray)⟩ : S_Card), vt36, vt42, vt48] : List S_Card)) rfl Tryz.underlying52 kr kr ⟨[.string ⟨#[75, 73, 78, 68]⟩, .string (rd ([(⟨#[98, 105, 97, 115]⟩ : ByteArray), (⟨#[100, 97, 114, 107]⟩ : ByteArray), (⟨#[102, 108, 97, 116]⟩ : ByteArray), (⟨#[115, 99, 105, 101, 110, 99, 101]⟩ : ByteArray)] : List ByteArray) vt21), .string ⟨#[]⟩, .string ⟨#[]⟩], _, rfl, rfl, ⟨[.string vt36.Key, .string vt36.Value, .string vt36.Unit, .string vt36.Note], _, rfl, rfl, ⟨[.string vt42.Key, .string vt42.Value, .string vt42.Unit, .string vt42.Note], _, rfl, rfl, ⟨[.string vt48.Key, .string vt48.Value, .string vt48.Unit, .string vt48.Note], _, rfl, rfl, rfl⟩⟩⟩⟩ rfl HS53 ?_ (by decide))
 intro b54 W55 s56 HS57 _ HO58
 refine ⟨(Sg.g0 (Sx.of [s56] (L39.trans (L45.trans L51)) HS57)), ?_⟩
 refine takeGL [15] (n := 1) (fuel := 0) #[true, true, true, true, true, true, true, true, true, true, true, true, true, true, true, true] rfl kr kr kr hnp (Sg.g0 (Sx.of [s56] (L39.trans (L45.trans L51)) HS57)) ?_
 refine doneG kr ?_ _
 refine hK33 _ _ ?_
 refine wp_seq_k (fun K60 hK61 => ?_)
 refine wp_seq_k fun K62 hK63 => rl ?_
 refine seqL1 kr ?_
 refine seqK rfl (does_run (run_load rfl Tryz.underlying3 rfl (kv (.pointer (some ⟨b7, 0, none⟩))) (HS57.u2.cell 0)) ?_)
 refine seqL1 kr ?_
 refine nl (hK63 _ _ ?_)
 have hq_ := ite_some h; clear h; rcases hq_ with ⟨c65, h⟩ | ⟨c65, h⟩
 · have c65 : x1.Kind ≠ 3 := c65
   refine wpRwI 31 (x := (x1.Kind != 3)) (v := true) kr (bne_iff_ne.mpr c65) ?_
   refine condT kr ?_
   refine wp_seq_k fun K66 hK67 => rl ?_
   refine seqL2 kr ?_
   refine nl (hK67 _ _ ?_)
   refine wp_ret ?_
   refine hret _ _ ?_
   refine ends_still (v := Value.slice (some ⟨b54, 0, none⟩) ([(⟨(⟨#[75, 73, 78, 68]⟩ : ByteArray), (rd ([(⟨#[98, 105, 97, 115]⟩ : ByteArray), (⟨#[100, 97, 114, 107]⟩ : ByteArray), (⟨#[102, 108, 97, 116]⟩ : ByteArray), (⟨#[115, 99, 105, 101, 110, 99, 101]⟩ : ByteArray)] : List ByteArray) vt21), (⟨#[]⟩ : ByteArray), (⟨#[]⟩ : ByteArray)⟩ : S_Card), vt36, vt42, vt48] : List S_Card).length 4) kr kr ?_
   have HS257 := HS57.u2
   have HS258 := HS257.u2
   have HS259 := HS258.drop
   have HS260 := HS259.drop
   injection h with h
   subst h
   exact ⟨f50, (some ⟨b54, 0, none⟩), 4, s56, rfl, (L24.trans (L39.trans (L45.trans L51))), HS260, HO58⟩
 · have c65 : ¬ (x1.Kind ≠ 3) := c65
   refine wpRwI 31 (x := (x1.Kind != 3)) (v := false) kr (bne_eq_false_iff_eq.mpr (Decidable.of_not_not c65)) ?_
   refine condF kr ?_
   refine wp_skip ?_
   refine hK61 _ _ ?_
   refine wp_seq_k (fun K68 hK69 => ?_)
   refine wp_seq_k fun K70 hK71 => rl ?_
   refine seqL2 kr ?_
   refine seqK rfl (does_run (run_load rfl Tryz.underlying2 rfl (kv (.pointer (some ⟨b7, 5, none⟩))) (HS57.u2.cell 5)) ?_)
   refine seqL2 kr ?_
   refine seqK rfl (does_run (run_load rfl Tryz.underlying2 rfl (kv (.pointer (some ⟨b7, 6, none⟩))) (HS57.u2.cell 6)) ?_)
   refine seqL2 kr ?_
   refine seqK rfl (does_run (run_load rfl Tryz.underlying2 rfl (kv (.pointer (some ⟨b7, 7, none⟩))) (HS57.u2.cell 7)) ?_)
   refine seqL2 kr ?_
   refine seqK rfl (does_run (run_load rfl Tryz.underlying2 rfl (kv (.pointer (some ⟨b7, 8, none⟩))) (HS57.u2.cell 8)) ?_)
   refine seqL2 kr ?_
   refine nl (hK71 _ _ ?_)
   refine blockK (fun B72 hx73 hn74 hr75 ho76 hp77 => ?_)
   have hq_ := bind_some h; clear h; obtain ⟨o138, hv209, h⟩ := hq_
   have J210 : ∀ (f199 : FM) (A205 : Option Addr) (c206 : Nat) (s207 : Seg) (out204 : List S_Card) (j203 : Nat → Value) (W201 : World) (a_ : Act), FM.le f50 f199 → some (out204) = some o138 → St t W201 f199 (s207 :: s17 :: [(b7, .cells #[.int .i64 x1.Kind, .int .u64 x1.Seed, .int .i64 x1.Number, .int .i64 x1.Begin, .int .i64 x1.Beats, .int .i64 x1.Plate.A, .int .i64 x1.Plate.B, .int .i64 x1.Plate.C, .int .i64 x1.Plate.D, .int .i64 x1.Seeing, .int .i64 x1.DriftX, .int .i64 x1.DriftY, .int .i64 x1.Lamp, .slice A2 x1.Hits.length c3] 77 (0, 0))] :: H) → Own ty_Card 98 f199 A205 c206 s207 out204 → a_ = ⟨#[(ag_Shot x1 A2 c3), pV b7 0, .slice none 0 0, .func (.func 39) #[] #[], .string (rd ([(⟨#[98, 105, 97, 115]⟩ : ByteArray), (⟨#[100, 97, 114, 107]⟩ : ByteArray), (⟨#[102, 108, 97, 116]⟩ : ByteArray), (⟨#[115, 99, 105, 101, 110, 99, 101]⟩ : ByteArray)] : List ByteArray) vt21), .slice A205 out204.length c206, (j203 0), (j203 1), .slice (some ⟨b15, 0, none⟩) ([(⟨#[98, 105, 97, 115]⟩ : ByteArray), (⟨#[100, 97, 114, 107]⟩ : ByteArray), (⟨#[102, 108, 97, 116]⟩ : ByteArray), (⟨#[115, 99, 105, 101, 110, 99, 101]⟩ : ByteArray)] : List ByteArray).length 4, pV b7 0, iV x1.Kind, iV vt21, pV b15 (0 + (vt21 : Int).toNat * 1), .string (rd ([(⟨#[98, 105, 97, 115]⟩ : ByteArray), (⟨#[100, 97, 114, 107]⟩ : ByteArray), (⟨#[102, 108, 97, 116]⟩ : ByteArray), (⟨#[115, 99, 105, 101, 110, 99, 101]⟩ : ByteArray)] : List ByteArray) vt21), .string (rd ([(⟨#[98, 105, 97, 115]⟩ : ByteArray), (⟨#[100, 97, 114, 107]⟩ : ByteArray), (⟨#[102, 108, 97, 116]⟩ : ByteArray), (⟨#[115, 99, 105, 101, 110, 99, 101]⟩ : ByteArray)] : List ByteArray) vt21), .agg #[.string ⟨#[75, 73, 78, 68]⟩, .string (rd ([(⟨#[98, 105, 97, 115]⟩ : ByteArray), (⟨#[100, 97, 114, 107]⟩ : ByteArray), (⟨#[102, 108, 97, 116]⟩ : ByteArray), (⟨#[115, 99, 105, 101, 110, 99, 101]⟩ : ByteArray)] : List ByteArray) vt21), .string ⟨#[]⟩, .string ⟨#[]⟩], .func (.func 39) #[] #[], pV b7 2, iV x1.Number, (ag_Card vt36), .func (.func 39) #[] #[], pV b7 3, iV x1.Begin, (ag_Card vt42), .func (.func 39) #[] #[], pV b7 4, iV x1.Beats, (ag_Card vt48), .slice (some ⟨b54, 0, none⟩) ([(⟨(⟨#[75, 73, 78, 68]⟩ : ByteArray), (rd ([(⟨#[98, 105, 97, 115]⟩ : ByteArray), (⟨#[100, 97, 114, 107]⟩ : ByteArray), (⟨#[102, 108, 97, 116]⟩ : ByteArray), (⟨#[115, 99, 105, 101, 110, 99, 101]⟩ : ByteArray)] : List ByteArray) vt21), (⟨#[]⟩ : ByteArray), (⟨#[]⟩ : ByteArray)⟩ : S_Card), vt36, vt42, vt48] : List S_Card).length 4, pV b7 0, iV x1.Kind, fV, uV, pV b7 5, pV b7 5, iV x1.Plate.A, pV b7 5, pV b7 6, iV x1.Plate.B, pV b7 5, pV b7 7, iV x1.Plate.C, pV b7 5, pV b7 8, iV x1.Plate.D, .agg #[iV x1.Plate.A, iV x1.Plate.B, iV x1.Plate.C, iV x1.Plate.D], (j203 2), (j203 3), (j203 4), (j203 5), (j203 6), (j203 7), (j203 8), (j203 9), (j203 10), (j203 11), (j203 12), (j203 13), (j203 14), (j203 15), (j203 16), (j203 17), (j203 18), uV, uV, uV, uV, uV, uV, uV, uV, uV, uV, uV, uV, uV, uV, uV], []⟩ → K68 a_ W201 := by
    intro f199 A205 c206 s207 out204 j203 W201 a_ L200 hj211 HS202 HO208 hfr_; subst hfr_
    injection hj211 with hj211; subst hj211; try dsimp only at h
    refine hK69 _ _ ?_
    refine wp_seq_k (fun K217 hK218 => ?_)
    have HS219 := HS202.u2
    have HS220 := HS219.u2
    have HS221 := HS220.u2
    refine heldG (S := Sg t f199 (s17 :: [(b7, .cells #[.int .i64 x1.Kind, .int .u64 x1.Seed, .int .i64 x1.Number, .int .i64 x1.Begin, .int .i64 x1.Beats, .int .i64 x1.Plate.A, .int .i64 x1.Plate.B, .int .i64 x1.Plate.C, .int .i64 x1.Plate.D, .int .i64 x1.Seeing, .int .i64 x1.DriftX, .int .i64 x1.DriftY, .int .i64 x1.Lamp, .slice A2 x1.Hits.length c3] 77 (0, 0))] :: H) [(14, s207)]) (n := 16) kr rfl HS221 ?_
    intro W222 HS223
    refine takeGL [0, 1, 2] (n := 16) (fuel := 13) #[true, true, true, false, false, false, false, false, false, false, false, false, false, false, false, false] rfl kr kr kr hnp (Sg.g1 (Sx.of [s207] (FM.le.refl _) HS223) (fun _ => St.only [] HS223 (FM.le.refl _))) ?_
    refine takeGQ 3 [] rfl kr kr kr kr kr kr hnp (Sg.g1 (Sx.of [s207] (FM.le.refl _) HS223) (fun _ => St.only [] HS223 (FM.le.refl _))) (fun w_ hw_ => by obtain ⟨g_, hl_, hS_⟩ := hw_.st; exact run_load rfl Tryz.underlying3 rfl (kv (.pointer (some ⟨b7, 9, none⟩))) (hS_.u1.cell 9)) ?_
    refine takeGL [5, 6] (n := 12) (fuel := 10) #[true, true, true, true, false, true, true, false, false, false, false, false, false, false, false, false] rfl kr kr kr hnp (Sg.g1 (Sx.of [s207] (FM.le.refl _) HS223) (fun _ => St.only [] HS223 (FM.le.refl _))) ?_
    refine takeGQ 7 [] rfl kr kr kr kr kr kr hnp (Sg.g1 (Sx.of [s207] (FM.le.refl _) HS223) (fun _ => St.only [] HS223 (FM.le.refl _))) (fun w_ hw_ => by obtain ⟨g_, hl_, hS_⟩ := hw_.st; exact run_load rfl Tryz.underlying74 rfl (kv (.pointer (some ⟨b7, 10, none⟩))) (hS_.u1.cell 10)) ?_
    refine takeGL [9, 10] (n := 9) (fuel := 7) #[true, true, true, true, false, true, true, true, false, true, true, false, false, false, false, false] rfl kr kr kr hnp (Sg.g1 (Sx.of [s207] (FM.le.refl _) HS223) (fun _ => St.only [] HS223 (FM.le.refl _))) ?_
    refine takeGQ 11 [] rfl kr kr kr kr kr kr hnp (Sg.g1 (Sx.of [s207] (FM.le.refl _) HS223) (fun _ => St.only [] HS223 (FM.le.refl _))) (fun w_ hw_ => by obtain ⟨g_, hl_, hS_⟩ := hw_.st; exact run_load rfl Tryz.underlying74 rfl (kv (.pointer (some ⟨b7, 11, none⟩))) (hS_.u1.cell 11)) ?_
    have hq_ := bind_some h; clear h; obtain ⟨vt224, hc225, h⟩ := hq_
    refine takeGE 4 kr rfl kr (does_call (f := 39) (args := #[.string ⟨#[83, 69, 69, 73, 78, 71]⟩, .int .i64 x1.Seeing, .string ⟨#[99, 101, 108, 108]⟩]) kr (spymake_Cards_1.calls k (⟨#[83, 69, 69, 73, 78, 71]⟩ : ByteArray) x1.Seeing (⟨#[99, 101, 108, 108]⟩ : ByteArray) HS223 (HT.mono (L24.trans (L39.trans (L45.trans (L51.trans L200))))) vt224 hc225) ?_)
    rintro _ W228 ⟨f226, rfl, L227, HS229⟩
    refine ⟨_, rfl, ?_⟩
    refine ⟨(Sg.g1 (Sx.of [s207] L227 HS229) (fun _ => St.only [] HS229 L227)), ?_⟩
    have hq_ := bind_some h; clear h; obtain ⟨vt230, hc231, h⟩ := hq_
    refine takeGE 8 kr rfl kr (does_call (f := 39) (args := #[.string ⟨#[68, 82, 73, 70, 84, 45, 88]⟩, .int .i64 x1.DriftX, .string ⟨#[115, 117, 98]⟩]) kr (spymake_Cards_1.calls k (⟨#[68, 82, 73, 70, 84, 45, 88]⟩ : ByteArray) x1.DriftX (⟨#[115, 117, 98]⟩ : ByteArray) HS229 (HT.mono (L24.trans (L39.trans (L45.trans (L51.trans (L200.trans L227)))))) vt230 hc231) ?_)
    rintro _ W234 ⟨f232, rfl, L233, HS235⟩
    refine ⟨_, rfl, ?_⟩
    refine ⟨(Sg.g1 (Sx.of [s207] (L227.trans L233) HS235) (fun _ => St.only [] HS235 (L227.trans L233))), ?_⟩
    have hq_ := bind_some h; clear h; obtain ⟨vt236, hc237, h⟩ := hq_
    refine takeGE 12 kr rfl kr (does_call (f := 39) (args := #[.string ⟨#[68, 82, 73, 70, 84, 45, 89]⟩, .int .i64 x1.DriftY, .string ⟨#[115, 117, 98]⟩]) kr (spymake_Cards_1.calls k (⟨#[68, 82, 73, 70, 84, 45, 89]⟩ : ByteArray) x1.DriftY (⟨#[115, 117, 98]⟩ : ByteArray) HS235 (HT.mono (L24.trans (L39.trans (L45.trans (L51.trans (L200.trans (L227.trans L233))))))) vt236 hc237) ?_)
    rintro _ W240 ⟨f238, rfl, L239, HS241⟩
    refine ⟨_, rfl, ?_⟩
    refine ⟨(Sg.g1 (Sx.of [s207] (L227.trans (L233.trans L239)) HS241) (fun _ => St.only [] HS241 (L227.trans (L233.trans L239)))), ?_⟩
    refine takeGE 13 kr rfl kr (does_lit (e := ty_Card) (E := 98) (vs := #[(0, Value.agg #[.string vt224.Key, .string vt224.Value, .string vt224.Unit, .string vt224.Note]), (1, Value.agg #[.string vt230.Key, .string vt230.Value, .string vt230.Unit, .string vt230.Note]), (2, Value.agg #[.string vt236.Key, .string vt236.Value, .string vt236.Unit, .string vt236.Note])]) (cs := #[.string vt224.Key, .string vt224.Value, .string vt224.Unit, .string vt224.Note, .string vt230.Key, .string vt230.Value, .string vt230.Unit, .string vt230.Note, .string vt236.Key, .string vt236.Value, .string vt236.Unit, .string vt236.Note]) (xs := ([vt224, vt230, vt236] : List S_Card)) rfl Tryz.underlying52 kr kr ⟨[.string vt224.Key, .string vt224.Value, .string vt224.Unit, .string vt224.Note], _, rfl, rfl, ⟨[.string vt230.Key, .string vt230.Value, .string vt230.Unit, .string vt230.Note], _, rfl, rfl, ⟨[.string vt236.Key, .string vt236.Value, .string vt236.Unit, .string vt236.Note], _, rfl, rfl, rfl⟩⟩⟩ rfl HS241 ?_ (by decide))
    intro b242 W243 s244 HS245 _ HO246
    refine ⟨(Sg.g1 (Sx.of [s244, s207] (L227.trans (L233.trans L239)) HS245) (fun _ => St.only [s244] HS245 (L227.trans (L233.trans L239)))), ?_⟩
    have hq_ := guard_some h; clear h; obtain ⟨c248, h⟩ := hq_
    have c248 : (out204.length + 3) * 64 ≤ 140737488355328 := c248
    have HS249 := HS245.u1
    have HS250 := HS249.u1
    refine takeGE 14 kr rfl kr (does_append1 (e := ty_Card) (E := 98) (xs := out204) (ys := ([vt224, vt230, vt236] : List S_Card)) rfl (kv (.slice A205 out204.length c206)) (kv (.slice (some ⟨b242, 0, none⟩) ([vt224, vt230, vt236] : List S_Card).length 3)) Tryz.underlying52 inf98 (HO208.mono (L227.trans (L233.trans L239))) HO246 HS250 c248 (lim63 c248 (by decide)) ?_)
    intro A251 c252 s253 W254 HS255 HO256
    refine ⟨(Sg.g1 (Sx.of [s253] (L227.trans (L233.trans L239)) HS255) (fun hl_ => Bool.noConfusion (show true = false from hl_))), ?_⟩
    refine takeGL [15] (n := 1) (fuel := 0) #[true, true, true, true, true, true, true, true, true, true, true, true, true, true, true, true] rfl kr kr kr hnp (Sg.g1 (Sx.of [s253] (L227.trans (L233.trans L239)) HS255) (fun hl_ => Bool.noConfusion (show true = false from hl_))) ?_
    refine doneG kr ?_ _
    refine hK218 _ _ ?_
    refine wp_ret ?_
    refine hret _ _ ?_
    refine ends_still (v := Value.slice A251 (out204 ++ ([vt224, vt230, vt236] : List S_Card)).length c252) kr kr ?_
    have HS261 := HS255.u2
    have HS262 := HS261.u2
    have HS263 := HS262.drop
    have HS264 := HS263.drop
    injection h with h
    subst h
    exact ⟨f238, A251, c252, s253, rfl, (L24.trans (L39.trans (L45.trans (L51.trans (L200.trans (L227.trans (L233.trans L239))))))), HS264, HO256⟩
   clear h; have h := hv209; clear hv209
   refine loopK (fun n_ a_ w_ => ∃ (f142 : FM) (A148 : Option Addr) (c149 : Nat) (s150 : Seg) (out147 : List S_Card) (x152 : Int) (j146 : Nat → Value), FM.le f50 f142 ∧ St t w_ f142 (s150 :: s17 :: [(b7, .cells #[.int .i64 x1.Kind, .int .u64 x1.Seed, .int .i64 x1.Number, .int .i64 x1.Begin, .int .i64 x1.Beats, .int .i64 x1.Plate.A, .int .i64 x1.Plate.B, .int .i64 x1.Plate.C, .int .i64 x1.Plate.D, .int .i64 x1.Seeing, .int .i64 x1.DriftX, .int .i64 x1.DriftY, .int .i64 x1.Lamp, .slice A2 x1.Hits.length c3] 77 (0, 0))] :: H) ∧ Own ty_Card 98 f142 A148 c149 s150 out147 ∧ spymake_Cards.l0 k x1 n_ out147 x152 = some o138 ∧ a_ = ⟨#[(ag_Shot x1 A2 c3), pV b7 0, .slice none 0 0, .func (.func 39) #[] #[], .string (rd ([(⟨#[98, 105, 97, 115]⟩ : ByteArray), (⟨#[100, 97, 114, 107]⟩ : ByteArray), (⟨#[102, 108, 97, 116]⟩ : ByteArray), (⟨#[115, 99, 105, 101, 110, 99, 101]⟩ : ByteArray)] : List ByteArray) vt21), .slice A148 out147.length c149, (j146 0), (j146 1), .slice (some ⟨b15, 0, none⟩) ([(⟨#[98, 105, 97, 115]⟩ : ByteArray), (⟨#[100, 97, 114, 107]⟩ : ByteArray), (⟨#[102, 108, 97, 116]⟩ : ByteArray), (⟨#[115, 99, 105, 101, 110, 99, 101]⟩ : ByteArray)] : List ByteArray).length 4, pV b7 0, iV x1.Kind, iV vt21, pV b15 (0 + (vt21 : Int).toNat * 1), .string (rd ([(⟨#[98, 105, 97, 115]⟩ : ByteArray), (⟨#[100, 97, 114, 107]⟩ : ByteArray), (⟨#[102, 108, 97, 116]⟩ : ByteArray), (⟨#[115, 99, 105, 101, 110, 99, 101]⟩ : ByteArray)] : List ByteArray) vt21), .string (rd ([(⟨#[98, 105, 97, 115]⟩ : ByteArray), (⟨#[100, 97, 114, 107]⟩ : ByteArray), (⟨#[102, 108, 97, 116]⟩ : ByteArray), (⟨#[115, 99, 105, 101, 110, 99, 101]⟩ : ByteArray)] : List ByteArray) vt21), .agg #[.string ⟨#[75, 73, 78, 68]⟩, .string (rd ([(⟨#[98, 105, 97, 115]⟩ : ByteArray), (⟨#[100, 97, 114, 107]⟩ : ByteArray), (⟨#[102, 108, 97, 116]⟩ : ByteArray), (⟨#[115, 99, 105, 101, 110, 99, 101]⟩ : ByteArray)] : List ByteArray) vt21), .string ⟨#[]⟩, .string ⟨#[]⟩], .func (.func 39) #[] #[], pV b7 2, iV x1.Number, (ag_Card vt36), .func (.func 39) #[] #[], pV b7 3, iV x1.Begin, (ag_Card vt42), .func (.func 39) #[] #[], pV b7 4, iV x1.Beats, (ag_Card vt48), .slice (some ⟨b54, 0, none⟩) ([(⟨(⟨#[75, 73, 78, 68]⟩ : ByteArray), (rd ([(⟨#[98, 105, 97, 115]⟩ : ByteArray), (⟨#[100, 97, 114, 107]⟩ : ByteArray), (⟨#[102, 108, 97, 116]⟩ : ByteArray), (⟨#[115, 99, 105, 101, 110, 99, 101]⟩ : ByteArray)] : List ByteArray) vt21), (⟨#[]⟩ : ByteArray), (⟨#[]⟩ : ByteArray)⟩ : S_Card), vt36, vt42, vt48] : List S_Card).length 4, pV b7 0, iV x1.Kind, fV, uV, pV b7 5, pV b7 5, iV x1.Plate.A, pV b7 5, pV b7 6, iV x1.Plate.B, pV b7 5, pV b7 7, iV x1.Plate.C, pV b7 5, pV b7 8, iV x1.Plate.D, .agg #[iV x1.Plate.A, iV x1.Plate.B, iV x1.Plate.C, iV x1.Plate.D], iV x152, (j146 2), (j146 3), (j146 4), (j146 5), (j146 6), (j146 7), (j146 8), (j146 9), (j146 10), (j146 11), (j146 12), (j146 13), (j146 14), (j146 15), (j146 16), (j146 17), uV, uV, uV, uV, uV, uV, uV, uV, uV, uV, uV, uV, uV, uV, uV], []⟩) k ⟨f50, (some ⟨b54, 0, none⟩), 4, s56, ([(⟨(⟨#[75, 73, 78, 68]⟩ : ByteArray), (rd ([(⟨#[98, 105, 97, 115]⟩ : ByteArray), (⟨#[100, 97, 114, 107]⟩ : ByteArray), (⟨#[102, 108, 97, 116]⟩ : ByteArray), (⟨#[115, 99, 105, 101, 110, 99, 101]⟩ : ByteArray)] : List ByteArray) vt21), (⟨#[]⟩ : ByteArray), (⟨#[]⟩ : ByteArray)⟩ : S_Card), vt36, vt42, vt48] : List S_Card), 0, (fun i_ => [undef, undef, undef, undef, undef, undef, undef, undef, undef, undef, undef, undef, undef, undef, undef, undef, undef, undef].getD i_ undef), (FM.le.refl _), HS57, HO58, h, kr⟩ ?_
   clear h
   rintro n141 _ W144 ⟨f142, A148, c149, s150, out147, x152, j146, L143, HS145, HO151, h, rfl⟩ K139 hK140
   obtain _ | n141 := n141
   · exact nomatch h
   simp only [spymake_Cards.l0] at h
   refine wp_seq_k fun K153 hK154 => rl ?_
   refine seqL1 kr ?_
   refine nl (hK154 _ _ ?_)
   refine wp_seq_k (fun K155 hK156 => ?_)
   have hq_ := ite_some h; clear h; rcases hq_ with ⟨c158, h⟩ | ⟨c158, h⟩
   · have c158 : x152 < 4 := c158
     refine wpRwI 47 (x := (decide (x152 < 4))) (v := true) kr (decide_eq_true c158) ?_
     refine condT kr ?_
     refine wp_skip ?_
     refine hK156 _ _ ?_
     refine wp_seq_k (fun K159 hK160 => ?_)
     refine blockK (fun B161 hx162 hn163 hr164 ho165 hp166 => ?_)
     refine wp_seq_k fun K168 hK169 => rl ?_
     have hq_ := guard_some h; clear h; obtain ⟨c170, h⟩ := hq_
     have c170 : 0 ≤ x152 := c170
     refine seqL1 kr ?_
     refine seqK rfl (does_run (run_arr_int rfl Tryz.underlying102 kr Tryz.underlying2 (kv (.agg #[.int .i64 x1.Plate.A, .int .i64 x1.Plate.B, .int .i64 x1.Plate.C, .int .i64 x1.Plate.D])) (kv (.int .i64 x152)) (xs := [x1.Plate.A, x1.Plate.B, x1.Plate.C, x1.Plate.D]) rfl c170 c158 rfl W144) ?_)
     refine seqL2 kr ?_
     refine nl (hK169 _ _ ?_)
     refine rl ?_
     refine seqL5 kr ?_
     refine seqK rfl (does_lit (e := (tInt .u8)) (E := 5) (vs := #[(0, Value.int .u8 (u8 (w64 (65 + x152))))]) (cs := #[.int .u8 (u8 (w64 (65 + x152)))]) (xs := ([u8 (w64 (65 + x152))] : List Int)) rfl Tryz.underlying103 kr kr ⟨[.int .u8 (u8 (w64 (65 + x152)))], _, rfl, rfl, rfl⟩ rfl HS145 ?_ (by decide))
     intro b171 W172 s173 HS174 _ HO175
     refine seqK rfl (does_run (run_bstr (f := _) rfl Tryz.underlying103 Tryz.underlying5 Tryz.underlying9 (kv (.slice (some ⟨b171, 0, none⟩) ([u8 (w64 (65 + x152))] : List Int).length 1)) ((HO175.mono (FM.le.refl _)).rc HS174)) ?_)
     have hq_ := guard_some h; clear h; obtain ⟨c177, h⟩ := hq_
     have c177 : (⟨#[80, 76, 65, 84, 69, 45]⟩ : ByteArray).size + (bstr ([u8 (w64 (65 + x152))] : List Int)).size ≤ 9223372036854775807 := c177
     refine seqK rfl (does_run (run_concat rfl (kv (.string ⟨#[80, 76, 65, 84, 69, 45]⟩)) (kv (.string (bstr ([u8 (w64 (65 + x152))] : List Int)))) c177 W172) ?_)
     have hq_ := bind_some h; clear h; obtain ⟨vt178, hc179, h⟩ := hq_
     refine seqL1 kr ?_
     refine seqK rfl (does_call (f := 39) (args := #[.string ((⟨#[80, 76, 65, 84, 69, 45]⟩ : ByteArray) ++ (bstr ([u8 (w64 (65 + x152))] : List Int))), .int .i64 (rd [x1.Plate.A, x1.Plate.B, x1.Plate.C, x1.Plate.D] x152), .string ⟨#[]⟩]) kr (spymake_Cards_1.calls k ((⟨#[80, 76, 65, 84, 69, 45]⟩ : ByteArray) ++ (bstr ([u8 (w64 (65 + x152))] : List Int))) (rd [x1.Plate.A, x1.Plate.B, x1.Plate.C, x1.Plate.D] x152) (⟨#[]⟩ : ByteArray) HS174 (HT.mono (L24.trans (L39.trans (L45.trans (L51.trans L143))))) vt178 hc179) ?_)
     rintro _ W182 ⟨f180, rfl, L181, HS183⟩
     refine ⟨_, rfl, ?_⟩
     refine seqK rfl (does_lit (e := ty_Card) (E := 98) (vs := #[(0, Value.agg #[.string vt178.Key, .string vt178.Value, .string vt178.Unit, .string vt178.Note])]) (cs := #[.string vt178.Key, .string vt178.Value, .string vt178.Unit, .string vt178.Note]) (xs := ([vt178] : List S_Card)) rfl Tryz.underlying52 kr kr ⟨[.string vt178.Key, .string vt178.Value, .string vt178.Unit, .string vt178.Note], _, rfl, rfl, rfl⟩ rfl HS183 ?_ (by decide))
     intro b184 W185 s186 HS187 _ HO188
     have hq_ := guard_some h; clear h; obtain ⟨c190, h⟩ := hq_
     have c190 : (out147.length + 1) * 64 ≤ 140737488355328 := c190
     have HS191 := HS187.u2
     have HS192 := HS191.u1
     refine seqK rfl (does_append1 (e := ty_Card) (E := 98) (xs := out147) (ys := ([vt178] : List S_Card)) rfl (kv (.slice A148 out147.length c149)) (kv (.slice (some ⟨b184, 0, none⟩) ([vt178] : List S_Card).length 1)) Tryz.underlying52 inf98 (HO151.mono L181) HO188 HS192 c190 (lim63 c190 (by decide)) ?_)
     intro A193 c194 s195 W196 HS197 HO198
     refine seqL1 kr ?_
     refine nl ?_
     refine hn163 _ _ ?_
     refine hK160 _ _ ?_
     refine rl ?_
     refine seqL2 kr ?_
     refine nl ?_
     refine hK140 n141 _ _ (Nat.lt_succ_self _) ?_
     have HS212 := HS197.u3
     have HS213 := HS212.u3
     have HS214 := HS213.u2
     have HS215 := HS214.u3
     have HS216 := HS215.drop
     exact ⟨f180, A193, c194, s195, (out147 ++ ([vt178] : List S_Card)), (w64 (x152 + 1)), (fun i_ => [Value.int .i64 x152, Value.int .i64 (rd [x1.Plate.A, x1.Plate.B, x1.Plate.C, x1.Plate.D] x152), Value.bool true, Value.int .i64 x152, Value.int .i64 (rd [x1.Plate.A, x1.Plate.B, x1.Plate.C, x1.Plate.D] x152), Value.slice A148 out147.length c149, Value.func (.func 39) #[] #[], Value.int .i64 x152, Value.int .i64 (w64 (65 + x152)), Value.int .u8 (u8 (w64 (65 + x152))), Value.slice (some ⟨b171, 0, none⟩) ([u8 (w64 (65 + x152))] : List Int).length 1, Value.string (bstr ([u8 (w64 (65 + x152))] : List Int)), Value.string ((⟨#[80, 76, 65, 84, 69, 45]⟩ : ByteArray) ++ (bstr ([u8 (w64 (65 + x152))] : List Int))), Value.int .i64 (rd [x1.Plate.A, x1.Plate.B, x1.Plate.C, x1.Plate.D] x152), (ag_Card vt178), Value.slice (some ⟨b184, 0, none⟩) ([vt178] : List S_Card).length 1, Value.slice A193 (out147 ++ ([vt178] : List S_Card)).length c194, Value.int .i64 (w64 (x152 + 1))].getD i_ undef), (L143.trans L181), HS216, HO198, h, kr⟩
   · have c158 : ¬ (x152 < 4) := c158
     refine wpRwI 47 (x := (decide (x152 < 4))) (v := false) kr (decide_eq_false c158) ?_
     refine condF kr ?_
     refine wp_exit ?_
     refine hx73 _ _ ?_
     exact J210 f142 A148 c149 s150 out147 (fun i_ => [(j146 0), (j146 1), Value.int .i64 x152, Value.bool false, (j146 3), (j146 4), (j146 5), (j146 6), (j146 7), (j146 8), (j146 9), (j146 10), (j146 11), (j146 12), (j146 13), (j146 14), (j146 15), (j146 16), (j146 17)].getD i_ undef) W144 _ L143 h HS145 HO151 kr

set_option maxRecDepth 100000 in
set_option maxHeartbeats 4000000 in
theorem master_CheckCamera.calls (k : Nat)  (vk1 : S_Camera) {t w : World} {f : FM} {H : List Seg} (HS : St t w f (H)) (rr1 : Int) (h : master_CheckCamera k vk1 = some rr1) :
    Calls Tryz.prog 28 #[.agg #[.int .i64 vk1.W, .int .i64 vk1.H, .int .i64 vk1.Full, .int .i64 vk1.Gain, .int .i64 vk1.Noise]] w (fun e w' => ∃ (g : FM), e = .returned (Value.int .i64 rr1) ∧ FM.le f g ∧ St t w' g (H)) := by
 unfold master_CheckCamera at h
 refine enter Tryz.func28 rfl (tm := #[(ag_Camera vk1), uV, uV, uV, uV, uV, uV, uV, uV, uV, uV, uV, uV, uV, uV, uV, uV, uV, uV, uV, uV, uV, uV, uV, uV, uV, uV, uV, uV, uV, uV, uV, uV, uV, uV, uV, uV, uV, uV, uV, uV, uV, uV, uV, uV, uV, uV]) kr ?_
 intro B hret hnor hnp
 refine wp_seq_k fun K2 hK3 => rl ?_
 refine seqK rfl (does_box (cs := #[.int .i64 vk1.W, .int .i64 vk1.H, .int .i64 vk1.Full, .int .i64 vk1.Gain, .int .i64 vk1.Noise]) rfl (kv (.agg #[.int .i64 vk1.W, .int .i64 vk1.H, .int .i64 vk1.Full, .int .i64 vk1.Gain, .int .i64 vk1.Noise])) rfl HS ?_)
 intro b4 W5 HS6
 refine seqL1 kr ?_
 refine nl (hK3 _ _ ?_)
 refine wp_seq_k (fun K8 hK9 => ?_)
 refine blockK (fun B10 hx11 hn12 hr13 ho14 hp15 => ?_)
 refine wp_seq_k fun K17 hK18 => rl ?_
 refine seqL1 kr ?_
 refine seqK rfl (does_run (run_load rfl Tryz.underlying3 rfl (kv (.pointer (some ⟨b4, 0, none⟩))) (HS6.cell 0)) ?_)
 refine seqL1 kr ?_
 refine seqK rfl (does_run (run_load rfl Tryz.underlying3 rfl (kv (.pointer (some ⟨b4, 1, none⟩))) (HS6.cell 1)) ?_)
 refine seqL3 kr ?_
 have hq_ := ite_some h; clear h; rcases hq_ with ⟨c19, h⟩ | ⟨c19, h⟩
 · have c19 : (mn vk1.W vk1.H) < 1 := c19
   refine seqRwI 9 (x := (decide ((mn vk1.W vk1.H) < 1))) (v := true) kr (decide_eq_true c19) ?_
   refine seqRwI 10 (x := (decide ((mn vk1.W vk1.H) < 1))) (v := true) kr (decide_eq_true c19) ?_
   refine seqL8 kr ?_
   refine nl (hK18 _ _ ?_)
   refine condT kr ?_
   refine wp_seq_k fun K20 hK21 => rl ?_
   refine seqL1 kr ?_
   refine nl (hK21 _ _ ?_)
   refine wp_ret ?_
   refine hr13 _ _ ?_
   refine hret _ _ ?_
   refine ends_still (v := Value.int .i64 4) kr kr ?_
   have HS49 := HS6.drop
   injection h with h
   subst h
   exact ⟨f, rfl, FM.le.refl _, HS49⟩
 · have c19 : ¬ ((mn vk1.W vk1.H) < 1) := c19
   refine seqRwI 9 (x := (decide ((mn vk1.W vk1.H) < 1))) (v := false) kr (decide_eq_false c19) ?_
   refine seqRwI 10 (x := (decide ((mn vk1.W vk1.H) < 1))) (v := false) kr (decide_eq_false c19) ?_
   refine seqL1 kr ?_
   refine seqG kr (does_run (run_load rfl Tryz.underlying3 rfl (kv (.pointer (some ⟨b4, 0, none⟩))) (HS6.cell 0)) ?_)
   refine seqL1 kr ?_
   refine seqG kr (does_run (run_load rfl Tryz.underlying3 rfl (kv (.pointer (some ⟨b4, 1, none⟩))) (HS6.cell 1)) ?_)
   refine seqL4 kr ?_
   refine nl (hK18 _ _ ?_)
   have hq_ := ite_some h; clear h; rcases hq_ with ⟨c23, h⟩ | ⟨c23, h⟩
   · have c23 : (mx vk1.W vk1.H) > 32 := c23
     refine wpRwI 3 (x := (decide ((mx vk1.W vk1.H) > 32))) (v := true) kr (decide_eq_true c23) ?_
     refine wpRwI 16 (x := (decide ((mx vk1.W vk1.H) > 32))) (v := true) kr (decide_eq_true c23) ?_
     refine wpRwI 17 (x := (decide ((mx vk1.W vk1.H) > 32))) (v := true) kr (decide_eq_true c23) ?_
     refine condT kr ?_
     refine wp_seq_k fun K24 hK25 => rl ?_
     refine seqL1 kr ?_
     refine nl (hK25 _ _ ?_)
     refine wp_ret ?_
     refine hr13 _ _ ?_
     refine hret _ _ ?_
     refine ends_still (v := Value.int .i64 4) kr kr ?_
     have HS50 := HS6.drop
     injection h with h
     subst h
     exact ⟨f, rfl, FM.le.refl _, HS50⟩
   · have c23 : ¬ ((mx vk1.W vk1.H) > 32) := c23
     refine wpRwI 3 (x := (decide ((mx vk1.W vk1.H) > 32))) (v := false) kr (decide_eq_false c23) ?_
     refine wpRwI 16 (x := (decide ((mx vk1.W vk1.H) > 32))) (v := false) kr (decide_eq_false c23) ?_
     refine wpRwI 17 (x := (decide ((mx vk1.W vk1.H) > 32))) (v := false) kr (decide_eq_false c23) ?_
     refine condF kr ?_
     refine wp_seq_k fun K26 hK27 => rl ?_
     refine seqL1 kr ?_
     refine seqK rfl (does_run (run_load rfl Tryz.underlying28 rfl (kv (.pointer (some ⟨b4, 2, none⟩))) (HS6.cell 2)) ?_)
     refine seqL2 kr ?_
     have hq_ := ite_some h; clear h; rcases hq_ with ⟨c28, h⟩ | ⟨c28, h⟩
     · have c28 : vk1.Full < 1 := c28
       refine seqRwI 21 (x := (decide (vk1.Full < 1))) (v := true) kr (decide_eq_true c28) ?_
       refine seqRwI 22 (x := (decide (vk1.Full < 1))) (v := true) kr (decide_eq_true c28) ?_
       refine seqL25 kr ?_
       refine nl (hK27 _ _ ?_)
       refine condT kr ?_
       refine wp_seq_k fun K29 hK30 => rl ?_
       refine seqL1 kr ?_
       refine nl (hK30 _ _ ?_)
       refine wp_ret ?_
       refine hr13 _ _ ?_
       refine hret _ _ ?_
       refine ends_still (v := Value.int .i64 4) kr kr ?_
       have HS51 := HS6.drop
       injection h with h
       subst h
       exact ⟨f, rfl, FM.le.refl _, HS51⟩
     · have c28 : ¬ (vk1.Full < 1) := c28
       refine seqRwI 21 (x := (decide (vk1.Full < 1))) (v := false) kr (decide_eq_false c28) ?_
       refine seqRwI 22 (x := (decide (vk1.Full < 1))) (v := false) kr (decide_eq_false c28) ?_
       refine seqL1 kr ?_
       refine seqG kr (does_run (run_load rfl Tryz.underlying28 rfl (kv (.pointer (some ⟨b4, 2, none⟩))) (HS6.cell 2)) ?_)
       refine seqL3 kr ?_
       have hq_ := ite_some h; clear h; rcases hq_ with ⟨c31, h⟩ | ⟨c31, h⟩
       · have c31 : vk1.Full > 1048576 := c31
         refine seqRwI 25 (x := (decide (vk1.Full > 1048576))) (v := true) kr (decide_eq_true c31) ?_
         refine seqRwI 26 (x := (decide (vk1.Full > 1048576))) (v := true) kr (decide_eq_true c31) ?_
         refine seqRwI 27 (x := (decide (vk1.Full > 1048576))) (v := true) kr (decide_eq_true c31) ?_
         refine seqL20 kr ?_
         refine nl (hK27 _ _ ?_)
         refine condT kr ?_
         refine wp_seq_k fun K32 hK33 => rl ?_
         refine seqL1 kr ?_
         refine nl (hK33 _ _ ?_)
         refine wp_ret ?_
         refine hr13 _ _ ?_
         refine hret _ _ ?_
         refine ends_still (v := Value.int .i64 4) kr kr ?_
         have HS52 := HS6.drop
         injection h with h
         subst h
         exact ⟨f, rfl, FM.le.refl _, HS52⟩
       · have c31 : ¬ (vk1.Full > 1048576) := c31
         refine seqRwI 25 (x := (decide (vk1.Full > 1048576))) (v := false) kr (decide_eq_false c31) ?_
         refine seqRwI 26 (x := (decide (vk1.Full > 1048576))) (v := false) kr (decide_eq_false c31) ?_
         refine seqRwI 27 (x := (decide (vk1.Full > 1048576))) (v := false) kr (decide_eq_false c31) ?_
         refine seqL1 kr ?_
         refine seqG kr (does_run (run_load rfl Tryz.underlying28 rfl (kv (.pointer (some ⟨b4, 3, none⟩))) (HS6.cell 3)) ?_)
         refine seqL3 kr ?_
         have hq_ := ite_some h; clear h; rcases hq_ with ⟨c34, h⟩ | ⟨c34, h⟩
         · have c34 : vk1.Gain < 1 := c34
           refine seqRwI 30 (x := (decide (vk1.Gain < 1))) (v := true) kr (decide_eq_true c34) ?_
           refine seqRwI 31 (x := (decide (vk1.Gain < 1))) (v := true) kr (decide_eq_true c34) ?_
           refine seqRwI 32 (x := (decide (vk1.Gain < 1))) (v := true) kr (decide_eq_true c34) ?_
           refine seqL15 kr ?_
           refine nl (hK27 _ _ ?_)
           refine condT kr ?_
           refine wp_seq_k fun K35 hK36 => rl ?_
           refine seqL1 kr ?_
           refine nl (hK36 _ _ ?_)
           refine wp_ret ?_
           refine hr13 _ _ ?_
           refine hret _ _ ?_
           refine ends_still (v := Value.int .i64 4) kr kr ?_
           have HS53 := HS6.drop
           injection h with h
           subst h
           exact ⟨f, rfl, FM.le.refl _, HS53⟩
         · have c34 : ¬ (vk1.Gain < 1) := c34
           refine seqRwI 30 (x := (decide (vk1.Gain < 1))) (v := false) kr (decide_eq_false c34) ?_
           refine seqRwI 31 (x := (decide (vk1.Gain < 1))) (v := false) kr (decide_eq_false c34) ?_
           refine seqRwI 32 (x := (decide (vk1.Gain < 1))) (v := false) kr (decide_eq_false c34) ?_
           refine seqL1 kr ?_
           refine seqG kr (does_run (run_load rfl Tryz.underlying28 rfl (kv (.pointer (some ⟨b4, 3, none⟩))) (HS6.cell 3)) ?_)
           refine seqL3 kr ?_
           have hq_ := ite_some h; clear h; rcases hq_ with ⟨c37, h⟩ | ⟨c37, h⟩
           · have c37 : vk1.Gain > 64 := c37
             refine seqRwI 35 (x := (decide (vk1.Gain > 64))) (v := true) kr (decide_eq_true c37) ?_
             refine seqRwI 36 (x := (decide (vk1.Gain > 64))) (v := true) kr (decide_eq_true c37) ?_
             refine seqRwI 37 (x := (decide (vk1.Gain > 64))) (v := true) kr (decide_eq_true c37) ?_
             refine seqL10 kr ?_
             refine nl (hK27 _ _ ?_)
             refine condT kr ?_
             refine wp_seq_k fun K38 hK39 => rl ?_
             refine seqL1 kr ?_
             refine nl (hK39 _ _ ?_)
             refine wp_ret ?_
             refine hr13 _ _ ?_
             refine hret _ _ ?_
             refine ends_still (v := Value.int .i64 4) kr kr ?_
             have HS54 := HS6.drop
             injection h with h
             subst h
             exact ⟨f, rfl, FM.le.refl _, HS54⟩
           · have c37 : ¬ (vk1.Gain > 64) := c37
             refine seqRwI 35 (x := (decide (vk1.Gain > 64))) (v := false) kr (decide_eq_false c37) ?_
             refine seqRwI 36 (x := (decide (vk1.Gain > 64))) (v := false) kr (decide_eq_false c37) ?_
             refine seqRwI 37 (x := (decide (vk1.Gain > 64))) (v := false) kr (decide_eq_false c37) ?_
             refine seqL1 kr ?_
             refine seqG kr (does_run (run_load rfl Tryz.underlying3 rfl (kv (.pointer (some ⟨b4, 4, none⟩))) (HS6.cell 4)) ?_)
             refine seqL3 kr ?_
             have hq_ := ite_some h; clear h; rcases hq_ with ⟨c40, h⟩ | ⟨c40, h⟩
             · have c40 : vk1.Noise < 0 := c40
               refine seqRwI 40 (x := (decide (vk1.Noise < 0))) (v := true) kr (decide_eq_true c40) ?_
               refine seqRwI 41 (x := (decide (vk1.Noise < 0))) (v := true) kr (decide_eq_true c40) ?_
               refine seqRwI 42 (x := (decide (vk1.Noise < 0))) (v := true) kr (decide_eq_true c40) ?_
               refine seqL5 kr ?_
               refine nl (hK27 _ _ ?_)
               refine condT kr ?_
               refine wp_seq_k fun K41 hK42 => rl ?_
               refine seqL1 kr ?_
               refine nl (hK42 _ _ ?_)
               refine wp_ret ?_
               refine hr13 _ _ ?_
               refine hret _ _ ?_
               refine ends_still (v := Value.int .i64 4) kr kr ?_
               have HS55 := HS6.drop
               injection h with h
               subst h
               exact ⟨f, rfl, FM.le.refl _, HS55⟩
             · have c40 : ¬ (vk1.Noise < 0) := c40
               refine seqRwI 40 (x := (decide (vk1.Noise < 0))) (v := false) kr (decide_eq_false c40) ?_
               refine seqRwI 41 (x := (decide (vk1.Noise < 0))) (v := false) kr (decide_eq_false c40) ?_
               refine seqRwI 42 (x := (decide (vk1.Noise < 0))) (v := false) kr (decide_eq_false c40) ?_
               refine seqL1 kr ?_
               refine seqG kr (does_run (run_load rfl Tryz.underlying3 rfl (kv (.pointer (some ⟨b4, 4, none⟩))) (HS6.cell 4)) ?_)
               refine seqL3 kr ?_
               refine nl (hK27 _ _ ?_)
               have hq_ := ite_some h; clear h; rcases hq_ with ⟨c44, h⟩ | ⟨c44, h⟩
               · have c44 : vk1.Noise > 64 := c44
                 refine wpRwI 18 (x := (decide (vk1.Noise > 64))) (v := true) kr (decide_eq_true c44) ?_
                 refine wpRwI 45 (x := (decide (vk1.Noise > 64))) (v := true) kr (decide_eq_true c44) ?_
                 refine wpRwI 46 (x := (decide (vk1.Noise > 64))) (v := true) kr (decide_eq_true c44) ?_
                 refine condT kr ?_
                 refine wp_seq_k fun K45 hK46 => rl ?_
                 refine seqL1 kr ?_
                 refine nl (hK46 _ _ ?_)
                 refine wp_ret ?_
                 refine hr13 _ _ ?_
                 refine hret _ _ ?_
                 refine ends_still (v := Value.int .i64 4) kr kr ?_
                 have HS56 := HS6.drop
                 injection h with h
                 subst h
                 exact ⟨f, rfl, FM.le.refl _, HS56⟩
               · have c44 : ¬ (vk1.Noise > 64) := c44
                 refine wpRwI 18 (x := (decide (vk1.Noise > 64))) (v := false) kr (decide_eq_false c44) ?_
                 refine wpRwI 45 (x := (decide (vk1.Noise > 64))) (v := false) kr (decide_eq_false c44) ?_
                 refine wpRwI 46 (x := (decide (vk1.Noise > 64))) (v := false) kr (decide_eq_false c44) ?_
                 refine condF kr ?_
                 refine wp_skip ?_
                 refine hn12 _ _ ?_
                 refine hK9 _ _ ?_
                 refine wp_seq_k fun K47 hK48 => rl ?_
                 refine seqL1 kr ?_
                 refine nl (hK48 _ _ ?_)
                 refine wp_ret ?_
                 refine hret _ _ ?_
                 refine ends_still (v := Value.int .i64 0) kr kr ?_
                 have HS57 := HS6.drop
                 injection h with h
                 subst h
                 exact ⟨f, rfl, FM.le.refl _, HS57⟩

set_option maxRecDepth 100000 in
set_option maxHeartbeats 4000000 in
theorem frame_Check_1.calls (k : Nat)  (n1 : Int) {t w : World} {f : FM} {H : List Seg} (HS : St t w f (H)) (rr1 : Bool) (h : frame_Check_1 k n1 = some rr1) :
    Calls Tryz.prog 72 #[.int .i64 n1] w (fun e w' => ∃ (g : FM), e = .returned (Value.bool rr1) ∧ FM.le f g ∧ St t w' g (H)) := by
 unfold frame_Check_1 at h
 refine enter Tryz.func72 rfl (tm := #[iV n1, uV, uV, uV, uV, uV, uV, uV, uV]) kr ?_
 intro B hret hnor hnp
 refine wp_seq_k fun K2 hK3 => rl ?_
 refine seqL1 kr ?_
 refine nl (hK3 _ _ ?_)
 refine wp_seq_k fun K4 hK5 => rl ?_
 refine seqL3 kr ?_
 have hq_ := ite_some h; clear h; rcases hq_ with ⟨c6, h⟩ | ⟨c6, h⟩
 · have c6 : n1 < 0 := c6
   refine seqRwI 4 (x := (decide (n1 < 0))) (v := true) kr (decide_eq_true c6) ?_
   refine seqRwI 5 (x := (decide (n1 < 0))) (v := true) kr (decide_eq_true c6) ?_
   refine seqL4 kr ?_
   refine nl (hK5 _ _ ?_)
   refine wp_ret ?_
   refine hret _ _ ?_
   refine ends_still (v := Value.bool true) kr kr ?_
   injection h with h
   subst h
   exact ⟨f, rfl, FM.le.refl _, HS⟩
 · have c6 : ¬ (n1 < 0) := c6
   refine seqRwI 4 (x := (decide (n1 < 0))) (v := false) kr (decide_eq_false c6) ?_
   refine seqRwI 5 (x := (decide (n1 < 0))) (v := false) kr (decide_eq_false c6) ?_
   refine seqL4 kr ?_
   refine nl (hK5 _ _ ?_)
   refine wp_ret ?_
   refine hret _ _ ?_
   refine ends_still (v := Value.bool (decide (n1 > 65535))) kr kr ?_
   injection h with h
   subst h
   exact ⟨f, rfl, FM.le.refl _, HS⟩

set_option maxRecDepth 100000 in
set_option maxHeartbeats 4000000 in
theorem slices_IndexFunc_int__frame_Check_1.calls (k : Nat) (A2 : Option Addr) (c3 : Nat) (s1 : List Int) {t w : World} {f : FM} {H : List Seg} (HS : St t w f (H)) (HR4 : SlR (tInt .i64) f A2 c3 s1) (rr1 : Int) (h : slices_IndexFunc_int__frame_Check_1 k s1 = some rr1) :
    Calls Tryz.prog 70 #[.slice A2 s1.length c3, .func (.func 72) #[] #[]] w (fun e w' => ∃ (g : FM), e = .returned (Value.int .i64 rr1) ∧ FM.le f g ∧ St t w' g (H)) := by
 unfold slices_IndexFunc_int__frame_Check_1 at h
 refine enter Tryz.func70 rfl (tm := #[.slice A2 s1.length c3, .func (.func 72) #[] #[], uV, uV, uV, uV, uV, uV, uV, uV, uV, uV, uV, uV, uV, uV, uV, uV, uV]) kr ?_
 intro B hret hnor hnp
 refine wp_seq_k fun K5 hK6 => rl ?_
 refine seqL1 kr ?_
 refine nl (hK6 _ _ ?_)
 refine wp_seq_k (fun K7 hK8 => ?_)
 refine wp_seq_k fun K9 hK10 => rl ?_
 refine seqL3 kr ?_
 refine nl (hK10 _ _ ?_)
 refine blockK (fun B11 hx12 hn13 hr14 ho15 hp16 => ?_)
 have hq_ := bind_some h; clear h; obtain ⟨o17, hv68, h⟩ := hq_
 have JR70 : ∀ z_, some (Sum.inl z_) = some o17 → some z_ = some rr1 := by
  intro z_ e_; injection e_ with e_; subst e_; exact h
 have J69 : ∀ (f63 : FM) (j67 : Nat → Value) (W65 : World) (a_ : Act), FM.le f f63 → some (Sum.inr ()) = some o17 → St t W65 f63 (H) → a_ = ⟨#[.slice A2 s1.length c3, .func (.func 72) #[] #[], uV, uV, (j67 0), (j67 1), .slice A2 s1.length c3, iV (s1.length : Int), (j67 2), (j67 3), (j67 4), (j67 5), (j67 6), (j67 7), (j67 8), (j67 9), (j67 10), (j67 11), (j67 12)], []⟩ → K7 a_ W65 := by
  intro f63 j67 W65 a_ L64 hj71 HS66  hfr_; subst hfr_
  injection hj71 with hj71; subst hj71; try dsimp only at h
  simp only [Sum.elim_inr] at h
  refine hK8 _ _ ?_
  refine wp_seq_k fun K72 hK73 => rl ?_
  refine seqL1 kr ?_
  refine nl (hK73 _ _ ?_)
  refine wp_ret ?_
  refine hret _ _ ?_
  refine ends_still (v := Value.int .i64 (-1)) kr kr ?_
  injection h with h
  subst h
  exact ⟨f63, rfl, L64, HS66⟩
 clear h; have h := hv68; clear hv68
 refine loopK (fun n_ a_ w_ => ∃ (f21 : FM) (x26 : Int) (j25 : Nat → Value), FM.le f f21 ∧ St t w_ f21 (H) ∧ slices_IndexFunc_int__frame_Check_1.l0 k s1 n_ x26 = some o17 ∧ a_ = ⟨#[.slice A2 s1.length c3, .func (.func 72) #[] #[], uV, uV, (j25 0), (j25 1), .slice A2 s1.length c3, iV (s1.length : Int), iV x26, (j25 2), (j25 3), (j25 4), (j25 5), (j25 6), (j25 7), (j25 8), (j25 9), (j25 10), (j25 11)], []⟩) k ⟨f, 0, (fun i_ => [Value.int .i64 0, undef, undef, undef, undef, undef, undef, undef, undef, undef, undef, undef].getD i_ undef), (FM.le.refl _), HS, h, kr⟩ ?_
 clear h
 rintro n20 _ W23 ⟨f21, x26, j25, L22, HS24, h, rfl⟩ K18 hK19
 obtain _ | n20 := n20
 · exact nomatch h
 simp only [slices_IndexFunc_int__frame_Check_1.l0] at h
 refine wp_seq_k fun K27 hK28 => rl ?_
 refine seqL1 kr ?_
 refine nl (hK28 _ _ ?_)
 refine wp_seq_k (fun K29 hK30 => ?_)
 have hq_ := ite_some h; clear h; rcases hq_ with ⟨c32, h⟩ | ⟨c32, h⟩
 · have c32 : x26 < (s1.length : Int) := c32
   refine wpRwI 9 (x := (decide (x26 < (s1.length : Int)))) (v := true) kr (decide_eq_true c32) ?_
   refine condT kr ?_
   refine wp_skip ?_
   refine hK30 _ _ ?_
   refine wp_seq_k (fun K33 hK34 => ?_)
   refine blockK (fun B35 hx36 hn37 hr38 ho39 hp40 => ?_)
   refine wp_seq_k fun K42 hK43 => rl ?_
   refine seqL2 kr ?_
   refine nl (hK43 _ _ ?_)
   refine wp_seq_k fun K44 hK45 => rl ?_
   have hq_ := guard_some h; clear h; obtain ⟨c46, h⟩ := hq_
   have c46 : 0 ≤ x26 := c46
   obtain ⟨b50, of51, cs47, hA52, hr48, hc49⟩ := (HR4.mono L22).at (i := x26) c46 c32
   obtain rfl := hr48
   refine seqL3 kr ?_
   refine seqK rfl (does_run (run_indexE hA52 (sz := 1) rfl Tryz.underlying22 kr (kv (.slice A2 s1.length c3)) (kv (.int .i64 x26)) c46 c32 W23) ?_)
   refine seqK rfl (does_run (run_load rfl Tryz.underlying3 rfl (kv (.pointer (some ⟨b50, of51 + (x26 : Int).toNat * 1, none⟩))) ((hc49 (FM.le.refl _) HS24) 0 (by decide))) ?_)
   have hq_ := bind_some h; clear h; obtain ⟨vt53, hc54, h⟩ := hq_
   refine seqK rfl (does_call (f := 72) (args := #[.int .i64 (rd s1 x26)]) kr (frame_Check_1.calls k (rd s1 x26) HS24 vt53 hc54) ?_)
   rintro _ W57 ⟨f55, rfl, L56, HS58⟩
   refine ⟨_, rfl, ?_⟩
   refine nl (hK45 _ _ ?_)
   have hq_ := ite_some h; clear h; rcases hq_ with ⟨c60, h⟩ | ⟨c60, h⟩
   · have c60 : vt53 = true := c60
     refine wpRwI 16 (x := vt53) (v := true) kr c60 ?_
     refine condT kr ?_
     refine wp_seq_k fun K61 hK62 => rl ?_
     refine seqL2 kr ?_
     refine nl (hK62 _ _ ?_)
     refine wp_ret ?_
     refine hr38 _ _ ?_
     refine hr14 _ _ ?_
     refine hret _ _ ?_
     refine ends_still (v := Value.int .i64 x26) kr kr ?_
     replace h := JR70 _ h
     injection h with h
     subst h
     exact ⟨f55, rfl, (L22.trans L56), HS58⟩
   · have c60 : ¬ (vt53 = true) := c60
     refine wpRwI 16 (x := vt53) (v := false) kr (Bool.eq_false_iff.mpr c60) ?_
     refine condF kr ?_
     refine wp_skip ?_
     refine hn37 _ _ ?_
     refine hK34 _ _ ?_
     refine rl ?_
     refine seqL2 kr ?_
     refine nl ?_
     refine hK19 n20 _ _ (Nat.lt_succ_self _) ?_
     exact ⟨f55, (w64 (x26 + 1)), (fun i_ => [(j25 0), Value.int .i64 x26, Value.bool true, Value.int .i64 x26, Value.func (.func 72) #[] #[], Value.slice A2 s1.length c3, Value.int .i64 x26, Value.pointer (some ⟨b50, of51 + (x26 : Int).toNat * 1, none⟩), Value.int .i64 (rd s1 x26), Value.bool false, (j25 10), Value.int .i64 (w64 (x26 + 1))].getD i_ undef), (L22.trans L56), HS58, h, kr⟩
 · have c32 : ¬ (x26 < (s1.length : Int)) := c32
   refine wpRwI 9 (x := (decide (x26 < (s1.length : Int)))) (v := false) kr (decide_eq_false c32) ?_
   refine condF kr ?_
   refine wp_exit ?_
   refine hx12 _ _ ?_
   exact J69 f21 (fun i_ => [(j25 0), (j25 1), Value.int .i64 x26, Value.bool false, (j25 3), (j25 4), (j25 5), (j25 6), (j25 7), (j25 8), (j25 9), (j25 10), (j25 11)].getD i_ undef) W23 _ L22 h HS24 kr

set_option maxRecDepth 100000 in
set_option maxHeartbeats 4000000 in
theorem slices_ContainsFunc_int__frame_Check_1.calls (k : Nat) (A2 : Option Addr) (c3 : Nat) (s1 : List Int) {t w : World} {f : FM} {H : List Seg} (HS : St t w f (H)) (HR4 : SlR (tInt .i64) f A2 c3 s1) (rr1 : Bool) (h : slices_ContainsFunc_int__frame_Check_1 k s1 = some rr1) :
    Calls Tryz.prog 51 #[.slice A2 s1.length c3, .func (.func 72) #[] #[]] w (fun e w' => ∃ (g : FM), e = .returned (Value.bool rr1) ∧ FM.le f g ∧ St t w' g (H)) := by
 unfold slices_ContainsFunc_int__frame_Check_1 at h
 refine enter Tryz.func51 rfl (tm := #[.slice A2 s1.length c3, .func (.func 72) #[] #[], uV, uV, uV, uV, uV, uV, uV]) kr ?_
 intro B hret hnor hnp
 refine wp_seq_k fun K5 hK6 => rl ?_
 refine seqL1 kr ?_
 refine nl (hK6 _ _ ?_)
 refine wp_seq_k fun K7 hK8 => rl ?_
 have hq_ := bind_some h; clear h; obtain ⟨vt9, hc10, h⟩ := hq_
 refine seqL2 kr ?_
 refine seqK rfl (does_call (f := 70) (args := #[.slice A2 s1.length c3, .func (.func 72) #[] #[]]) kr (slices_IndexFunc_int__frame_Check_1.calls k A2 c3 s1 HS HR4 vt9 hc10) ?_)
 rintro _ W13 ⟨f11, rfl, L12, HS14⟩
 refine ⟨_, rfl, ?_⟩
 refine seqL2 kr ?_
 refine nl (hK8 _ _ ?_)
 refine wp_ret ?_
 refine hret _ _ ?_
 refine ends_still (v := Value.bool (decide (vt9 ≥ 0))) kr kr ?_
 injection h with h
 subst h
 exact ⟨f11, rfl, L12, HS14⟩

set_option maxRecDepth 100000 in
set_option maxHeartbeats 4000000 in
theorem frame_upper.calls (k : Nat)  (c1 : Int) {t w : World} {f : FM} {H : List Seg} (HS : St t w f (H)) (rr1 : Bool) (h : frame_upper k c1 = some rr1) :
    Calls Tryz.prog 85 #[.int .u8 c1] w (fun e w' => ∃ (g : FM), e = .returned (Value.bool rr1) ∧ FM.le f g ∧ St t w' g (H)) := by
 unfold frame_upper at h
 refine enter Tryz.func85 rfl (tm := #[.int .u8 c1, uV, uV, uV, uV, uV, uV, uV, uV]) kr ?_
 intro B hret hnor hnp
 refine wp_seq_k fun K2 hK3 => rl ?_
 refine seqL1 kr ?_
 refine nl (hK3 _ _ ?_)
 refine wp_seq_k fun K4 hK5 => rl ?_
 refine seqL3 kr ?_
 have hq_ := ite_some h; clear h; rcases hq_ with ⟨c6, h⟩ | ⟨c6, h⟩
 · have c6 : c1 ≥ 65 := c6
   refine seqRwI 4 (x := (decide (c1 ≥ 65))) (v := true) kr (decide_eq_true c6) ?_
   refine seqRwI 5 (x := (decide (c1 ≥ 65))) (v := true) kr (decide_eq_true c6) ?_
   refine seqL4 kr ?_
   refine nl (hK5 _ _ ?_)
   refine wp_ret ?_
   refine hret _ _ ?_
   refine ends_still (v := Value.bool (decide (c1 ≤ 90))) kr kr ?_
   injection h with h
   subst h
   exact ⟨f, rfl, FM.le.refl _, HS⟩
 · have c6 : ¬ (c1 ≥ 65) := c6
   refine seqRwI 4 (x := (decide (c1 ≥ 65))) (v := false) kr (decide_eq_false c6) ?_
   refine seqRwI 5 (x := (decide (c1 ≥ 65))) (v := false) kr (decide_eq_false c6) ?_
   refine seqL4 kr ?_
   refine nl (hK5 _ _ ?_)
   refine wp_ret ?_
   refine hret _ _ ?_
   refine ends_still (v := Value.bool false) kr kr ?_
   injection h with h
   subst h
   exact ⟨f, rfl, FM.le.refl _, HS⟩

set_option maxRecDepth 100000 in
set_option maxHeartbeats 4000000 in
theorem frame_digit.calls (k : Nat)  (c1 : Int) {t w : World} {f : FM} {H : List Seg} (HS : St t w f (H)) (rr1 : Bool) (h : frame_digit k c1 = some rr1) :
    Calls Tryz.prog 101 #[.int .u8 c1] w (fun e w' => ∃ (g : FM), e = .returned (Value.bool rr1) ∧ FM.le f g ∧ St t w' g (H)) := by
 unfold frame_digit at h
 refine enter Tryz.func101 rfl (tm := #[.int .u8 c1, uV, uV, uV, uV, uV, uV, uV, uV]) kr ?_
 intro B hret hnor hnp
 refine wp_seq_k fun K2 hK3 => rl ?_
 refine seqL1 kr ?_
 refine nl (hK3 _ _ ?_)
 refine wp_seq_k fun K4 hK5 => rl ?_
 refine seqL3 kr ?_
 have hq_ := ite_some h; clear h; rcases hq_ with ⟨c6, h⟩ | ⟨c6, h⟩
 · have c6 : c1 ≥ 48 := c6
   refine seqRwI 4 (x := (decide (c1 ≥ 48))) (v := true) kr (decide_eq_true c6) ?_
   refine seqRwI 5 (x := (decide (c1 ≥ 48))) (v := true) kr (decide_eq_true c6) ?_
   refine seqL4 kr ?_
   refine nl (hK5 _ _ ?_)
   refine wp_ret ?_
   refine hret _ _ ?_
   refine ends_still (v := Value.bool (decide (c1 ≤ 57))) kr kr ?_
   injection h with h
   subst h
   exact ⟨f, rfl, FM.le.refl _, HS⟩
 · have c6 : ¬ (c1 ≥ 48) := c6
   refine seqRwI 4 (x := (decide (c1 ≥ 48))) (v := false) kr (decide_eq_false c6) ?_
   refine seqRwI 5 (x := (decide (c1 ≥ 48))) (v := false) kr (decide_eq_false c6) ?_
   refine seqL4 kr ?_
   refine nl (hK5 _ _ ?_)
   refine wp_ret ?_
   refine hret _ _ ?_
   refine ends_still (v := Value.bool false) kr kr ?_
   injection h with h
   subst h
   exact ⟨f, rfl, FM.le.refl _, HS⟩

set_option maxRecDepth 100000 in
set_option maxHeartbeats 4000000 in
theorem frame_inKey.calls (k : Nat)  (c1 : Int) {t w : World} {f : FM} {H : List Seg} (HS : St t w f (H)) (rr1 : Bool) (h : frame_inKey k c1 = some rr1) :
    Calls Tryz.prog 87 #[.int .u8 c1] w (fun e w' => ∃ (g : FM), e = .returned (Value.bool rr1) ∧ FM.le f g ∧ St t w' g (H)) := by
 unfold frame_inKey at h
 refine enter Tryz.func87 rfl (tm := #[.int .u8 c1, uV, uV, uV, uV, uV, uV, uV, uV, uV, uV, uV, uV]) kr ?_
 intro B hret hnor hnp
 refine wp_seq_k fun K2 hK3 => rl ?_
 refine seqL1 kr ?_
 refine nl (hK3 _ _ ?_)
 refine wp_seq_k fun K4 hK5 => rl ?_
 have hq_ := bind_some h; clear h; obtain ⟨vt6, hc7, h⟩ := hq_
 refine seqL1 kr ?_
 refine seqK rfl (does_call (f := 85) (args := #[.int .u8 c1]) kr (frame_upper.calls k c1 HS vt6 hc7) ?_)
 rintro _ W10 ⟨f8, rfl, L9, HS11⟩
 refine ⟨_, rfl, ?_⟩
 refine seqL1 kr ?_
 have hq_ := ite_some h; clear h; rcases hq_ with ⟨c12, h⟩ | ⟨c12, h⟩
 · have c12 : vt6 = true := c12
   refine seqRwI 4 (x := vt6) (v := true) kr c12 ?_
   refine seqRwI 5 (x := vt6) (v := true) kr c12 ?_
   refine seqL8 kr ?_
   refine nl (hK5 _ _ ?_)
   refine wp_ret ?_
   refine hret _ _ ?_
   refine ends_still (v := Value.bool true) kr kr ?_
   injection h with h
   subst h
   exact ⟨f8, rfl, L9, HS11⟩
 · have c12 : ¬ (vt6 = true) := c12
   refine seqRwI 4 (x := vt6) (v := false) kr (Bool.eq_false_iff.mpr c12) ?_
   refine seqRwI 5 (x := vt6) (v := false) kr (Bool.eq_false_iff.mpr c12) ?_
   have hq_ := bind_some h; clear h; obtain ⟨vt13, hc14, h⟩ := hq_
   refine seqL1 kr ?_
   refine seqG kr (does_call (f := 101) (args := #[.int .u8 c1]) kr (frame_digit.calls k c1 HS11 vt13 hc14) ?_)
   rintro _ W17 ⟨f15, rfl, L16, HS18⟩
   refine ⟨_, rfl, ?_⟩
   refine seqL2 kr ?_
   have hq_ := ite_some h; clear h; rcases hq_ with ⟨c19, h⟩ | ⟨c19, h⟩
   · have c19 : vt13 = true := c19
     refine seqRwI 7 (x := vt13) (v := true) kr c19 ?_
     refine seqRwI 8 (x := vt13) (v := true) kr c19 ?_
     refine seqRwI 9 (x := vt13) (v := true) kr c19 ?_
     refine seqL4 kr ?_
     refine nl (hK5 _ _ ?_)
     refine wp_ret ?_
     refine hret _ _ ?_
     refine ends_still (v := Value.bool true) kr kr ?_
     injection h with h
     subst h
     exact ⟨f15, rfl, (L9.trans L16), HS18⟩
   · have c19 : ¬ (vt13 = true) := c19
     refine seqRwI 7 (x := vt13) (v := false) kr (Bool.eq_false_iff.mpr c19) ?_
     refine seqRwI 8 (x := vt13) (v := false) kr (Bool.eq_false_iff.mpr c19) ?_
     refine seqRwI 9 (x := vt13) (v := false) kr (Bool.eq_false_iff.mpr c19) ?_
     refine seqL4 kr ?_
     refine nl (hK5 _ _ ?_)
     refine wp_ret ?_
     refine hret _ _ ?_
     refine ends_still (v := Value.bool (c1 == 45)) kr kr ?_
     injection h with h
     subst h
     exact ⟨f15, rfl, (L9.trans L16), HS18⟩

set_option maxRecDepth 100000 in
set_option maxHeartbeats 4000000 in
theorem frame_all__frame_inKey.calls (k : Nat)  (s1 : ByteArray) {t w : World} {f : FM} {H : List Seg} (HS : St t w f (H)) (rr1 : Bool) (h : frame_all__frame_inKey k s1 = some rr1) :
    Calls Tryz.prog 86 #[.string s1, .func (.func 87) #[] #[]] w (fun e w' => ∃ (g : FM), e = .returned (Value.bool rr1) ∧ FM.le f g ∧ St t w' g (H)) := by
 unfold frame_all__frame_inKey at h
 refine enter Tryz.func86 rfl (tm := #[.string s1, .func (.func 87) #[] #[], uV, uV, uV, uV, uV, uV, uV, uV, uV, uV, uV, uV, uV, uV, uV, uV]) kr ?_
 intro B hret hnor hnp
 refine wp_seq_k fun K2 hK3 => rl ?_
 refine seqL1 kr ?_
 refine nl (hK3 _ _ ?_)
 refine wp_seq_k (fun K4 hK5 => ?_)
 refine wp_seq_k fun K6 hK7 => rl ?_
 refine seqL3 kr ?_
 refine nl (hK7 _ _ ?_)
 refine blockK (fun B8 hx9 hn10 hr11 ho12 hp13 => ?_)
 have hq_ := bind_some h; clear h; obtain ⟨o14, hv59, h⟩ := hq_
 have JR61 : ∀ z_, some (Sum.inl z_) = some o14 → some z_ = some rr1 := by
  intro z_ e_; injection e_ with e_; subst e_; exact h
 have J60 : ∀ (f54 : FM) (j58 : Nat → Value) (W56 : World) (a_ : Act), FM.le f f54 → some (Sum.inr ()) = some o14 → St t W56 f54 (H) → a_ = ⟨#[.string s1, .func (.func 87) #[] #[], uV, uV, (j58 0), (j58 1), .string s1, iV (s1.size : Int), (j58 2), (j58 3), (j58 4), (j58 5), (j58 6), (j58 7), (j58 8), (j58 9), (j58 10), (j58 11)], []⟩ → K4 a_ W56 := by
  intro f54 j58 W56 a_ L55 hj62 HS57  hfr_; subst hfr_
  injection hj62 with hj62; subst hj62; try dsimp only at h
  simp only [Sum.elim_inr] at h
  refine hK5 _ _ ?_
  refine wp_seq_k fun K63 hK64 => rl ?_
  refine seqL1 kr ?_
  refine nl (hK64 _ _ ?_)
  refine wp_ret ?_
  refine hret _ _ ?_
  refine ends_still (v := Value.bool true) kr kr ?_
  injection h with h
  subst h
  exact ⟨f54, rfl, L55, HS57⟩
 clear h; have h := hv59; clear hv59
 refine loopK (fun n_ a_ w_ => ∃ (f18 : FM) (x23 : Int) (j22 : Nat → Value), FM.le f f18 ∧ St t w_ f18 (H) ∧ frame_all__frame_inKey.l0 k s1 n_ x23 = some o14 ∧ a_ = ⟨#[.string s1, .func (.func 87) #[] #[], uV, uV, (j22 0), (j22 1), .string s1, iV (s1.size : Int), iV x23, (j22 2), (j22 3), (j22 4), (j22 5), (j22 6), (j22 7), (j22 8), (j22 9), (j22 10)], []⟩) k ⟨f, 0, (fun i_ => [Value.bool false, undef, undef, undef, undef, undef, undef, undef, undef, undef, undef].getD i_ undef), (FM.le.refl _), HS, h, kr⟩ ?_
 clear h
 rintro n17 _ W20 ⟨f18, x23, j22, L19, HS21, h, rfl⟩ K15 hK16
 obtain _ | n17 := n17
 · exact nomatch h
 simp only [frame_all__frame_inKey.l0] at h
 refine wp_seq_k fun K24 hK25 => rl ?_
 refine seqL1 kr ?_
 refine nl (hK25 _ _ ?_)
 refine wp_seq_k (fun K26 hK27 => ?_)
 have hq_ := ite_some h; clear h; rcases hq_ with ⟨c29, h⟩ | ⟨c29, h⟩
 · have c29 : x23 < (s1.size : Int) := c29
   refine wpRwI 9 (x := (decide (x23 < (s1.size : Int)))) (v := true) kr (decide_eq_true c29) ?_
   refine condT kr ?_
   refine wp_skip ?_
   refine hK27 _ _ ?_
   refine wp_seq_k (fun K30 hK31 => ?_)
   refine blockK (fun B32 hx33 hn34 hr35 ho36 hp37 => ?_)
   refine wp_seq_k fun K39 hK40 => rl ?_
   refine seqL2 kr ?_
   refine nl (hK40 _ _ ?_)
   refine wp_seq_k fun K41 hK42 => rl ?_
   have hq_ := guard_some h; clear h; obtain ⟨c43, h⟩ := hq_
   have c43 : 0 ≤ x23 := c43
   refine seqL3 kr ?_
   refine seqK rfl (does_run (run_byte rfl Tryz.underlying9 (kv (.string s1)) (kv (.int .i64 x23)) c43 c29 W20) ?_)
   have hq_ := bind_some h; clear h; obtain ⟨vt44, hc45, h⟩ := hq_
   refine seqK rfl (does_call (f := 87) (args := #[.int .u8 (bt s1 x23)]) kr (frame_inKey.calls k (bt s1 x23) HS21 vt44 hc45) ?_)
   rintro _ W48 ⟨f46, rfl, L47, HS49⟩
   refine ⟨_, rfl, ?_⟩
   refine seqL1 kr ?_
   refine nl (hK42 _ _ ?_)
   have hq_ := ite_some h; clear h; rcases hq_ with ⟨c51, h⟩ | ⟨c51, h⟩
   · have c51 : ¬ (vt44 = true) := c51
     refine wpRwI 16 (x := (!vt44)) (v := true) kr (congrArg (fun b_ => !b_) (show vt44 = false from (Bool.eq_false_iff.mpr c51)) : (!vt44) = true) ?_
     refine condT kr ?_
     refine wp_seq_k fun K52 hK53 => rl ?_
     refine seqL1 kr ?_
     refine nl (hK53 _ _ ?_)
     refine wp_ret ?_
     refine hr35 _ _ ?_
     refine hr11 _ _ ?_
     refine hret _ _ ?_
     refine ends_still (v := Value.bool false) kr kr ?_
     replace h := JR61 _ h
     injection h with h
     subst h
     exact ⟨f46, rfl, (L19.trans L47), HS49⟩
   · have c51 : ¬ (¬ (vt44 = true)) := c51
     refine wpRwI 16 (x := (!vt44)) (v := false) kr (congrArg (fun b_ => !b_) (show vt44 = true from (Decidable.of_not_not c51)) : (!vt44) = false) ?_
     refine condF kr ?_
     refine wp_skip ?_
     refine hn34 _ _ ?_
     refine hK31 _ _ ?_
     refine rl ?_
     refine seqL2 kr ?_
     refine nl ?_
     refine hK16 n17 _ _ (Nat.lt_succ_self _) ?_
     exact ⟨f46, (w64 (x23 + 1)), (fun i_ => [(j22 0), Value.int .i64 x23, Value.bool true, Value.int .i64 x23, Value.func (.func 87) #[] #[], Value.string s1, Value.int .i64 x23, Value.int .u8 (bt s1 x23), Value.bool vt44, Value.bool false, Value.int .i64 (w64 (x23 + 1))].getD i_ undef), (L19.trans L47), HS49, h, kr⟩
 · have c29 : ¬ (x23 < (s1.size : Int)) := c29
   refine wpRwI 9 (x := (decide (x23 < (s1.size : Int)))) (v := false) kr (decide_eq_false c29) ?_
   refine condF kr ?_
   refine wp_exit ?_
   refine hx9 _ _ ?_
   exact J60 f18 (fun i_ => [(j22 0), (j22 1), Value.int .i64 x23, Value.bool false, (j22 3), (j22 4), (j22 5), (j22 6), (j22 7), (j22 8), (j22 9), (j22 10)].getD i_ undef) W20 _ L19 h HS21 kr

set_option maxRecDepth 100000 in
set_option maxHeartbeats 4000000 in
theorem frame_own.calls (k : Nat)  (key1 : ByteArray) {t w : World} {f : FM} {H : List Seg} (HS : St t w f (H)) (rr1 : Bool) (h : frame_own k key1 = some rr1) :
    Calls Tryz.prog 88 #[.string key1] w (fun e w' => ∃ (g : FM), e = .returned (Value.bool rr1) ∧ FM.le f g ∧ St t w' g (H)) := by
 unfold frame_own at h
 refine enter Tryz.func88 rfl (tm := #[.string key1, uV, uV, uV, uV, uV, uV, uV, uV, uV, uV, uV, uV, uV, uV, uV, uV]) kr ?_
 intro B hret hnor hnp
 refine wp_seq_k fun K2 hK3 => rl ?_
 refine seqL1 kr ?_
 refine nl (hK3 _ _ ?_)
 refine wp_seq_k fun K4 hK5 => rl ?_
 refine seqL3 kr ?_
 have hq_ := ite_some h; clear h; rcases hq_ with ⟨c6, h⟩ | ⟨c6, h⟩
 · have c6 : (key1.toList == (⟨#[87, 73, 68, 84, 72]⟩ : ByteArray).toList) = true := c6
   refine seqRwI 4 (x := (key1.toList == (⟨#[87, 73, 68, 84, 72]⟩ : ByteArray).toList)) (v := true) kr c6 ?_
   refine seqRwI 5 (x := (key1.toList == (⟨#[87, 73, 68, 84, 72]⟩ : ByteArray).toList)) (v := true) kr c6 ?_
   refine seqL12 kr ?_
   refine nl (hK5 _ _ ?_)
   refine wp_ret ?_
   refine hret _ _ ?_
   refine ends_still (v := Value.bool true) kr kr ?_
   injection h with h
   subst h
   exact ⟨f, rfl, FM.le.refl _, HS⟩
 · have c6 : ¬ ((key1.toList == (⟨#[87, 73, 68, 84, 72]⟩ : ByteArray).toList) = true) := c6
   refine seqRwI 4 (x := (key1.toList == (⟨#[87, 73, 68, 84, 72]⟩ : ByteArray).toList)) (v := false) kr (Bool.eq_false_iff.mpr c6) ?_
   refine seqRwI 5 (x := (key1.toList == (⟨#[87, 73, 68, 84, 72]⟩ : ByteArray).toList)) (v := false) kr (Bool.eq_false_iff.mpr c6) ?_
   refine seqL4 kr ?_
   have hq_ := ite_some h; clear h; rcases hq_ with ⟨c7, h⟩ | ⟨c7, h⟩
   · have c7 : (key1.toList == (⟨#[72, 69, 73, 71, 72, 84]⟩ : ByteArray).toList) = true := c7
     refine seqRwI 7 (x := (key1.toList == (⟨#[72, 69, 73, 71, 72, 84]⟩ : ByteArray).toList)) (v := true) kr c7 ?_
     refine seqRwI 8 (x := (key1.toList == (⟨#[72, 69, 73, 71, 72, 84]⟩ : ByteArray).toList)) (v := true) kr c7 ?_
     refine seqRwI 9 (x := (key1.toList == (⟨#[72, 69, 73, 71, 72, 84]⟩ : ByteArray).toList)) (v := true) kr c7 ?_
     refine seqL8 kr ?_
     refine nl (hK5 _ _ ?_)
     refine wp_ret ?_
     refine hret _ _ ?_
     refine ends_still (v := Value.bool true) kr kr ?_
     injection h with h
     subst h
     exact ⟨f, rfl, FM.le.refl _, HS⟩
   · have c7 : ¬ ((key1.toList == (⟨#[72, 69, 73, 71, 72, 84]⟩ : ByteArray).toList) = true) := c7
     refine seqRwI 7 (x := (key1.toList == (⟨#[72, 69, 73, 71, 72, 84]⟩ : ByteArray).toList)) (v := false) kr (Bool.eq_false_iff.mpr c7) ?_
     refine seqRwI 8 (x := (key1.toList == (⟨#[72, 69, 73, 71, 72, 84]⟩ : ByteArray).toList)) (v := false) kr (Bool.eq_false_iff.mpr c7) ?_
     refine seqRwI 9 (x := (key1.toList == (⟨#[72, 69, 73, 71, 72, 84]⟩ : ByteArray).toList)) (v := false) kr (Bool.eq_false_iff.mpr c7) ?_
     refine seqL4 kr ?_
     have hq_ := ite_some h; clear h; rcases hq_ with ⟨c8, h⟩ | ⟨c8, h⟩
     · have c8 : (key1.toList == (⟨#[66, 89, 84, 69, 83]⟩ : ByteArray).toList) = true := c8
       refine seqRwI 11 (x := (key1.toList == (⟨#[66, 89, 84, 69, 83]⟩ : ByteArray).toList)) (v := true) kr c8 ?_
       refine seqRwI 12 (x := (key1.toList == (⟨#[66, 89, 84, 69, 83]⟩ : ByteArray).toList)) (v := true) kr c8 ?_
       refine seqRwI 13 (x := (key1.toList == (⟨#[66, 89, 84, 69, 83]⟩ : ByteArray).toList)) (v := true) kr c8 ?_
       refine seqL4 kr ?_
       refine nl (hK5 _ _ ?_)
       refine wp_ret ?_
       refine hret _ _ ?_
       refine ends_still (v := Value.bool true) kr kr ?_
       injection h with h
       subst h
       exact ⟨f, rfl, FM.le.refl _, HS⟩
     · have c8 : ¬ ((key1.toList == (⟨#[66, 89, 84, 69, 83]⟩ : ByteArray).toList) = true) := c8
       refine seqRwI 11 (x := (key1.toList == (⟨#[66, 89, 84, 69, 83]⟩ : ByteArray).toList)) (v := false) kr (Bool.eq_false_iff.mpr c8) ?_
       refine seqRwI 12 (x := (key1.toList == (⟨#[66, 89, 84, 69, 83]⟩ : ByteArray).toList)) (v := false) kr (Bool.eq_false_iff.mpr c8) ?_
       refine seqRwI 13 (x := (key1.toList == (⟨#[66, 89, 84, 69, 83]⟩ : ByteArray).toList)) (v := false) kr (Bool.eq_false_iff.mpr c8) ?_
       refine seqL4 kr ?_
       refine nl (hK5 _ _ ?_)
       refine wp_ret ?_
       refine hret _ _ ?_
       refine ends_still (v := Value.bool (key1.toList == (⟨#[69, 78, 68]⟩ : ByteArray).toList)) kr kr ?_
       injection h with h
       subst h
       exact ⟨f, rfl, FM.le.refl _, HS⟩

set_option maxRecDepth 100000 in
set_option maxHeartbeats 4000000 in
theorem frame_inked.calls (k : Nat)  (c1 : Int) {t w : World} {f : FM} {H : List Seg} (HS : St t w f (H)) (rr1 : Bool) (h : frame_inked k c1 = some rr1) :
    Calls Tryz.prog 89 #[.int .u8 c1] w (fun e w' => ∃ (g : FM), e = .returned (Value.bool rr1) ∧ FM.le f g ∧ St t w' g (H)) := by
 unfold frame_inked at h
 refine enter Tryz.func89 rfl (tm := #[.int .u8 c1, uV, uV, uV, uV, uV, uV, uV, uV]) kr ?_
 intro B hret hnor hnp
 refine wp_seq_k fun K2 hK3 => rl ?_
 refine seqL1 kr ?_
 refine nl (hK3 _ _ ?_)
 refine wp_seq_k fun K4 hK5 => rl ?_
 refine seqL3 kr ?_
 have hq_ := ite_some h; clear h; rcases hq_ with ⟨c6, h⟩ | ⟨c6, h⟩
 · have c6 : c1 > 32 := c6
   refine seqRwI 4 (x := (decide (c1 > 32))) (v := true) kr (decide_eq_true c6) ?_
   refine seqRwI 5 (x := (decide (c1 > 32))) (v := true) kr (decide_eq_true c6) ?_
   refine seqL4 kr ?_
   refine nl (hK5 _ _ ?_)
   refine wp_ret ?_
   refine hret _ _ ?_
   refine ends_still (v := Value.bool (decide (c1 ≤ 126))) kr kr ?_
   injection h with h
   subst h
   exact ⟨f, rfl, FM.le.refl _, HS⟩
 · have c6 : ¬ (c1 > 32) := c6
   refine seqRwI 4 (x := (decide (c1 > 32))) (v := false) kr (decide_eq_false c6) ?_
   refine seqRwI 5 (x := (decide (c1 > 32))) (v := false) kr (decide_eq_false c6) ?_
   refine seqL4 kr ?_
   refine nl (hK5 _ _ ?_)
   refine wp_ret ?_
   refine hret _ _ ?_
   refine ends_still (v := Value.bool false) kr kr ?_
   injection h with h
   subst h
   exact ⟨f, rfl, FM.le.refl _, HS⟩

set_option maxRecDepth 100000 in
set_option maxHeartbeats 4000000 in
theorem frame_all__frame_inked.calls (k : Nat)  (s1 : ByteArray) {t w : World} {f : FM} {H : List Seg} (HS : St t w f (H)) (rr1 : Bool) (h : frame_all__frame_inked k s1 = some rr1) :
    Calls Tryz.prog 86 #[.string s1, .func (.func 89) #[] #[]] w (fun e w' => ∃ (g : FM), e = .returned (Value.bool rr1) ∧ FM.le f g ∧ St t w' g (H)) := by
 unfold frame_all__frame_inked at h
 refine enter Tryz.func86 rfl (tm := #[.string s1, .func (.func 89) #[] #[], uV, uV, uV, uV, uV, uV, uV, uV, uV, uV, uV, uV, uV, uV, uV, uV]) kr ?_
 intro B hret hnor hnp
 refine wp_seq_k fun K2 hK3 => rl ?_
 refine seqL1 kr ?_
 refine nl (hK3 _ _ ?_)
 refine wp_seq_k (fun K4 hK5 => ?_)
 refine wp_seq_k fun K6 hK7 => rl ?_
 refine seqL3 kr ?_
 refine nl (hK7 _ _ ?_)
 refine blockK (fun B8 hx9 hn10 hr11 ho12 hp13 => ?_)
 have hq_ := bind_some h; clear h; obtain ⟨o14, hv59, h⟩ := hq_
 have JR61 : ∀ z_, some (Sum.inl z_) = some o14 → some z_ = some rr1 := by
  intro z_ e_; injection e_ with e_; subst e_; exact h
 have J60 : ∀ (f54 : FM) (j58 : Nat → Value) (W56 : World) (a_ : Act), FM.le f f54 → some (Sum.inr ()) = some o14 → St t W56 f54 (H) → a_ = ⟨#[.string s1, .func (.func 89) #[] #[], uV, uV, (j58 0), (j58 1), .string s1, iV (s1.size : Int), (j58 2), (j58 3), (j58 4), (j58 5), (j58 6), (j58 7), (j58 8), (j58 9), (j58 10), (j58 11)], []⟩ → K4 a_ W56 := by
  intro f54 j58 W56 a_ L55 hj62 HS57  hfr_; subst hfr_
  injection hj62 with hj62; subst hj62; try dsimp only at h
  simp only [Sum.elim_inr] at h
  refine hK5 _ _ ?_
  refine wp_seq_k fun K63 hK64 => rl ?_
  refine seqL1 kr ?_
  refine nl (hK64 _ _ ?_)
  refine wp_ret ?_
  refine hret _ _ ?_
  refine ends_still (v := Value.bool true) kr kr ?_
  injection h with h
  subst h
  exact ⟨f54, rfl, L55, HS57⟩
 clear h; have h := hv59; clear hv59
 refine loopK (fun n_ a_ w_ => ∃ (f18 : FM) (x23 : Int) (j22 : Nat → Value), FM.le f f18 ∧ St t w_ f18 (H) ∧ frame_all__frame_inked.l0 k s1 n_ x23 = some o14 ∧ a_ = ⟨#[.string s1, .func (.func 89) #[] #[], uV, uV, (j22 0), (j22 1), .string s1, iV (s1.size : Int), iV x23, (j22 2), (j22 3), (j22 4), (j22 5), (j22 6), (j22 7), (j22 8), (j22 9), (j22 10)], []⟩) k ⟨f, 0, (fun i_ => [Value.bool false, undef, undef, undef, undef, undef, undef, undef, undef, undef, undef].getD i_ undef), (FM.le.refl _), HS, h, kr⟩ ?_
 clear h
 rintro n17 _ W20 ⟨f18, x23, j22, L19, HS21, h, rfl⟩ K15 hK16
 obtain _ | n17 := n17
 · exact nomatch h
 simp only [frame_all__frame_inked.l0] at h
 refine wp_seq_k fun K24 hK25 => rl ?_
 refine seqL1 kr ?_
 refine nl (hK25 _ _ ?_)
 refine wp_seq_k (fun K26 hK27 => ?_)
 have hq_ := ite_some h; clear h; rcases hq_ with ⟨c29, h⟩ | ⟨c29, h⟩
 · have c29 : x23 < (s1.size : Int) := c29
   refine wpRwI 9 (x := (decide (x23 < (s1.size : Int)))) (v := true) kr (decide_eq_true c29) ?_
   refine condT kr ?_
   refine wp_skip ?_
   refine hK27 _ _ ?_
   refine wp_seq_k (fun K30 hK31 => ?_)
   refine blockK (fun B32 hx33 hn34 hr35 ho36 hp37 => ?_)
   refine wp_seq_k fun K39 hK40 => rl ?_
   refine seqL2 kr ?_
   refine nl (hK40 _ _ ?_)
   refine wp_seq_k fun K41 hK42 => rl ?_
   have hq_ := guard_some h; clear h; obtain ⟨c43, h⟩ := hq_
   have c43 : 0 ≤ x23 := c43
   refine seqL3 kr ?_
   refine seqK rfl (does_run (run_byte rfl Tryz.underlying9 (kv (.string s1)) (kv (.int .i64 x23)) c43 c29 W20) ?_)
   have hq_ := bind_some h; clear h; obtain ⟨vt44, hc45, h⟩ := hq_
   refine seqK rfl (does_call (f := 89) (args := #[.int .u8 (bt s1 x23)]) kr (frame_inked.calls k (bt s1 x23) HS21 vt44 hc45) ?_)
   rintro _ W48 ⟨f46, rfl, L47, HS49⟩
   refine ⟨_, rfl, ?_⟩
   refine seqL1 kr ?_
   refine nl (hK42 _ _ ?_)
   have hq_ := ite_some h; clear h; rcases hq_ with ⟨c51, h⟩ | ⟨c51, h⟩
   · have c51 : ¬ (vt44 = true) := c51
     refine wpRwI 16 (x := (!vt44)) (v := true) kr (congrArg (fun b_ => !b_) (show vt44 = false from (Bool.eq_false_iff.mpr c51)) : (!vt44) = true) ?_
     refine condT kr ?_
     refine wp_seq_k fun K52 hK53 => rl ?_
     refine seqL1 kr ?_
     refine nl (hK53 _ _ ?_)
     refine wp_ret ?_
     refine hr35 _ _ ?_
     refine hr11 _ _ ?_
     refine hret _ _ ?_
     refine ends_still (v := Value.bool false) kr kr ?_
     replace h := JR61 _ h
     injection h with h
     subst h
     exact ⟨f46, rfl, (L19.trans L47), HS49⟩
   · have c51 : ¬ (¬ (vt44 = true)) := c51
     refine wpRwI 16 (x := (!vt44)) (v := false) kr (congrArg (fun b_ => !b_) (show vt44 = true from (Decidable.of_not_not c51)) : (!vt44) = false) ?_
     refine condF kr ?_
     refine wp_skip ?_
     refine hn34 _ _ ?_
     refine hK31 _ _ ?_
     refine rl ?_
     refine seqL2 kr ?_
     refine nl ?_
     refine hK16 n17 _ _ (Nat.lt_succ_self _) ?_
     exact ⟨f46, (w64 (x23 + 1)), (fun i_ => [(j22 0), Value.int .i64 x23, Value.bool true, Value.int .i64 x23, Value.func (.func 89) #[] #[], Value.string s1, Value.int .i64 x23, Value.int .u8 (bt s1 x23), Value.bool vt44, Value.bool false, Value.int .i64 (w64 (x23 + 1))].getD i_ undef), (L19.trans L47), HS49, h, kr⟩
 · have c29 : ¬ (x23 < (s1.size : Int)) := c29
   refine wpRwI 9 (x := (decide (x23 < (s1.size : Int)))) (v := false) kr (decide_eq_false c29) ?_
   refine condF kr ?_
   refine wp_exit ?_
   refine hx9 _ _ ?_
   exact J60 f18 (fun i_ => [(j22 0), (j22 1), Value.int .i64 x23, Value.bool false, (j22 3), (j22 4), (j22 5), (j22 6), (j22 7), (j22 8), (j22 9), (j22 10)].getD i_ undef) W20 _ L19 h HS21 kr

set_option maxRecDepth 100000 in
set_option maxHeartbeats 4000000 in
theorem frame_lower.calls (k : Nat)  (c1 : Int) {t w : World} {f : FM} {H : List Seg} (HS : St t w f (H)) (rr1 : Bool) (h : frame_lower k c1 = some rr1) :
    Calls Tryz.prog 90 #[.int .u8 c1] w (fun e w' => ∃ (g : FM), e = .returned (Value.bool rr1) ∧ FM.le f g ∧ St t w' g (H)) := by
 unfold frame_lower at h
 refine enter Tryz.func90 rfl (tm := #[.int .u8 c1, uV, uV, uV, uV, uV, uV, uV, uV]) kr ?_
 intro B hret hnor hnp
 refine wp_seq_k fun K2 hK3 => rl ?_
 refine seqL1 kr ?_
 refine nl (hK3 _ _ ?_)
 refine wp_seq_k fun K4 hK5 => rl ?_
 refine seqL3 kr ?_
 have hq_ := ite_some h; clear h; rcases hq_ with ⟨c6, h⟩ | ⟨c6, h⟩
 · have c6 : c1 ≥ 97 := c6
   refine seqRwI 4 (x := (decide (c1 ≥ 97))) (v := true) kr (decide_eq_true c6) ?_
   refine seqRwI 5 (x := (decide (c1 ≥ 97))) (v := true) kr (decide_eq_true c6) ?_
   refine seqL4 kr ?_
   refine nl (hK5 _ _ ?_)
   refine wp_ret ?_
   refine hret _ _ ?_
   refine ends_still (v := Value.bool (decide (c1 ≤ 122))) kr kr ?_
   injection h with h
   subst h
   exact ⟨f, rfl, FM.le.refl _, HS⟩
 · have c6 : ¬ (c1 ≥ 97) := c6
   refine seqRwI 4 (x := (decide (c1 ≥ 97))) (v := false) kr (decide_eq_false c6) ?_
   refine seqRwI 5 (x := (decide (c1 ≥ 97))) (v := false) kr (decide_eq_false c6) ?_
   refine seqL4 kr ?_
   refine nl (hK5 _ _ ?_)
   refine wp_ret ?_
   refine hret _ _ ?_
   refine ends_still (v := Value.bool false) kr kr ?_
   injection h with h
   subst h
   exact ⟨f, rfl, FM.le.refl _, HS⟩

set_option maxRecDepth 100000 in
set_option maxHeartbeats 4000000 in
theorem frame_all__frame_lower.calls (k : Nat)  (s1 : ByteArray) {t w : World} {f : FM} {H : List Seg} (HS : St t w f (H)) (rr1 : Bool) (h : frame_all__frame_lower k s1 = some rr1) :
    Calls Tryz.prog 86 #[.string s1, .func (.func 90) #[] #[]] w (fun e w' => ∃ (g : FM), e = .returned (Value.bool rr1) ∧ FM.le f g ∧ St t w' g (H)) := by
 unfold frame_all__frame_lower at h
 refine enter Tryz.func86 rfl (tm := #[.string s1, .func (.func 90) #[] #[], uV, uV, uV, uV, uV, uV, uV, uV, uV, uV, uV, uV, uV, uV, uV, uV]) kr ?_
 intro B hret hnor hnp
 refine wp_seq_k fun K2 hK3 => rl ?_
 refine seqL1 kr ?_
 refine nl (hK3 _ _ ?_)
 refine wp_seq_k (fun K4 hK5 => ?_)
 refine wp_seq_k fun K6 hK7 => rl ?_
 refine seqL3 kr ?_
 refine nl (hK7 _ _ ?_)
 refine blockK (fun B8 hx9 hn10 hr11 ho12 hp13 => ?_)
 have hq_ := bind_some h; clear h; obtain ⟨o14, hv59, h⟩ := hq_
 have JR61 : ∀ z_, some (Sum.inl z_) = some o14 → some z_ = some rr1 := by
  intro z_ e_; injection e_ with e_; subst e_; exact h
 have J60 : ∀ (f54 : FM) (j58 : Nat → Value) (W56 : World) (a_ : Act), FM.le f f54 → some (Sum.inr ()) = some o14 → St t W56 f54 (H) → a_ = ⟨#[.string s1, .func (.func 90) #[] #[], uV, uV, (j58 0), (j58 1), .string s1, iV (s1.size : Int), (j58 2), (j58 3), (j58 4), (j58 5), (j58 6), (j58 7), (j58 8), (j58 9), (j58 10), (j58 11)], []⟩ → K4 a_ W56 := by
  intro f54 j58 W56 a_ L55 hj62 HS57  hfr_; subst hfr_
  injection hj62 with hj62; subst hj62; try dsimp only at h
  simp only [Sum.elim_inr] at h
  refine hK5 _ _ ?_
  refine wp_seq_k fun K63 hK64 => rl ?_
  refine seqL1 kr ?_
  refine nl (hK64 _ _ ?_)
  refine wp_ret ?_
  refine hret _ _ ?_
  refine ends_still (v := Value.bool true) kr kr ?_
  injection h with h
  subst h
  exact ⟨f54, rfl, L55, HS57⟩
 clear h; have h := hv59; clear hv59
 refine loopK (fun n_ a_ w_ => ∃ (f18 : FM) (x23 : Int) (j22 : Nat → Value), FM.le f f18 ∧ St t w_ f18 (H) ∧ frame_all__frame_lower.l0 k s1 n_ x23 = some o14 ∧ a_ = ⟨#[.string s1, .func (.func 90) #[] #[], uV, uV, (j22 0), (j22 1), .string s1, iV (s1.size : Int), iV x23, (j22 2), (j22 3), (j22 4), (j22 5), (j22 6), (j22 7), (j22 8), (j22 9), (j22 10)], []⟩) k ⟨f, 0, (fun i_ => [Value.bool false, undef, undef, undef, undef, undef, undef, undef, undef, undef, undef].getD i_ undef), (FM.le.refl _), HS, h, kr⟩ ?_
 clear h
 rintro n17 _ W20 ⟨f18, x23, j22, L19, HS21, h, rfl⟩ K15 hK16
 obtain _ | n17 := n17
 · exact nomatch h
 simp only [frame_all__frame_lower.l0] at h
 refine wp_seq_k fun K24 hK25 => rl ?_
 refine seqL1 kr ?_
 refine nl (hK25 _ _ ?_)
 refine wp_seq_k (fun K26 hK27 => ?_)
 have hq_ := ite_some h; clear h; rcases hq_ with ⟨c29, h⟩ | ⟨c29, h⟩
 · have c29 : x23 < (s1.size : Int) := c29
   refine wpRwI 9 (x := (decide (x23 < (s1.size : Int)))) (v := true) kr (decide_eq_true c29) ?_
   refine condT kr ?_
   refine wp_skip ?_
   refine hK27 _ _ ?_
   refine wp_seq_k (fun K30 hK31 => ?_)
   refine blockK (fun B32 hx33 hn34 hr35 ho36 hp37 => ?_)
   refine wp_seq_k fun K39 hK40 => rl ?_
   refine seqL2 kr ?_
   refine nl (hK40 _ _ ?_)
   refine wp_seq_k fun K41 hK42 => rl ?_
   have hq_ := guard_some h; clear h; obtain ⟨c43, h⟩ := hq_
   have c43 : 0 ≤ x23 := c43
   refine seqL3 kr ?_
   refine seqK rfl (does_run (run_byte rfl Tryz.underlying9 (kv (.string s1)) (kv (.int .i64 x23)) c43 c29 W20) ?_)
   have hq_ := bind_some h; clear h; obtain ⟨vt44, hc45, h⟩ := hq_
   refine seqK rfl (does_call (f := 90) (args := #[.int .u8 (bt s1 x23)]) kr (frame_lower.calls k (bt s1 x23) HS21 vt44 hc45) ?_)
   rintro _ W48 ⟨f46, rfl, L47, HS49⟩
   refine ⟨_, rfl, ?_⟩
   refine seqL1 kr ?_
   refine nl (hK42 _ _ ?_)
   have hq_ := ite_some h; clear h; rcases hq_ with ⟨c51, h⟩ | ⟨c51, h⟩
   · have c51 : ¬ (vt44 = true) := c51
     refine wpRwI 16 (x := (!vt44)) (v := true) kr (congrArg (fun b_ => !b_) (show vt44 = false from (Bool.eq_false_iff.mpr c51)) : (!vt44) = true) ?_
     refine condT kr ?_
     refine wp_seq_k fun K52 hK53 => rl ?_
     refine seqL1 kr ?_
     refine nl (hK53 _ _ ?_)
     refine wp_ret ?_
     refine hr35 _ _ ?_
     refine hr11 _ _ ?_
     refine hret _ _ ?_
     refine ends_still (v := Value.bool false) kr kr ?_
     replace h := JR61 _ h
     injection h with h
     subst h
     exact ⟨f46, rfl, (L19.trans L47), HS49⟩
   · have c51 : ¬ (¬ (vt44 = true)) := c51
     refine wpRwI 16 (x := (!vt44)) (v := false) kr (congrArg (fun b_ => !b_) (show vt44 = true from (Decidable.of_not_not c51)) : (!vt44) = false) ?_
     refine condF kr ?_
     refine wp_skip ?_
     refine hn34 _ _ ?_
     refine hK31 _ _ ?_
     refine rl ?_
     refine seqL2 kr ?_
     refine nl ?_
     refine hK16 n17 _ _ (Nat.lt_succ_self _) ?_
     exact ⟨f46, (w64 (x23 + 1)), (fun i_ => [(j22 0), Value.int .i64 x23, Value.bool true, Value.int .i64 x23, Value.func (.func 90) #[] #[], Value.string s1, Value.int .i64 x23, Value.int .u8 (bt s1 x23), Value.bool vt44, Value.bool false, Value.int .i64 (w64 (x23 + 1))].getD i_ undef), (L19.trans L47), HS49, h, kr⟩
 · have c29 : ¬ (x23 < (s1.size : Int)) := c29
   refine wpRwI 9 (x := (decide (x23 < (s1.size : Int)))) (v := false) kr (decide_eq_false c29) ?_
   refine condF kr ?_
   refine wp_exit ?_
   refine hx9 _ _ ?_
   exact J60 f18 (fun i_ => [(j22 0), (j22 1), Value.int .i64 x23, Value.bool false, (j22 3), (j22 4), (j22 5), (j22 6), (j22 7), (j22 8), (j22 9), (j22 10)].getD i_ undef) W20 _ L19 h HS21 kr

set_option maxRecDepth 100000 in
set_option maxHeartbeats 4000000 in
theorem frame_typed.calls (k : Nat)  (c1 : Int) {t w : World} {f : FM} {H : List Seg} (HS : St t w f (H)) (rr1 : Bool) (h : frame_typed k c1 = some rr1) :
    Calls Tryz.prog 91 #[.int .u8 c1] w (fun e w' => ∃ (g : FM), e = .returned (Value.bool rr1) ∧ FM.le f g ∧ St t w' g (H)) := by
 unfold frame_typed at h
 refine enter Tryz.func91 rfl (tm := #[.int .u8 c1, uV, uV, uV, uV, uV, uV, uV, uV]) kr ?_
 intro B hret hnor hnp
 refine wp_seq_k fun K2 hK3 => rl ?_
 refine seqL1 kr ?_
 refine nl (hK3 _ _ ?_)
 refine wp_seq_k fun K4 hK5 => rl ?_
 refine seqL3 kr ?_
 have hq_ := ite_some h; clear h; rcases hq_ with ⟨c6, h⟩ | ⟨c6, h⟩
 · have c6 : c1 ≥ 32 := c6
   refine seqRwI 4 (x := (decide (c1 ≥ 32))) (v := true) kr (decide_eq_true c6) ?_
   refine seqRwI 5 (x := (decide (c1 ≥ 32))) (v := true) kr (decide_eq_true c6) ?_
   refine seqL4 kr ?_
   refine nl (hK5 _ _ ?_)
   refine wp_ret ?_
   refine hret _ _ ?_
   refine ends_still (v := Value.bool (decide (c1 ≤ 126))) kr kr ?_
   injection h with h
   subst h
   exact ⟨f, rfl, FM.le.refl _, HS⟩
 · have c6 : ¬ (c1 ≥ 32) := c6
   refine seqRwI 4 (x := (decide (c1 ≥ 32))) (v := false) kr (decide_eq_false c6) ?_
   refine seqRwI 5 (x := (decide (c1 ≥ 32))) (v := false) kr (decide_eq_false c6) ?_
   refine seqL4 kr ?_
   refine nl (hK5 _ _ ?_)
   refine wp_ret ?_
   refine hret _ _ ?_
   refine ends_still (v := Value.bool false) kr kr ?_
   injection h with h
   subst h
   exact ⟨f, rfl, FM.le.refl _, HS⟩

set_option maxRecDepth 100000 in
set_option maxHeartbeats 4000000 in
theorem frame_all__frame_typed.calls (k : Nat)  (s1 : ByteArray) {t w : World} {f : FM} {H : List Seg} (HS : St t w f (H)) (rr1 : Bool) (h : frame_all__frame_typed k s1 = some rr1) :
    Calls Tryz.prog 86 #[.string s1, .func (.func 91) #[] #[]] w (fun e w' => ∃ (g : FM), e = .returned (Value.bool rr1) ∧ FM.le f g ∧ St t w' g (H)) := by
 unfold frame_all__frame_typed at h
 refine enter Tryz.func86 rfl (tm := #[.string s1, .func (.func 91) #[] #[], uV, uV, uV, uV, uV, uV, uV, uV, uV, uV, uV, uV, uV, uV, uV, uV]) kr ?_
 intro B hret hnor hnp
 refine wp_seq_k fun K2 hK3 => rl ?_
 refine seqL1 kr ?_
 refine nl (hK3 _ _ ?_)
 refine wp_seq_k (fun K4 hK5 => ?_)
 refine wp_seq_k fun K6 hK7 => rl ?_
 refine seqL3 kr ?_
 refine nl (hK7 _ _ ?_)
 refine blockK (fun B8 hx9 hn10 hr11 ho12 hp13 => ?_)
 have hq_ := bind_some h; clear h; obtain ⟨o14, hv59, h⟩ := hq_
 have JR61 : ∀ z_, some (Sum.inl z_) = some o14 → some z_ = some rr1 := by
  intro z_ e_; injection e_ with e_; subst e_; exact h
 have J60 : ∀ (f54 : FM) (j58 : Nat → Value) (W56 : World) (a_ : Act), FM.le f f54 → some (Sum.inr ()) = some o14 → St t W56 f54 (H) → a_ = ⟨#[.string s1, .func (.func 91) #[] #[], uV, uV, (j58 0), (j58 1), .string s1, iV (s1.size : Int), (j58 2), (j58 3), (j58 4), (j58 5), (j58 6), (j58 7), (j58 8), (j58 9), (j58 10), (j58 11)], []⟩ → K4 a_ W56 := by
  intro f54 j58 W56 a_ L55 hj62 HS57  hfr_; subst hfr_
  injection hj62 with hj62; subst hj62; try dsimp only at h
  simp only [Sum.elim_inr] at h
  refine hK5 _ _ ?_
  refine wp_seq_k fun K63 hK64 => rl ?_
  refine seqL1 kr ?_
  refine nl (hK64 _ _ ?_)
  refine wp_ret ?_
  refine hret _ _ ?_
  refine ends_still (v := Value.bool true) kr kr ?_
  injection h with h
  subst h
  exact ⟨f54, rfl, L55, HS57⟩
 clear h; have h := hv59; clear hv59
 refine loopK (fun n_ a_ w_ => ∃ (f18 : FM) (x23 : Int) (j22 : Nat → Value), FM.le f f18 ∧ St t w_ f18 (H) ∧ frame_all__frame_typed.l0 k s1 n_ x23 = some o14 ∧ a_ = ⟨#[.string s1, .func (.func 91) #[] #[], uV, uV, (j22 0), (j22 1), .string s1, iV (s1.size : Int), iV x23, (j22 2), (j22 3), (j22 4), (j22 5), (j22 6), (j22 7), (j22 8), (j22 9), (j22 10)], []⟩) k ⟨f, 0, (fun i_ => [Value.bool false, undef, undef, undef, undef, undef, undef, undef, undef, undef, undef].getD i_ undef), (FM.le.refl _), HS, h, kr⟩ ?_
 clear h
 rintro n17 _ W20 ⟨f18, x23, j22, L19, HS21, h, rfl⟩ K15 hK16
 obtain _ | n17 := n17
 · exact nomatch h
 simp only [frame_all__frame_typed.l0] at h
 refine wp_seq_k fun K24 hK25 => rl ?_
 refine seqL1 kr ?_
 refine nl (hK25 _ _ ?_)
 refine wp_seq_k (fun K26 hK27 => ?_)
 have hq_ := ite_some h; clear h; rcases hq_ with ⟨c29, h⟩ | ⟨c29, h⟩
 · have c29 : x23 < (s1.size : Int) := c29
   refine wpRwI 9 (x := (decide (x23 < (s1.size : Int)))) (v := true) kr (decide_eq_true c29) ?_
   refine condT kr ?_
   refine wp_skip ?_
   refine hK27 _ _ ?_
   refine wp_seq_k (fun K30 hK31 => ?_)
   refine blockK (fun B32 hx33 hn34 hr35 ho36 hp37 => ?_)
   refine wp_seq_k fun K39 hK40 => rl ?_
   refine seqL2 kr ?_
   refine nl (hK40 _ _ ?_)
   refine wp_seq_k fun K41 hK42 => rl ?_
   have hq_ := guard_some h; clear h; obtain ⟨c43, h⟩ := hq_
   have c43 : 0 ≤ x23 := c43
   refine seqL3 kr ?_
   refine seqK rfl (does_run (run_byte rfl Tryz.underlying9 (kv (.string s1)) (kv (.int .i64 x23)) c43 c29 W20) ?_)
   have hq_ := bind_some h; clear h; obtain ⟨vt44, hc45, h⟩ := hq_
   refine seqK rfl (does_call (f := 91) (args := #[.int .u8 (bt s1 x23)]) kr (frame_typed.calls k (bt s1 x23) HS21 vt44 hc45) ?_)
   rintro _ W48 ⟨f46, rfl, L47, HS49⟩
   refine ⟨_, rfl, ?_⟩
   refine seqL1 kr ?_
   refine nl (hK42 _ _ ?_)
   have hq_ := ite_some h; clear h; rcases hq_ with ⟨c51, h⟩ | ⟨c51, h⟩
   · have c51 : ¬ (vt44 = true) := c51
     refine wpRwI 16 (x := (!vt44)) (v := true) kr (congrArg (fun b_ => !b_) (show vt44 = false from (Bool.eq_false_iff.mpr c51)) : (!vt44) = true) ?_
     refine condT kr ?_
     refine wp_seq_k fun K52 hK53 => rl ?_
     refine seqL1 kr ?_
     refine nl (hK53 _ _ ?_)
     refine wp_ret ?_
     refine hr35 _ _ ?_
     refine hr11 _ _ ?_
     refine hret _ _ ?_
     refine ends_still (v := Value.bool false) kr kr ?_
     replace h := JR61 _ h
     injection h with h
     subst h
     exact ⟨f46, rfl, (L19.trans L47), HS49⟩
   · have c51 : ¬ (¬ (vt44 = true)) := c51
     refine wpRwI 16 (x := (!vt44)) (v := false) kr (congrArg (fun b_ => !b_) (show vt44 = true from (Decidable.of_not_not c51)) : (!vt44) = false) ?_
     refine condF kr ?_
     refine wp_skip ?_
     refine hn34 _ _ ?_
     refine hK31 _ _ ?_
     refine rl ?_
     refine seqL2 kr ?_
     refine nl ?_
     refine hK16 n17 _ _ (Nat.lt_succ_self _) ?_
     exact ⟨f46, (w64 (x23 + 1)), (fun i_ => [(j22 0), Value.int .i64 x23, Value.bool true, Value.int .i64 x23, Value.func (.func 91) #[] #[], Value.string s1, Value.int .i64 x23, Value.int .u8 (bt s1 x23), Value.bool vt44, Value.bool false, Value.int .i64 (w64 (x23 + 1))].getD i_ undef), (L19.trans L47), HS49, h, kr⟩
 · have c29 : ¬ (x23 < (s1.size : Int)) := c29
   refine wpRwI 9 (x := (decide (x23 < (s1.size : Int)))) (v := false) kr (decide_eq_false c29) ?_
   refine condF kr ?_
   refine wp_exit ?_
   refine hx9 _ _ ?_
   exact J60 f18 (fun i_ => [(j22 0), (j22 1), Value.int .i64 x23, Value.bool false, (j22 3), (j22 4), (j22 5), (j22 6), (j22 7), (j22 8), (j22 9), (j22 10)].getD i_ undef) W20 _ L19 h HS21 kr

theorem strings_TrimSpace.calls (k : Nat) (s : ByteArray) {t w : World} {f : FM} {H : List Seg} (HS : St t w f H) (HA : TabF Tryz.prog "strings.asciiSpace" .u8 Go.Lib.asciiSpaceTab f) (r1 : ByteArray) (h : strings_TrimSpace k s = some r1) :
    Calls Tryz.prog 92 #[.string s] w (fun e w' => ∃ (g : FM), e = .returned (Value.string r1) ∧ FM.le f g ∧ St t w' g H) := by
  unfold strings_TrimSpace at h
  have hq_ := guard_some h; clear h; obtain ⟨h1, h⟩ := hq_
  have hq_ := guard_some h; clear h; obtain ⟨h2, h⟩ := hq_
  injection h with h; subst h
  exact lib_calls (Tryz.strings_TrimSpace s w h1 (fun j b hj => of_decide_eq_true (List.all_eq_true.mp h2 b (List.mem_of_getElem? hj))) (HA.tab HS)) q_bytes HS

theorem strings_Repeat.calls (k : Nat) (s : ByteArray) (n : Int) {t w : World} {f : FM} {H : List Seg} (HS : St t w f H) (r1 : ByteArray) (h : strings_Repeat k s n = some r1) :
    Calls Tryz.prog 105 #[.string s, .int .i64 n] w (fun e w' => ∃ (g : FM), e = .returned (Value.string r1) ∧ FM.le f g ∧ St t w' g H) := by
  unfold strings_Repeat at h
  have hq_ := guard_some h; clear h; obtain ⟨h1, h⟩ := hq_
  have hq_ := guard_some h; clear h; obtain ⟨h2, h⟩ := hq_
  have hq_ := guard_some h; clear h; obtain ⟨h3, h⟩ := hq_
  injection h with h; subst h
  obtain ⟨m_, rfl⟩ : ∃ m_ : Nat, n = m_ := ⟨n.toNat, by omega⟩
  exact lib_calls (Tryz.strings_Repeat s m_ w (by omega) (by simpa using h2)) q_below HS

set_option maxRecDepth 100000 in
set_option maxHeartbeats 4000000 in
theorem frame_text.calls (k : Nat)  (c1 : S_Card) {t w : World} {f : FM} {H : List Seg} (HS : St t w f (H)) (rr1 : ByteArray) (h : frame_text k c1 = some rr1) :
    Calls Tryz.prog 93 #[.agg #[.string c1.Key, .string c1.Value, .string c1.Unit, .string c1.Note]] w (fun e w' => ∃ (g : FM), e = .returned (Value.string rr1) ∧ FM.le f g ∧ St t w' g (H)) := by
 unfold frame_text at h
 refine enter Tryz.func93 rfl (tm := #[(ag_Card c1), uV, uV, uV, uV, uV, uV, uV, uV, uV, uV, uV, uV, uV, uV, uV, uV, uV, uV, uV, uV, uV, uV, uV, uV, uV, uV, uV, uV, uV, uV, uV, uV, uV, uV]) kr ?_
 intro B hret hnor hnp
 refine wp_seq_k fun K2 hK3 => rl ?_
 refine seqK rfl (does_box (cs := #[.string c1.Key, .string c1.Value, .string c1.Unit, .string c1.Note]) rfl (kv (.agg #[.string c1.Key, .string c1.Value, .string c1.Unit, .string c1.Note])) rfl HS ?_)
 intro b4 W5 HS6
 refine seqL1 kr ?_
 refine nl (hK3 _ _ ?_)
 refine wp_seq_k (fun K8 hK9 => ?_)
 refine heldG (S := Sg t f ([(b4, .cells #[.string c1.Key, .string c1.Value, .string c1.Unit, .string c1.Note] 98 (0, 0))] :: H) []) (n := 14) kr rfl HS6 ?_
 intro W10 HS11
 refine takeGL [0] (n := 14) (fuel := 13) #[true, false, false, false, false, false, false, false, false, false, false, false, false, false] rfl kr kr kr hnp (Sg.g0 (Sx.of [] (FM.le.refl _) HS11)) ?_
 refine takeGQ 1 [] rfl kr kr kr kr kr kr hnp (Sg.g0 (Sx.of [] (FM.le.refl _) HS11)) (fun w_ hw_ => by obtain ⟨g_, hl_, hS_⟩ := hw_.st; exact run_load rfl Tryz.underlying9 rfl (kv (.pointer (some ⟨b4, 0, none⟩))) (hS_.cell 0)) ?_
 refine takeGL [2] (n := 12) (fuel := 11) #[true, true, true, false, false, false, false, false, false, false, false, false, false, false] rfl kr kr kr hnp (Sg.g0 (Sx.of [] (FM.le.refl _) HS11)) ?_
 refine takeGQ 3 [] rfl kr kr kr kr kr kr hnp (Sg.g0 (Sx.of [] (FM.le.refl _) HS11)) (fun w_ hw_ => by obtain ⟨g_, hl_, hS_⟩ := hw_.st; exact run_load rfl Tryz.underlying9 rfl (kv (.pointer (some ⟨b4, 0, none⟩))) (hS_.cell 0)) ?_
 refine takeGL [4, 5, 6, 10] (n := 10) (fuel := 6) #[true, true, true, true, true, true, true, false, false, false, true, false, false, false] rfl kr kr kr hnp (Sg.g0 (Sx.of [] (FM.le.refl _) HS11)) ?_
 refine takeGQ 11 [] rfl kr kr kr kr kr kr hnp (Sg.g0 (Sx.of [] (FM.le.refl _) HS11)) (fun w_ hw_ => by obtain ⟨g_, hl_, hS_⟩ := hw_.st; exact run_load rfl Tryz.underlying9 rfl (kv (.pointer (some ⟨b4, 1, none⟩))) (hS_.cell 1)) ?_
 have hq_ := bind_some h; clear h; obtain ⟨vt12, hc13, h⟩ := hq_
 refine takeGE 7 kr rfl kr (does_call (f := 105) (args := #[.string ⟨#[32]⟩, .int .i64 (mx 0 (w64 (8 - (c1.Key.size : Int))))]) kr (strings_Repeat.calls k (⟨#[32]⟩ : ByteArray) (mx 0 (w64 (8 - (c1.Key.size : Int)))) HS11 vt12 hc13) ?_)
 rintro _ W16 ⟨f14, rfl, L15, HS17⟩
 refine ⟨_, rfl, ?_⟩
 refine ⟨(Sg.g0 (Sx.of [] L15 HS17)), ?_⟩
 have hq_ := guard_some h; clear h; obtain ⟨c18, h⟩ := hq_
 have c18 : c1.Key.size + vt12.size ≤ 9223372036854775807 := c18
 refine takeGQ 8 [] rfl kr kr kr kr kr kr hnp (Sg.g0 (Sx.of [] L15 HS17)) (fun w_ hw_ => by obtain ⟨g_, hl_, hS_⟩ := hw_.st; exact run_concat rfl (kv (.string c1.Key)) (kv (.string vt12)) c18 w_) ?_
 have hq_ := guard_some h; clear h; obtain ⟨c19, h⟩ := hq_
 have c19 : (c1.Key ++ vt12).size + (⟨#[61, 32]⟩ : ByteArray).size ≤ 9223372036854775807 := c19
 refine takeGQ 9 [] rfl kr kr kr kr kr kr hnp (Sg.g0 (Sx.of [] L15 HS17)) (fun w_ hw_ => by obtain ⟨g_, hl_, hS_⟩ := hw_.st; exact run_concat rfl (kv (.string (c1.Key ++ vt12))) (kv (.string ⟨#[61, 32]⟩)) c19 w_) ?_
 have hq_ := guard_some h; clear h; obtain ⟨c20, h⟩ := hq_
 have c20 : ((c1.Key ++ vt12) ++ (⟨#[61, 32]⟩ : ByteArray)).size + c1.Value.size ≤ 9223372036854775807 := c20
 refine takeGQ 12 [] rfl kr kr kr kr kr kr hnp (Sg.g0 (Sx.of [] L15 HS17)) (fun w_ hw_ => by obtain ⟨g_, hl_, hS_⟩ := hw_.st; exact run_concat rfl (kv (.string ((c1.Key ++ vt12) ++ (⟨#[61, 32]⟩ : ByteArray)))) (kv (.string c1.Value)) c20 w_) ?_
 refine takeGL [13] (n := 1) (fuel := 0) #[true, true, true, true, true, true, true, true, true, true, true, true, true, true] rfl kr kr kr hnp (Sg.g0 (Sx.of [] L15 HS17)) ?_
 refine doneG kr ?_ _
 refine hK9 _ _ ?_
 refine wp_seq_k (fun K21 hK22 => ?_)
 refine wp_seq_k fun K23 hK24 => rl ?_
 refine seqL1 kr ?_
 refine seqK rfl (does_run (run_load rfl Tryz.underlying9 rfl (kv (.pointer (some ⟨b4, 2, none⟩))) (HS17.cell 2)) ?_)
 refine seqL1 kr ?_
 refine nl (hK24 _ _ ?_)
 have hq_ := ite_some h; clear h; rcases hq_ with ⟨c26, h⟩ | ⟨c26, h⟩
 · have c26 : (!(c1.Unit.toList == (⟨#[]⟩ : ByteArray).toList)) = true := c26
   refine wpRwI 19 (x := (!(c1.Unit.toList == (⟨#[]⟩ : ByteArray).toList))) (v := true) kr c26 ?_
   refine condT kr ?_
   refine rl ?_
   refine seqL2 kr ?_
   refine seqK rfl (does_run (run_load rfl Tryz.underlying9 rfl (kv (.pointer (some ⟨b4, 2, none⟩))) (HS17.cell 2)) ?_)
   have hq_ := guard_some h; clear h; obtain ⟨c27, h⟩ := hq_
   have c27 : (⟨#[32, 91]⟩ : ByteArray).size + c1.Unit.size ≤ 9223372036854775807 := c27
   refine seqK rfl (does_run (run_concat rfl (kv (.string ⟨#[32, 91]⟩)) (kv (.string c1.Unit)) c27 W16) ?_)
   have hq_ := guard_some h; clear h; obtain ⟨c28, h⟩ := hq_
   have c28 : ((⟨#[32, 91]⟩ : ByteArray) ++ c1.Unit).size + (⟨#[93]⟩ : ByteArray).size ≤ 9223372036854775807 := c28
   refine seqK rfl (does_run (run_concat rfl (kv (.string ((⟨#[32, 91]⟩ : ByteArray) ++ c1.Unit))) (kv (.string ⟨#[93]⟩)) c28 W16) ?_)
   have hq_ := guard_some h; clear h; obtain ⟨c29, h⟩ := hq_
   have c29 : (((c1.Key ++ vt12) ++ (⟨#[61, 32]⟩ : ByteArray)) ++ c1.Value).size + (((⟨#[32, 91]⟩ : ByteArray) ++ c1.Unit) ++ (⟨#[93]⟩ : ByteArray)).size ≤ 9223372036854775807 := c29
   refine seqK rfl (does_run (run_concat rfl (kv (.string (((c1.Key ++ vt12) ++ (⟨#[61, 32]⟩ : ByteArray)) ++ c1.Value))) (kv (.string (((⟨#[32, 91]⟩ : ByteArray) ++ c1.Unit) ++ (⟨#[93]⟩ : ByteArray)))) c29 W16) ?_)
   refine seqL1 kr ?_
   refine nl (hK22 _ _ ?_)
   refine wp_seq_k (fun K30 hK31 => ?_)
   refine wp_seq_k fun K32 hK33 => rl ?_
   refine seqL1 kr ?_
   refine seqK rfl (does_run (run_load rfl Tryz.underlying9 rfl (kv (.pointer (some ⟨b4, 3, none⟩))) (HS17.cell 3)) ?_)
   refine seqL1 kr ?_
   refine nl (hK33 _ _ ?_)
   have hq_ := ite_some h; clear h; rcases hq_ with ⟨c35, h⟩ | ⟨c35, h⟩
   · have c35 : (!(c1.Note.toList == (⟨#[]⟩ : ByteArray).toList)) = true := c35
     refine wpRwI 28 (x := (!(c1.Note.toList == (⟨#[]⟩ : ByteArray).toList))) (v := true) kr c35 ?_
     refine condT kr ?_
     refine rl ?_
     refine seqL2 kr ?_
     refine seqK rfl (does_run (run_load rfl Tryz.underlying9 rfl (kv (.pointer (some ⟨b4, 3, none⟩))) (HS17.cell 3)) ?_)
     have hq_ := guard_some h; clear h; obtain ⟨c36, h⟩ := hq_
     have c36 : (⟨#[32, 47, 32]⟩ : ByteArray).size + c1.Note.size ≤ 9223372036854775807 := c36
     refine seqK rfl (does_run (run_concat rfl (kv (.string ⟨#[32, 47, 32]⟩)) (kv (.string c1.Note)) c36 W16) ?_)
     have hq_ := guard_some h; clear h; obtain ⟨c37, h⟩ := hq_
     have c37 : ((((c1.Key ++ vt12) ++ (⟨#[61, 32]⟩ : ByteArray)) ++ c1.Value) ++ (((⟨#[32, 91]⟩ : ByteArray) ++ c1.Unit) ++ (⟨#[93]⟩ : ByteArray))).size + ((⟨#[32, 47, 32]⟩ : ByteArray) ++ c1.Note).size ≤ 9223372036854775807 := c37
     refine seqK rfl (does_run (run_concat rfl (kv (.string ((((c1.Key ++ vt12) ++ (⟨#[61, 32]⟩ : ByteArray)) ++ c1.Value) ++ (((⟨#[32, 91]⟩ : ByteArray) ++ c1.Unit) ++ (⟨#[93]⟩ : ByteArray))))) (kv (.string ((⟨#[32, 47, 32]⟩ : ByteArray) ++ c1.Note))) c37 W16) ?_)
     refine seqL1 kr ?_
     refine nl (hK31 _ _ ?_)
     refine wp_seq_k fun K38 hK39 => rl ?_
     refine seqL2 kr ?_
     refine nl (hK39 _ _ ?_)
     refine wp_ret ?_
     refine hret _ _ ?_
     refine ends_still (v := Value.string (((((c1.Key ++ vt12) ++ (⟨#[61, 32]⟩ : ByteArray)) ++ c1.Value) ++ (((⟨#[32, 91]⟩ : ByteArray) ++ c1.Unit) ++ (⟨#[93]⟩ : ByteArray))) ++ ((⟨#[32, 47, 32]⟩ : ByteArray) ++ c1.Note))) kr kr ?_
     have HS54 := HS17.drop
     injection h with h
     subst h
     exact ⟨f14, rfl, L15, HS54⟩
   · have c35 : ¬ ((!(c1.Note.toList == (⟨#[]⟩ : ByteArray).toList)) = true) := c35
     refine wpRwI 28 (x := (!(c1.Note.toList == (⟨#[]⟩ : ByteArray).toList))) (v := false) kr (Bool.eq_false_iff.mpr c35) ?_
     refine condF kr ?_
     refine wp_skip ?_
     refine hK31 _ _ ?_
     refine wp_seq_k fun K40 hK41 => rl ?_
     refine seqL2 kr ?_
     refine nl (hK41 _ _ ?_)
     refine wp_ret ?_
     refine hret _ _ ?_
     refine ends_still (v := Value.string ((((c1.Key ++ vt12) ++ (⟨#[61, 32]⟩ : ByteArray)) ++ c1.Value) ++ (((⟨#[32, 91]⟩ : ByteArray) ++ c1.Unit) ++ (⟨#[93]⟩ : ByteArray)))) kr kr ?_
     have HS55 := HS17.drop
     injection h with h
     subst h
     exact ⟨f14, rfl, L15, HS55⟩
 · have c26 : ¬ ((!(c1.Unit.toList == (⟨#[]⟩ : ByteArray).toList)) = true) := c26
   refine wpRwI 19 (x := (!(c1.Unit.toList == (⟨#[]⟩ : ByteArray).toList))) (v := false) kr (Bool.eq_false_iff.mpr c26) ?_
   refine condF kr ?_
   refine wp_skip ?_
   refine hK22 _ _ ?_
   refine wp_seq_k (fun K42 hK43 => ?_)
   refine wp_seq_k fun K44 hK45 => rl ?_
   refine seqL1 kr ?_
   refine seqK rfl (does_run (run_load rfl Tryz.underlying9 rfl (kv (.pointer (some ⟨b4, 3, none⟩))) (HS17.cell 3)) ?_)
   refine seqL1 kr ?_
   refine nl (hK45 _ _ ?_)
   have hq_ := ite_some h; clear h; rcases hq_ with ⟨c47, h⟩ | ⟨c47, h⟩
   · have c47 : (!(c1.Note.toList == (⟨#[]⟩ : ByteArray).toList)) = true := c47
     refine wpRwI 28 (x := (!(c1.Note.toList == (⟨#[]⟩ : ByteArray).toList))) (v := true) kr c47 ?_
     refine condT kr ?_
     refine rl ?_
     refine seqL2 kr ?_
     refine seqK rfl (does_run (run_load rfl Tryz.underlying9 rfl (kv (.pointer (some ⟨b4, 3, none⟩))) (HS17.cell 3)) ?_)
     have hq_ := guard_some h; clear h; obtain ⟨c48, h⟩ := hq_
     have c48 : (⟨#[32, 47, 32]⟩ : ByteArray).size + c1.Note.size ≤ 9223372036854775807 := c48
     refine seqK rfl (does_run (run_concat rfl (kv (.string ⟨#[32, 47, 32]⟩)) (kv (.string c1.Note)) c48 W16) ?_)
     have hq_ := guard_some h; clear h; obtain ⟨c49, h⟩ := hq_
     have c49 : (((c1.Key ++ vt12) ++ (⟨#[61, 32]⟩ : ByteArray)) ++ c1.Value).size + ((⟨#[32, 47, 32]⟩ : ByteArray) ++ c1.Note).size ≤ 9223372036854775807 := c49
     refine seqK rfl (does_run (run_concat rfl (kv (.string (((c1.Key ++ vt12) ++ (⟨#[61, 32]⟩ : ByteArray)) ++ c1.Value))) (kv (.string ((⟨#[32, 47, 32]⟩ : ByteArray) ++ c1.Note))) c49 W16) ?_)
     refine seqL1 kr ?_
     refine nl (hK43 _ _ ?_)
     refine wp_seq_k fun K50 hK51 => rl ?_
     refine seqL2 kr ?_
     refine nl (hK51 _ _ ?_)
     refine wp_ret ?_
     refine hret _ _ ?_
     refine ends_still (v := Value.string ((((c1.Key ++ vt12) ++ (⟨#[61, 32]⟩ : ByteArray)) ++ c1.Value) ++ ((⟨#[32, 47, 32]⟩ : ByteArray) ++ c1.Note))) kr kr ?_
     have HS56 := HS17.drop
     injection h with h
     subst h
     exact ⟨f14, rfl, L15, HS56⟩
   · have c47 : ¬ ((!(c1.Note.toList == (⟨#[]⟩ : ByteArray).toList)) = true) := c47
     refine wpRwI 28 (x := (!(c1.Note.toList == (⟨#[]⟩ : ByteArray).toList))) (v := false) kr (Bool.eq_false_iff.mpr c47) ?_
     refine condF kr ?_
     refine wp_skip ?_
     refine hK43 _ _ ?_
     refine wp_seq_k fun K52 hK53 => rl ?_
     refine seqL2 kr ?_
     refine nl (hK53 _ _ ?_)
     refine wp_ret ?_
     refine hret _ _ ?_
     refine ends_still (v := Value.string (((c1.Key ++ vt12) ++ (⟨#[61, 32]⟩ : ByteArray)) ++ c1.Value)) kr kr ?_
     have HS57 := HS17.drop
     injection h with h
     subst h
     exact ⟨f14, rfl, L15, HS57⟩

end Go.Sp.K3
