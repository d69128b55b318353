import Derived.Test.YtblgjdbiccjfdaaProg
import Derived.Test.YtblgjdbiccjfdaaSpCopy
import Derived.Test.YtblgjdbiccjfdaaFS4
import Derived.Test.YtblgjdbiccjfdaaSpTake
import Derived.Test.YtblgjdbiccjfdaaKS4n0
import Derived.Test.YtblgjdbiccjfdaaKS4n1
namespace Go.Sp.S4
open Go Go.Sp Go.Proofs
set_option linter.unusedVariables false
attribute [local irreducible] wpList AnyL Code.wp Calls Does
set_option maxRecDepth 100000 in
set_option maxHeartbeats 4000000 in
theorem link_device_hear.calls (k : Nat) (b1 : Nat) (A4 : Option Addr) (c5 : Nat) (s6 : Seg) (A10 : Option Addr) (c11 : Nat) (d3 : S_device) (p9 : S_Packet) (vt13 : Int) {t w : World} {f : FM} {H : List Seg} (HS : St t w f ([(b1, .cells #[.int .i64 d3.last, .bool d3.did, .slice A4 d3.log.length c5] 81 (0, 0))] :: s6 :: H)) (HO7 : Own ty_Exec 104 f A4 c5 s6 d3.log) (HR12 : SlR (tInt .u8) f A10 c11 p9.Data) (rr1 : S_Packet) (rr2 : Bool) (rr3 : Int) (rr4 : Bool) (rr5 : List S_Exec) (h : link_device_hear k d3 p9 vt13 = some (rr1, rr2, rr3, rr4, rr5)) :
    Calls Try.prog 23 #[pV b1 0, .agg #[.int .i64 p9.Addr, .int .i64 p9.Kind, .int .i64 p9.Seq, .slice A10 p9.Data.length c11], .int .i64 vt13] w (fun e w' => ∃ (g : FM) (A223 : Option Addr) (c224 : Nat) (s225 : Seg) (A226 : Option Addr) (c227 : Nat) (s228 : Seg), e = .returned (Value.tuple #[.agg #[.int .i64 rr1.Addr, .int .i64 rr1.Kind, .int .i64 rr1.Seq, .slice A223 rr1.Data.length c224], .bool rr2]) ∧ FM.le f g ∧ St t w' g (s225 :: s228 :: [(b1, .cells #[.int .i64 rr3, .bool rr4, .slice A226 rr5.length c227] 81 (0, 0))] :: H) ∧ Own (tInt .u8) 5 g A223 c224 s225 rr1.Data ∧ Own ty_Exec 104 g A226 c227 s228 rr5) := by
 unfold link_device_hear at h
 refine enter Try.func23 rfl (tm := ⟨[pV b1 0, (ag_Packet p9 A10 c11), iV vt13] ++ (un 73 [])⟩) kr ?_
 intro B hret hnor hnp
 refine wp_seq_k fun K14 hK15 => rl ?_
 refine seqK rfl (does_box (cs := #[.int .i64 p9.Addr, .int .i64 p9.Kind, .int .i64 p9.Seq, .slice A10 p9.Data.length c11]) rfl (kv (.agg #[.int .i64 p9.Addr, .int .i64 p9.Kind, .int .i64 p9.Seq, .slice A10 p9.Data.length c11])) rfl HS ?_)
 intro b16 W17 HS18
 refine seqK rfl (does_alloc (z := Value.agg #[.int .i64 0, .int .i64 0, .int .i64 0, .slice none 0 0]) (cs := #[.int .i64 0, .int .i64 0, .int .i64 0, .slice none 0 0]) rfl kr rfl HS18 ?_)
 intro b20 W21 HS22
 refine seqL1 kr ?_
 refine nl (hK15 _ _ ?_)
 refine wp_seq_k (fun K24 hK25 => ?_)
 refine wp_seq_k (fun K26 hK27 => ?_)
 replace h := bind_some h; obtain ⟨v28, hv56, h⟩ := h
 have J57 : ∀ (f50 : FM) (x55 : Bool) (j54 : Nat → Value) (W52 : World) (a_ : Act), FM.le f f50 → some (x55) = some v28 → St t W52 f50 ([(b20, .cells #[.int .i64 0, .int .i64 0, .int .i64 0, .slice none 0 0] 93 (0, 0))] :: [(b16, .cells #[.int .i64 p9.Addr, .int .i64 p9.Kind, .int .i64 p9.Seq, .slice A10 p9.Data.length c11] 93 (0, 0))] :: [(b1, .cells #[.int .i64 d3.last, .bool d3.did, .slice A4 d3.log.length c5] 81 (0, 0))] :: s6 :: H) → a_ = ⟨⟨[pV b1 0, (ag_Packet p9 A10 c11), iV vt13, uV, pV b16 0, uV, pV b20 0, fV, uV] ++ (jr j54 0 16 ([.bool x55] ++ (un 50 [])))⟩, []⟩ → K26 a_ W52 := by
  intro f50 x55 j54 W52 a_ L51 hj58 HS53  hfr_; subst hfr_
  injection hj58 with hj58; subst hj58; try dsimp only at h
  refine hK27 _ _ ?_
  replace h := ite_some h; rcases h with ⟨c60, h⟩ | ⟨c60, h⟩
  · have c60 : x55 = true := c60
    refine wpRwI 25 kr c60 ?_
    refine condT kr ?_
    refine wp_seq_k fun K61 hK62 => rl ?_
    refine seqL1 kr ?_
    refine seqK rfl (does_storeA (vs := [.int .i64 0, .int .i64 0, .int .i64 0, .slice none 0 0]) rfl kr kr kr rfl (ones rfl) HS53 kr ?_)
    intro W63 HS64
    refine seqL1 kr ?_
    refine nl (hK62 _ _ ?_)
    refine wp_ret ?_
    refine hret _ _ ?_
    have HS196 := HS64.cons_nil
    refine ends (v := Value.tuple #[.agg #[.int .i64 0, .int .i64 0, .int .i64 0, .slice none 0 0], .bool false]) (results2 (q1 := .cell 6 93) (q2 := .tmp 7) kr (resN (n := 4) (cs := [.int .i64 0, .int .i64 0, .int .i64 0, .slice none 0 0]) (kv (pV b20 0)) Try.underlying93 rfl kr rfl (HS196.u1.cells 0 4 _ rfl)) (resT (kv (.bool false)))) kr ?_
    have HS202 := HS196.u3.u4.u2.u4.u4
    have HS203 := HS202.drop
    have HS204 := HS203.drop
    injection h with h
    injection h with h0_ h
    injection h with h1_ h
    injection h with h2_ h
    injection h with h3_ h
    subst h0_ h1_ h2_ h3_ h
    exact ⟨f50, none, 0, [], A4, c5, s6, rfl, L51, HS204, (Own.nil _), (HO7.mono L51)⟩
  have c60 : ¬ (x55 = true) := c60
  refine wpRwI 25 kr (Bool.eq_false_iff.mpr c60) ?_
  refine condF kr ?_
  refine wp_skip ?_
  refine hK25 _ _ ?_
  refine wp_seq_k (fun K65 hK66 => ?_)
  refine wp_seq_k (fun K67 hK68 => ?_)
  refine heldG (S := Sg t f50 ([(b20, .cells #[.int .i64 0, .int .i64 0, .int .i64 0, .slice none 0 0] 93 (0, 0))] :: [(b16, .cells #[.int .i64 p9.Addr, .int .i64 p9.Kind, .int .i64 p9.Seq, .slice A10 p9.Data.length c11] 93 (0, 0))] :: [(b1, .cells #[.int .i64 d3.last, .bool d3.did, .slice A4 d3.log.length c5] 81 (0, 0))] :: s6 :: H) []) (n := 7) kr rfl HS53 ?_
  intro W69 HS70
  refine gL [0] (fuel := 6) (bA 7 1) rfl kr kr kr hnp (Sg.g0 (Sx.of [] fL HS70)) fun X71 => ?_
  refine gQ 1 rfl kr kr kr kr kr hnp X71 (fun hl_ hS_ => run_load rfl Try.underlying3 rfl (kv (pV b16 2)) (hS_.u1.cell 2)) fun X72 => ?_
  refine gL [2, 3, 4] (fuel := 2) (bA 7 31) rfl kr kr kr hnp X72 fun X73 => ?_
  refine gQ 5 rfl kr kr kr kr kr hnp X73 (fun hl_ hS_ => run_load rfl Try.underlying3 rfl (kv (pV b1 0)) (hS_.u2.cell 0)) fun X74 => ?_
  refine gL [6] (fuel := 0) (bA 7 127) rfl kr kr kr hnp X74 fun X75 => ?_
  refine doneG kr ?_ _
  refine hK68 _ _ ?_
  replace h := bind_some h; obtain ⟨v76, hv173, h⟩ := h
  have J174 : ∀ (f161 : FM) (A169 : Option Addr) (c170 : Nat) (s171 : Seg) (x166 : Int) (x167 : Bool) (x168 : List S_Exec) (j165 : Nat → Value) (W163 : World) (a_ : Act), FM.le f50 f161 → some ((x166, x167, x168)) = some v76 → St t W163 f161 ([(b20, .cells #[.int .i64 0, .int .i64 0, .int .i64 0, .slice none 0 0] 93 (0, 0))] :: [(b16, .cells #[.int .i64 p9.Addr, .int .i64 p9.Kind, .int .i64 p9.Seq, .slice A10 p9.Data.length c11] 93 (0, 0))] :: [(b1, .cells #[.int .i64 x166, .bool x167, .slice A169 x168.length c170] 81 (0, 0))] :: s171 :: H) → Own ty_Exec 104 f161 A169 c170 s171 x168 → a_ = ⟨⟨[pV b1 0, (ag_Packet p9 A10 c11), iV vt13, uV, pV b16 0, uV, pV b20 0, fV, uV] ++ (jr j54 0 16 ([fV, uV, pV b16 2, iV p9.Seq, pV b1 0, pV b1 0, pV b1 0, iV d3.last, .bool (decide (p9.Seq > d3.last))] ++ (jr j165 0 34 (un 8 []))))⟩, []⟩ → K65 a_ W163 := by
   intro f161 A169 c170 s171 x166 x167 x168 j165 W163 a_ L162 hj175 HS164 HO172 hfr_; subst hfr_
   injection hj175 with hj175; subst hj175; try dsimp only at h
   refine hK66 _ _ ?_
   refine wp_seq_k fun K180 hK181 => rl ?_
   refine seqL1 kr ?_
   refine nl (hK181 _ _ ?_)
   refine wp_seq_k (fun K182 hK183 => ?_)
   refine wp_seq_k fun K184 hK185 => rl ?_
   refine seqL3 kr ?_
   refine seqK rfl (does_run (run_load rfl Try.underlying4 rfl (kv (pV b1 1)) (HS164.u2.cell 1)) ?_)
   refine nl (hK185 _ _ ?_)
   replace h := ite_some h; rcases h with ⟨c187, h⟩ | ⟨c187, h⟩
   · have c187 : x167 = true := c187
     refine wpRwI 71 kr c187 ?_
     refine condT kr ?_
     refine rl ?_
     refine seqL1 kr ?_
     refine nl (hK183 _ _ ?_)
     refine wp_seq_k fun K188 hK189 => rl ?_
     refine seqL2 kr ?_
     refine seqK rfl (does_run (run_load rfl Try.underlying3 rfl (kv (pV b16 2)) (HS164.u1.cell 2)) ?_)
     refine seqL1 kr ?_
     refine seqK rfl (does_storeA (vs := [.int .i64 0, .int .i64 3, .int .i64 p9.Seq, .slice none 0 0]) rfl kr kr kr rfl (ones rfl) HS164 kr ?_)
     intro W190 HS191
     refine seqL1 kr ?_
     refine nl (hK189 _ _ ?_)
     refine wp_ret ?_
     refine hret _ _ ?_
     have HS205 := HS191.cons_nil
     refine ends (v := Value.tuple #[.agg #[.int .i64 0, .int .i64 3, .int .i64 p9.Seq, .slice none 0 0], .bool true]) (results2 (q1 := .cell 6 93) (q2 := .tmp 7) kr (resN (n := 4) (cs := [.int .i64 0, .int .i64 3, .int .i64 p9.Seq, .slice none 0 0]) (kv (pV b20 0)) Try.underlying93 rfl kr rfl (HS205.u1.cells 0 4 _ rfl)) (resT (kv (.bool true)))) kr ?_
     have HS211 := HS205.u3.u4.u2.u4.u4
     have HS212 := HS211.drop
     have HS213 := HS212.drop
     injection h with h
     injection h with h0_ h
     injection h with h1_ h
     injection h with h2_ h
     injection h with h3_ h
     subst h0_ h1_ h2_ h3_ h
     exact ⟨f161, none, 0, [], A169, c170, s171, rfl, (L51.trans L162), HS213, (Own.nil _), HO172⟩
   have c187 : ¬ (x167 = true) := c187
   refine wpRwI 71 kr (Bool.eq_false_iff.mpr c187) ?_
   refine condF kr ?_
   refine wp_skip ?_
   refine hK183 _ _ ?_
   refine wp_seq_k fun K192 hK193 => rl ?_
   refine seqL2 kr ?_
   refine seqK rfl (does_run (run_load rfl Try.underlying3 rfl (kv (pV b16 2)) (HS164.u1.cell 2)) ?_)
   refine seqL1 kr ?_
   refine seqK rfl (does_storeA (vs := [.int .i64 0, .int .i64 4, .int .i64 p9.Seq, .slice none 0 0]) rfl kr kr kr rfl (ones rfl) HS164 kr ?_)
   intro W194 HS195
   refine seqL1 kr ?_
   refine nl (hK193 _ _ ?_)
   refine wp_ret ?_
   refine hret _ _ ?_
   have HS214 := HS195.cons_nil
   refine ends (v := Value.tuple #[.agg #[.int .i64 0, .int .i64 4, .int .i64 p9.Seq, .slice none 0 0], .bool true]) (results2 (q1 := .cell 6 93) (q2 := .tmp 7) kr (resN (n := 4) (cs := [.int .i64 0, .int .i64 4, .int .i64 p9.Seq, .slice none 0 0]) (kv (pV b20 0)) Try.underlying93 rfl kr rfl (HS214.u1.cells 0 4 _ rfl)) (resT (kv (.bool true)))) kr ?_
   have HS220 := HS214.u3.u4.u2.u4.u4
   have HS221 := HS220.drop
   have HS222 := HS221.drop
   injection h with h
   injection h with h0_ h
   injection h with h1_ h
   injection h with h2_ h
   injection h with h3_ h
   subst h0_ h1_ h2_ h3_ h
   exact ⟨f161, none, 0, [], A169, c170, s171, rfl, (L51.trans L162), HS222, (Own.nil _), HO172⟩
  clear h; have h := hv173; clear hv173
  replace h := ite_some h; rcases h with ⟨c77, h⟩ | ⟨c77, h⟩
  rotate_left
  · have c77 : ¬ (p9.Seq > d3.last) := c77
    refine wpRwI 33 kr (decide_eq_false c77) ?_
    refine condF kr ?_
    refine wp_skip ?_
    refine fnRwI (F := K65) 33 (x := false) (v := (decide (p9.Seq > d3.last))) kr (Eq.symm (decide_eq_false c77)) ?_
    exact J174 f50 A4 c5 s6 d3.last d3.did d3.log (jL []) W69 _ fL h HS70 (HO7.mono L51) kr
  have c77 : p9.Seq > d3.last := c77
  refine wpRwI 33 kr (decide_eq_true c77) ?_
  refine condT kr ?_
  refine wp_seq_k fun K78 hK79 => rl ?_
  refine seqL3 kr ?_
  refine seqK rfl (does_run (run_load rfl Try.underlying3 rfl (kv (pV b16 2)) (HS70.u1.cell 2)) ?_)
  have HS80 := HS70.u2
  refine seqL2 kr ?_
  refine seqK rfl (does_store (n := 1) (vs := [.int .i64 p9.Seq]) (cs' := #[.int .i64 p9.Seq, .bool d3.did, .slice A4 d3.log.length c5]) rfl kr (kv (pV b1 0)) (kv (.int .i64 p9.Seq)) rfl rfl (ones rfl) HS80 (Nat.le_of_ble_eq_true rfl) kr ?_)
  intro W81 HS82
  refine seqL2 kr ?_
  refine seqK rfl (does_store (n := 1) (vs := [.bool false]) (cs' := #[.int .i64 p9.Seq, .bool false, .slice A4 d3.log.length c5]) rfl kr (kv (pV b1 1)) (kv (.bool false)) rfl rfl (ones rfl) HS82 (Nat.le_of_ble_eq_true rfl) kr ?_)
  intro W83 HS84
  refine nl (hK79 _ _ ?_)
  refine wp_seq_k (fun K85 hK86 => ?_)
  replace h := bind_some h; obtain ⟨v87, hv101, h⟩ := h
  have J102 : ∀ (f95 : FM) (x100 : Bool) (j99 : Nat → Value) (W97 : World) (a_ : Act), FM.le f50 f95 → some (x100) = some v87 → St t W97 f95 ([(b1, .cells #[.int .i64 p9.Seq, .bool false, .slice A4 d3.log.length c5] 81 (0, 0))] :: [(b20, .cells #[.int .i64 0, .int .i64 0, .int .i64 0, .slice none 0 0] 93 (0, 0))] :: [(b16, .cells #[.int .i64 p9.Addr, .int .i64 p9.Kind, .int .i64 p9.Seq, .slice A10 p9.Data.length c11] 93 (0, 0))] :: s6 :: H) → a_ = ⟨⟨[pV b1 0, (ag_Packet p9 A10 c11), iV vt13, uV, pV b16 0, uV, pV b20 0, fV, uV] ++ (jr j54 0 16 ([fV, uV, pV b16 2, iV p9.Seq, pV b1 0, pV b1 0, pV b1 0, iV d3.last, tV, pV b1 0, pV b1 0, pV b16 2, iV p9.Seq, pV b1 0, pV b1 0, pV b1 0, pV b1 1] ++ (jr j99 0 8 ([.bool x100] ++ (un 25 [])))))⟩, []⟩ → K85 a_ W97 := by
   intro f95 x100 j99 W97 a_ L96 hj103 HS98  hfr_; subst hfr_
   injection hj103 with hj103; subst hj103; try dsimp only at h
   refine hK86 _ _ ?_
   replace h := bind_some h; obtain ⟨v104, hv154, h⟩ := h
   have J155 : ∀ (f143 : FM) (A150 : Option Addr) (c151 : Nat) (s152 : Seg) (x148 : Bool) (x149 : List S_Exec) (j147 : Nat → Value) (W145 : World) (a_ : Act), FM.le f95 f143 → some ((x148, x149)) = some v104 → St t W145 f143 ([(b1, .cells #[.int .i64 p9.Seq, .bool x148, .slice A150 x149.length c151] 81 (0, 0))] :: [(b20, .cells #[.int .i64 0, .int .i64 0, .int .i64 0, .slice none 0 0] 93 (0, 0))] :: [(b16, .cells #[.int .i64 p9.Addr, .int .i64 p9.Kind, .int .i64 p9.Seq, .slice A10 p9.Data.length c11] 93 (0, 0))] :: s152 :: H) → Own ty_Exec 104 f143 A150 c151 s152 x149 → a_ = ⟨⟨[pV b1 0, (ag_Packet p9 A10 c11), iV vt13, uV, pV b16 0, uV, pV b20 0, fV, uV] ++ (jr j54 0 16 ([fV, uV, pV b16 2, iV p9.Seq, pV b1 0, pV b1 0, pV b1 0, iV d3.last, tV, pV b1 0, pV b1 0, pV b16 2, iV p9.Seq, pV b1 0, pV b1 0, pV b1 0, pV b1 1] ++ (jr j99 0 8 ([.bool x100] ++ (jr j147 0 17 (un 8 []))))))⟩, []⟩ → K65 a_ W145 := by
    intro f143 A150 c151 s152 x148 x149 j147 W145 a_ L144 hj156 HS146 HO153 hfr_; subst hfr_
    injection hj156 with hj156; subst hj156; try dsimp only at h
    refine fnRwI (F := K65) 33 (x := true) (v := (decide (p9.Seq > d3.last))) kr (Eq.symm (decide_eq_true c77)) ?_
    have HS179 := HS146.u3.u1.u3.u3
    exact J174 f143 A150 c151 s152 p9.Seq x148 x149 (jL [pV b1 0, pV b1 0, pV b16 2, iV p9.Seq, pV b1 0, pV b1 0, pV b1 0, pV b1 1, (j99 0), (j99 1), (j99 2), (j99 3), (j99 4), (j99 5), (j99 6), (j99 7), .bool x100, (j147 0), (j147 1), (j147 2), (j147 3), (j147 4), (j147 5), (j147 6), (j147 7), (j147 8), (j147 9), (j147 10), (j147 11), (j147 12), (j147 13), (j147 14), (j147 15), (j147 16)]) W145 _ (L96.trans L144) h HS179 HO153 kr
   clear h; have h := hv154; clear hv154
   replace h := ite_some h; rcases h with ⟨c105, h⟩ | ⟨c105, h⟩
   rotate_left
   · have c105 : ¬ (x100 = true) := c105
     refine wpRwI 50 kr (Bool.eq_false_iff.mpr c105) ?_
     refine condF kr ?_
     refine wp_skip ?_
     refine fnRwI (F := K65) 50 (x := false) (v := x100) kr (Eq.symm (Bool.eq_false_iff.mpr c105)) ?_
     exact J155 f95 A4 c5 s6 false d3.log (jL []) W97 _ fL h HS98 (HO7.mono (L51.trans L96)) kr
   have c105 : x100 = true := c105
   refine wpRwI 50 kr c105 ?_
   refine condT kr ?_
   refine wp_seq_k fun K106 hK107 => rl ?_
   refine seqL3 kr ?_
   refine seqK rfl (does_store (n := 1) (vs := [.bool true]) (cs' := #[.int .i64 p9.Seq, .bool true, .slice A4 d3.log.length c5]) rfl kr (kv (pV b1 1)) (kv (.bool true)) rfl rfl (ones rfl) HS98 (Nat.le_of_ble_eq_true rfl) kr ?_)
   intro W108 HS109
   refine nl (hK107 _ _ ?_)
   have HS113 := HS109.u2.u2.u3.u3
   refine heldG (S := Sg t f95 ([(b20, .cells #[.int .i64 0, .int .i64 0, .int .i64 0, .slice none 0 0] 93 (0, 0))] :: [(b16, .cells #[.int .i64 p9.Addr, .int .i64 p9.Kind, .int .i64 p9.Seq, .slice A10 p9.Data.length c11] 93 (0, 0))] :: H) [(11, [(b1, .cells #[.int .i64 p9.Seq, .bool true, .slice A4 d3.log.length c5] 81 (0, 0))]), (11, s6)]) (n := 15) kr rfl HS113 ?_
   intro W114 HS115
   refine gL [0, 1, 2, 3] (fuel := 11) (bA 15 15) rfl kr kr kr hnp (Sg.g2 (Sx.of [[(b1, .cells #[.int .i64 p9.Seq, .bool true, .slice A4 d3.log.length c5] 81 (0, 0))], s6] fL HS115) (fun _ => St.only [] HS115 fL) (fun _ => St.only [[(b1, .cells #[.int .i64 p9.Seq, .bool true, .slice A4 d3.log.length c5] 81 (0, 0))]] HS115 fL)) fun X116 => ?_
   refine gQs 4 11 rfl kr kr kr kr kr (.head _) kr hnp X116 (fun hl_ hS_ => run_load rfl Try.underlying38 rfl (kv (pV b1 2)) (hS_.cell 2)) fun X117 => ?_
   refine gL [5] (fuel := 9) (bA 15 63) rfl kr kr kr hnp X117 fun X118 => ?_
   refine gQ 6 rfl kr kr kr kr kr hnp X118 (fun hl_ hS_ => run_load rfl Try.underlying3 rfl (kv (pV b16 2)) (hS_.u1.cell 2)) fun X119 => ?_
   refine gL [7, 8, 9] (fuel := 5) (bA 15 1023) rfl kr kr kr hnp X119 fun X120 => ?_
   refine takeGE 10 kr rfl kr (does_lit (e := ty_Exec) (E := 104) (vs := #[(0, Value.agg #[.int .i64 (w64 (p9.Seq - 1)), .int .i64 vt13])]) (cs := #[.int .i64 (w64 (p9.Seq - 1)), .int .i64 vt13]) (xs := ([(⟨w64 (p9.Seq - 1), vt13⟩ : S_Exec)] : List S_Exec)) rfl Try.underlying38 kr kr ⟨[.int .i64 (w64 (p9.Seq - 1)), .int .i64 vt13], _, rfl, rfl, rfl⟩ rfl HS115 ?_ (by decide))
   intro b121 W122 s123 HS124 _ HO125
   refine kB (Sg.g2 (Sx.of [s123, [(b1, .cells #[.int .i64 p9.Seq, .bool true, .slice A4 d3.log.length c5] 81 (0, 0))], s6] fL HS124) (fun _ => St.only [s123] HS124 fL) (fun _ => St.only [s123, [(b1, .cells #[.int .i64 p9.Seq, .bool true, .slice A4 d3.log.length c5] 81 (0, 0))]] HS124 fL)) fun X127 => ?_
   replace h := guard_some h; obtain ⟨c128, h⟩ := h
   have c128 : (d3.log.length + 1) * 16 ≤ 140737488355328 := c128
   have HS130 := HS124.u2.u1
   refine takeGE 11 kr rfl kr (does_append1 (e := ty_Exec) (E := 104) (xs := d3.log) (ys := ([(⟨w64 (p9.Seq - 1), vt13⟩ : S_Exec)] : List S_Exec)) rfl (kv (.slice A4 d3.log.length c5)) (kv (.slice (some ⟨b121, 0, none⟩) ([(⟨w64 (p9.Seq - 1), vt13⟩ : S_Exec)] : List S_Exec).length 1)) Try.underlying38 inf104 (HO7.mono (L51.trans L96)) HO125 HS130 c128 (lim63 c128 (by decide)) ?_)
   intro A131 c132 s133 W134 HS135 HO136
   refine kB (Sg.g2 (Sx.of [s133, [(b1, .cells #[.int .i64 p9.Seq, .bool true, .slice A4 d3.log.length c5] 81 (0, 0))]] fL HS135) (fun hl_ => Bool.noConfusion (show true = false from hl_)) (fun hl_ => Bool.noConfusion (show true = false from hl_))) fun X137 => ?_
   refine gL [12, 13] (fuel := 1) (bA 15 16383) rfl kr kr kr hnp X137 fun X138 => ?_
   have HS139 := HS135.u1
   refine takeGE 14 kr rfl kr (does_store (n := 1) (vs := [.slice A131 (d3.log ++ ([(⟨w64 (p9.Seq - 1), vt13⟩ : S_Exec)] : List S_Exec)).length c132]) (cs' := #[.int .i64 p9.Seq, .bool true, .slice A131 (d3.log ++ ([(⟨w64 (p9.Seq - 1), vt13⟩ : S_Exec)] : List S_Exec)).length c132]) rfl kr (kv (pV b1 2)) (kv (.slice A131 (d3.log ++ ([(⟨w64 (p9.Seq - 1), vt13⟩ : S_Exec)] : List S_Exec)).length c132)) rfl rfl (ones rfl) HS139 (Nat.le_of_ble_eq_true rfl) kr ?_)
   intro W140 HS141
   refine kB (Sg.g2 (Sx.of [[(b1, .cells #[.int .i64 p9.Seq, .bool true, .slice A131 (d3.log ++ ([(⟨w64 (p9.Seq - 1), vt13⟩ : S_Exec)] : List S_Exec)).length c132] 81 (0, 0))], s133] fL HS141) (fun hl_ => Bool.noConfusion (show true = false from hl_)) (fun hl_ => Bool.noConfusion (show true = false from hl_))) fun X142 => ?_
   refine doneG kr ?_ _
   refine fnRwI (F := K65) 50 (x := true) (v := x100) kr (Eq.symm c105) ?_
   have HS160 := HS141.u1.u3.u3.u3
   exact J155 f95 A131 c132 s133 true (d3.log ++ ([(⟨w64 (p9.Seq - 1), vt13⟩ : S_Exec)] : List S_Exec)) (jL [pV b1 0, pV b1 0, pV b1 1, pV b1 0, pV b1 0, pV b1 0, pV b1 2, .slice A4 d3.log.length c5, pV b16 2, iV p9.Seq, iV (w64 (p9.Seq - 1)), iV vt13, .agg #[.int .i64 (w64 (p9.Seq - 1)), .int .i64 vt13], .slice (some ⟨b121, 0, none⟩) ([(⟨w64 (p9.Seq - 1), vt13⟩ : S_Exec)] : List S_Exec).length 1, .slice A131 (d3.log ++ ([(⟨w64 (p9.Seq - 1), vt13⟩ : S_Exec)] : List S_Exec)).length c132, pV b1 0, pV b1 2]) W140 _ fL h HS160 HO136 kr
  clear h; have h := hv101; clear hv101
  refine rl ?_
  refine seqL1 kr ?_
  refine seqK rfl (does_run (run_load rfl Try.underlying3 rfl (kv (pV b16 1)) (HS84.u2.cell 1)) ?_)
  refine seqL2 kr ?_
  replace h := ite_some h; rcases h with ⟨c88, h⟩ | ⟨c88, h⟩
  rotate_left
  · have c88 : ¬ (p9.Kind = 1) := c88
    refine seqRwI 44 kr (beq_eq_false_iff_ne.mpr c88) ?_
    refine seqRwI 45 kr (beq_eq_false_iff_ne.mpr c88) ?_
    refine seqL5 kr ?_
    refine nl ?_
    exact J102 f50 false (jL [pV b16 1, iV p9.Kind, fV, fV]) W83 _ fL h HS84 kr
  have c88 : p9.Kind = 1 := c88
  refine seqRwI 44 kr (beq_iff_eq.mpr c88) ?_
  refine seqRwI 45 kr (beq_iff_eq.mpr c88) ?_
  refine seqL1 kr ?_
  refine seqG kr (does_run (run_loadN (n := 4) rfl Try.underlying93 rfl kr (kv (pV b16 0)) (cs := [.int .i64 p9.Addr, .int .i64 p9.Kind, .int .i64 p9.Seq, .slice A10 p9.Data.length c11]) rfl (HS84.u2.cells 0 4 _ rfl)) ?_)
  replace h := bind_some h; obtain ⟨vt89, hc90, h⟩ := h
  refine seqG kr (does_call kr (link_due.calls k A10 c11 p9 HS84 (HR12.mono L51) vt89 hc90) ?_)
  rintro _ W93 ⟨f91, rfl, L92, HS94⟩
  refine ⟨_, rfl, ?_⟩
  refine seqL2 kr ?_
  refine nl ?_
  exact J102 f91 (decide (vt13 ≤ vt89)) (jL [pV b16 1, iV p9.Kind, tV, tV, iV vt13, (ag_Packet p9 A10 c11), iV vt89, .bool (decide (vt13 ≤ vt89))]) W93 _ L92 h HS94 kr
 clear h; have h := hv56; clear hv56
 refine heldG (S := Sg t f ([(b20, .cells #[.int .i64 0, .int .i64 0, .int .i64 0, .slice none 0 0] 93 (0, 0))] :: [(b16, .cells #[.int .i64 p9.Addr, .int .i64 p9.Kind, .int .i64 p9.Seq, .slice A10 p9.Data.length c11] 93 (0, 0))] :: [(b1, .cells #[.int .i64 d3.last, .bool d3.did, .slice A4 d3.log.length c5] 81 (0, 0))] :: s6 :: H) []) (n := 17) kr rfl HS22 ?_
 intro W29 HS30
 refine gL [0] (fuel := 16) (bA 17 1) rfl kr kr kr hnp (Sg.g0 (Sx.of [] fL HS30)) fun X31 => ?_
 refine gQ 1 rfl kr kr kr kr kr hnp X31 (fun hl_ hS_ => run_load rfl Try.underlying3 rfl (kv (pV b16 1)) (hS_.u1.cell 1)) fun X32 => ?_
 refine gL [2, 3] (fuel := 13) (bA 17 15) rfl kr kr kr hnp X32 fun X33 => ?_
 replace h := ite_some h; rcases h with ⟨c34, h⟩ | ⟨c34, h⟩
 rotate_left
 · have c34 : ¬ (p9.Kind ≠ 1) := c34
   refine gateRwI 11 (x := (p9.Kind != 1)) (v := false) kr (bne_eq_false_iff_eq.mpr (Decidable.of_not_not c34)) ?_
   refine gateRwI 12 (x := (p9.Kind != 1)) (v := false) kr (bne_eq_false_iff_eq.mpr (Decidable.of_not_not c34)) ?_
   refine gL [4, 5, 6, 7, 8, 9] (fuel := 7) (bA 17 1023) rfl kr kr kr hnp X33 fun X45 => ?_
   refine gQ 10 rfl kr kr kr kr kr hnp X45 (fun hl_ hS_ => run_load rfl Try.underlying3 rfl (kv (pV b16 2)) (hS_.u1.cell 2)) fun X46 => ?_
   refine gL [11, 12, 13] (fuel := 3) (bA 17 16383) rfl kr kr kr hnp X46 fun X47 => ?_
   refine gQ 14 rfl kr kr kr kr kr hnp X47 (fun hl_ hS_ => run_load rfl Try.underlying3 rfl (kv (pV b1 0)) (hS_.u2.cell 0)) fun X48 => ?_
   refine gL [15, 16] (fuel := 0) (bA 17 131071) rfl kr kr kr hnp X48 fun X49 => ?_
   refine doneG kr ?_ _
   exact J57 f (decide (p9.Seq < d3.last)) (jL [pV b16 1, iV p9.Kind, fV, fV, uV, uV, uV, fV, fV, pV b16 2, iV p9.Seq, pV b1 0, pV b1 0, pV b1 0, iV d3.last, .bool (decide (p9.Seq < d3.last))]) W29 _ fL h HS30 kr
 have c34 : p9.Kind ≠ 1 := c34
 refine gateRwI 11 (x := (p9.Kind != 1)) (v := true) kr (bne_iff_ne.mpr c34) ?_
 refine gateRwI 12 (x := (p9.Kind != 1)) (v := true) kr (bne_iff_ne.mpr c34) ?_
 refine gL [4] (fuel := 12) (bA 17 31) rfl kr kr kr hnp X33 fun X35 => ?_
 refine gQ 5 rfl kr kr kr kr kr hnp X35 (fun hl_ hS_ => run_load rfl Try.underlying3 rfl (kv (pV b16 1)) (hS_.u1.cell 1)) fun X36 => ?_
 refine gL [6, 7, 8] (fuel := 8) (bA 17 511) rfl kr kr kr hnp X36 fun X37 => ?_
 replace h := ite_some h; rcases h with ⟨c38, h⟩ | ⟨c38, h⟩
 · have c38 : p9.Kind ≠ 2 := c38
   refine gateRwI 15 (x := (p9.Kind != 2)) (v := true) kr (bne_iff_ne.mpr c38) ?_
   refine gateRwI 16 (x := (p9.Kind != 2)) (v := true) kr (bne_iff_ne.mpr c38) ?_
   refine gateRwI 17 (x := (p9.Kind != 2)) (v := true) kr (bne_iff_ne.mpr c38) ?_
   refine gL [9, 10, 11, 12, 13, 14, 15, 16] (fuel := 0) (bA 17 131071) rfl kr kr kr hnp X37 fun X39 => ?_
   refine doneG kr ?_ _
   exact J57 f true (jL [pV b16 1, iV p9.Kind, tV, tV, pV b16 1, iV p9.Kind, tV, tV, tV]) W29 _ fL h HS30 kr
 have c38 : ¬ (p9.Kind ≠ 2) := c38
 refine gateRwI 15 (x := (p9.Kind != 2)) (v := false) kr (bne_eq_false_iff_eq.mpr (Decidable.of_not_not c38)) ?_
 refine gateRwI 16 (x := (p9.Kind != 2)) (v := false) kr (bne_eq_false_iff_eq.mpr (Decidable.of_not_not c38)) ?_
 refine gateRwI 17 (x := (p9.Kind != 2)) (v := false) kr (bne_eq_false_iff_eq.mpr (Decidable.of_not_not c38)) ?_
 refine gL [9] (fuel := 7) (bA 17 1023) rfl kr kr kr hnp X37 fun X40 => ?_
 refine gQ 10 rfl kr kr kr kr kr hnp X40 (fun hl_ hS_ => run_load rfl Try.underlying3 rfl (kv (pV b16 2)) (hS_.u1.cell 2)) fun X41 => ?_
 refine gL [11, 12, 13] (fuel := 3) (bA 17 16383) rfl kr kr kr hnp X41 fun X42 => ?_
 refine gQ 14 rfl kr kr kr kr kr hnp X42 (fun hl_ hS_ => run_load rfl Try.underlying3 rfl (kv (pV b1 0)) (hS_.u2.cell 0)) fun X43 => ?_
 refine gL [15, 16] (fuel := 0) (bA 17 131071) rfl kr kr kr hnp X43 fun X44 => ?_
 refine doneG kr ?_ _
 exact J57 f (decide (p9.Seq < d3.last)) (jL [pV b16 1, iV p9.Kind, tV, tV, pV b16 1, iV p9.Kind, fV, fV, fV, pV b16 2, iV p9.Seq, pV b1 0, pV b1 0, pV b1 0, iV d3.last, .bool (decide (p9.Seq < d3.last))]) W29 _ fL h HS30 kr

set_option maxRecDepth 100000 in
set_option maxHeartbeats 4000000 in
theorem bus_Check.calls (k : Nat) (A2 : Option Addr) (c3 : Nat) (p1 : S_Packet) {t w : World} {f : FM} {H : List Seg} (HS : St t w f (H)) (HR4 : SlR (tInt .u8) f A2 c3 p1.Data) (rr1 : Int) (h : bus_Check k p1 = some rr1) :
    Calls Try.prog 80 #[.agg #[.int .i64 p1.Addr, .int .i64 p1.Kind, .int .i64 p1.Seq, .slice A2 p1.Data.length c3]] w (fun e w' => ∃ (g : FM), e = .returned (Value.int .i64 rr1) ∧ FM.le f g ∧ St t w' g (H)) := by
 unfold bus_Check at h
 refine enter Try.func80 rfl (tm := ⟨[(ag_Packet p1 A2 c3)] ++ (un 34 [])⟩) kr ?_
 intro B hret hnor hnp
 refine wp_seq_k fun K5 hK6 => rl ?_
 refine seqK rfl (does_box (cs := #[.int .i64 p1.Addr, .int .i64 p1.Kind, .int .i64 p1.Seq, .slice A2 p1.Data.length c3]) rfl (kv (.agg #[.int .i64 p1.Addr, .int .i64 p1.Kind, .int .i64 p1.Seq, .slice A2 p1.Data.length c3])) rfl HS ?_)
 intro b7 W8 HS9
 refine seqL1 kr ?_
 refine nl (hK6 _ _ ?_)
 refine wp_seq_k (fun K11 hK12 => ?_)
 refine wp_seq_k (fun K13 hK14 => ?_)
 replace h := bind_some h; obtain ⟨v15, hv27, h⟩ := h
 have J28 : ∀ (f21 : FM) (x26 : Bool) (j25 : Nat → Value) (W23 : World) (a_ : Act), FM.le f f21 → some (x26) = some v15 → St t W23 f21 ([(b7, .cells #[.int .i64 p1.Addr, .int .i64 p1.Kind, .int .i64 p1.Seq, .slice A2 p1.Data.length c3] 93 (0, 0))] :: H) → a_ = ⟨⟨[(ag_Packet p1 A2 c3), pV b7 0, iV 0] ++ (jr j25 0 27 ([.bool x26] ++ (un 4 [])))⟩, []⟩ → K13 a_ W23 := by
  intro f21 x26 j25 W23 a_ L22 hj29 HS24  hfr_; subst hfr_
  injection hj29 with hj29; subst hj29; try dsimp only at h
  refine hK14 _ _ ?_
  replace h := ite_some h; rcases h with ⟨c31, h⟩ | ⟨c31, h⟩
  · have c31 : x26 = true := c31
    refine wpRwI 30 kr c31 ?_
    refine condT kr ?_
    refine wp_seq_k (fun K32 hK33 => ?_)
    exact nomatch h
  have c31 : ¬ (x26 = true) := c31
  refine wpRwI 30 kr (Bool.eq_false_iff.mpr c31) ?_
  refine condF kr ?_
  refine wp_skip ?_
  refine hK12 _ _ ?_
  refine wp_seq_k (fun K34 hK35 => ?_)
  refine wp_seq_k fun K36 hK37 => rl ?_
  refine seqL1 kr ?_
  refine seqK rfl (does_run (run_load rfl Try.underlying91 rfl (kv (pV b7 3)) (HS24.cell 3)) ?_)
  refine seqL2 kr ?_
  refine nl (hK37 _ _ ?_)
  replace h := ite_some h; rcases h with ⟨c39, h⟩ | ⟨c39, h⟩
  · have c39 : (p1.Data.length : Int) > 16 := c39
    refine wpRwI 34 kr (decide_eq_true c39) ?_
    refine condT kr ?_
    refine wp_seq_k (fun K40 hK41 => ?_)
    exact nomatch h
  have c39 : ¬ ((p1.Data.length : Int) > 16) := c39
  refine wpRwI 34 kr (decide_eq_false c39) ?_
  refine condF kr ?_
  refine wp_skip ?_
  refine hK35 _ _ ?_
  refine wp_seq_k fun K42 hK43 => rl ?_
  refine seqL1 kr ?_
  refine nl (hK43 _ _ ?_)
  refine wp_ret ?_
  refine hret _ _ ?_
  refine ends_still (v := Value.int .i64 0) kr kr ?_
  have HS44 := HS24.drop
  injection h with h
  subst h
  exact ⟨f21, rfl, L22, HS44⟩
 clear h; have h := hv27; clear hv27
 refine rl ?_
 refine seqL1 kr ?_
 refine seqK rfl (does_run (run_load rfl Try.underlying3 rfl (kv (pV b7 0)) (HS9.cell 0)) ?_)
 refine seqL2 kr ?_
 replace h := ite_some h; rcases h with ⟨c16, h⟩ | ⟨c16, h⟩
 · have c16 : p1.Addr < 0 := c16
   refine seqRwI 5 kr (decide_eq_true c16) ?_
   refine seqRwI 6 kr (decide_eq_true c16) ?_
   refine seqL24 kr ?_
   refine nl ?_
   exact J28 f true (jL [pV b7 0, iV p1.Addr, tV, tV, uV, uV, uV, tV, tV, uV, uV, uV, tV, tV, uV, uV, uV, tV, tV, uV, uV, uV, tV, tV]) W8 _ fL h HS9 kr
 have c16 : ¬ (p1.Addr < 0) := c16
 refine seqRwI 5 kr (decide_eq_false c16) ?_
 refine seqRwI 6 kr (decide_eq_false c16) ?_
 refine seqL1 kr ?_
 refine seqG kr (does_run (run_load rfl Try.underlying3 rfl (kv (pV b7 0)) (HS9.cell 0)) ?_)
 refine seqL3 kr ?_
 replace h := ite_some h; rcases h with ⟨c17, h⟩ | ⟨c17, h⟩
 · have c17 : p1.Addr > 15 := c17
   refine seqRwI 9 kr (decide_eq_true c17) ?_
   refine seqRwI 10 kr (decide_eq_true c17) ?_
   refine seqRwI 11 kr (decide_eq_true c17) ?_
   refine seqL19 kr ?_
   refine nl ?_
   exact J28 f true (jL [pV b7 0, iV p1.Addr, fV, fV, pV b7 0, iV p1.Addr, tV, tV, tV, uV, uV, uV, tV, tV, uV, uV, uV, tV, tV, uV, uV, uV, tV, tV]) W8 _ fL h HS9 kr
 have c17 : ¬ (p1.Addr > 15) := c17
 refine seqRwI 9 kr (decide_eq_false c17) ?_
 refine seqRwI 10 kr (decide_eq_false c17) ?_
 refine seqRwI 11 kr (decide_eq_false c17) ?_
 refine seqL1 kr ?_
 refine seqG kr (does_run (run_load rfl Try.underlying3 rfl (kv (pV b7 1)) (HS9.cell 1)) ?_)
 refine seqL3 kr ?_
 replace h := ite_some h; rcases h with ⟨c18, h⟩ | ⟨c18, h⟩
 · have c18 : p1.Kind < 0 := c18
   refine seqRwI 14 kr (decide_eq_true c18) ?_
   refine seqRwI 15 kr (decide_eq_true c18) ?_
   refine seqRwI 16 kr (decide_eq_true c18) ?_
   refine seqL14 kr ?_
   refine nl ?_
   exact J28 f true (jL [pV b7 0, iV p1.Addr, fV, fV, pV b7 0, iV p1.Addr, fV, fV, fV, pV b7 1, iV p1.Kind, tV, tV, tV, uV, uV, uV, tV, tV, uV, uV, uV, tV, tV]) W8 _ fL h HS9 kr
 have c18 : ¬ (p1.Kind < 0) := c18
 refine seqRwI 14 kr (decide_eq_false c18) ?_
 refine seqRwI 15 kr (decide_eq_false c18) ?_
 refine seqRwI 16 kr (decide_eq_false c18) ?_
 refine seqL1 kr ?_
 refine seqG kr (does_run (run_load rfl Try.underlying3 rfl (kv (pV b7 1)) (HS9.cell 1)) ?_)
 refine seqL3 kr ?_
 replace h := ite_some h; rcases h with ⟨c19, h⟩ | ⟨c19, h⟩
 · have c19 : p1.Kind > 15 := c19
   refine seqRwI 19 kr (decide_eq_true c19) ?_
   refine seqRwI 20 kr (decide_eq_true c19) ?_
   refine seqRwI 21 kr (decide_eq_true c19) ?_
   refine seqL9 kr ?_
   refine nl ?_
   exact J28 f true (jL [pV b7 0, iV p1.Addr, fV, fV, pV b7 0, iV p1.Addr, fV, fV, fV, pV b7 1, iV p1.Kind, fV, fV, fV, pV b7 1, iV p1.Kind, tV, tV, tV, uV, uV, uV, tV, tV]) W8 _ fL h HS9 kr
 have c19 : ¬ (p1.Kind > 15) := c19
 refine seqRwI 19 kr (decide_eq_false c19) ?_
 refine seqRwI 20 kr (decide_eq_false c19) ?_
 refine seqRwI 21 kr (decide_eq_false c19) ?_
 refine seqL1 kr ?_
 refine seqG kr (does_run (run_load rfl Try.underlying3 rfl (kv (pV b7 2)) (HS9.cell 2)) ?_)
 refine seqL3 kr ?_
 replace h := ite_some h; rcases h with ⟨c20, h⟩ | ⟨c20, h⟩
 · have c20 : p1.Seq < 0 := c20
   refine seqRwI 24 kr (decide_eq_true c20) ?_
   refine seqRwI 25 kr (decide_eq_true c20) ?_
   refine seqRwI 26 kr (decide_eq_true c20) ?_
   refine seqL4 kr ?_
   refine nl ?_
   exact J28 f true (jL [pV b7 0, iV p1.Addr, fV, fV, pV b7 0, iV p1.Addr, fV, fV, fV, pV b7 1, iV p1.Kind, fV, fV, fV, pV b7 1, iV p1.Kind, fV, fV, fV, pV b7 2, iV p1.Seq, tV, tV, tV]) W8 _ fL h HS9 kr
 have c20 : ¬ (p1.Seq < 0) := c20
 refine seqRwI 24 kr (decide_eq_false c20) ?_
 refine seqRwI 25 kr (decide_eq_false c20) ?_
 refine seqRwI 26 kr (decide_eq_false c20) ?_
 refine seqL1 kr ?_
 refine seqG kr (does_run (run_load rfl Try.underlying3 rfl (kv (pV b7 2)) (HS9.cell 2)) ?_)
 refine seqL2 kr ?_
 refine nl ?_
 exact J28 f (decide (p1.Seq > 65535)) (jL [pV b7 0, iV p1.Addr, fV, fV, pV b7 0, iV p1.Addr, fV, fV, fV, pV b7 1, iV p1.Kind, fV, fV, fV, pV b7 1, iV p1.Kind, fV, fV, fV, pV b7 2, iV p1.Seq, fV, fV, fV, pV b7 2, iV p1.Seq, .bool (decide (p1.Seq > 65535))]) W8 _ fL h HS9 kr

set_option maxRecDepth 100000 in
set_option maxHeartbeats 4000000 in
theorem bus_Body.calls (k : Nat) (A2 : Option Addr) (c3 : Nat) (p1 : S_Packet) {t w : World} {f : FM} {H : List Seg} (HS : St t w f (H)) (HR4 : SlR (tInt .u8) f A2 c3 p1.Data) (rr1 : List Int) (rr2 : Int) (h : bus_Body k p1 = some (rr1, rr2)) :
    Calls Try.prog 65 #[.agg #[.int .i64 p1.Addr, .int .i64 p1.Kind, .int .i64 p1.Seq, .slice A2 p1.Data.length c3]] w (fun e w' => ∃ (g : FM) (A79 : Option Addr) (c80 : Nat) (s81 : Seg), e = .returned (Value.tuple #[.slice A79 rr1.length c80, .int .i64 rr2]) ∧ FM.le f g ∧ St t w' g (s81 :: H) ∧ Own (tInt .u8) 5 g A79 c80 s81 rr1) := by
 unfold bus_Body at h
 refine enter Try.func65 rfl (tm := ⟨[(ag_Packet p1 A2 c3)] ++ (un 40 [])⟩) kr ?_
 intro B hret hnor hnp
 refine wp_seq_k fun K5 hK6 => rl ?_
 refine seqK rfl (does_box (cs := #[.int .i64 p1.Addr, .int .i64 p1.Kind, .int .i64 p1.Seq, .slice A2 p1.Data.length c3]) rfl (kv (.agg #[.int .i64 p1.Addr, .int .i64 p1.Kind, .int .i64 p1.Seq, .slice A2 p1.Data.length c3])) rfl HS ?_)
 intro b7 W8 HS9
 refine seqL2 kr ?_
 refine nl (hK6 _ _ ?_)
 refine wp_seq_k (fun K11 hK12 => ?_)
 refine wp_seq_k fun K13 hK14 => rl ?_
 refine seqK rfl (does_run (run_loadN (n := 4) rfl Try.underlying93 rfl kr (kv (pV b7 0)) (cs := [.int .i64 p1.Addr, .int .i64 p1.Kind, .int .i64 p1.Seq, .slice A2 p1.Data.length c3]) rfl (HS9.cells 0 4 _ rfl)) ?_)
 replace h := bind_some h; obtain ⟨vt15, hc16, h⟩ := h
 refine seqK rfl (does_call kr (bus_Check.calls k A2 c3 p1 HS9 HR4 vt15 hc16) ?_)
 rintro _ W19 ⟨f17, rfl, L18, HS20⟩
 refine ⟨_, rfl, ?_⟩
 refine seqL1 kr ?_
 refine nl (hK14 _ _ ?_)
 refine wp_seq_k fun K21 hK22 => rl ?_
 refine seqL2 kr ?_
 refine nl (hK22 _ _ ?_)
 replace h := ite_some h; rcases h with ⟨c24, h⟩ | ⟨c24, h⟩
 · have c24 : vt15 ≠ 0 := c24
   refine wpRwI 10 kr (bne_iff_ne.mpr c24) ?_
   refine condT kr ?_
   refine wp_seq_k (fun K25 hK26 => ?_)
   exact nomatch h
 have c24 : ¬ (vt15 ≠ 0) := c24
 refine wpRwI 10 (x := (vt15 != 0)) (v := false) kr (bne_eq_false_iff_eq.mpr (Decidable.of_not_not c24)) ?_
 refine condF kr ?_
 refine wp_skip ?_
 refine hK12 _ _ ?_
 refine wp_seq_k fun K27 hK28 => rl ?_
 refine seqL1 kr ?_
 refine seqK rfl (does_run (run_load rfl Try.underlying3 rfl (kv (pV b7 0)) (HS20.cell 0)) ?_)
 refine seqL2 kr ?_
 refine seqK rfl (does_run (run_load rfl Try.underlying3 rfl (kv (pV b7 1)) (HS20.cell 1)) ?_)
 refine seqL3 kr ?_
 refine seqK rfl (does_run (run_load rfl Try.underlying3 rfl (kv (pV b7 2)) (HS20.cell 2)) ?_)
 refine seqL3 kr ?_
 refine seqK rfl (does_run (run_load rfl Try.underlying3 rfl (kv (pV b7 2)) (HS20.cell 2)) ?_)
 refine seqL1 kr ?_
 refine seqK rfl (does_lit (e := (tInt .u8)) (E := 5) (vs := #[(0, Value.int .u8 (u8 (Go.bits .or .i64 (w64 (p1.Addr * 2 ^ 4)) p1.Kind))), (1, Value.int .u8 (u8 (shr p1.Seq 8))), (2, Value.int .u8 (u8 (p1.Seq)))]) (cs := #[.int .u8 (u8 (Go.bits .or .i64 (w64 (p1.Addr * 2 ^ 4)) p1.Kind)), .int .u8 (u8 (shr p1.Seq 8)), .int .u8 (u8 (p1.Seq))]) (xs := ([u8 (Go.bits .or .i64 (w64 (p1.Addr * 2 ^ 4)) p1.Kind), u8 (shr p1.Seq 8), u8 (p1.Seq)] : List Int)) rfl Try.underlying91 kr kr ⟨[.int .u8 (u8 (Go.bits .or .i64 (w64 (p1.Addr * 2 ^ 4)) p1.Kind))], _, rfl, rfl, ⟨[.int .u8 (u8 (shr p1.Seq 8))], _, rfl, rfl, ⟨[.int .u8 (u8 (p1.Seq))], _, rfl, rfl, rfl⟩⟩⟩ rfl HS20 ?_ (by decide))
 intro b29 W30 s31 HS32 _ HO33
 refine seqL1 kr ?_
 refine nl (hK28 _ _ ?_)
 refine wp_seq_k fun K35 hK36 => rl ?_
 refine seqL2 kr ?_
 refine seqK rfl (does_run (run_load rfl Try.underlying91 rfl (kv (pV b7 3)) (HS32.u1.cell 3)) ?_)
 replace h := guard_some h; obtain ⟨c37, h⟩ := h
 have c37 : (([u8 (Go.bits .or .i64 (w64 (p1.Addr * 2 ^ 4)) p1.Kind), u8 (shr p1.Seq 8), u8 (p1.Seq)] : List Int).length + p1.Data.length) * 1 ≤ 140737488355328 := c37
 refine seqK rfl (does_append (e := (tInt .u8)) (E := 5) (xs := ([u8 (Go.bits .or .i64 (w64 (p1.Addr * 2 ^ 4)) p1.Kind), u8 (shr p1.Seq 8), u8 (p1.Seq)] : List Int)) (ys := p1.Data) rfl (kv (.slice (some ⟨b29, 0, none⟩) ([u8 (Go.bits .or .i64 (w64 (p1.Addr * 2 ^ 4)) p1.Kind), u8 (shr p1.Seq 8), u8 (p1.Seq)] : List Int).length 3)) (kv (.slice A2 p1.Data.length c3)) Try.underlying91 inf5 HO33 HS32 ((HR4.mono L18).rc HS32) c37 (lim63 c37 (by decide)) ?_)
 intro A38 c39 s40 W41 HS42 HO43
 refine seqL1 kr ?_
 refine nl (hK36 _ _ ?_)
 refine wp_seq_k fun K44 hK45 => rl ?_
 obtain ⟨f46, L47, HS48, HR49, th50⟩ := HO43.lend HS42
 replace h := bind_some h; obtain ⟨vt51, hc52, h⟩ := h
 refine seqL1 kr ?_
 refine seqK rfl (does_call kr (bus_Sum.calls k A38 c39 (([u8 (Go.bits .or .i64 (w64 (p1.Addr * 2 ^ 4)) p1.Kind), u8 (shr p1.Seq 8), u8 (p1.Seq)] : List Int) ++ p1.Data) HS48 HR49 vt51 hc52) ?_)
 rintro _ W55 ⟨f53, rfl, L54, HS56⟩
 refine ⟨_, rfl, ?_⟩
 obtain ⟨f57, L58, HS59⟩ := th50 L54 HS56
 refine seqL1 kr ?_
 refine nl (hK45 _ _ ?_)
 refine wp_seq_k fun K60 hK61 => rl ?_
 refine seqL6 kr ?_
 refine seqK rfl (does_lit (e := (tInt .u8)) (E := 5) (vs := #[(0, Value.int .u8 (u8 (shr vt51 8))), (1, Value.int .u8 (u8 (vt51)))]) (cs := #[.int .u8 (u8 (shr vt51 8)), .int .u8 (u8 (vt51))]) (xs := ([u8 (shr vt51 8), u8 (vt51)] : List Int)) rfl Try.underlying91 kr kr ⟨[.int .u8 (u8 (shr vt51 8))], _, rfl, rfl, ⟨[.int .u8 (u8 (vt51))], _, rfl, rfl, rfl⟩⟩ rfl HS59 ?_ (by decide))
 intro b62 W63 s64 HS65 _ HO66
 replace h := guard_some h; obtain ⟨c68, h⟩ := h
 have c68 : ((([u8 (Go.bits .or .i64 (w64 (p1.Addr * 2 ^ 4)) p1.Kind), u8 (shr p1.Seq 8), u8 (p1.Seq)] : List Int) ++ p1.Data).length + 2) * 1 ≤ 140737488355328 := c68
 have HS70 := HS65.u1.u1
 refine seqK rfl (does_append1 (e := (tInt .u8)) (E := 5) (xs := (([u8 (Go.bits .or .i64 (w64 (p1.Addr * 2 ^ 4)) p1.Kind), u8 (shr p1.Seq 8), u8 (p1.Seq)] : List Int) ++ p1.Data)) (ys := ([u8 (shr vt51 8), u8 (vt51)] : List Int)) rfl (kv (.slice A38 (([u8 (Go.bits .or .i64 (w64 (p1.Addr * 2 ^ 4)) p1.Kind), u8 (shr p1.Seq 8), u8 (p1.Seq)] : List Int) ++ p1.Data).length c39)) (kv (.slice (some ⟨b62, 0, none⟩) ([u8 (shr vt51 8), u8 (vt51)] : List Int).length 2)) Try.underlying91 inf5 (HO43.mono L58) HO66 HS70 c68 (lim63 c68 (by decide)) ?_)
 intro A71 c72 s73 W74 HS75 HO76
 refine seqL2 kr ?_
 refine nl (hK61 _ _ ?_)
 refine wp_ret ?_
 refine hret _ _ ?_
 refine ends_still (v := Value.tuple #[.slice A71 ((([u8 (Go.bits .or .i64 (w64 (p1.Addr * 2 ^ 4)) p1.Kind), u8 (shr p1.Seq 8), u8 (p1.Seq)] : List Int) ++ p1.Data) ++ ([u8 (shr vt51 8), u8 (vt51)] : List Int)).length c72, .int .i64 0]) kr kr ?_
 have HS77 := HS75.u1
 have HS78 := HS77.drop
 injection h with h
 injection h with h0_ h
 subst h0_ h
 exact ⟨f57, A71, c72, s73, rfl, (L18.trans L58), HS78, HO76⟩

set_option maxRecDepth 100000 in
set_option maxHeartbeats 4000000 in
theorem bus_Stuff.calls (k : Nat) (A2 : Option Addr) (c3 : Nat) (b1 : List Int) {t w : World} {f : FM} {H : List Seg} (HS : St t w f (H)) (HR4 : SlR (tInt .u8) f A2 c3 b1) (rr1 : List Int) (h : bus_Stuff k b1 = some rr1) :
    Calls Try.prog 66 #[.slice A2 b1.length c3] w (fun e w' => ∃ (g : FM) (A234 : Option Addr) (c235 : Nat) (s236 : Seg), e = .returned (Value.slice A234 rr1.length c235) ∧ FM.le f g ∧ St t w' g (s236 :: H) ∧ Own (tInt .u8) 5 g A234 c235 s236 rr1) := by
 unfold bus_Stuff at h
 refine enter Try.func66 rfl (tm := ⟨[.slice A2 b1.length c3] ++ (un 31 [])⟩) kr ?_
 intro B hret hnor hnp
 refine wp_seq_k fun K5 hK6 => rl ?_
 refine seqL1 kr ?_
 refine nl (hK6 _ _ ?_)
 refine wp_seq_k fun K7 hK8 => rl ?_
 refine seqK rfl (does_lit (e := (tInt .u8)) (E := 5) (vs := #[(0, Value.int .u8 126)]) (cs := #[.int .u8 126]) (xs := ([126] : List Int)) rfl Try.underlying91 kr kr ⟨[.int .u8 126], _, rfl, rfl, rfl⟩ rfl HS ?_ (by decide))
 intro b9 W10 s11 HS12 _ HO13
 refine seqL1 kr ?_
 refine nl (hK8 _ _ ?_)
 refine wp_seq_k (fun K15 hK16 => ?_)
 refine wp_seq_k fun K17 hK18 => rl ?_
 refine seqL3 kr ?_
 refine nl (hK18 _ _ ?_)
 refine blockK (fun B19 hx20 hn21 hr22 ho23 hp24 => ?_)
 replace h := bind_some h; obtain ⟨o114, hv214, h⟩ := h
 have J215 : ∀ (f204 : FM) (A210 : Option Addr) (c211 : Nat) (s212 : Seg) (out209 : List Int) (j208 : Nat → Value) (W206 : World) (a_ : Act), FM.le f f204 → some (out209) = some o114 → St t W206 f204 (s212 :: H) → Own (tInt .u8) 5 f204 A210 c211 s212 out209 → a_ = ⟨⟨[.slice A2 b1.length c3, uV, .slice none 0 0, .slice A210 out209.length c211, uV, (j208 0), (j208 1), .slice A2 b1.length c3, iV (b1.length : Int)] ++ (jr j208 2 20 [uV, uV, uV])⟩, []⟩ → K15 a_ W206 := by
  intro f204 A210 c211 s212 out209 j208 W206 a_ L205 hj216 HS207 HO213 hfr_; subst hfr_
  injection hj216 with hj216; subst hj216; try dsimp only at h
  refine hK16 _ _ ?_
  refine wp_seq_k fun K217 hK218 => rl ?_
  refine seqL1 kr ?_
  refine seqK rfl (does_lit (e := (tInt .u8)) (E := 5) (vs := #[(0, Value.int .u8 126)]) (cs := #[.int .u8 126]) (xs := ([126] : List Int)) rfl Try.underlying91 kr kr ⟨[.int .u8 126], _, rfl, rfl, rfl⟩ rfl HS207 ?_ (by decide))
  intro b219 W220 s221 HS222 _ HO223
  replace h := guard_some h; obtain ⟨c225, h⟩ := h
  have c225 : (out209.length + 1) * 1 ≤ 140737488355328 := c225
  have HS227 := HS222.u1.u1
  refine seqK rfl (does_append1 (e := (tInt .u8)) (E := 5) (xs := out209) (ys := ([126] : List Int)) rfl (kv (.slice A210 out209.length c211)) (kv (.slice (some ⟨b219, 0, none⟩) ([126] : List Int).length 1)) Try.underlying91 inf5 HO213 HO223 HS227 c225 (lim63 c225 (by decide)) ?_)
  intro A228 c229 s230 W231 HS232 HO233
  refine seqL1 kr ?_
  refine nl (hK218 _ _ ?_)
  refine wp_ret ?_
  refine hret _ _ ?_
  refine ends_still (v := Value.slice A228 (out209 ++ ([126] : List Int)).length c229) kr kr ?_
  injection h with h
  subst h
  exact ⟨f204, A228, c229, s230, rfl, L205, HS232, HO233⟩
 clear h; have h := hv214; clear hv214
 refine loopK (fun n_ a_ w_ => ∃ (f118 : FM) (A124 : Option Addr) (c125 : Nat) (s126 : Seg) (out123 : List Int) (x128 : Int) (j122 : Nat → Value), FM.le f f118 ∧ St t w_ f118 (s126 :: H) ∧ Own (tInt .u8) 5 f118 A124 c125 s126 out123 ∧ bus_Stuff.l0 k b1 n_ out123 x128 = some o114 ∧ a_ = ⟨⟨[.slice A2 b1.length c3, uV, .slice none 0 0, .slice A124 out123.length c125, uV, (j122 0), .slice (some ⟨b9, 0, none⟩) ([126] : List Int).length 1, .slice A2 b1.length c3, iV (b1.length : Int), iV x128] ++ (jr j122 1 19 [uV, uV, uV])⟩, []⟩) k ⟨f, (some ⟨b9, 0, none⟩), 1, s11, ([126] : List Int), 0, (jL []), fL, HS12, HO13, h, kr⟩ ?_
 clear h
 rintro n117 _ W120 ⟨f118, A124, c125, s126, out123, x128, j122, L119, HS121, HO127, h, rfl⟩ K115 hK116
 obtain _ | n117 := n117
 · exact nomatch h
 simp only [bus_Stuff.l0] at h
 refine wp_seq_k fun K129 hK130 => rl ?_
 refine seqL1 kr ?_
 refine nl (hK130 _ _ ?_)
 refine wp_seq_k (fun K131 hK132 => ?_)
 replace h := ite_some h; rcases h with ⟨c134, h⟩ | ⟨c134, h⟩
 rotate_left
 · have c134 : ¬ (x128 < (b1.length : Int)) := c134
   refine wpRwI 10 kr (decide_eq_false c134) ?_
   refine condF kr ?_
   refine wp_exit ?_
   refine hx20 _ _ ?_
   exact J215 f118 A124 c125 s126 out123 (jL [(j122 0), .slice (some ⟨b9, 0, none⟩) ([126] : List Int).length 1, iV x128, fV, (j122 2), (j122 3), (j122 4), (j122 5), (j122 6), (j122 7), (j122 8), (j122 9), (j122 10), (j122 11), (j122 12), (j122 13), (j122 14), (j122 15), (j122 16), (j122 17), (j122 18), (j122 19)]) W120 _ L119 h HS121 HO127 kr
 have c134 : x128 < (b1.length : Int) := c134
 refine wpRwI 10 kr (decide_eq_true c134) ?_
 refine condT kr ?_
 refine wp_skip ?_
 refine hK132 _ _ ?_
 refine wp_seq_k (fun K135 hK136 => ?_)
 refine blockK (fun B137 hx138 hn139 hr140 ho141 hp142 => ?_)
 refine wp_seq_k fun K144 hK145 => rl ?_
 replace h := guard_some h; obtain ⟨c146, h⟩ := h
 have c146 : 0 ≤ x128 := c146
 obtain ⟨b150, of151, cs147, hA152, hr148, hc149⟩ := (HR4.mono L119).at (i := x128) c146 c134
 obtain rfl := hr148
 refine seqK rfl (does_run (run_indexE hA152 (sz := 1) rfl Try.underlying91 kr (kv (.slice A2 b1.length c3)) (kv (.int .i64 x128)) c146 c134 W120) ?_)
 refine seqK rfl (does_run (run_load rfl Try.underlying5 rfl (kv (pV b150 (of151 + (x128 : Int).toNat * 1))) ((hc149 fL HS121) 0 (by decide))) ?_)
 refine seqL1 kr ?_
 refine nl (hK145 _ _ ?_)
 refine wp_seq_k fun K153 hK154 => rl ?_
 refine seqL3 kr ?_
 replace h := ite_some h; rcases h with ⟨c156, h⟩ | ⟨c156, h⟩
 · have c156 : (rd b1 x128) = 126 := c156
   refine seqRwI 14 kr (beq_iff_eq.mpr c156) ?_
   refine seqRwI 15 kr (beq_iff_eq.mpr c156) ?_
   refine seqL3 kr ?_
   refine nl (hK154 _ _ ?_)
   refine condT kr ?_
   refine rl ?_
   refine seqL3 kr ?_
   refine seqK rfl (does_lit (e := (tInt .u8)) (E := 5) (vs := #[(0, Value.int .u8 125), (1, Value.int .u8 (Go.bits .xor .u8 (rd b1 x128) 32))]) (cs := #[.int .u8 125, .int .u8 (Go.bits .xor .u8 (rd b1 x128) 32)]) (xs := ([125, Go.bits .xor .u8 (rd b1 x128) 32] : List Int)) rfl Try.underlying91 kr kr ⟨[.int .u8 125], _, rfl, rfl, ⟨[.int .u8 (Go.bits .xor .u8 (rd b1 x128) 32)], _, rfl, rfl, rfl⟩⟩ rfl HS121 ?_ (by decide))
   intro b157 W158 s159 HS160 _ HO161
   replace h := guard_some h; obtain ⟨c163, h⟩ := h
   have c163 : (out123.length + 2) * 1 ≤ 140737488355328 := c163
   have HS165 := HS160.u1.u1
   refine seqK rfl (does_append1 (e := (tInt .u8)) (E := 5) (xs := out123) (ys := ([125, Go.bits .xor .u8 (rd b1 x128) 32] : List Int)) rfl (kv (.slice A124 out123.length c125)) (kv (.slice (some ⟨b157, 0, none⟩) ([125, Go.bits .xor .u8 (rd b1 x128) 32] : List Int).length 2)) Try.underlying91 inf5 HO127 HO161 HS165 c163 (lim63 c163 (by decide)) ?_)
   intro A166 c167 s168 W169 HS170 HO171
   refine seqL1 kr ?_
   refine nl ?_
   refine hn139 _ _ ?_
   refine hK136 _ _ ?_
   refine rl ?_
   refine seqL2 kr ?_
   refine nl ?_
   refine hK116 n117 _ _ (Nat.lt_succ_self _) ?_
   exact ⟨f118, A166, c167, s168, (out123 ++ ([125, Go.bits .xor .u8 (rd b1 x128) 32] : List Int)), (w64 (x128 + 1)), (jL [.int .u8 (rd b1 x128), tV, pV b150 (of151 + (x128 : Int).toNat * 1), .int .u8 (rd b1 x128), .int .u8 (rd b1 x128), tV, tV, uV, uV, tV, .slice A124 out123.length c125, .int .u8 (rd b1 x128), .int .u8 (Go.bits .xor .u8 (rd b1 x128) 32), .slice (some ⟨b157, 0, none⟩) ([125, Go.bits .xor .u8 (rd b1 x128) 32] : List Int).length 2, .slice A166 (out123 ++ ([125, Go.bits .xor .u8 (rd b1 x128) 32] : List Int)).length c167, (j122 15), (j122 16), (j122 17), (j122 18), iV (w64 (x128 + 1))]), L119, HS170, HO171, h, kr⟩
 have c156 : ¬ ((rd b1 x128) = 126) := c156
 refine seqRwI 14 kr (beq_eq_false_iff_ne.mpr c156) ?_
 refine seqRwI 15 kr (beq_eq_false_iff_ne.mpr c156) ?_
 refine seqL3 kr ?_
 refine nl (hK154 _ _ ?_)
 replace h := ite_some h; rcases h with ⟨c173, h⟩ | ⟨c173, h⟩
 · have c173 : (rd b1 x128) = 125 := c173
   refine wpRwI 17 kr (beq_iff_eq.mpr c173) ?_
   refine wpRwI 18 kr (beq_iff_eq.mpr c173) ?_
   refine condT kr ?_
   refine rl ?_
   refine seqL3 kr ?_
   refine seqK rfl (does_lit (e := (tInt .u8)) (E := 5) (vs := #[(0, Value.int .u8 125), (1, Value.int .u8 (Go.bits .xor .u8 (rd b1 x128) 32))]) (cs := #[.int .u8 125, .int .u8 (Go.bits .xor .u8 (rd b1 x128) 32)]) (xs := ([125, Go.bits .xor .u8 (rd b1 x128) 32] : List Int)) rfl Try.underlying91 kr kr ⟨[.int .u8 125], _, rfl, rfl, ⟨[.int .u8 (Go.bits .xor .u8 (rd b1 x128) 32)], _, rfl, rfl, rfl⟩⟩ rfl HS121 ?_ (by decide))
   intro b174 W175 s176 HS177 _ HO178
   replace h := guard_some h; obtain ⟨c180, h⟩ := h
   have c180 : (out123.length + 2) * 1 ≤ 140737488355328 := c180
   have HS182 := HS177.u1.u1
   refine seqK rfl (does_append1 (e := (tInt .u8)) (E := 5) (xs := out123) (ys := ([125, Go.bits .xor .u8 (rd b1 x128) 32] : List Int)) rfl (kv (.slice A124 out123.length c125)) (kv (.slice (some ⟨b174, 0, none⟩) ([125, Go.bits .xor .u8 (rd b1 x128) 32] : List Int).length 2)) Try.underlying91 inf5 HO127 HO178 HS182 c180 (lim63 c180 (by decide)) ?_)
   intro A183 c184 s185 W186 HS187 HO188
   refine seqL1 kr ?_
   refine nl ?_
   refine hn139 _ _ ?_
   refine hK136 _ _ ?_
   refine rl ?_
   refine seqL2 kr ?_
   refine nl ?_
   refine hK116 n117 _ _ (Nat.lt_succ_self _) ?_
   exact ⟨f118, A183, c184, s185, (out123 ++ ([125, Go.bits .xor .u8 (rd b1 x128) 32] : List Int)), (w64 (x128 + 1)), (jL [.int .u8 (rd b1 x128), tV, pV b150 (of151 + (x128 : Int).toNat * 1), .int .u8 (rd b1 x128), .int .u8 (rd b1 x128), fV, fV, .int .u8 (rd b1 x128), tV, tV, .slice A124 out123.length c125, .int .u8 (rd b1 x128), .int .u8 (Go.bits .xor .u8 (rd b1 x128) 32), .slice (some ⟨b174, 0, none⟩) ([125, Go.bits .xor .u8 (rd b1 x128) 32] : List Int).length 2, .slice A183 (out123 ++ ([125, Go.bits .xor .u8 (rd b1 x128) 32] : List Int)).length c184, (j122 15), (j122 16), (j122 17), (j122 18), iV (w64 (x128 + 1))]), L119, HS187, HO188, h, kr⟩
 have c173 : ¬ ((rd b1 x128) = 125) := c173
 refine wpRwI 17 kr (beq_eq_false_iff_ne.mpr c173) ?_
 refine wpRwI 18 kr (beq_eq_false_iff_ne.mpr c173) ?_
 refine condF kr ?_
 refine rl ?_
 refine seqL2 kr ?_
 refine seqK rfl (does_lit (e := (tInt .u8)) (E := 5) (vs := #[(0, Value.int .u8 (rd b1 x128))]) (cs := #[.int .u8 (rd b1 x128)]) (xs := ([(rd b1 x128)] : List Int)) rfl Try.underlying91 kr kr ⟨[.int .u8 (rd b1 x128)], _, rfl, rfl, rfl⟩ rfl HS121 ?_ (by decide))
 intro b189 W190 s191 HS192 _ HO193
 replace h := guard_some h; obtain ⟨c195, h⟩ := h
 have c195 : (out123.length + 1) * 1 ≤ 140737488355328 := c195
 have HS197 := HS192.u1.u1
 refine seqK rfl (does_append1 (e := (tInt .u8)) (E := 5) (xs := out123) (ys := ([(rd b1 x128)] : List Int)) rfl (kv (.slice A124 out123.length c125)) (kv (.slice (some ⟨b189, 0, none⟩) ([(rd b1 x128)] : List Int).length 1)) Try.underlying91 inf5 HO127 HO193 HS197 c195 (lim63 c195 (by decide)) ?_)
 intro A198 c199 s200 W201 HS202 HO203
 refine seqL1 kr ?_
 refine nl ?_
 refine hn139 _ _ ?_
 refine hK136 _ _ ?_
 refine rl ?_
 refine seqL2 kr ?_
 refine nl ?_
 refine hK116 n117 _ _ (Nat.lt_succ_self _) ?_
 exact ⟨f118, A198, c199, s200, (out123 ++ ([(rd b1 x128)] : List Int)), (w64 (x128 + 1)), (jL [.int .u8 (rd b1 x128), tV, pV b150 (of151 + (x128 : Int).toNat * 1), .int .u8 (rd b1 x128), .int .u8 (rd b1 x128), fV, fV, .int .u8 (rd b1 x128), fV, fV, (j122 10), (j122 11), (j122 12), (j122 13), (j122 14), .slice A124 out123.length c125, .int .u8 (rd b1 x128), .slice (some ⟨b189, 0, none⟩) ([(rd b1 x128)] : List Int).length 1, .slice A198 (out123 ++ ([(rd b1 x128)] : List Int)).length c199, iV (w64 (x128 + 1))]), L119, HS202, HO203, h, kr⟩

set_option maxRecDepth 100000 in
set_option maxHeartbeats 4000000 in
theorem bus_Noise.calls (k : Nat) (A2 : Option Addr) (c3 : Nat) (A6 : Option Addr) (c7 : Nat) (p1 : S_Packet) (bits5 : List Int) {t w : World} {f : FM} {H : List Seg} (HS : St t w f (H)) (HR4 : SlR (tInt .u8) f A2 c3 p1.Data) (HR8 : SlR (tInt .i64) f A6 c7 bits5) (rr1 : List Int) (rr2 : Int) (h : bus_Noise k p1 bits5 = some (rr1, rr2)) :
    Calls Try.prog 43 #[.agg #[.int .i64 p1.Addr, .int .i64 p1.Kind, .int .i64 p1.Seq, .slice A2 p1.Data.length c3], .slice A6 bits5.length c7] w (fun e w' => ∃ (g : FM) (A219 : Option Addr) (c220 : Nat) (s221 : Seg), e = .returned (Value.tuple #[.slice A219 rr1.length c220, .int .i64 rr2]) ∧ FM.le f g ∧ St t w' g (s221 :: H) ∧ Own (tInt .u8) 5 g A219 c220 s221 rr1) := by
 unfold bus_Noise at h
 refine enter Try.func43 rfl (tm := ⟨[(ag_Packet p1 A2 c3), .slice A6 bits5.length c7] ++ (un 44 [])⟩) kr ?_
 intro B hret hnor hnp
 refine wp_seq_k fun K9 hK10 => rl ?_
 refine seqK rfl (does_box (cs := #[.int .i64 p1.Addr, .int .i64 p1.Kind, .int .i64 p1.Seq, .slice A2 p1.Data.length c3]) rfl (kv (.agg #[.int .i64 p1.Addr, .int .i64 p1.Kind, .int .i64 p1.Seq, .slice A2 p1.Data.length c3])) rfl HS ?_)
 intro b11 W12 HS13
 refine seqL2 kr ?_
 refine nl (hK10 _ _ ?_)
 refine wp_seq_k fun K15 hK16 => rl ?_
 refine seqK rfl (does_run (run_loadN (n := 4) rfl Try.underlying93 rfl kr (kv (pV b11 0)) (cs := [.int .i64 p1.Addr, .int .i64 p1.Kind, .int .i64 p1.Seq, .slice A2 p1.Data.length c3]) rfl (HS13.cells 0 4 _ rfl)) ?_)
 replace h := bind_some h; obtain ⟨⟨vt17, vt18⟩, hc19, h⟩ := h
 refine seqK rfl (does_call kr (bus_Body.calls k A2 c3 p1 HS13 HR4 vt17 vt18 hc19) ?_)
 rintro _ W22 ⟨f20, A24, c25, s26, rfl, L21, HS23, HO27⟩
 refine ⟨_, rfl, ?_⟩
 refine seqL5 kr ?_
 refine nl (hK16 _ _ ?_)
 refine wp_seq_k (fun K29 hK30 => ?_)
 refine wp_seq_k fun K31 hK32 => rl ?_
 refine seqL2 kr ?_
 refine nl (hK32 _ _ ?_)
 replace h := ite_some h; rcases h with ⟨c34, h⟩ | ⟨c34, h⟩
 · have c34 : vt18 ≠ 0 := c34
   refine wpRwI 16 kr (bne_iff_ne.mpr c34) ?_
   refine condT kr ?_
   refine wp_seq_k (fun K35 hK36 => ?_)
   exact nomatch h
 have c34 : ¬ (vt18 ≠ 0) := c34
 refine wpRwI 16 (x := (vt18 != 0)) (v := false) kr (bne_eq_false_iff_eq.mpr (Decidable.of_not_not c34)) ?_
 refine condF kr ?_
 refine wp_skip ?_
 refine hK30 _ _ ?_
 refine wp_seq_k (fun K37 hK38 => ?_)
 refine wp_seq_k fun K39 hK40 => rl ?_
 refine seqL3 kr ?_
 refine nl (hK40 _ _ ?_)
 refine blockK (fun B41 hx42 hn43 hr44 ho45 hp46 => ?_)
 replace h := bind_some h; obtain ⟨o112, hv190, h⟩ := h
 have J191 : ∀ (f181 : FM) (s187 : Seg) (b186 : List Int) (j185 : Nat → Value) (W183 : World) (a_ : Act), FM.le f20 f181 → some (b186) = some o112 → St t W183 f181 (s187 :: [(b11, .cells #[.int .i64 p1.Addr, .int .i64 p1.Kind, .int .i64 p1.Seq, .slice A2 p1.Data.length c3] 93 (0, 0))] :: H) → Own (tInt .u8) 5 f181 A24 c25 s187 b186 → b186.length = vt17.length → a_ = ⟨⟨[(ag_Packet p1 A2 c3), .slice A6 bits5.length c7, pV b11 0, uV, .slice none 0 0, iV 0, .slice A24 b186.length c25, iV vt18, uV, (j185 0), .tuple #[.slice A24 vt17.length c25, iV vt18], (ag_Packet p1 A2 c3), .tuple #[.slice A24 vt17.length c25, iV vt18], (j185 1), iV vt18, iV vt18, fV, uV, .slice A6 bits5.length c7, iV (bits5.length : Int)] ++ (jr j185 2 24 [uV, uV])⟩, []⟩ → K37 a_ W183 := by
  intro f181 s187 b186 j185 W183 a_ L182 hj192 HS184 HO188 HL189 hfr_; subst hfr_
  injection hj192 with hj192; subst hj192; try dsimp only at h
  refine hK38 _ _ ?_
  refine wp_seq_k fun K193 hK194 => rl ?_
  obtain ⟨f195, L196, HS197, HR198, th199⟩ := HO188.lend HS184
  replace h := bind_some h; obtain ⟨vt200, hc201, h⟩ := h
  refine seqL1 kr ?_
  refine seqK rfl (does_call kr (bus_Stuff.calls k A24 c25 b186 HS197 HR198 vt200 hc201) ?_)
  rintro _ W204 ⟨f202, A206, c207, s208, rfl, L203, HS205, HO209⟩
  refine ⟨_, rfl, ?_⟩
  obtain ⟨f211, L212, HS213⟩ := th199 L203 HS205
  replace HO209 := HO209.flat (g := f211) (fun _ _ _ _ h_ => h_)
  refine seqL2 kr ?_
  refine nl (hK194 _ _ ?_)
  refine wp_ret ?_
  refine hret _ _ ?_
  refine ends_still (v := Value.tuple #[.slice A206 vt200.length c207, .int .i64 0]) kr kr ?_
  have HS216 := HS213.u1.u2.u2
  have HS217 := HS216.drop
  have HS218 := HS217.drop
  injection h with h
  injection h with h0_ h
  subst h0_ h
  exact ⟨f211, A206, c207, s208, rfl, (L21.trans (L182.trans L212)), HS218, HO209⟩
 clear h; have h := hv190; clear hv190
 refine loopK (fun n_ a_ w_ => ∃ (f116 : FM) (s122 : Seg) (b121 : List Int) (x125 : Int) (j120 : Nat → Value), FM.le f20 f116 ∧ St t w_ f116 (s122 :: [(b11, .cells #[.int .i64 p1.Addr, .int .i64 p1.Kind, .int .i64 p1.Seq, .slice A2 p1.Data.length c3] 93 (0, 0))] :: H) ∧ Own (tInt .u8) 5 f116 A24 c25 s122 b121 ∧ b121.length = vt17.length ∧ bus_Noise.l0 k bits5 n_ b121 x125 = some o112 ∧ a_ = ⟨⟨[(ag_Packet p1 A2 c3), .slice A6 bits5.length c7, pV b11 0, uV, .slice none 0 0, iV 0, .slice A24 b121.length c25, iV vt18, uV, (j120 0), .tuple #[.slice A24 vt17.length c25, iV vt18], (ag_Packet p1 A2 c3), .tuple #[.slice A24 vt17.length c25, iV vt18], .slice A24 vt17.length c25, iV vt18, iV vt18, fV, uV, .slice A6 bits5.length c7, iV (bits5.length : Int), iV x125] ++ (jr j120 1 23 [uV, uV])⟩, []⟩) k ⟨f20, s26, vt17, 0, (jL []), fL, HS23, HO27, rfl, h, kr⟩ ?_
 clear h
 rintro n115 _ W118 ⟨f116, s122, b121, x125, j120, L117, HS119, HO123, HL124, h, rfl⟩ K113 hK114
 obtain _ | n115 := n115
 · exact nomatch h
 simp only [bus_Noise.l0] at h
 refine wp_seq_k fun K126 hK127 => rl ?_
 refine seqL1 kr ?_
 refine nl (hK127 _ _ ?_)
 refine wp_seq_k (fun K128 hK129 => ?_)
 replace h := ite_some h; rcases h with ⟨c131, h⟩ | ⟨c131, h⟩
 rotate_left
 · have c131 : ¬ (x125 < (bits5.length : Int)) := c131
   refine wpRwI 21 kr (decide_eq_false c131) ?_
   refine condF kr ?_
   refine wp_exit ?_
   refine hx42 _ _ ?_
   exact J191 f116 s122 b121 (jL [(j120 0), .slice A24 vt17.length c25, iV x125, fV, (j120 2), (j120 3), (j120 4), (j120 5), (j120 6), (j120 7), (j120 8), (j120 9), (j120 10), (j120 11), (j120 12), (j120 13), (j120 14), (j120 15), (j120 16), (j120 17), (j120 18), (j120 19), (j120 20), (j120 21), (j120 22), (j120 23)]) W118 _ L117 h HS119 HO123 HL124 kr
 have c131 : x125 < (bits5.length : Int) := c131
 refine wpRwI 21 kr (decide_eq_true c131) ?_
 refine condT kr ?_
 refine wp_skip ?_
 refine hK129 _ _ ?_
 refine wp_seq_k (fun K132 hK133 => ?_)
 refine blockK (fun B134 hx135 hn136 hr137 ho138 hp139 => ?_)
 refine wp_seq_k fun K141 hK142 => rl ?_
 replace h := guard_some h; obtain ⟨c143, h⟩ := h
 have c143 : 0 ≤ x125 := c143
 obtain ⟨b147, of148, cs144, hA149, hr145, hc146⟩ := (HR8.mono (L21.trans L117)).at (i := x125) c143 c131
 obtain rfl := hr145
 refine seqK rfl (does_run (run_indexE hA149 (sz := 1) rfl Try.underlying22 kr (kv (.slice A6 bits5.length c7)) (kv (.int .i64 x125)) c143 c131 W118) ?_)
 refine seqK rfl (does_run (run_load rfl Try.underlying3 rfl (kv (pV b147 (of148 + (x125 : Int).toNat * 1))) ((hc146 fL HS119) 0 (by decide))) ?_)
 refine seqL1 kr ?_
 refine nl (hK142 _ _ ?_)
 refine wp_seq_k fun K150 hK151 => rl ?_
 refine seqL3 kr ?_
 replace h := ite_some h; rcases h with ⟨c153, h⟩ | ⟨c153, h⟩
 rotate_left
 · have c153 : ¬ (0 ≤ (rd bits5 x125)) := c153
   refine seqRwI 25 kr (decide_eq_false c153) ?_
   refine seqRwI 26 kr (decide_eq_false c153) ?_
   refine seqL6 kr ?_
   refine nl (hK151 _ _ ?_)
   refine condF kr ?_
   refine wp_skip ?_
   refine hn136 _ _ ?_
   refine hK133 _ _ ?_
   refine rl ?_
   refine seqL2 kr ?_
   refine nl ?_
   refine hK114 n115 _ _ (Nat.lt_succ_self _) ?_
   exact ⟨f116, s122, b121, (w64 (x125 + 1)), (jL [iV (rd bits5 x125), tV, pV b147 (of148 + (x125 : Int).toNat * 1), iV (rd bits5 x125), iV (rd bits5 x125), fV, fV, uV, uV, uV, uV, uV, fV, (j120 13), (j120 14), (j120 15), (j120 16), (j120 17), (j120 18), (j120 19), (j120 20), (j120 21), (j120 22), iV (w64 (x125 + 1))]), L117, HS119, HO123, HL124, h, kr⟩
 have c153 : 0 ≤ (rd bits5 x125) := c153
 refine seqRwI 25 kr (decide_eq_true c153) ?_
 refine seqRwI 26 kr (decide_eq_true c153) ?_
 refine seqL6 kr ?_
 refine nl (hK151 _ _ ?_)
 replace h := ite_some h; rcases h with ⟨c155, h⟩ | ⟨c155, h⟩
 rotate_left
 · have c155 : ¬ ((rd bits5 x125) < (w64 (8 * (b121.length : Int)))) := c155
   refine wpRwI 31 kr (decide_eq_false c155) ?_
   refine wpRwI 32 kr (decide_eq_false c155) ?_
   refine condF kr ?_
   refine wp_skip ?_
   refine hn136 _ _ ?_
   refine hK133 _ _ ?_
   refine rl ?_
   refine seqL2 kr ?_
   refine nl ?_
   refine hK114 n115 _ _ (Nat.lt_succ_self _) ?_
   exact ⟨f116, s122, b121, (w64 (x125 + 1)), (jL [iV (rd bits5 x125), tV, pV b147 (of148 + (x125 : Int).toNat * 1), iV (rd bits5 x125), iV (rd bits5 x125), tV, tV, iV (rd bits5 x125), .slice A24 b121.length c25, iV (b121.length : Int), iV (w64 (8 * (b121.length : Int))), fV, fV, (j120 13), (j120 14), (j120 15), (j120 16), (j120 17), (j120 18), (j120 19), (j120 20), (j120 21), (j120 22), iV (w64 (x125 + 1))]), L117, HS119, HO123, HL124, h, kr⟩
 have c155 : (rd bits5 x125) < (w64 (8 * (b121.length : Int))) := c155
 refine wpRwI 31 kr (decide_eq_true c155) ?_
 refine wpRwI 32 kr (decide_eq_true c155) ?_
 refine condT kr ?_
 have HS157 := HS119.u1.u1
 refine heldG (S := Sg t f116 ([(b11, .cells #[.int .i64 p1.Addr, .int .i64 p1.Kind, .int .i64 p1.Seq, .slice A2 p1.Data.length c3] 93 (0, 0))] :: H) [(10, s122)]) (n := 11) kr rfl HS157 ?_
 intro W158 HS159
 replace h := guard_some h; obtain ⟨c160, h⟩ := h
 have c160 : 0 ≤ (w64 (Int.tdiv (rd bits5 x125) 8)) := c160
 replace h := guard_some h; obtain ⟨c161, h⟩ := h
 have c161 : (w64 (Int.tdiv (rd bits5 x125) 8)) < (b121.length : Int) := c161
 obtain ⟨b165, of166, cs162, hA167, hr163, hc164⟩ := HO123.at (i := w64 (Int.tdiv (rd bits5 x125) 8)) c160 c161
 obtain rfl := hr163
 refine gL [0, 1, 2] (fuel := 8) (bA 11 7) rfl kr kr kr (fun ch_ a_ w_ q_ => (fun ch_ a_ w_ q_ => hnp ch_ a_ w_ (hp46 ch_ a_ w_ q_)) ch_ a_ w_ (hp139 ch_ a_ w_ q_)) (Sg.g1 (Sx.of [s122] fL HS159) (fun _ => St.only [] HS159 fL)) fun X168 => ?_
 refine gQ 3 rfl kr kr kr kr kr (fun ch_ a_ w_ q_ => (fun ch_ a_ w_ q_ => hnp ch_ a_ w_ (hp46 ch_ a_ w_ q_)) ch_ a_ w_ (hp139 ch_ a_ w_ q_)) X168 (fun hl_ hS_ => run_indexE hA167 (sz := 1) rfl Try.underlying91 kr (kv (.slice A24 b121.length c25)) (kv (.int .i64 (w64 (Int.tdiv (rd bits5 x125) 8)))) c160 c161 _) fun X169 => ?_
 refine gQs 4 10 rfl kr kr kr kr kr (.head _) kr (fun ch_ a_ w_ q_ => (fun ch_ a_ w_ q_ => hnp ch_ a_ w_ (hp46 ch_ a_ w_ q_)) ch_ a_ w_ (hp139 ch_ a_ w_ q_)) X169 (fun hl_ hS_ => run_load rfl Try.underlying5 rfl (by kernel_rfl : _ = pV b165 (of166 + (w64 (Int.tdiv (rd bits5 x125) 8) : Int).toNat * 1)) ((hc164 hS_) 0 (by decide))) fun X170 => ?_
 replace h := guard_some h; obtain ⟨c171, h⟩ := h
 have c171 : ¬ ((Int.tmod (rd bits5 x125) 8) < 0) := c171
 refine gL [5, 6] (fuel := 4) (bA 11 127) rfl kr kr kr (fun ch_ a_ w_ q_ => (fun ch_ a_ w_ q_ => hnp ch_ a_ w_ (hp46 ch_ a_ w_ q_)) ch_ a_ w_ (hp139 ch_ a_ w_ q_)) X170 fun X172 => ?_
 refine gQ 7 rfl kr kr kr kr kr (fun ch_ a_ w_ q_ => (fun ch_ a_ w_ q_ => hnp ch_ a_ w_ (hp46 ch_ a_ w_ q_)) ch_ a_ w_ (hp139 ch_ a_ w_ q_)) X172 (fun hl_ hS_ => run_shl rfl (kv (.int .u8 1)) (kv (.int .i64 (Int.tmod (rd bits5 x125) 8))) c171 _) fun X173 => ?_
 refine gL [8] (fuel := 2) (bA 11 511) rfl kr kr kr (fun ch_ a_ w_ q_ => (fun ch_ a_ w_ q_ => hnp ch_ a_ w_ (hp46 ch_ a_ w_ q_)) ch_ a_ w_ (hp139 ch_ a_ w_ q_)) X173 fun X174 => ?_
 refine gQ 9 rfl kr kr kr kr kr (fun ch_ a_ w_ q_ => (fun ch_ a_ w_ q_ => hnp ch_ a_ w_ (hp46 ch_ a_ w_ q_)) ch_ a_ w_ (hp139 ch_ a_ w_ q_)) X174 (fun hl_ hS_ => run_indexE hA167 (sz := 1) rfl Try.underlying91 kr (kv (.slice A24 b121.length c25)) (kv (.int .i64 (w64 (Int.tdiv (rd bits5 x125) 8)))) c160 c161 _) fun X175 => ?_
 refine takeGE 10 kr rfl kr (does_put (e := (tInt .u8)) (E := 5) (vs := [.int .u8 (Go.bits .xor .u8 (rd b121 (w64 (Int.tdiv (rd bits5 x125) 8))) (u8 (1 * 2 ^ (min (Int.tmod (rd bits5 x125) 8).toNat 8))))]) (u := Go.bits .xor .u8 (rd b121 (w64 (Int.tdiv (rd bits5 x125) 8))) (u8 (1 * 2 ^ (min (Int.tmod (rd bits5 x125) 8).toNat 8)))) (i := w64 (Int.tdiv (rd bits5 x125) 8)) rfl kr HO123 HS159 hA167 (by kernel_rfl : _ = pV b165 (of166 + (w64 (Int.tdiv (rd bits5 x125) 8) : Int).toNat * 1)) (kv (.int .u8 (Go.bits .xor .u8 (rd b121 (w64 (Int.tdiv (rd bits5 x125) 8))) (u8 (1 * 2 ^ (min (Int.tmod (rd bits5 x125) 8).toNat 8)))))) rfl rfl c160 c161 ?_)
 intro W176 s177 HS178 HO179
 refine kB (Sg.g1 (Sx.of [s177] fL HS178) (fun hl_ => Bool.noConfusion (show true = false from hl_))) fun X180 => ?_
 refine gateRwS 6 (A := A24) (m := b121.length) (n := (b121.set (w64 (Int.tdiv (rd bits5 x125) 8)).toNat (Go.bits .xor .u8 (rd b121 (w64 (Int.tdiv (rd bits5 x125) 8))) (u8 (1 * 2 ^ (min (Int.tmod (rd bits5 x125) 8).toNat 8))))).length) (c := c25) kr (List.length_set).symm ?_
 refine gateRwS 28 (A := A24) (m := b121.length) (n := (b121.set (w64 (Int.tdiv (rd bits5 x125) 8)).toNat (Go.bits .xor .u8 (rd b121 (w64 (Int.tdiv (rd bits5 x125) 8))) (u8 (1 * 2 ^ (min (Int.tmod (rd bits5 x125) 8).toNat 8))))).length) (c := c25) kr (List.length_set).symm ?_
 refine gateRwS 33 (A := A24) (m := b121.length) (n := (b121.set (w64 (Int.tdiv (rd bits5 x125) 8)).toNat (Go.bits .xor .u8 (rd b121 (w64 (Int.tdiv (rd bits5 x125) 8))) (u8 (1 * 2 ^ (min (Int.tmod (rd bits5 x125) 8).toNat 8))))).length) (c := c25) kr (List.length_set).symm ?_
 refine doneG kr ?_ _
 refine hn136 _ _ ?_
 refine hK133 _ _ ?_
 refine rl ?_
 refine seqL2 kr ?_
 refine nl ?_
 refine hK114 n115 _ _ (Nat.lt_succ_self _) ?_
 exact ⟨f116, s177, (b121.set (w64 (Int.tdiv (rd bits5 x125) 8)).toNat (Go.bits .xor .u8 (rd b121 (w64 (Int.tdiv (rd bits5 x125) 8))) (u8 (1 * 2 ^ (min (Int.tmod (rd bits5 x125) 8).toNat 8))))), (w64 (x125 + 1)), (jL [iV (rd bits5 x125), tV, pV b147 (of148 + (x125 : Int).toNat * 1), iV (rd bits5 x125), iV (rd bits5 x125), tV, tV, iV (rd bits5 x125), .slice A24 (b121.set (w64 (Int.tdiv (rd bits5 x125) 8)).toNat (Go.bits .xor .u8 (rd b121 (w64 (Int.tdiv (rd bits5 x125) 8))) (u8 (1 * 2 ^ (min (Int.tmod (rd bits5 x125) 8).toNat 8))))).length c25, iV (b121.length : Int), iV (w64 (8 * (b121.length : Int))), tV, tV, .slice A24 (b121.set (w64 (Int.tdiv (rd bits5 x125) 8)).toNat (Go.bits .xor .u8 (rd b121 (w64 (Int.tdiv (rd bits5 x125) 8))) (u8 (1 * 2 ^ (min (Int.tmod (rd bits5 x125) 8).toNat 8))))).length c25, iV (rd bits5 x125), iV (w64 (Int.tdiv (rd bits5 x125) 8)), pV b165 (of166 + (w64 (Int.tdiv (rd bits5 x125) 8) : Int).toNat * 1), .int .u8 (rd b121 (w64 (Int.tdiv (rd bits5 x125) 8))), iV (rd bits5 x125), iV (Int.tmod (rd bits5 x125) 8), .int .u8 (u8 (1 * 2 ^ (min (Int.tmod (rd bits5 x125) 8).toNat 8))), .int .u8 (Go.bits .xor .u8 (rd b121 (w64 (Int.tdiv (rd bits5 x125) 8))) (u8 (1 * 2 ^ (min (Int.tmod (rd bits5 x125) 8).toNat 8)))), pV b165 (of166 + (w64 (Int.tdiv (rd bits5 x125) 8) : Int).toNat * 1), iV (w64 (x125 + 1))]), L117, HS178, HO179, (List.length_set.trans HL124), h, kr⟩

set_option maxRecDepth 100000 in
set_option maxHeartbeats 4000000 in
theorem link_line_send.calls (k : Nat) (b1 : Nat) (A4 : Option Addr) (c5 : Nat) (A7 : Option Addr) (c8 : Nat) (s9 : Seg) (A13 : Option Addr) (c14 : Nat) (l3 : S_line) (p12 : S_Packet) (vt16 : Int) {t w : World} {f : FM} {H : List Seg} (HS : St t w f ([(b1, .cells #[.slice A4 l3.fates.length c5, .slice A7 l3.way.length c8, .int .i64 l3.count] 88 (0, 0))] :: s9 :: H)) (HR6 : SlR ty_Fate f A4 c5 l3.fates) (HO10 : Own ty_parcel 117 f A7 c8 s9 l3.way) (HR15 : SlR (tInt .u8) f A13 c14 p12.Data) (rr1 : List S_parcel) (rr2 : Int) (h : link_line_send k l3 p12 vt16 = some (rr1, rr2)) :
    Calls Try.prog 24 #[pV b1 0, .agg #[.int .i64 p12.Addr, .int .i64 p12.Kind, .int .i64 p12.Seq, .slice A13 p12.Data.length c14], .int .i64 vt16] w (fun e w' => ∃ (g : FM) (A222 : Option Addr) (c223 : Nat) (s224 : Seg), e = .returned (Value.tuple #[]) ∧ FM.le f g ∧ St t w' g (s224 :: [(b1, .cells #[.slice A4 l3.fates.length c5, .slice A222 rr1.length c223, .int .i64 rr2] 88 (0, 0))] :: H) ∧ Own ty_parcel 117 g A222 c223 s224 rr1) := by
 unfold link_line_send at h
 refine enter Try.func24 rfl (tm := ⟨[pV b1 0, (ag_Packet p12 A13 c14), iV vt16] ++ (un 76 [])⟩) kr ?_
 intro B hret hnor hnp
 refine wp_seq_k fun K17 hK18 => rl ?_
 refine seqK rfl (does_box (cs := #[.int .i64 p12.Addr, .int .i64 p12.Kind, .int .i64 p12.Seq, .slice A13 p12.Data.length c14]) rfl (kv (.agg #[.int .i64 p12.Addr, .int .i64 p12.Kind, .int .i64 p12.Seq, .slice A13 p12.Data.length c14])) rfl HS ?_)
 intro b19 W20 HS21
 refine nl (hK18 _ _ ?_)
 refine wp_seq_k fun K23 hK24 => rl ?_
 refine seqL1 kr ?_
 refine seqK rfl (does_alloc (z := Value.agg #[.bool false, .int .i64 0, .int .i64 0, .slice none 0 0]) (cs := #[.bool false, .int .i64 0, .int .i64 0, .slice none 0 0]) rfl kr rfl HS21 ?_)
 intro b25 W26 HS27
 refine seqK rfl (does_storeA (vs := [.bool false, .int .i64 1, .int .i64 0, .slice none 0 0]) rfl kr kr kr rfl (ones rfl) HS27 kr ?_)
 intro W29 HS30
 refine nl (hK24 _ _ ?_)
 refine wp_seq_k (fun K31 hK32 => ?_)
 refine wp_seq_k (fun K33 hK34 => ?_)
 refine heldG (S := Sg t f ([(b25, .cells #[.bool false, .int .i64 1, .int .i64 0, .slice none 0 0] 78 (0, 0))] :: [(b19, .cells #[.int .i64 p12.Addr, .int .i64 p12.Kind, .int .i64 p12.Seq, .slice A13 p12.Data.length c14] 93 (0, 0))] :: [(b1, .cells #[.slice A4 l3.fates.length c5, .slice A7 l3.way.length c8, .int .i64 l3.count] 88 (0, 0))] :: s9 :: H) []) (n := 10) kr rfl HS30 ?_
 intro W35 HS36
 refine gL [0, 1, 2] (fuel := 7) (bA 10 7) rfl kr kr kr hnp (Sg.g0 (Sx.of [] fL HS36)) fun X37 => ?_
 refine gQ 3 rfl kr kr kr kr kr hnp X37 (fun hl_ hS_ => run_load rfl Try.underlying3 rfl (kv (pV b1 2)) (hS_.u2.cell 2)) fun X38 => ?_
 refine gL [4, 5, 6] (fuel := 3) (bA 10 127) rfl kr kr kr hnp X38 fun X39 => ?_
 refine gQ 7 rfl kr kr kr kr kr hnp X39 (fun hl_ hS_ => run_load rfl Try.underlying35 rfl (kv (pV b1 0)) (hS_.u2.cell 0)) fun X40 => ?_
 refine gL [8, 9] (fuel := 0) (bA 10 1023) rfl kr kr kr hnp X40 fun X41 => ?_
 refine doneG kr ?_ _
 refine hK34 _ _ ?_
 replace h := bind_some h; obtain ⟨v42, hv79, h⟩ := h
 have J80 : ∀ (f67 : FM) (A76 : Option Addr) (c77 : Nat) (x72 : Bool) (x73 : Int) (x74 : Int) (x75 : List Int) (j71 : Nat → Value) (W69 : World) (a_ : Act), FM.le f f67 → some ((x72, x73, x74, x75)) = some v42 → St t W69 f67 ([(b25, .cells #[.bool x72, .int .i64 x73, .int .i64 x74, .slice A76 x75.length c77] 78 (0, 0))] :: [(b19, .cells #[.int .i64 p12.Addr, .int .i64 p12.Kind, .int .i64 p12.Seq, .slice A13 p12.Data.length c14] 93 (0, 0))] :: [(b1, .cells #[.slice A4 l3.fates.length c5, .slice A7 l3.way.length c8, .int .i64 l3.count] 88 (0, 0))] :: s9 :: H) → SlR (tInt .i64) f67 A76 c77 x75 → a_ = ⟨⟨[pV b1 0, (ag_Packet p12 A13 c14), iV vt16, uV, pV b19 0, uV, pV b25 0, uV, uV, .agg #[fV, iV 1, iV 0, .slice none 0 0], pV b1 0, pV b1 0, pV b1 2, iV l3.count, pV b1 0, pV b1 0, pV b1 0, .slice A4 l3.fates.length c5, iV (l3.fates.length : Int), .bool (decide (l3.count < (l3.fates.length : Int)))] ++ (jr j71 0 10 (un 49 []))⟩, []⟩ → K31 a_ W69 := by
  intro f67 A76 c77 x72 x73 x74 x75 j71 W69 a_ L68 hj81 HS70 HR78 hfr_; subst hfr_
  injection hj81 with hj81; subst hj81; try dsimp only at h
  refine hK32 _ _ ?_
  refine wp_seq_k fun K82 hK83 => rl ?_
  refine seqL3 kr ?_
  refine seqK rfl (does_run (run_load rfl Try.underlying3 rfl (kv (pV b1 2)) (HS70.u2.cell 2)) ?_)
  have HS84 := HS70.u2
  refine seqL3 kr ?_
  refine seqK rfl (does_store (n := 1) (vs := [.int .i64 (w64 (l3.count + 1))]) (cs' := #[.slice A4 l3.fates.length c5, .slice A7 l3.way.length c8, .int .i64 (w64 (l3.count + 1))]) rfl kr (kv (pV b1 2)) (kv (.int .i64 (w64 (l3.count + 1)))) rfl rfl (ones rfl) HS84 (Nat.le_of_ble_eq_true rfl) kr ?_)
  intro W85 HS86
  refine nl (hK83 _ _ ?_)
  refine wp_seq_k (fun K87 hK88 => ?_)
  refine wp_seq_k fun K89 hK90 => rl ?_
  refine seqL1 kr ?_
  refine seqK rfl (does_run (run_load rfl Try.underlying4 rfl (kv (pV b25 0)) (HS86.u1.cell 0)) ?_)
  refine nl (hK90 _ _ ?_)
  replace h := ite_some h; rcases h with ⟨c92, h⟩ | ⟨c92, h⟩
  · have c92 : x72 = true := c92
    refine wpRwI 38 kr c92 ?_
    refine condT kr ?_
    refine wp_ret ?_
    refine hret _ _ ?_
    refine ends_still (v := Value.tuple #[]) kr kr ?_
    have HS209 := HS86.u3.u3.u3
    have HS210 := HS209.drop
    have HS211 := HS210.drop
    injection h with h
    injection h with h0_ h
    subst h0_ h
    exact ⟨f67, A7, c8, s9, rfl, L68, HS211, (HO10.mono L68)⟩
  have c92 : ¬ (x72 = true) := c92
  refine wpRwI 38 kr (Bool.eq_false_iff.mpr c92) ?_
  refine condF kr ?_
  refine wp_skip ?_
  refine hK88 _ _ ?_
  refine wp_seq_k fun K93 hK94 => rl ?_
  refine seqK rfl (does_run (run_loadN (n := 4) rfl Try.underlying93 rfl kr (kv (pV b19 0)) (cs := [.int .i64 p12.Addr, .int .i64 p12.Kind, .int .i64 p12.Seq, .slice A13 p12.Data.length c14]) rfl (HS86.u2.cells 0 4 _ rfl)) ?_)
  refine seqL1 kr ?_
  refine seqK rfl (does_run (run_load rfl Try.underlying22 rfl (kv (pV b25 3)) (HS86.u1.cell 3)) ?_)
  replace h := bind_some h; obtain ⟨⟨vt95, vt96⟩, hc97, h⟩ := h
  refine seqK rfl (does_call kr (bus_Noise.calls k A13 c14 A76 c77 p12 x75 HS86 (HR15.mono L68) HR78 vt95 vt96 hc97) ?_)
  rintro _ W100 ⟨f98, A102, c103, s104, rfl, L99, HS101, HO105⟩
  refine ⟨_, rfl, ?_⟩
  refine seqL5 kr ?_
  refine nl (hK94 _ _ ?_)
  refine wp_seq_k (fun K107 hK108 => ?_)
  have HS136 := HS101.u3.u3.u4.u4.u4
  refine heldG (S := Sg t f98 ([(b25, .cells #[.bool x72, .int .i64 x73, .int .i64 x74, .slice A76 x75.length c77] 78 (0, 0))] :: [(b19, .cells #[.int .i64 p12.Addr, .int .i64 p12.Kind, .int .i64 p12.Seq, .slice A13 p12.Data.length c14] 93 (0, 0))] :: H) [(12, [(b1, .cells #[.slice A4 l3.fates.length c5, .slice A7 l3.way.length c8, .int .i64 (w64 (l3.count + 1))] 88 (0, 0))]), (12, s9)]) (n := 16) kr rfl HS136 ?_
  intro W137 HS138
  refine gL [0, 1, 2, 3] (fuel := 12) (bA 16 15) rfl kr kr kr hnp (Sg.g2 (Sx.of [s104, [(b1, .cells #[.slice A4 l3.fates.length c5, .slice A7 l3.way.length c8, .int .i64 (w64 (l3.count + 1))] 88 (0, 0))], s9] fL HS138) (fun _ => St.only [s104] HS138 fL) (fun _ => St.only [s104, [(b1, .cells #[.slice A4 l3.fates.length c5, .slice A7 l3.way.length c8, .int .i64 (w64 (l3.count + 1))] 88 (0, 0))]] HS138 fL)) fun X139 => ?_
  refine gQs 4 12 rfl kr kr kr kr kr (.head _) kr hnp X139 (fun hl_ hS_ => run_load rfl Try.underlying86 rfl (kv (pV b1 1)) (hS_.cell 1)) fun X140 => ?_
  refine gL [5, 6] (fuel := 9) (bA 16 127) rfl kr kr kr hnp X140 fun X141 => ?_
  refine gQ 7 rfl kr kr kr kr kr hnp X141 (fun hl_ hS_ => run_load rfl Try.underlying3 rfl (kv (pV b25 1)) (hS_.cell 1)) fun X142 => ?_
  refine gL [8, 9, 10] (fuel := 5) (bA 16 2047) rfl kr kr kr hnp X142 fun X143 => ?_
  obtain ⟨f144, L145, HS146, HR147⟩ := HO105.freeze HS138
  refine takeGE 11 kr rfl kr (does_lit (e := ty_parcel) (E := 117) (vs := #[(0, Value.agg #[.int .i64 (w64 (vt16 + x73)), .slice A102 vt95.length c103])]) (cs := #[.int .i64 (w64 (vt16 + x73)), .slice A102 vt95.length c103]) (xs := ([(⟨w64 (vt16 + x73), vt95⟩ : S_parcel)] : List S_parcel)) rfl Try.underlying86 kr kr ⟨[.int .i64 (w64 (vt16 + x73)), .slice A102 vt95.length c103], _, rfl, ⟨A102, c103, rfl, HR147⟩, rfl⟩ rfl HS146 ?_ (by decide))
  intro b148 W149 s150 HS151 _ HO152
  refine kB (Sg.g2 (Sx.of [s150, [(b1, .cells #[.slice A4 l3.fates.length c5, .slice A7 l3.way.length c8, .int .i64 (w64 (l3.count + 1))] 88 (0, 0))], s9] L145 HS151) (fun _ => St.only [s150] HS151 L145) (fun _ => St.only [s150, [(b1, .cells #[.slice A4 l3.fates.length c5, .slice A7 l3.way.length c8, .int .i64 (w64 (l3.count + 1))] 88 (0, 0))]] HS151 L145)) fun X154 => ?_
  replace h := guard_some h; obtain ⟨c155, h⟩ := h
  have c155 : (l3.way.length + 1) * 32 ≤ 140737488355328 := c155
  have HS157 := HS151.u2.u1
  refine takeGE 12 kr rfl kr (does_append1 (e := ty_parcel) (E := 117) (xs := l3.way) (ys := ([(⟨w64 (vt16 + x73), vt95⟩ : S_parcel)] : List S_parcel)) rfl (kv (.slice A7 l3.way.length c8)) (kv (.slice (some ⟨b148, 0, none⟩) ([(⟨w64 (vt16 + x73), vt95⟩ : S_parcel)] : List S_parcel).length 1)) Try.underlying86 inf117 (HO10.mono (L68.trans (L99.trans L145))) HO152 HS157 c155 (lim63 c155 (by decide)) ?_)
  intro A158 c159 s160 W161 HS162 HO163
  refine kB (Sg.g2 (Sx.of [s160, [(b1, .cells #[.slice A4 l3.fates.length c5, .slice A7 l3.way.length c8, .int .i64 (w64 (l3.count + 1))] 88 (0, 0))]] L145 HS162) (fun hl_ => Bool.noConfusion (show true = false from hl_)) (fun hl_ => Bool.noConfusion (show true = false from hl_))) fun X164 => ?_
  refine gL [13, 14] (fuel := 1) (bA 16 32767) rfl kr kr kr hnp X164 fun X165 => ?_
  have HS166 := HS162.u1
  refine takeGE 15 kr rfl kr (does_store (n := 1) (vs := [.slice A158 (l3.way ++ ([(⟨w64 (vt16 + x73), vt95⟩ : S_parcel)] : List S_parcel)).length c159]) (cs' := #[.slice A4 l3.fates.length c5, .slice A158 (l3.way ++ ([(⟨w64 (vt16 + x73), vt95⟩ : S_parcel)] : List S_parcel)).length c159, .int .i64 (w64 (l3.count + 1))]) rfl kr (kv (pV b1 1)) (kv (.slice A158 (l3.way ++ ([(⟨w64 (vt16 + x73), vt95⟩ : S_parcel)] : List S_parcel)).length c159)) rfl rfl (ones rfl) HS166 (Nat.le_of_ble_eq_true rfl) kr ?_)
  intro W167 HS168
  refine kB (Sg.g2 (Sx.of [[(b1, .cells #[.slice A4 l3.fates.length c5, .slice A158 (l3.way ++ ([(⟨w64 (vt16 + x73), vt95⟩ : S_parcel)] : List S_parcel)).length c159, .int .i64 (w64 (l3.count + 1))] 88 (0, 0))], s160] L145 HS168) (fun hl_ => Bool.noConfusion (show true = false from hl_)) (fun hl_ => Bool.noConfusion (show true = false from hl_))) fun X169 => ?_
  refine doneG kr ?_ _
  refine hK108 _ _ ?_
  refine wp_seq_k fun K170 hK171 => rl ?_
  refine seqL1 kr ?_
  refine seqK rfl (does_run (run_load rfl Try.underlying3 rfl (kv (pV b25 2)) (HS168.u2.cell 2)) ?_)
  refine seqL1 kr ?_
  refine nl (hK171 _ _ ?_)
  replace h := ite_some h; rcases h with ⟨c173, h⟩ | ⟨c173, h⟩
  rotate_left
  · have c173 : ¬ (x74 > 0) := c173
    refine wpRwI 63 kr (decide_eq_false c173) ?_
    refine condF kr ?_
    refine wp_skip ?_
    refine hnor _ _ ?_
    refine ends_still (v := Value.tuple #[]) kr kr ?_
    have HS219 := HS168.u1.u3.u3
    have HS220 := HS219.drop
    have HS221 := HS220.drop
    injection h with h
    injection h with h0_ h
    subst h0_ h
    exact ⟨f144, A158, c159, s160, rfl, (L68.trans (L99.trans L145)), HS221, HO163⟩
  have c173 : x74 > 0 := c173
  refine wpRwI 63 kr (decide_eq_true c173) ?_
  refine condT kr ?_
  have HS177 := HS168.u3.u3.u3.u3
  refine heldG (S := Sg t f144 ([(b25, .cells #[.bool x72, .int .i64 x73, .int .i64 x74, .slice A76 x75.length c77] 78 (0, 0))] :: [(b19, .cells #[.int .i64 p12.Addr, .int .i64 p12.Kind, .int .i64 p12.Seq, .slice A13 p12.Data.length c14] 93 (0, 0))] :: H) [(12, [(b1, .cells #[.slice A4 l3.fates.length c5, .slice A158 (l3.way ++ ([(⟨w64 (vt16 + x73), vt95⟩ : S_parcel)] : List S_parcel)).length c159, .int .i64 (w64 (l3.count + 1))] 88 (0, 0))]), (12, s160)]) (n := 16) kr rfl HS177 ?_
  intro W178 HS179
  refine gL [0, 1, 2, 3] (fuel := 12) (bA 16 15) rfl kr kr kr hnp (Sg.g2 (Sx.of [[(b1, .cells #[.slice A4 l3.fates.length c5, .slice A158 (l3.way ++ ([(⟨w64 (vt16 + x73), vt95⟩ : S_parcel)] : List S_parcel)).length c159, .int .i64 (w64 (l3.count + 1))] 88 (0, 0))], s160] fL HS179) (fun _ => St.only [] HS179 fL) (fun _ => St.only [[(b1, .cells #[.slice A4 l3.fates.length c5, .slice A158 (l3.way ++ ([(⟨w64 (vt16 + x73), vt95⟩ : S_parcel)] : List S_parcel)).length c159, .int .i64 (w64 (l3.count + 1))] 88 (0, 0))]] HS179 fL)) fun X180 => ?_
  refine gQs 4 12 rfl kr kr kr kr kr (.head _) kr hnp X180 (fun hl_ hS_ => run_load rfl Try.underlying86 rfl (kv (pV b1 1)) (hS_.cell 1)) fun X181 => ?_
  refine gL [5, 6] (fuel := 9) (bA 16 127) rfl kr kr kr hnp X181 fun X182 => ?_
  refine gQ 7 rfl kr kr kr kr kr hnp X182 (fun hl_ hS_ => run_load rfl Try.underlying3 rfl (kv (pV b25 2)) (hS_.cell 2)) fun X183 => ?_
  refine gL [8, 9, 10] (fuel := 5) (bA 16 2047) rfl kr kr kr hnp X183 fun X184 => ?_
  refine takeGE 11 kr rfl kr (does_lit (e := ty_parcel) (E := 117) (vs := #[(0, Value.agg #[.int .i64 (w64 (vt16 + x74)), .slice A102 vt95.length c103])]) (cs := #[.int .i64 (w64 (vt16 + x74)), .slice A102 vt95.length c103]) (xs := ([(⟨w64 (vt16 + x74), vt95⟩ : S_parcel)] : List S_parcel)) rfl Try.underlying86 kr kr ⟨[.int .i64 (w64 (vt16 + x74)), .slice A102 vt95.length c103], _, rfl, ⟨A102, c103, rfl, HR147⟩, rfl⟩ rfl HS179 ?_ (by decide))
  intro b185 W186 s187 HS188 _ HO189
  refine kB (Sg.g2 (Sx.of [s187, [(b1, .cells #[.slice A4 l3.fates.length c5, .slice A158 (l3.way ++ ([(⟨w64 (vt16 + x73), vt95⟩ : S_parcel)] : List S_parcel)).length c159, .int .i64 (w64 (l3.count + 1))] 88 (0, 0))], s160] fL HS188) (fun _ => St.only [s187] HS188 fL) (fun _ => St.only [s187, [(b1, .cells #[.slice A4 l3.fates.length c5, .slice A158 (l3.way ++ ([(⟨w64 (vt16 + x73), vt95⟩ : S_parcel)] : List S_parcel)).length c159, .int .i64 (w64 (l3.count + 1))] 88 (0, 0))]] HS188 fL)) fun X191 => ?_
  replace h := guard_some h; obtain ⟨c192, h⟩ := h
  have c192 : ((l3.way ++ ([(⟨w64 (vt16 + x73), vt95⟩ : S_parcel)] : List S_parcel)).length + 1) * 32 ≤ 140737488355328 := c192
  have HS194 := HS188.u2.u1
  refine takeGE 12 kr rfl kr (does_append1 (e := ty_parcel) (E := 117) (xs := (l3.way ++ ([(⟨w64 (vt16 + x73), vt95⟩ : S_parcel)] : List S_parcel))) (ys := ([(⟨w64 (vt16 + x74), vt95⟩ : S_parcel)] : List S_parcel)) rfl (kv (.slice A158 (l3.way ++ ([(⟨w64 (vt16 + x73), vt95⟩ : S_parcel)] : List S_parcel)).length c159)) (kv (.slice (some ⟨b185, 0, none⟩) ([(⟨w64 (vt16 + x74), vt95⟩ : S_parcel)] : List S_parcel).length 1)) Try.underlying86 inf117 HO163 HO189 HS194 c192 (lim63 c192 (by decide)) ?_)
  intro A195 c196 s197 W198 HS199 HO200
  refine kB (Sg.g2 (Sx.of [s197, [(b1, .cells #[.slice A4 l3.fates.length c5, .slice A158 (l3.way ++ ([(⟨w64 (vt16 + x73), vt95⟩ : S_parcel)] : List S_parcel)).length c159, .int .i64 (w64 (l3.count + 1))] 88 (0, 0))]] fL HS199) (fun hl_ => Bool.noConfusion (show true = false from hl_)) (fun hl_ => Bool.noConfusion (show true = false from hl_))) fun X201 => ?_
  refine gL [13, 14] (fuel := 1) (bA 16 32767) rfl kr kr kr hnp X201 fun X202 => ?_
  have HS203 := HS199.u1
  refine takeGE 15 kr rfl kr (does_store (n := 1) (vs := [.slice A195 ((l3.way ++ ([(⟨w64 (vt16 + x73), vt95⟩ : S_parcel)] : List S_parcel)) ++ ([(⟨w64 (vt16 + x74), vt95⟩ : S_parcel)] : List S_parcel)).length c196]) (cs' := #[.slice A4 l3.fates.length c5, .slice A195 ((l3.way ++ ([(⟨w64 (vt16 + x73), vt95⟩ : S_parcel)] : List S_parcel)) ++ ([(⟨w64 (vt16 + x74), vt95⟩ : S_parcel)] : List S_parcel)).length c196, .int .i64 (w64 (l3.count + 1))]) rfl kr (kv (pV b1 1)) (kv (.slice A195 ((l3.way ++ ([(⟨w64 (vt16 + x73), vt95⟩ : S_parcel)] : List S_parcel)) ++ ([(⟨w64 (vt16 + x74), vt95⟩ : S_parcel)] : List S_parcel)).length c196)) rfl rfl (ones rfl) HS203 (Nat.le_of_ble_eq_true rfl) kr ?_)
  intro W204 HS205
  refine kB (Sg.g2 (Sx.of [[(b1, .cells #[.slice A4 l3.fates.length c5, .slice A195 ((l3.way ++ ([(⟨w64 (vt16 + x73), vt95⟩ : S_parcel)] : List S_parcel)) ++ ([(⟨w64 (vt16 + x74), vt95⟩ : S_parcel)] : List S_parcel)).length c196, .int .i64 (w64 (l3.count + 1))] 88 (0, 0))], s197] fL HS205) (fun hl_ => Bool.noConfusion (show true = false from hl_)) (fun hl_ => Bool.noConfusion (show true = false from hl_))) fun X206 => ?_
  refine doneG kr ?_ _
  refine hnor _ _ ?_
  refine ends_still (v := Value.tuple #[]) kr kr ?_
  have HS214 := HS205.u1.u3.u3
  have HS215 := HS214.drop
  have HS216 := HS215.drop
  injection h with h
  injection h with h0_ h
  subst h0_ h
  exact ⟨f144, A195, c196, s197, rfl, (L68.trans (L99.trans L145)), HS216, HO200⟩
 clear h; have h := hv79; clear hv79
 replace h := ite_some h; rcases h with ⟨c43, h⟩ | ⟨c43, h⟩
 rotate_left
 · have c43 : ¬ (l3.count < (l3.fates.length : Int)) := c43
   refine wpRwI 19 kr (decide_eq_false c43) ?_
   refine condF kr ?_
   refine wp_skip ?_
   refine fnRwI (F := K31) 19 (x := false) (v := (decide (l3.count < (l3.fates.length : Int)))) kr (Eq.symm (decide_eq_false c43)) ?_
   exact J80 f none 0 false 1 0 ([] : List Int) (jL []) W35 _ fL h HS36 (SlR.nil _ _) kr
 have c43 : l3.count < (l3.fates.length : Int) := c43
 refine wpRwI 19 kr (decide_eq_true c43) ?_
 refine condT kr ?_
 have HS47 := HS36.u3.u3.u3.u3
 refine heldG (S := Sg t f ([(b19, .cells #[.int .i64 p12.Addr, .int .i64 p12.Kind, .int .i64 p12.Seq, .slice A13 p12.Data.length c14] 93 (0, 0))] :: [(b1, .cells #[.slice A4 l3.fates.length c5, .slice A7 l3.way.length c8, .int .i64 l3.count] 88 (0, 0))] :: s9 :: H) [(10, [(b25, .cells #[.bool false, .int .i64 1, .int .i64 0, .slice none 0 0] 78 (0, 0))])]) (n := 11) kr rfl HS47 ?_
 intro W48 HS49
 refine gL [0, 1, 2] (fuel := 8) (bA 11 7) rfl kr kr kr hnp (Sg.g1 (Sx.of [[(b25, .cells #[.bool false, .int .i64 1, .int .i64 0, .slice none 0 0] 78 (0, 0))]] fL HS49) (fun _ => St.only [] HS49 fL)) fun X50 => ?_
 refine gQ 3 rfl kr kr kr kr kr hnp X50 (fun hl_ hS_ => run_load rfl Try.underlying35 rfl (kv (pV b1 0)) (hS_.u1.cell 0)) fun X51 => ?_
 refine gL [4, 5, 6] (fuel := 4) (bA 11 127) rfl kr kr kr hnp X51 fun X52 => ?_
 refine gQ 7 rfl kr kr kr kr kr hnp X52 (fun hl_ hS_ => run_load rfl Try.underlying3 rfl (kv (pV b1 2)) (hS_.u1.cell 2)) fun X53 => ?_
 replace h := guard_some h; obtain ⟨c54, h⟩ := h
 have c54 : 0 ≤ l3.count := c54
 obtain ⟨b58, of59, cs55, hA60, hr56, hc57⟩ := HR6.at (i := l3.count) c54 c43
 obtain ⟨A61, c61, rfl, HR61⟩ := hr56
 refine gQ 8 rfl kr kr kr kr kr hnp X53 (fun hl_ hS_ => run_indexE hA60 (sz := 4) rfl Try.underlying35 kr (kv (.slice A4 l3.fates.length c5)) (kv (.int .i64 l3.count)) c54 c43 _) fun X62 => ?_
 refine gQ 9 rfl kr kr kr kr kr hnp X62 (fun hl_ hS_ => run_loadN (n := 4) rfl Try.underlying78 rfl kr (kv (pV b58 (of59 + (l3.count : Int).toNat * 4))) (cs := [.bool ((rd l3.fates l3.count).Lost), .int .i64 ((rd l3.fates l3.count).Delay), .int .i64 ((rd l3.fates l3.count).Twice), .slice A61 ((rd l3.fates l3.count).Bits).length c61]) rfl (fun j_ hj_ => ((hc57 hl_ hS_) j_ hj_))) fun X63 => ?_
 refine takeGE 10 kr rfl kr (does_storeA (vs := [.bool ((rd l3.fates l3.count).Lost), .int .i64 ((rd l3.fates l3.count).Delay), .int .i64 ((rd l3.fates l3.count).Twice), .slice A61 ((rd l3.fates l3.count).Bits).length c61]) rfl kr kr kr rfl (ones rfl) HS49 kr ?_)
 intro W64 HS65
 refine kB (Sg.g1 (Sx.of [[(b25, .cells #[.bool ((rd l3.fates l3.count).Lost), .int .i64 ((rd l3.fates l3.count).Delay), .int .i64 ((rd l3.fates l3.count).Twice), .slice A61 ((rd l3.fates l3.count).Bits).length c61] 78 (0, 0))]] fL HS65) (fun hl_ => Bool.noConfusion (show true = false from hl_))) fun X66 => ?_
 refine doneG kr ?_ _
 refine fnRwI (F := K31) 19 (x := true) (v := (decide (l3.count < (l3.fates.length : Int)))) kr (Eq.symm (decide_eq_true c43)) ?_
 exact J80 f A61 c61 ((rd l3.fates l3.count).Lost) ((rd l3.fates l3.count).Delay) ((rd l3.fates l3.count).Twice) ((rd l3.fates l3.count).Bits) (jL [pV b1 0, pV b1 0, pV b1 0, .slice A4 l3.fates.length c5, pV b1 0, pV b1 0, pV b1 2, iV l3.count, pV b58 (of59 + (l3.count : Int).toNat * 4), (ag_Fate (rd l3.fates l3.count) A61 c61)]) W64 _ fL h HS65 HR61 kr

set_option maxRecDepth 100000 in
set_option maxHeartbeats 4000000 in
theorem link_controller_hear.calls (k : Nat) (b1 : Nat) (A6 : Option Addr) (c7 : Nat) (b3 : Nat) (A10 : Option Addr) (c11 : Nat) (A13 : Option Addr) (c14 : Nat) (s15 : Seg) (A18 : Option Addr) (c19 : Nat) (s20 : Seg) (A24 : Option Addr) (c25 : Nat) (c5 : S_controller) (v9 : S_Log) (p23 : S_Packet) (vt27 : Int) {t w : World} {f : FM} {H : List Seg} (HS : St t w f ([(b1, .cells #[.slice A6 c5.l.length c7, .int .i64 c5.now, .int .i64 c5.first, pV b3 0] 84 (0, 0))] :: [(b3, .cells #[.slice A10 v9.Execs.length c11, .slice A13 v9.Reports.length c14, .slice A18 v9.At.length c19, .int .i64 v9.Sent, .int .i64 v9.Heard] 40 (0, 0))] :: s15 :: s20 :: H)) (HR8 : SlR ty_Cmd f A6 c7 c5.l) (HR12 : SlR ty_Exec f A10 c11 v9.Execs) (HO16 : Own (tInt .i64) 3 f A13 c14 s15 v9.Reports) (HO21 : Own (tInt .i64) 3 f A18 c19 s20 v9.At) (HR26 : SlR (tInt .u8) f A24 c25 p23.Data) (rr1 : Int) (rr2 : List Int) (rr3 : List Int) (h : link_controller_hear k c5 v9 p23 vt27 = some (rr1, rr2, rr3)) :
    Calls Try.prog 25 #[pV b1 0, .agg #[.int .i64 p23.Addr, .int .i64 p23.Kind, .int .i64 p23.Seq, .slice A24 p23.Data.length c25], .int .i64 vt27] w (fun e w' => ∃ (g : FM) (A252 : Option Addr) (c253 : Nat) (s254 : Seg) (A255 : Option Addr) (c256 : Nat) (s257 : Seg), e = .returned (Value.tuple #[]) ∧ FM.le f g ∧ St t w' g (s254 :: s257 :: [(b1, .cells #[.slice A6 c5.l.length c7, .int .i64 rr1, .int .i64 c5.first, pV b3 0] 84 (0, 0))] :: [(b3, .cells #[.slice A10 v9.Execs.length c11, .slice A252 rr2.length c253, .slice A255 rr3.length c256, .int .i64 v9.Sent, .int .i64 v9.Heard] 40 (0, 0))] :: H) ∧ Own (tInt .i64) 3 g A252 c253 s254 rr2 ∧ Own (tInt .i64) 3 g A255 c256 s257 rr3) := by
 unfold link_controller_hear at h
 refine enter Try.func25 rfl (tm := ⟨[pV b1 0, (ag_Packet p23 A24 c25), iV vt27] ++ (un 89 [])⟩) kr ?_
 intro B hret hnor hnp
 refine wp_seq_k fun K28 hK29 => rl ?_
 refine seqK rfl (does_box (cs := #[.int .i64 p23.Addr, .int .i64 p23.Kind, .int .i64 p23.Seq, .slice A24 p23.Data.length c25]) rfl (kv (.agg #[.int .i64 p23.Addr, .int .i64 p23.Kind, .int .i64 p23.Seq, .slice A24 p23.Data.length c25])) rfl HS ?_)
 intro b30 W31 HS32
 refine nl (hK29 _ _ ?_)
 refine wp_seq_k (fun K34 hK35 => ?_)
 refine wp_seq_k (fun K36 hK37 => ?_)
 replace h := bind_some h; obtain ⟨v38, hv78, h⟩ := h
 have J79 : ∀ (f72 : FM) (x77 : Bool) (j76 : Nat → Value) (W74 : World) (a_ : Act), FM.le f f72 → some (x77) = some v38 → St t W74 f72 ([(b30, .cells #[.int .i64 p23.Addr, .int .i64 p23.Kind, .int .i64 p23.Seq, .slice A24 p23.Data.length c25] 93 (0, 0))] :: [(b1, .cells #[.slice A6 c5.l.length c7, .int .i64 c5.now, .int .i64 c5.first, pV b3 0] 84 (0, 0))] :: [(b3, .cells #[.slice A10 v9.Execs.length c11, .slice A13 v9.Reports.length c14, .slice A18 v9.At.length c19, .int .i64 v9.Sent, .int .i64 v9.Heard] 40 (0, 0))] :: s15 :: s20 :: H) → a_ = ⟨⟨[pV b1 0, (ag_Packet p23 A24 c25), iV vt27, uV, pV b30 0, uV] ++ (jr j76 0 35 ([.bool x77] ++ (un 50 [])))⟩, []⟩ → K36 a_ W74 := by
  intro f72 x77 j76 W74 a_ L73 hj80 HS75  hfr_; subst hfr_
  injection hj80 with hj80; subst hj80; try dsimp only at h
  refine hK37 _ _ ?_
  replace h := ite_some h; rcases h with ⟨c82, h⟩ | ⟨c82, h⟩
  · have c82 : x77 = true := c82
    refine wpRwI 41 kr c82 ?_
    refine condT kr ?_
    refine wp_ret ?_
    refine hret _ _ ?_
    refine ends_still (v := Value.tuple #[]) kr kr ?_
    have HS232 := HS75.u2.u2.u4.u4.u4
    have HS233 := HS232.drop
    injection h with h
    injection h with h0_ h
    injection h with h1_ h
    subst h0_ h1_ h
    exact ⟨f72, A13, c14, s15, A18, c19, s20, rfl, L73, HS233, (HO16.mono L73), (HO21.mono L73)⟩
  have c82 : ¬ (x77 = true) := c82
  refine wpRwI 41 kr (Bool.eq_false_iff.mpr c82) ?_
  refine condF kr ?_
  refine wp_skip ?_
  refine hK35 _ _ ?_
  refine wp_seq_k (fun K83 hK84 => ?_)
  refine wp_seq_k fun K85 hK86 => rl ?_
  refine seqL1 kr ?_
  refine seqK rfl (does_run (run_load rfl Try.underlying3 rfl (kv (pV b30 1)) (HS75.cell 1)) ?_)
  refine nl (hK86 _ _ ?_)
  refine blockK (fun B87 hx88 hn89 hr90 ho91 hp92 => ?_)
  refine wp_seq_k fun K94 hK95 => rl ?_
  refine seqL2 kr ?_
  refine nl (hK95 _ _ ?_)
  replace h := ite_some h; rcases h with ⟨c97, h⟩ | ⟨c97, h⟩
  · have c97 : p23.Kind = 3 := c97
    refine wpRwI 44 kr (beq_iff_eq.mpr c97) ?_
    refine wpRwI 45 kr (beq_iff_eq.mpr c97) ?_
    refine condT kr ?_
    have HS102 := HS75.u4.u2.u2.u4.u4
    refine heldG (S := Sg t f72 ([(b30, .cells #[.int .i64 p23.Addr, .int .i64 p23.Kind, .int .i64 p23.Seq, .slice A24 p23.Data.length c25] 93 (0, 0))] :: [(b1, .cells #[.slice A6 c5.l.length c7, .int .i64 c5.now, .int .i64 c5.first, pV b3 0] 84 (0, 0))] :: s20 :: H) [(12, [(b3, .cells #[.slice A10 v9.Execs.length c11, .slice A13 v9.Reports.length c14, .slice A18 v9.At.length c19, .int .i64 v9.Sent, .int .i64 v9.Heard] 40 (0, 0))]), (12, s15)]) (n := 13) kr rfl HS102 ?_
    intro W103 HS104
    refine gL [0, 1, 2] (fuel := 10) (bA 13 7) rfl kr kr kr (fun ch_ a_ w_ q_ => hnp ch_ a_ w_ (hp92 ch_ a_ w_ q_)) (Sg.g2 (Sx.of [[(b3, .cells #[.slice A10 v9.Execs.length c11, .slice A13 v9.Reports.length c14, .slice A18 v9.At.length c19, .int .i64 v9.Sent, .int .i64 v9.Heard] 40 (0, 0))], s15] fL HS104) (fun _ => St.only [] HS104 fL) (fun _ => St.only [[(b3, .cells #[.slice A10 v9.Execs.length c11, .slice A13 v9.Reports.length c14, .slice A18 v9.At.length c19, .int .i64 v9.Sent, .int .i64 v9.Heard] 40 (0, 0))]] HS104 fL)) fun X105 => ?_
    refine gQ 3 rfl kr kr kr kr kr (fun ch_ a_ w_ q_ => hnp ch_ a_ w_ (hp92 ch_ a_ w_ q_)) X105 (fun hl_ hS_ => run_load rfl Try.underlying82 rfl (kv (pV b1 3)) (hS_.u1.cell 3)) fun X106 => ?_
    refine gL [4, 5] (fuel := 7) (bA 13 63) rfl kr kr kr (fun ch_ a_ w_ q_ => hnp ch_ a_ w_ (hp92 ch_ a_ w_ q_)) X106 fun X107 => ?_
    refine gQs 6 12 rfl kr kr kr kr kr (.head _) kr (fun ch_ a_ w_ q_ => hnp ch_ a_ w_ (hp92 ch_ a_ w_ q_)) X107 (fun hl_ hS_ => run_load rfl Try.underlying22 rfl (kv (pV b3 1)) (hS_.cell 1)) fun X108 => ?_
    refine gL [7, 8, 9] (fuel := 3) (bA 13 1023) rfl kr kr kr (fun ch_ a_ w_ q_ => hnp ch_ a_ w_ (hp92 ch_ a_ w_ q_)) X108 fun X109 => ?_
    refine gQ 10 rfl kr kr kr kr kr (fun ch_ a_ w_ q_ => hnp ch_ a_ w_ (hp92 ch_ a_ w_ q_)) X109 (fun hl_ hS_ => run_load rfl Try.underlying3 rfl (kv (pV b1 1)) (hS_.u1.cell 1)) fun X110 => ?_
    replace h := guard_some h; obtain ⟨c111, h⟩ := h
    have c111 : 0 ≤ c5.now := c111
    replace h := guard_some h; obtain ⟨c112, h⟩ := h
    have c112 : c5.now < (v9.Reports.length : Int) := c112
    obtain ⟨b116, of117, cs113, hA118, hr114, hc115⟩ := (HO16.mono L73).at (i := c5.now) c111 c112
    obtain rfl := hr114
    refine gQ 11 rfl kr kr kr kr kr (fun ch_ a_ w_ q_ => hnp ch_ a_ w_ (hp92 ch_ a_ w_ q_)) X110 (fun hl_ hS_ => run_indexE hA118 (sz := 1) rfl Try.underlying22 kr (kv (.slice A13 v9.Reports.length c14)) (kv (.int .i64 c5.now)) c111 c112 _) fun X119 => ?_
    have HS120 := HS104.u1
    refine takeGE 12 kr rfl kr (does_put (e := (tInt .i64)) (E := 3) (vs := [.int .i64 2]) (u := 2) (i := c5.now) rfl kr (HO16.mono L73) HS120 hA118 (kv (pV b116 (of117 + (c5.now : Int).toNat * 1))) (kv (.int .i64 2)) rfl rfl c111 c112 ?_)
    intro W121 s122 HS123 HO124
    have HS125 : St t W121 f72 (s122 :: [(b3, .cells #[.slice A10 v9.Execs.length c11, .slice A13 (v9.Reports.set (c5.now).toNat 2).length c14, .slice A18 v9.At.length c19, .int .i64 v9.Sent, .int .i64 v9.Heard] 40 (0, 0))] :: [(b30, .cells #[.int .i64 p23.Addr, .int .i64 p23.Kind, .int .i64 p23.Seq, .slice A24 p23.Data.length c25] 93 (0, 0))] :: [(b1, .cells #[.slice A6 c5.l.length c7, .int .i64 c5.now, .int .i64 c5.first, pV b3 0] 84 (0, 0))] :: s20 :: H) := by rw [show (v9.Reports.set (c5.now).toNat 2).length = v9.Reports.length from List.length_set]; exact HS123
    refine kB (Sg.g2 (Sx.of [s122, [(b3, .cells #[.slice A10 v9.Execs.length c11, .slice A13 (v9.Reports.set (c5.now).toNat 2).length c14, .slice A18 v9.At.length c19, .int .i64 v9.Sent, .int .i64 v9.Heard] 40 (0, 0))]] fL HS125) (fun hl_ => Bool.noConfusion (show true = false from hl_)) (fun hl_ => Bool.noConfusion (show true = false from hl_))) fun X126 => ?_
    refine gateRwS 52 (A := A13) (m := v9.Reports.length) (n := (v9.Reports.set (c5.now).toNat 2).length) (c := c14) kr (List.length_set).symm ?_
    refine doneG kr ?_ _
    refine hn89 _ _ ?_
    refine hK84 _ _ ?_
    refine wp_seq_k (fun K160 hK161 => ?_)
    have HS166 := HS125.u3.u3.u2.u4.u4
    refine heldG (S := Sg t f72 (s122 :: [(b30, .cells #[.int .i64 p23.Addr, .int .i64 p23.Kind, .int .i64 p23.Seq, .slice A24 p23.Data.length c25] 93 (0, 0))] :: [(b1, .cells #[.slice A6 c5.l.length c7, .int .i64 c5.now, .int .i64 c5.first, pV b3 0] 84 (0, 0))] :: H) [(13, [(b3, .cells #[.slice A10 v9.Execs.length c11, .slice A13 (v9.Reports.set (c5.now).toNat 2).length c14, .slice A18 v9.At.length c19, .int .i64 v9.Sent, .int .i64 v9.Heard] 40 (0, 0))]), (13, s20)]) (n := 14) kr rfl HS166 ?_
    intro W167 HS168
    refine gL [0, 1, 2] (fuel := 11) (bA 14 7) rfl kr kr kr hnp (Sg.g2 (Sx.of [[(b3, .cells #[.slice A10 v9.Execs.length c11, .slice A13 (v9.Reports.set (c5.now).toNat 2).length c14, .slice A18 v9.At.length c19, .int .i64 v9.Sent, .int .i64 v9.Heard] 40 (0, 0))], s20] fL HS168) (fun _ => St.only [] HS168 fL) (fun _ => St.only [[(b3, .cells #[.slice A10 v9.Execs.length c11, .slice A13 (v9.Reports.set (c5.now).toNat 2).length c14, .slice A18 v9.At.length c19, .int .i64 v9.Sent, .int .i64 v9.Heard] 40 (0, 0))]] HS168 fL)) fun X169 => ?_
    refine gQ 3 rfl kr kr kr kr kr hnp X169 (fun hl_ hS_ => run_load rfl Try.underlying82 rfl (kv (pV b1 3)) (hS_.u2.cell 3)) fun X170 => ?_
    refine gL [4, 5] (fuel := 8) (bA 14 63) rfl kr kr kr hnp X170 fun X171 => ?_
    refine gQs 6 13 rfl kr kr kr kr kr (.head _) kr hnp X171 (fun hl_ hS_ => run_load rfl Try.underlying22 rfl (kv (pV b3 2)) (hS_.cell 2)) fun X172 => ?_
    refine gL [7, 8, 9] (fuel := 4) (bA 14 1023) rfl kr kr kr hnp X172 fun X173 => ?_
    refine gQ 10 rfl kr kr kr kr kr hnp X173 (fun hl_ hS_ => run_load rfl Try.underlying3 rfl (kv (pV b1 1)) (hS_.u2.cell 1)) fun X174 => ?_
    replace h := guard_some h; obtain ⟨c175, h⟩ := h
    have c175 : c5.now < (v9.At.length : Int) := c175
    obtain ⟨b179, of180, cs176, hA181, hr177, hc178⟩ := (HO21.mono L73).at (i := c5.now) c111 c175
    obtain rfl := hr177
    refine gL [11] (fuel := 2) (bA 14 4095) rfl kr kr kr hnp X174 fun X182 => ?_
    refine gQ 12 rfl kr kr kr kr kr hnp X182 (fun hl_ hS_ => run_indexE hA181 (sz := 1) rfl Try.underlying22 kr (kv (.slice A18 v9.At.length c19)) (kv (.int .i64 c5.now)) c111 c175 _) fun X183 => ?_
    have HS184 := HS168.u1
    refine takeGE 13 kr rfl kr (does_put (e := (tInt .i64)) (E := 3) (vs := [.int .i64 vt27]) (u := vt27) (i := c5.now) rfl kr (HO21.mono L73) HS184 hA181 (kv (pV b179 (of180 + (c5.now : Int).toNat * 1))) (kv (.int .i64 vt27)) rfl rfl c111 c175 ?_)
    intro W185 s186 HS187 HO188
    have HS189 : St t W185 f72 (s186 :: [(b3, .cells #[.slice A10 v9.Execs.length c11, .slice A13 (v9.Reports.set (c5.now).toNat 2).length c14, .slice A18 (v9.At.set (c5.now).toNat vt27).length c19, .int .i64 v9.Sent, .int .i64 v9.Heard] 40 (0, 0))] :: s122 :: [(b30, .cells #[.int .i64 p23.Addr, .int .i64 p23.Kind, .int .i64 p23.Seq, .slice A24 p23.Data.length c25] 93 (0, 0))] :: [(b1, .cells #[.slice A6 c5.l.length c7, .int .i64 c5.now, .int .i64 c5.first, pV b3 0] 84 (0, 0))] :: H) := by rw [show (v9.At.set (c5.now).toNat vt27).length = v9.At.length from List.length_set]; exact HS187
    refine kB (Sg.g2 (Sx.of [s186, [(b3, .cells #[.slice A10 v9.Execs.length c11, .slice A13 (v9.Reports.set (c5.now).toNat 2).length c14, .slice A18 (v9.At.set (c5.now).toNat vt27).length c19, .int .i64 v9.Sent, .int .i64 v9.Heard] 40 (0, 0))]] fL HS189) (fun hl_ => Bool.noConfusion (show true = false from hl_)) (fun hl_ => Bool.noConfusion (show true = false from hl_))) fun X190 => ?_
    refine gateRwS 78 (A := A18) (m := v9.At.length) (n := (v9.At.set (c5.now).toNat vt27).length) (c := c19) kr (List.length_set).symm ?_
    refine doneG kr ?_ _
    refine hK161 _ _ ?_
    refine rl ?_
    refine seqL3 kr ?_
    refine seqK rfl (does_run (run_load rfl Try.underlying3 rfl (kv (pV b1 1)) (HS189.u4.cell 1)) ?_)
    have HS191 := HS189.u4
    refine seqL3 kr ?_
    refine seqK rfl (does_store (n := 1) (vs := [.int .i64 (w64 (c5.now + 1))]) (cs' := #[.slice A6 c5.l.length c7, .int .i64 (w64 (c5.now + 1)), .int .i64 c5.first, pV b3 0]) rfl kr (kv (pV b1 1)) (kv (.int .i64 (w64 (c5.now + 1)))) rfl rfl (ones rfl) HS191 (Nat.le_of_ble_eq_true rfl) kr ?_)
    intro W192 HS193
    refine nl ?_
    refine hnor _ _ ?_
    refine ends_still (v := Value.tuple #[]) kr kr ?_
    have HS244 := HS193.u2.u1.u2.u3.u4
    have HS245 := HS244.drop
    injection h with h
    injection h with h0_ h
    injection h with h1_ h
    subst h0_ h1_ h
    exact ⟨f72, A13, c14, s122, A18, c19, s186, rfl, L73, HS245, HO124, HO188⟩
  have c97 : ¬ (p23.Kind = 3) := c97
  refine wpRwI 44 kr (beq_eq_false_iff_ne.mpr c97) ?_
  refine wpRwI 45 kr (beq_eq_false_iff_ne.mpr c97) ?_
  refine condF kr ?_
  refine wp_seq_k fun K127 hK128 => rl ?_
  refine seqL2 kr ?_
  refine nl (hK128 _ _ ?_)
  replace h := ite_some h; rcases h with ⟨c130, h⟩ | ⟨c130, h⟩
  rotate_left
  · have c130 : ¬ (p23.Kind = 4) := c130
    refine wpRwI 58 kr (beq_eq_false_iff_ne.mpr c130) ?_
    refine wpRwI 59 kr (beq_eq_false_iff_ne.mpr c130) ?_
    refine condF kr ?_
    refine wp_ret ?_
    refine hr90 _ _ ?_
    refine hret _ _ ?_
    refine ends_still (v := Value.tuple #[]) kr kr ?_
    have HS238 := HS75.u2.u2.u4.u4.u4
    have HS239 := HS238.drop
    injection h with h
    injection h with h0_ h
    injection h with h1_ h
    subst h0_ h1_ h
    exact ⟨f72, A13, c14, s15, A18, c19, s20, rfl, L73, HS239, (HO16.mono L73), (HO21.mono L73)⟩
  have c130 : p23.Kind = 4 := c130
  refine wpRwI 58 kr (beq_iff_eq.mpr c130) ?_
  refine wpRwI 59 kr (beq_iff_eq.mpr c130) ?_
  refine condT kr ?_
  have HS135 := HS75.u4.u2.u2.u4.u4
  refine heldG (S := Sg t f72 ([(b30, .cells #[.int .i64 p23.Addr, .int .i64 p23.Kind, .int .i64 p23.Seq, .slice A24 p23.Data.length c25] 93 (0, 0))] :: [(b1, .cells #[.slice A6 c5.l.length c7, .int .i64 c5.now, .int .i64 c5.first, pV b3 0] 84 (0, 0))] :: s20 :: H) [(12, [(b3, .cells #[.slice A10 v9.Execs.length c11, .slice A13 v9.Reports.length c14, .slice A18 v9.At.length c19, .int .i64 v9.Sent, .int .i64 v9.Heard] 40 (0, 0))]), (12, s15)]) (n := 13) kr rfl HS135 ?_
  intro W136 HS137
  refine gL [0, 1, 2] (fuel := 10) (bA 13 7) rfl kr kr kr (fun ch_ a_ w_ q_ => hnp ch_ a_ w_ (hp92 ch_ a_ w_ q_)) (Sg.g2 (Sx.of [[(b3, .cells #[.slice A10 v9.Execs.length c11, .slice A13 v9.Reports.length c14, .slice A18 v9.At.length c19, .int .i64 v9.Sent, .int .i64 v9.Heard] 40 (0, 0))], s15] fL HS137) (fun _ => St.only [] HS137 fL) (fun _ => St.only [[(b3, .cells #[.slice A10 v9.Execs.length c11, .slice A13 v9.Reports.length c14, .slice A18 v9.At.length c19, .int .i64 v9.Sent, .int .i64 v9.Heard] 40 (0, 0))]] HS137 fL)) fun X138 => ?_
  refine gQ 3 rfl kr kr kr kr kr (fun ch_ a_ w_ q_ => hnp ch_ a_ w_ (hp92 ch_ a_ w_ q_)) X138 (fun hl_ hS_ => run_load rfl Try.underlying82 rfl (kv (pV b1 3)) (hS_.u1.cell 3)) fun X139 => ?_
  refine gL [4, 5] (fuel := 7) (bA 13 63) rfl kr kr kr (fun ch_ a_ w_ q_ => hnp ch_ a_ w_ (hp92 ch_ a_ w_ q_)) X139 fun X140 => ?_
  refine gQs 6 12 rfl kr kr kr kr kr (.head _) kr (fun ch_ a_ w_ q_ => hnp ch_ a_ w_ (hp92 ch_ a_ w_ q_)) X140 (fun hl_ hS_ => run_load rfl Try.underlying22 rfl (kv (pV b3 1)) (hS_.cell 1)) fun X141 => ?_
  refine gL [7, 8, 9] (fuel := 3) (bA 13 1023) rfl kr kr kr (fun ch_ a_ w_ q_ => hnp ch_ a_ w_ (hp92 ch_ a_ w_ q_)) X141 fun X142 => ?_
  refine gQ 10 rfl kr kr kr kr kr (fun ch_ a_ w_ q_ => hnp ch_ a_ w_ (hp92 ch_ a_ w_ q_)) X142 (fun hl_ hS_ => run_load rfl Try.underlying3 rfl (kv (pV b1 1)) (hS_.u1.cell 1)) fun X143 => ?_
  replace h := guard_some h; obtain ⟨c144, h⟩ := h
  have c144 : 0 ≤ c5.now := c144
  replace h := guard_some h; obtain ⟨c145, h⟩ := h
  have c145 : c5.now < (v9.Reports.length : Int) := c145
  obtain ⟨b149, of150, cs146, hA151, hr147, hc148⟩ := (HO16.mono L73).at (i := c5.now) c144 c145
  obtain rfl := hr147
  refine gQ 11 rfl kr kr kr kr kr (fun ch_ a_ w_ q_ => hnp ch_ a_ w_ (hp92 ch_ a_ w_ q_)) X143 (fun hl_ hS_ => run_indexE hA151 (sz := 1) rfl Try.underlying22 kr (kv (.slice A13 v9.Reports.length c14)) (kv (.int .i64 c5.now)) c144 c145 _) fun X152 => ?_
  have HS153 := HS137.u1
  refine takeGE 12 kr rfl kr (does_put (e := (tInt .i64)) (E := 3) (vs := [.int .i64 3]) (u := 3) (i := c5.now) rfl kr (HO16.mono L73) HS153 hA151 (kv (pV b149 (of150 + (c5.now : Int).toNat * 1))) (kv (.int .i64 3)) rfl rfl c144 c145 ?_)
  intro W154 s155 HS156 HO157
  have HS158 : St t W154 f72 (s155 :: [(b3, .cells #[.slice A10 v9.Execs.length c11, .slice A13 (v9.Reports.set (c5.now).toNat 3).length c14, .slice A18 v9.At.length c19, .int .i64 v9.Sent, .int .i64 v9.Heard] 40 (0, 0))] :: [(b30, .cells #[.int .i64 p23.Addr, .int .i64 p23.Kind, .int .i64 p23.Seq, .slice A24 p23.Data.length c25] 93 (0, 0))] :: [(b1, .cells #[.slice A6 c5.l.length c7, .int .i64 c5.now, .int .i64 c5.first, pV b3 0] 84 (0, 0))] :: s20 :: H) := by rw [show (v9.Reports.set (c5.now).toNat 3).length = v9.Reports.length from List.length_set]; exact HS156
  refine kB (Sg.g2 (Sx.of [s155, [(b3, .cells #[.slice A10 v9.Execs.length c11, .slice A13 (v9.Reports.set (c5.now).toNat 3).length c14, .slice A18 v9.At.length c19, .int .i64 v9.Sent, .int .i64 v9.Heard] 40 (0, 0))]] fL HS158) (fun hl_ => Bool.noConfusion (show true = false from hl_)) (fun hl_ => Bool.noConfusion (show true = false from hl_))) fun X159 => ?_
  refine gateRwS 66 (A := A13) (m := v9.Reports.length) (n := (v9.Reports.set (c5.now).toNat 3).length) (c := c14) kr (List.length_set).symm ?_
  refine doneG kr ?_ _
  refine hn89 _ _ ?_
  refine hK84 _ _ ?_
  refine wp_seq_k (fun K194 hK195 => ?_)
  have HS200 := HS158.u3.u3.u2.u4.u4
  refine heldG (S := Sg t f72 (s155 :: [(b30, .cells #[.int .i64 p23.Addr, .int .i64 p23.Kind, .int .i64 p23.Seq, .slice A24 p23.Data.length c25] 93 (0, 0))] :: [(b1, .cells #[.slice A6 c5.l.length c7, .int .i64 c5.now, .int .i64 c5.first, pV b3 0] 84 (0, 0))] :: H) [(13, [(b3, .cells #[.slice A10 v9.Execs.length c11, .slice A13 (v9.Reports.set (c5.now).toNat 3).length c14, .slice A18 v9.At.length c19, .int .i64 v9.Sent, .int .i64 v9.Heard] 40 (0, 0))]), (13, s20)]) (n := 14) kr rfl HS200 ?_
  intro W201 HS202
  refine gL [0, 1, 2] (fuel := 11) (bA 14 7) rfl kr kr kr hnp (Sg.g2 (Sx.of [[(b3, .cells #[.slice A10 v9.Execs.length c11, .slice A13 (v9.Reports.set (c5.now).toNat 3).length c14, .slice A18 v9.At.length c19, .int .i64 v9.Sent, .int .i64 v9.Heard] 40 (0, 0))], s20] fL HS202) (fun _ => St.only [] HS202 fL) (fun _ => St.only [[(b3, .cells #[.slice A10 v9.Execs.length c11, .slice A13 (v9.Reports.set (c5.now).toNat 3).length c14, .slice A18 v9.At.length c19, .int .i64 v9.Sent, .int .i64 v9.Heard] 40 (0, 0))]] HS202 fL)) fun X203 => ?_
  refine gQ 3 rfl kr kr kr kr kr hnp X203 (fun hl_ hS_ => run_load rfl Try.underlying82 rfl (kv (pV b1 3)) (hS_.u2.cell 3)) fun X204 => ?_
  refine gL [4, 5] (fuel := 8) (bA 14 63) rfl kr kr kr hnp X204 fun X205 => ?_
  refine gQs 6 13 rfl kr kr kr kr kr (.head _) kr hnp X205 (fun hl_ hS_ => run_load rfl Try.underlying22 rfl (kv (pV b3 2)) (hS_.cell 2)) fun X206 => ?_
  refine gL [7, 8, 9] (fuel := 4) (bA 14 1023) rfl kr kr kr hnp X206 fun X207 => ?_
  refine gQ 10 rfl kr kr kr kr kr hnp X207 (fun hl_ hS_ => run_load rfl Try.underlying3 rfl (kv (pV b1 1)) (hS_.u2.cell 1)) fun X208 => ?_
  replace h := guard_some h; obtain ⟨c209, h⟩ := h
  have c209 : c5.now < (v9.At.length : Int) := c209
  obtain ⟨b213, of214, cs210, hA215, hr211, hc212⟩ := (HO21.mono L73).at (i := c5.now) c144 c209
  obtain rfl := hr211
  refine gL [11] (fuel := 2) (bA 14 4095) rfl kr kr kr hnp X208 fun X216 => ?_
  refine gQ 12 rfl kr kr kr kr kr hnp X216 (fun hl_ hS_ => run_indexE hA215 (sz := 1) rfl Try.underlying22 kr (kv (.slice A18 v9.At.length c19)) (kv (.int .i64 c5.now)) c144 c209 _) fun X217 => ?_
  have HS218 := HS202.u1
  refine takeGE 13 kr rfl kr (does_put (e := (tInt .i64)) (E := 3) (vs := [.int .i64 vt27]) (u := vt27) (i := c5.now) rfl kr (HO21.mono L73) HS218 hA215 (kv (pV b213 (of214 + (c5.now : Int).toNat * 1))) (kv (.int .i64 vt27)) rfl rfl c144 c209 ?_)
  intro W219 s220 HS221 HO222
  have HS223 : St t W219 f72 (s220 :: [(b3, .cells #[.slice A10 v9.Execs.length c11, .slice A13 (v9.Reports.set (c5.now).toNat 3).length c14, .slice A18 (v9.At.set (c5.now).toNat vt27).length c19, .int .i64 v9.Sent, .int .i64 v9.Heard] 40 (0, 0))] :: s155 :: [(b30, .cells #[.int .i64 p23.Addr, .int .i64 p23.Kind, .int .i64 p23.Seq, .slice A24 p23.Data.length c25] 93 (0, 0))] :: [(b1, .cells #[.slice A6 c5.l.length c7, .int .i64 c5.now, .int .i64 c5.first, pV b3 0] 84 (0, 0))] :: H) := by rw [show (v9.At.set (c5.now).toNat vt27).length = v9.At.length from List.length_set]; exact HS221
  refine kB (Sg.g2 (Sx.of [s220, [(b3, .cells #[.slice A10 v9.Execs.length c11, .slice A13 (v9.Reports.set (c5.now).toNat 3).length c14, .slice A18 (v9.At.set (c5.now).toNat vt27).length c19, .int .i64 v9.Sent, .int .i64 v9.Heard] 40 (0, 0))]] fL HS223) (fun hl_ => Bool.noConfusion (show true = false from hl_)) (fun hl_ => Bool.noConfusion (show true = false from hl_))) fun X224 => ?_
  refine gateRwS 78 (A := A18) (m := v9.At.length) (n := (v9.At.set (c5.now).toNat vt27).length) (c := c19) kr (List.length_set).symm ?_
  refine doneG kr ?_ _
  refine hK195 _ _ ?_
  refine rl ?_
  refine seqL3 kr ?_
  refine seqK rfl (does_run (run_load rfl Try.underlying3 rfl (kv (pV b1 1)) (HS223.u4.cell 1)) ?_)
  have HS225 := HS223.u4
  refine seqL3 kr ?_
  refine seqK rfl (does_store (n := 1) (vs := [.int .i64 (w64 (c5.now + 1))]) (cs' := #[.slice A6 c5.l.length c7, .int .i64 (w64 (c5.now + 1)), .int .i64 c5.first, pV b3 0]) rfl kr (kv (pV b1 1)) (kv (.int .i64 (w64 (c5.now + 1)))) rfl rfl (ones rfl) HS225 (Nat.le_of_ble_eq_true rfl) kr ?_)
  intro W226 HS227
  refine nl ?_
  refine hnor _ _ ?_
  refine ends_still (v := Value.tuple #[]) kr kr ?_
  have HS250 := HS227.u2.u1.u2.u3.u4
  have HS251 := HS250.drop
  injection h with h
  injection h with h0_ h
  injection h with h1_ h
  subst h0_ h1_ h
  exact ⟨f72, A13, c14, s155, A18, c19, s220, rfl, L73, HS251, HO157, HO222⟩
 clear h; have h := hv78; clear hv78
 refine heldG (S := Sg t f ([(b30, .cells #[.int .i64 p23.Addr, .int .i64 p23.Kind, .int .i64 p23.Seq, .slice A24 p23.Data.length c25] 93 (0, 0))] :: [(b1, .cells #[.slice A6 c5.l.length c7, .int .i64 c5.now, .int .i64 c5.first, pV b3 0] 84 (0, 0))] :: [(b3, .cells #[.slice A10 v9.Execs.length c11, .slice A13 v9.Reports.length c14, .slice A18 v9.At.length c19, .int .i64 v9.Sent, .int .i64 v9.Heard] 40 (0, 0))] :: s15 :: s20 :: H) []) (n := 36) kr rfl HS32 ?_
 intro W39 HS40
 refine gL [0, 1, 2] (fuel := 33) (bA 36 7) rfl kr kr kr hnp (Sg.g0 (Sx.of [] fL HS40)) fun X41 => ?_
 refine gQ 3 rfl kr kr kr kr kr hnp X41 (fun hl_ hS_ => run_load rfl Try.underlying3 rfl (kv (pV b1 1)) (hS_.u1.cell 1)) fun X42 => ?_
 refine gL [4, 5, 6] (fuel := 29) (bA 36 127) rfl kr kr kr hnp X42 fun X43 => ?_
 refine gQ 7 rfl kr kr kr kr kr hnp X43 (fun hl_ hS_ => run_load rfl Try.underlying33 rfl (kv (pV b1 0)) (hS_.u1.cell 0)) fun X44 => ?_
 refine gL [8, 9, 10] (fuel := 25) (bA 36 2047) rfl kr kr kr hnp X44 fun X45 => ?_
 replace h := ite_some h; rcases h with ⟨c46, h⟩ | ⟨c46, h⟩
 · have c46 : c5.now ≥ (c5.l.length : Int) := c46
   refine gateRwI 15 (x := (decide (c5.now ≥ (c5.l.length : Int)))) (v := true) kr (decide_eq_true c46) ?_
   refine gateRwI 16 (x := (decide (c5.now ≥ (c5.l.length : Int)))) (v := true) kr (decide_eq_true c46) ?_
   refine gL [11, 12, 13, 14, 15, 16, 17, 18, 19, 20, 21, 22, 23, 24, 25, 26, 27, 28, 29, 30, 31, 32, 33, 34, 35] (fuel := 0) (bA 36 68719476735) rfl kr kr kr hnp X45 fun X47 => ?_
   refine doneG kr ?_ _
   exact J79 f true (jL [pV b1 0, pV b1 0, pV b1 1, iV c5.now, pV b1 0, pV b1 0, pV b1 0, .slice A6 c5.l.length c7, iV (c5.l.length : Int), tV, tV, uV, uV, uV, uV, uV, uV, uV, uV, tV, tV]) W39 _ fL h HS40 kr
 have c46 : ¬ (c5.now ≥ (c5.l.length : Int)) := c46
 refine gateRwI 15 (x := (decide (c5.now ≥ (c5.l.length : Int)))) (v := false) kr (decide_eq_false c46) ?_
 refine gateRwI 16 (x := (decide (c5.now ≥ (c5.l.length : Int)))) (v := false) kr (decide_eq_false c46) ?_
 refine gL [11] (fuel := 24) (bA 36 4095) rfl kr kr kr hnp X45 fun X48 => ?_
 refine gQ 12 rfl kr kr kr kr kr hnp X48 (fun hl_ hS_ => run_load rfl Try.underlying3 rfl (kv (pV b30 2)) (hS_.cell 2)) fun X49 => ?_
 refine gL [13, 14, 15] (fuel := 20) (bA 36 65535) rfl kr kr kr hnp X49 fun X50 => ?_
 refine gQ 16 rfl kr kr kr kr kr hnp X50 (fun hl_ hS_ => run_load rfl Try.underlying3 rfl (kv (pV b1 1)) (hS_.u1.cell 1)) fun X51 => ?_
 refine gL [17, 18, 19, 20] (fuel := 15) (bA 36 2097151) rfl kr kr kr hnp X51 fun X52 => ?_
 replace h := ite_some h; rcases h with ⟨c53, h⟩ | ⟨c53, h⟩
 · have c53 : p23.Seq ≠ (w64 (c5.now + 1)) := c53
   refine gateRwI 24 (x := (p23.Seq != (w64 (c5.now + 1)))) (v := true) kr (bne_iff_ne.mpr c53) ?_
   refine gateRwI 25 (x := (p23.Seq != (w64 (c5.now + 1)))) (v := true) kr (bne_iff_ne.mpr c53) ?_
   refine gateRwI 26 (x := (p23.Seq != (w64 (c5.now + 1)))) (v := true) kr (bne_iff_ne.mpr c53) ?_
   refine gL [21, 22, 23, 24, 25, 26, 27, 28, 29, 30, 31, 32, 33, 34, 35] (fuel := 0) (bA 36 68719476735) rfl kr kr kr hnp X52 fun X54 => ?_
   refine doneG kr ?_ _
   exact J79 f true (jL [pV b1 0, pV b1 0, pV b1 1, iV c5.now, pV b1 0, pV b1 0, pV b1 0, .slice A6 c5.l.length c7, iV (c5.l.length : Int), fV, fV, pV b30 2, iV p23.Seq, pV b1 0, pV b1 0, pV b1 1, iV c5.now, iV (w64 (c5.now + 1)), tV, tV, tV]) W39 _ fL h HS40 kr
 have c53 : ¬ (p23.Seq ≠ (w64 (c5.now + 1))) := c53
 refine gateRwI 24 (x := (p23.Seq != (w64 (c5.now + 1)))) (v := false) kr (bne_eq_false_iff_eq.mpr (Decidable.of_not_not c53)) ?_
 refine gateRwI 25 (x := (p23.Seq != (w64 (c5.now + 1)))) (v := false) kr (bne_eq_false_iff_eq.mpr (Decidable.of_not_not c53)) ?_
 refine gateRwI 26 (x := (p23.Seq != (w64 (c5.now + 1)))) (v := false) kr (bne_eq_false_iff_eq.mpr (Decidable.of_not_not c53)) ?_
 refine gL [21, 22, 23] (fuel := 12) (bA 36 16777215) rfl kr kr kr hnp X52 fun X55 => ?_
 refine gQ 24 rfl kr kr kr kr kr hnp X55 (fun hl_ hS_ => run_load rfl Try.underlying82 rfl (kv (pV b1 3)) (hS_.u1.cell 3)) fun X56 => ?_
 refine gL [25, 26] (fuel := 9) (bA 36 134217727) rfl kr kr kr hnp X56 fun X57 => ?_
 refine gQ 27 rfl kr kr kr kr kr hnp X57 (fun hl_ hS_ => run_load rfl Try.underlying22 rfl (kv (pV b3 1)) (hS_.u2.cell 1)) fun X58 => ?_
 refine gL [28, 29, 30] (fuel := 5) (bA 36 2147483647) rfl kr kr kr hnp X58 fun X59 => ?_
 refine gQ 31 rfl kr kr kr kr kr hnp X59 (fun hl_ hS_ => run_load rfl Try.underlying3 rfl (kv (pV b1 1)) (hS_.u1.cell 1)) fun X60 => ?_
 replace h := guard_some h; obtain ⟨c61, h⟩ := h
 have c61 : 0 ≤ c5.now := c61
 replace h := guard_some h; obtain ⟨c62, h⟩ := h
 have c62 : c5.now < (v9.Reports.length : Int) := c62
 obtain ⟨b66, of67, cs63, hA68, hr64, hc65⟩ := HO16.at (i := c5.now) c61 c62
 obtain rfl := hr64
 refine gQ 32 rfl kr kr kr kr kr hnp X60 (fun hl_ hS_ => run_indexE hA68 (sz := 1) rfl Try.underlying22 kr (kv (.slice A13 v9.Reports.length c14)) (kv (.int .i64 c5.now)) c61 c62 _) fun X69 => ?_
 refine gQ 33 rfl kr kr kr kr kr hnp X69 (fun hl_ hS_ => run_load rfl Try.underlying3 rfl (kv (pV b66 (of67 + (c5.now : Int).toNat * 1))) ((hc65 hS_.u3) 0 (by decide))) fun X70 => ?_
 refine gL [34, 35] (fuel := 0) (bA 36 68719476735) rfl kr kr kr hnp X70 fun X71 => ?_
 refine doneG kr ?_ _
 exact J79 f ((rd v9.Reports c5.now) != 1) (jL [pV b1 0, pV b1 0, pV b1 1, iV c5.now, pV b1 0, pV b1 0, pV b1 0, .slice A6 c5.l.length c7, iV (c5.l.length : Int), fV, fV, pV b30 2, iV p23.Seq, pV b1 0, pV b1 0, pV b1 1, iV c5.now, iV (w64 (c5.now + 1)), fV, fV, fV, pV b1 0, pV b1 0, pV b1 3, pV b3 0, pV b3 0, pV b3 1, .slice A13 v9.Reports.length c14, pV b1 0, pV b1 0, pV b1 1, iV c5.now, pV b66 (of67 + (c5.now : Int).toNat * 1), iV (rd v9.Reports c5.now), .bool ((rd v9.Reports c5.now) != 1)]) W39 _ fL h HS40 kr

set_option maxRecDepth 100000 in
set_option maxHeartbeats 4000000 in
theorem link_data.calls (k : Nat)  (c1 : S_Cmd) {t w : World} {f : FM} {H : List Seg} (HS : St t w f (H)) (rr1 : List Int) (h : link_data k c1 = some rr1) :
    Calls Try.prog 44 #[.agg (cl_Cmd c1)] w (fun e w' => ∃ (g : FM) (A134 : Option Addr) (c135 : Nat) (s136 : Seg), e = .returned (Value.slice A134 rr1.length c135) ∧ FM.le f g ∧ St t w' g (s136 :: H) ∧ Own (tInt .u8) 5 g A134 c135 s136 rr1) := by
 unfold link_data at h
 refine enter Try.func44 rfl (tm := ⟨[(ag_Cmd c1)] ++ (un 29 [])⟩) kr ?_
 intro B hret hnor hnp
 refine wp_seq_k fun K2 hK3 => rl ?_
 refine seqK rfl (does_box (cs := (cl_Cmd c1)) rfl (kv (.agg (cl_Cmd c1))) rfl HS ?_)
 intro b4 W5 HS6
 refine seqL1 kr ?_
 refine nl (hK3 _ _ ?_)
 refine wp_seq_k fun K8 hK9 => rl ?_
 refine seqL1 kr ?_
 refine seqK rfl (does_run (run_load rfl Try.underlying3 rfl (kv (pV b4 0)) (HS6.cell 0)) ?_)
 refine seqL2 kr ?_
 refine seqK rfl (does_run (run_load rfl Try.underlying3 rfl (kv (pV b4 2)) (HS6.cell 2)) ?_)
 refine seqL3 kr ?_
 refine seqK rfl (does_run (run_load rfl Try.underlying3 rfl (kv (pV b4 2)) (HS6.cell 2)) ?_)
 refine seqL1 kr ?_
 refine seqK rfl (does_lit (e := (tInt .u8)) (E := 5) (vs := #[(0, Value.int .u8 (u8 (c1.Op))), (1, Value.int .u8 (u8 (shr c1.Due 8))), (2, Value.int .u8 (u8 (c1.Due)))]) (cs := #[.int .u8 (u8 (c1.Op)), .int .u8 (u8 (shr c1.Due 8)), .int .u8 (u8 (c1.Due))]) (xs := ([u8 (c1.Op), u8 (shr c1.Due 8), u8 (c1.Due)] : List Int)) rfl Try.underlying91 kr kr ⟨[.int .u8 (u8 (c1.Op))], _, rfl, rfl, ⟨[.int .u8 (u8 (shr c1.Due 8))], _, rfl, rfl, ⟨[.int .u8 (u8 (c1.Due))], _, rfl, rfl, rfl⟩⟩⟩ rfl HS6 ?_ (by decide))
 intro b10 W11 s12 HS13 _ HO14
 refine seqL1 kr ?_
 refine nl (hK9 _ _ ?_)
 refine wp_seq_k (fun K16 hK17 => ?_)
 refine wp_seq_k fun K18 hK19 => rl ?_
 refine seqL1 kr ?_
 refine nl (hK19 _ _ ?_)
 refine blockK (fun B20 hx21 hn22 hr23 ho24 hp25 => ?_)
 replace h := bind_some h; obtain ⟨o71, hv127, h⟩ := h
 have J128 : ∀ (f117 : FM) (A123 : Option Addr) (c124 : Nat) (s125 : Seg) (b122 : List Int) (j121 : Nat → Value) (W119 : World) (a_ : Act), FM.le f f117 → some (b122) = some o71 → St t W119 f117 (s125 :: [(b4, .cells (cl_Cmd c1) 76 (0, 0))] :: H) → Own (tInt .u8) 5 f117 A123 c124 s125 b122 → a_ = ⟨⟨[(ag_Cmd c1), pV b4 0, .slice none 0 0, .slice A123 b122.length c124, (j121 0), pV b4 0, iV c1.Op, .int .u8 (u8 (c1.Op)), pV b4 2, iV c1.Due, iV (shr c1.Due 8), .int .u8 (u8 (shr c1.Due 8)), pV b4 2, iV c1.Due, .int .u8 (u8 (c1.Due))] ++ (jr j121 1 14 [uV])⟩, []⟩ → K16 a_ W119 := by
  intro f117 A123 c124 s125 b122 j121 W119 a_ L118 hj129 HS120 HO126 hfr_; subst hfr_
  injection hj129 with hj129; subst hj129; try dsimp only at h
  refine hK17 _ _ ?_
  refine wp_seq_k fun K130 hK131 => rl ?_
  refine seqL2 kr ?_
  refine nl (hK131 _ _ ?_)
  refine wp_ret ?_
  refine hret _ _ ?_
  refine ends_still (v := Value.slice A123 b122.length c124) kr kr ?_
  have HS132 := HS120.u1
  have HS133 := HS132.drop
  injection h with h
  subst h
  exact ⟨f117, A123, c124, s125, rfl, L118, HS133, HO126⟩
 clear h; have h := hv127; clear hv127
 refine loopK (fun n_ a_ w_ => ∃ (f75 : FM) (A81 : Option Addr) (c82 : Nat) (s83 : Seg) (b80 : List Int) (i85 : Int) (j79 : Nat → Value), FM.le f f75 ∧ St t w_ f75 (s83 :: [(b4, .cells (cl_Cmd c1) 76 (0, 0))] :: H) ∧ Own (tInt .u8) 5 f75 A81 c82 s83 b80 ∧ link_data.l0 k c1 n_ b80 i85 = some o71 ∧ a_ = ⟨⟨[(ag_Cmd c1), pV b4 0, .slice none 0 0, .slice A81 b80.length c82, iV i85, pV b4 0, iV c1.Op, .int .u8 (u8 (c1.Op)), pV b4 2, iV c1.Due, iV (shr c1.Due 8), .int .u8 (u8 (shr c1.Due 8)), pV b4 2, iV c1.Due, .int .u8 (u8 (c1.Due)), .slice (some ⟨b10, 0, none⟩) ([u8 (c1.Op), u8 (shr c1.Due 8), u8 (c1.Due)] : List Int).length 3] ++ (jr j79 0 13 [uV])⟩, []⟩) k ⟨f, (some ⟨b10, 0, none⟩), 3, s12, ([u8 (c1.Op), u8 (shr c1.Due 8), u8 (c1.Due)] : List Int), 56, (jL []), fL, HS13, HO14, h, kr⟩ ?_
 clear h
 rintro n74 _ W77 ⟨f75, A81, c82, s83, b80, i85, j79, L76, HS78, HO84, h, rfl⟩ K72 hK73
 obtain _ | n74 := n74
 · exact nomatch h
 simp only [link_data.l0] at h
 refine wp_seq_k (fun K86 hK87 => ?_)
 refine wp_seq_k fun K88 hK89 => rl ?_
 refine seqL2 kr ?_
 refine nl (hK89 _ _ ?_)
 replace h := ite_some h; rcases h with ⟨c91, h⟩ | ⟨c91, h⟩
 rotate_left
 · have c91 : ¬ (i85 ≥ 0) := c91
   refine wpRwI 17 kr (decide_eq_false c91) ?_
   refine condF kr ?_
   refine wp_exit ?_
   refine hx21 _ _ ?_
   exact J128 f75 A81 c82 s83 b80 (jL [iV i85, .slice (some ⟨b10, 0, none⟩) ([u8 (c1.Op), u8 (shr c1.Due 8), u8 (c1.Due)] : List Int).length 3, iV i85, fV, (j79 2), (j79 3), (j79 4), (j79 5), (j79 6), (j79 7), (j79 8), (j79 9), (j79 10), (j79 11), (j79 12)]) W77 _ L76 h HS78 HO84 kr
 have c91 : i85 ≥ 0 := c91
 refine wpRwI 17 kr (decide_eq_true c91) ?_
 refine condT kr ?_
 refine wp_skip ?_
 refine hK87 _ _ ?_
 refine wp_seq_k (fun K92 hK93 => ?_)
 refine blockK (fun B94 hx95 hn96 hr97 ho98 hp99 => ?_)
 refine rl ?_
 refine seqL2 kr ?_
 refine seqK rfl (does_run (run_load rfl Try.underlying2 rfl (kv (pV b4 1)) (HS78.u1.cell 1)) ?_)
 replace h := guard_some h; obtain ⟨c101, h⟩ := h
 have c101 : ¬ (i85 < 0) := c101
 refine seqL2 kr ?_
 refine seqK rfl (does_run (run_shr rfl (kv (.int .u64 (u64 (c1.Arg)))) (kv (.int .i64 i85)) c101 W77) ?_)
 refine seqL1 kr ?_
 refine seqK rfl (does_lit (e := (tInt .u8)) (E := 5) (vs := #[(0, Value.int .u8 (u8 (shr (u64 (c1.Arg)) (min (i85).toNat 64))))]) (cs := #[.int .u8 (u8 (shr (u64 (c1.Arg)) (min (i85).toNat 64)))]) (xs := ([u8 (shr (u64 (c1.Arg)) (min (i85).toNat 64))] : List Int)) rfl Try.underlying91 kr kr ⟨[.int .u8 (u8 (shr (u64 (c1.Arg)) (min (i85).toNat 64)))], _, rfl, rfl, rfl⟩ rfl HS78 ?_ (by decide))
 intro b102 W103 s104 HS105 _ HO106
 replace h := guard_some h; obtain ⟨c108, h⟩ := h
 have c108 : (b80.length + 1) * 1 ≤ 140737488355328 := c108
 have HS110 := HS105.u1.u1
 refine seqK rfl (does_append1 (e := (tInt .u8)) (E := 5) (xs := b80) (ys := ([u8 (shr (u64 (c1.Arg)) (min (i85).toNat 64))] : List Int)) rfl (kv (.slice A81 b80.length c82)) (kv (.slice (some ⟨b102, 0, none⟩) ([u8 (shr (u64 (c1.Arg)) (min (i85).toNat 64))] : List Int).length 1)) Try.underlying91 inf5 HO84 HO106 HS110 c108 (lim63 c108 (by decide)) ?_)
 intro A111 c112 s113 W114 HS115 HO116
 refine seqL1 kr ?_
 refine nl ?_
 refine hn96 _ _ ?_
 refine hK93 _ _ ?_
 refine rl ?_
 refine seqL3 kr ?_
 refine nl ?_
 refine hK73 n74 _ _ (Nat.lt_succ_self _) ?_
 exact ⟨f75, A111, c112, s113, (b80 ++ ([u8 (shr (u64 (c1.Arg)) (min (i85).toNat 64))] : List Int)), (w64 (i85 - 8)), (jL [iV i85, tV, iV i85, iV (w64 (i85 - 8)), .slice A81 b80.length c82, pV b4 1, iV c1.Arg, .int .u64 (u64 (c1.Arg)), iV i85, .int .u64 (shr (u64 (c1.Arg)) (min (i85).toNat 64)), .int .u8 (u8 (shr (u64 (c1.Arg)) (min (i85).toNat 64))), .slice (some ⟨b102, 0, none⟩) ([u8 (shr (u64 (c1.Arg)) (min (i85).toNat 64))] : List Int).length 1, .slice A111 (b80 ++ ([u8 (shr (u64 (c1.Arg)) (min (i85).toNat 64))] : List Int)).length c112]), L76, HS115, HO116, h, kr⟩

end Go.Sp.S4
