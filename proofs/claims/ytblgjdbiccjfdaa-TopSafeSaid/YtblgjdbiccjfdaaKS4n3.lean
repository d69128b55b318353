import Derived.Test.YtblgjdbiccjfdaaProg
import Derived.Test.YtblgjdbiccjfdaaSpCopy
import Derived.Test.YtblgjdbiccjfdaaFS4
import Derived.Test.YtblgjdbiccjfdaaSpTake
import Derived.Test.YtblgjdbiccjfdaaKS4n0
import Derived.Test.YtblgjdbiccjfdaaKS4n1
import Derived.Test.YtblgjdbiccjfdaaKS4n2
namespace Go.Sp.S4
open Go Go.Sp Go.Proofs
set_option linter.unusedVariables false
attribute [local irreducible] wpList AnyL Code.wp Calls Does
set_option maxRecDepth 100000 in
set_option maxHeartbeats 4000000 in
theorem link_controller_act.calls (k : Nat) (b1 : Nat) (A6 : Option Addr) (c7 : Nat) (b3 : Nat) (A10 : Option Addr) (c11 : Nat) (A13 : Option Addr) (c14 : Nat) (s15 : Seg) (A18 : Option Addr) (c19 : Nat) (s20 : Seg) (c5 : S_controller) (v9 : S_Log) (vt23 : Int) {t w : World} {f : FM} {H : List Seg} (HS : St t w f ([(b1, .cells #[.slice A6 c5.l.length c7, .int .i64 c5.now, .int .i64 c5.first, pV b3 0] 84 (0, 0))] :: [(b3, .cells #[.slice A10 v9.Execs.length c11, .slice A13 v9.Reports.length c14, .slice A18 v9.At.length c19, .int .i64 v9.Sent, .int .i64 v9.Heard] 40 (0, 0))] :: s15 :: s20 :: H)) (HR8 : SlR ty_Cmd f A6 c7 c5.l) (HR12 : SlR ty_Exec f A10 c11 v9.Execs) (HO16 : Own (tInt .i64) 3 f A13 c14 s15 v9.Reports) (HO21 : Own (tInt .i64) 3 f A18 c19 s20 v9.At) (rr1 : S_Packet) (rr2 : Bool) (rr3 : Int) (rr4 : List Int) (rr5 : List Int) (h : link_controller_act k c5 v9 vt23 = some (rr1, rr2, rr3, rr4, rr5)) :
    Calls Try.prog 26 #[pV b1 0, .int .i64 vt23] w (fun e w' => ∃ (g : FM) (A223 : Option Addr) (c224 : Nat) (s225 : Seg) (A226 : Option Addr) (c227 : Nat) (s228 : Seg) (A229 : Option Addr) (c230 : Nat) (s231 : Seg), e = .returned (Value.tuple #[.agg #[.int .i64 rr1.Addr, .int .i64 rr1.Kind, .int .i64 rr1.Seq, .slice A223 rr1.Data.length c224], .bool rr2]) ∧ FM.le f g ∧ St t w' g (s225 :: s228 :: s231 :: [(b1, .cells #[.slice A6 c5.l.length c7, .int .i64 c5.now, .int .i64 rr3, pV b3 0] 84 (0, 0))] :: [(b3, .cells #[.slice A10 v9.Execs.length c11, .slice A226 rr4.length c227, .slice A229 rr5.length c230, .int .i64 v9.Sent, .int .i64 v9.Heard] 40 (0, 0))] :: H) ∧ Own (tInt .u8) 5 g A223 c224 s225 rr1.Data ∧ Own (tInt .i64) 3 g A226 c227 s228 rr4 ∧ Own (tInt .i64) 3 g A229 c230 s231 rr5) := by
 unfold link_controller_act at h
 refine enter Try.func26 rfl (tm := ⟨[pV b1 0, iV vt23] ++ (un 90 [])⟩) kr ?_
 intro B hret hnor hnp
 refine wp_seq_k fun K24 hK25 => rl ?_
 refine seqK rfl (does_alloc (z := Value.agg #[.int .i64 0, .int .i64 0, .int .i64 0, .slice none 0 0]) (cs := #[.int .i64 0, .int .i64 0, .int .i64 0, .slice none 0 0]) rfl kr rfl HS ?_)
 intro b26 W27 HS28
 refine seqL1 kr ?_
 refine nl (hK25 _ _ ?_)
 refine wp_seq_k (fun K30 hK31 => ?_)
 refine wp_seq_k (fun K32 hK33 => ?_)
 refine heldG (S := Sg t f ([(b26, .cells #[.int .i64 0, .int .i64 0, .int .i64 0, .slice none 0 0] 93 (0, 0))] :: [(b1, .cells #[.slice A6 c5.l.length c7, .int .i64 c5.now, .int .i64 c5.first, pV b3 0] 84 (0, 0))] :: [(b3, .cells #[.slice A10 v9.Execs.length c11, .slice A13 v9.Reports.length c14, .slice A18 v9.At.length c19, .int .i64 v9.Sent, .int .i64 v9.Heard] 40 (0, 0))] :: s15 :: s20 :: H) []) (n := 10) kr rfl HS28 ?_
 intro W34 HS35
 refine gL [0, 1, 2] (fuel := 7) (bA 10 7) rfl kr kr kr hnp (Sg.g0 (Sx.of [] fL HS35)) fun X36 => ?_
 refine gQ 3 rfl kr kr kr kr kr hnp X36 (fun hl_ hS_ => run_load rfl Try.underlying3 rfl (kv (pV b1 1)) (hS_.u1.cell 1)) fun X37 => ?_
 refine gL [4, 5, 6] (fuel := 3) (bA 10 127) rfl kr kr kr hnp X37 fun X38 => ?_
 refine gQ 7 rfl kr kr kr kr kr hnp X38 (fun hl_ hS_ => run_load rfl Try.underlying33 rfl (kv (pV b1 0)) (hS_.u1.cell 0)) fun X39 => ?_
 refine gL [8, 9] (fuel := 0) (bA 10 1023) rfl kr kr kr hnp X39 fun X40 => ?_
 refine doneG kr ?_ _
 refine hK33 _ _ ?_
 replace h := ite_some h; rcases h with ⟨c42, h⟩ | ⟨c42, h⟩
 · have c42 : c5.now ≥ (c5.l.length : Int) := c42
   refine wpRwI 15 kr (decide_eq_true c42) ?_
   refine condT kr ?_
   refine wp_seq_k fun K43 hK44 => rl ?_
   refine seqL1 kr ?_
   refine seqK rfl (does_storeA (vs := [.int .i64 0, .int .i64 0, .int .i64 0, .slice none 0 0]) rfl kr kr kr rfl (ones rfl) HS35 kr ?_)
   intro W45 HS46
   refine seqL1 kr ?_
   refine nl (hK44 _ _ ?_)
   refine wp_ret ?_
   refine hret _ _ ?_
   have HS189 := HS46.cons_nil
   refine ends (v := Value.tuple #[.agg #[.int .i64 0, .int .i64 0, .int .i64 0, .slice none 0 0], .bool false]) (results2 (q1 := .cell 4 93) (q2 := .tmp 5) kr (resN (n := 4) (cs := [.int .i64 0, .int .i64 0, .int .i64 0, .slice none 0 0]) (kv (pV b26 0)) Try.underlying93 rfl kr rfl (HS189.u1.cells 0 4 _ rfl)) (resT (kv (.bool false)))) kr ?_
   have HS196 := HS189.u3.u3.u5.u5.u4.u5
   have HS197 := HS196.drop
   injection h with h
   injection h with h0_ h
   injection h with h1_ h
   injection h with h2_ h
   injection h with h3_ h
   subst h0_ h1_ h2_ h3_ h
   exact ⟨f, none, 0, [], A13, c14, s15, A18, c19, s20, rfl, FM.le.refl _, HS197, (Own.nil _), HO16, HO21⟩
 have c42 : ¬ (c5.now ≥ (c5.l.length : Int)) := c42
 refine wpRwI 15 kr (decide_eq_false c42) ?_
 refine condF kr ?_
 refine wp_skip ?_
 refine hK31 _ _ ?_
 refine wp_seq_k (fun K47 hK48 => ?_)
 refine wp_seq_k (fun K49 hK50 => ?_)
 refine heldG (S := Sg t f ([(b26, .cells #[.int .i64 0, .int .i64 0, .int .i64 0, .slice none 0 0] 93 (0, 0))] :: [(b1, .cells #[.slice A6 c5.l.length c7, .int .i64 c5.now, .int .i64 c5.first, pV b3 0] 84 (0, 0))] :: [(b3, .cells #[.slice A10 v9.Execs.length c11, .slice A13 v9.Reports.length c14, .slice A18 v9.At.length c19, .int .i64 v9.Sent, .int .i64 v9.Heard] 40 (0, 0))] :: s15 :: s20 :: H) []) (n := 14) kr rfl HS35 ?_
 intro W51 HS52
 refine gL [0, 1, 2] (fuel := 11) (bA 14 7) rfl kr kr kr hnp (Sg.g0 (Sx.of [] fL HS52)) fun X53 => ?_
 refine gQ 3 rfl kr kr kr kr kr hnp X53 (fun hl_ hS_ => run_load rfl Try.underlying82 rfl (kv (pV b1 3)) (hS_.u1.cell 3)) fun X54 => ?_
 refine gL [4, 5] (fuel := 8) (bA 14 63) rfl kr kr kr hnp X54 fun X55 => ?_
 refine gQ 6 rfl kr kr kr kr kr hnp X55 (fun hl_ hS_ => run_load rfl Try.underlying22 rfl (kv (pV b3 1)) (hS_.u2.cell 1)) fun X56 => ?_
 refine gL [7, 8, 9] (fuel := 4) (bA 14 1023) rfl kr kr kr hnp X56 fun X57 => ?_
 refine gQ 10 rfl kr kr kr kr kr hnp X57 (fun hl_ hS_ => run_load rfl Try.underlying3 rfl (kv (pV b1 1)) (hS_.u1.cell 1)) fun X58 => ?_
 replace h := guard_some h; obtain ⟨c59, h⟩ := h
 have c59 : 0 ≤ c5.now := c59
 replace h := guard_some h; obtain ⟨c60, h⟩ := h
 have c60 : c5.now < (v9.Reports.length : Int) := c60
 obtain ⟨b64, of65, cs61, hA66, hr62, hc63⟩ := HO16.at (i := c5.now) c59 c60
 obtain rfl := hr62
 refine gQ 11 rfl kr kr kr kr kr hnp X58 (fun hl_ hS_ => run_indexE hA66 (sz := 1) rfl Try.underlying22 kr (kv (.slice A13 v9.Reports.length c14)) (kv (.int .i64 c5.now)) c59 c60 _) fun X67 => ?_
 refine gQ 12 rfl kr kr kr kr kr hnp X67 (fun hl_ hS_ => run_load rfl Try.underlying3 rfl (kv (pV b64 (of65 + (c5.now : Int).toNat * 1))) ((hc63 hS_.u3) 0 (by decide))) fun X68 => ?_
 refine gL [13] (fuel := 0) (bA 14 16383) rfl kr kr kr hnp X68 fun X69 => ?_
 refine doneG kr ?_ _
 refine hK50 _ _ ?_
 replace h := bind_some h; obtain ⟨v70, hv109, h⟩ := h
 have J110 : ∀ (f99 : FM) (s106 : Seg) (x104 : Int) (x105 : List Int) (j103 : Nat → Value) (W101 : World) (a_ : Act), FM.le f f99 → some ((x104, x105)) = some v70 → St t W101 f99 ([(b26, .cells #[.int .i64 0, .int .i64 0, .int .i64 0, .slice none 0 0] 93 (0, 0))] :: [(b1, .cells #[.slice A6 c5.l.length c7, .int .i64 c5.now, .int .i64 x104, pV b3 0] 84 (0, 0))] :: [(b3, .cells #[.slice A10 v9.Execs.length c11, .slice A13 x105.length c14, .slice A18 v9.At.length c19, .int .i64 v9.Sent, .int .i64 v9.Heard] 40 (0, 0))] :: s106 :: s20 :: H) → Own (tInt .i64) 3 f99 A13 c14 s106 x105 → x105.length = v9.Reports.length → a_ = ⟨⟨[pV b1 0, iV vt23, uV, uV, pV b26 0, fV, pV b1 0, pV b1 0, pV b1 1, iV c5.now, pV b1 0, pV b1 0, pV b1 0, .slice A6 c5.l.length c7, iV (c5.l.length : Int), fV, uV, pV b1 0, pV b1 0, pV b1 3, pV b3 0, pV b3 0, pV b3 1, (j103 0), pV b1 0, pV b1 0, pV b1 1, iV c5.now, (j103 1), iV (rd v9.Reports c5.now), .bool ((rd v9.Reports c5.now) == 0)] ++ (jr j103 2 16 (un 45 []))⟩, []⟩ → K47 a_ W101 := by
  intro f99 s106 x104 x105 j103 W101 a_ L100 hj111 HS102 HO107 HL108 hfr_; subst hfr_
  injection hj111 with hj111; subst hj111; try dsimp only at h
  refine hK48 _ _ ?_
  refine wp_seq_k (fun K117 hK118 => ?_)
  refine wp_seq_k fun K119 hK120 => rl ?_
  refine seqL4 kr ?_
  refine seqK rfl (does_run (run_load rfl Try.underlying3 rfl (kv (pV b1 2)) (HS102.u1.cell 2)) ?_)
  refine seqL3 kr ?_
  refine nl (hK120 _ _ ?_)
  replace h := ite_some h; rcases h with ⟨c122, h⟩ | ⟨c122, h⟩
  · have c122 : (Int.tmod (w64 (vt23 - x104)) 4) ≠ 0 := c122
    refine wpRwI 54 kr (bne_iff_ne.mpr c122) ?_
    refine condT kr ?_
    refine wp_seq_k fun K123 hK124 => rl ?_
    refine seqL1 kr ?_
    refine seqK rfl (does_storeA (vs := [.int .i64 0, .int .i64 0, .int .i64 0, .slice none 0 0]) rfl kr kr kr rfl (ones rfl) HS102 kr ?_)
    intro W125 HS126
    refine seqL1 kr ?_
    refine nl (hK124 _ _ ?_)
    refine wp_ret ?_
    refine hret _ _ ?_
    have HS198 := HS126.cons_nil
    refine ends (v := Value.tuple #[.agg #[.int .i64 0, .int .i64 0, .int .i64 0, .slice none 0 0], .bool false]) (results2 (q1 := .cell 4 93) (q2 := .tmp 5) kr (resN (n := 4) (cs := [.int .i64 0, .int .i64 0, .int .i64 0, .slice none 0 0]) (kv (pV b26 0)) Try.underlying93 rfl kr rfl (HS198.u1.cells 0 4 _ rfl)) (resT (kv (.bool false)))) kr ?_
    have HS205 := HS198.u3.u3.u5.u5.u4.u5
    have HS206 := HS205.drop
    injection h with h
    injection h with h0_ h
    injection h with h1_ h
    injection h with h2_ h
    injection h with h3_ h
    subst h0_ h1_ h2_ h3_ h
    exact ⟨f99, none, 0, [], A13, c14, s106, A18, c19, s20, rfl, L100, HS206, (Own.nil _), HO107, (HO21.mono L100)⟩
  have c122 : ¬ ((Int.tmod (w64 (vt23 - x104)) 4) ≠ 0) := c122
  refine wpRwI 54 (x := ((Int.tmod (w64 (vt23 - x104)) 4) != 0)) (v := false) kr (bne_eq_false_iff_eq.mpr (Decidable.of_not_not c122)) ?_
  refine condF kr ?_
  refine wp_skip ?_
  refine hK118 _ _ ?_
  refine wp_seq_k (fun K127 hK128 => ?_)
  refine wp_seq_k (fun K129 hK130 => ?_)
  refine heldG (S := Sg t f99 ([(b26, .cells #[.int .i64 0, .int .i64 0, .int .i64 0, .slice none 0 0] 93 (0, 0))] :: [(b1, .cells #[.slice A6 c5.l.length c7, .int .i64 c5.now, .int .i64 x104, pV b3 0] 84 (0, 0))] :: [(b3, .cells #[.slice A10 v9.Execs.length c11, .slice A13 x105.length c14, .slice A18 v9.At.length c19, .int .i64 v9.Sent, .int .i64 v9.Heard] 40 (0, 0))] :: s106 :: s20 :: H) []) (n := 13) kr rfl HS102 ?_
  intro W131 HS132
  refine gL [0, 1, 2, 3] (fuel := 9) (bA 13 15) rfl kr kr kr hnp (Sg.g0 (Sx.of [] fL HS132)) fun X133 => ?_
  refine gQ 4 rfl kr kr kr kr kr hnp X133 (fun hl_ hS_ => run_load rfl Try.underlying33 rfl (kv (pV b1 0)) (hS_.u1.cell 0)) fun X134 => ?_
  refine gL [5, 6, 7] (fuel := 5) (bA 13 255) rfl kr kr kr hnp X134 fun X135 => ?_
  refine gQ 8 rfl kr kr kr kr kr hnp X135 (fun hl_ hS_ => run_load rfl Try.underlying3 rfl (kv (pV b1 1)) (hS_.u1.cell 1)) fun X136 => ?_
  replace h := guard_some h; obtain ⟨c137, h⟩ := h
  have c137 : c5.now < (c5.l.length : Int) := c137
  obtain ⟨b141, of142, cs138, hA143, hr139, hc140⟩ := (HR8.mono L100).at (i := c5.now) c59 c137
  obtain rfl := hr139
  refine gQ 9 rfl kr kr kr kr kr hnp X136 (fun hl_ hS_ => run_indexE hA143 (sz := 3) rfl Try.underlying33 kr (kv (.slice A6 c5.l.length c7)) (kv (.int .i64 c5.now)) c59 c137 _) fun X144 => ?_
  refine gL [10] (fuel := 2) (bA 13 2047) rfl kr kr kr hnp X144 fun X145 => ?_
  refine gQ 11 rfl kr kr kr kr kr hnp X145 (fun hl_ hS_ => run_load rfl Try.underlying3 rfl (kv (pV b141 (of142 + (c5.now : Int).toNat * 3 + 2))) ((hc140 hl_ hS_) 2 (by decide))) fun X146 => ?_
  refine gL [12] (fuel := 0) (bA 13 8191) rfl kr kr kr hnp X146 fun X147 => ?_
  refine doneG kr ?_ _
  refine hK130 _ _ ?_
  replace h := ite_some h; rcases h with ⟨c149, h⟩ | ⟨c149, h⟩
  · have c149 : vt23 > ((rd c5.l c5.now).Due) := c149
    refine wpRwI 68 kr (decide_eq_true c149) ?_
    refine condT kr ?_
    refine wp_seq_k fun K150 hK151 => rl ?_
    refine seqL3 kr ?_
    refine seqK rfl (does_run (run_load rfl Try.underlying3 rfl (kv (pV b1 1)) (HS132.u1.cell 1)) ?_)
    refine seqL2 kr ?_
    refine seqK rfl (does_storeA (vs := [.int .i64 0, .int .i64 2, .int .i64 (w64 (c5.now + 1)), .slice none 0 0]) rfl kr kr kr rfl (ones rfl) HS132 kr ?_)
    intro W152 HS153
    refine seqL1 kr ?_
    refine nl (hK151 _ _ ?_)
    refine wp_ret ?_
    refine hret _ _ ?_
    have HS207 := HS153.cons_nil
    refine ends (v := Value.tuple #[.agg #[.int .i64 0, .int .i64 2, .int .i64 (w64 (c5.now + 1)), .slice none 0 0], .bool true]) (results2 (q1 := .cell 4 93) (q2 := .tmp 5) kr (resN (n := 4) (cs := [.int .i64 0, .int .i64 2, .int .i64 (w64 (c5.now + 1)), .slice none 0 0]) (kv (pV b26 0)) Try.underlying93 rfl kr rfl (HS207.u1.cells 0 4 _ rfl)) (resT (kv (.bool true)))) kr ?_
    have HS214 := HS207.u3.u3.u5.u5.u4.u5
    have HS215 := HS214.drop
    injection h with h
    injection h with h0_ h
    injection h with h1_ h
    injection h with h2_ h
    injection h with h3_ h
    subst h0_ h1_ h2_ h3_ h
    exact ⟨f99, none, 0, [], A13, c14, s106, A18, c19, s20, rfl, L100, HS215, (Own.nil _), HO107, (HO21.mono L100)⟩
  have c149 : ¬ (vt23 > ((rd c5.l c5.now).Due)) := c149
  refine wpRwI 68 kr (decide_eq_false c149) ?_
  refine condF kr ?_
  refine wp_skip ?_
  refine hK128 _ _ ?_
  refine wp_seq_k (fun K154 hK155 => ?_)
  have HS160 := HS132.u4.u4.u4.u4.u4
  refine heldG (S := Sg t f99 ([(b1, .cells #[.slice A6 c5.l.length c7, .int .i64 c5.now, .int .i64 x104, pV b3 0] 84 (0, 0))] :: [(b3, .cells #[.slice A10 v9.Execs.length c11, .slice A13 x105.length c14, .slice A18 v9.At.length c19, .int .i64 v9.Sent, .int .i64 v9.Heard] 40 (0, 0))] :: s106 :: s20 :: H) [(17, [(b26, .cells #[.int .i64 0, .int .i64 0, .int .i64 0, .slice none 0 0] 93 (0, 0))])]) (n := 19) kr rfl HS160 ?_
  intro W161 HS162
  refine gL [0, 1, 2] (fuel := 16) (bA 19 7) rfl kr kr kr hnp (Sg.g1 (Sx.of [[(b26, .cells #[.int .i64 0, .int .i64 0, .int .i64 0, .slice none 0 0] 93 (0, 0))]] fL HS162) (fun _ => St.only [] HS162 fL)) fun X163 => ?_
  refine gQ 3 rfl kr kr kr kr kr hnp X163 (fun hl_ hS_ => run_load rfl Try.underlying3 rfl (kv (pV b1 1)) (hS_.cell 1)) fun X164 => ?_
  refine gL [4, 5, 6, 7] (fuel := 11) (bA 19 255) rfl kr kr kr hnp X164 fun X165 => ?_
  refine gQ 8 rfl kr kr kr kr kr hnp X165 (fun hl_ hS_ => run_load rfl Try.underlying33 rfl (kv (pV b1 0)) (hS_.cell 0)) fun X166 => ?_
  refine gL [9, 10, 11] (fuel := 7) (bA 19 4095) rfl kr kr kr hnp X166 fun X167 => ?_
  refine gQ 12 rfl kr kr kr kr kr hnp X167 (fun hl_ hS_ => run_load rfl Try.underlying3 rfl (kv (pV b1 1)) (hS_.cell 1)) fun X168 => ?_
  refine gQ 13 rfl kr kr kr kr kr hnp X168 (fun hl_ hS_ => run_indexE hA143 (sz := 3) rfl Try.underlying33 kr (kv (.slice A6 c5.l.length c7)) (kv (.int .i64 c5.now)) c59 c137 _) fun X169 => ?_
  refine gQ 14 rfl kr kr kr kr kr hnp X169 (fun hl_ hS_ => run_loadN (n := 3) rfl Try.underlying76 rfl kr (kv (pV b141 (of142 + (c5.now : Int).toNat * 3))) (cs := (ll_Cmd (rd c5.l c5.now))) rfl (fun j_ hj_ => ((hc140 hl_ hS_) j_ hj_))) fun X170 => ?_
  replace h := bind_some h; obtain ⟨vt171, hc172, h⟩ := h
  refine takeGE 15 kr rfl kr (does_call kr (link_data.calls k (rd c5.l c5.now) HS162 vt171 hc172) ?_)
  rintro _ W175 ⟨f173, A177, c178, s179, rfl, L174, HS176, HO180⟩
  refine ⟨_, rfl, ?_⟩
  refine kB (Sg.g1 (Sx.of [s179, [(b26, .cells #[.int .i64 0, .int .i64 0, .int .i64 0, .slice none 0 0] 93 (0, 0))]] L174 HS176) (fun _ => St.only [s179] HS176 L174)) fun X182 => ?_
  refine gL [16] (fuel := 2) (bA 19 131071) rfl kr kr kr hnp X182 fun X183 => ?_
  have HS184 := HS176.u1
  refine takeGE 17 kr rfl kr (does_storeA (vs := [.int .i64 0, .int .i64 1, .int .i64 (w64 (c5.now + 1)), .slice A177 vt171.length c178]) rfl kr kr kr rfl (ones rfl) HS184 kr ?_)
  intro W185 HS186
  refine kB (Sg.g1 (Sx.of [[(b26, .cells #[.int .i64 0, .int .i64 1, .int .i64 (w64 (c5.now + 1)), .slice A177 vt171.length c178] 93 (0, 0))], s179] L174 HS186) (fun hl_ => Bool.noConfusion (show true = false from hl_))) fun X187 => ?_
  refine gL [18] (fuel := 0) (bA 19 524287) rfl kr kr kr hnp X187 fun X188 => ?_
  refine doneG kr ?_ _
  refine hK155 _ _ ?_
  refine wp_ret ?_
  refine hret _ _ ?_
  refine ends (v := Value.tuple #[.agg #[.int .i64 0, .int .i64 1, .int .i64 (w64 (c5.now + 1)), .slice A177 vt171.length c178], .bool true]) (results2 (q1 := .cell 4 93) (q2 := .tmp 5) kr (resN (n := 4) (cs := [.int .i64 0, .int .i64 1, .int .i64 (w64 (c5.now + 1)), .slice A177 vt171.length c178]) (kv (pV b26 0)) Try.underlying93 rfl kr rfl (HS186.cells 0 4 _ rfl)) (resT (kv (.bool true)))) kr ?_
  have HS221 := HS186.u3.u3.u5.u5.u5.u5
  have HS222 := HS221.drop
  injection h with h
  injection h with h0_ h
  injection h with h1_ h
  injection h with h2_ h
  injection h with h3_ h
  subst h0_ h1_ h2_ h3_ h
  exact ⟨f173, A177, c178, s179, A13, c14, s106, A18, c19, s20, rfl, (L100.trans L174), HS222, HO180, (HO107.mono L174), (HO21.mono (L100.trans L174))⟩
 clear h; have h := hv109; clear hv109
 replace h := ite_some h; rcases h with ⟨c71, h⟩ | ⟨c71, h⟩
 rotate_left
 · have c71 : ¬ ((rd v9.Reports c5.now) = 0) := c71
   refine wpRwI 30 kr (beq_eq_false_iff_ne.mpr c71) ?_
   refine condF kr ?_
   refine wp_skip ?_
   refine fnRwI (F := K47) 30 (x := false) (v := ((rd v9.Reports c5.now) == 0)) kr (Eq.symm (beq_eq_false_iff_ne.mpr c71)) ?_
   exact J110 f s15 c5.first v9.Reports (jL [.slice A13 v9.Reports.length c14, pV b64 (of65 + (c5.now : Int).toNat * 1)]) W51 _ fL h HS52 HO16 rfl kr
 have c71 : (rd v9.Reports c5.now) = 0 := c71
 refine wpRwI 30 kr (beq_iff_eq.mpr c71) ?_
 refine condT kr ?_
 have HS76 := HS52.u4.u1.u4.u4.u4
 refine heldG (S := Sg t f ([(b26, .cells #[.int .i64 0, .int .i64 0, .int .i64 0, .slice none 0 0] 93 (0, 0))] :: s20 :: H) [(17, [(b1, .cells #[.slice A6 c5.l.length c7, .int .i64 c5.now, .int .i64 c5.first, pV b3 0] 84 (0, 0))]), (14, [(b3, .cells #[.slice A10 v9.Execs.length c11, .slice A13 v9.Reports.length c14, .slice A18 v9.At.length c19, .int .i64 v9.Sent, .int .i64 v9.Heard] 40 (0, 0))]), (14, s15)]) (n := 18) kr rfl HS76 ?_
 intro W77 HS78
 refine gL [0, 1, 2] (fuel := 15) (bA 18 7) rfl kr kr kr hnp (Sg.g3 (Sx.of [[(b1, .cells #[.slice A6 c5.l.length c7, .int .i64 c5.now, .int .i64 c5.first, pV b3 0] 84 (0, 0))], [(b3, .cells #[.slice A10 v9.Execs.length c11, .slice A13 v9.Reports.length c14, .slice A18 v9.At.length c19, .int .i64 v9.Sent, .int .i64 v9.Heard] 40 (0, 0))], s15] fL HS78) (fun _ => St.only [] HS78 fL) (fun _ => St.only [[(b1, .cells #[.slice A6 c5.l.length c7, .int .i64 c5.now, .int .i64 c5.first, pV b3 0] 84 (0, 0))]] HS78 fL) (fun _ => St.only [[(b1, .cells #[.slice A6 c5.l.length c7, .int .i64 c5.now, .int .i64 c5.first, pV b3 0] 84 (0, 0))], [(b3, .cells #[.slice A10 v9.Execs.length c11, .slice A13 v9.Reports.length c14, .slice A18 v9.At.length c19, .int .i64 v9.Sent, .int .i64 v9.Heard] 40 (0, 0))]] HS78 fL)) fun X79 => ?_
 refine gQs 3 17 rfl kr kr kr kr kr (.head _) kr hnp X79 (fun hl_ hS_ => run_load rfl Try.underlying82 rfl (kv (pV b1 3)) (hS_.cell 3)) fun X80 => ?_
 refine gL [4, 5] (fuel := 12) (bA 18 63) rfl kr kr kr hnp X80 fun X81 => ?_
 refine gQs 6 14 rfl kr kr kr kr kr (.tail _ (.head _)) kr hnp X81 (fun hl_ hS_ => run_load rfl Try.underlying22 rfl (kv (pV b3 1)) (hS_.cell 1)) fun X82 => ?_
 refine gL [7, 8, 9] (fuel := 8) (bA 18 1023) rfl kr kr kr hnp X82 fun X83 => ?_
 refine gQs 10 17 rfl kr kr kr kr kr (.head _) kr hnp X83 (fun hl_ hS_ => run_load rfl Try.underlying3 rfl (kv (pV b1 1)) (hS_.cell 1)) fun X84 => ?_
 refine gL [11, 12] (fuel := 5) (bA 18 8191) rfl kr kr kr hnp X84 fun X85 => ?_
 refine gQ 13 rfl kr kr kr kr kr hnp X85 (fun hl_ hS_ => run_indexE hA66 (sz := 1) rfl Try.underlying22 kr (kv (.slice A13 v9.Reports.length c14)) (kv (.int .i64 c5.now)) c59 c60 _) fun X86 => ?_
 have HS87 := HS78.u2
 refine takeGE 14 kr rfl kr (does_put (e := (tInt .i64)) (E := 3) (vs := [.int .i64 1]) (u := 1) (i := c5.now) rfl kr HO16 HS87 hA66 (kv (pV b64 (of65 + (c5.now : Int).toNat * 1))) (kv (.int .i64 1)) rfl rfl c59 c60 ?_)
 intro W88 s89 HS90 HO91
 have HS92 : St t W88 f (s89 :: [(b1, .cells #[.slice A6 c5.l.length c7, .int .i64 c5.now, .int .i64 c5.first, pV b3 0] 84 (0, 0))] :: [(b3, .cells #[.slice A10 v9.Execs.length c11, .slice A13 (v9.Reports.set (c5.now).toNat 1).length c14, .slice A18 v9.At.length c19, .int .i64 v9.Sent, .int .i64 v9.Heard] 40 (0, 0))] :: [(b26, .cells #[.int .i64 0, .int .i64 0, .int .i64 0, .slice none 0 0] 93 (0, 0))] :: s20 :: H) := by rw [show (v9.Reports.set (c5.now).toNat 1).length = v9.Reports.length from List.length_set]; exact HS90
 refine kB (Sg.g3 (Sx.of [s89, [(b1, .cells #[.slice A6 c5.l.length c7, .int .i64 c5.now, .int .i64 c5.first, pV b3 0] 84 (0, 0))], [(b3, .cells #[.slice A10 v9.Execs.length c11, .slice A13 (v9.Reports.set (c5.now).toNat 1).length c14, .slice A18 v9.At.length c19, .int .i64 v9.Sent, .int .i64 v9.Heard] 40 (0, 0))]] fL HS92) (fun _ => St.only [s89] HS92 fL) (fun hl_ => Bool.noConfusion (show true = false from hl_)) (fun hl_ => Bool.noConfusion (show true = false from hl_))) fun X93 => ?_
 refine gateRwS 23 (A := A13) (m := v9.Reports.length) (n := (v9.Reports.set (c5.now).toNat 1).length) (c := c14) kr (List.length_set).symm ?_
 refine gateRwS 37 (A := A13) (m := v9.Reports.length) (n := (v9.Reports.set (c5.now).toNat 1).length) (c := c14) kr (List.length_set).symm ?_
 refine gL [15, 16] (fuel := 1) (bA 18 131071) rfl kr kr kr hnp X93 fun X94 => ?_
 have HS95 := HS92.u1
 refine takeGE 17 kr rfl kr (does_store (n := 1) (vs := [.int .i64 vt23]) (cs' := #[.slice A6 c5.l.length c7, .int .i64 c5.now, .int .i64 vt23, pV b3 0]) rfl kr (kv (pV b1 2)) (kv (.int .i64 vt23)) rfl rfl (ones rfl) HS95 (Nat.le_of_ble_eq_true rfl) kr ?_)
 intro W96 HS97
 refine kB (Sg.g3 (Sx.of [[(b1, .cells #[.slice A6 c5.l.length c7, .int .i64 c5.now, .int .i64 vt23, pV b3 0] 84 (0, 0))], s89, [(b3, .cells #[.slice A10 v9.Execs.length c11, .slice A13 (v9.Reports.set (c5.now).toNat 1).length c14, .slice A18 v9.At.length c19, .int .i64 v9.Sent, .int .i64 v9.Heard] 40 (0, 0))]] fL HS97) (fun hl_ => Bool.noConfusion (show true = false from hl_)) (fun hl_ => Bool.noConfusion (show true = false from hl_)) (fun hl_ => Bool.noConfusion (show true = false from hl_))) fun X98 => ?_
 refine doneG kr ?_ _
 refine fnRwI (F := K47) 30 (x := true) (v := ((rd v9.Reports c5.now) == 0)) kr (Eq.symm (beq_iff_eq.mpr c71)) ?_
 have HS116 := HS97.u4.u2.u3.u3.u4
 exact J110 f s89 vt23 (v9.Reports.set (c5.now).toNat 1) (jL [.slice A13 (v9.Reports.set (c5.now).toNat 1).length c14, pV b64 (of65 + (c5.now : Int).toNat * 1), pV b1 0, pV b1 0, pV b1 3, pV b3 0, pV b3 0, pV b3 1, .slice A13 (v9.Reports.set (c5.now).toNat 1).length c14, pV b1 0, pV b1 0, pV b1 1, iV c5.now, pV b1 0, iV vt23, pV b64 (of65 + (c5.now : Int).toNat * 1), pV b1 0, pV b1 2]) W96 _ fL h HS116 HO91 List.length_set kr

set_option maxRecDepth 100000 in
set_option maxHeartbeats 4000000 in
theorem link_Run.calls (k : Nat) (A2 : Option Addr) (c3 : Nat) (A6 : Option Addr) (c7 : Nat) (A10 : Option Addr) (c11 : Nat) (l1 : List S_Cmd) (there5 : List S_Fate) (back9 : List S_Fate) (steps13 : Int) {t w : World} {f : FM} {H : List Seg} (HS : St t w f (H)) (HR4 : SlR ty_Cmd f A2 c3 l1) (HR8 : SlR ty_Fate f A6 c7 there5) (HR12 : SlR ty_Fate f A10 c11 back9) (rr1 : S_Log) (rr2 : Int) (h : link_Run k l1 there5 back9 steps13 = some (rr1, rr2)) :
    Calls Try.prog 8 #[.slice A2 l1.length c3, .slice A6 there5.length c7, .slice A10 back9.length c11, .int .i64 steps13] w (fun e w' => ∃ (g : FM) (A2612 : Option Addr) (c2613 : Nat) (s2614 : Seg) (A2615 : Option Addr) (c2616 : Nat) (s2617 : Seg) (A2618 : Option Addr) (c2619 : Nat) (s2620 : Seg), e = .returned (Value.tuple #[.agg #[.slice A2612 rr1.Execs.length c2613, .slice A2615 rr1.Reports.length c2616, .slice A2618 rr1.At.length c2619, .int .i64 rr1.Sent, .int .i64 rr1.Heard], .int .i64 rr2]) ∧ FM.le f g ∧ St t w' g (s2614 :: s2617 :: s2620 :: H) ∧ Own ty_Exec 104 g A2612 c2613 s2614 rr1.Execs ∧ Own (tInt .i64) 3 g A2615 c2616 s2617 rr1.Reports ∧ Own (tInt .i64) 3 g A2618 c2619 s2620 rr1.At) := by
 unfold link_Run at h
 refine enter Try.func8 rfl (tm := ⟨[.slice A2 l1.length c3, .slice A6 there5.length c7, .slice A10 back9.length c11, iV steps13] ++ (un 112 [])⟩) kr ?_
 intro B hret hnor hnp
 refine wp_seq_k fun K14 hK15 => rl ?_
 refine seqK rfl (does_alloc (z := Value.agg #[.slice none 0 0, .slice none 0 0, .slice none 0 0, .int .i64 0, .int .i64 0]) (cs := #[.slice none 0 0, .slice none 0 0, .slice none 0 0, .int .i64 0, .int .i64 0]) rfl kr rfl HS ?_)
 intro b16 W17 HS18
 refine seqL1 kr ?_
 refine nl (hK15 _ _ ?_)
 refine wp_seq_k (fun K20 hK21 => ?_)
 refine wp_seq_k fun K22 hK23 => rl ?_
 replace h := bind_some h; obtain ⟨vt24, hc25, h⟩ := h
 refine seqL3 kr ?_
 refine seqK rfl (does_call kr (link_Check.calls k A2 c3 A6 c7 A10 c11 l1 there5 back9 HS18 HR4 HR8 HR12 vt24 hc25) ?_)
 rintro _ W28 ⟨f26, rfl, L27, HS29⟩
 refine ⟨_, rfl, ?_⟩
 refine seqL1 kr ?_
 refine nl (hK23 _ _ ?_)
 refine wp_seq_k fun K30 hK31 => rl ?_
 refine seqL2 kr ?_
 refine nl (hK31 _ _ ?_)
 replace h := ite_some h; rcases h with ⟨c33, h⟩ | ⟨c33, h⟩
 · have c33 : vt24 ≠ 0 := c33
   refine wpRwI 30 kr (bne_iff_ne.mpr c33) ?_
   refine condT kr ?_
   refine wp_seq_k (fun K34 hK35 => ?_)
   exact nomatch h
 have c33 : ¬ (vt24 ≠ 0) := c33
 refine wpRwI 30 (x := (vt24 != 0)) (v := false) kr (bne_eq_false_iff_eq.mpr (Decidable.of_not_not c33)) ?_
 refine condF kr ?_
 refine wp_skip ?_
 refine hK21 _ _ ?_
 refine wp_seq_k (fun K36 hK37 => ?_)
 refine wp_seq_k (fun K38 hK39 => ?_)
 replace h := bind_some h; obtain ⟨v40, hv48, h⟩ := h
 have J49 : ∀ (f42 : FM) (x47 : Bool) (j46 : Nat → Value) (W44 : World) (a_ : Act), FM.le f26 f42 → some (x47) = some v40 → St t W44 f42 ([(b16, .cells #[.slice none 0 0, .slice none 0 0, .slice none 0 0, .int .i64 0, .int .i64 0] 40 (0, 0))] :: H) → a_ = ⟨⟨[.slice A2 l1.length c3, .slice A6 there5.length c7, .slice A10 back9.length c11, iV steps13] ++ (un 4 ([pV b16 0, iV 0, iV vt24] ++ (un 14 ([.slice A2 l1.length c3, .slice A6 there5.length c7, .slice A10 back9.length c11, iV vt24, iV vt24, fV, uV, uV] ++ (jr j46 0 5 ([.bool x47] ++ (un 77 [])))))))⟩, []⟩ → K38 a_ W44 := by
  intro f42 x47 j46 W44 a_ L43 hj50 HS45  hfr_; subst hfr_
  injection hj50 with hj50; subst hj50; try dsimp only at h
  refine hK39 _ _ ?_
  replace h := ite_some h; rcases h with ⟨c52, h⟩ | ⟨c52, h⟩
  · have c52 : x47 = true := c52
    refine wpRwI 38 kr c52 ?_
    refine condT kr ?_
    refine wp_seq_k (fun K53 hK54 => ?_)
    exact nomatch h
  have c52 : ¬ (x47 = true) := c52
  refine wpRwI 38 kr (Bool.eq_false_iff.mpr c52) ?_
  refine condF kr ?_
  refine wp_skip ?_
  refine hK37 _ _ ?_
  refine wp_seq_k (fun K55 hK56 => ?_)
  refine heldG (S := Sg t f42 ([(b16, .cells #[.slice none 0 0, .slice none 0 0, .slice none 0 0, .int .i64 0, .int .i64 0] 40 (0, 0))] :: H) []) (n := 9) kr rfl HS45 ?_
  intro W57 HS58
  replace h := guard_some h; obtain ⟨c59, h⟩ := h
  have c59 : 0 ≤ (l1.length : Int) := c59
  replace h := guard_some h; obtain ⟨c60, h⟩ := h
  have c60 : (l1.length : Int) * 8 ≤ 140737488355328 := c60
  refine gL [0, 1, 3, 4] (fuel := 5) (bA 9 27) rfl kr kr kr hnp (Sg.g0 (Sx.of [] fL HS58)) fun X79 => ?_
  refine withR #[true, true, true, true, true, true, true, true, true] ?_
  intro R80 hR81 hR82
  have J83 : ∀ (b61 : Nat) (s63 : Seg) (b67 : Nat) (s69 : Seg) (b73 : Nat) (W84 : World) (a_ : Act), Own (tInt .i64) 3 f42 (some ⟨b61, 0, none⟩) (((l1.length : Int)).toNat) s63 (List.replicate ((l1.length : Int)).toNat (0 : Int)) → Own (tInt .i64) 3 f42 (some ⟨b67, 0, none⟩) (((l1.length : Int)).toNat) s69 (List.replicate ((l1.length : Int)).toNat (0 : Int)) → St t W84 f42 ([(b73, .cells #[.slice none 0 0, .slice (some ⟨b61, 0, none⟩) (List.replicate ((l1.length : Int)).toNat (0 : Int)).length ((l1.length : Int)).toNat, .slice (some ⟨b67, 0, none⟩) (List.replicate ((l1.length : Int)).toNat (0 : Int)).length ((l1.length : Int)).toNat, .int .i64 0, .int .i64 0] 40 (0, 0))] :: s69 :: s63 :: [(b16, .cells #[.slice none 0 0, .slice none 0 0, .slice none 0 0, .int .i64 0, .int .i64 0] 40 (0, 0))] :: H) → a_ = ⟨⟨[.slice A2 l1.length c3, .slice A6 there5.length c7, .slice A10 back9.length c11, iV steps13] ++ (un 4 ([pV b16 0, iV 0, iV vt24, pV b73 0] ++ (un 13 ([.slice A2 l1.length c3, .slice A6 there5.length c7, .slice A10 back9.length c11, iV vt24, iV vt24, fV, uV, uV] ++ (jr j46 0 5 ([fV, uV, .slice A2 l1.length c3, iV (l1.length : Int), .slice (some ⟨b61, 0, none⟩) (List.replicate ((l1.length : Int)).toNat (0 : Int)).length ((l1.length : Int)).toNat, .slice A2 l1.length c3, iV (l1.length : Int), .slice (some ⟨b67, 0, none⟩) (List.replicate ((l1.length : Int)).toNat (0 : Int)).length ((l1.length : Int)).toNat, .agg #[.slice none 0 0, .slice (some ⟨b61, 0, none⟩) (List.replicate ((l1.length : Int)).toNat (0 : Int)).length ((l1.length : Int)).toNat, .slice (some ⟨b67, 0, none⟩) (List.replicate ((l1.length : Int)).toNat (0 : Int)).length ((l1.length : Int)).toNat, iV 0, iV 0]] ++ (un 69 [])))))))⟩, []⟩ → R80 a_ W84 := by
   intro b61 s63 b67 s69 b73 W84 a_ HO65 HO71 HS85 hfr_; subst hfr_
   refine hR81 _ _ ?_
   refine doneG kr ?_ _
   refine hK56 _ _ ?_
   refine wp_seq_k fun K212 hK213 => rl ?_
   refine seqK rfl (does_alloc (z := Value.agg #[.int .i64 0, .bool false, .slice none 0 0]) (cs := #[.int .i64 0, .bool false, .slice none 0 0]) rfl kr rfl HS85 ?_)
   intro b214 W215 HS216
   refine nl (hK213 _ _ ?_)
   refine wp_seq_k fun K218 hK219 => rl ?_
   refine seqL2 kr ?_
   refine seqK rfl (does_alloc (z := Value.agg #[.slice none 0 0, .int .i64 0, .int .i64 0, .pointer none]) (cs := #[.slice none 0 0, .int .i64 0, .int .i64 0, .pointer none]) rfl kr rfl HS216 ?_)
   intro b220 W221 HS222
   refine seqK rfl (does_storeA (vs := [.slice A2 l1.length c3, .int .i64 0, .int .i64 0, pV b73 0]) rfl kr kr kr rfl (ones rfl) HS222 kr ?_)
   intro W224 HS225
   refine nl (hK219 _ _ ?_)
   refine wp_seq_k fun K226 hK227 => rl ?_
   refine seqL2 kr ?_
   refine seqK rfl (does_box (cs := #[.slice A6 there5.length c7, .slice none 0 0, .int .i64 0]) rfl (kv (.agg #[.slice A6 there5.length c7, .slice none 0 0, .int .i64 0])) rfl HS225 ?_)
   intro b228 W229 HS230
   refine seqL2 kr ?_
   refine seqK rfl (does_box (cs := #[.slice A10 back9.length c11, .slice none 0 0, .int .i64 0]) rfl (kv (.agg #[.slice A10 back9.length c11, .slice none 0 0, .int .i64 0])) rfl HS230 ?_)
   intro b232 W233 HS234
   refine seqL2 kr ?_
   refine nl (hK227 _ _ ?_)
   refine wp_seq_k (fun K236 hK237 => ?_)
   refine wp_seq_k fun K238 hK239 => rl ?_
   refine seqL2 kr ?_
   refine nl (hK239 _ _ ?_)
   refine blockK (fun B240 hx241 hn242 hr243 ho244 hp245 => ?_)
   replace h := bind_some h; obtain ⟨o1688, hv2510, h⟩ := h
   have J2511 : ∀ (f2471 : FM) (A2477 : Option Addr) (c2478 : Nat) (s2479 : Seg) (A2484 : Option Addr) (c2485 : Nat) (s2486 : Seg) (A2495 : Option Addr) (c2496 : Nat) (s2497 : Seg) (A2501 : Option Addr) (c2502 : Nat) (s2503 : Seg) (A2506 : Option Addr) (c2507 : Nat) (s2508 : Seg) (x2476 : List S_parcel) (x2482 : Int) (x2483 : List S_parcel) (x2489 : Int) (x2490 : Int) (x2491 : Int) (x2492 : Int) (x2493 : Bool) (x2494 : List S_Exec) (x2500 : List Int) (x2505 : List Int) (j2475 : Nat → Value) (W2473 : World) (a_ : Act), FM.le f42 f2471 → some ((x2476, x2482, x2483, x2489, x2490, x2491, x2492, x2493, x2494, x2500, x2505)) = some o1688 → St t W2473 f2471 (s2497 :: s2486 :: s2479 :: [(b232, .cells #[.slice A10 back9.length c11, .slice A2477 x2476.length c2478, .int .i64 x2482] 88 (0, 0))] :: [(b228, .cells #[.slice A6 there5.length c7, .slice A2484 x2483.length c2485, .int .i64 x2489] 88 (0, 0))] :: [(b220, .cells #[.slice A2 l1.length c3, .int .i64 x2490, .int .i64 x2491, pV b73 0] 84 (0, 0))] :: [(b214, .cells #[.int .i64 x2492, .bool x2493, .slice A2495 x2494.length c2496] 81 (0, 0))] :: [(b73, .cells #[.slice none 0 0, .slice A2501 x2500.length c2502, .slice A2506 x2505.length c2507, .int .i64 0, .int .i64 0] 40 (0, 0))] :: s2508 :: s2503 :: [(b16, .cells #[.slice none 0 0, .slice none 0 0, .slice none 0 0, .int .i64 0, .int .i64 0] 40 (0, 0))] :: H) → Own ty_parcel 117 f2471 A2477 c2478 s2479 x2476 → Own ty_parcel 117 f2471 A2484 c2485 s2486 x2483 → Own ty_Exec 104 f2471 A2495 c2496 s2497 x2494 → Own (tInt .i64) 3 f2471 A2501 c2502 s2503 x2500 → Own (tInt .i64) 3 f2471 A2506 c2507 s2508 x2505 → a_ = ⟨⟨[.slice A2 l1.length c3, .slice A6 there5.length c7, .slice A10 back9.length c11, iV steps13] ++ (un 4 ([pV b16 0, iV 0, iV vt24, pV b73 0, pV b214 0, pV b220 0, pV b228 0, pV b232 0, (j2475 0), uV] ++ (jr j2475 1 3 ([uV] ++ (jr j2475 4 3 ([.slice A2 l1.length c3, .slice A6 there5.length c7, .slice A10 back9.length c11, iV vt24, iV vt24, fV, uV, uV] ++ (jr j46 0 5 ([fV, uV, .slice A2 l1.length c3, iV (l1.length : Int), (j2475 7), .slice A2 l1.length c3, iV (l1.length : Int), (j2475 8), (j2475 9), .slice A2 l1.length c3, .agg #[.slice A2 l1.length c3, iV 0, iV 0, pV b73 0], .slice A6 there5.length c7, .agg #[.slice A6 there5.length c7, .slice none 0 0, iV 0], pV b228 0, .slice A10 back9.length c11, .agg #[.slice A10 back9.length c11, .slice none 0 0, iV 0], pV b232 0, iV steps13] ++ (jr j2475 10 46 (un 14 []))))))))))⟩, []⟩ → K236 a_ W2473 := by
    intro f2471 A2477 c2478 s2479 A2484 c2485 s2486 A2495 c2496 s2497 A2501 c2502 s2503 A2506 c2507 s2508 x2476 x2482 x2483 x2489 x2490 x2491 x2492 x2493 x2494 x2500 x2505 j2475 W2473 a_ L2472 hj2512 HS2474 HO2480 HO2487 HO2498 HO2504 HO2509 hfr_; subst hfr_
    injection hj2512 with hj2512; subst hj2512; try dsimp only at h
    refine hK237 _ _ ?_
    refine wp_seq_k (fun K2555 hK2556 => ?_)
    have HS2567 := HS2474.u10.u10.u10.u9.u9.u9.u9.u9.u9.u9.u10
    refine heldG (S := Sg t f2471 (s2497 :: s2486 :: s2479 :: [(b232, .cells #[.slice A10 back9.length c11, .slice A2477 x2476.length c2478, .int .i64 x2482] 88 (0, 0))] :: [(b228, .cells #[.slice A6 there5.length c7, .slice A2484 x2483.length c2485, .int .i64 x2489] 88 (0, 0))] :: [(b220, .cells #[.slice A2 l1.length c3, .int .i64 x2490, .int .i64 x2491, pV b73 0] 84 (0, 0))] :: [(b214, .cells #[.int .i64 x2492, .bool x2493, .slice A2495 x2494.length c2496] 81 (0, 0))] :: s2508 :: s2503 :: [(b16, .cells #[.slice none 0 0, .slice none 0 0, .slice none 0 0, .int .i64 0, .int .i64 0] 40 (0, 0))] :: H) [(11, [(b73, .cells #[.slice none 0 0, .slice A2501 x2500.length c2502, .slice A2506 x2505.length c2507, .int .i64 0, .int .i64 0] 40 (0, 0))])]) (n := 16) kr rfl HS2567 ?_
    intro W2568 HS2569
    refine gL [0] (fuel := 15) (bA 16 1) rfl kr kr kr hnp (Sg.g1 (Sx.of [[(b73, .cells #[.slice none 0 0, .slice A2501 x2500.length c2502, .slice A2506 x2505.length c2507, .int .i64 0, .int .i64 0] 40 (0, 0))]] fL HS2569) (fun _ => St.only [] HS2569 fL)) fun X2570 => ?_
    refine gQ 1 rfl kr kr kr kr kr hnp X2570 (fun hl_ hS_ => run_load rfl Try.underlying38 rfl (kv (pV b214 2)) (hS_.u6.cell 2)) fun X2571 => ?_
    refine gL [2, 3, 4] (fuel := 11) (bA 16 31) rfl kr kr kr hnp X2571 fun X2572 => ?_
    refine gQ 5 rfl kr kr kr kr kr hnp X2572 (fun hl_ hS_ => run_load rfl Try.underlying3 rfl (kv (pV b228 2)) (hS_.u4.cell 2)) fun X2573 => ?_
    refine gL [6, 7, 8] (fuel := 7) (bA 16 511) rfl kr kr kr hnp X2573 fun X2574 => ?_
    refine gQ 9 rfl kr kr kr kr kr hnp X2574 (fun hl_ hS_ => run_load rfl Try.underlying3 rfl (kv (pV b232 2)) (hS_.u3.cell 2)) fun X2575 => ?_
    refine gL [10] (fuel := 5) (bA 16 2047) rfl kr kr kr hnp X2575 fun X2576 => ?_
    refine takeGE 11 kr rfl kr (does_store (n := 1) (vs := [.slice A2495 x2494.length c2496]) (cs' := #[.slice A2495 x2494.length c2496, .slice A2501 x2500.length c2502, .slice A2506 x2505.length c2507, .int .i64 0, .int .i64 0]) rfl kr (kv (pV b73 0)) (kv (.slice A2495 x2494.length c2496)) rfl rfl (ones rfl) HS2569 (Nat.le_of_ble_eq_true rfl) kr ?_)
    intro W2577 HS2578
    refine kB (Sg.g1 (Sx.of [[(b73, .cells #[.slice A2495 x2494.length c2496, .slice A2501 x2500.length c2502, .slice A2506 x2505.length c2507, .int .i64 0, .int .i64 0] 40 (0, 0))]] fL HS2578) (fun hl_ => Bool.noConfusion (show true = false from hl_))) fun X2579 => ?_
    refine gL [12] (fuel := 3) (bA 16 8191) rfl kr kr kr hnp X2579 fun X2580 => ?_
    refine takeGE 13 kr rfl kr (does_store (n := 1) (vs := [.int .i64 x2489]) (cs' := #[.slice A2495 x2494.length c2496, .slice A2501 x2500.length c2502, .slice A2506 x2505.length c2507, .int .i64 x2489, .int .i64 0]) rfl kr (kv (pV b73 3)) (kv (.int .i64 x2489)) rfl rfl (ones rfl) HS2578 (Nat.le_of_ble_eq_true rfl) kr ?_)
    intro W2581 HS2582
    refine kB (Sg.g1 (Sx.of [[(b73, .cells #[.slice A2495 x2494.length c2496, .slice A2501 x2500.length c2502, .slice A2506 x2505.length c2507, .int .i64 x2489, .int .i64 0] 40 (0, 0))]] fL HS2582) (fun hl_ => Bool.noConfusion (show true = false from hl_))) fun X2583 => ?_
    refine gL [14] (fuel := 1) (bA 16 32767) rfl kr kr kr hnp X2583 fun X2584 => ?_
    refine takeGE 15 kr rfl kr (does_store (n := 1) (vs := [.int .i64 x2482]) (cs' := #[.slice A2495 x2494.length c2496, .slice A2501 x2500.length c2502, .slice A2506 x2505.length c2507, .int .i64 x2489, .int .i64 x2482]) rfl kr (kv (pV b73 4)) (kv (.int .i64 x2482)) rfl rfl (ones rfl) HS2582 (Nat.le_of_ble_eq_true rfl) kr ?_)
    intro W2585 HS2586
    refine kB (Sg.g1 (Sx.of [[(b73, .cells #[.slice A2495 x2494.length c2496, .slice A2501 x2500.length c2502, .slice A2506 x2505.length c2507, .int .i64 x2489, .int .i64 x2482] 40 (0, 0))]] fL HS2586) (fun hl_ => Bool.noConfusion (show true = false from hl_))) fun X2587 => ?_
    refine doneG kr ?_ _
    refine hK2556 _ _ ?_
    refine wp_seq_k fun K2588 hK2589 => rl ?_
    refine seqK rfl (does_run (run_loadN (n := 5) rfl Try.underlying40 rfl kr (kv (pV b73 0)) (cs := [.slice A2495 x2494.length c2496, .slice A2501 x2500.length c2502, .slice A2506 x2505.length c2507, .int .i64 x2489, .int .i64 x2482]) rfl (HS2586.cells 0 5 _ rfl)) ?_)
    have HS2590 := HS2586.u10
    refine seqK rfl (does_storeA (vs := [.slice A2495 x2494.length c2496, .slice A2501 x2500.length c2502, .slice A2506 x2505.length c2507, .int .i64 x2489, .int .i64 x2482]) rfl kr kr kr rfl (ones rfl) HS2590 kr ?_)
    intro W2591 HS2592
    refine seqL1 kr ?_
    refine nl (hK2589 _ _ ?_)
    refine wp_ret ?_
    refine hret _ _ ?_
    refine ends (v := Value.tuple #[.agg #[.slice A2495 x2494.length c2496, .slice A2501 x2500.length c2502, .slice A2506 x2505.length c2507, .int .i64 x2489, .int .i64 x2482], .int .i64 0]) (results2 (q1 := .cell 8 40) (q2 := .tmp 9) kr (resN (n := 5) (cs := [.slice A2495 x2494.length c2496, .slice A2501 x2500.length c2502, .slice A2506 x2505.length c2507, .int .i64 x2489, .int .i64 x2482]) (kv (pV b16 0)) Try.underlying40 rfl kr rfl (HS2592.cells 0 5 _ rfl)) (resT (kv (.int .i64 0)))) kr ?_
    have HS2603 := HS2592.u9.u10.u4.u10.u10.u10.u10.u10.u10.u10.u10
    have HS2604 := HS2603.drop
    have HS2605 := HS2604.drop
    have HS2606 := HS2605.drop
    have HS2607 := HS2606.drop
    have HS2608 := HS2607.drop
    have HS2609 := HS2608.drop
    have HS2610 := HS2609.drop
    have HS2611 := HS2610.drop
    injection h with h
    injection h with h0_ h
    subst h0_ h
    exact ⟨f2471, A2495, c2496, s2497, A2501, c2502, s2503, A2506, c2507, s2508, rfl, (L27.trans (L43.trans L2472)), HS2611, HO2498, HO2504, HO2509⟩
   clear h; have h := hv2510; clear hv2510
   have HS2513 := HS234.cons_nil
   have HS2515 := HS2513.cons_nil
   have HS2517 := HS2515.cons_nil
   refine loopK (fun n_ a_ w_ => ∃ (f1692 : FM) (A1699 : Option Addr) (c1700 : Nat) (s1701 : Seg) (A1706 : Option Addr) (c1707 : Nat) (s1708 : Seg) (A1717 : Option Addr) (c1718 : Nat) (s1719 : Seg) (A1723 : Option Addr) (c1724 : Nat) (s1725 : Seg) (A1728 : Option Addr) (c1729 : Nat) (s1730 : Seg) (x1697 : Int) (x1698 : List S_parcel) (x1704 : Int) (x1705 : List S_parcel) (x1711 : Int) (x1712 : Int) (x1713 : Int) (x1714 : Int) (x1715 : Bool) (x1716 : List S_Exec) (x1722 : List Int) (x1727 : List Int) (j1696 : Nat → Value), FM.le f42 f1692 ∧ St t w_ f1692 (s1719 :: s1708 :: s1701 :: [(b232, .cells #[.slice A10 back9.length c11, .slice A1699 x1698.length c1700, .int .i64 x1704] 88 (0, 0))] :: [(b228, .cells #[.slice A6 there5.length c7, .slice A1706 x1705.length c1707, .int .i64 x1711] 88 (0, 0))] :: [(b220, .cells #[.slice A2 l1.length c3, .int .i64 x1712, .int .i64 x1713, pV b73 0] 84 (0, 0))] :: [(b214, .cells #[.int .i64 x1714, .bool x1715, .slice A1717 x1716.length c1718] 81 (0, 0))] :: [(b73, .cells #[.slice none 0 0, .slice A1723 x1722.length c1724, .slice A1728 x1727.length c1729, .int .i64 0, .int .i64 0] 40 (0, 0))] :: s1730 :: s1725 :: [(b16, .cells #[.slice none 0 0, .slice none 0 0, .slice none 0 0, .int .i64 0, .int .i64 0] 40 (0, 0))] :: H) ∧ Own ty_parcel 117 f1692 A1699 c1700 s1701 x1698 ∧ Own ty_parcel 117 f1692 A1706 c1707 s1708 x1705 ∧ Own ty_Exec 104 f1692 A1717 c1718 s1719 x1716 ∧ Own (tInt .i64) 3 f1692 A1723 c1724 s1725 x1722 ∧ Own (tInt .i64) 3 f1692 A1728 c1729 s1730 x1727 ∧ link_Run.l0 k steps13 there5 l1 back9 n_ x1697 x1698 x1704 x1705 x1711 x1712 x1713 x1714 x1715 x1716 x1722 x1727 = some o1688 ∧ a_ = ⟨⟨[.slice A2 l1.length c3, .slice A6 there5.length c7, .slice A10 back9.length c11, iV steps13] ++ (un 4 ([pV b16 0, iV 0, iV vt24, pV b73 0, pV b214 0, pV b220 0, pV b228 0, pV b232 0, (j1696 0), uV] ++ (jr j1696 1 3 ([uV] ++ (jr j1696 4 3 ([.slice A2 l1.length c3, .slice A6 there5.length c7, .slice A10 back9.length c11, iV vt24, iV vt24, fV, uV, uV] ++ (jr j46 0 5 ([fV, uV, .slice A2 l1.length c3, iV (l1.length : Int), .slice (some ⟨b61, 0, none⟩) (List.replicate ((l1.length : Int)).toNat (0 : Int)).length ((l1.length : Int)).toNat, .slice A2 l1.length c3, iV (l1.length : Int), .slice (some ⟨b67, 0, none⟩) (List.replicate ((l1.length : Int)).toNat (0 : Int)).length ((l1.length : Int)).toNat, .agg #[.slice none 0 0, .slice (some ⟨b61, 0, none⟩) (List.replicate ((l1.length : Int)).toNat (0 : Int)).length ((l1.length : Int)).toNat, .slice (some ⟨b67, 0, none⟩) (List.replicate ((l1.length : Int)).toNat (0 : Int)).length ((l1.length : Int)).toNat, iV 0, iV 0], .slice A2 l1.length c3, .agg #[.slice A2 l1.length c3, iV 0, iV 0, pV b73 0], .slice A6 there5.length c7, .agg #[.slice A6 there5.length c7, .slice none 0 0, iV 0], pV b228 0, .slice A10 back9.length c11, .agg #[.slice A10 back9.length c11, .slice none 0 0, iV 0], pV b232 0, iV steps13, iV x1697] ++ (jr j1696 7 45 (un 14 []))))))))))⟩, []⟩) k ⟨f42, none, 0, [], none, 0, [], none, 0, [], (some ⟨b61, 0, none⟩), (((l1.length : Int)).toNat), s63, (some ⟨b67, 0, none⟩), (((l1.length : Int)).toNat), s69, 0, ([] : List S_parcel), 0, ([] : List S_parcel), 0, 0, 0, 0, false, ([] : List S_Exec), (List.replicate ((l1.length : Int)).toNat (0 : Int)), (List.replicate ((l1.length : Int)).toNat (0 : Int)), (jL []), fL, HS2517, (Own.nil _), (Own.nil _), (Own.nil _), HO65, HO71, h, kr⟩ ?_
   clear h
   rintro n1691 _ W1694 ⟨f1692, A1699, c1700, s1701, A1706, c1707, s1708, A1717, c1718, s1719, A1723, c1724, s1725, A1728, c1729, s1730, x1697, x1698, x1704, x1705, x1711, x1712, x1713, x1714, x1715, x1716, x1722, x1727, j1696, L1693, HS1695, HO1702, HO1709, HO1720, HO1726, HO1731, h, rfl⟩ K1689 hK1690
   obtain _ | n1691 := n1691
   · exact nomatch h
   simp only [link_Run.l0] at h
   refine wp_seq_k fun K1732 hK1733 => rl ?_
   refine seqL1 kr ?_
   refine nl (hK1733 _ _ ?_)
   refine wp_seq_k (fun K1734 hK1735 => ?_)
   replace h := ite_some h; rcases h with ⟨c1737, h⟩ | ⟨c1737, h⟩
   rotate_left
   · have c1737 : ¬ (x1697 < steps13) := c1737
     refine wpRwI 57 kr (decide_eq_false c1737) ?_
     refine condF kr ?_
     refine wp_exit ?_
     refine hx241 _ _ ?_
     exact J2511 f1692 A1699 c1700 s1701 A1706 c1707 s1708 A1717 c1718 s1719 A1723 c1724 s1725 A1728 c1729 s1730 x1698 x1704 x1705 x1711 x1712 x1713 x1714 x1715 x1716 x1722 x1727 (jL [(j1696 0), (j1696 1), (j1696 2), (j1696 3), (j1696 4), (j1696 5), (j1696 6), .slice (some ⟨b61, 0, none⟩) (List.replicate ((l1.length : Int)).toNat (0 : Int)).length ((l1.length : Int)).toNat, .slice (some ⟨b67, 0, none⟩) (List.replicate ((l1.length : Int)).toNat (0 : Int)).length ((l1.length : Int)).toNat, .agg #[.slice none 0 0, .slice (some ⟨b61, 0, none⟩) (List.replicate ((l1.length : Int)).toNat (0 : Int)).length ((l1.length : Int)).toNat, .slice (some ⟨b67, 0, none⟩) (List.replicate ((l1.length : Int)).toNat (0 : Int)).length ((l1.length : Int)).toNat, .int .i64 0, .int .i64 0], iV x1697, fV, (j1696 8), (j1696 9), (j1696 10), (j1696 11), (j1696 12), (j1696 13), (j1696 14), (j1696 15), (j1696 16), (j1696 17), (j1696 18), (j1696 19), (j1696 20), (j1696 21), (j1696 22), (j1696 23), (j1696 24), (j1696 25), (j1696 26), (j1696 27), (j1696 28), (j1696 29), (j1696 30), (j1696 31), (j1696 32), (j1696 33), (j1696 34), (j1696 35), (j1696 36), (j1696 37), (j1696 38), (j1696 39), (j1696 40), (j1696 41), (j1696 42), (j1696 43), (j1696 44), (j1696 45), (j1696 46), (j1696 47), (j1696 48), (j1696 49), (j1696 50), (j1696 51)]) W1694 _ L1693 h HS1695 HO1702 HO1709 HO1720 HO1726 HO1731 kr
   have c1737 : x1697 < steps13 := c1737
   refine wpRwI 57 kr (decide_eq_true c1737) ?_
   refine condT kr ?_
   refine wp_skip ?_
   refine hK1735 _ _ ?_
   refine wp_seq_k (fun K1738 hK1739 => ?_)
   refine blockK (fun B1740 hx1741 hn1742 hr1743 ho1744 hp1745 => ?_)
   refine wp_seq_k fun K1747 hK1748 => rl ?_
   refine seqL2 kr ?_
   refine nl (hK1748 _ _ ?_)
   refine wp_seq_k (fun K1749 hK1750 => ?_)
   refine wp_seq_k fun K1751 hK1752 => rl ?_
   have HS1754 := HS1695.u1.u4
   replace h := bind_some h; obtain ⟨⟨vt1755, vt1756⟩, hc1757, h⟩ := h
   refine seqL2 kr ?_
   refine seqK rfl (does_call kr (link_line_take.calls k b228 A6 c7 A1706 c1707 s1708 (⟨there5, x1705, x1711⟩ : S_line) x1697 HS1754 (HR8.mono (L27.trans (L43.trans L1693))) HO1709 vt1755 vt1756 hc1757) ?_)
   rintro _ W1760 ⟨f1758, A1762, c1763, s1764, A1767, c1768, s1769, rfl, L1759, HS1761, HO1765, HO1770⟩
   refine ⟨_, rfl, ?_⟩
   refine seqL2 kr ?_
   refine nl (hK1752 _ _ ?_)
   refine blockK (fun B1772 hx1773 hn1774 hr1775 ho1776 hp1777 => ?_)
   replace h := bind_some h; obtain ⟨o1977, hv2102, h⟩ := h
   have J2103 : ∀ (f2084 : FM) (A2090 : Option Addr) (c2091 : Nat) (s2092 : Seg) (A2098 : Option Addr) (c2099 : Nat) (s2100 : Seg) (x2089 : List S_parcel) (x2094 : Int) (x2095 : Int) (x2096 : Bool) (x2097 : List S_Exec) (j2088 : Nat → Value) (W2086 : World) (a_ : Act), FM.le f1758 f2084 → some ((x2089, x2094, x2095, x2096, x2097)) = some o1977 → St t W2086 f2084 (s1764 :: s1769 :: [(b228, .cells #[.slice A6 there5.length c7, .slice A1767 vt1756.length c1768, .int .i64 x1711] 88 (0, 0))] :: s2100 :: s2092 :: [(b232, .cells #[.slice A10 back9.length c11, .slice A2090 x2089.length c2091, .int .i64 x2094] 88 (0, 0))] :: [(b220, .cells #[.slice A2 l1.length c3, .int .i64 x1712, .int .i64 x1713, pV b73 0] 84 (0, 0))] :: [(b214, .cells #[.int .i64 x2095, .bool x2096, .slice A2098 x2097.length c2099] 81 (0, 0))] :: [(b73, .cells #[.slice none 0 0, .slice A1723 x1722.length c1724, .slice A1728 x1727.length c1729, .int .i64 0, .int .i64 0] 40 (0, 0))] :: s1730 :: s1725 :: [(b16, .cells #[.slice none 0 0, .slice none 0 0, .slice none 0 0, .int .i64 0, .int .i64 0] 40 (0, 0))] :: H) → Own ty_parcel 117 f2084 A2090 c2091 s2092 x2089 → Own ty_Exec 104 f2084 A2098 c2099 s2100 x2097 → a_ = ⟨⟨[.slice A2 l1.length c3, .slice A6 there5.length c7, .slice A10 back9.length c11, iV steps13] ++ (un 4 ([pV b16 0, iV 0, iV vt24, pV b73 0, pV b214 0, pV b220 0, pV b228 0, pV b232 0, iV x1697, uV] ++ (jr j2088 0 3 ([uV] ++ (jr j1696 4 3 ([.slice A2 l1.length c3, .slice A6 there5.length c7, .slice A10 back9.length c11, iV vt24, iV vt24, fV, uV, uV] ++ (jr j46 0 5 ([fV, uV, .slice A2 l1.length c3, iV (l1.length : Int), .slice (some ⟨b61, 0, none⟩) (List.replicate ((l1.length : Int)).toNat (0 : Int)).length ((l1.length : Int)).toNat, .slice A2 l1.length c3, iV (l1.length : Int), .slice (some ⟨b67, 0, none⟩) (List.replicate ((l1.length : Int)).toNat (0 : Int)).length ((l1.length : Int)).toNat, .agg #[.slice none 0 0, .slice (some ⟨b61, 0, none⟩) (List.replicate ((l1.length : Int)).toNat (0 : Int)).length ((l1.length : Int)).toNat, .slice (some ⟨b67, 0, none⟩) (List.replicate ((l1.length : Int)).toNat (0 : Int)).length ((l1.length : Int)).toNat, iV 0, iV 0], .slice A2 l1.length c3, .agg #[.slice A2 l1.length c3, iV 0, iV 0, pV b73 0], .slice A6 there5.length c7, .agg #[.slice A6 there5.length c7, .slice none 0 0, iV 0], pV b228 0, .slice A10 back9.length c11, .agg #[.slice A10 back9.length c11, .slice none 0 0, iV 0], pV b232 0, iV steps13, iV x1697, tV, iV x1697, pV b228 0, iV x1697, .slice A1762 vt1755.length c1763, iV (vt1755.length : Int)] ++ (jr j2088 3 16 (jr j1696 29 23 (un 14 [])))))))))))⟩, []⟩ → K1749 a_ W2086 := by
    intro f2084 A2090 c2091 s2092 A2098 c2099 s2100 x2089 x2094 x2095 x2096 x2097 j2088 W2086 a_ L2085 hj2104 HS2087 HO2093 HO2101 hfr_; subst hfr_
    injection hj2104 with hj2104; subst hj2104; try dsimp only at h
    refine hK1750 _ _ ?_
    refine wp_seq_k (fun K2139 hK2140 => ?_)
    refine wp_seq_k fun K2141 hK2142 => rl ?_
    have HS2144 := HS2087.u4.u5
    replace h := bind_some h; obtain ⟨⟨vt2145, vt2146⟩, hc2147, h⟩ := h
    refine seqL2 kr ?_
    refine seqK rfl (does_call kr (link_line_take.calls k b232 A10 c11 A2090 c2091 s2092 (⟨back9, x2089, x2094⟩ : S_line) x1697 HS2144 (HR12.mono (L27.trans (L43.trans (L1693.trans (L1759.trans L2085))))) HO2093 vt2145 vt2146 hc2147) ?_)
    rintro _ W2150 ⟨f2148, A2152, c2153, s2154, A2157, c2158, s2159, rfl, L2149, HS2151, HO2155, HO2160⟩
    refine ⟨_, rfl, ?_⟩
    refine seqL2 kr ?_
    refine nl (hK2142 _ _ ?_)
    refine blockK (fun B2162 hx2163 hn2164 hr2165 ho2166 hp2167 => ?_)
    replace h := bind_some h; obtain ⟨o2303, hv2393, h⟩ := h
    have J2394 : ∀ (f2377 : FM) (A2384 : Option Addr) (c2385 : Nat) (s2386 : Seg) (A2389 : Option Addr) (c2390 : Nat) (s2391 : Seg) (x2382 : Int) (x2383 : List Int) (x2388 : List Int) (j2381 : Nat → Value) (W2379 : World) (a_ : Act), FM.le f2148 f2377 → some ((x2382, x2383, x2388)) = some o2303 → St t W2379 f2377 (s2154 :: s2159 :: [(b232, .cells #[.slice A10 back9.length c11, .slice A2157 vt2146.length c2158, .int .i64 x2094] 88 (0, 0))] :: s1764 :: s1769 :: [(b228, .cells #[.slice A6 there5.length c7, .slice A1767 vt1756.length c1768, .int .i64 x1711] 88 (0, 0))] :: s2100 :: [(b220, .cells #[.slice A2 l1.length c3, .int .i64 x2382, .int .i64 x1713, pV b73 0] 84 (0, 0))] :: [(b214, .cells #[.int .i64 x2095, .bool x2096, .slice A2098 x2097.length c2099] 81 (0, 0))] :: [(b73, .cells #[.slice none 0 0, .slice A2384 x2383.length c2385, .slice A2389 x2388.length c2390, .int .i64 0, .int .i64 0] 40 (0, 0))] :: s2391 :: s2386 :: [(b16, .cells #[.slice none 0 0, .slice none 0 0, .slice none 0 0, .int .i64 0, .int .i64 0] 40 (0, 0))] :: H) → Own (tInt .i64) 3 f2377 A2384 c2385 s2386 x2383 → Own (tInt .i64) 3 f2377 A2389 c2390 s2391 x2388 → a_ = ⟨⟨[.slice A2 l1.length c3, .slice A6 there5.length c7, .slice A10 back9.length c11, iV steps13] ++ (un 4 ([pV b16 0, iV 0, iV vt24, pV b73 0, pV b214 0, pV b220 0, pV b228 0, pV b232 0, iV x1697, uV] ++ (jr j2088 0 3 ([uV, (j2381 0), (j1696 5), (j1696 6), .slice A2 l1.length c3, .slice A6 there5.length c7, .slice A10 back9.length c11, iV vt24, iV vt24, fV, uV, uV] ++ (jr j46 0 5 ([fV, uV, .slice A2 l1.length c3, iV (l1.length : Int), .slice (some ⟨b61, 0, none⟩) (List.replicate ((l1.length : Int)).toNat (0 : Int)).length ((l1.length : Int)).toNat, .slice A2 l1.length c3, iV (l1.length : Int), .slice (some ⟨b67, 0, none⟩) (List.replicate ((l1.length : Int)).toNat (0 : Int)).length ((l1.length : Int)).toNat, .agg #[.slice none 0 0, .slice (some ⟨b61, 0, none⟩) (List.replicate ((l1.length : Int)).toNat (0 : Int)).length ((l1.length : Int)).toNat, .slice (some ⟨b67, 0, none⟩) (List.replicate ((l1.length : Int)).toNat (0 : Int)).length ((l1.length : Int)).toNat, iV 0, iV 0], .slice A2 l1.length c3, .agg #[.slice A2 l1.length c3, iV 0, iV 0, pV b73 0], .slice A6 there5.length c7, .agg #[.slice A6 there5.length c7, .slice none 0 0, iV 0], pV b228 0, .slice A10 back9.length c11, .agg #[.slice A10 back9.length c11, .slice none 0 0, iV 0], pV b232 0, iV steps13, iV x1697, tV, iV x1697, pV b228 0, iV x1697, .slice A1762 vt1755.length c1763, iV (vt1755.length : Int)] ++ (jr j2088 3 16 ([pV b232 0, iV x1697, .slice A2152 vt2145.length c2153, iV (vt2145.length : Int)] ++ (jr j2381 1 8 (jr j1696 41 11 (un 14 [])))))))))))⟩, []⟩ → K2139 a_ W2379 := by
     intro f2377 A2384 c2385 s2386 A2389 c2390 s2391 x2382 x2383 x2388 j2381 W2379 a_ L2378 hj2395 HS2380 HO2387 HO2392 hfr_; subst hfr_
     injection hj2395 with hj2395; subst hj2395; try dsimp only at h
     refine hK2140 _ _ ?_
     refine wp_seq_k fun K2411 hK2412 => rl ?_
     have HS2416 := HS2380.u10.u11.u11.u10
     replace h := bind_some h; obtain ⟨⟨vt2417, vt2418, vt2419, vt2420, vt2421⟩, hc2422, h⟩ := h
     refine seqL1 kr ?_
     refine seqK rfl (does_call kr (link_controller_act.calls k b220 A2 c3 b73 none 0 A2384 c2385 s2386 A2389 c2390 s2391 (⟨l1, x2382, x1713, ()⟩ : S_controller) (⟨([] : List S_Exec), x2383, x2388, 0, 0⟩ : S_Log) x1697 HS2416 (HR4.mono (L27.trans (L43.trans (L1693.trans (L1759.trans (L2085.trans (L2149.trans L2378))))))) (SlR.nil _ _) HO2387 HO2392 vt2417 vt2418 vt2419 vt2420 vt2421 hc2422) ?_)
     rintro _ W2425 ⟨f2423, A2427, c2428, s2429, A2432, c2433, s2434, A2437, c2438, s2439, rfl, L2424, HS2426, HO2430, HO2435, HO2440⟩
     refine ⟨_, rfl, ?_⟩
     refine seqL3 kr ?_
     refine seqK rfl (does_alloc (z := Value.agg #[.int .i64 0, .int .i64 0, .int .i64 0, .slice none 0 0]) (cs := #[.int .i64 0, .int .i64 0, .int .i64 0, .slice none 0 0]) rfl kr rfl HS2426 ?_)
     intro b2442 W2443 HS2444
     refine seqK rfl (does_storeA (vs := [.int .i64 vt2417.Addr, .int .i64 vt2417.Kind, .int .i64 vt2417.Seq, .slice A2427 vt2417.Data.length c2428]) rfl kr kr kr rfl (ones rfl) HS2444 kr ?_)
     intro W2446 HS2447
     refine seqL1 kr ?_
     refine nl (hK2412 _ _ ?_)
     refine wp_seq_k fun K2448 hK2449 => rl ?_
     refine seqL1 kr ?_
     refine nl (hK2449 _ _ ?_)
     replace h := ite_some h; rcases h with ⟨c2451, h⟩ | ⟨c2451, h⟩
     rotate_left
     · have c2451 : ¬ (vt2418 = true) := c2451
       refine wpRwI 24 kr (Bool.eq_false_iff.mpr c2451) ?_
       refine wpRwI 95 kr (Bool.eq_false_iff.mpr c2451) ?_
       refine wpRwI 96 kr (Bool.eq_false_iff.mpr c2451) ?_
       refine condF kr ?_
       refine wp_skip ?_
       refine hn1742 _ _ ?_
       refine hK1739 _ _ ?_
       refine rl ?_
       refine seqL2 kr ?_
       refine nl ?_
       refine hK1690 n1691 _ _ (Nat.lt_succ_self _) ?_
       have HS2550 := HS2447.u14.u3.u4.u6.u14.u7.u13.u11.u11.u13.u14.u14.u14.u14.u14
       have HS2551 := HS2550.drop
       have HS2552 := HS2551.drop
       have HS2553 := HS2552.drop
       have HS2554 := HS2553.drop
       exact ⟨f2423, A2157, c2158, s2159, A1767, c1768, s1769, A2098, c2099, s2100, A2432, c2433, s2434, A2437, c2438, s2439, (w64 (x1697 + 1)), vt2146, x2094, vt1756, x1711, x2382, vt2419, x2095, x2096, x2097, vt2420, vt2421, (jL [iV x1697, (j2088 0), (j2088 1), (j2088 2), (j2381 0), pV b2442 0, fV, tV, iV x1697, pV b228 0, iV x1697, .slice A1762 vt1755.length c1763, iV (vt1755.length : Int), (j2088 3), (j2088 4), (j2088 5), (j2088 6), (j2088 7), (j2088 8), (j2088 9), (j2088 10), (j2088 11), (j2088 12), (j2088 13), (j2088 14), (j2088 15), (j2088 16), (j2088 17), (j2088 18), pV b232 0, iV x1697, .slice A2152 vt2145.length c2153, iV (vt2145.length : Int), (j2381 1), (j2381 2), (j2381 3), (j2381 4), (j2381 5), (j2381 6), (j2381 7), (j2381 8), .tuple #[(ag_Packet vt2417 A2427 c2428), .bool vt2418], iV x1697, .tuple #[(ag_Packet vt2417 A2427 c2428), .bool vt2418], (ag_Packet vt2417 A2427 c2428), fV, fV, (j1696 47), (j1696 48), (j1696 49), (j1696 50), iV (w64 (x1697 + 1))]), (L1693.trans (L1759.trans (L2085.trans (L2149.trans (L2378.trans L2424))))), HS2554, (HO2160.mono (L2378.trans L2424)), (HO1770.mono (L2085.trans (L2149.trans (L2378.trans L2424)))), (HO2101.mono (L2149.trans (L2378.trans L2424))), HO2435, HO2440, h, kr⟩
     have c2451 : vt2418 = true := c2451
     refine wpRwI 24 kr c2451 ?_
     refine wpRwI 95 kr c2451 ?_
     refine wpRwI 96 kr c2451 ?_
     refine condT kr ?_
     refine rl ?_
     refine seqL1 kr ?_
     refine seqK rfl (does_run (run_loadN (n := 4) rfl Try.underlying93 rfl kr (kv (pV b2442 0)) (cs := [.int .i64 vt2417.Addr, .int .i64 vt2417.Kind, .int .i64 vt2417.Seq, .slice A2427 vt2417.Data.length c2428]) rfl (HS2447.cells 0 4 _ rfl)) ?_)
     have HS2452 := HS2447.u1
     obtain ⟨f2453, L2454, HS2455, HR2456⟩ := HO2430.freeze HS2452
     have HS2458 := HS2455.u9.u10
     replace h := bind_some h; obtain ⟨⟨vt2459, vt2460⟩, hc2461, h⟩ := h
     refine seqL1 kr ?_
     refine seqK rfl (does_call kr (link_line_send.calls k b228 A6 c7 A1767 c1768 s1769 A2427 c2428 (⟨there5, vt1756, x1711⟩ : S_line) vt2417 x1697 HS2458 (HR8.mono (L27.trans (L43.trans (L1693.trans (L1759.trans (L2085.trans (L2149.trans (L2378.trans (L2424.trans L2454))))))))) (HO1770.mono (L2085.trans (L2149.trans (L2378.trans (L2424.trans L2454))))) HR2456 vt2459 vt2460 hc2461) ?_)
     rintro _ W2464 ⟨f2462, A2466, c2467, s2468, rfl, L2463, HS2465, HO2469⟩
     refine ⟨_, rfl, ?_⟩
     refine nl ?_
     refine hn1742 _ _ ?_
     refine hK1739 _ _ ?_
     refine rl ?_
     refine seqL2 kr ?_
     refine nl ?_
     refine hK1690 n1691 _ _ (Nat.lt_succ_self _) ?_
     have HS2532 := HS2465.u13.u4.u5.u7.u13.u8.u7.u11.u11.u9.u13.u13.u13.u13
     have HS2533 := HS2532.drop
     have HS2534 := HS2533.drop
     have HS2535 := HS2534.drop
     exact ⟨f2462, A2157, c2158, s2159, A2466, c2467, s2468, A2098, c2099, s2100, A2432, c2433, s2434, A2437, c2438, s2439, (w64 (x1697 + 1)), vt2146, x2094, vt2459, vt2460, x2382, vt2419, x2095, x2096, x2097, vt2420, vt2421, (jL [iV x1697, (j2088 0), (j2088 1), (j2088 2), (j2381 0), pV b2442 0, tV, tV, iV x1697, pV b228 0, iV x1697, .slice A1762 vt1755.length c1763, iV (vt1755.length : Int), (j2088 3), (j2088 4), (j2088 5), (j2088 6), (j2088 7), (j2088 8), (j2088 9), (j2088 10), (j2088 11), (j2088 12), (j2088 13), (j2088 14), (j2088 15), (j2088 16), (j2088 17), (j2088 18), pV b232 0, iV x1697, .slice A2152 vt2145.length c2153, iV (vt2145.length : Int), (j2381 1), (j2381 2), (j2381 3), (j2381 4), (j2381 5), (j2381 6), (j2381 7), (j2381 8), .tuple #[(ag_Packet vt2417 A2427 c2428), .bool vt2418], iV x1697, .tuple #[(ag_Packet vt2417 A2427 c2428), .bool vt2418], (ag_Packet vt2417 A2427 c2428), tV, tV, pV b228 0, (ag_Packet vt2417 A2427 c2428), iV x1697, .tuple #[], iV (w64 (x1697 + 1))]), (L1693.trans (L1759.trans (L2085.trans (L2149.trans (L2378.trans (L2424.trans (L2454.trans L2463))))))), HS2535, (HO2160.mono (L2378.trans (L2424.trans (L2454.trans L2463)))), HO2469, (HO2101.mono (L2149.trans (L2378.trans (L2424.trans (L2454.trans L2463))))), (HO2435.mono (L2454.trans L2463)), (HO2440.mono (L2454.trans L2463)), h, kr⟩
    clear h; have h := hv2393; clear hv2393
    refine loopK (fun n_ a_ w_ => ∃ (f2307 : FM) (A2315 : Option Addr) (c2316 : Nat) (s2317 : Seg) (A2320 : Option Addr) (c2321 : Nat) (s2322 : Seg) (x2312 : Int) (x2313 : Int) (x2314 : List Int) (x2319 : List Int) (j2311 : Nat → Value), FM.le f2148 f2307 ∧ St t w_ f2307 (s2154 :: s2159 :: [(b232, .cells #[.slice A10 back9.length c11, .slice A2157 vt2146.length c2158, .int .i64 x2094] 88 (0, 0))] :: s1764 :: s1769 :: [(b228, .cells #[.slice A6 there5.length c7, .slice A1767 vt1756.length c1768, .int .i64 x1711] 88 (0, 0))] :: s2100 :: [(b220, .cells #[.slice A2 l1.length c3, .int .i64 x2313, .int .i64 x1713, pV b73 0] 84 (0, 0))] :: [(b214, .cells #[.int .i64 x2095, .bool x2096, .slice A2098 x2097.length c2099] 81 (0, 0))] :: [(b73, .cells #[.slice none 0 0, .slice A2315 x2314.length c2316, .slice A2320 x2319.length c2321, .int .i64 0, .int .i64 0] 40 (0, 0))] :: s2322 :: s2317 :: [(b16, .cells #[.slice none 0 0, .slice none 0 0, .slice none 0 0, .int .i64 0, .int .i64 0] 40 (0, 0))] :: H) ∧ Own (tInt .i64) 3 f2307 A2315 c2316 s2317 x2314 ∧ Own (tInt .i64) 3 f2307 A2320 c2321 s2322 x2319 ∧ link_Run.l2 k vt2145 l1 x1713 x1697 n_ x2312 x2313 x2314 x2319 = some o2303 ∧ a_ = ⟨⟨[.slice A2 l1.length c3, .slice A6 there5.length c7, .slice A10 back9.length c11, iV steps13] ++ (un 4 ([pV b16 0, iV 0, iV vt24, pV b73 0, pV b214 0, pV b220 0, pV b228 0, pV b232 0, iV x1697, uV] ++ (jr j2088 0 3 ([uV, (j2311 0), (j1696 5), (j1696 6), .slice A2 l1.length c3, .slice A6 there5.length c7, .slice A10 back9.length c11, iV vt24, iV vt24, fV, uV, uV] ++ (jr j46 0 5 ([fV, uV, .slice A2 l1.length c3, iV (l1.length : Int), .slice (some ⟨b61, 0, none⟩) (List.replicate ((l1.length : Int)).toNat (0 : Int)).length ((l1.length : Int)).toNat, .slice A2 l1.length c3, iV (l1.length : Int), .slice (some ⟨b67, 0, none⟩) (List.replicate ((l1.length : Int)).toNat (0 : Int)).length ((l1.length : Int)).toNat, .agg #[.slice none 0 0, .slice (some ⟨b61, 0, none⟩) (List.replicate ((l1.length : Int)).toNat (0 : Int)).length ((l1.length : Int)).toNat, .slice (some ⟨b67, 0, none⟩) (List.replicate ((l1.length : Int)).toNat (0 : Int)).length ((l1.length : Int)).toNat, iV 0, iV 0], .slice A2 l1.length c3, .agg #[.slice A2 l1.length c3, iV 0, iV 0, pV b73 0], .slice A6 there5.length c7, .agg #[.slice A6 there5.length c7, .slice none 0 0, iV 0], pV b228 0, .slice A10 back9.length c11, .agg #[.slice A10 back9.length c11, .slice none 0 0, iV 0], pV b232 0, iV steps13, iV x1697, tV, iV x1697, pV b228 0, iV x1697, .slice A1762 vt1755.length c1763, iV (vt1755.length : Int)] ++ (jr j2088 3 16 ([pV b232 0, iV x1697, .slice A2152 vt2145.length c2153, iV (vt2145.length : Int), iV x2312] ++ (jr j2311 1 7 (jr j1696 41 11 (un 14 [])))))))))))⟩, []⟩) k ⟨f2148, A1723, c1724, s1725, A1728, c1729, s1730, 0, x1712, x1722, x1727, (jL [(j1696 4), (j1696 34), (j1696 35), (j1696 36), (j1696 37), (j1696 38), (j1696 39), (j1696 40)]), fL, HS2151, (HO1726.mono (L1759.trans (L2085.trans L2149))), (HO1731.mono (L1759.trans (L2085.trans L2149))), h, kr⟩ ?_
    clear h
    rintro n2306 _ W2309 ⟨f2307, A2315, c2316, s2317, A2320, c2321, s2322, x2312, x2313, x2314, x2319, j2311, L2308, HS2310, HO2318, HO2323, h, rfl⟩ K2304 hK2305
    obtain _ | n2306 := n2306
    · exact nomatch h
    simp only [link_Run.l2] at h
    refine wp_seq_k fun K2324 hK2325 => rl ?_
    refine seqL1 kr ?_
    refine nl (hK2325 _ _ ?_)
    refine wp_seq_k (fun K2326 hK2327 => ?_)
    replace h := ite_some h; rcases h with ⟨c2329, h⟩ | ⟨c2329, h⟩
    rotate_left
    · have c2329 : ¬ (x2312 < (vt2145.length : Int)) := c2329
      refine wpRwI 84 kr (decide_eq_false c2329) ?_
      refine condF kr ?_
      refine wp_exit ?_
      refine hx2163 _ _ ?_
      exact J2394 f2307 A2315 c2316 s2317 A2320 c2321 s2322 x2313 x2314 x2319 (jL [(j2311 0), iV x2312, fV, (j2311 2), (j2311 3), (j2311 4), (j2311 5), (j2311 6), (j2311 7)]) W2309 _ L2308 h HS2310 HO2318 HO2323 kr
    have c2329 : x2312 < (vt2145.length : Int) := c2329
    refine wpRwI 84 kr (decide_eq_true c2329) ?_
    refine condT kr ?_
    refine wp_skip ?_
    refine hK2327 _ _ ?_
    refine wp_seq_k (fun K2330 hK2331 => ?_)
    refine blockK (fun B2332 hx2333 hn2334 hr2335 ho2336 hp2337 => ?_)
    refine wp_seq_k fun K2339 hK2340 => rl ?_
    replace h := guard_some h; obtain ⟨c2341, h⟩ := h
    have c2341 : 0 ≤ x2312 := c2341
    obtain ⟨b2345, of2346, cs2342, hA2347, hr2343, hc2344⟩ := (HO2155.mono L2308).at (i := x2312) c2341 c2329
    obtain ⟨A2348, c2348, rfl, HR2348⟩ := hr2343
    refine seqK rfl (does_run (run_indexE hA2347 (sz := 4) rfl Try.underlying89 kr (kv (.slice A2152 vt2145.length c2153)) (kv (.int .i64 x2312)) c2341 c2329 W2309) ?_)
    refine seqK rfl (does_run (run_loadN (n := 4) rfl Try.underlying93 rfl kr (kv (pV b2345 (of2346 + (x2312 : Int).toNat * 4))) (cs := [.int .i64 ((rd vt2145 x2312).Addr), .int .i64 ((rd vt2145 x2312).Kind), .int .i64 ((rd vt2145 x2312).Seq), .slice A2348 ((rd vt2145 x2312).Data).length c2348]) rfl (fun j_ hj_ => ((hc2344 HS2310) j_ hj_))) ?_)
    refine seqK rfl (does_alloc (z := Value.agg #[.int .i64 0, .int .i64 0, .int .i64 0, .slice none 0 0]) (cs := #[.int .i64 0, .int .i64 0, .int .i64 0, .slice none 0 0]) rfl kr rfl HS2310 ?_)
    intro b2349 W2350 HS2351
    refine seqK rfl (does_storeA (vs := [.int .i64 ((rd vt2145 x2312).Addr), .int .i64 ((rd vt2145 x2312).Kind), .int .i64 ((rd vt2145 x2312).Seq), .slice A2348 ((rd vt2145 x2312).Data).length c2348]) rfl kr kr kr rfl (ones rfl) HS2351 kr ?_)
    intro W2353 HS2354
    refine nl (hK2340 _ _ ?_)
    refine rl ?_
    refine seqK rfl (does_run (run_loadN (n := 4) rfl Try.underlying93 rfl kr (kv (pV b2349 0)) (cs := [.int .i64 ((rd vt2145 x2312).Addr), .int .i64 ((rd vt2145 x2312).Kind), .int .i64 ((rd vt2145 x2312).Seq), .slice A2348 ((rd vt2145 x2312).Data).length c2348]) rfl (HS2354.cells 0 4 _ rfl)) ?_)
    have HS2358 := HS2354.u11.u12.u12.u11
    replace h := bind_some h; obtain ⟨⟨vt2359, vt2360, vt2361⟩, hc2362, h⟩ := h
    refine seqL1 kr ?_
    refine seqK rfl (does_call kr (link_controller_hear.calls k b220 A2 c3 b73 none 0 A2315 c2316 s2317 A2320 c2321 s2322 A2348 c2348 (⟨l1, x2313, x1713, ()⟩ : S_controller) (⟨([] : List S_Exec), x2314, x2319, 0, 0⟩ : S_Log) (rd vt2145 x2312) x1697 HS2358 (HR4.mono (L27.trans (L43.trans (L1693.trans (L1759.trans (L2085.trans (L2149.trans L2308))))))) (SlR.nil _ _) HO2318 HO2323 HR2348 vt2359 vt2360 vt2361 hc2362) ?_)
    rintro _ W2365 ⟨f2363, A2367, c2368, s2369, A2372, c2373, s2374, rfl, L2364, HS2366, HO2370, HO2375⟩
    refine ⟨_, rfl, ?_⟩
    refine nl ?_
    refine hn2334 _ _ ?_
    refine hK2331 _ _ ?_
    refine rl ?_
    refine seqL2 kr ?_
    refine nl ?_
    refine hK2305 n2306 _ _ (Nat.lt_succ_self _) ?_
    have HS2409 := HS2366.u13.u1.u2.u4.u13.u5.u13.u13.u13.u13.u13.u13.u13.u13
    have HS2410 := HS2409.drop
    exact ⟨f2363, A2367, c2368, s2369, A2372, c2373, s2374, (w64 (x2312 + 1)), vt2359, vt2360, vt2361, (jL [pV b2349 0, tV, pV b2345 (of2346 + (x2312 : Int).toNat * 4), (ag_Packet (rd vt2145 x2312) A2348 c2348), (ag_Packet (rd vt2145 x2312) A2348 c2348), iV x1697, .tuple #[], iV (w64 (x2312 + 1))]), (L2308.trans L2364), HS2410, HO2370, HO2375, h, kr⟩
   clear h; have h := hv2102; clear hv2102
   refine loopK (fun n_ a_ w_ => ∃ (f1981 : FM) (A1988 : Option Addr) (c1989 : Nat) (s1990 : Seg) (A1996 : Option Addr) (c1997 : Nat) (s1998 : Seg) (x1986 : Int) (x1987 : List S_parcel) (x1992 : Int) (x1993 : Int) (x1994 : Bool) (x1995 : List S_Exec) (j1985 : Nat → Value), FM.le f1758 f1981 ∧ St t w_ f1981 (s1764 :: s1769 :: [(b228, .cells #[.slice A6 there5.length c7, .slice A1767 vt1756.length c1768, .int .i64 x1711] 88 (0, 0))] :: s1998 :: s1990 :: [(b232, .cells #[.slice A10 back9.length c11, .slice A1988 x1987.length c1989, .int .i64 x1992] 88 (0, 0))] :: [(b220, .cells #[.slice A2 l1.length c3, .int .i64 x1712, .int .i64 x1713, pV b73 0] 84 (0, 0))] :: [(b214, .cells #[.int .i64 x1993, .bool x1994, .slice A1996 x1995.length c1997] 81 (0, 0))] :: [(b73, .cells #[.slice none 0 0, .slice A1723 x1722.length c1724, .slice A1728 x1727.length c1729, .int .i64 0, .int .i64 0] 40 (0, 0))] :: s1730 :: s1725 :: [(b16, .cells #[.slice none 0 0, .slice none 0 0, .slice none 0 0, .int .i64 0, .int .i64 0] 40 (0, 0))] :: H) ∧ Own ty_parcel 117 f1981 A1988 c1989 s1990 x1987 ∧ Own ty_Exec 104 f1981 A1996 c1997 s1998 x1995 ∧ link_Run.l1 k vt1755 x1697 back9 l1 n_ x1986 x1987 x1992 x1993 x1994 x1995 = some o1977 ∧ a_ = ⟨⟨[.slice A2 l1.length c3, .slice A6 there5.length c7, .slice A10 back9.length c11, iV steps13] ++ (un 4 ([pV b16 0, iV 0, iV vt24, pV b73 0, pV b214 0, pV b220 0, pV b228 0, pV b232 0, iV x1697, uV] ++ (jr j1985 0 3 ([uV] ++ (jr j1696 4 3 ([.slice A2 l1.length c3, .slice A6 there5.length c7, .slice A10 back9.length c11, iV vt24, iV vt24, fV, uV, uV] ++ (jr j46 0 5 ([fV, uV, .slice A2 l1.length c3, iV (l1.length : Int), .slice (some ⟨b61, 0, none⟩) (List.replicate ((l1.length : Int)).toNat (0 : Int)).length ((l1.length : Int)).toNat, .slice A2 l1.length c3, iV (l1.length : Int), .slice (some ⟨b67, 0, none⟩) (List.replicate ((l1.length : Int)).toNat (0 : Int)).length ((l1.length : Int)).toNat, .agg #[.slice none 0 0, .slice (some ⟨b61, 0, none⟩) (List.replicate ((l1.length : Int)).toNat (0 : Int)).length ((l1.length : Int)).toNat, .slice (some ⟨b67, 0, none⟩) (List.replicate ((l1.length : Int)).toNat (0 : Int)).length ((l1.length : Int)).toNat, iV 0, iV 0], .slice A2 l1.length c3, .agg #[.slice A2 l1.length c3, iV 0, iV 0, pV b73 0], .slice A6 there5.length c7, .agg #[.slice A6 there5.length c7, .slice none 0 0, iV 0], pV b228 0, .slice A10 back9.length c11, .agg #[.slice A10 back9.length c11, .slice none 0 0, iV 0], pV b232 0, iV steps13, iV x1697, tV, iV x1697, pV b228 0, iV x1697, .slice A1762 vt1755.length c1763, iV (vt1755.length : Int), iV x1986] ++ (jr j1985 3 15 (jr j1696 29 23 (un 14 [])))))))))))⟩, []⟩) k ⟨f1758, A1699, c1700, s1701, A1717, c1718, s1719, 0, x1698, x1704, x1714, x1715, x1716, (jL [(j1696 1), (j1696 2), (j1696 3), (j1696 14), (j1696 15), (j1696 16), (j1696 17), (j1696 18), (j1696 19), (j1696 20), (j1696 21), (j1696 22), (j1696 23), (j1696 24), (j1696 25), (j1696 26), (j1696 27), (j1696 28)]), fL, HS1761, (HO1702.mono L1759), (HO1720.mono L1759), h, kr⟩ ?_
   clear h
   rintro n1980 _ W1983 ⟨f1981, A1988, c1989, s1990, A1996, c1997, s1998, x1986, x1987, x1992, x1993, x1994, x1995, j1985, L1982, HS1984, HO1991, HO1999, h, rfl⟩ K1978 hK1979
   obtain _ | n1980 := n1980
   · exact nomatch h
   simp only [link_Run.l1] at h
   refine wp_seq_k fun K2000 hK2001 => rl ?_
   refine seqL1 kr ?_
   refine nl (hK2001 _ _ ?_)
   refine wp_seq_k (fun K2002 hK2003 => ?_)
   replace h := ite_some h; rcases h with ⟨c2005, h⟩ | ⟨c2005, h⟩
   rotate_left
   · have c2005 : ¬ (x1986 < (vt1755.length : Int)) := c2005
     refine wpRwI 64 kr (decide_eq_false c2005) ?_
     refine condF kr ?_
     refine wp_exit ?_
     refine hx1773 _ _ ?_
     exact J2103 f1981 A1988 c1989 s1990 A1996 c1997 s1998 x1987 x1992 x1993 x1994 x1995 (jL [(j1985 0), (j1985 1), (j1985 2), iV x1986, fV, (j1985 4), (j1985 5), (j1985 6), (j1985 7), (j1985 8), (j1985 9), (j1985 10), (j1985 11), (j1985 12), (j1985 13), (j1985 14), (j1985 15), (j1985 16), (j1985 17)]) W1983 _ L1982 h HS1984 HO1991 HO1999 kr
   have c2005 : x1986 < (vt1755.length : Int) := c2005
   refine wpRwI 64 kr (decide_eq_true c2005) ?_
   refine condT kr ?_
   refine wp_skip ?_
   refine hK2003 _ _ ?_
   refine wp_seq_k (fun K2006 hK2007 => ?_)
   refine blockK (fun B2008 hx2009 hn2010 hr2011 ho2012 hp2013 => ?_)
   refine wp_seq_k fun K2015 hK2016 => rl ?_
   replace h := guard_some h; obtain ⟨c2017, h⟩ := h
   have c2017 : 0 ≤ x1986 := c2017
   obtain ⟨b2021, of2022, cs2018, hA2023, hr2019, hc2020⟩ := (HO1765.mono L1982).at (i := x1986) c2017 c2005
   obtain ⟨A2024, c2024, rfl, HR2024⟩ := hr2019
   refine seqK rfl (does_run (run_indexE hA2023 (sz := 4) rfl Try.underlying89 kr (kv (.slice A1762 vt1755.length c1763)) (kv (.int .i64 x1986)) c2017 c2005 W1983) ?_)
   refine seqK rfl (does_run (run_loadN (n := 4) rfl Try.underlying93 rfl kr (kv (pV b2021 (of2022 + (x1986 : Int).toNat * 4))) (cs := [.int .i64 ((rd vt1755 x1986).Addr), .int .i64 ((rd vt1755 x1986).Kind), .int .i64 ((rd vt1755 x1986).Seq), .slice A2024 ((rd vt1755 x1986).Data).length c2024]) rfl (fun j_ hj_ => ((hc2020 HS1984) j_ hj_))) ?_)
   refine seqK rfl (does_alloc (z := Value.agg #[.int .i64 0, .int .i64 0, .int .i64 0, .slice none 0 0]) (cs := #[.int .i64 0, .int .i64 0, .int .i64 0, .slice none 0 0]) rfl kr rfl HS1984 ?_)
   intro b2025 W2026 HS2027
   refine seqK rfl (does_storeA (vs := [.int .i64 ((rd vt1755 x1986).Addr), .int .i64 ((rd vt1755 x1986).Kind), .int .i64 ((rd vt1755 x1986).Seq), .slice A2024 ((rd vt1755 x1986).Data).length c2024]) rfl kr kr kr rfl (ones rfl) HS2027 kr ?_)
   intro W2029 HS2030
   refine nl (hK2016 _ _ ?_)
   refine wp_seq_k fun K2031 hK2032 => rl ?_
   refine seqK rfl (does_run (run_loadN (n := 4) rfl Try.underlying93 rfl kr (kv (pV b2025 0)) (cs := [.int .i64 ((rd vt1755 x1986).Addr), .int .i64 ((rd vt1755 x1986).Kind), .int .i64 ((rd vt1755 x1986).Seq), .slice A2024 ((rd vt1755 x1986).Data).length c2024]) rfl (HS2030.cells 0 4 _ rfl)) ?_)
   have HS2034 := HS2030.u4.u8
   replace h := bind_some h; obtain ⟨⟨vt2035, vt2036, vt2037, vt2038, vt2039⟩, hc2040, h⟩ := h
   refine seqL1 kr ?_
   refine seqK rfl (does_call kr (link_device_hear.calls k b214 A1996 c1997 s1998 A2024 c2024 (⟨x1993, x1994, x1995⟩ : S_device) (rd vt1755 x1986) x1697 HS2034 HO1999 HR2024 vt2035 vt2036 vt2037 vt2038 vt2039 hc2040) ?_)
   rintro _ W2043 ⟨f2041, A2045, c2046, s2047, A2050, c2051, s2052, rfl, L2042, HS2044, HO2048, HO2053⟩
   refine ⟨_, rfl, ?_⟩
   refine seqL3 kr ?_
   refine seqK rfl (does_alloc (z := Value.agg #[.int .i64 0, .int .i64 0, .int .i64 0, .slice none 0 0]) (cs := #[.int .i64 0, .int .i64 0, .int .i64 0, .slice none 0 0]) rfl kr rfl HS2044 ?_)
   intro b2055 W2056 HS2057
   refine seqK rfl (does_storeA (vs := [.int .i64 vt2035.Addr, .int .i64 vt2035.Kind, .int .i64 vt2035.Seq, .slice A2045 vt2035.Data.length c2046]) rfl kr kr kr rfl (ones rfl) HS2057 kr ?_)
   intro W2059 HS2060
   refine seqL1 kr ?_
   refine nl (hK2032 _ _ ?_)
   refine wp_seq_k fun K2061 hK2062 => rl ?_
   refine seqL1 kr ?_
   refine nl (hK2062 _ _ ?_)
   replace h := ite_some h; rcases h with ⟨c2064, h⟩ | ⟨c2064, h⟩
   rotate_left
   · have c2064 : ¬ (vt2036 = true) := c2064
     refine wpRwI 20 kr (Bool.eq_false_iff.mpr c2064) ?_
     refine wpRwI 72 kr (Bool.eq_false_iff.mpr c2064) ?_
     refine wpRwI 73 kr (Bool.eq_false_iff.mpr c2064) ?_
     refine condF kr ?_
     refine wp_skip ?_
     refine hn2010 _ _ ?_
     refine hK2007 _ _ ?_
     refine rl ?_
     refine seqL2 kr ?_
     refine nl ?_
     refine hK1979 n1980 _ _ (Nat.lt_succ_self _) ?_
     have HS2135 := HS2060.u14.u14.u14.u14.u7.u14.u14.u14.u10.u14.u14.u14.u14.u14.u14
     have HS2136 := HS2135.drop
     have HS2137 := HS2136.drop
     have HS2138 := HS2137.drop
     exact ⟨f2041, A1988, c1989, s1990, A2050, c2051, s2052, (w64 (x1986 + 1)), x1987, x1992, vt2037, vt2038, vt2039, (jL [pV b2025 0, pV b2055 0, fV, tV, pV b2021 (of2022 + (x1986 : Int).toNat * 4), (ag_Packet (rd vt1755 x1986) A2024 c2024), .tuple #[(ag_Packet vt2035 A2045 c2046), .bool vt2036], (ag_Packet (rd vt1755 x1986) A2024 c2024), iV x1697, .tuple #[(ag_Packet vt2035 A2045 c2046), .bool vt2036], (ag_Packet vt2035 A2045 c2046), fV, fV, (j1985 13), (j1985 14), (j1985 15), (j1985 16), iV (w64 (x1986 + 1))]), (L1982.trans L2042), HS2138, (HO1991.mono L2042), HO2053, h, kr⟩
   have c2064 : vt2036 = true := c2064
   refine wpRwI 20 kr c2064 ?_
   refine wpRwI 72 kr c2064 ?_
   refine wpRwI 73 kr c2064 ?_
   refine condT kr ?_
   refine rl ?_
   refine seqL1 kr ?_
   refine seqK rfl (does_run (run_loadN (n := 4) rfl Try.underlying93 rfl kr (kv (pV b2055 0)) (cs := [.int .i64 vt2035.Addr, .int .i64 vt2035.Kind, .int .i64 vt2035.Seq, .slice A2045 vt2035.Data.length c2046]) rfl (HS2060.cells 0 4 _ rfl)) ?_)
   have HS2065 := HS2060.u1
   obtain ⟨f2066, L2067, HS2068, HR2069⟩ := HO2048.freeze HS2065
   have HS2071 := HS2068.u7.u8
   replace h := bind_some h; obtain ⟨⟨vt2072, vt2073⟩, hc2074, h⟩ := h
   refine seqL1 kr ?_
   refine seqK rfl (does_call kr (link_line_send.calls k b232 A10 c11 A1988 c1989 s1990 A2045 c2046 (⟨back9, x1987, x1992⟩ : S_line) vt2035 x1697 HS2071 (HR12.mono (L27.trans (L43.trans (L1693.trans (L1759.trans (L1982.trans (L2042.trans L2067))))))) (HO1991.mono (L2042.trans L2067)) HR2069 vt2072 vt2073 hc2074) ?_)
   rintro _ W2077 ⟨f2075, A2079, c2080, s2081, rfl, L2076, HS2078, HO2082⟩
   refine ⟨_, rfl, ?_⟩
   refine nl ?_
   refine hn2010 _ _ ?_
   refine hK2007 _ _ ?_
   refine rl ?_
   refine seqL2 kr ?_
   refine nl ?_
   refine hK1979 n1980 _ _ (Nat.lt_succ_self _) ?_
   have HS2118 := HS2078.u13.u13.u13.u13.u8.u13.u7.u7.u9.u13.u13.u13.u13.u13
   have HS2119 := HS2118.drop
   have HS2120 := HS2119.drop
   exact ⟨f2075, A2079, c2080, s2081, A2050, c2051, s2052, (w64 (x1986 + 1)), vt2072, vt2073, vt2037, vt2038, vt2039, (jL [pV b2025 0, pV b2055 0, tV, tV, pV b2021 (of2022 + (x1986 : Int).toNat * 4), (ag_Packet (rd vt1755 x1986) A2024 c2024), .tuple #[(ag_Packet vt2035 A2045 c2046), .bool vt2036], (ag_Packet (rd vt1755 x1986) A2024 c2024), iV x1697, .tuple #[(ag_Packet vt2035 A2045 c2046), .bool vt2036], (ag_Packet vt2035 A2045 c2046), tV, tV, pV b232 0, (ag_Packet vt2035 A2045 c2046), iV x1697, .tuple #[], iV (w64 (x1986 + 1))]), (L1982.trans (L2042.trans (L2067.trans L2076))), HS2120, HO2082, (HO2053.mono (L2067.trans L2076)), h, kr⟩
  refine takeAny3 2 5 7 kr (Way.mk' rfl rfl ?_) (Way.mk' rfl rfl ?_) (Way.mk' rfl rfl ?_)
  · refine does_make (e := (tInt .i64)) (E := 3) (u := 0) (n := (l1.length : Int)) rfl (kv (.int .i64 (l1.length : Int))) (kv (.int .i64 (l1.length : Int))) Try.underlying22 inf3 c59 c60 (by omega) rfl HS58 ?_
    intro b86 W87 s88 HS89 HO90
    refine ⟨(Sg.g0 (Sx.of [s88] fL HS89)), ?_⟩
    refine takeEither 5 7 kr rfl rfl rfl rfl ?_ ?_
    · refine does_make (e := (tInt .i64)) (E := 3) (u := 0) (n := (l1.length : Int)) rfl (kv (.int .i64 (l1.length : Int))) (kv (.int .i64 (l1.length : Int))) Try.underlying22 inf3 c59 c60 (by omega) rfl HS89 ?_
      intro b92 W93 s94 HS95 HO96
      refine ⟨(Sg.g0 (Sx.of [s94, s88] fL HS95)), ?_⟩
      refine gL [6] (fuel := 2) (bA 9 127) rfl kr kr kr hnp (Sg.g0 (Sx.of [s94, s88] fL HS95)) fun X98 => ?_
      refine takeGE 7 kr rfl kr (does_alloc (z := Value.agg #[.slice none 0 0, .slice none 0 0, .slice none 0 0, .int .i64 0, .int .i64 0]) (cs := #[.slice none 0 0, .slice none 0 0, .slice none 0 0, .int .i64 0, .int .i64 0]) rfl kr rfl HS95 ?_)
      intro b99 W100 HS101
      refine kB (Sg.g0 (Sx.of [[(b99, .cells #[.slice none 0 0, .slice none 0 0, .slice none 0 0, .int .i64 0, .int .i64 0] 40 (0, 0))], s94, s88] fL HS101)) fun X103 => ?_
      refine takeGE 8 kr rfl kr (does_storeA (vs := [.slice none 0 0, .slice (some ⟨b86, 0, none⟩) (List.replicate ((l1.length : Int)).toNat (0 : Int)).length ((l1.length : Int)).toNat, .slice (some ⟨b92, 0, none⟩) (List.replicate ((l1.length : Int)).toNat (0 : Int)).length ((l1.length : Int)).toNat, .int .i64 0, .int .i64 0]) rfl kr kr kr rfl (ones rfl) HS101 kr ?_)
      intro W104 HS105
      refine kB (Sg.g0 (Sx.of [[(b99, .cells #[.slice none 0 0, .slice (some ⟨b86, 0, none⟩) (List.replicate ((l1.length : Int)).toNat (0 : Int)).length ((l1.length : Int)).toNat, .slice (some ⟨b92, 0, none⟩) (List.replicate ((l1.length : Int)).toNat (0 : Int)).length ((l1.length : Int)).toNat, .int .i64 0, .int .i64 0] 40 (0, 0))], s94, s88] fL HS105)) fun X106 => ?_
      refine hR82 _ _ ?_
      exact J83 b86 s88 b92 s94 b99 W104 _ HO90 HO96 HS105 kr
    refine does_alloc (z := Value.agg #[.slice none 0 0, .slice none 0 0, .slice none 0 0, .int .i64 0, .int .i64 0]) (cs := #[.slice none 0 0, .slice none 0 0, .slice none 0 0, .int .i64 0, .int .i64 0]) rfl kr rfl HS89 ?_
    intro b107 W108 HS109
    refine ⟨(Sg.g0 (Sx.of [[(b107, .cells #[.slice none 0 0, .slice none 0 0, .slice none 0 0, .int .i64 0, .int .i64 0] 40 (0, 0))], s88] fL HS109)), ?_⟩
    refine takeGE 5 kr rfl kr (does_make (e := (tInt .i64)) (E := 3) (u := 0) (n := (l1.length : Int)) rfl (kv (.int .i64 (l1.length : Int))) (kv (.int .i64 (l1.length : Int))) Try.underlying22 inf3 c59 c60 (by omega) rfl HS109 ?_)
    intro b111 W112 s113 HS114 HO115
    refine kB (Sg.g0 (Sx.of [s113, [(b107, .cells #[.slice none 0 0, .slice none 0 0, .slice none 0 0, .int .i64 0, .int .i64 0] 40 (0, 0))], s88] fL HS114)) fun X117 => ?_
    refine gL [6] (fuel := 1) (bA 9 255) rfl kr kr kr hnp X117 fun X118 => ?_
    have HS119 := HS114.u1
    refine takeGE 8 kr rfl kr (does_storeA (vs := [.slice none 0 0, .slice (some ⟨b86, 0, none⟩) (List.replicate ((l1.length : Int)).toNat (0 : Int)).length ((l1.length : Int)).toNat, .slice (some ⟨b111, 0, none⟩) (List.replicate ((l1.length : Int)).toNat (0 : Int)).length ((l1.length : Int)).toNat, .int .i64 0, .int .i64 0]) rfl kr kr kr rfl (ones rfl) HS119 kr ?_)
    intro W120 HS121
    refine kB (Sg.g0 (Sx.of [[(b107, .cells #[.slice none 0 0, .slice (some ⟨b86, 0, none⟩) (List.replicate ((l1.length : Int)).toNat (0 : Int)).length ((l1.length : Int)).toNat, .slice (some ⟨b111, 0, none⟩) (List.replicate ((l1.length : Int)).toNat (0 : Int)).length ((l1.length : Int)).toNat, .int .i64 0, .int .i64 0] 40 (0, 0))], s113, s88] fL HS121)) fun X122 => ?_
    refine hR82 _ _ ?_
    exact J83 b86 s88 b111 s113 b107 W120 _ HO90 HO115 HS121 kr
  · refine does_make (e := (tInt .i64)) (E := 3) (u := 0) (n := (l1.length : Int)) rfl (kv (.int .i64 (l1.length : Int))) (kv (.int .i64 (l1.length : Int))) Try.underlying22 inf3 c59 c60 (by omega) rfl HS58 ?_
    intro b123 W124 s125 HS126 HO127
    refine ⟨(Sg.g0 (Sx.of [s125] fL HS126)), ?_⟩
    refine takeEither 2 7 kr rfl rfl rfl rfl ?_ ?_
    · refine does_make (e := (tInt .i64)) (E := 3) (u := 0) (n := (l1.length : Int)) rfl (kv (.int .i64 (l1.length : Int))) (kv (.int .i64 (l1.length : Int))) Try.underlying22 inf3 c59 c60 (by omega) rfl HS126 ?_
      intro b129 W130 s131 HS132 HO133
      refine ⟨(Sg.g0 (Sx.of [s131, s125] fL HS132)), ?_⟩
      refine gL [6] (fuel := 2) (bA 9 127) rfl kr kr kr hnp (Sg.g0 (Sx.of [s131, s125] fL HS132)) fun X135 => ?_
      refine takeGE 7 kr rfl kr (does_alloc (z := Value.agg #[.slice none 0 0, .slice none 0 0, .slice none 0 0, .int .i64 0, .int .i64 0]) (cs := #[.slice none 0 0, .slice none 0 0, .slice none 0 0, .int .i64 0, .int .i64 0]) rfl kr rfl HS132 ?_)
      intro b136 W137 HS138
      refine kB (Sg.g0 (Sx.of [[(b136, .cells #[.slice none 0 0, .slice none 0 0, .slice none 0 0, .int .i64 0, .int .i64 0] 40 (0, 0))], s131, s125] fL HS138)) fun X140 => ?_
      refine takeGE 8 kr rfl kr (does_storeA (vs := [.slice none 0 0, .slice (some ⟨b129, 0, none⟩) (List.replicate ((l1.length : Int)).toNat (0 : Int)).length ((l1.length : Int)).toNat, .slice (some ⟨b123, 0, none⟩) (List.replicate ((l1.length : Int)).toNat (0 : Int)).length ((l1.length : Int)).toNat, .int .i64 0, .int .i64 0]) rfl kr kr kr rfl (ones rfl) HS138 kr ?_)
      intro W141 HS142
      refine kB (Sg.g0 (Sx.of [[(b136, .cells #[.slice none 0 0, .slice (some ⟨b129, 0, none⟩) (List.replicate ((l1.length : Int)).toNat (0 : Int)).length ((l1.length : Int)).toNat, .slice (some ⟨b123, 0, none⟩) (List.replicate ((l1.length : Int)).toNat (0 : Int)).length ((l1.length : Int)).toNat, .int .i64 0, .int .i64 0] 40 (0, 0))], s131, s125] fL HS142)) fun X143 => ?_
      have HS147 := HS142.u3.u2.u3.u3
      refine hR82 _ _ ?_
      exact J83 b129 s131 b123 s125 b136 W141 _ HO133 HO127 HS147 kr
    refine does_alloc (z := Value.agg #[.slice none 0 0, .slice none 0 0, .slice none 0 0, .int .i64 0, .int .i64 0]) (cs := #[.slice none 0 0, .slice none 0 0, .slice none 0 0, .int .i64 0, .int .i64 0]) rfl kr rfl HS126 ?_
    intro b148 W149 HS150
    refine ⟨(Sg.g0 (Sx.of [[(b148, .cells #[.slice none 0 0, .slice none 0 0, .slice none 0 0, .int .i64 0, .int .i64 0] 40 (0, 0))], s125] fL HS150)), ?_⟩
    refine takeGE 2 kr rfl kr (does_make (e := (tInt .i64)) (E := 3) (u := 0) (n := (l1.length : Int)) rfl (kv (.int .i64 (l1.length : Int))) (kv (.int .i64 (l1.length : Int))) Try.underlying22 inf3 c59 c60 (by omega) rfl HS150 ?_)
    intro b152 W153 s154 HS155 HO156
    refine kB (Sg.g0 (Sx.of [s154, [(b148, .cells #[.slice none 0 0, .slice none 0 0, .slice none 0 0, .int .i64 0, .int .i64 0] 40 (0, 0))], s125] fL HS155)) fun X158 => ?_
    refine gL [6] (fuel := 1) (bA 9 255) rfl kr kr kr hnp X158 fun X159 => ?_
    have HS160 := HS155.u1
    refine takeGE 8 kr rfl kr (does_storeA (vs := [.slice none 0 0, .slice (some ⟨b152, 0, none⟩) (List.replicate ((l1.length : Int)).toNat (0 : Int)).length ((l1.length : Int)).toNat, .slice (some ⟨b123, 0, none⟩) (List.replicate ((l1.length : Int)).toNat (0 : Int)).length ((l1.length : Int)).toNat, .int .i64 0, .int .i64 0]) rfl kr kr kr rfl (ones rfl) HS160 kr ?_)
    intro W161 HS162
    refine kB (Sg.g0 (Sx.of [[(b148, .cells #[.slice none 0 0, .slice (some ⟨b152, 0, none⟩) (List.replicate ((l1.length : Int)).toNat (0 : Int)).length ((l1.length : Int)).toNat, .slice (some ⟨b123, 0, none⟩) (List.replicate ((l1.length : Int)).toNat (0 : Int)).length ((l1.length : Int)).toNat, .int .i64 0, .int .i64 0] 40 (0, 0))], s154, s125] fL HS162)) fun X163 => ?_
    have HS167 := HS162.u3.u2.u3.u3
    refine hR82 _ _ ?_
    exact J83 b152 s154 b123 s125 b148 W161 _ HO156 HO127 HS167 kr
  refine does_alloc (z := Value.agg #[.slice none 0 0, .slice none 0 0, .slice none 0 0, .int .i64 0, .int .i64 0]) (cs := #[.slice none 0 0, .slice none 0 0, .slice none 0 0, .int .i64 0, .int .i64 0]) rfl kr rfl HS58 ?_
  intro b168 W169 HS170
  refine ⟨(Sg.g0 (Sx.of [[(b168, .cells #[.slice none 0 0, .slice none 0 0, .slice none 0 0, .int .i64 0, .int .i64 0] 40 (0, 0))]] fL HS170)), ?_⟩
  refine takeEither 2 5 kr rfl rfl rfl rfl ?_ ?_
  · refine does_make (e := (tInt .i64)) (E := 3) (u := 0) (n := (l1.length : Int)) rfl (kv (.int .i64 (l1.length : Int))) (kv (.int .i64 (l1.length : Int))) Try.underlying22 inf3 c59 c60 (by omega) rfl HS170 ?_
    intro b172 W173 s174 HS175 HO176
    refine ⟨(Sg.g0 (Sx.of [s174, [(b168, .cells #[.slice none 0 0, .slice none 0 0, .slice none 0 0, .int .i64 0, .int .i64 0] 40 (0, 0))]] fL HS175)), ?_⟩
    refine takeGE 5 kr rfl kr (does_make (e := (tInt .i64)) (E := 3) (u := 0) (n := (l1.length : Int)) rfl (kv (.int .i64 (l1.length : Int))) (kv (.int .i64 (l1.length : Int))) Try.underlying22 inf3 c59 c60 (by omega) rfl HS175 ?_)
    intro b178 W179 s180 HS181 HO182
    refine kB (Sg.g0 (Sx.of [s180, s174, [(b168, .cells #[.slice none 0 0, .slice none 0 0, .slice none 0 0, .int .i64 0, .int .i64 0] 40 (0, 0))]] fL HS181)) fun X184 => ?_
    refine gL [6] (fuel := 1) (bA 9 255) rfl kr kr kr hnp X184 fun X185 => ?_
    have HS186 := HS181.u2
    refine takeGE 8 kr rfl kr (does_storeA (vs := [.slice none 0 0, .slice (some ⟨b172, 0, none⟩) (List.replicate ((l1.length : Int)).toNat (0 : Int)).length ((l1.length : Int)).toNat, .slice (some ⟨b178, 0, none⟩) (List.replicate ((l1.length : Int)).toNat (0 : Int)).length ((l1.length : Int)).toNat, .int .i64 0, .int .i64 0]) rfl kr kr kr rfl (ones rfl) HS186 kr ?_)
    intro W187 HS188
    refine kB (Sg.g0 (Sx.of [[(b168, .cells #[.slice none 0 0, .slice (some ⟨b172, 0, none⟩) (List.replicate ((l1.length : Int)).toNat (0 : Int)).length ((l1.length : Int)).toNat, .slice (some ⟨b178, 0, none⟩) (List.replicate ((l1.length : Int)).toNat (0 : Int)).length ((l1.length : Int)).toNat, .int .i64 0, .int .i64 0] 40 (0, 0))], s180, s174] fL HS188)) fun X189 => ?_
    refine hR82 _ _ ?_
    exact J83 b172 s174 b178 s180 b168 W187 _ HO176 HO182 HS188 kr
  refine does_make (e := (tInt .i64)) (E := 3) (u := 0) (n := (l1.length : Int)) rfl (kv (.int .i64 (l1.length : Int))) (kv (.int .i64 (l1.length : Int))) Try.underlying22 inf3 c59 c60 (by omega) rfl HS170 ?_
  intro b190 W191 s192 HS193 HO194
  refine ⟨(Sg.g0 (Sx.of [s192, [(b168, .cells #[.slice none 0 0, .slice none 0 0, .slice none 0 0, .int .i64 0, .int .i64 0] 40 (0, 0))]] fL HS193)), ?_⟩
  refine takeGE 2 kr rfl kr (does_make (e := (tInt .i64)) (E := 3) (u := 0) (n := (l1.length : Int)) rfl (kv (.int .i64 (l1.length : Int))) (kv (.int .i64 (l1.length : Int))) Try.underlying22 inf3 c59 c60 (by omega) rfl HS193 ?_)
  intro b196 W197 s198 HS199 HO200
  refine kB (Sg.g0 (Sx.of [s198, s192, [(b168, .cells #[.slice none 0 0, .slice none 0 0, .slice none 0 0, .int .i64 0, .int .i64 0] 40 (0, 0))]] fL HS199)) fun X202 => ?_
  refine gL [6] (fuel := 1) (bA 9 255) rfl kr kr kr hnp X202 fun X203 => ?_
  have HS204 := HS199.u2
  refine takeGE 8 kr rfl kr (does_storeA (vs := [.slice none 0 0, .slice (some ⟨b196, 0, none⟩) (List.replicate ((l1.length : Int)).toNat (0 : Int)).length ((l1.length : Int)).toNat, .slice (some ⟨b190, 0, none⟩) (List.replicate ((l1.length : Int)).toNat (0 : Int)).length ((l1.length : Int)).toNat, .int .i64 0, .int .i64 0]) rfl kr kr kr rfl (ones rfl) HS204 kr ?_)
  intro W205 HS206
  refine kB (Sg.g0 (Sx.of [[(b168, .cells #[.slice none 0 0, .slice (some ⟨b196, 0, none⟩) (List.replicate ((l1.length : Int)).toNat (0 : Int)).length ((l1.length : Int)).toNat, .slice (some ⟨b190, 0, none⟩) (List.replicate ((l1.length : Int)).toNat (0 : Int)).length ((l1.length : Int)).toNat, .int .i64 0, .int .i64 0] 40 (0, 0))], s198, s192] fL HS206)) fun X207 => ?_
  have HS211 := HS206.u3.u2.u3.u3
  refine hR82 _ _ ?_
  exact J83 b196 s198 b190 s192 b168 W205 _ HO200 HO194 HS211 kr
 clear h; have h := hv48; clear hv48
 refine rl ?_
 refine seqL3 kr ?_
 replace h := ite_some h; rcases h with ⟨c41, h⟩ | ⟨c41, h⟩
 · have c41 : steps13 < 0 := c41
   refine seqRwI 34 kr (decide_eq_true c41) ?_
   refine seqRwI 35 kr (decide_eq_true c41) ?_
   refine seqL3 kr ?_
   refine nl ?_
   exact J49 f26 true (jL [iV steps13, tV, tV]) W28 _ fL h HS29 kr
 have c41 : ¬ (steps13 < 0) := c41
 refine seqRwI 34 kr (decide_eq_false c41) ?_
 refine seqRwI 35 kr (decide_eq_false c41) ?_
 refine seqL3 kr ?_
 refine nl ?_
 exact J49 f26 (decide (steps13 > 2000)) (jL [iV steps13, fV, fV, iV steps13, .bool (decide (steps13 > 2000))]) W28 _ fL h HS29 kr

set_option maxRecDepth 100000 in
set_option maxHeartbeats 4000000 in
theorem axis_Rest.calls (k : Nat)  (p1 : Int) {t w : World} {f : FM} {H : List Seg} (HS : St t w f (H)) (rr1 : S_State) (h : axis_Rest k p1 = some rr1) :
    Calls Try.prog 50 #[.int .i64 p1] w (fun e w' => ∃ (g : FM), e = .returned (Value.agg (cl_State rr1)) ∧ FM.le f g ∧ St t w' g (H)) := by
 unfold axis_Rest at h
 refine enter Try.func50 rfl (tm := #[iV p1, uV, uV, uV, uV, uV]) kr ?_
 intro B hret hnor hnp
 refine wp_seq_k fun K2 hK3 => rl ?_
 refine seqK rfl (does_alloc (z := Value.agg (cm_State 0 0 0 false)) (cs := (cm_State 0 0 0 false)) rfl kr rfl HS ?_)
 intro b4 W5 HS6
 refine nl (hK3 _ _ ?_)
 refine wp_seq_k fun K8 hK9 => rl ?_
 refine seqL3 kr ?_
 refine seqK rfl (does_storeA (vs := (lm_State p1 0 p1 false)) rfl kr kr kr rfl (ones rfl) HS6 kr ?_)
 intro W10 HS11
 refine nl (hK9 _ _ ?_)
 refine wp_ret ?_
 refine hret _ _ ?_
 refine ends (v := Value.agg (cm_State p1 0 p1 false)) (results1 (q1 := .cell 2 49) kr (resN (n := 4) (cs := (lm_State p1 0 p1 false)) (kv (pV b4 0)) Try.underlying49 rfl kr rfl (HS11.cells 0 4 _ rfl))) kr ?_
 have HS12 := HS11.drop
 injection h with h
 subst h
 exact ⟨f, rfl, FM.le.refl _, HS12⟩

set_option maxRecDepth 100000 in
set_option maxHeartbeats 4000000 in
theorem mount_Rest.calls (k : Nat)  (m1 : S_Mount) {t w : World} {f : FM} {H : List Seg} (HS : St t w f (H)) (rr1 : S_State2) (h : mount_Rest k m1 = some rr1) :
    Calls Try.prog 28 #[.agg (cl_Mount m1)] w (fun e w' => ∃ (g : FM), e = .returned (Value.agg (cl_State2 rr1)) ∧ FM.le f g ∧ St t w' g (H)) := by
 unfold mount_Rest at h
 refine enter Try.func28 rfl (tm := ⟨[(ag_Mount m1)] ++ (un 11 [])⟩) kr ?_
 intro B hret hnor hnp
 refine wp_seq_k fun K2 hK3 => rl ?_
 refine seqK rfl (does_box (cs := (cl_Mount m1)) rfl (kv (.agg (cl_Mount m1))) rfl HS ?_)
 intro b4 W5 HS6
 refine seqK rfl (does_alloc (z := Value.agg (cm_State2 ⟨0, 0, 0, false⟩ ⟨0, 0, 0, false⟩ 0)) (cs := (cm_State2 ⟨0, 0, 0, false⟩ ⟨0, 0, 0, false⟩ 0)) rfl kr rfl HS6 ?_)
 intro b8 W9 HS10
 refine nl (hK3 _ _ ?_)
 refine wp_seq_k (fun K12 hK13 => ?_)
 have HS15 := HS10.u1.u1
 refine heldG (S := Sg t f ([(b4, .cells (cl_Mount m1) 31 (0, 0))] :: H) [(9, [(b8, .cells (cm_State2 ⟨0, 0, 0, false⟩ ⟨0, 0, 0, false⟩ 0) 51 (0, 0))])]) (n := 10) kr rfl HS15 ?_
 intro W16 HS17
 refine gL [0, 1] (fuel := 8) (bA 10 3) rfl kr kr kr hnp (Sg.g1 (Sx.of [[(b8, .cells (cm_State2 ⟨0, 0, 0, false⟩ ⟨0, 0, 0, false⟩ 0) 51 (0, 0))]] fL HS17) (fun _ => St.only [] HS17 fL)) fun X18 => ?_
 refine gQ 2 rfl kr kr kr kr kr hnp X18 (fun hl_ hS_ => run_load rfl Try.underlying2 rfl (kv (pV b4 8)) (hS_.cell 8)) fun X19 => ?_
 refine gL [4, 5] (fuel := 5) (bA 10 55) rfl kr kr kr hnp X19 fun X20 => ?_
 refine gQ 6 rfl kr kr kr kr kr hnp X20 (fun hl_ hS_ => run_load rfl Try.underlying2 rfl (kv (pV b4 9)) (hS_.cell 9)) fun X21 => ?_
 replace h := bind_some h; obtain ⟨vt22, hc23, h⟩ := h
 refine takeGE 3 kr rfl kr (does_call kr (axis_Rest.calls k m1.Park.Az HS17 vt22 hc23) ?_)
 rintro _ W26 ⟨f24, rfl, L25, HS27⟩
 refine ⟨_, rfl, ?_⟩
 refine kB (Sg.g1 (Sx.of [[(b8, .cells (cm_State2 ⟨0, 0, 0, false⟩ ⟨0, 0, 0, false⟩ 0) 51 (0, 0))]] L25 HS27) (fun _ => St.only [] HS27 L25)) fun X28 => ?_
 replace h := bind_some h; obtain ⟨vt29, hc30, h⟩ := h
 refine takeGE 7 kr rfl kr (does_call kr (axis_Rest.calls k m1.Park.Alt HS27 vt29 hc30) ?_)
 rintro _ W33 ⟨f31, rfl, L32, HS34⟩
 refine ⟨_, rfl, ?_⟩
 refine kB (Sg.g1 (Sx.of [[(b8, .cells (cm_State2 ⟨0, 0, 0, false⟩ ⟨0, 0, 0, false⟩ 0) 51 (0, 0))]] (L25.trans L32) HS34) (fun _ => St.only [] HS34 (L25.trans L32))) fun X35 => ?_
 refine gL [8] (fuel := 1) (bA 10 511) rfl kr kr kr hnp X35 fun X36 => ?_
 refine takeGE 9 kr rfl kr (does_storeA (vs := (lm_State2 vt22 vt29 0)) rfl kr kr kr rfl (ones rfl) HS34 kr ?_)
 intro W37 HS38
 refine kB (Sg.g1 (Sx.of [[(b8, .cells (cm_State2 vt22 vt29 0) 51 (0, 0))]] (L25.trans L32) HS38) (fun hl_ => Bool.noConfusion (show true = false from hl_))) fun X39 => ?_
 refine doneG kr ?_ _
 refine hK13 _ _ ?_
 refine wp_ret ?_
 refine hret _ _ ?_
 refine ends (v := Value.agg (cm_State2 vt22 vt29 0)) (results1 (q1 := .cell 2 51) kr (resN (n := 9) (cs := (lm_State2 vt22 vt29 0)) (kv (pV b8 0)) Try.underlying51 rfl kr rfl (HS38.cells 0 9 _ rfl))) kr ?_
 have HS40 := HS38.drop
 have HS41 := HS40.drop
 injection h with h
 subst h
 exact ⟨f31, rfl, (L25.trans L32), HS41⟩

set_option maxRecDepth 100000 in
set_option maxHeartbeats 4000000 in
theorem guard_Start.calls (k : Nat)  (m1 : S_Mount) {t w : World} {f : FM} {H : List Seg} (HS : St t w f (H)) (rr1 : S_World) (h : guard_Start k m1 = some rr1) :
    Calls Try.prog 10 #[.agg (cl_Mount m1)] w (fun e w' => ∃ (g : FM), e = .returned (Value.agg (cl_World rr1)) ∧ FM.le f g ∧ St t w' g (H)) := by
 unfold guard_Start at h
 refine enter Try.func10 rfl (tm := #[(ag_Mount m1), uV, uV, uV, uV, uV]) kr ?_
 intro B hret hnor hnp
 refine wp_seq_k fun K2 hK3 => rl ?_
 refine seqK rfl (does_box (cs := (cl_Mount m1)) rfl (kv (.agg (cl_Mount m1))) rfl HS ?_)
 intro b4 W5 HS6
 refine seqK rfl (does_alloc (z := Value.agg (cm_World ⟨⟨0, 0, 0, false⟩, ⟨0, 0, 0, false⟩, 0⟩ ⟨0, 0, false, false, ⟨0, 0, 0, false⟩⟩ ⟨0, 0, 0, 0⟩ ⟨false, false, false, false, false⟩ ⟨0, 0⟩ 0 0 0)) (cs := (cm_World ⟨⟨0, 0, 0, false⟩, ⟨0, 0, 0, false⟩, 0⟩ ⟨0, 0, false, false, ⟨0, 0, 0, false⟩⟩ ⟨0, 0, 0, 0⟩ ⟨false, false, false, false, false⟩ ⟨0, 0⟩ 0 0 0)) rfl kr rfl HS6 ?_)
 intro b8 W9 HS10
 refine nl (hK3 _ _ ?_)
 refine wp_seq_k fun K12 hK13 => rl ?_
 refine seqK rfl (does_run (run_loadN (n := 10) rfl Try.underlying31 rfl kr (kv (pV b4 0)) (cs := (ll_Mount m1)) rfl (HS10.u1.cells 0 10 _ rfl)) ?_)
 replace h := bind_some h; obtain ⟨vt14, hc15, h⟩ := h
 refine seqK rfl (does_call kr (mount_Rest.calls k m1 HS10 vt14 hc15) ?_)
 rintro _ W18 ⟨f16, rfl, L17, HS19⟩
 refine ⟨_, rfl, ?_⟩
 refine seqL1 kr ?_
 refine seqK rfl (does_storeA (vs := (lm_World vt14 ⟨0, 0, false, false, ⟨0, 0, 0, false⟩⟩ ⟨0, 0, 0, 0⟩ ⟨false, false, false, false, false⟩ ⟨0, 0⟩ 2 0 0)) rfl kr kr kr rfl (ones rfl) HS19 kr ?_)
 intro W20 HS21
 refine nl (hK13 _ _ ?_)
 refine wp_ret ?_
 refine hret _ _ ?_
 refine ends (v := Value.agg (cm_World vt14 ⟨0, 0, false, false, ⟨0, 0, 0, false⟩⟩ ⟨0, 0, 0, 0⟩ ⟨false, false, false, false, false⟩ ⟨0, 0⟩ 2 0 0)) (results1 (q1 := .cell 2 59) kr (resN (n := 31) (cs := (lm_World vt14 ⟨0, 0, false, false, ⟨0, 0, 0, false⟩⟩ ⟨0, 0, 0, 0⟩ ⟨false, false, false, false, false⟩ ⟨0, 0⟩ 2 0 0)) (kv (pV b8 0)) Try.underlying59 rfl kr rfl (HS21.cells 0 31 _ rfl))) kr ?_
 have HS22 := HS21.drop
 have HS23 := HS22.drop
 injection h with h
 subst h
 exact ⟨f16, rfl, L17, HS23⟩

set_option maxRecDepth 100000 in
set_option maxHeartbeats 4000000 in
theorem spytop_h1script.calls (k : Nat) (b1 : Nat) (A4 : Option Addr) (c5 : Nat) (A8 : Option Addr) (c9 : Nat) (A12 : Option Addr) (c13 : Nat) (A15 : Option Addr) (c16 : Nat) (A18 : Option Addr) (c19 : Nat) (s3 : S_Stream) (l7 : List S_Cmd) (x11 : S_Log) (steps21 : Int) {t w : World} {f : FM} {H : List Seg} (HS : St t w f ([(b1, .cells #[.slice A4 s3.L.length c5, .int .i64 s3.vat] 25 (0, 0))] :: H)) (HR6 : SlR (tInt .i64) f A4 c5 s3.L) (HR10 : SlR ty_Cmd f A8 c9 l7) (HR14 : SlR ty_Exec f A12 c13 x11.Execs) (HR17 : SlR (tInt .i64) f A15 c16 x11.Reports) (HR20 : SlR (tInt .i64) f A18 c19 x11.At) (rr1 : List S_Input) (rr2 : Int) (h : spytop_h1script k s3 l7 x11 steps21 = some (rr1, rr2)) :
    Calls Try.prog 11 #[pV b1 0, .slice A8 l7.length c9, .agg #[.slice A12 x11.Execs.length c13, .slice A15 x11.Reports.length c16, .slice A18 x11.At.length c19, .int .i64 x11.Sent, .int .i64 x11.Heard], .int .i64 steps21] w (fun e w' => ∃ (g : FM) (A800 : Option Addr) (c801 : Nat) (s802 : Seg), e = .returned (Value.slice A800 rr1.length c801) ∧ FM.le f g ∧ St t w' g (s802 :: [(b1, .cells #[.slice A4 s3.L.length c5, .int .i64 rr2] 25 (0, 0))] :: H) ∧ Own ty_Input 101 g A800 c801 s802 rr1) := by
 unfold spytop_h1script at h
 refine enter Try.func11 rfl (tm := ⟨[pV b1 0, .slice A8 l7.length c9, (ag_Log x11 A12 c13 A15 c16 A18 c19), iV steps21] ++ (un 72 [])⟩) kr ?_
 intro B hret hnor hnp
 refine wp_seq_k fun K22 hK23 => rl ?_
 refine seqK rfl (does_box (cs := #[.slice A12 x11.Execs.length c13, .slice A15 x11.Reports.length c16, .slice A18 x11.At.length c19, .int .i64 x11.Sent, .int .i64 x11.Heard]) rfl (kv (.agg #[.slice A12 x11.Execs.length c13, .slice A15 x11.Reports.length c16, .slice A18 x11.At.length c19, .int .i64 x11.Sent, .int .i64 x11.Heard])) rfl HS ?_)
 intro b24 W25 HS26
 refine seqL1 kr ?_
 refine nl (hK23 _ _ ?_)
 refine wp_seq_k fun K28 hK29 => rl ?_
 refine seqK rfl (does_lit (e := ty_Input) (E := 101) (vs := #[]) (cs := #[]) (xs := ([] : List S_Input)) rfl Try.underlying61 kr kr rfl rfl HS26 ?_ (by decide))
 intro b30 W31 s32 HS33 _ HO34
 refine seqL1 kr ?_
 refine nl (hK29 _ _ ?_)
 refine wp_seq_k (fun K36 hK37 => ?_)
 refine wp_seq_k fun K38 hK39 => rl ?_
 refine seqL2 kr ?_
 refine nl (hK39 _ _ ?_)
 refine blockK (fun B40 hx41 hn42 hr43 ho44 hp45 => ?_)
 replace h := bind_some h; obtain ⟨o407, hv781, h⟩ := h
 have J782 : ∀ (f770 : FM) (A776 : Option Addr) (c777 : Nat) (s778 : Seg) (out775 : List S_Input) (x780 : Int) (j774 : Nat → Value) (W772 : World) (a_ : Act), FM.le f f770 → some ((out775, x780)) = some o407 → St t W772 f770 (s778 :: [(b24, .cells #[.slice A12 x11.Execs.length c13, .slice A15 x11.Reports.length c16, .slice A18 x11.At.length c19, .int .i64 x11.Sent, .int .i64 x11.Heard] 40 (0, 0))] :: [(b1, .cells #[.slice A4 s3.L.length c5, .int .i64 x780] 25 (0, 0))] :: H) → Own ty_Input 101 f770 A776 c777 s778 out775 → a_ = ⟨⟨[pV b1 0, .slice A8 l7.length c9, (ag_Log x11 A12 c13 A15 c16 A18 c19), iV steps21, uV, uV, pV b24 0, uV, .slice none 0 0, .slice A776 out775.length c777, (j774 0), (j774 1), uV, (j774 2), (j774 3), iV steps21] ++ (jr j774 4 59 [uV])⟩, []⟩ → K36 a_ W772 := by
  intro f770 A776 c777 s778 out775 x780 j774 W772 a_ L771 hj783 HS773 HO779 hfr_; subst hfr_
  injection hj783 with hj783; subst hj783; try dsimp only at h
  refine hK37 _ _ ?_
  refine wp_seq_k fun K794 hK795 => rl ?_
  refine seqL2 kr ?_
  refine nl (hK795 _ _ ?_)
  refine wp_ret ?_
  refine hret _ _ ?_
  refine ends_still (v := Value.slice A776 out775.length c777) kr kr ?_
  have HS798 := HS773.u2.u1.u2
  have HS799 := HS798.drop
  injection h with h
  injection h with h0_ h
  subst h0_ h
  exact ⟨f770, A776, c777, s778, rfl, L771, HS799, HO779⟩
 clear h; have h := hv781; clear hv781
 refine loopK (fun n_ a_ w_ => ∃ (f411 : FM) (A417 : Option Addr) (c418 : Nat) (s419 : Seg) (out416 : List S_Input) (x421 : Int) (x422 : Int) (j415 : Nat → Value), FM.le f f411 ∧ St t w_ f411 (s419 :: [(b24, .cells #[.slice A12 x11.Execs.length c13, .slice A15 x11.Reports.length c16, .slice A18 x11.At.length c19, .int .i64 x11.Sent, .int .i64 x11.Heard] 40 (0, 0))] :: [(b1, .cells #[.slice A4 s3.L.length c5, .int .i64 x422] 25 (0, 0))] :: H) ∧ Own ty_Input 101 f411 A417 c418 s419 out416 ∧ spytop_h1script.l0 k steps21 x11 l7 s3 n_ out416 x421 x422 = some o407 ∧ a_ = ⟨⟨[pV b1 0, .slice A8 l7.length c9, (ag_Log x11 A12 c13 A15 c16 A18 c19), iV steps21, uV, uV, pV b24 0, uV, .slice none 0 0, .slice A417 out416.length c418, (j415 0), (j415 1), uV, (j415 2), .slice (some ⟨b30, 0, none⟩) ([] : List S_Input).length 0, iV steps21, iV x421] ++ (jr j415 3 58 [uV])⟩, []⟩) k ⟨f, (some ⟨b30, 0, none⟩), 0, s32, ([] : List S_Input), 0, s3.vat, (jL []), fL, HS33, HO34, h, kr⟩ ?_
 clear h
 rintro n410 _ W413 ⟨f411, A417, c418, s419, out416, x421, x422, j415, L412, HS414, HO420, h, rfl⟩ K408 hK409
 obtain _ | n410 := n410
 · exact nomatch h
 simp only [spytop_h1script.l0] at h
 refine wp_seq_k fun K423 hK424 => rl ?_
 refine seqL1 kr ?_
 refine nl (hK424 _ _ ?_)
 refine wp_seq_k (fun K425 hK426 => ?_)
 replace h := ite_some h; rcases h with ⟨c428, h⟩ | ⟨c428, h⟩
 rotate_left
 · have c428 : ¬ (x421 < steps21) := c428
   refine wpRwI 17 kr (decide_eq_false c428) ?_
   refine condF kr ?_
   refine wp_exit ?_
   refine hx41 _ _ ?_
   exact J782 f411 A417 c418 s419 out416 x422 (jL [(j415 0), (j415 1), (j415 2), .slice (some ⟨b30, 0, none⟩) ([] : List S_Input).length 0, iV x421, fV, (j415 4), (j415 5), (j415 6), (j415 7), (j415 8), (j415 9), (j415 10), (j415 11), (j415 12), (j415 13), (j415 14), (j415 15), (j415 16), (j415 17), (j415 18), (j415 19), (j415 20), (j415 21), (j415 22), (j415 23), (j415 24), (j415 25), (j415 26), (j415 27), (j415 28), (j415 29), (j415 30), (j415 31), (j415 32), (j415 33), (j415 34), (j415 35), (j415 36), (j415 37), (j415 38), (j415 39), (j415 40), (j415 41), (j415 42), (j415 43), (j415 44), (j415 45), (j415 46), (j415 47), (j415 48), (j415 49), (j415 50), (j415 51), (j415 52), (j415 53), (j415 54), (j415 55), (j415 56), (j415 57), (j415 58), (j415 59), (j415 60)]) W413 _ L412 h HS414 HO420 kr
 have c428 : x421 < steps21 := c428
 refine wpRwI 17 kr (decide_eq_true c428) ?_
 refine condT kr ?_
 refine wp_skip ?_
 refine hK426 _ _ ?_
 refine wp_seq_k (fun K429 hK430 => ?_)
 refine blockK (fun B431 hx432 hn433 hr434 ho435 hp436 => ?_)
 refine wp_seq_k fun K438 hK439 => rl ?_
 refine seqL2 kr ?_
 refine nl (hK439 _ _ ?_)
 refine wp_seq_k fun K440 hK441 => rl ?_
 refine seqK rfl (does_alloc (z := Value.agg #[.slice none 0 0, .bool false, .bool false, .bool false, .bool false, .bool false]) (cs := #[.slice none 0 0, .bool false, .bool false, .bool false, .bool false, .bool false]) rfl kr rfl HS414 ?_)
 intro b442 W443 HS444
 refine nl (hK441 _ _ ?_)
 refine wp_seq_k (fun K446 hK447 => ?_)
 refine wp_seq_k fun K448 hK449 => rl ?_
 refine seqL1 kr ?_
 refine seqK rfl (does_run (run_load rfl Try.underlying38 rfl (kv (pV b24 0)) (HS444.u2.cell 0)) ?_)
 refine seqL2 kr ?_
 refine nl (hK449 _ _ ?_)
 refine blockK (fun B450 hx451 hn452 hr453 ho454 hp455 => ?_)
 replace h := bind_some h; obtain ⟨o553, hv666, h⟩ := h
 have J667 : ∀ (f655 : FM) (A661 : Option Addr) (c662 : Nat) (s663 : Seg) (x660 : List S_Order) (j659 : Nat → Value) (W657 : World) (a_ : Act), FM.le f411 f655 → some (x660) = some o553 → St t W657 f655 (s663 :: [(b442, .cells #[.slice A661 x660.length c662, .bool false, .bool false, .bool false, .bool false, .bool false] 101 (0, 0))] :: s419 :: [(b24, .cells #[.slice A12 x11.Execs.length c13, .slice A15 x11.Reports.length c16, .slice A18 x11.At.length c19, .int .i64 x11.Sent, .int .i64 x11.Heard] 40 (0, 0))] :: [(b1, .cells #[.slice A4 s3.L.length c5, .int .i64 x422] 25 (0, 0))] :: H) → Own ty_Order 67 f655 A661 c662 s663 x660 → a_ = ⟨⟨[pV b1 0, .slice A8 l7.length c9, (ag_Log x11 A12 c13 A15 c16 A18 c19), iV steps21, uV, uV, pV b24 0, uV, .slice none 0 0, .slice A417 out416.length c418, iV x421, pV b442 0, uV, (j659 0), .slice (some ⟨b30, 0, none⟩) ([] : List S_Input).length 0, iV steps21, iV x421, tV, iV x421, pV b24 0, .slice A12 x11.Execs.length c13, iV (x11.Execs.length : Int)] ++ (jr j659 1 34 (jr j415 42 19 [uV]))⟩, []⟩ → K446 a_ W657 := by
  intro f655 A661 c662 s663 x660 j659 W657 a_ L656 hj668 HS658 HO664 hfr_; subst hfr_
  injection hj668 with hj668; subst hj668; try dsimp only at h
  refine hK447 _ _ ?_
  refine wp_seq_k (fun K692 hK693 => ?_)
  refine wp_seq_k fun K694 hK695 => rl ?_
  have HS696 := HS658.u4
  replace h := bind_some h; obtain ⟨⟨vt697, vt698⟩, hc699, h⟩ := h
  refine seqL1 kr ?_
  refine seqK rfl (does_call kr (spymake_Stream_Next.calls k b1 A4 c5 (⟨s3.L, x422⟩ : S_Stream) 40 HS696 (HR6.mono (L412.trans L656)) vt697 vt698 hc699) ?_)
  rintro _ W702 ⟨f700, rfl, L701, HS703⟩
  refine ⟨_, rfl, ?_⟩
  refine seqL1 kr ?_
  refine nl (hK695 _ _ ?_)
  replace h := ite_some h; rcases h with ⟨c705, h⟩ | ⟨c705, h⟩
  rotate_left
  · have c705 : ¬ (vt697 = 0) := c705
    refine wpRwI 58 kr (beq_eq_false_iff_ne.mpr c705) ?_
    refine condF kr ?_
    refine wp_skip ?_
    refine hK693 _ _ ?_
    refine rl ?_
    refine seqL1 kr ?_
    refine seqK rfl (does_run (run_loadN (n := 6) rfl Try.underlying101 rfl kr (kv (pV b442 0)) (cs := [.slice A661 x660.length c662, .bool false, .bool false, .bool false, .bool false, .bool false]) rfl (HS703.u2.cells 0 6 _ rfl)) ?_)
    have HS750 := HS703.u1
    obtain ⟨f751, L752, HS753, HR754⟩ := (HO664.mono L701).freeze HS750
    refine seqK rfl (does_lit (e := ty_Input) (E := 101) (vs := #[(0, Value.agg #[.slice A661 x660.length c662, .bool false, .bool false, .bool false, .bool false, .bool false])]) (cs := #[.slice A661 x660.length c662, .bool false, .bool false, .bool false, .bool false, .bool false]) (xs := ([(⟨x660, (⟨false, false, false, false, false⟩ : S_Sensors)⟩ : S_Input)] : List S_Input)) rfl Try.underlying61 kr kr ⟨[.slice A661 x660.length c662, .bool false, .bool false, .bool false, .bool false, .bool false], _, rfl, ⟨A661, c662, rfl, HR754⟩, rfl⟩ rfl HS753 ?_ (by decide))
    intro b755 W756 s757 HS758 _ HO759
    replace h := guard_some h; obtain ⟨c761, h⟩ := h
    have c761 : (out416.length + 1) * 32 ≤ 140737488355328 := c761
    have HS763 := HS758.u3.u1
    refine seqK rfl (does_append1 (e := ty_Input) (E := 101) (xs := out416) (ys := ([(⟨x660, (⟨false, false, false, false, false⟩ : S_Sensors)⟩ : S_Input)] : List S_Input)) rfl (kv (.slice A417 out416.length c418)) (kv (.slice (some ⟨b755, 0, none⟩) ([(⟨x660, (⟨false, false, false, false, false⟩ : S_Sensors)⟩ : S_Input)] : List S_Input).length 1)) Try.underlying61 inf101 (HO420.mono (L656.trans (L701.trans L752))) HO759 HS763 c761 (lim63 c761 (by decide)) ?_)
    intro A764 c765 s766 W767 HS768 HO769
    refine seqL1 kr ?_
    refine nl ?_
    refine hn433 _ _ ?_
    refine hK430 _ _ ?_
    refine rl ?_
    refine seqL2 kr ?_
    refine nl ?_
    refine hK409 n410 _ _ (Nat.lt_succ_self _) ?_
    have HS792 := HS768.u1.u3.u2.u3
    have HS793 := HS792.drop
    exact ⟨f751, A764, c765, s766, (out416 ++ ([(⟨x660, (⟨false, false, false, false, false⟩ : S_Sensors)⟩ : S_Input)] : List S_Input)), (w64 (x421 + 1)), vt698, (jL [iV x421, pV b442 0, (j659 0), tV, iV x421, pV b24 0, .slice A12 x11.Execs.length c13, iV (x11.Execs.length : Int), (j659 1), (j659 2), (j659 3), (j659 4), (j659 5), (j659 6), (j659 7), (j659 8), (j659 9), (j659 10), (j659 11), (j659 12), (j659 13), (j659 14), (j659 15), (j659 16), (j659 17), (j659 18), (j659 19), (j659 20), (j659 21), (j659 22), (j659 23), (j659 24), (j659 25), (j659 26), (j659 27), (j659 28), (j659 29), (j659 30), (j659 31), (j659 32), (j659 33), (j659 34), pV b1 0, iV vt697, fV, (j415 45), (j415 46), (j415 47), (j415 48), (j415 49), (j415 50), (j415 51), (j415 52), (j415 53), (j415 54), (j415 55), .slice A417 out416.length c418, .agg #[.slice A661 x660.length c662, .bool false, .bool false, .bool false, .bool false, .bool false], .slice (some ⟨b755, 0, none⟩) ([(⟨x660, (⟨false, false, false, false, false⟩ : S_Sensors)⟩ : S_Input)] : List S_Input).length 1, .slice A764 (out416 ++ ([(⟨x660, (⟨false, false, false, false, false⟩ : S_Sensors)⟩ : S_Input)] : List S_Input)).length c765, iV (w64 (x421 + 1))]), (L412.trans (L656.trans (L701.trans L752))), HS793, HO769, h, kr⟩
  have c705 : vt697 = 0 := c705
  refine wpRwI 58 kr (beq_iff_eq.mpr c705) ?_
  refine condT kr ?_
  refine rl ?_
  replace h := bind_some h; obtain ⟨⟨vt706, vt707⟩, hc708, h⟩ := h
  refine seqL1 kr ?_
  refine seqK rfl (does_call kr (spymake_Stream_Next.calls k b1 A4 c5 (⟨s3.L, vt698⟩ : S_Stream) 2 HS703 (HR6.mono (L412.trans (L656.trans L701))) vt706 vt707 hc708) ?_)
  rintro _ W711 ⟨f709, rfl, L710, HS712⟩
  refine ⟨_, rfl, ?_⟩
  replace h := bind_some h; obtain ⟨⟨vt713, vt714⟩, hc715, h⟩ := h
  refine seqL2 kr ?_
  refine seqK rfl (does_call kr (spymake_Stream_Next.calls k b1 A4 c5 (⟨s3.L, vt707⟩ : S_Stream) 2 HS712 (HR6.mono (L412.trans (L656.trans (L701.trans L710)))) vt713 vt714 hc715) ?_)
  rintro _ W718 ⟨f716, rfl, L717, HS719⟩
  refine ⟨_, rfl, ?_⟩
  replace h := bind_some h; obtain ⟨⟨vt720, vt721⟩, hc722, h⟩ := h
  refine seqL2 kr ?_
  refine seqK rfl (does_call kr (spymake_Stream_Next.calls k b1 A4 c5 (⟨s3.L, vt714⟩ : S_Stream) 2 HS719 (HR6.mono (L412.trans (L656.trans (L701.trans (L710.trans L717))))) vt720 vt721 hc722) ?_)
  rintro _ W725 ⟨f723, rfl, L724, HS726⟩
  refine ⟨_, rfl, ?_⟩
  have HS727 := HS726.u2
  refine seqL3 kr ?_
  refine seqK rfl (does_store (n := 5) (vs := (lm_Sensors (vt706 == 0) (vt713 == 0) false false (vt720 == 0))) (cs' := #[.slice A661 x660.length c662, .bool (vt706 == 0), .bool (vt713 == 0), .bool false, .bool false, .bool (vt720 == 0)]) rfl kr (kv (pV b442 1)) (kv (.agg (cm_Sensors (vt706 == 0) (vt713 == 0) false false (vt720 == 0)))) rfl rfl (ones rfl) HS727 (Nat.le_of_ble_eq_true rfl) kr ?_)
  intro W728 HS729
  refine nl (hK693 _ _ ?_)
  refine rl ?_
  refine seqL1 kr ?_
  refine seqK rfl (does_run (run_loadN (n := 6) rfl Try.underlying101 rfl kr (kv (pV b442 0)) (cs := [.slice A661 x660.length c662, .bool (vt706 == 0), .bool (vt713 == 0), .bool false, .bool false, .bool (vt720 == 0)]) rfl (HS729.cells 0 6 _ rfl)) ?_)
  have HS730 := HS729.u2
  obtain ⟨f731, L732, HS733, HR734⟩ := (HO664.mono (L701.trans (L710.trans (L717.trans L724)))).freeze HS730
  refine seqK rfl (does_lit (e := ty_Input) (E := 101) (vs := #[(0, Value.agg #[.slice A661 x660.length c662, .bool (vt706 == 0), .bool (vt713 == 0), .bool false, .bool false, .bool (vt720 == 0)])]) (cs := #[.slice A661 x660.length c662, .bool (vt706 == 0), .bool (vt713 == 0), .bool false, .bool false, .bool (vt720 == 0)]) (xs := ([(⟨x660, (⟨(vt706 == 0), (vt713 == 0), false, false, (vt720 == 0)⟩ : S_Sensors)⟩ : S_Input)] : List S_Input)) rfl Try.underlying61 kr kr ⟨[.slice A661 x660.length c662, .bool (vt706 == 0), .bool (vt713 == 0), .bool false, .bool false, .bool (vt720 == 0)], _, rfl, ⟨A661, c662, rfl, HR734⟩, rfl⟩ rfl HS733 ?_ (by decide))
  intro b735 W736 s737 HS738 _ HO739
  replace h := guard_some h; obtain ⟨c741, h⟩ := h
  have c741 : (out416.length + 1) * 32 ≤ 140737488355328 := c741
  have HS743 := HS738.u3.u1
  refine seqK rfl (does_append1 (e := ty_Input) (E := 101) (xs := out416) (ys := ([(⟨x660, (⟨(vt706 == 0), (vt713 == 0), false, false, (vt720 == 0)⟩ : S_Sensors)⟩ : S_Input)] : List S_Input)) rfl (kv (.slice A417 out416.length c418)) (kv (.slice (some ⟨b735, 0, none⟩) ([(⟨x660, (⟨(vt706 == 0), (vt713 == 0), false, false, (vt720 == 0)⟩ : S_Sensors)⟩ : S_Input)] : List S_Input).length 1)) Try.underlying61 inf101 (HO420.mono (L656.trans (L701.trans (L710.trans (L717.trans (L724.trans L732)))))) HO739 HS743 c741 (lim63 c741 (by decide)) ?_)
  intro A744 c745 s746 W747 HS748 HO749
  refine seqL1 kr ?_
  refine nl ?_
  refine hn433 _ _ ?_
  refine hK430 _ _ ?_
  refine rl ?_
  refine seqL2 kr ?_
  refine nl ?_
  refine hK409 n410 _ _ (Nat.lt_succ_self _) ?_
  have HS787 := HS748.u2.u3.u2.u3
  have HS788 := HS787.drop
  exact ⟨f731, A744, c745, s746, (out416 ++ ([(⟨x660, (⟨(vt706 == 0), (vt713 == 0), false, false, (vt720 == 0)⟩ : S_Sensors)⟩ : S_Input)] : List S_Input)), (w64 (x421 + 1)), vt721, (jL [iV x421, pV b442 0, (j659 0), tV, iV x421, pV b24 0, .slice A12 x11.Execs.length c13, iV (x11.Execs.length : Int), (j659 1), (j659 2), (j659 3), (j659 4), (j659 5), (j659 6), (j659 7), (j659 8), (j659 9), (j659 10), (j659 11), (j659 12), (j659 13), (j659 14), (j659 15), (j659 16), (j659 17), (j659 18), (j659 19), (j659 20), (j659 21), (j659 22), (j659 23), (j659 24), (j659 25), (j659 26), (j659 27), (j659 28), (j659 29), (j659 30), (j659 31), (j659 32), (j659 33), (j659 34), pV b1 0, iV vt697, tV, pV b1 0, iV vt706, .bool (vt706 == 0), pV b1 0, iV vt713, .bool (vt713 == 0), pV b1 0, iV vt720, .bool (vt720 == 0), .agg (cm_Sensors (vt706 == 0) (vt713 == 0) false false (vt720 == 0)), pV b442 1, .slice A417 out416.length c418, .agg #[.slice A661 x660.length c662, .bool (vt706 == 0), .bool (vt713 == 0), .bool false, .bool false, .bool (vt720 == 0)], .slice (some ⟨b735, 0, none⟩) ([(⟨x660, (⟨(vt706 == 0), (vt713 == 0), false, false, (vt720 == 0)⟩ : S_Sensors)⟩ : S_Input)] : List S_Input).length 1, .slice A744 (out416 ++ ([(⟨x660, (⟨(vt706 == 0), (vt713 == 0), false, false, (vt720 == 0)⟩ : S_Sensors)⟩ : S_Input)] : List S_Input)).length c745, iV (w64 (x421 + 1))]), (L412.trans (L656.trans (L701.trans (L710.trans (L717.trans (L724.trans L732)))))), HS788, HO749, h, kr⟩
 clear h; have h := hv666; clear hv666
 have HS669 := HS444.cons_nil
 refine loopK (fun n_ a_ w_ => ∃ (f557 : FM) (A564 : Option Addr) (c565 : Nat) (s566 : Seg) (x562 : Int) (x563 : List S_Order) (j561 : Nat → Value), FM.le f411 f557 ∧ St t w_ f557 (s566 :: [(b442, .cells #[.slice A564 x563.length c565, .bool false, .bool false, .bool false, .bool false, .bool false] 101 (0, 0))] :: s419 :: [(b24, .cells #[.slice A12 x11.Execs.length c13, .slice A15 x11.Reports.length c16, .slice A18 x11.At.length c19, .int .i64 x11.Sent, .int .i64 x11.Heard] 40 (0, 0))] :: [(b1, .cells #[.slice A4 s3.L.length c5, .int .i64 x422] 25 (0, 0))] :: H) ∧ Own ty_Order 67 f557 A564 c565 s566 x563 ∧ spytop_h1script.l1 k x11 x421 l7 n_ x562 x563 = some o553 ∧ a_ = ⟨⟨[pV b1 0, .slice A8 l7.length c9, (ag_Log x11 A12 c13 A15 c16 A18 c19), iV steps21, uV, uV, pV b24 0, uV, .slice none 0 0, .slice A417 out416.length c418, iV x421, pV b442 0, uV, (j561 0), .slice (some ⟨b30, 0, none⟩) ([] : List S_Input).length 0, iV steps21, iV x421, tV, iV x421, pV b24 0, .slice A12 x11.Execs.length c13, iV (x11.Execs.length : Int), iV x562] ++ (jr j561 1 33 (jr j415 42 19 [uV]))⟩, []⟩) k ⟨f411, none, 0, [], 0, ([] : List S_Order), (jL [(j415 2), (j415 9), (j415 10), (j415 11), (j415 12), (j415 13), (j415 14), (j415 15), (j415 16), (j415 17), (j415 18), (j415 19), (j415 20), (j415 21), (j415 22), (j415 23), (j415 24), (j415 25), (j415 26), (j415 27), (j415 28), (j415 29), (j415 30), (j415 31), (j415 32), (j415 33), (j415 34), (j415 35), (j415 36), (j415 37), (j415 38), (j415 39), (j415 40), (j415 41)]), fL, HS669, (Own.nil _), h, kr⟩ ?_
 clear h
 rintro n556 _ W559 ⟨f557, A564, c565, s566, x562, x563, j561, L558, HS560, HO567, h, rfl⟩ K554 hK555
 obtain _ | n556 := n556
 · exact nomatch h
 simp only [spytop_h1script.l1] at h
 refine wp_seq_k fun K569 hK570 => rl ?_
 refine seqL1 kr ?_
 refine nl (hK570 _ _ ?_)
 refine wp_seq_k (fun K571 hK572 => ?_)
 replace h := ite_some h; rcases h with ⟨c574, h⟩ | ⟨c574, h⟩
 rotate_left
 · have c574 : ¬ (x562 < (x11.Execs.length : Int)) := c574
   refine wpRwI 23 kr (decide_eq_false c574) ?_
   refine condF kr ?_
   refine wp_exit ?_
   refine hx451 _ _ ?_
   exact J667 f557 A564 c565 s566 x563 (jL [(j561 0), iV x562, fV, (j561 2), (j561 3), (j561 4), (j561 5), (j561 6), (j561 7), (j561 8), (j561 9), (j561 10), (j561 11), (j561 12), (j561 13), (j561 14), (j561 15), (j561 16), (j561 17), (j561 18), (j561 19), (j561 20), (j561 21), (j561 22), (j561 23), (j561 24), (j561 25), (j561 26), (j561 27), (j561 28), (j561 29), (j561 30), (j561 31), (j561 32), (j561 33)]) W559 _ L558 h HS560 HO567 kr
 have c574 : x562 < (x11.Execs.length : Int) := c574
 refine wpRwI 23 kr (decide_eq_true c574) ?_
 refine condT kr ?_
 refine wp_skip ?_
 refine hK572 _ _ ?_
 refine wp_seq_k (fun K575 hK576 => ?_)
 refine blockK (fun B577 hx578 hn579 hr580 ho581 hp582 => ?_)
 refine wp_seq_k fun K584 hK585 => rl ?_
 replace h := guard_some h; obtain ⟨c586, h⟩ := h
 have c586 : 0 ≤ x562 := c586
 obtain ⟨b590, of591, cs587, hA592, hr588, hc589⟩ := (HR14.mono (L412.trans L558)).at (i := x562) c586 c574
 obtain rfl := hr588
 refine seqK rfl (does_run (run_indexE hA592 (sz := 2) rfl Try.underlying38 kr (kv (.slice A12 x11.Execs.length c13)) (kv (.int .i64 x562)) c586 c574 W559) ?_)
 refine seqK rfl (does_run (run_loadN (n := 2) rfl Try.underlying104 rfl kr (kv (pV b590 (of591 + (x562 : Int).toNat * 2))) (cs := [.int .i64 ((rd x11.Execs x562).Cmd), .int .i64 ((rd x11.Execs x562).At)]) rfl (fun j_ hj_ => ((hc589 fL HS560) j_ hj_))) ?_)
 refine seqK rfl (does_alloc (z := Value.agg #[.int .i64 0, .int .i64 0]) (cs := #[.int .i64 0, .int .i64 0]) rfl kr rfl HS560 ?_)
 intro b593 W594 HS595
 refine seqK rfl (does_storeA (vs := [.int .i64 ((rd x11.Execs x562).Cmd), .int .i64 ((rd x11.Execs x562).At)]) rfl kr kr kr rfl (ones rfl) HS595 kr ?_)
 intro W597 HS598
 refine nl (hK585 _ _ ?_)
 refine wp_seq_k fun K599 hK600 => rl ?_
 refine seqL1 kr ?_
 refine seqK rfl (does_run (run_load rfl Try.underlying3 rfl (kv (pV b593 1)) (HS598.cell 1)) ?_)
 refine seqL3 kr ?_
 replace h := ite_some h; rcases h with ⟨c602, h⟩ | ⟨c602, h⟩
 rotate_left
 · have c602 : ¬ (((rd x11.Execs x562).At) = x421) := c602
   refine seqRwI 29 kr (beq_eq_false_iff_ne.mpr c602) ?_
   refine seqRwI 30 kr (beq_eq_false_iff_ne.mpr c602) ?_
   refine seqL6 kr ?_
   refine nl (hK600 _ _ ?_)
   refine condF kr ?_
   refine wp_skip ?_
   refine hn579 _ _ ?_
   refine hK576 _ _ ?_
   refine rl ?_
   refine seqL2 kr ?_
   refine nl ?_
   refine hK555 n556 _ _ (Nat.lt_succ_self _) ?_
   have HS690 := HS598.u5.u5.u5.u5.u5.u5
   have HS691 := HS690.drop
   exact ⟨f557, A564, c565, s566, (w64 (x562 + 1)), x563, (jL [pV b593 0, tV, pV b590 (of591 + (x562 : Int).toNat * 2), .agg #[.int .i64 ((rd x11.Execs x562).Cmd), .int .i64 ((rd x11.Execs x562).At)], pV b593 1, iV ((rd x11.Execs x562).At), iV x421, fV, fV, uV, uV, uV, uV, uV, fV, (j561 15), (j561 16), (j561 17), (j561 18), (j561 19), (j561 20), (j561 21), (j561 22), (j561 23), (j561 24), (j561 25), (j561 26), (j561 27), (j561 28), (j561 29), (j561 30), (j561 31), (j561 32), iV (w64 (x562 + 1))]), L558, HS691, HO567, h, kr⟩
 have c602 : ((rd x11.Execs x562).At) = x421 := c602
 refine seqRwI 29 kr (beq_iff_eq.mpr c602) ?_
 refine seqRwI 30 kr (beq_iff_eq.mpr c602) ?_
 refine seqL1 kr ?_
 refine seqG kr (does_run (run_load rfl Try.underlying3 rfl (kv (pV b593 0)) (HS598.cell 0)) ?_)
 refine seqL4 kr ?_
 refine nl (hK600 _ _ ?_)
 replace h := ite_some h; rcases h with ⟨c604, h⟩ | ⟨c604, h⟩
 rotate_left
 · have c604 : ¬ (((rd x11.Execs x562).Cmd) < (l7.length : Int)) := c604
   refine wpRwI 35 kr (decide_eq_false c604) ?_
   refine wpRwI 36 kr (decide_eq_false c604) ?_
   refine condF kr ?_
   refine wp_skip ?_
   refine hn579 _ _ ?_
   refine hK576 _ _ ?_
   refine rl ?_
   refine seqL2 kr ?_
   refine nl ?_
   refine hK555 n556 _ _ (Nat.lt_succ_self _) ?_
   have HS683 := HS598.u5.u5.u5.u5.u5.u5
   have HS684 := HS683.drop
   exact ⟨f557, A564, c565, s566, (w64 (x562 + 1)), x563, (jL [pV b593 0, tV, pV b590 (of591 + (x562 : Int).toNat * 2), .agg #[.int .i64 ((rd x11.Execs x562).Cmd), .int .i64 ((rd x11.Execs x562).At)], pV b593 1, iV ((rd x11.Execs x562).At), iV x421, tV, tV, pV b593 0, iV ((rd x11.Execs x562).Cmd), .slice A8 l7.length c9, iV (l7.length : Int), fV, fV, (j561 15), (j561 16), (j561 17), (j561 18), (j561 19), (j561 20), (j561 21), (j561 22), (j561 23), (j561 24), (j561 25), (j561 26), (j561 27), (j561 28), (j561 29), (j561 30), (j561 31), (j561 32), iV (w64 (x562 + 1))]), L558, HS684, HO567, h, kr⟩
 have c604 : ((rd x11.Execs x562).Cmd) < (l7.length : Int) := c604
 refine wpRwI 35 kr (decide_eq_true c604) ?_
 refine wpRwI 36 kr (decide_eq_true c604) ?_
 refine condT kr ?_
 have HS610 := HS598.u5.u5.u5.u3.u5.u5
 refine heldG (S := Sg t f557 ([(b593, .cells #[.int .i64 ((rd x11.Execs x562).Cmd), .int .i64 ((rd x11.Execs x562).At)] 104 (0, 0))] :: s419 :: [(b24, .cells #[.slice A12 x11.Execs.length c13, .slice A15 x11.Reports.length c16, .slice A18 x11.At.length c19, .int .i64 x11.Sent, .int .i64 x11.Heard] 40 (0, 0))] :: [(b1, .cells #[.slice A4 s3.L.length c5, .int .i64 x422] 25 (0, 0))] :: H) [(16, s566), (16, [(b442, .cells #[.slice A564 x563.length c565, .bool false, .bool false, .bool false, .bool false, .bool false] 101 (0, 0))])]) (n := 19) kr rfl HS610 ?_
 intro W611 HS612
 refine gL [0] (fuel := 18) (bA 19 1) rfl kr kr kr (fun ch_ a_ w_ q_ => (fun ch_ a_ w_ q_ => (fun ch_ a_ w_ q_ => (fun ch_ a_ w_ q_ => hnp ch_ a_ w_ (hp45 ch_ a_ w_ q_)) ch_ a_ w_ (hp436 ch_ a_ w_ q_)) ch_ a_ w_ (hp455 ch_ a_ w_ q_)) ch_ a_ w_ (hp582 ch_ a_ w_ q_)) (Sg.g2 (Sx.of [s566, [(b442, .cells #[.slice A564 x563.length c565, .bool false, .bool false, .bool false, .bool false, .bool false] 101 (0, 0))]] fL HS612) (fun _ => St.only [] HS612 fL) (fun _ => St.only [s566] HS612 fL)) fun X613 => ?_
 refine gQs 1 16 rfl kr kr kr kr kr (.tail _ (.head _)) kr (fun ch_ a_ w_ q_ => (fun ch_ a_ w_ q_ => (fun ch_ a_ w_ q_ => (fun ch_ a_ w_ q_ => hnp ch_ a_ w_ (hp45 ch_ a_ w_ q_)) ch_ a_ w_ (hp436 ch_ a_ w_ q_)) ch_ a_ w_ (hp455 ch_ a_ w_ q_)) ch_ a_ w_ (hp582 ch_ a_ w_ q_)) X613 (fun hl_ hS_ => run_load rfl Try.underlying99 rfl (kv (pV b442 0)) (hS_.cell 0)) fun X614 => ?_
 refine gL [2, 3] (fuel := 15) (bA 19 15) rfl kr kr kr (fun ch_ a_ w_ q_ => (fun ch_ a_ w_ q_ => (fun ch_ a_ w_ q_ => (fun ch_ a_ w_ q_ => hnp ch_ a_ w_ (hp45 ch_ a_ w_ q_)) ch_ a_ w_ (hp436 ch_ a_ w_ q_)) ch_ a_ w_ (hp455 ch_ a_ w_ q_)) ch_ a_ w_ (hp582 ch_ a_ w_ q_)) X614 fun X615 => ?_
 refine gQ 4 rfl kr kr kr kr kr (fun ch_ a_ w_ q_ => (fun ch_ a_ w_ q_ => (fun ch_ a_ w_ q_ => (fun ch_ a_ w_ q_ => hnp ch_ a_ w_ (hp45 ch_ a_ w_ q_)) ch_ a_ w_ (hp436 ch_ a_ w_ q_)) ch_ a_ w_ (hp455 ch_ a_ w_ q_)) ch_ a_ w_ (hp582 ch_ a_ w_ q_)) X615 (fun hl_ hS_ => run_load rfl Try.underlying3 rfl (kv (pV b593 0)) (hS_.cell 0)) fun X616 => ?_
 replace h := guard_some h; obtain ⟨c617, h⟩ := h
 have c617 : 0 ≤ ((rd x11.Execs x562).Cmd) := c617
 obtain ⟨b621, of622, cs618, hA623, hr619, hc620⟩ := (HR10.mono (L412.trans L558)).at (i := (rd x11.Execs x562).Cmd) c617 c604
 obtain rfl := hr619
 refine gQ 5 rfl kr kr kr kr kr (fun ch_ a_ w_ q_ => (fun ch_ a_ w_ q_ => (fun ch_ a_ w_ q_ => (fun ch_ a_ w_ q_ => hnp ch_ a_ w_ (hp45 ch_ a_ w_ q_)) ch_ a_ w_ (hp436 ch_ a_ w_ q_)) ch_ a_ w_ (hp455 ch_ a_ w_ q_)) ch_ a_ w_ (hp582 ch_ a_ w_ q_)) X616 (fun hl_ hS_ => run_indexE hA623 (sz := 3) rfl Try.underlying33 kr (kv (.slice A8 l7.length c9)) (kv (.int .i64 ((rd x11.Execs x562).Cmd))) c617 c604 _) fun X624 => ?_
 refine gL [6] (fuel := 12) (bA 19 127) rfl kr kr kr (fun ch_ a_ w_ q_ => (fun ch_ a_ w_ q_ => (fun ch_ a_ w_ q_ => (fun ch_ a_ w_ q_ => hnp ch_ a_ w_ (hp45 ch_ a_ w_ q_)) ch_ a_ w_ (hp436 ch_ a_ w_ q_)) ch_ a_ w_ (hp455 ch_ a_ w_ q_)) ch_ a_ w_ (hp582 ch_ a_ w_ q_)) X624 fun X625 => ?_
 refine gQ 7 rfl kr kr kr kr kr (fun ch_ a_ w_ q_ => (fun ch_ a_ w_ q_ => (fun ch_ a_ w_ q_ => (fun ch_ a_ w_ q_ => hnp ch_ a_ w_ (hp45 ch_ a_ w_ q_)) ch_ a_ w_ (hp436 ch_ a_ w_ q_)) ch_ a_ w_ (hp455 ch_ a_ w_ q_)) ch_ a_ w_ (hp582 ch_ a_ w_ q_)) X625 (fun hl_ hS_ => run_load rfl Try.underlying3 rfl (kv (pV b621 (of622 + ((rd x11.Execs x562).Cmd : Int).toNat * 3))) ((hc620 hl_ hS_) 0 (by decide))) fun X626 => ?_
 refine gL [8, 9] (fuel := 9) (bA 19 1023) rfl kr kr kr (fun ch_ a_ w_ q_ => (fun ch_ a_ w_ q_ => (fun ch_ a_ w_ q_ => (fun ch_ a_ w_ q_ => hnp ch_ a_ w_ (hp45 ch_ a_ w_ q_)) ch_ a_ w_ (hp436 ch_ a_ w_ q_)) ch_ a_ w_ (hp455 ch_ a_ w_ q_)) ch_ a_ w_ (hp582 ch_ a_ w_ q_)) X626 fun X627 => ?_
 refine gQ 10 rfl kr kr kr kr kr (fun ch_ a_ w_ q_ => (fun ch_ a_ w_ q_ => (fun ch_ a_ w_ q_ => (fun ch_ a_ w_ q_ => hnp ch_ a_ w_ (hp45 ch_ a_ w_ q_)) ch_ a_ w_ (hp436 ch_ a_ w_ q_)) ch_ a_ w_ (hp455 ch_ a_ w_ q_)) ch_ a_ w_ (hp582 ch_ a_ w_ q_)) X627 (fun hl_ hS_ => run_load rfl Try.underlying3 rfl (kv (pV b593 0)) (hS_.cell 0)) fun X628 => ?_
 refine gQ 11 rfl kr kr kr kr kr (fun ch_ a_ w_ q_ => (fun ch_ a_ w_ q_ => (fun ch_ a_ w_ q_ => (fun ch_ a_ w_ q_ => hnp ch_ a_ w_ (hp45 ch_ a_ w_ q_)) ch_ a_ w_ (hp436 ch_ a_ w_ q_)) ch_ a_ w_ (hp455 ch_ a_ w_ q_)) ch_ a_ w_ (hp582 ch_ a_ w_ q_)) X628 (fun hl_ hS_ => run_indexE hA623 (sz := 3) rfl Try.underlying33 kr (kv (.slice A8 l7.length c9)) (kv (.int .i64 ((rd x11.Execs x562).Cmd))) c617 c604 _) fun X629 => ?_
 refine gL [12] (fuel := 6) (bA 19 8191) rfl kr kr kr (fun ch_ a_ w_ q_ => (fun ch_ a_ w_ q_ => (fun ch_ a_ w_ q_ => (fun ch_ a_ w_ q_ => hnp ch_ a_ w_ (hp45 ch_ a_ w_ q_)) ch_ a_ w_ (hp436 ch_ a_ w_ q_)) ch_ a_ w_ (hp455 ch_ a_ w_ q_)) ch_ a_ w_ (hp582 ch_ a_ w_ q_)) X629 fun X630 => ?_
 refine gQ 13 rfl kr kr kr kr kr (fun ch_ a_ w_ q_ => (fun ch_ a_ w_ q_ => (fun ch_ a_ w_ q_ => (fun ch_ a_ w_ q_ => hnp ch_ a_ w_ (hp45 ch_ a_ w_ q_)) ch_ a_ w_ (hp436 ch_ a_ w_ q_)) ch_ a_ w_ (hp455 ch_ a_ w_ q_)) ch_ a_ w_ (hp582 ch_ a_ w_ q_)) X630 (fun hl_ hS_ => run_load rfl Try.underlying2 rfl (kv (pV b621 (of622 + ((rd x11.Execs x562).Cmd : Int).toNat * 3 + 1))) ((hc620 hl_ hS_) 1 (by decide))) fun X631 => ?_
 refine gL [14] (fuel := 4) (bA 19 32767) rfl kr kr kr (fun ch_ a_ w_ q_ => (fun ch_ a_ w_ q_ => (fun ch_ a_ w_ q_ => (fun ch_ a_ w_ q_ => hnp ch_ a_ w_ (hp45 ch_ a_ w_ q_)) ch_ a_ w_ (hp436 ch_ a_ w_ q_)) ch_ a_ w_ (hp455 ch_ a_ w_ q_)) ch_ a_ w_ (hp582 ch_ a_ w_ q_)) X631 fun X632 => ?_
 refine takeGE 15 kr rfl kr (does_lit (e := ty_Order) (E := 67) (vs := #[(0, Value.agg #[.int .i64 ((rd l7 ((rd x11.Execs x562).Cmd)).Op), .int .i64 ((rd l7 ((rd x11.Execs x562).Cmd)).Arg)])]) (cs := #[.int .i64 ((rd l7 ((rd x11.Execs x562).Cmd)).Op), .int .i64 ((rd l7 ((rd x11.Execs x562).Cmd)).Arg)]) (xs := ([(⟨(rd l7 ((rd x11.Execs x562).Cmd)).Op, (rd l7 ((rd x11.Execs x562).Cmd)).Arg⟩ : S_Order)] : List S_Order)) rfl Try.underlying99 kr kr ⟨[.int .i64 ((rd l7 ((rd x11.Execs x562).Cmd)).Op), .int .i64 ((rd l7 ((rd x11.Execs x562).Cmd)).Arg)], _, rfl, rfl, rfl⟩ rfl HS612 ?_ (by decide))
 intro b633 W634 s635 HS636 _ HO637
 refine kB (Sg.g2 (Sx.of [s635, s566, [(b442, .cells #[.slice A564 x563.length c565, .bool false, .bool false, .bool false, .bool false, .bool false] 101 (0, 0))]] fL HS636) (fun _ => St.only [s635] HS636 fL) (fun _ => St.only [s635, s566] HS636 fL)) fun X639 => ?_
 replace h := guard_some h; obtain ⟨c640, h⟩ := h
 have c640 : (x563.length + 1) * 16 ≤ 140737488355328 := c640
 have HS642 := HS636.u1.u1
 refine takeGE 16 kr rfl kr (does_append1 (e := ty_Order) (E := 67) (xs := x563) (ys := ([(⟨(rd l7 ((rd x11.Execs x562).Cmd)).Op, (rd l7 ((rd x11.Execs x562).Cmd)).Arg⟩ : S_Order)] : List S_Order)) rfl (kv (.slice A564 x563.length c565)) (kv (.slice (some ⟨b633, 0, none⟩) ([(⟨(rd l7 ((rd x11.Execs x562).Cmd)).Op, (rd l7 ((rd x11.Execs x562).Cmd)).Arg⟩ : S_Order)] : List S_Order).length 1)) Try.underlying99 inf67 HO567 HO637 HS642 c640 (lim63 c640 (by decide)) ?_)
 intro A643 c644 s645 W646 HS647 HO648
 refine kB (Sg.g2 (Sx.of [s645, [(b442, .cells #[.slice A564 x563.length c565, .bool false, .bool false, .bool false, .bool false, .bool false] 101 (0, 0))]] fL HS647) (fun hl_ => Bool.noConfusion (show true = false from hl_)) (fun hl_ => Bool.noConfusion (show true = false from hl_))) fun X649 => ?_
 refine gL [17] (fuel := 1) (bA 19 262143) rfl kr kr kr (fun ch_ a_ w_ q_ => (fun ch_ a_ w_ q_ => (fun ch_ a_ w_ q_ => (fun ch_ a_ w_ q_ => hnp ch_ a_ w_ (hp45 ch_ a_ w_ q_)) ch_ a_ w_ (hp436 ch_ a_ w_ q_)) ch_ a_ w_ (hp455 ch_ a_ w_ q_)) ch_ a_ w_ (hp582 ch_ a_ w_ q_)) X649 fun X650 => ?_
 have HS651 := HS647.u1
 refine takeGE 18 kr rfl kr (does_store (n := 1) (vs := [.slice A643 (x563 ++ ([(⟨(rd l7 ((rd x11.Execs x562).Cmd)).Op, (rd l7 ((rd x11.Execs x562).Cmd)).Arg⟩ : S_Order)] : List S_Order)).length c644]) (cs' := #[.slice A643 (x563 ++ ([(⟨(rd l7 ((rd x11.Execs x562).Cmd)).Op, (rd l7 ((rd x11.Execs x562).Cmd)).Arg⟩ : S_Order)] : List S_Order)).length c644, .bool false, .bool false, .bool false, .bool false, .bool false]) rfl kr (kv (pV b442 0)) (kv (.slice A643 (x563 ++ ([(⟨(rd l7 ((rd x11.Execs x562).Cmd)).Op, (rd l7 ((rd x11.Execs x562).Cmd)).Arg⟩ : S_Order)] : List S_Order)).length c644)) rfl rfl (ones rfl) HS651 (Nat.le_of_ble_eq_true rfl) kr ?_)
 intro W652 HS653
 refine kB (Sg.g2 (Sx.of [[(b442, .cells #[.slice A643 (x563 ++ ([(⟨(rd l7 ((rd x11.Execs x562).Cmd)).Op, (rd l7 ((rd x11.Execs x562).Cmd)).Arg⟩ : S_Order)] : List S_Order)).length c644, .bool false, .bool false, .bool false, .bool false, .bool false] 101 (0, 0))], s645] fL HS653) (fun hl_ => Bool.noConfusion (show true = false from hl_)) (fun hl_ => Bool.noConfusion (show true = false from hl_))) fun X654 => ?_
 refine doneG kr ?_ _
 refine hn579 _ _ ?_
 refine hK576 _ _ ?_
 refine rl ?_
 refine seqL2 kr ?_
 refine nl ?_
 refine hK555 n556 _ _ (Nat.lt_succ_self _) ?_
 have HS676 := HS653.u5.u5.u5.u3.u4.u5
 have HS677 := HS676.drop
 exact ⟨f557, A643, c644, s645, (w64 (x562 + 1)), (x563 ++ ([(⟨(rd l7 ((rd x11.Execs x562).Cmd)).Op, (rd l7 ((rd x11.Execs x562).Cmd)).Arg⟩ : S_Order)] : List S_Order)), (jL [pV b593 0, tV, pV b590 (of591 + (x562 : Int).toNat * 2), .agg #[.int .i64 ((rd x11.Execs x562).Cmd), .int .i64 ((rd x11.Execs x562).At)], pV b593 1, iV ((rd x11.Execs x562).At), iV x421, tV, tV, pV b593 0, iV ((rd x11.Execs x562).Cmd), .slice A8 l7.length c9, iV (l7.length : Int), tV, tV, pV b442 0, .slice A564 x563.length c565, .slice A8 l7.length c9, pV b593 0, iV ((rd x11.Execs x562).Cmd), pV b621 (of622 + ((rd x11.Execs x562).Cmd : Int).toNat * 3), pV b621 (of622 + ((rd x11.Execs x562).Cmd : Int).toNat * 3), iV ((rd l7 ((rd x11.Execs x562).Cmd)).Op), .slice A8 l7.length c9, pV b593 0, iV ((rd x11.Execs x562).Cmd), pV b621 (of622 + ((rd x11.Execs x562).Cmd : Int).toNat * 3), pV b621 (of622 + ((rd x11.Execs x562).Cmd : Int).toNat * 3 + 1), iV ((rd l7 ((rd x11.Execs x562).Cmd)).Arg), .agg #[.int .i64 ((rd l7 ((rd x11.Execs x562).Cmd)).Op), .int .i64 ((rd l7 ((rd x11.Execs x562).Cmd)).Arg)], .slice (some ⟨b633, 0, none⟩) ([(⟨(rd l7 ((rd x11.Execs x562).Cmd)).Op, (rd l7 ((rd x11.Execs x562).Cmd)).Arg⟩ : S_Order)] : List S_Order).length 1, .slice A643 (x563 ++ ([(⟨(rd l7 ((rd x11.Execs x562).Cmd)).Op, (rd l7 ((rd x11.Execs x562).Cmd)).Arg⟩ : S_Order)] : List S_Order)).length c644, pV b442 0, iV (w64 (x562 + 1))]), L558, HS677, HO648, h, kr⟩

end Go.Sp.S4
