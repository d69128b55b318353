import Derived.Test.YtcnhbfdkediodaaProg
import Derived.Test.YtcnhbfdkediodaaSpCopy
import Derived.Test.YtcnhbfdkediodaaFX4
import Derived.Test.YtcnhbfdkediodaaSpMapsA
namespace Go.Sp.X4
open Go Go.Sp Go.Proofs
set_option linter.unusedVariables false
attribute [local irreducible] wpList AnyL Code.wp Calls Does

def ty_Point : Ty S_Point where
  sz := 2
  rep := fun f cs x => cs = [.int .i64 x.X, .int .i64 x.Y]
  pos := by decide
  len := by rintro f cs x rfl; rfl
  mono := by rintro f g cs x hl rfl; exact rfl
  one := by
    rintro f cs x rfl v hv
    simp only [List.mem_cons, List.not_mem_nil, or_false] at hv
    rcases hv with rfl | rfl <;> rfl
def ty_Stream : Ty S_Stream where
  sz := 2
  rep := fun f cs x => ∃ (A0 : Option Addr) (c0 : Nat), cs = [.slice A0 x.L.length c0, .int .i64 x.vat] ∧ SlR (tInt .i64) f A0 c0 x.L
  pos := by decide
  len := by rintro f cs x ⟨A0, c0, rfl, h0⟩; rfl
  mono := by rintro f g cs x hl ⟨A0, c0, rfl, h0⟩; exact ⟨A0, c0, rfl, h0.mono hl⟩
  one := by
    rintro f cs x ⟨A0, c0, rfl, h0⟩ v hv
    simp only [List.mem_cons, List.not_mem_nil, or_false] at hv
    rcases hv with rfl | rfl <;> rfl
def ty_Spot : Ty S_Spot where
  sz := 3
  rep := fun f cs x => cs = [.int .i64 x.X, .int .i64 x.Y, .int .i64 x.Light]
  pos := by decide
  len := by rintro f cs x rfl; rfl
  mono := by rintro f g cs x hl rfl; exact rfl
  one := by
    rintro f cs x rfl v hv
    simp only [List.mem_cons, List.not_mem_nil, or_false] at hv
    rcases hv with rfl | rfl | rfl <;> rfl
def ty_Part : Ty S_Part where
  sz := 2
  rep := fun f cs x => cs = [.int .i64 x.Cell, .int .i64 x.Weight]
  pos := by decide
  len := by rintro f cs x rfl; rfl
  mono := by rintro f g cs x hl rfl; exact rfl
  one := by
    rintro f cs x rfl v hv
    simp only [List.mem_cons, List.not_mem_nil, or_false] at hv
    rcases hv with rfl | rfl <;> rfl
def ty_Frac : Ty S_Frac where
  sz := 2
  rep := fun f cs x => cs = [.int .i64 x.Num, .int .i64 x.Den]
  pos := by decide
  len := by rintro f cs x rfl; rfl
  mono := by rintro f g cs x hl rfl; exact rfl
  one := by
    rintro f cs x rfl v hv
    simp only [List.mem_cons, List.not_mem_nil, or_false] at hv
    rcases hv with rfl | rfl <;> rfl
def ty_Wide : Ty S_Wide where
  sz := 2
  rep := fun f cs x => cs = [.int .i64 x.Hi, .int .u64 x.Lo]
  pos := by decide
  len := by rintro f cs x rfl; rfl
  mono := by rintro f g cs x hl rfl; exact rfl
  one := by
    rintro f cs x rfl v hv
    simp only [List.mem_cons, List.not_mem_nil, or_false] at hv
    rcases hv with rfl | rfl <;> rfl
abbrev ag_Spot (x : S_Spot) : Value := .agg #[.int .i64 x.X, .int .i64 x.Y, .int .i64 x.Light]
theorem inf31 : Inf Try.prog 31 1 8 (.int .i64 0) := .mk' kr rfl
theorem inf70 : Inf Try.prog 70 2 16 (.agg #[.int .i64 0, .int .i64 0]) := .mk' kr rfl
theorem inf42 : Inf Try.prog 42 3 24 (.agg #[.int .i64 0, .int .i64 0, .int .i64 0]) := .mk' kr rfl

set_option maxRecDepth 100000 in
set_option maxHeartbeats 4000000 in
theorem spymake_Below.calls (k : Nat)  (x1 : Int) (n2 : Int) {t w : World} {f : FM} {H : List Seg} (HS : St t w f (H)) (rr1 : Int) (h : spymake_Below k x1 n2 = some rr1) :
    Calls Try.prog 18 #[.int .i64 x1, .int .i64 n2] w (fun e w' => ∃ (g : FM), e = .returned (Value.int .i64 rr1) ∧ FM.le f g ∧ St t w' g (H)) := by
 unfold spymake_Below at h
 refine enter Try.func18 rfl (tm := #[iV x1, iV n2, uV, uV, uV, uV, uV, uV, uV, uV, uV, uV, uV, uV, uV, uV]) kr ?_
 intro B hret hnor hnp
 refine wp_seq_k fun K3 hK4 => rl ?_
 refine seqL1 kr ?_
 refine nl (hK4 _ _ ?_)
 refine wp_seq_k (fun K5 hK6 => ?_)
 refine wp_seq_k fun K7 hK8 => rl ?_
 refine seqL2 kr ?_
 refine nl (hK8 _ _ ?_)
 have hq_ := ite_some h; clear h; rcases hq_ with ⟨c10, h⟩ | ⟨c10, h⟩
 · have c10 : n2 < 1 := c10
   refine wpRwI 6 kr (decide_eq_true c10) ?_
   refine condT kr ?_
   refine wp_seq_k fun K11 hK12 => rl ?_
   refine seqL1 kr ?_
   refine nl (hK12 _ _ ?_)
   refine wp_ret ?_
   refine hret _ _ ?_
   refine ends_still (v := Value.int .i64 0) kr kr ?_
   injection h with h
   subst h
   exact ⟨f, rfl, FM.le.refl _, HS⟩
 · have c10 : ¬ (n2 < 1) := c10
   refine wpRwI 6 kr (decide_eq_false c10) ?_
   refine condF kr ?_
   refine wp_skip ?_
   refine hK6 _ _ ?_
   refine wp_seq_k fun K13 hK14 => rl ?_
   have hq_ := guard_some h; clear h; obtain ⟨c15, h⟩ := hq_
   have c15 : ¬ (n2 = 0) := c15
   refine seqL2 kr ?_
   refine seqK rfl (does_run (run_rem rfl (kv (.int .i64 x1)) (kv (.int .i64 n2)) c15 w) ?_)
   refine seqL1 kr ?_
   refine nl (hK14 _ _ ?_)
   refine wp_seq_k (fun K16 hK17 => ?_)
   refine wp_seq_k fun K18 hK19 => rl ?_
   refine seqL2 kr ?_
   refine nl (hK19 _ _ ?_)
   have hq_ := ite_some h; clear h; rcases hq_ with ⟨c21, h⟩ | ⟨c21, h⟩
   · have c21 : (Int.tmod x1 n2) < 0 := c21
     refine wpRwI 11 kr (decide_eq_true c21) ?_
     refine condT kr ?_
     refine rl ?_
     refine seqL4 kr ?_
     refine nl (hK17 _ _ ?_)
     refine wp_seq_k fun K22 hK23 => rl ?_
     refine seqL2 kr ?_
     refine nl (hK23 _ _ ?_)
     refine wp_ret ?_
     refine hret _ _ ?_
     refine ends_still (v := Value.int .i64 (w64 ((Int.tmod x1 n2) + n2))) kr kr ?_
     injection h with h
     subst h
     exact ⟨f, rfl, FM.le.refl _, HS⟩
   · have c21 : ¬ ((Int.tmod x1 n2) < 0) := c21
     refine wpRwI 11 kr (decide_eq_false c21) ?_
     refine condF kr ?_
     refine wp_skip ?_
     refine hK17 _ _ ?_
     refine wp_seq_k fun K24 hK25 => rl ?_
     refine seqL2 kr ?_
     refine nl (hK25 _ _ ?_)
     refine wp_ret ?_
     refine hret _ _ ?_
     refine ends_still (v := Value.int .i64 (Int.tmod x1 n2)) kr kr ?_
     injection h with h
     subst h
     exact ⟨f, rfl, FM.le.refl _, HS⟩

set_option maxRecDepth 100000 in
set_option maxHeartbeats 4000000 in
theorem spymake_Stream_Next.calls (k : Nat) (b1 : Nat) (A4 : Option Addr) (c5 : Nat) (s3 : S_Stream) (n7 : Int) {t w : World} {f : FM} {H : List Seg} (HS : St t w f ([(b1, .cells #[.slice A4 s3.L.length c5, .int .i64 s3.vat] 28 (0, 0))] :: H)) (HR6 : SlR (tInt .i64) f A4 c5 s3.L) (rr1 : Int) (rr2 : Int) (h : spymake_Stream_Next k s3 n7 = some (rr1, rr2)) :
    Calls Try.prog 6 #[.pointer (some ⟨b1, 0, none⟩), .int .i64 n7] w (fun e w' => ∃ (g : FM), e = .returned (Value.int .i64 rr1) ∧ FM.le f g ∧ St t w' g ([(b1, .cells #[.slice A4 s3.L.length c5, .int .i64 rr2] 28 (0, 0))] :: H)) := by
 unfold spymake_Stream_Next at h
 refine enter Try.func6 rfl (tm := #[pV b1 0, iV n7, uV, uV, uV, uV, uV, uV, uV, uV, uV, uV, uV, uV, uV, uV, uV, uV, uV, uV, uV, uV, uV, uV, uV, uV, uV, uV, uV, uV, uV, uV, uV, uV, uV, uV, uV, uV, uV, uV, uV, uV, uV, uV, uV, uV, uV, uV, uV, uV, uV, uV, uV, uV, uV, uV, uV, uV, uV, uV, uV, uV, uV, uV]) kr ?_
 intro B hret hnor hnp
 refine wp_seq_k fun K8 hK9 => rl ?_
 refine seqL1 kr ?_
 refine nl (hK9 _ _ ?_)
 refine wp_seq_k fun K10 hK11 => rl ?_
 refine seqL3 kr ?_
 refine seqK rfl (does_run (run_load rfl Try.underlying3 rfl (kv (.pointer (some ⟨b1, 1, none⟩))) (HS.cell 1)) ?_)
 refine seqL3 kr ?_
 refine seqK rfl (does_store (n := 1) (vs := [.int .i64 (w64 (s3.vat + 1))]) (cs' := #[.slice A4 s3.L.length c5, .int .i64 (w64 (s3.vat + 1))]) rfl kr (kv (.pointer (some ⟨b1, 1, none⟩))) (kv (.int .i64 (w64 (s3.vat + 1)))) rfl rfl (ones rfl) HS (Nat.le_of_ble_eq_true rfl) kr ?_)
 intro W12 HS13
 refine nl (hK11 _ _ ?_)
 refine wp_seq_k (fun K14 hK15 => ?_)
 refine wp_seq_k fun K16 hK17 => rl ?_
 refine seqL3 kr ?_
 refine seqK rfl (does_run (run_load rfl Try.underlying25 rfl (kv (.pointer (some ⟨b1, 0, none⟩))) (HS13.cell 0)) ?_)
 refine seqL2 kr ?_
 refine nl (hK17 _ _ ?_)
 have hq_ := ite_some h; clear h; rcases hq_ with ⟨c19, h⟩ | ⟨c19, h⟩
 · have c19 : (s3.L.length : Int) = 0 := c19
   refine wpRwI 19 kr (beq_iff_eq.mpr c19) ?_
   refine condT kr ?_
   refine wp_seq_k fun K20 hK21 => rl ?_
   refine seqL3 kr ?_
   refine seqK rfl (does_run (run_load rfl Try.underlying3 rfl (kv (.pointer (some ⟨b1, 1, none⟩))) (HS13.cell 1)) ?_)
   have hq_ := bind_some h; clear h; obtain ⟨vt22, hc23, h⟩ := hq_
   refine seqL2 kr ?_
   refine seqK rfl (does_call (f := 18) (args := #[.int .i64 (w64 ((w64 (s3.vat + 1)) * 7919)), .int .i64 n7]) kr (spymake_Below.calls k (w64 ((w64 (s3.vat + 1)) * 7919)) n7 HS13 vt22 hc23) ?_)
   rintro _ W26 ⟨f24, rfl, L25, HS27⟩
   refine ⟨_, rfl, ?_⟩
   refine seqL1 kr ?_
   refine nl (hK21 _ _ ?_)
   refine wp_ret ?_
   refine hret _ _ ?_
   refine ends_still (v := Value.int .i64 vt22) kr kr ?_
   injection h with h
   injection h with h0_ h
   subst h0_ h
   exact ⟨f24, rfl, L25, HS27⟩
 · have c19 : ¬ ((s3.L.length : Int) = 0) := c19
   refine wpRwI 19 kr (beq_eq_false_iff_ne.mpr c19) ?_
   refine condF kr ?_
   refine wp_skip ?_
   refine hK15 _ _ ?_
   refine wp_seq_k (fun K28 hK29 => ?_)
   refine heldG (S := Sg t f ([(b1, .cells #[.slice A4 s3.L.length c5, .int .i64 (w64 (s3.vat + 1))] 28 (0, 0))] :: H) []) (n := 12) kr rfl HS13 ?_
   intro W30 HS31
   refine takeGL [0, 1, 2] (n := 12) (fuel := 9) #[true, true, true, false, false, false, false, false, false, false, false, false] rfl kr kr kr hnp (Sg.g0 (Sx.of [] fL HS31)) ?_
   refine takeGQ 3 [] rfl kr kr kr kr kr kr hnp (Sg.g0 (Sx.of [] fL HS31)) (fun w_ hw_ => by obtain ⟨g_, hl_, hS_⟩ := hw_.st; exact run_load rfl Try.underlying3 rfl (kv (.pointer (some ⟨b1, 1, none⟩))) (hS_.cell 1)) ?_
   refine takeGL [4, 5, 6, 7] (n := 8) (fuel := 4) #[true, true, true, true, true, true, true, true, false, false, false, false] rfl kr kr kr hnp (Sg.g0 (Sx.of [] fL HS31)) ?_
   refine takeGQ 8 [] rfl kr kr kr kr kr kr hnp (Sg.g0 (Sx.of [] fL HS31)) (fun w_ hw_ => by obtain ⟨g_, hl_, hS_⟩ := hw_.st; exact run_load rfl Try.underlying25 rfl (kv (.pointer (some ⟨b1, 0, none⟩))) (hS_.cell 0)) ?_
   have hq_ := guard_some h; clear h; obtain ⟨c32, h⟩ := hq_
   have c32 : ¬ ((s3.L.length : Int) = 0) := c32
   refine takeGL [9] (n := 3) (fuel := 2) #[true, true, true, true, true, true, true, true, true, true, false, false] rfl kr kr kr hnp (Sg.g0 (Sx.of [] fL HS31)) ?_
   refine takeGQ 10 [] rfl kr kr kr kr kr kr hnp (Sg.g0 (Sx.of [] fL HS31)) (fun w_ hw_ => by obtain ⟨g_, hl_, hS_⟩ := hw_.st; exact run_rem rfl (kv (.int .i64 (w64 ((w64 (s3.vat + 1)) - 1)))) (kv (.int .i64 (s3.L.length : Int))) c32 w_) ?_
   refine takeGL [11] (n := 1) (fuel := 0) #[true, true, true, true, true, true, true, true, true, true, true, true] rfl kr kr kr hnp (Sg.g0 (Sx.of [] fL HS31)) ?_
   refine doneG kr ?_ _
   refine hK29 _ _ ?_
   refine wp_seq_k (fun K33 hK34 => ?_)
   refine heldG (S := Sg t f ([(b1, .cells #[.slice A4 s3.L.length c5, .int .i64 (w64 (s3.vat + 1))] 28 (0, 0))] :: H) []) (n := 12) kr rfl HS31 ?_
   intro W35 HS36
   refine takeGL [0, 1, 2] (n := 12) (fuel := 9) #[true, true, true, false, false, false, false, false, false, false, false, false] rfl kr kr kr hnp (Sg.g0 (Sx.of [] fL HS36)) ?_
   refine takeGQ 3 [] rfl kr kr kr kr kr kr hnp (Sg.g0 (Sx.of [] fL HS36)) (fun w_ hw_ => by obtain ⟨g_, hl_, hS_⟩ := hw_.st; exact run_load rfl Try.underlying3 rfl (kv (.pointer (some ⟨b1, 1, none⟩))) (hS_.cell 1)) ?_
   refine takeGL [4, 5, 6, 7] (n := 8) (fuel := 4) #[true, true, true, true, true, true, true, true, false, false, false, false] rfl kr kr kr hnp (Sg.g0 (Sx.of [] fL HS36)) ?_
   refine takeGQ 8 [] rfl kr kr kr kr kr kr hnp (Sg.g0 (Sx.of [] fL HS36)) (fun w_ hw_ => by obtain ⟨g_, hl_, hS_⟩ := hw_.st; exact run_load rfl Try.underlying25 rfl (kv (.pointer (some ⟨b1, 0, none⟩))) (hS_.cell 0)) ?_
   refine takeGL [9] (n := 3) (fuel := 2) #[true, true, true, true, true, true, true, true, true, true, false, false] rfl kr kr kr hnp (Sg.g0 (Sx.of [] fL HS36)) ?_
   refine takeGQ 10 [] rfl kr kr kr kr kr kr hnp (Sg.g0 (Sx.of [] fL HS36)) (fun w_ hw_ => by obtain ⟨g_, hl_, hS_⟩ := hw_.st; exact run_div rfl (kv (.int .i64 (w64 ((w64 (s3.vat + 1)) - 1)))) (kv (.int .i64 (s3.L.length : Int))) c32 w_) ?_
   refine takeGL [11] (n := 1) (fuel := 0) #[true, true, true, true, true, true, true, true, true, true, true, true] rfl kr kr kr hnp (Sg.g0 (Sx.of [] fL HS36)) ?_
   refine doneG kr ?_ _
   refine hK34 _ _ ?_
   refine wp_seq_k fun K37 hK38 => rl ?_
   refine seqL3 kr ?_
   refine seqK rfl (does_run (run_load rfl Try.underlying25 rfl (kv (.pointer (some ⟨b1, 0, none⟩))) (HS36.cell 0)) ?_)
   have hq_ := guard_some h; clear h; obtain ⟨c39, h⟩ := hq_
   have c39 : 0 ≤ (Int.tmod (w64 ((w64 (s3.vat + 1)) - 1)) (s3.L.length : Int)) := c39
   have hq_ := guard_some h; clear h; obtain ⟨c40, h⟩ := hq_
   have c40 : (Int.tmod (w64 ((w64 (s3.vat + 1)) - 1)) (s3.L.length : Int)) < (s3.L.length : Int) := c40
   obtain ⟨b44, of45, cs41, hA46, hr42, hc43⟩ := HR6.at (i := Int.tmod (w64 ((w64 (s3.vat + 1)) - 1)) (s3.L.length : Int)) c39 c40
   obtain rfl := hr42
   refine seqL1 kr ?_
   refine seqK rfl (does_run (run_indexE hA46 (sz := 1) rfl Try.underlying25 kr (kv (.slice A4 s3.L.length c5)) (kv (.int .i64 (Int.tmod (w64 ((w64 (s3.vat + 1)) - 1)) (s3.L.length : Int)))) c39 c40 W35) ?_)
   refine seqK rfl (does_run (run_load rfl Try.underlying3 rfl (kv (.pointer (some ⟨b44, of45 + (Int.tmod (w64 ((w64 (s3.vat + 1)) - 1)) (s3.L.length : Int) : Int).toNat * 1, none⟩))) ((hc43 fL HS36) 0 (by decide))) ?_)
   have hq_ := bind_some h; clear h; obtain ⟨vt47, hc48, h⟩ := hq_
   refine seqK rfl (does_call (f := 18) (args := #[.int .i64 (rd s3.L (Int.tmod (w64 ((w64 (s3.vat + 1)) - 1)) (s3.L.length : Int))), .int .i64 1073741824]) kr (spymake_Below.calls k (rd s3.L (Int.tmod (w64 ((w64 (s3.vat + 1)) - 1)) (s3.L.length : Int))) 1073741824 HS36 vt47 hc48) ?_)
   rintro _ W51 ⟨f49, rfl, L50, HS52⟩
   refine ⟨_, rfl, ?_⟩
   have hq_ := bind_some h; clear h; obtain ⟨vt53, hc54, h⟩ := hq_
   refine seqL6 kr ?_
   refine seqK rfl (does_call (f := 18) (args := #[.int .i64 (w64 (vt47 + (w64 ((w64 (Int.tdiv (w64 ((w64 (s3.vat + 1)) - 1)) (s3.L.length : Int))) * (w64 (7919 + (Int.tmod (w64 ((w64 (s3.vat + 1)) - 1)) (s3.L.length : Int)))))))), .int .i64 n7]) kr (spymake_Below.calls k (w64 (vt47 + (w64 ((w64 (Int.tdiv (w64 ((w64 (s3.vat + 1)) - 1)) (s3.L.length : Int))) * (w64 (7919 + (Int.tmod (w64 ((w64 (s3.vat + 1)) - 1)) (s3.L.length : Int)))))))) n7 HS52 vt53 hc54) ?_)
   rintro _ W57 ⟨f55, rfl, L56, HS58⟩
   refine ⟨_, rfl, ?_⟩
   refine seqL1 kr ?_
   refine nl (hK38 _ _ ?_)
   refine wp_ret ?_
   refine hret _ _ ?_
   refine ends_still (v := Value.int .i64 vt53) kr kr ?_
   injection h with h
   injection h with h0_ h
   subst h0_ h
   exact ⟨f55, rfl, (L50.trans L56), HS58⟩

set_option maxRecDepth 100000 in
set_option maxHeartbeats 4000000 in
theorem spymake_Stream_Range.calls (k : Nat) (b1 : Nat) (A4 : Option Addr) (c5 : Nat) (s3 : S_Stream) (low7 : Int) (high8 : Int) {t w : World} {f : FM} {H : List Seg} (HS : St t w f ([(b1, .cells #[.slice A4 s3.L.length c5, .int .i64 s3.vat] 28 (0, 0))] :: H)) (HR6 : SlR (tInt .i64) f A4 c5 s3.L) (rr1 : Int) (rr2 : Int) (h : spymake_Stream_Range k s3 low7 high8 = some (rr1, rr2)) :
    Calls Try.prog 13 #[.pointer (some ⟨b1, 0, none⟩), .int .i64 low7, .int .i64 high8] w (fun e w' => ∃ (g : FM), e = .returned (Value.int .i64 rr1) ∧ FM.le f g ∧ St t w' g ([(b1, .cells #[.slice A4 s3.L.length c5, .int .i64 rr2] 28 (0, 0))] :: H)) := by
 unfold spymake_Stream_Range at h
 refine enter Try.func13 rfl (tm := #[pV b1 0, iV low7, iV high8, uV, uV, uV, uV, uV, uV, uV, uV, uV, uV, uV, uV, uV, uV, uV, uV]) kr ?_
 intro B hret hnor hnp
 refine wp_seq_k fun K9 hK10 => rl ?_
 refine seqL1 kr ?_
 refine nl (hK10 _ _ ?_)
 refine wp_seq_k (fun K11 hK12 => ?_)
 refine wp_seq_k fun K13 hK14 => rl ?_
 refine seqL3 kr ?_
 refine nl (hK14 _ _ ?_)
 have hq_ := ite_some h; clear h; rcases hq_ with ⟨c16, h⟩ | ⟨c16, h⟩
 · have c16 : high8 < low7 := c16
   refine wpRwI 9 kr (decide_eq_true c16) ?_
   refine condT kr ?_
   refine wp_seq_k fun K17 hK18 => rl ?_
   refine seqL2 kr ?_
   refine nl (hK18 _ _ ?_)
   refine wp_ret ?_
   refine hret _ _ ?_
   refine ends_still (v := Value.int .i64 low7) kr kr ?_
   injection h with h
   injection h with h0_ h
   subst h0_ h
   exact ⟨f, rfl, FM.le.refl _, HS⟩
 · have c16 : ¬ (high8 < low7) := c16
   refine wpRwI 9 kr (decide_eq_false c16) ?_
   refine condF kr ?_
   refine wp_skip ?_
   refine hK12 _ _ ?_
   refine wp_seq_k fun K19 hK20 => rl ?_
   have hq_ := bind_some h; clear h; obtain ⟨⟨vt21, vt22⟩, hc23, h⟩ := hq_
   refine seqL6 kr ?_
   refine seqK rfl (does_call (f := 6) (args := #[.pointer (some ⟨b1, 0, none⟩), .int .i64 (w64 ((w64 (high8 - low7)) + 1))]) kr (spymake_Stream_Next.calls k b1 A4 c5 s3 (w64 ((w64 (high8 - low7)) + 1)) HS HR6 vt21 vt22 hc23) ?_)
   rintro _ W26 ⟨f24, rfl, L25, HS27⟩
   refine ⟨_, rfl, ?_⟩
   refine seqL2 kr ?_
   refine nl (hK20 _ _ ?_)
   refine wp_ret ?_
   refine hret _ _ ?_
   refine ends_still (v := Value.int .i64 (w64 (low7 + vt21))) kr kr ?_
   injection h with h
   injection h with h0_ h
   subst h0_ h
   exact ⟨f24, rfl, L25, HS27⟩

set_option maxRecDepth 100000 in
set_option maxHeartbeats 4000000 in
theorem spykeep3_half.calls (k : Nat)  (n1 : Int) {t w : World} {f : FM} {H : List Seg} (HS : St t w f (H)) (rr1 : Int) (h : spykeep3_half k n1 = some rr1) :
    Calls Try.prog 8 #[.int .i64 n1] w (fun e w' => ∃ (g : FM), e = .returned (Value.int .i64 rr1) ∧ FM.le f g ∧ St t w' g (H)) := by
 unfold spykeep3_half at h
 refine enter Try.func8 rfl (tm := #[iV n1, uV, uV, uV, uV, uV]) kr ?_
 intro B hret hnor hnp
 refine wp_seq_k fun K2 hK3 => rl ?_
 refine seqL1 kr ?_
 refine nl (hK3 _ _ ?_)
 refine wp_seq_k fun K4 hK5 => rl ?_
 have hq_ := bind_some h; clear h; obtain ⟨vt6, hc7, h⟩ := hq_
 refine seqL1 kr ?_
 refine seqK rfl (does_call (f := 18) (args := #[.int .i64 n1, .int .i64 3]) kr (spymake_Below.calls k n1 3 HS vt6 hc7) ?_)
 rintro _ W10 ⟨f8, rfl, L9, HS11⟩
 refine ⟨_, rfl, ?_⟩
 have hq_ := guard_some h; clear h; obtain ⟨c12, h⟩ := hq_
 have c12 : ¬ (vt6 < 0) := c12
 refine seqK rfl (does_run (run_shl rfl (kv (.int .i64 1)) (kv (.int .i64 vt6)) c12 W10) ?_)
 refine seqL1 kr ?_
 refine nl (hK5 _ _ ?_)
 refine wp_ret ?_
 refine hret _ _ ?_
 refine ends_still (v := Value.int .i64 (w64 (1 * 2 ^ (min (vt6).toNat 64)))) kr kr ?_
 injection h with h
 subst h
 exact ⟨f8, rfl, L9, HS11⟩

set_option maxRecDepth 100000 in
set_option maxHeartbeats 4000000 in
theorem optics_Trail_1.calls (k : Nat)  (q1 : Int) {t w : World} {f : FM} {H : List Seg} (HS : St t w f (H)) (rr1 : Bool) (h : optics_Trail_1 k q1 = some rr1) :
    Calls Try.prog 20 #[.int .i64 q1] w (fun e w' => ∃ (g : FM), e = .returned (Value.bool rr1) ∧ FM.le f g ∧ St t w' g (H)) := by
 unfold optics_Trail_1 at h
 refine enter Try.func20 rfl (tm := #[iV q1, uV, uV, uV, uV, uV, uV, uV, uV]) kr ?_
 intro B hret hnor hnp
 refine wp_seq_k fun K2 hK3 => rl ?_
 refine seqL1 kr ?_
 refine nl (hK3 _ _ ?_)
 refine wp_seq_k fun K4 hK5 => rl ?_
 refine seqL3 kr ?_
 have hq_ := ite_some h; clear h; rcases hq_ with ⟨c6, h⟩ | ⟨c6, h⟩
 · have c6 : q1 < 0 := c6
   refine seqRwI 4 kr (decide_eq_true c6) ?_
   refine seqRwI 5 kr (decide_eq_true c6) ?_
   refine seqL4 kr ?_
   refine nl (hK5 _ _ ?_)
   refine wp_ret ?_
   refine hret _ _ ?_
   refine ends_still (v := Value.bool true) kr kr ?_
   injection h with h
   subst h
   exact ⟨f, rfl, FM.le.refl _, HS⟩
 · have c6 : ¬ (q1 < 0) := c6
   refine seqRwI 4 kr (decide_eq_false c6) ?_
   refine seqRwI 5 kr (decide_eq_false c6) ?_
   refine seqL4 kr ?_
   refine nl (hK5 _ _ ?_)
   refine wp_ret ?_
   refine hret _ _ ?_
   refine ends_still (v := Value.bool (decide (q1 > 1048576))) kr kr ?_
   injection h with h
   subst h
   exact ⟨f, rfl, FM.le.refl _, HS⟩

set_option maxRecDepth 100000 in
set_option maxHeartbeats 4000000 in
theorem slices_IndexFunc_Quanta__optics_Trail_1.calls (k : Nat) (A2 : Option Addr) (c3 : Nat) (s1 : List Int) {t w : World} {f : FM} {H : List Seg} (HS : St t w f (H)) (HR4 : SlR (tInt .i64) f A2 c3 s1) (rr1 : Int) (h : slices_IndexFunc_Quanta__optics_Trail_1 k s1 = some rr1) :
    Calls Try.prog 31 #[.slice A2 s1.length c3, .func (.func 20) #[] #[]] w (fun e w' => ∃ (g : FM), e = .returned (Value.int .i64 rr1) ∧ FM.le f g ∧ St t w' g (H)) := by
 unfold slices_IndexFunc_Quanta__optics_Trail_1 at h
 refine enter Try.func31 rfl (tm := #[.slice A2 s1.length c3, .func (.func 20) #[] #[], uV, uV, uV, uV, uV, uV, uV, uV, uV, uV, uV, uV, uV, uV, uV, uV, uV]) kr ?_
 intro B hret hnor hnp
 refine wp_seq_k fun K5 hK6 => rl ?_
 refine seqL1 kr ?_
 refine nl (hK6 _ _ ?_)
 refine wp_seq_k (fun K7 hK8 => ?_)
 refine wp_seq_k fun K9 hK10 => rl ?_
 refine seqL3 kr ?_
 refine nl (hK10 _ _ ?_)
 refine blockK (fun B11 hx12 hn13 hr14 ho15 hp16 => ?_)
 have hq_ := bind_some h; clear h; obtain ⟨o17, hv68, h⟩ := hq_
 have JR70 : ∀ z_, some (Sum.inl z_) = some o17 → some z_ = some rr1 := by
  intro z_ e_; injection e_ with e_; subst e_; exact h
 have J69 : ∀ (f63 : FM) (j67 : Nat → Value) (W65 : World) (a_ : Act), FM.le f f63 → some (Sum.inr ()) = some o17 → St t W65 f63 (H) → a_ = ⟨#[.slice A2 s1.length c3, .func (.func 20) #[] #[], uV, uV, (j67 0), (j67 1), .slice A2 s1.length c3, iV (s1.length : Int), (j67 2), (j67 3), (j67 4), (j67 5), (j67 6), (j67 7), (j67 8), (j67 9), (j67 10), (j67 11), (j67 12)], []⟩ → K7 a_ W65 := by
  intro f63 j67 W65 a_ L64 hj71 HS66  hfr_; subst hfr_
  injection hj71 with hj71; subst hj71; try dsimp only at h
  simp only [Sum.elim_inr] at h
  refine hK8 _ _ ?_
  refine wp_seq_k fun K72 hK73 => rl ?_
  refine seqL1 kr ?_
  refine nl (hK73 _ _ ?_)
  refine wp_ret ?_
  refine hret _ _ ?_
  refine ends_still (v := Value.int .i64 (-1)) kr kr ?_
  injection h with h
  subst h
  exact ⟨f63, rfl, L64, HS66⟩
 clear h; have h := hv68; clear hv68
 refine loopK (fun n_ a_ w_ => ∃ (f21 : FM) (x26 : Int) (j25 : Nat → Value), FM.le f f21 ∧ St t w_ f21 (H) ∧ slices_IndexFunc_Quanta__optics_Trail_1.l0 k s1 n_ x26 = some o17 ∧ a_ = ⟨#[.slice A2 s1.length c3, .func (.func 20) #[] #[], uV, uV, (j25 0), (j25 1), .slice A2 s1.length c3, iV (s1.length : Int), iV x26, (j25 2), (j25 3), (j25 4), (j25 5), (j25 6), (j25 7), (j25 8), (j25 9), (j25 10), (j25 11)], []⟩) k ⟨f, 0, (jL [iV 0]), fL, HS, h, kr⟩ ?_
 clear h
 rintro n20 _ W23 ⟨f21, x26, j25, L22, HS24, h, rfl⟩ K18 hK19
 obtain _ | n20 := n20
 · exact nomatch h
 simp only [slices_IndexFunc_Quanta__optics_Trail_1.l0] at h
 refine wp_seq_k fun K27 hK28 => rl ?_
 refine seqL1 kr ?_
 refine nl (hK28 _ _ ?_)
 refine wp_seq_k (fun K29 hK30 => ?_)
 have hq_ := ite_some h; clear h; rcases hq_ with ⟨c32, h⟩ | ⟨c32, h⟩
 · have c32 : x26 < (s1.length : Int) := c32
   refine wpRwI 9 kr (decide_eq_true c32) ?_
   refine condT kr ?_
   refine wp_skip ?_
   refine hK30 _ _ ?_
   refine wp_seq_k (fun K33 hK34 => ?_)
   refine blockK (fun B35 hx36 hn37 hr38 ho39 hp40 => ?_)
   refine wp_seq_k fun K42 hK43 => rl ?_
   refine seqL2 kr ?_
   refine nl (hK43 _ _ ?_)
   refine wp_seq_k fun K44 hK45 => rl ?_
   have hq_ := guard_some h; clear h; obtain ⟨c46, h⟩ := hq_
   have c46 : 0 ≤ x26 := c46
   obtain ⟨b50, of51, cs47, hA52, hr48, hc49⟩ := (HR4.mono L22).at (i := x26) c46 c32
   obtain rfl := hr48
   refine seqL3 kr ?_
   refine seqK rfl (does_run (run_indexE hA52 (sz := 1) rfl Try.underlying29 kr (kv (.slice A2 s1.length c3)) (kv (.int .i64 x26)) c46 c32 W23) ?_)
   refine seqK rfl (does_run (run_load rfl Try.underlying31 rfl (kv (.pointer (some ⟨b50, of51 + (x26 : Int).toNat * 1, none⟩))) ((hc49 fL HS24) 0 (by decide))) ?_)
   have hq_ := bind_some h; clear h; obtain ⟨vt53, hc54, h⟩ := hq_
   refine seqK rfl (does_call (f := 20) (args := #[.int .i64 (rd s1 x26)]) kr (optics_Trail_1.calls k (rd s1 x26) HS24 vt53 hc54) ?_)
   rintro _ W57 ⟨f55, rfl, L56, HS58⟩
   refine ⟨_, rfl, ?_⟩
   refine nl (hK45 _ _ ?_)
   have hq_ := ite_some h; clear h; rcases hq_ with ⟨c60, h⟩ | ⟨c60, h⟩
   · have c60 : vt53 = true := c60
     refine wpRwI 16 kr c60 ?_
     refine condT kr ?_
     refine wp_seq_k fun K61 hK62 => rl ?_
     refine seqL2 kr ?_
     refine nl (hK62 _ _ ?_)
     refine wp_ret ?_
     refine hr38 _ _ ?_
     refine hr14 _ _ ?_
     refine hret _ _ ?_
     refine ends_still (v := Value.int .i64 x26) kr kr ?_
     replace h := JR70 _ h
     injection h with h
     subst h
     exact ⟨f55, rfl, (L22.trans L56), HS58⟩
   · have c60 : ¬ (vt53 = true) := c60
     refine wpRwI 16 kr (Bool.eq_false_iff.mpr c60) ?_
     refine condF kr ?_
     refine wp_skip ?_
     refine hn37 _ _ ?_
     refine hK34 _ _ ?_
     refine rl ?_
     refine seqL2 kr ?_
     refine nl ?_
     refine hK19 n20 _ _ (Nat.lt_succ_self _) ?_
     exact ⟨f55, (w64 (x26 + 1)), (jL [(j25 0), iV x26, tV, iV x26, .func (.func 20) #[] #[], .slice A2 s1.length c3, iV x26, .pointer (some ⟨b50, of51 + (x26 : Int).toNat * 1, none⟩), iV (rd s1 x26), fV, (j25 10), iV (w64 (x26 + 1))]), (L22.trans L56), HS58, h, kr⟩
 · have c32 : ¬ (x26 < (s1.length : Int)) := c32
   refine wpRwI 9 kr (decide_eq_false c32) ?_
   refine condF kr ?_
   refine wp_exit ?_
   refine hx12 _ _ ?_
   exact J69 f21 (jL [(j25 0), (j25 1), iV x26, fV, (j25 3), (j25 4), (j25 5), (j25 6), (j25 7), (j25 8), (j25 9), (j25 10), (j25 11)]) W23 _ L22 h HS24 kr

set_option maxRecDepth 100000 in
set_option maxHeartbeats 4000000 in
theorem slices_ContainsFunc_Quanta__optics_Trail_1.calls (k : Nat) (A2 : Option Addr) (c3 : Nat) (s1 : List Int) {t w : World} {f : FM} {H : List Seg} (HS : St t w f (H)) (HR4 : SlR (tInt .i64) f A2 c3 s1) (rr1 : Bool) (h : slices_ContainsFunc_Quanta__optics_Trail_1 k s1 = some rr1) :
    Calls Try.prog 19 #[.slice A2 s1.length c3, .func (.func 20) #[] #[]] w (fun e w' => ∃ (g : FM), e = .returned (Value.bool rr1) ∧ FM.le f g ∧ St t w' g (H)) := by
 unfold slices_ContainsFunc_Quanta__optics_Trail_1 at h
 refine enter Try.func19 rfl (tm := #[.slice A2 s1.length c3, .func (.func 20) #[] #[], uV, uV, uV, uV, uV, uV, uV]) kr ?_
 intro B hret hnor hnp
 refine wp_seq_k fun K5 hK6 => rl ?_
 refine seqL1 kr ?_
 refine nl (hK6 _ _ ?_)
 refine wp_seq_k fun K7 hK8 => rl ?_
 have hq_ := bind_some h; clear h; obtain ⟨vt9, hc10, h⟩ := hq_
 refine seqL2 kr ?_
 refine seqK rfl (does_call (f := 31) (args := #[.slice A2 s1.length c3, .func (.func 20) #[] #[]]) kr (slices_IndexFunc_Quanta__optics_Trail_1.calls k A2 c3 s1 HS HR4 vt9 hc10) ?_)
 rintro _ W13 ⟨f11, rfl, L12, HS14⟩
 refine ⟨_, rfl, ?_⟩
 refine seqL2 kr ?_
 refine nl (hK8 _ _ ?_)
 refine wp_ret ?_
 refine hret _ _ ?_
 refine ends_still (v := Value.bool (decide (vt9 ≥ 0))) kr kr ?_
 injection h with h
 subst h
 exact ⟨f11, rfl, L12, HS14⟩

set_option maxRecDepth 100000 in
set_option maxHeartbeats 4000000 in
theorem optics_Reach.calls (k : Nat)  (half1 : Int) {t w : World} {f : FM} {H : List Seg} (HS : St t w f (H)) (rr1 : Int) (h : optics_Reach k half1 = some rr1) :
    Calls Try.prog 43 #[.int .i64 half1] w (fun e w' => ∃ (g : FM), e = .returned (Value.int .i64 rr1) ∧ FM.le f g ∧ St t w' g (H)) := by
 unfold optics_Reach at h
 refine enter Try.func43 rfl (tm := #[iV half1, uV, uV, uV, uV, uV, uV, uV, uV, uV, uV, uV, uV, uV]) kr ?_
 intro B hret hnor hnp
 refine wp_seq_k fun K2 hK3 => rl ?_
 refine seqL1 kr ?_
 refine nl (hK3 _ _ ?_)
 refine wp_seq_k (fun K4 hK5 => ?_)
 refine wp_seq_k fun K6 hK7 => rl ?_
 refine seqL3 kr ?_
 have hq_ := ite_some h; clear h; rcases hq_ with ⟨c8, h⟩ | ⟨c8, h⟩
 · have c8 : half1 ≠ 1 := c8
   refine seqRwI 4 kr (bne_iff_ne.mpr c8) ?_
   refine seqRwI 5 kr (bne_iff_ne.mpr c8) ?_
   refine seqL4 kr ?_
   have hq_ := ite_some h; clear h; rcases hq_ with ⟨c9, h⟩ | ⟨c9, h⟩
   · have c9 : half1 ≠ 2 := c9
     refine seqRwI 7 kr (bne_iff_ne.mpr c9) ?_
     refine seqRwI 8 kr (bne_iff_ne.mpr c9) ?_
     refine seqRwI 9 kr (bne_iff_ne.mpr c9) ?_
     refine seqL3 kr ?_
     refine nl (hK7 _ _ ?_)
     have hq_ := ite_some h; clear h; rcases hq_ with ⟨c11, h⟩ | ⟨c11, h⟩
     · have c11 : half1 ≠ 4 := c11
       refine wpRwI 11 kr (bne_iff_ne.mpr c11) ?_
       refine wpRwI 12 kr (bne_iff_ne.mpr c11) ?_
       refine condT kr ?_
       refine wp_seq_k fun K12 hK13 => rl ?_
       refine seqL1 kr ?_
       refine nl (hK13 _ _ ?_)
       refine wp_ret ?_
       refine hret _ _ ?_
       refine ends_still (v := Value.int .i64 0) kr kr ?_
       injection h with h
       subst h
       exact ⟨f, rfl, FM.le.refl _, HS⟩
     · have c11 : ¬ (half1 ≠ 4) := c11
       refine wpRwI 11 (x := (half1 != 4)) (v := false) kr (bne_eq_false_iff_eq.mpr (Decidable.of_not_not c11)) ?_
       refine wpRwI 12 (x := (half1 != 4)) (v := false) kr (bne_eq_false_iff_eq.mpr (Decidable.of_not_not c11)) ?_
       refine condF kr ?_
       refine wp_skip ?_
       refine hK5 _ _ ?_
       refine wp_seq_k fun K14 hK15 => rl ?_
       refine seqL2 kr ?_
       refine nl (hK15 _ _ ?_)
       refine wp_ret ?_
       refine hret _ _ ?_
       refine ends_still (v := Value.int .i64 half1) kr kr ?_
       injection h with h
       subst h
       exact ⟨f, rfl, FM.le.refl _, HS⟩
   · have c9 : ¬ (half1 ≠ 2) := c9
     refine seqRwI 7 (x := (half1 != 2)) (v := false) kr (bne_eq_false_iff_eq.mpr (Decidable.of_not_not c9)) ?_
     refine seqRwI 8 (x := (half1 != 2)) (v := false) kr (bne_eq_false_iff_eq.mpr (Decidable.of_not_not c9)) ?_
     refine seqRwI 9 (x := (half1 != 2)) (v := false) kr (bne_eq_false_iff_eq.mpr (Decidable.of_not_not c9)) ?_
     refine seqL3 kr ?_
     refine nl (hK7 _ _ ?_)
     refine condF kr ?_
     refine wp_skip ?_
     refine hK5 _ _ ?_
     refine wp_seq_k fun K16 hK17 => rl ?_
     refine seqL2 kr ?_
     refine nl (hK17 _ _ ?_)
     refine wp_ret ?_
     refine hret _ _ ?_
     refine ends_still (v := Value.int .i64 half1) kr kr ?_
     injection h with h
     subst h
     exact ⟨f, rfl, FM.le.refl _, HS⟩
 · have c8 : ¬ (half1 ≠ 1) := c8
   refine seqRwI 4 (x := (half1 != 1)) (v := false) kr (bne_eq_false_iff_eq.mpr (Decidable.of_not_not c8)) ?_
   refine seqRwI 5 (x := (half1 != 1)) (v := false) kr (bne_eq_false_iff_eq.mpr (Decidable.of_not_not c8)) ?_
   refine seqL7 kr ?_
   refine nl (hK7 _ _ ?_)
   refine condF kr ?_
   refine wp_skip ?_
   refine hK5 _ _ ?_
   refine wp_seq_k fun K18 hK19 => rl ?_
   refine seqL2 kr ?_
   refine nl (hK19 _ _ ?_)
   refine wp_ret ?_
   refine hret _ _ ?_
   refine ends_still (v := Value.int .i64 half1) kr kr ?_
   injection h with h
   subst h
   exact ⟨f, rfl, FM.le.refl _, HS⟩

set_option maxRecDepth 100000 in
set_option maxHeartbeats 4000000 in
theorem num_FloorDiv.calls (k : Nat)  (a1 : Int) (b2 : Int) {t w : World} {f : FM} {H : List Seg} (HS : St t w f (H)) (rr1 : Int) (h : num_FloorDiv k a1 b2 = some rr1) :
    Calls Try.prog 29 #[.int .i64 a1, .int .i64 b2] w (fun e w' => ∃ (g : FM), e = .returned (Value.int .i64 rr1) ∧ FM.le f g ∧ St t w' g (H)) := by
 unfold num_FloorDiv at h
 refine enter Try.func29 rfl (tm := #[iV a1, iV b2, uV, uV, uV, uV, uV, uV, uV, uV, uV, uV, uV, uV, uV, uV, uV, uV]) kr ?_
 intro B hret hnor hnp
 refine wp_seq_k fun K3 hK4 => rl ?_
 refine seqL1 kr ?_
 refine nl (hK4 _ _ ?_)
 refine wp_seq_k (fun K5 hK6 => ?_)
 refine wp_seq_k fun K7 hK8 => rl ?_
 refine seqL2 kr ?_
 refine nl (hK8 _ _ ?_)
 have hq_ := ite_some h; clear h; rcases hq_ with ⟨c10, h⟩ | ⟨c10, h⟩
 · have c10 : b2 < 1 := c10
   refine wpRwI 7 kr (decide_eq_true c10) ?_
   refine condT kr ?_
   refine wp_seq_k fun K11 hK12 => rl ?_
   refine seqL1 kr ?_
   refine nl (hK12 _ _ ?_)
   refine wp_ret ?_
   refine hret _ _ ?_
   refine ends_still (v := Value.int .i64 0) kr kr ?_
   injection h with h
   subst h
   exact ⟨f, rfl, FM.le.refl _, HS⟩
 · have c10 : ¬ (b2 < 1) := c10
   refine wpRwI 7 kr (decide_eq_false c10) ?_
   refine condF kr ?_
   refine wp_skip ?_
   refine hK6 _ _ ?_
   refine wp_seq_k fun K13 hK14 => rl ?_
   have hq_ := guard_some h; clear h; obtain ⟨c15, h⟩ := hq_
   have c15 : ¬ (b2 = 0) := c15
   refine seqL2 kr ?_
   refine seqK rfl (does_run (run_div rfl (kv (.int .i64 a1)) (kv (.int .i64 b2)) c15 w) ?_)
   refine seqL1 kr ?_
   refine nl (hK14 _ _ ?_)
   refine wp_seq_k (fun K16 hK17 => ?_)
   refine wp_seq_k fun K18 hK19 => rl ?_
   refine seqL2 kr ?_
   refine seqK rfl (does_run (run_rem rfl (kv (.int .i64 a1)) (kv (.int .i64 b2)) c15 w) ?_)
   refine seqL1 kr ?_
   refine nl (hK19 _ _ ?_)
   have hq_ := ite_some h; clear h; rcases hq_ with ⟨c21, h⟩ | ⟨c21, h⟩
   · have c21 : (Int.tmod a1 b2) < 0 := c21
     refine wpRwI 14 kr (decide_eq_true c21) ?_
     refine condT kr ?_
     refine rl ?_
     refine seqL3 kr ?_
     refine nl (hK17 _ _ ?_)
     refine wp_seq_k fun K22 hK23 => rl ?_
     refine seqL2 kr ?_
     refine nl (hK23 _ _ ?_)
     refine wp_ret ?_
     refine hret _ _ ?_
     refine ends_still (v := Value.int .i64 (w64 ((w64 (Int.tdiv a1 b2)) - 1))) kr kr ?_
     injection h with h
     subst h
     exact ⟨f, rfl, FM.le.refl _, HS⟩
   · have c21 : ¬ ((Int.tmod a1 b2) < 0) := c21
     refine wpRwI 14 kr (decide_eq_false c21) ?_
     refine condF kr ?_
     refine wp_skip ?_
     refine hK17 _ _ ?_
     refine wp_seq_k fun K24 hK25 => rl ?_
     refine seqL2 kr ?_
     refine nl (hK25 _ _ ?_)
     refine wp_ret ?_
     refine hret _ _ ?_
     refine ends_still (v := Value.int .i64 (w64 (Int.tdiv a1 b2))) kr kr ?_
     injection h with h
     subst h
     exact ⟨f, rfl, FM.le.refl _, HS⟩

set_option maxRecDepth 100000 in
set_option maxHeartbeats 4000000 in
theorem optics_before.calls (k : Nat)  (d1 : Int) (n2 : Int) {t w : World} {f : FM} {H : List Seg} (HS : St t w f (H)) (rr1 : Int) (h : optics_before k d1 n2 = some rr1) :
    Calls Try.prog 44 #[.int .i64 d1, .int .i64 n2] w (fun e w' => ∃ (g : FM), e = .returned (Value.int .i64 rr1) ∧ FM.le f g ∧ St t w' g (H)) := by
 unfold optics_before at h
 refine enter Try.func44 rfl (tm := #[iV d1, iV n2, uV, uV, uV, uV, uV, uV, uV, uV, uV, uV, uV, uV, uV, uV, uV, uV, uV, uV, uV, uV, uV, uV, uV, uV, uV, uV, uV, uV, uV, uV, uV, uV, uV, uV, uV, uV, uV, uV, uV, uV]) kr ?_
 intro B hret hnor hnp
 refine wp_seq_k fun K3 hK4 => rl ?_
 refine seqL1 kr ?_
 refine nl (hK4 _ _ ?_)
 refine wp_seq_k (fun K5 hK6 => ?_)
 refine blockK (fun B7 hx8 hn9 hr10 ho11 hp12 => ?_)
 refine wp_seq_k fun K14 hK15 => rl ?_
 refine seqL5 kr ?_
 refine nl (hK15 _ _ ?_)
 have hq_ := ite_some h; clear h; rcases hq_ with ⟨c17, h⟩ | ⟨c17, h⟩
 · have c17 : d1 ≤ (w64 (0 - n2)) := c17
   refine wpRwI 5 kr (decide_eq_true c17) ?_
   refine wpRwI 9 kr (decide_eq_true c17) ?_
   refine condT kr ?_
   refine wp_seq_k fun K18 hK19 => rl ?_
   refine seqL1 kr ?_
   refine nl (hK19 _ _ ?_)
   refine wp_ret ?_
   refine hr10 _ _ ?_
   refine hret _ _ ?_
   refine ends_still (v := Value.int .i64 0) kr kr ?_
   injection h with h
   subst h
   exact ⟨f, rfl, FM.le.refl _, HS⟩
 · have c17 : ¬ (d1 ≤ (w64 (0 - n2))) := c17
   refine wpRwI 5 kr (decide_eq_false c17) ?_
   refine wpRwI 9 kr (decide_eq_false c17) ?_
   refine condF kr ?_
   refine wp_seq_k fun K20 hK21 => rl ?_
   refine seqL3 kr ?_
   refine nl (hK21 _ _ ?_)
   have hq_ := ite_some h; clear h; rcases hq_ with ⟨c23, h⟩ | ⟨c23, h⟩
   · have c23 : d1 ≤ 0 := c23
     refine wpRwI 10 kr (decide_eq_true c23) ?_
     refine wpRwI 12 kr (decide_eq_true c23) ?_
     refine condT kr ?_
     refine wp_seq_k fun K24 hK25 => rl ?_
     refine seqL10 kr ?_
     refine nl (hK25 _ _ ?_)
     refine wp_ret ?_
     refine hr10 _ _ ?_
     refine hret _ _ ?_
     refine ends_still (v := Value.int .i64 (w64 (Int.tdiv (w64 ((w64 (n2 + d1)) * (w64 ((w64 (n2 + d1)) - 1)))) 2))) kr kr ?_
     injection h with h
     subst h
     exact ⟨f, rfl, FM.le.refl _, HS⟩
   · have c23 : ¬ (d1 ≤ 0) := c23
     refine wpRwI 10 kr (decide_eq_false c23) ?_
     refine wpRwI 12 kr (decide_eq_false c23) ?_
     refine condF kr ?_
     refine wp_seq_k fun K26 hK27 => rl ?_
     refine seqL4 kr ?_
     refine nl (hK27 _ _ ?_)
     have hq_ := ite_some h; clear h; rcases hq_ with ⟨c29, h⟩ | ⟨c29, h⟩
     · have c29 : d1 < n2 := c29
       refine wpRwI 22 kr (decide_eq_true c29) ?_
       refine wpRwI 25 kr (decide_eq_true c29) ?_
       refine condT kr ?_
       refine wp_seq_k fun K30 hK31 => rl ?_
       refine seqL14 kr ?_
       refine nl (hK31 _ _ ?_)
       refine wp_ret ?_
       refine hr10 _ _ ?_
       refine hret _ _ ?_
       refine ends_still (v := Value.int .i64 (w64 ((w64 (n2 * n2)) - (w64 (Int.tdiv (w64 ((w64 (n2 - d1)) * (w64 ((w64 (n2 - d1)) + 1)))) 2))))) kr kr ?_
       injection h with h
       subst h
       exact ⟨f, rfl, FM.le.refl _, HS⟩
     · have c29 : ¬ (d1 < n2) := c29
       refine wpRwI 22 kr (decide_eq_false c29) ?_
       refine wpRwI 25 kr (decide_eq_false c29) ?_
       refine condF kr ?_
       refine wp_skip ?_
       refine hn9 _ _ ?_
       refine hK6 _ _ ?_
       refine wp_seq_k fun K32 hK33 => rl ?_
       refine seqL4 kr ?_
       refine nl (hK33 _ _ ?_)
       refine wp_ret ?_
       refine hret _ _ ?_
       refine ends_still (v := Value.int .i64 (w64 (n2 * n2))) kr kr ?_
       injection h with h
       subst h
       exact ⟨f, rfl, FM.le.refl _, HS⟩

set_option maxRecDepth 100000 in
set_option maxHeartbeats 4000000 in
theorem optics_Axis.calls (k : Nat)  (vat1 : Int) (half2 : Int) {t w : World} {f : FM} {H : List Seg} (HS : St t w f (H)) (rr1 : List S_Part) (rr2 : Int) (h : optics_Axis k vat1 half2 = some (rr1, rr2)) :
    Calls Try.prog 32 #[.int .i64 vat1, .int .i64 half2] w (fun e w' => ∃ (g : FM) (A158 : Option Addr) (c159 : Nat) (s160 : Seg), e = .returned (Value.tuple #[.slice A158 rr1.length c159, .int .i64 rr2]) ∧ FM.le f g ∧ St t w' g (s160 :: H) ∧ Own ty_Part 70 g A158 c159 s160 rr1) := by
 unfold optics_Axis at h
 refine enter Try.func32 rfl (tm := #[iV vat1, iV half2, uV, uV, uV, uV, uV, uV, uV, uV, uV, uV, uV, uV, uV, uV, uV, uV, uV, uV, uV, uV, uV, uV, uV, uV, uV, uV, uV, uV, uV, uV, uV, uV, uV, uV, uV, uV, uV, uV, uV, uV, uV, uV, uV, uV, uV, uV, uV, uV, uV, uV, uV, uV, uV, uV, uV, uV, uV, uV, uV, uV, uV, uV, uV, uV, uV, uV, uV, uV]) kr ?_
 intro B hret hnor hnp
 refine wp_seq_k fun K3 hK4 => rl ?_
 refine seqL2 kr ?_
 refine nl (hK4 _ _ ?_)
 refine wp_seq_k (fun K5 hK6 => ?_)
 refine blockK (fun B7 hx8 hn9 hr10 ho11 hp12 => ?_)
 refine wp_seq_k fun K14 hK15 => rl ?_
 refine seqL3 kr ?_
 have hq_ := ite_some h; clear h; rcases hq_ with ⟨c16, h⟩ | ⟨c16, h⟩
 · have c16 : vat1 < (-65536) := c16
   refine seqRwI 16 kr (decide_eq_true c16) ?_
   refine seqRwI 17 kr (decide_eq_true c16) ?_
   refine seqL4 kr ?_
   refine nl (hK15 _ _ ?_)
   refine condT kr ?_
   refine wp_seq_k fun K17 hK18 => rl ?_
   refine seqL2 kr ?_
   refine nl (hK18 _ _ ?_)
   refine wp_ret ?_
   refine hr10 _ _ ?_
   refine hret _ _ ?_
   have HS152 := HS.cons_nil
   refine ends_still (v := Value.tuple #[.slice none 0 0, .int .i64 4]) kr kr ?_
   injection h with h
   injection h with h0_ h
   subst h0_ h
   exact ⟨f, none, 0, [], rfl, FM.le.refl _, HS152, (Own.nil _)⟩
 · have c16 : ¬ (vat1 < (-65536)) := c16
   refine seqRwI 16 kr (decide_eq_false c16) ?_
   refine seqRwI 17 kr (decide_eq_false c16) ?_
   refine seqL4 kr ?_
   refine nl (hK15 _ _ ?_)
   have hq_ := ite_some h; clear h; rcases hq_ with ⟨c20, h⟩ | ⟨c20, h⟩
   · have c20 : vat1 > 65536 := c20
     refine wpRwI 14 kr (decide_eq_true c20) ?_
     refine wpRwI 19 kr (decide_eq_true c20) ?_
     refine wpRwI 20 kr (decide_eq_true c20) ?_
     refine condT kr ?_
     refine wp_seq_k fun K21 hK22 => rl ?_
     refine seqL2 kr ?_
     refine nl (hK22 _ _ ?_)
     refine wp_ret ?_
     refine hr10 _ _ ?_
     refine hret _ _ ?_
     have HS154 := HS.cons_nil
     refine ends_still (v := Value.tuple #[.slice none 0 0, .int .i64 4]) kr kr ?_
     injection h with h
     injection h with h0_ h
     subst h0_ h
     exact ⟨f, none, 0, [], rfl, FM.le.refl _, HS154, (Own.nil _)⟩
   · have c20 : ¬ (vat1 > 65536) := c20
     refine wpRwI 14 kr (decide_eq_false c20) ?_
     refine wpRwI 19 kr (decide_eq_false c20) ?_
     refine wpRwI 20 kr (decide_eq_false c20) ?_
     refine condF kr ?_
     refine wp_seq_k fun K23 hK24 => rl ?_
     have hq_ := bind_some h; clear h; obtain ⟨vt25, hc26, h⟩ := hq_
     refine seqL1 kr ?_
     refine seqK rfl (does_call (f := 43) (args := #[.int .i64 half2]) kr (optics_Reach.calls k half2 HS vt25 hc26) ?_)
     rintro _ W29 ⟨f27, rfl, L28, HS30⟩
     refine ⟨_, rfl, ?_⟩
     refine seqL2 kr ?_
     refine nl (hK24 _ _ ?_)
     have hq_ := ite_some h; clear h; rcases hq_ with ⟨c32, h⟩ | ⟨c32, h⟩
     · have c32 : vt25 = 0 := c32
       refine wpRwI 21 kr (beq_iff_eq.mpr c32) ?_
       refine wpRwI 24 kr (beq_iff_eq.mpr c32) ?_
       refine condT kr ?_
       refine wp_seq_k fun K33 hK34 => rl ?_
       refine seqL2 kr ?_
       refine nl (hK34 _ _ ?_)
       refine wp_ret ?_
       refine hr10 _ _ ?_
       refine hret _ _ ?_
       have HS156 := HS30.cons_nil
       refine ends_still (v := Value.tuple #[.slice none 0 0, .int .i64 1]) kr kr ?_
       injection h with h
       injection h with h0_ h
       subst h0_ h
       exact ⟨f27, none, 0, [], rfl, L28, HS156, (Own.nil _)⟩
     · have c32 : ¬ (vt25 = 0) := c32
       refine wpRwI 21 kr (beq_eq_false_iff_ne.mpr c32) ?_
       refine wpRwI 24 kr (beq_eq_false_iff_ne.mpr c32) ?_
       refine condF kr ?_
       refine wp_skip ?_
       refine hn9 _ _ ?_
       refine hK6 _ _ ?_
       refine wp_seq_k fun K35 hK36 => rl ?_
       have hq_ := bind_some h; clear h; obtain ⟨vt37, hc38, h⟩ := hq_
       refine seqL1 kr ?_
       refine seqK rfl (does_call (f := 29) (args := #[.int .i64 vat1, .int .i64 16]) kr (num_FloorDiv.calls k vat1 16 HS30 vt37 hc38) ?_)
       rintro _ W41 ⟨f39, rfl, L40, HS42⟩
       refine ⟨_, rfl, ?_⟩
       refine seqL1 kr ?_
       refine nl (hK36 _ _ ?_)
       refine wp_seq_k fun K43 hK44 => rl ?_
       have hq_ := bind_some h; clear h; obtain ⟨vt45, hc46, h⟩ := hq_
       refine seqL1 kr ?_
       refine seqK rfl (does_call (f := 29) (args := #[.int .i64 vt37, .int .i64 16]) kr (num_FloorDiv.calls k vt37 16 HS42 vt45 hc46) ?_)
       rintro _ W49 ⟨f47, rfl, L48, HS50⟩
       refine ⟨_, rfl, ?_⟩
       refine seqL1 kr ?_
       refine nl (hK44 _ _ ?_)
       refine wp_seq_k (fun K51 hK52 => ?_)
       refine heldG (S := Sg t f47 (H) []) (n := 8) kr rfl HS50 ?_
       intro W53 HS54
       have hq_ := guard_some h; clear h; obtain ⟨c55, h⟩ := hq_
       have c55 : ¬ ((w64 (half2 * half2)) = 0) := c55
       refine takeGL [0, 1, 2, 3, 4] (n := 8) (fuel := 3) #[true, true, true, true, true, false, false, false] rfl kr kr kr hnp (Sg.g0 (Sx.of [] fL HS54)) ?_
       refine takeGQ 5 [] rfl kr kr kr kr kr kr hnp (Sg.g0 (Sx.of [] fL HS54)) (fun w_ hw_ => by obtain ⟨g_, hl_, hS_⟩ := hw_.st; exact run_div rfl (kv (.int .i64 16)) (kv (.int .i64 (w64 (half2 * half2)))) c55 w_) ?_
       refine takeGL [6, 7] (n := 2) (fuel := 0) #[true, true, true, true, true, true, true, true] rfl kr kr kr hnp (Sg.g0 (Sx.of [] fL HS54)) ?_
       refine doneG kr ?_ _
       refine hK52 _ _ ?_
       refine wp_seq_k fun K56 hK57 => rl ?_
       refine seqL1 kr ?_
       refine nl (hK57 _ _ ?_)
       refine wp_seq_k (fun K58 hK59 => ?_)
       refine wp_seq_k fun K60 hK61 => rl ?_
       refine seqL5 kr ?_
       refine nl (hK61 _ _ ?_)
       refine blockK (fun B62 hx63 hn64 hr65 ho66 hp67 => ?_)
       have hq_ := bind_some h; clear h; obtain ⟨o68, hv145, h⟩ := hq_
       have J146 : ∀ (f134 : FM) (A140 : Option Addr) (c141 : Nat) (s142 : Seg) (out139 : List S_Part) (j138 : Nat → Value) (W136 : World) (a_ : Act), FM.le f47 f134 → some (out139) = some o68 → St t W136 f134 (s142 :: H) → Own ty_Part 70 f134 A140 c141 s142 out139 → a_ = ⟨#[iV vat1, iV half2, uV, uV, .slice none 0 0, iV 0, iV vt37, iV vt45, iV (w64 (16 * half2)), iV (w64 (Int.tdiv 16 (w64 (half2 * half2)))), .slice A140 out139.length c141, (j138 0), (j138 1), (j138 2), fV, iV vat1, fV, fV, iV vat1, fV, fV, fV, iV half2, iV vt25, fV, iV vat1, iV vt37, iV vt37, iV vt45, iV half2, iV (w64 (16 * half2)), iV half2, iV half2, iV (w64 (half2 * half2)), iV (w64 (Int.tdiv 16 (w64 (half2 * half2)))), iV vt45, iV half2, iV (w64 (vt45 - half2)), iV (w64 ((w64 (vt45 - half2)) - 1)), (j138 3), (j138 4), (j138 5), (j138 6), (j138 7), (j138 8), (j138 9), (j138 10), (j138 11), (j138 12), (j138 13), (j138 14), (j138 15), (j138 16), (j138 17), (j138 18), (j138 19), (j138 20), (j138 21), (j138 22), (j138 23), (j138 24), (j138 25), (j138 26), (j138 27), (j138 28), (j138 29), (j138 30), (j138 31), (j138 32), uV], []⟩ → K58 a_ W136 := by
        intro f134 A140 c141 s142 out139 j138 W136 a_ L135 hj147 HS137 HO143 hfr_; subst hfr_
        injection hj147 with hj147; subst hj147; try dsimp only at h
        refine hK59 _ _ ?_
        refine wp_seq_k fun K150 hK151 => rl ?_
        refine seqL3 kr ?_
        refine nl (hK151 _ _ ?_)
        refine wp_ret ?_
        refine hret _ _ ?_
        refine ends_still (v := Value.tuple #[.slice A140 out139.length c141, .int .i64 0]) kr kr ?_
        injection h with h
        injection h with h0_ h
        subst h0_ h
        exact ⟨f134, A140, c141, s142, rfl, (L28.trans (L40.trans (L48.trans L135))), HS137, HO143⟩
       clear h; have h := hv145; clear hv145
       have HS148 := HS54.cons_nil
       refine loopK (fun n_ a_ w_ => ∃ (f72 : FM) (A78 : Option Addr) (c79 : Nat) (s80 : Seg) (out77 : List S_Part) (cell83 : Int) (j76 : Nat → Value), FM.le f47 f72 ∧ St t w_ f72 (s80 :: H) ∧ Own ty_Part 70 f72 A78 c79 s80 out77 ∧ optics_Axis.l0 k vt45 half2 vt37 n_ out77 cell83 = some o68 ∧ a_ = ⟨#[iV vat1, iV half2, uV, uV, .slice none 0 0, iV 0, iV vt37, iV vt45, iV (w64 (16 * half2)), iV (w64 (Int.tdiv 16 (w64 (half2 * half2)))), .slice A78 out77.length c79, iV cell83, (j76 0), (j76 1), fV, iV vat1, fV, fV, iV vat1, fV, fV, fV, iV half2, iV vt25, fV, iV vat1, iV vt37, iV vt37, iV vt45, iV half2, iV (w64 (16 * half2)), iV half2, iV half2, iV (w64 (half2 * half2)), iV (w64 (Int.tdiv 16 (w64 (half2 * half2)))), iV vt45, iV half2, iV (w64 (vt45 - half2)), iV (w64 ((w64 (vt45 - half2)) - 1)), (j76 2), (j76 3), (j76 4), (j76 5), (j76 6), (j76 7), (j76 8), (j76 9), (j76 10), (j76 11), (j76 12), (j76 13), (j76 14), (j76 15), (j76 16), (j76 17), (j76 18), (j76 19), (j76 20), (j76 21), (j76 22), (j76 23), (j76 24), (j76 25), (j76 26), (j76 27), (j76 28), (j76 29), (j76 30), (j76 31), uV], []⟩) k ⟨f47, none, 0, [], ([] : List S_Part), (w64 ((w64 (vt45 - half2)) - 1)), (jL []), fL, HS148, (Own.nil _), h, kr⟩ ?_
       clear h
       rintro n71 _ W74 ⟨f72, A78, c79, s80, out77, cell83, j76, L73, HS75, HO81, h, rfl⟩ K69 hK70
       obtain _ | n71 := n71
       · exact nomatch h
       simp only [optics_Axis.l0] at h
       refine wp_seq_k (fun K84 hK85 => ?_)
       refine wp_seq_k fun K86 hK87 => rl ?_
       refine seqL6 kr ?_
       refine nl (hK87 _ _ ?_)
       have hq_ := ite_some h; clear h; rcases hq_ with ⟨c89, h⟩ | ⟨c89, h⟩
       · have c89 : cell83 ≤ (w64 ((w64 (vt45 + half2)) + 1)) := c89
         refine wpRwI 44 kr (decide_eq_true c89) ?_
         refine condT kr ?_
         refine wp_skip ?_
         refine hK85 _ _ ?_
         refine wp_seq_k (fun K90 hK91 => ?_)
         refine blockK (fun B92 hx93 hn94 hr95 ho96 hp97 => ?_)
         refine wp_seq_k fun K99 hK100 => rl ?_
         refine seqL5 kr ?_
         refine nl (hK100 _ _ ?_)
         refine wp_seq_k fun K101 hK102 => rl ?_
         have hq_ := bind_some h; clear h; obtain ⟨vt103, hc104, h⟩ := hq_
         refine seqL3 kr ?_
         refine seqK rfl (does_call (f := 44) (args := #[.int .i64 (w64 ((w64 ((w64 (16 * cell83)) - vt37)) + 16)), .int .i64 (w64 (16 * half2))]) kr (optics_before.calls k (w64 ((w64 ((w64 (16 * cell83)) - vt37)) + 16)) (w64 (16 * half2)) HS75 vt103 hc104) ?_)
         rintro _ W107 ⟨f105, rfl, L106, HS108⟩
         refine ⟨_, rfl, ?_⟩
         have hq_ := bind_some h; clear h; obtain ⟨vt109, hc110, h⟩ := hq_
         refine seqL2 kr ?_
         refine seqK rfl (does_call (f := 44) (args := #[.int .i64 (w64 ((w64 (16 * cell83)) - vt37)), .int .i64 (w64 (16 * half2))]) kr (optics_before.calls k (w64 ((w64 (16 * cell83)) - vt37)) (w64 (16 * half2)) HS108 vt109 hc110) ?_)
         rintro _ W113 ⟨f111, rfl, L112, HS114⟩
         refine ⟨_, rfl, ?_⟩
         refine seqL2 kr ?_
         refine nl (hK102 _ _ ?_)
         refine wp_seq_k fun K115 hK116 => rl ?_
         refine seqL2 kr ?_
         refine nl (hK116 _ _ ?_)
         have hq_ := ite_some h; clear h; rcases hq_ with ⟨c118, h⟩ | ⟨c118, h⟩
         · have c118 : (w64 (vt103 - vt109)) > 0 := c118
           refine wpRwI 60 kr (decide_eq_true c118) ?_
           refine condT kr ?_
           refine rl ?_
           refine seqL6 kr ?_
           refine seqK rfl (does_lit (e := ty_Part) (E := 70) (vs := #[(0, Value.agg #[.int .i64 cell83, .int .i64 (w64 ((w64 (Int.tdiv 16 (w64 (half2 * half2)))) * (w64 (vt103 - vt109))))])]) (cs := #[.int .i64 cell83, .int .i64 (w64 ((w64 (Int.tdiv 16 (w64 (half2 * half2)))) * (w64 (vt103 - vt109))))]) (xs := ([(⟨cell83, w64 ((w64 (Int.tdiv 16 (w64 (half2 * half2)))) * (w64 (vt103 - vt109)))⟩ : S_Part)] : List S_Part)) rfl Try.underlying66 kr kr ⟨[.int .i64 cell83, .int .i64 (w64 ((w64 (Int.tdiv 16 (w64 (half2 * half2)))) * (w64 (vt103 - vt109))))], _, rfl, rfl, rfl⟩ rfl HS114 ?_ (by decide))
           intro b119 W120 s121 HS122 _ HO123
           have hq_ := guard_some h; clear h; obtain ⟨c125, h⟩ := hq_
           have c125 : (out77.length + 1) * 16 ≤ 140737488355328 := c125
           have HS127 := HS122.u1.u1
           refine seqK rfl (does_append1 (e := ty_Part) (E := 70) (xs := out77) (ys := ([(⟨cell83, w64 ((w64 (Int.tdiv 16 (w64 (half2 * half2)))) * (w64 (vt103 - vt109)))⟩ : S_Part)] : List S_Part)) rfl (kv (.slice A78 out77.length c79)) (kv (.slice (some ⟨b119, 0, none⟩) ([(⟨cell83, w64 ((w64 (Int.tdiv 16 (w64 (half2 * half2)))) * (w64 (vt103 - vt109)))⟩ : S_Part)] : List S_Part).length 1)) Try.underlying66 inf70 (HO81.mono (L106.trans L112)) HO123 HS127 c125 (lim63 c125 (by decide)) ?_)
           intro A128 c129 s130 W131 HS132 HO133
           refine seqL1 kr ?_
           refine nl ?_
           refine hn94 _ _ ?_
           refine hK91 _ _ ?_
           refine rl ?_
           refine seqL3 kr ?_
           refine nl ?_
           refine hK70 n71 _ _ (Nat.lt_succ_self _) ?_
           exact ⟨f111, A128, c129, s130, (out77 ++ ([(⟨cell83, w64 ((w64 (Int.tdiv 16 (w64 (half2 * half2)))) * (w64 (vt103 - vt109)))⟩ : S_Part)] : List S_Part)), (w64 (cell83 + 1)), (jL [iV (w64 ((w64 (16 * cell83)) - vt37)), iV (w64 (vt103 - vt109)), iV cell83, iV vt45, iV half2, iV (w64 (vt45 + half2)), iV (w64 ((w64 (vt45 + half2)) + 1)), tV, iV cell83, iV (w64 (cell83 + 1)), iV cell83, iV (w64 (16 * cell83)), iV vt37, iV (w64 ((w64 (16 * cell83)) - vt37)), iV (w64 ((w64 (16 * cell83)) - vt37)), iV (w64 ((w64 ((w64 (16 * cell83)) - vt37)) + 16)), iV (w64 (16 * half2)), iV vt103, iV (w64 ((w64 (16 * cell83)) - vt37)), iV (w64 (16 * half2)), iV vt109, iV (w64 (vt103 - vt109)), iV (w64 (vt103 - vt109)), tV, .slice A78 out77.length c79, iV cell83, iV (w64 (Int.tdiv 16 (w64 (half2 * half2)))), iV (w64 (vt103 - vt109)), iV (w64 ((w64 (Int.tdiv 16 (w64 (half2 * half2)))) * (w64 (vt103 - vt109)))), .agg #[.int .i64 cell83, .int .i64 (w64 ((w64 (Int.tdiv 16 (w64 (half2 * half2)))) * (w64 (vt103 - vt109))))], .slice (some ⟨b119, 0, none⟩) ([(⟨cell83, w64 ((w64 (Int.tdiv 16 (w64 (half2 * half2)))) * (w64 (vt103 - vt109)))⟩ : S_Part)] : List S_Part).length 1, .slice A128 (out77 ++ ([(⟨cell83, w64 ((w64 (Int.tdiv 16 (w64 (half2 * half2)))) * (w64 (vt103 - vt109)))⟩ : S_Part)] : List S_Part)).length c129]), (L73.trans (L106.trans L112)), HS132, HO133, h, kr⟩
         · have c118 : ¬ ((w64 (vt103 - vt109)) > 0) := c118
           refine wpRwI 60 kr (decide_eq_false c118) ?_
           refine condF kr ?_
           refine wp_skip ?_
           refine hn94 _ _ ?_
           refine hK91 _ _ ?_
           refine rl ?_
           refine seqL3 kr ?_
           refine nl ?_
           refine hK70 n71 _ _ (Nat.lt_succ_self _) ?_
           exact ⟨f111, A78, c79, s80, out77, (w64 (cell83 + 1)), (jL [iV (w64 ((w64 (16 * cell83)) - vt37)), iV (w64 (vt103 - vt109)), iV cell83, iV vt45, iV half2, iV (w64 (vt45 + half2)), iV (w64 ((w64 (vt45 + half2)) + 1)), tV, iV cell83, iV (w64 (cell83 + 1)), iV cell83, iV (w64 (16 * cell83)), iV vt37, iV (w64 ((w64 (16 * cell83)) - vt37)), iV (w64 ((w64 (16 * cell83)) - vt37)), iV (w64 ((w64 ((w64 (16 * cell83)) - vt37)) + 16)), iV (w64 (16 * half2)), iV vt103, iV (w64 ((w64 (16 * cell83)) - vt37)), iV (w64 (16 * half2)), iV vt109, iV (w64 (vt103 - vt109)), iV (w64 (vt103 - vt109)), fV, (j76 24), (j76 25), (j76 26), (j76 27), (j76 28), (j76 29), (j76 30), (j76 31)]), (L73.trans (L106.trans L112)), HS114, (HO81.mono (L106.trans L112)), h, kr⟩
       · have c89 : ¬ (cell83 ≤ (w64 ((w64 (vt45 + half2)) + 1))) := c89
         refine wpRwI 44 kr (decide_eq_false c89) ?_
         refine condF kr ?_
         refine wp_exit ?_
         refine hx63 _ _ ?_
         exact J146 f72 A78 c79 s80 out77 (jL [iV cell83, (j76 0), (j76 1), iV cell83, iV vt45, iV half2, iV (w64 (vt45 + half2)), iV (w64 ((w64 (vt45 + half2)) + 1)), fV, (j76 8), (j76 9), (j76 10), (j76 11), (j76 12), (j76 13), (j76 14), (j76 15), (j76 16), (j76 17), (j76 18), (j76 19), (j76 20), (j76 21), (j76 22), (j76 23), (j76 24), (j76 25), (j76 26), (j76 27), (j76 28), (j76 29), (j76 30), (j76 31)]) W74 _ L73 h HS75 HO81 kr

set_option maxRecDepth 100000 in
set_option maxHeartbeats 4000000 in
theorem cmp_Or_Errno.calls (k : Nat) (A2 : Option Addr) (c3 : Nat) (vals1 : List Int) {t w : World} {f : FM} {H : List Seg} (HS : St t w f (H)) (HR4 : SlR (tInt .i64) f A2 c3 vals1) (rr1 : Int) (h : cmp_Or_Errno k vals1 = some rr1) :
    Calls Try.prog 27 #[.slice A2 vals1.length c3] w (fun e w' => ∃ (g : FM), e = .returned (Value.int .i64 rr1) ∧ FM.le f g ∧ St t w' g (H)) := by
 unfold cmp_Or_Errno at h
 refine enter Try.func27 rfl (tm := #[.slice A2 vals1.length c3, uV, uV, uV, uV, uV, uV, uV, uV, uV, uV, uV, uV, uV, uV, uV, uV, uV]) kr ?_
 intro B hret hnor hnp
 refine wp_seq_k fun K5 hK6 => rl ?_
 refine seqL1 kr ?_
 refine nl (hK6 _ _ ?_)
 refine wp_seq_k fun K7 hK8 => rl ?_
 refine seqL1 kr ?_
 refine nl (hK8 _ _ ?_)
 refine wp_seq_k (fun K9 hK10 => ?_)
 refine wp_seq_k fun K11 hK12 => rl ?_
 refine seqL3 kr ?_
 refine nl (hK12 _ _ ?_)
 refine blockK (fun B13 hx14 hn15 hr16 ho17 hp18 => ?_)
 have hq_ := bind_some h; clear h; obtain ⟨o19, hv64, h⟩ := hq_
 have JR66 : ∀ z_, some (Sum.inl z_) = some o19 → some z_ = some rr1 := by
  intro z_ e_; injection e_ with e_; subst e_; exact h
 have J65 : ∀ (f59 : FM) (j63 : Nat → Value) (W61 : World) (a_ : Act), FM.le f f59 → some (Sum.inr ()) = some o19 → St t W61 f59 (H) → a_ = ⟨#[.slice A2 vals1.length c3, uV, (j63 0), iV 0, uV, (j63 1), .slice A2 vals1.length c3, iV (vals1.length : Int), (j63 2), (j63 3), (j63 4), (j63 5), (j63 6), (j63 7), (j63 8), (j63 9), (j63 10), uV], []⟩ → K9 a_ W61 := by
  intro f59 j63 W61 a_ L60 hj67 HS62  hfr_; subst hfr_
  injection hj67 with hj67; subst hj67; try dsimp only at h
  simp only [Sum.elim_inr] at h
  refine hK10 _ _ ?_
  refine wp_seq_k fun K68 hK69 => rl ?_
  refine seqL2 kr ?_
  refine nl (hK69 _ _ ?_)
  refine wp_ret ?_
  refine hret _ _ ?_
  refine ends_still (v := Value.int .i64 0) kr kr ?_
  injection h with h
  subst h
  exact ⟨f59, rfl, L60, HS62⟩
 clear h; have h := hv64; clear hv64
 refine loopK (fun n_ a_ w_ => ∃ (f23 : FM) (x28 : Int) (j27 : Nat → Value), FM.le f f23 ∧ St t w_ f23 (H) ∧ cmp_Or_Errno.l0 k vals1 n_ x28 = some o19 ∧ a_ = ⟨#[.slice A2 vals1.length c3, uV, (j27 0), iV 0, uV, (j27 1), .slice A2 vals1.length c3, iV (vals1.length : Int), iV x28, (j27 2), (j27 3), (j27 4), (j27 5), (j27 6), (j27 7), (j27 8), (j27 9), uV], []⟩) k ⟨f, 0, (jL [iV 0]), fL, HS, h, kr⟩ ?_
 clear h
 rintro n22 _ W25 ⟨f23, x28, j27, L24, HS26, h, rfl⟩ K20 hK21
 obtain _ | n22 := n22
 · exact nomatch h
 simp only [cmp_Or_Errno.l0] at h
 refine wp_seq_k fun K29 hK30 => rl ?_
 refine seqL1 kr ?_
 refine nl (hK30 _ _ ?_)
 refine wp_seq_k (fun K31 hK32 => ?_)
 have hq_ := ite_some h; clear h; rcases hq_ with ⟨c34, h⟩ | ⟨c34, h⟩
 · have c34 : x28 < (vals1.length : Int) := c34
   refine wpRwI 9 kr (decide_eq_true c34) ?_
   refine condT kr ?_
   refine wp_skip ?_
   refine hK32 _ _ ?_
   refine wp_seq_k (fun K35 hK36 => ?_)
   refine blockK (fun B37 hx38 hn39 hr40 ho41 hp42 => ?_)
   refine wp_seq_k fun K44 hK45 => rl ?_
   have hq_ := guard_some h; clear h; obtain ⟨c46, h⟩ := hq_
   have c46 : 0 ≤ x28 := c46
   obtain ⟨b50, of51, cs47, hA52, hr48, hc49⟩ := (HR4.mono L24).at (i := x28) c46 c34
   obtain rfl := hr48
   refine seqK rfl (does_run (run_indexE hA52 (sz := 1) rfl Try.underlying87 kr (kv (.slice A2 vals1.length c3)) (kv (.int .i64 x28)) c46 c34 W25) ?_)
   refine seqK rfl (does_run (run_load rfl Try.underlying34 rfl (kv (.pointer (some ⟨b50, of51 + (x28 : Int).toNat * 1, none⟩))) ((hc49 fL HS26) 0 (by decide))) ?_)
   refine seqL1 kr ?_
   refine nl (hK45 _ _ ?_)
   refine wp_seq_k fun K53 hK54 => rl ?_
   refine seqL3 kr ?_
   refine nl (hK54 _ _ ?_)
   have hq_ := ite_some h; clear h; rcases hq_ with ⟨c56, h⟩ | ⟨c56, h⟩
   · have c56 : (rd vals1 x28) ≠ 0 := c56
     refine wpRwI 14 kr (bne_iff_ne.mpr c56) ?_
     refine condT kr ?_
     refine wp_seq_k fun K57 hK58 => rl ?_
     refine seqL2 kr ?_
     refine nl (hK58 _ _ ?_)
     refine wp_ret ?_
     refine hr40 _ _ ?_
     refine hr16 _ _ ?_
     refine hret _ _ ?_
     refine ends_still (v := Value.int .i64 (rd vals1 x28)) kr kr ?_
     replace h := JR66 _ h
     injection h with h
     subst h
     exact ⟨f23, rfl, L24, HS26⟩
   · have c56 : ¬ ((rd vals1 x28) ≠ 0) := c56
     refine wpRwI 14 (x := ((rd vals1 x28) != 0)) (v := false) kr (bne_eq_false_iff_eq.mpr (Decidable.of_not_not c56)) ?_
     refine condF kr ?_
     refine wp_skip ?_
     refine hn39 _ _ ?_
     refine hK36 _ _ ?_
     refine rl ?_
     refine seqL2 kr ?_
     refine nl ?_
     refine hK21 n22 _ _ (Nat.lt_succ_self _) ?_
     exact ⟨f23, (w64 (x28 + 1)), (jL [(j27 0), iV (rd vals1 x28), tV, .pointer (some ⟨b50, of51 + (x28 : Int).toNat * 1, none⟩), iV (rd vals1 x28), iV (rd vals1 x28), iV 0, fV, (j27 8), iV (w64 (x28 + 1))]), L24, HS26, h, kr⟩
 · have c34 : ¬ (x28 < (vals1.length : Int)) := c34
   refine wpRwI 9 kr (decide_eq_false c34) ?_
   refine condF kr ?_
   refine wp_exit ?_
   refine hx14 _ _ ?_
   exact J65 f23 (jL [(j27 0), (j27 1), iV x28, fV, (j27 3), (j27 4), (j27 5), (j27 6), (j27 7), (j27 8), (j27 9)]) W25 _ L24 h HS26 kr

set_option maxRecDepth 100000 in
set_option maxHeartbeats 4000000 in
theorem optics_Point.calls (k : Nat)  (p1 : S_Point) (wide2 : Int) (high3 : Int) {t w : World} {f : FM} {H : List Seg} (HS : St t w f (H)) (rr1 : List S_Spot) (rr2 : Int) (h : optics_Point k p1 wide2 high3 = some (rr1, rr2)) :
    Calls Try.prog 21 #[.agg #[.int .i64 p1.X, .int .i64 p1.Y], .int .i64 wide2, .int .i64 high3] w (fun e w' => ∃ (g : FM) (A317 : Option Addr) (c318 : Nat) (s319 : Seg), e = .returned (Value.tuple #[.slice A317 rr1.length c318, .int .i64 rr2]) ∧ FM.le f g ∧ St t w' g (s319 :: H) ∧ Own ty_Spot 42 g A317 c318 s319 rr1) := by
 unfold optics_Point at h
 refine enter Try.func21 rfl (tm := #[.agg #[iV p1.X, iV p1.Y], iV wide2, iV high3, uV, uV, uV, uV, uV, uV, uV, uV, uV, uV, uV, uV, uV, uV, uV, uV, uV, uV, uV, uV, uV, uV, uV, uV, uV, uV, uV, uV, uV, uV, uV, uV, uV, uV, uV, uV, uV, uV, uV, uV, uV, uV, uV, uV, uV, uV, uV, uV, uV, uV, uV, uV, uV, uV, uV, uV, uV, uV, uV, uV, uV, uV, uV, uV]) kr ?_
 intro B hret hnor hnp
 refine wp_seq_k fun K4 hK5 => rl ?_
 refine seqK rfl (does_box (cs := #[.int .i64 p1.X, .int .i64 p1.Y]) rfl (kv (.agg #[.int .i64 p1.X, .int .i64 p1.Y])) rfl HS ?_)
 intro b6 W7 HS8
 refine seqL2 kr ?_
 refine nl (hK5 _ _ ?_)
 refine wp_seq_k fun K10 hK11 => rl ?_
 refine seqL1 kr ?_
 refine seqK rfl (does_run (run_load rfl Try.underlying22 rfl (kv (.pointer (some ⟨b6, 0, none⟩))) (HS8.cell 0)) ?_)
 have hq_ := bind_some h; clear h; obtain ⟨⟨vt12, vt13⟩, hc14, h⟩ := hq_
 refine seqL1 kr ?_
 refine seqK rfl (does_call (f := 32) (args := #[.int .i64 p1.X, .int .i64 wide2]) kr (optics_Axis.calls k p1.X wide2 HS8 vt12 vt13 hc14) ?_)
 rintro _ W17 ⟨f15, A19, c20, s21, rfl, L16, HS18, HO22⟩
 refine ⟨_, rfl, ?_⟩
 refine seqL5 kr ?_
 refine nl (hK11 _ _ ?_)
 refine wp_seq_k fun K24 hK25 => rl ?_
 refine seqL1 kr ?_
 refine seqK rfl (does_run (run_load rfl Try.underlying22 rfl (kv (.pointer (some ⟨b6, 1, none⟩))) (HS18.u1.cell 1)) ?_)
 have hq_ := bind_some h; clear h; obtain ⟨⟨vt26, vt27⟩, hc28, h⟩ := hq_
 refine seqL1 kr ?_
 refine seqK rfl (does_call (f := 32) (args := #[.int .i64 p1.Y, .int .i64 high3]) kr (optics_Axis.calls k p1.Y high3 HS18 vt26 vt27 hc28) ?_)
 rintro _ W31 ⟨f29, A33, c34, s35, rfl, L30, HS32, HO36⟩
 refine ⟨_, rfl, ?_⟩
 refine seqL5 kr ?_
 refine nl (hK25 _ _ ?_)
 refine wp_seq_k (fun K38 hK39 => ?_)
 refine wp_seq_k fun K40 hK41 => rl ?_
 refine seqL2 kr ?_
 refine seqK rfl (does_lit (e := (tInt .i64)) (E := 34) (vs := #[(0, Value.int .i64 vt13), (1, Value.int .i64 vt27)]) (cs := #[.int .i64 vt13, .int .i64 vt27]) (xs := ([vt13, vt27] : List Int)) rfl Try.underlying87 kr kr ⟨[.int .i64 vt13], _, rfl, rfl, ⟨[.int .i64 vt27], _, rfl, rfl, rfl⟩⟩ rfl HS32 ?_ (by decide))
 intro b42 W43 s44 HS45 _ HO46
 obtain ⟨f48, L49, HS50, HR51, th52⟩ := HO46.lend HS45
 have hq_ := bind_some h; clear h; obtain ⟨vt53, hc54, h⟩ := hq_
 refine seqK rfl (does_call (f := 27) (args := #[.slice (some ⟨b42, 0, none⟩) ([vt13, vt27] : List Int).length 2]) kr (cmp_Or_Errno.calls k (some ⟨b42, 0, none⟩) 2 ([vt13, vt27] : List Int) HS50 HR51 vt53 hc54) ?_)
 rintro _ W57 ⟨f55, rfl, L56, HS58⟩
 refine ⟨_, rfl, ?_⟩
 obtain ⟨f59, L60, HS61⟩ := th52 L56 HS58
 refine seqL1 kr ?_
 refine nl (hK41 _ _ ?_)
 refine wp_seq_k fun K62 hK63 => rl ?_
 refine seqL2 kr ?_
 refine nl (hK63 _ _ ?_)
 have hq_ := ite_some h; clear h; rcases hq_ with ⟨c65, h⟩ | ⟨c65, h⟩
 · have c65 : vt53 ≠ 0 := c65
   refine wpRwI 37 kr (bne_iff_ne.mpr c65) ?_
   refine condT kr ?_
   refine wp_seq_k fun K66 hK67 => rl ?_
   refine seqL3 kr ?_
   refine nl (hK67 _ _ ?_)
   refine wp_ret ?_
   refine hret _ _ ?_
   have HS299 := HS61.cons_nil
   refine ends_still (v := Value.tuple #[.slice none 0 0, .int .i64 vt53]) kr kr ?_
   have HS304 := HS299.u4.u4.u4.u4
   have HS305 := HS304.drop
   have HS306 := HS305.drop
   have HS307 := HS306.drop
   have HS308 := HS307.drop
   injection h with h
   injection h with h0_ h
   subst h0_ h
   exact ⟨f59, none, 0, [], rfl, (L16.trans (L30.trans L60)), HS308, (Own.nil _)⟩
 · have c65 : ¬ (vt53 ≠ 0) := c65
   refine wpRwI 37 (x := (vt53 != 0)) (v := false) kr (bne_eq_false_iff_eq.mpr (Decidable.of_not_not c65)) ?_
   refine condF kr ?_
   refine wp_skip ?_
   refine hK39 _ _ ?_
   refine wp_seq_k fun K68 hK69 => rl ?_
   refine seqL1 kr ?_
   refine nl (hK69 _ _ ?_)
   refine wp_seq_k (fun K70 hK71 => ?_)
   refine wp_seq_k fun K72 hK73 => rl ?_
   refine seqL3 kr ?_
   refine nl (hK73 _ _ ?_)
   refine blockK (fun B74 hx75 hn76 hr77 ho78 hp79 => ?_)
   have hq_ := bind_some h; clear h; obtain ⟨o80, hv285, h⟩ := hq_
   have J286 : ∀ (f274 : FM) (A280 : Option Addr) (c281 : Nat) (s282 : Seg) (out279 : List S_Spot) (j278 : Nat → Value) (W276 : World) (a_ : Act), FM.le f59 f274 → some (out279) = some o80 → St t W276 f274 (s282 :: s44 :: s35 :: s21 :: [(b6, .cells #[.int .i64 p1.X, .int .i64 p1.Y] 24 (0, 0))] :: H) → Own ty_Spot 42 f274 A280 c281 s282 out279 → a_ = ⟨#[.agg #[iV p1.X, iV p1.Y], iV wide2, iV high3, pV b6 0, uV, uV, .slice none 0 0, iV 0, .slice A19 vt12.length c20, iV vt13, .slice A33 vt26.length c34, iV vt27, iV vt53, .slice A280 out279.length c281, uV, (j278 0), uV, (j278 1), .tuple #[.slice A19 vt12.length c20, iV vt13], pV b6 0, iV p1.X, iV wide2, .tuple #[.slice A19 vt12.length c20, iV vt13], .slice A19 vt12.length c20, iV vt13, .tuple #[.slice A33 vt26.length c34, iV vt27], pV b6 1, iV p1.Y, iV high3, .tuple #[.slice A33 vt26.length c34, iV vt27], .slice A33 vt26.length c34, iV vt27, iV vt13, iV vt27, .slice (some ⟨b42, 0, none⟩) ([vt13, vt27] : List Int).length 2, iV vt53, iV vt53, fV, uV, .slice A33 vt26.length c34, iV (vt26.length : Int), (j278 2), (j278 3), (j278 4), (j278 5), (j278 6), (j278 7), (j278 8), (j278 9), (j278 10), (j278 11), (j278 12), (j278 13), (j278 14), (j278 15), (j278 16), (j278 17), (j278 18), (j278 19), (j278 20), (j278 21), (j278 22), (j278 23), (j278 24), (j278 25), (j278 26), uV], []⟩ → K70 a_ W276 := by
    intro f274 A280 c281 s282 out279 j278 W276 a_ L275 hj287 HS277 HO283 hfr_; subst hfr_
    injection hj287 with hj287; subst hj287; try dsimp only at h
    refine hK71 _ _ ?_
    refine wp_seq_k fun K297 hK298 => rl ?_
    refine seqL3 kr ?_
    refine nl (hK298 _ _ ?_)
    refine wp_ret ?_
    refine hret _ _ ?_
    refine ends_still (v := Value.tuple #[.slice A280 out279.length c281, .int .i64 0]) kr kr ?_
    have HS312 := HS277.u4.u4.u4.u4
    have HS313 := HS312.drop
    have HS314 := HS313.drop
    have HS315 := HS314.drop
    have HS316 := HS315.drop
    injection h with h
    injection h with h0_ h
    subst h0_ h
    exact ⟨f274, A280, c281, s282, rfl, (L16.trans (L30.trans (L60.trans L275))), HS316, HO283⟩
   clear h; have h := hv285; clear hv285
   have HS288 := HS61.cons_nil
   refine loopK (fun n_ a_ w_ => ∃ (f84 : FM) (A90 : Option Addr) (c91 : Nat) (s92 : Seg) (out89 : List S_Spot) (x95 : Int) (j88 : Nat → Value), FM.le f59 f84 ∧ St t w_ f84 (s92 :: s44 :: s35 :: s21 :: [(b6, .cells #[.int .i64 p1.X, .int .i64 p1.Y] 24 (0, 0))] :: H) ∧ Own ty_Spot 42 f84 A90 c91 s92 out89 ∧ optics_Point.l0 k vt26 vt12 n_ out89 x95 = some o80 ∧ a_ = ⟨#[.agg #[iV p1.X, iV p1.Y], iV wide2, iV high3, pV b6 0, uV, uV, .slice none 0 0, iV 0, .slice A19 vt12.length c20, iV vt13, .slice A33 vt26.length c34, iV vt27, iV vt53, .slice A90 out89.length c91, uV, (j88 0), uV, (j88 1), .tuple #[.slice A19 vt12.length c20, iV vt13], pV b6 0, iV p1.X, iV wide2, .tuple #[.slice A19 vt12.length c20, iV vt13], .slice A19 vt12.length c20, iV vt13, .tuple #[.slice A33 vt26.length c34, iV vt27], pV b6 1, iV p1.Y, iV high3, .tuple #[.slice A33 vt26.length c34, iV vt27], .slice A33 vt26.length c34, iV vt27, iV vt13, iV vt27, .slice (some ⟨b42, 0, none⟩) ([vt13, vt27] : List Int).length 2, iV vt53, iV vt53, fV, uV, .slice A33 vt26.length c34, iV (vt26.length : Int), iV x95, (j88 2), (j88 3), (j88 4), (j88 5), (j88 6), (j88 7), (j88 8), (j88 9), (j88 10), (j88 11), (j88 12), (j88 13), (j88 14), (j88 15), (j88 16), (j88 17), (j88 18), (j88 19), (j88 20), (j88 21), (j88 22), (j88 23), (j88 24), (j88 25), uV], []⟩) k ⟨f59, none, 0, [], ([] : List S_Spot), 0, (jL []), fL, HS288, (Own.nil _), h, kr⟩ ?_
   clear h
   rintro n83 _ W86 ⟨f84, A90, c91, s92, out89, x95, j88, L85, HS87, HO93, h, rfl⟩ K81 hK82
   obtain _ | n83 := n83
   · exact nomatch h
   simp only [optics_Point.l0] at h
   refine wp_seq_k fun K96 hK97 => rl ?_
   refine seqL1 kr ?_
   refine nl (hK97 _ _ ?_)
   refine wp_seq_k (fun K98 hK99 => ?_)
   have hq_ := ite_some h; clear h; rcases hq_ with ⟨c101, h⟩ | ⟨c101, h⟩
   · have c101 : x95 < (vt26.length : Int) := c101
     refine wpRwI 42 kr (decide_eq_true c101) ?_
     refine condT kr ?_
     refine wp_skip ?_
     refine hK99 _ _ ?_
     refine wp_seq_k (fun K102 hK103 => ?_)
     refine blockK (fun B104 hx105 hn106 hr107 ho108 hp109 => ?_)
     refine wp_seq_k fun K111 hK112 => rl ?_
     have hq_ := guard_some h; clear h; obtain ⟨c113, h⟩ := hq_
     have c113 : 0 ≤ x95 := c113
     obtain ⟨b117, of118, cs114, hA119, hr115, hc116⟩ := (HO36.mono (L60.trans L85)).at (i := x95) c113 c101
     obtain rfl := hr115
     refine seqK rfl (does_run (run_indexE hA119 (sz := 2) rfl Try.underlying66 kr (kv (.slice A33 vt26.length c34)) (kv (.int .i64 x95)) c113 c101 W86) ?_)
     refine seqK rfl (does_run (run_loadN (n := 2) rfl Try.underlying70 rfl kr (kv (.pointer (some ⟨b117, of118 + (x95 : Int).toNat * 2, none⟩))) (cs := [.int .i64 ((rd vt26 x95).Cell), .int .i64 ((rd vt26 x95).Weight)]) rfl (fun j_ hj_ => ((hc116 HS87.u2) j_ hj_))) ?_)
     refine seqK rfl (does_alloc (z := Value.agg #[.int .i64 0, .int .i64 0]) (cs := #[.int .i64 0, .int .i64 0]) rfl kr rfl HS87 ?_)
     intro b120 W121 HS122
     refine seqK rfl (does_storeA (vs := [.int .i64 ((rd vt26 x95).Cell), .int .i64 ((rd vt26 x95).Weight)]) rfl kr kr kr rfl (ones rfl) HS122 kr ?_)
     intro W124 HS125
     refine nl (hK112 _ _ ?_)
     refine wp_seq_k fun K126 hK127 => rl ?_
     refine seqL3 kr ?_
     refine nl (hK127 _ _ ?_)
     refine blockK (fun B128 hx129 hn130 hr131 ho132 hp133 => ?_)
     have hq_ := bind_some h; clear h; obtain ⟨o193, hv263, h⟩ := hq_
     have J264 : ∀ (f253 : FM) (A259 : Option Addr) (c260 : Nat) (s261 : Seg) (out258 : List S_Spot) (j257 : Nat → Value) (W255 : World) (a_ : Act), FM.le f84 f253 → some (out258) = some o193 → St t W255 f253 ([(b120, .cells #[.int .i64 ((rd vt26 x95).Cell), .int .i64 ((rd vt26 x95).Weight)] 70 (0, 0))] :: s261 :: s44 :: s35 :: s21 :: [(b6, .cells #[.int .i64 p1.X, .int .i64 p1.Y] 24 (0, 0))] :: H) → Own ty_Spot 42 f253 A259 c260 s261 out258 → a_ = ⟨#[.agg #[iV p1.X, iV p1.Y], iV wide2, iV high3, pV b6 0, uV, uV, .slice none 0 0, iV 0, .slice A19 vt12.length c20, iV vt13, .slice A33 vt26.length c34, iV vt27, iV vt53, .slice A259 out258.length c260, uV, pV b120 0, uV, (j257 0), .tuple #[.slice A19 vt12.length c20, iV vt13], pV b6 0, iV p1.X, iV wide2, .tuple #[.slice A19 vt12.length c20, iV vt13], .slice A19 vt12.length c20, iV vt13, .tuple #[.slice A33 vt26.length c34, iV vt27], pV b6 1, iV p1.Y, iV high3, .tuple #[.slice A33 vt26.length c34, iV vt27], .slice A33 vt26.length c34, iV vt27, iV vt13, iV vt27, .slice (some ⟨b42, 0, none⟩) ([vt13, vt27] : List Int).length 2, iV vt53, iV vt53, fV, uV, .slice A33 vt26.length c34, iV (vt26.length : Int), iV x95, tV, pV b117 (of118 + (x95 : Int).toNat * 2), .agg #[iV ((rd vt26 x95).Cell), iV ((rd vt26 x95).Weight)], .slice A19 vt12.length c20, iV (vt12.length : Int), (j257 1), (j257 2), (j257 3), (j257 4), (j257 5), (j257 6), (j257 7), (j257 8), (j257 9), (j257 10), (j257 11), (j257 12), (j257 13), (j257 14), (j257 15), (j257 16), (j257 17), (j257 18), (j88 25), uV], []⟩ → B104 Exit.normal a_ W255 := by
      intro f253 A259 c260 s261 out258 j257 W255 a_ L254 hj265 HS256 HO262 hfr_; subst hfr_
      injection hj265 with hj265; subst hj265; try dsimp only at h
      refine hn106 _ _ ?_
      refine hK103 _ _ ?_
      refine rl ?_
      refine seqL2 kr ?_
      refine nl ?_
      refine hK82 n83 _ _ (Nat.lt_succ_self _) ?_
      have HS295 := HS256.u5.u5.u5.u5.u5.u5
      have HS296 := HS295.drop
      exact ⟨f253, A259, c260, s261, out258, (w64 (x95 + 1)), (jL [.pointer (some ⟨b120, 0, none⟩), (j257 0), tV, .pointer (some ⟨b117, of118 + (x95 : Int).toNat * 2, none⟩), .agg #[.int .i64 ((rd vt26 x95).Cell), .int .i64 ((rd vt26 x95).Weight)], .slice A19 vt12.length c20, iV (vt12.length : Int), (j257 1), (j257 2), (j257 3), (j257 4), (j257 5), (j257 6), (j257 7), (j257 8), (j257 9), (j257 10), (j257 11), (j257 12), (j257 13), (j257 14), (j257 15), (j257 16), (j257 17), (j257 18), iV (w64 (x95 + 1))]), (L85.trans L254), HS296, HO262, h, kr⟩
     clear h; have h := hv263; clear hv263
     refine loopK (fun n_ a_ w_ => ∃ (f197 : FM) (A203 : Option Addr) (c204 : Nat) (s205 : Seg) (out202 : List S_Spot) (x207 : Int) (j201 : Nat → Value), FM.le f84 f197 ∧ St t w_ f197 ([(b120, .cells #[.int .i64 ((rd vt26 x95).Cell), .int .i64 ((rd vt26 x95).Weight)] 70 (0, 0))] :: s205 :: s44 :: s35 :: s21 :: [(b6, .cells #[.int .i64 p1.X, .int .i64 p1.Y] 24 (0, 0))] :: H) ∧ Own ty_Spot 42 f197 A203 c204 s205 out202 ∧ optics_Point.l1 k vt12 vt26 x95 n_ out202 x207 = some o193 ∧ a_ = ⟨#[.agg #[iV p1.X, iV p1.Y], iV wide2, iV high3, pV b6 0, uV, uV, .slice none 0 0, iV 0, .slice A19 vt12.length c20, iV vt13, .slice A33 vt26.length c34, iV vt27, iV vt53, .slice A203 out202.length c204, uV, pV b120 0, uV, (j201 0), .tuple #[.slice A19 vt12.length c20, iV vt13], pV b6 0, iV p1.X, iV wide2, .tuple #[.slice A19 vt12.length c20, iV vt13], .slice A19 vt12.length c20, iV vt13, .tuple #[.slice A33 vt26.length c34, iV vt27], pV b6 1, iV p1.Y, iV high3, .tuple #[.slice A33 vt26.length c34, iV vt27], .slice A33 vt26.length c34, iV vt27, iV vt13, iV vt27, .slice (some ⟨b42, 0, none⟩) ([vt13, vt27] : List Int).length 2, iV vt53, iV vt53, fV, uV, .slice A33 vt26.length c34, iV (vt26.length : Int), iV x95, tV, pV b117 (of118 + (x95 : Int).toNat * 2), .agg #[iV ((rd vt26 x95).Cell), iV ((rd vt26 x95).Weight)], .slice A19 vt12.length c20, iV (vt12.length : Int), iV x207, (j201 1), (j201 2), (j201 3), (j201 4), (j201 5), (j201 6), (j201 7), (j201 8), (j201 9), (j201 10), (j201 11), (j201 12), (j201 13), (j201 14), (j201 15), (j201 16), (j201 17), (j88 25), uV], []⟩) k ⟨f84, A90, c91, s92, out89, 0, (jL [(j88 1), (j88 8), (j88 9), (j88 10), (j88 11), (j88 12), (j88 13), (j88 14), (j88 15), (j88 16), (j88 17), (j88 18), (j88 19), (j88 20), (j88 21), (j88 22), (j88 23), (j88 24)]), fL, HS125, HO93, h, kr⟩ ?_
     clear h
     rintro n196 _ W199 ⟨f197, A203, c204, s205, out202, x207, j201, L198, HS200, HO206, h, rfl⟩ K194 hK195
     obtain _ | n196 := n196
     · exact nomatch h
     simp only [optics_Point.l1] at h
     refine wp_seq_k fun K208 hK209 => rl ?_
     refine seqL1 kr ?_
     refine nl (hK209 _ _ ?_)
     refine wp_seq_k (fun K210 hK211 => ?_)
     have hq_ := ite_some h; clear h; rcases hq_ with ⟨c213, h⟩ | ⟨c213, h⟩
     · have c213 : x207 < (vt12.length : Int) := c213
       refine wpRwI 48 kr (decide_eq_true c213) ?_
       refine condT kr ?_
       refine wp_skip ?_
       refine hK211 _ _ ?_
       refine wp_seq_k (fun K214 hK215 => ?_)
       refine blockK (fun B216 hx217 hn218 hr219 ho220 hp221 => ?_)
       refine wp_seq_k fun K223 hK224 => rl ?_
       have hq_ := guard_some h; clear h; obtain ⟨c225, h⟩ := hq_
       have c225 : 0 ≤ x207 := c225
       obtain ⟨b229, of230, cs226, hA231, hr227, hc228⟩ := (HO22.mono (L30.trans (L60.trans (L85.trans L198)))).at (i := x207) c225 c213
       obtain rfl := hr227
       refine seqK rfl (does_run (run_indexE hA231 (sz := 2) rfl Try.underlying66 kr (kv (.slice A19 vt12.length c20)) (kv (.int .i64 x207)) c225 c213 W199) ?_)
       refine seqK rfl (does_run (run_loadN (n := 2) rfl Try.underlying70 rfl kr (kv (.pointer (some ⟨b229, of230 + (x207 : Int).toNat * 2, none⟩))) (cs := [.int .i64 ((rd vt12 x207).Cell), .int .i64 ((rd vt12 x207).Weight)]) rfl (fun j_ hj_ => ((hc228 HS200.u4) j_ hj_))) ?_)
       refine seqK rfl (does_alloc (z := Value.agg #[.int .i64 0, .int .i64 0]) (cs := #[.int .i64 0, .int .i64 0]) rfl kr rfl HS200 ?_)
       intro b232 W233 HS234
       refine seqK rfl (does_storeA (vs := [.int .i64 ((rd vt12 x207).Cell), .int .i64 ((rd vt12 x207).Weight)]) rfl kr kr kr rfl (ones rfl) HS234 kr ?_)
       intro W236 HS237
       refine nl (hK224 _ _ ?_)
       refine rl ?_
       refine seqL2 kr ?_
       refine seqK rfl (does_run (run_load rfl Try.underlying3 rfl (kv (.pointer (some ⟨b232, 0, none⟩))) (HS237.cell 0)) ?_)
       refine seqL1 kr ?_
       refine seqK rfl (does_run (run_load rfl Try.underlying3 rfl (kv (.pointer (some ⟨b120, 0, none⟩))) (HS237.u1.cell 0)) ?_)
       refine seqL1 kr ?_
       refine seqK rfl (does_run (run_load rfl Try.underlying38 rfl (kv (.pointer (some ⟨b232, 1, none⟩))) (HS237.cell 1)) ?_)
       refine seqL1 kr ?_
       refine seqK rfl (does_run (run_load rfl Try.underlying38 rfl (kv (.pointer (some ⟨b120, 1, none⟩))) (HS237.u1.cell 1)) ?_)
       refine seqL2 kr ?_
       refine seqK rfl (does_lit (e := ty_Spot) (E := 42) (vs := #[(0, Value.agg #[.int .i64 ((rd vt12 x207).Cell), .int .i64 ((rd vt26 x95).Cell), .int .i64 (w64 (((rd vt12 x207).Weight) * ((rd vt26 x95).Weight)))])]) (cs := #[.int .i64 ((rd vt12 x207).Cell), .int .i64 ((rd vt26 x95).Cell), .int .i64 (w64 (((rd vt12 x207).Weight) * ((rd vt26 x95).Weight)))]) (xs := ([(⟨(rd vt12 x207).Cell, (rd vt26 x95).Cell, w64 (((rd vt12 x207).Weight) * ((rd vt26 x95).Weight))⟩ : S_Spot)] : List S_Spot)) rfl Try.underlying33 kr kr ⟨[.int .i64 ((rd vt12 x207).Cell), .int .i64 ((rd vt26 x95).Cell), .int .i64 (w64 (((rd vt12 x207).Weight) * ((rd vt26 x95).Weight)))], _, rfl, rfl, rfl⟩ rfl HS237 ?_ (by decide))
       intro b238 W239 s240 HS241 _ HO242
       have hq_ := guard_some h; clear h; obtain ⟨c244, h⟩ := hq_
       have c244 : (out202.length + 1) * 24 ≤ 140737488355328 := c244
       have HS246 := HS241.u3.u1
       refine seqK rfl (does_append1 (e := ty_Spot) (E := 42) (xs := out202) (ys := ([(⟨(rd vt12 x207).Cell, (rd vt26 x95).Cell, w64 (((rd vt12 x207).Weight) * ((rd vt26 x95).Weight))⟩ : S_Spot)] : List S_Spot)) rfl (kv (.slice A203 out202.length c204)) (kv (.slice (some ⟨b238, 0, none⟩) ([(⟨(rd vt12 x207).Cell, (rd vt26 x95).Cell, w64 (((rd vt12 x207).Weight) * ((rd vt26 x95).Weight))⟩ : S_Spot)] : List S_Spot).length 1)) Try.underlying33 inf42 HO206 HO242 HS246 c244 (lim63 c244 (by decide)) ?_)
       intro A247 c248 s249 W250 HS251 HO252
       refine seqL1 kr ?_
       refine nl ?_
       refine hn218 _ _ ?_
       refine hK215 _ _ ?_
       refine rl ?_
       refine seqL2 kr ?_
       refine nl ?_
       refine hK195 n196 _ _ (Nat.lt_succ_self _) ?_
       have HS272 := HS251.u6.u6.u6.u6.u4.u6.u6
       have HS273 := HS272.drop
       exact ⟨f197, A247, c248, s249, (out202 ++ ([(⟨(rd vt12 x207).Cell, (rd vt26 x95).Cell, w64 (((rd vt12 x207).Weight) * ((rd vt26 x95).Weight))⟩ : S_Spot)] : List S_Spot)), (w64 (x207 + 1)), (jL [.pointer (some ⟨b232, 0, none⟩), tV, .pointer (some ⟨b229, of230 + (x207 : Int).toNat * 2, none⟩), .agg #[.int .i64 ((rd vt12 x207).Cell), .int .i64 ((rd vt12 x207).Weight)], .slice A203 out202.length c204, .pointer (some ⟨b232, 0, none⟩), iV ((rd vt12 x207).Cell), .pointer (some ⟨b120, 0, none⟩), iV ((rd vt26 x95).Cell), .pointer (some ⟨b232, 1, none⟩), iV ((rd vt12 x207).Weight), .pointer (some ⟨b120, 1, none⟩), iV ((rd vt26 x95).Weight), iV (w64 (((rd vt12 x207).Weight) * ((rd vt26 x95).Weight))), .agg #[.int .i64 ((rd vt12 x207).Cell), .int .i64 ((rd vt26 x95).Cell), .int .i64 (w64 (((rd vt12 x207).Weight) * ((rd vt26 x95).Weight)))], .slice (some ⟨b238, 0, none⟩) ([(⟨(rd vt12 x207).Cell, (rd vt26 x95).Cell, w64 (((rd vt12 x207).Weight) * ((rd vt26 x95).Weight))⟩ : S_Spot)] : List S_Spot).length 1, .slice A247 (out202 ++ ([(⟨(rd vt12 x207).Cell, (rd vt26 x95).Cell, w64 (((rd vt12 x207).Weight) * ((rd vt26 x95).Weight))⟩ : S_Spot)] : List S_Spot)).length c248, iV (w64 (x207 + 1))]), L198, HS273, HO252, h, kr⟩
     · have c213 : ¬ (x207 < (vt12.length : Int)) := c213
       refine wpRwI 48 kr (decide_eq_false c213) ?_
       refine condF kr ?_
       refine wp_exit ?_
       refine hx129 _ _ ?_
       exact J264 f197 A203 c204 s205 out202 (jL [(j201 0), iV x207, fV, (j201 2), (j201 3), (j201 4), (j201 5), (j201 6), (j201 7), (j201 8), (j201 9), (j201 10), (j201 11), (j201 12), (j201 13), (j201 14), (j201 15), (j201 16), (j201 17)]) W199 _ L198 h HS200 HO206 kr
   · have c101 : ¬ (x95 < (vt26.length : Int)) := c101
     refine wpRwI 42 kr (decide_eq_false c101) ?_
     refine condF kr ?_
     refine wp_exit ?_
     refine hx75 _ _ ?_
     exact J286 f84 A90 c91 s92 out89 (jL [(j88 0), (j88 1), iV x95, fV, (j88 3), (j88 4), (j88 5), (j88 6), (j88 7), (j88 8), (j88 9), (j88 10), (j88 11), (j88 12), (j88 13), (j88 14), (j88 15), (j88 16), (j88 17), (j88 18), (j88 19), (j88 20), (j88 21), (j88 22), (j88 23), (j88 24), (j88 25)]) W86 _ L85 h HS87 HO93 kr

set_option maxRecDepth 100000 in
set_option maxHeartbeats 4000000 in
theorem optics_add.calls (k : Nat) (A2 : Option Addr) (c3 : Nat) (A6 : Option Addr) (c7 : Nat) (a1 : List S_Spot) (b5 : List S_Spot) {t w : World} {f : FM} {H : List Seg} (HS : St t w f (H)) (HR4 : SlR ty_Spot f A2 c3 a1) (HR8 : SlR ty_Spot f A6 c7 b5) (rr1 : List S_Spot) (h : optics_add k a1 b5 = some rr1) :
    Calls Try.prog 22 #[.slice A2 a1.length c3, .slice A6 b5.length c7] w (fun e w' => ∃ (g : FM) (A520 : Option Addr) (c521 : Nat) (s522 : Seg), e = .returned (Value.slice A520 rr1.length c521) ∧ FM.le f g ∧ St t w' g (s522 :: H) ∧ Own ty_Spot 42 g A520 c521 s522 rr1) := by
 unfold optics_add at h
 refine enter Try.func22 rfl (tm := #[.slice A2 a1.length c3, .slice A6 b5.length c7, uV, uV, uV, uV, uV, uV, uV, uV, uV, uV, uV, uV, uV, uV, uV, uV, uV, uV, uV, uV, uV, uV, uV, uV, uV, uV, uV, uV, uV, uV, uV, uV, uV, uV, uV, uV, uV, uV, uV, uV, uV, uV, uV, uV, uV, uV, uV, uV, uV, uV, uV, uV, uV, uV, uV, uV, uV, uV, uV, uV, uV, uV, uV]) kr ?_
 intro B hret hnor hnp
 refine wp_seq_k fun K9 hK10 => rl ?_
 refine seqL1 kr ?_
 refine nl (hK10 _ _ ?_)
 refine wp_seq_k fun K11 hK12 => rl ?_
 refine seqK rfl (does_makeMapA (Value.int .i64) rfl HS ?_)
 intro b13 W14 HS15
 refine seqL1 kr ?_
 refine nl (hK12 _ _ ?_)
 refine wp_seq_k (fun K17 hK18 => ?_)
 refine wp_seq_k fun K19 hK20 => rl ?_
 refine seqL4 kr ?_
 refine nl (hK20 _ _ ?_)
 refine blockK (fun B21 hx22 hn23 hr24 ho25 hp26 => ?_)
 have hq_ := bind_some h; clear h; obtain ⟨o201, hv382, h⟩ := hq_
 have J383 : ∀ (f376 : FM) (x381 : List ((Int × Int) × Int)) (j380 : Nat → Value) (W378 : World) (a_ : Act), FM.le f f376 → some (x381) = some o201 → St t W378 f376 ([(b13, mobjA (Value.int .i64) x381)] :: H) → a_ = ⟨#[.slice A2 a1.length c3, .slice A6 b5.length c7, uV, uV, .slice none 0 0, .map (some b13), uV, (j380 0), uV, (j380 1), uV, uV, uV, .map (some b13), .slice A2 a1.length c3, .slice A6 b5.length c7, .agg #[.slice A2 a1.length c3, .slice A6 b5.length c7], (j380 2), (j380 3), (j380 4), (j380 5), (j380 6), (j380 7), (j380 8), (j380 9), (j380 10), (j380 11), (j380 12), (j380 13), (j380 14), (j380 15), (j380 16), (j380 17), (j380 18), (j380 19), (j380 20), (j380 21), (j380 22), (j380 23), (j380 24), uV, uV, uV, uV, uV, uV, uV, uV, uV, uV, uV, uV, uV, uV, uV, uV, uV, uV, uV, uV, uV, uV, uV, uV, uV], []⟩ → K17 a_ W378 := by
  intro f376 x381 j380 W378 a_ L377 hj384 HS379  hfr_; subst hfr_
  injection hj384 with hj384; subst hj384; try dsimp only at h
  refine hK18 _ _ ?_
  refine wp_seq_k fun K385 hK386 => rl ?_
  refine seqL1 kr ?_
  refine nl (hK386 _ _ ?_)
  refine wp_seq_k (fun K387 hK388 => ?_)
  refine wp_seq_k fun K389 hK390 => rl ?_
  refine seqL1 kr ?_
  refine seqK rfl (does_call (f := 34) (args := #[Value.map (some b13)]) kr (keysA_calls (mb0 := some b13) HS379) ?_)
  rintro _ W392 ⟨b391, rfl, HS393⟩
  refine ⟨_, rfl, ?_⟩
  have HS396 := HS393.u1.u1
  have hq_ := bind_some h; clear h; obtain ⟨vt397, hc398, h⟩ := hq_
  refine seqK rfl (does_call (f := 33) (args := #[Value.func (.func 47) #[] #[.pointer (some ⟨b391, 0, none⟩)], Value.func (.func 35) #[] #[]]) kr (sortedA_calls (vf := (Value.int .i64)) HS396 vt397 hc398) ?_)
  rintro _ W402 ⟨A399, c400, s401, rfl, HS403, HO404⟩
  refine ⟨_, rfl, ?_⟩
  refine seqL2 kr ?_
  refine nl (hK390 _ _ ?_)
  refine blockK (fun B406 hx407 hn408 hr409 ho410 hp411 => ?_)
  have hq_ := bind_some h; clear h; obtain ⟨o412, hv495, h⟩ := hq_
  have J496 : ∀ (f484 : FM) (A490 : Option Addr) (c491 : Nat) (s492 : Seg) (out489 : List S_Spot) (j488 : Nat → Value) (W486 : World) (a_ : Act), FM.le f376 f484 → some (out489) = some o412 → St t W486 f484 (s492 :: s401 :: [(b391, .cells #[.map (some b13)] 71 (0, 0))] :: [(b13, mobjA (Value.int .i64) x381)] :: H) → Own ty_Spot 42 f484 A490 c491 s492 out489 → a_ = ⟨#[.slice A2 a1.length c3, .slice A6 b5.length c7, uV, uV, .slice none 0 0, .map (some b13), uV, (j380 0), uV, (j380 1), .slice A490 out489.length c491, uV, (j488 0), .map (some b13), .slice A2 a1.length c3, .slice A6 b5.length c7, .agg #[.slice A2 a1.length c3, .slice A6 b5.length c7], (j380 2), (j380 3), (j380 4), (j380 5), (j380 6), (j380 7), (j380 8), (j380 9), (j380 10), (j380 11), (j380 12), (j380 13), (j380 14), (j380 15), (j380 16), (j380 17), (j380 18), (j380 19), (j380 20), (j380 21), (j380 22), (j380 23), (j380 24), .map (some b13), .func (.func 47) #[] #[pV b391 0], .slice A399 vt397.length c400, iV (vt397.length : Int), (j488 1), (j488 2), (j488 3), (j488 4), (j488 5), (j488 6), (j488 7), (j488 8), (j488 9), (j488 10), (j488 11), (j488 12), (j488 13), (j488 14), (j488 15), (j488 16), (j488 17), (j488 18), (j488 19), (j488 20), uV], []⟩ → K387 a_ W486 := by
   intro f484 A490 c491 s492 out489 j488 W486 a_ L485 hj497 HS487 HO493 hfr_; subst hfr_
   injection hj497 with hj497; subst hj497; try dsimp only at h
   refine hK388 _ _ ?_
   refine wp_seq_k fun K512 hK513 => rl ?_
   refine seqL2 kr ?_
   refine nl (hK513 _ _ ?_)
   refine wp_ret ?_
   refine hret _ _ ?_
   refine ends_still (v := Value.slice A490 out489.length c491) kr kr ?_
   have HS516 := HS487.u3.u3.u3
   have HS517 := HS516.drop
   have HS518 := HS517.drop
   have HS519 := HS518.drop
   injection h with h
   subst h
   exact ⟨f484, A490, c491, s492, rfl, (L377.trans L485), HS519, HO493⟩
  clear h; have h := hv495; clear hv495
  have HS498 := HS403.cons_nil
  refine loopK (fun n_ a_ w_ => ∃ (f416 : FM) (A422 : Option Addr) (c423 : Nat) (s424 : Seg) (out421 : List S_Spot) (x427 : Int) (j420 : Nat → Value), FM.le f376 f416 ∧ St t w_ f416 (s424 :: s401 :: [(b391, .cells #[.map (some b13)] 71 (0, 0))] :: [(b13, mobjA (Value.int .i64) x381)] :: H) ∧ Own ty_Spot 42 f416 A422 c423 s424 out421 ∧ optics_add.l2 k vt397 x381 n_ out421 x427 = some o412 ∧ a_ = ⟨#[.slice A2 a1.length c3, .slice A6 b5.length c7, uV, uV, .slice none 0 0, .map (some b13), uV, (j380 0), uV, (j380 1), .slice A422 out421.length c423, uV, (j420 0), .map (some b13), .slice A2 a1.length c3, .slice A6 b5.length c7, .agg #[.slice A2 a1.length c3, .slice A6 b5.length c7], (j380 2), (j380 3), (j380 4), (j380 5), (j380 6), (j380 7), (j380 8), (j380 9), (j380 10), (j380 11), (j380 12), (j380 13), (j380 14), (j380 15), (j380 16), (j380 17), (j380 18), (j380 19), (j380 20), (j380 21), (j380 22), (j380 23), (j380 24), .map (some b13), .func (.func 47) #[] #[pV b391 0], .slice A399 vt397.length c400, iV (vt397.length : Int), iV x427, (j420 1), (j420 2), (j420 3), (j420 4), (j420 5), (j420 6), (j420 7), (j420 8), (j420 9), (j420 10), (j420 11), (j420 12), (j420 13), (j420 14), (j420 15), (j420 16), (j420 17), (j420 18), (j420 19), uV], []⟩) k ⟨f376, none, 0, [], ([] : List S_Spot), 0, (jL []), fL, HS498, (Own.nil _), h, kr⟩ ?_
  clear h
  rintro n415 _ W418 ⟨f416, A422, c423, s424, out421, x427, j420, L417, HS419, HO425, h, rfl⟩ K413 hK414
  obtain _ | n415 := n415
  · exact nomatch h
  simp only [optics_add.l2] at h
  refine wp_seq_k fun K428 hK429 => rl ?_
  refine seqL1 kr ?_
  refine nl (hK429 _ _ ?_)
  refine wp_seq_k (fun K430 hK431 => ?_)
  have hq_ := ite_some h; clear h; rcases hq_ with ⟨c433, h⟩ | ⟨c433, h⟩
  · have c433 : x427 < (vt397.length : Int) := c433
    refine wpRwI 45 kr (decide_eq_true c433) ?_
    refine condT kr ?_
    refine wp_skip ?_
    refine hK431 _ _ ?_
    refine wp_seq_k (fun K434 hK435 => ?_)
    refine blockK (fun B436 hx437 hn438 hr439 ho440 hp441 => ?_)
    refine wp_seq_k fun K443 hK444 => rl ?_
    have hq_ := guard_some h; clear h; obtain ⟨c445, h⟩ := hq_
    have c445 : 0 ≤ x427 := c445
    obtain ⟨b449, of450, cs446, hA451, hr447, hc448⟩ := (HO404.mono L417).at (i := x427) c445 c433
    obtain rfl := hr447
    refine seqK rfl (does_run (run_indexE hA451 (sz := 2) rfl Try.underlying74 kr (kv (.slice A399 vt397.length c400)) (kv (.int .i64 x427)) c445 c433 W418) ?_)
    refine seqK rfl (does_run (run_loadN (n := 2) rfl Try.underlying73 rfl kr (kv (.pointer (some ⟨b449, of450 + (x427 : Int).toNat * 2, none⟩))) (cs := [.int .i64 ((rd vt397 x427).getD 0 default), .int .i64 ((rd vt397 x427).getD 1 default)]) rfl (fun j_ hj_ => ((hc448 HS419.u1) j_ hj_))) ?_)
    refine seqK rfl (does_alloc (z := Value.agg #[.int .i64 0, .int .i64 0]) (cs := #[.int .i64 0, .int .i64 0]) rfl kr rfl HS419 ?_)
    intro b452 W453 HS454
    refine seqK rfl (does_storeA (vs := [.int .i64 ((rd vt397 x427).getD 0 default), .int .i64 ((rd vt397 x427).getD 1 default)]) rfl kr kr kr rfl (ones rfl) HS454 kr ?_)
    intro W456 HS457
    refine nl (hK444 _ _ ?_)
    refine wp_seq_k fun K458 hK459 => rl ?_
    refine seqL1 kr ?_
    refine seqK rfl (does_run (run_loadN (n := 2) rfl Try.underlying73 rfl kr (kv (.pointer (some ⟨b452, 0, none⟩))) (cs := [.int .i64 ((rd vt397 x427).getD 0 default), .int .i64 ((rd vt397 x427).getD 1 default)]) rfl (HS457.cells 0 2 _ rfl)) ?_)
    refine seqK rfl (does_run (run_lookupA (vf := (Value.int .i64)) (k := (((rd vt397 x427).getD 0 default), ((rd vt397 x427).getD 1 default))) (z := 0) rfl Try.underlying71 arrK kr (kv (.map (some b13))) (by kernel_rfl : _ = kA (((rd vt397 x427).getD 0 default), ((rd vt397 x427).getD 1 default))) (HS457.u4.blk)) ?_)
    refine seqL1 kr ?_
    refine nl (hK459 _ _ ?_)
    have hq_ := ite_some h; clear h; rcases hq_ with ⟨c461, h⟩ | ⟨c461, h⟩
    · have c461 : (aget 0 x381 (((rd vt397 x427).getD 0 default), ((rd vt397 x427).getD 1 default))) ≠ 0 := c461
      refine wpRwI 51 kr (bne_iff_ne.mpr c461) ?_
      refine condT kr ?_
      have HS466 := HS457.u4.u4.u4.u3.u4
      refine heldG (S := Sg t f416 ([(b452, .cells #[.int .i64 ((rd vt397 x427).getD 0 default), .int .i64 ((rd vt397 x427).getD 1 default)] 73 (0, 0))] :: s401 :: [(b391, .cells #[.map (some b13)] 71 (0, 0))] :: [(b13, mobjA (Value.int .i64) x381)] :: H) [(10, s424)]) (n := 12) kr rfl HS466 ?_
      intro W467 HS468
      refine takeGL [0, 1] (n := 12) (fuel := 10) #[true, true, false, false, false, false, false, false, false, false, false, false] rfl kr kr kr (fun ch_ a_ w_ q_ => (fun ch_ a_ w_ q_ => hnp ch_ a_ w_ (hp411 ch_ a_ w_ q_)) ch_ a_ w_ (hp441 ch_ a_ w_ q_)) (Sg.g1 (Sx.of [s424] fL HS468) (fun _ => St.only [] HS468 fL)) ?_
      refine takeGQ 2 [] rfl kr kr kr kr kr kr (fun ch_ a_ w_ q_ => (fun ch_ a_ w_ q_ => hnp ch_ a_ w_ (hp411 ch_ a_ w_ q_)) ch_ a_ w_ (hp441 ch_ a_ w_ q_)) (Sg.g1 (Sx.of [s424] fL HS468) (fun _ => St.only [] HS468 fL)) (fun w_ hw_ => by obtain ⟨g_, hl_, hS_⟩ := hw_.st; exact run_load rfl Try.underlying3 rfl (kv (.pointer (some ⟨b452, 1, none⟩))) (hS_.cell 1)) ?_
      refine takeGL [3] (n := 9) (fuel := 8) #[true, true, true, true, false, false, false, false, false, false, false, false] rfl kr kr kr (fun ch_ a_ w_ q_ => (fun ch_ a_ w_ q_ => hnp ch_ a_ w_ (hp411 ch_ a_ w_ q_)) ch_ a_ w_ (hp441 ch_ a_ w_ q_)) (Sg.g1 (Sx.of [s424] fL HS468) (fun _ => St.only [] HS468 fL)) ?_
      refine takeGQ 4 [] rfl kr kr kr kr kr kr (fun ch_ a_ w_ q_ => (fun ch_ a_ w_ q_ => hnp ch_ a_ w_ (hp411 ch_ a_ w_ q_)) ch_ a_ w_ (hp441 ch_ a_ w_ q_)) (Sg.g1 (Sx.of [s424] fL HS468) (fun _ => St.only [] HS468 fL)) (fun w_ hw_ => by obtain ⟨g_, hl_, hS_⟩ := hw_.st; exact run_load rfl Try.underlying3 rfl (kv (.pointer (some ⟨b452, 0, none⟩))) (hS_.cell 0)) ?_
      refine takeGL [5] (n := 7) (fuel := 6) #[true, true, true, true, true, true, false, false, false, false, false, false] rfl kr kr kr (fun ch_ a_ w_ q_ => (fun ch_ a_ w_ q_ => hnp ch_ a_ w_ (hp411 ch_ a_ w_ q_)) ch_ a_ w_ (hp441 ch_ a_ w_ q_)) (Sg.g1 (Sx.of [s424] fL HS468) (fun _ => St.only [] HS468 fL)) ?_
      refine takeGQ 6 [] rfl kr kr kr kr kr kr (fun ch_ a_ w_ q_ => (fun ch_ a_ w_ q_ => hnp ch_ a_ w_ (hp411 ch_ a_ w_ q_)) ch_ a_ w_ (hp441 ch_ a_ w_ q_)) (Sg.g1 (Sx.of [s424] fL HS468) (fun _ => St.only [] HS468 fL)) (fun w_ hw_ => by obtain ⟨g_, hl_, hS_⟩ := hw_.st; exact run_loadN (n := 2) rfl Try.underlying73 rfl kr (kv (.pointer (some ⟨b452, 0, none⟩))) (cs := [.int .i64 ((rd vt397 x427).getD 0 default), .int .i64 ((rd vt397 x427).getD 1 default)]) rfl (hS_.cells 0 2 _ rfl)) ?_
      refine takeGQ 7 [] rfl kr kr kr kr kr kr (fun ch_ a_ w_ q_ => (fun ch_ a_ w_ q_ => hnp ch_ a_ w_ (hp411 ch_ a_ w_ q_)) ch_ a_ w_ (hp441 ch_ a_ w_ q_)) (Sg.g1 (Sx.of [s424] fL HS468) (fun _ => St.only [] HS468 fL)) (fun w_ hw_ => by obtain ⟨g_, hl_, hS_⟩ := hw_.st; exact run_lookupA (vf := (Value.int .i64)) (k := (((rd vt397 x427).getD 0 default), ((rd vt397 x427).getD 1 default))) (z := 0) rfl Try.underlying71 arrK kr (kv (.map (some b13))) (by kernel_rfl : _ = kA (((rd vt397 x427).getD 0 default), ((rd vt397 x427).getD 1 default))) (hS_.u3.blk)) ?_
      refine takeGL [8] (n := 4) (fuel := 3) #[true, true, true, true, true, true, true, true, true, false, false, false] rfl kr kr kr (fun ch_ a_ w_ q_ => (fun ch_ a_ w_ q_ => hnp ch_ a_ w_ (hp411 ch_ a_ w_ q_)) ch_ a_ w_ (hp441 ch_ a_ w_ q_)) (Sg.g1 (Sx.of [s424] fL HS468) (fun _ => St.only [] HS468 fL)) ?_
      refine takeGE 9 kr rfl kr (does_lit (e := ty_Spot) (E := 42) (vs := #[(0, Value.agg #[.int .i64 ((rd vt397 x427).getD 1 default), .int .i64 ((rd vt397 x427).getD 0 default), .int .i64 (aget 0 x381 (((rd vt397 x427).getD 0 default), ((rd vt397 x427).getD 1 default)))])]) (cs := #[.int .i64 ((rd vt397 x427).getD 1 default), .int .i64 ((rd vt397 x427).getD 0 default), .int .i64 (aget 0 x381 (((rd vt397 x427).getD 0 default), ((rd vt397 x427).getD 1 default)))]) (xs := ([(⟨((rd vt397 x427).getD 1 default), ((rd vt397 x427).getD 0 default), aget 0 x381 (((rd vt397 x427).getD 0 default), ((rd vt397 x427).getD 1 default))⟩ : S_Spot)] : List S_Spot)) rfl Try.underlying33 kr kr ⟨[.int .i64 ((rd vt397 x427).getD 1 default), .int .i64 ((rd vt397 x427).getD 0 default), .int .i64 (aget 0 x381 (((rd vt397 x427).getD 0 default), ((rd vt397 x427).getD 1 default)))], _, rfl, rfl, rfl⟩ rfl HS468 ?_ (by decide))
      intro b469 W470 s471 HS472 _ HO473
      refine ⟨(Sg.g1 (Sx.of [s471, s424] fL HS472) (fun _ => St.only [s471] HS472 fL)), ?_⟩
      have hq_ := guard_some h; clear h; obtain ⟨c475, h⟩ := hq_
      have c475 : (out421.length + 1) * 24 ≤ 140737488355328 := c475
      have HS477 := HS472.u1.u1
      refine takeGE 10 kr rfl kr (does_append1 (e := ty_Spot) (E := 42) (xs := out421) (ys := ([(⟨((rd vt397 x427).getD 1 default), ((rd vt397 x427).getD 0 default), aget 0 x381 (((rd vt397 x427).getD 0 default), ((rd vt397 x427).getD 1 default))⟩ : S_Spot)] : List S_Spot)) rfl (kv (.slice A422 out421.length c423)) (kv (.slice (some ⟨b469, 0, none⟩) ([(⟨((rd vt397 x427).getD 1 default), ((rd vt397 x427).getD 0 default), aget 0 x381 (((rd vt397 x427).getD 0 default), ((rd vt397 x427).getD 1 default))⟩ : S_Spot)] : List S_Spot).length 1)) Try.underlying33 inf42 HO425 HO473 HS477 c475 (lim63 c475 (by decide)) ?_)
      intro A478 c479 s480 W481 HS482 HO483
      refine ⟨(Sg.g1 (Sx.of [s480] fL HS482) (fun hl_ => Bool.noConfusion (show true = false from hl_))), ?_⟩
      refine takeGL [11] (n := 1) (fuel := 0) #[true, true, true, true, true, true, true, true, true, true, true, true] rfl kr kr kr (fun ch_ a_ w_ q_ => (fun ch_ a_ w_ q_ => hnp ch_ a_ w_ (hp411 ch_ a_ w_ q_)) ch_ a_ w_ (hp441 ch_ a_ w_ q_)) (Sg.g1 (Sx.of [s480] fL HS482) (fun hl_ => Bool.noConfusion (show true = false from hl_))) ?_
      refine doneG kr ?_ _
      refine hn438 _ _ ?_
      refine hK435 _ _ ?_
      refine rl ?_
      refine seqL2 kr ?_
      refine nl ?_
      refine hK414 n415 _ _ (Nat.lt_succ_self _) ?_
      have HS504 := HS482.u4.u4.u4.u3.u4
      have HS505 := HS504.drop
      exact ⟨f416, A478, c479, s480, (out421 ++ ([(⟨((rd vt397 x427).getD 1 default), ((rd vt397 x427).getD 0 default), aget 0 x381 (((rd vt397 x427).getD 0 default), ((rd vt397 x427).getD 1 default))⟩ : S_Spot)] : List S_Spot)), (w64 (x427 + 1)), (jL [.pointer (some ⟨b452, 0, none⟩), tV, .pointer (some ⟨b449, of450 + (x427 : Int).toNat * 2, none⟩), .agg #[.int .i64 ((rd vt397 x427).getD 0 default), .int .i64 ((rd vt397 x427).getD 1 default)], .map (some b13), .agg #[.int .i64 ((rd vt397 x427).getD 0 default), .int .i64 ((rd vt397 x427).getD 1 default)], iV (aget 0 x381 (((rd vt397 x427).getD 0 default), ((rd vt397 x427).getD 1 default))), tV, .slice A422 out421.length c423, .pointer (some ⟨b452, 1, none⟩), iV ((rd vt397 x427).getD 1 default), .pointer (some ⟨b452, 0, none⟩), iV ((rd vt397 x427).getD 0 default), .map (some b13), .agg #[.int .i64 ((rd vt397 x427).getD 0 default), .int .i64 ((rd vt397 x427).getD 1 default)], iV (aget 0 x381 (((rd vt397 x427).getD 0 default), ((rd vt397 x427).getD 1 default))), .agg #[.int .i64 ((rd vt397 x427).getD 1 default), .int .i64 ((rd vt397 x427).getD 0 default), .int .i64 (aget 0 x381 (((rd vt397 x427).getD 0 default), ((rd vt397 x427).getD 1 default)))], .slice (some ⟨b469, 0, none⟩) ([(⟨((rd vt397 x427).getD 1 default), ((rd vt397 x427).getD 0 default), aget 0 x381 (((rd vt397 x427).getD 0 default), ((rd vt397 x427).getD 1 default))⟩ : S_Spot)] : List S_Spot).length 1, .slice A478 (out421 ++ ([(⟨((rd vt397 x427).getD 1 default), ((rd vt397 x427).getD 0 default), aget 0 x381 (((rd vt397 x427).getD 0 default), ((rd vt397 x427).getD 1 default))⟩ : S_Spot)] : List S_Spot)).length c479, iV (w64 (x427 + 1))]), L417, HS505, HO483, h, kr⟩
    · have c461 : ¬ ((aget 0 x381 (((rd vt397 x427).getD 0 default), ((rd vt397 x427).getD 1 default))) ≠ 0) := c461
      refine wpRwI 51 (x := ((aget 0 x381 (((rd vt397 x427).getD 0 default), ((rd vt397 x427).getD 1 default))) != 0)) (v := false) kr (bne_eq_false_iff_eq.mpr (Decidable.of_not_not c461)) ?_
      refine condF kr ?_
      refine wp_skip ?_
      refine hn438 _ _ ?_
      refine hK435 _ _ ?_
      refine rl ?_
      refine seqL2 kr ?_
      refine nl ?_
      refine hK414 n415 _ _ (Nat.lt_succ_self _) ?_
      have HS510 := HS457.u4.u4.u4.u4.u4
      have HS511 := HS510.drop
      exact ⟨f416, A422, c423, s424, out421, (w64 (x427 + 1)), (jL [.pointer (some ⟨b452, 0, none⟩), tV, .pointer (some ⟨b449, of450 + (x427 : Int).toNat * 2, none⟩), .agg #[.int .i64 ((rd vt397 x427).getD 0 default), .int .i64 ((rd vt397 x427).getD 1 default)], .map (some b13), .agg #[.int .i64 ((rd vt397 x427).getD 0 default), .int .i64 ((rd vt397 x427).getD 1 default)], iV (aget 0 x381 (((rd vt397 x427).getD 0 default), ((rd vt397 x427).getD 1 default))), fV, (j420 8), (j420 9), (j420 10), (j420 11), (j420 12), (j420 13), (j420 14), (j420 15), (j420 16), (j420 17), (j420 18), iV (w64 (x427 + 1))]), L417, HS511, HO425, h, kr⟩
  · have c433 : ¬ (x427 < (vt397.length : Int)) := c433
    refine wpRwI 45 kr (decide_eq_false c433) ?_
    refine condF kr ?_
    refine wp_exit ?_
    refine hx407 _ _ ?_
    exact J496 f416 A422 c423 s424 out421 (jL [(j420 0), iV x427, fV, (j420 2), (j420 3), (j420 4), (j420 5), (j420 6), (j420 7), (j420 8), (j420 9), (j420 10), (j420 11), (j420 12), (j420 13), (j420 14), (j420 15), (j420 16), (j420 17), (j420 18), (j420 19)]) W418 _ L417 h HS419 HO425 kr
 clear h; have h := hv382; clear hv382
 refine loopK (fun n_ a_ w_ => ∃ (f205 : FM) (x210 : Int) (x211 : List ((Int × Int) × Int)) (j209 : Nat → Value), FM.le f f205 ∧ St t w_ f205 ([(b13, mobjA (Value.int .i64) x211)] :: H) ∧ optics_add.l0 k a1 b5 n_ x210 x211 = some o201 ∧ a_ = ⟨#[.slice A2 a1.length c3, .slice A6 b5.length c7, uV, uV, .slice none 0 0, .map (some b13), uV, (j209 0), uV, (j209 1), uV, uV, uV, .map (some b13), .slice A2 a1.length c3, .slice A6 b5.length c7, .agg #[.slice A2 a1.length c3, .slice A6 b5.length c7], iV x210, (j209 2), (j209 3), (j209 4), (j209 5), (j209 6), (j209 7), (j209 8), (j209 9), (j209 10), (j209 11), (j209 12), (j209 13), (j209 14), (j209 15), (j209 16), (j209 17), (j209 18), (j209 19), (j209 20), (j209 21), (j209 22), (j209 23), uV, uV, uV, uV, uV, uV, uV, uV, uV, uV, uV, uV, uV, uV, uV, uV, uV, uV, uV, uV, uV, uV, uV, uV, uV], []⟩) k ⟨f, 0, ([] : List ((Int × Int) × Int)), (jL []), fL, HS15, h, kr⟩ ?_
 clear h
 rintro n204 _ W207 ⟨f205, x210, x211, j209, L206, HS208, h, rfl⟩ K202 hK203
 obtain _ | n204 := n204
 · exact nomatch h
 simp only [optics_add.l0] at h
 refine wp_seq_k fun K212 hK213 => rl ?_
 refine seqL1 kr ?_
 refine nl (hK213 _ _ ?_)
 refine wp_seq_k (fun K214 hK215 => ?_)
 have hq_ := ite_some h; clear h; rcases hq_ with ⟨c217, h⟩ | ⟨c217, h⟩
 · have c217 : x210 < 2 := c217
   refine wpRwI 18 kr (decide_eq_true c217) ?_
   refine condT kr ?_
   refine wp_skip ?_
   refine hK215 _ _ ?_
   refine wp_seq_k (fun K218 hK219 => ?_)
   refine blockK (fun B220 hx221 hn222 hr223 ho224 hp225 => ?_)
   refine wp_seq_k fun K227 hK228 => rl ?_
   have hq_ := guard_some h; clear h; obtain ⟨c229, h⟩ := hq_
   have c229 : 0 ≤ x210 := c229
   obtain ⟨A230, c231, hc232, HR233⟩ := arr_sl (e := ty_Spot) (f := f205) (cs := [Value.slice A2 a1.length c3, Value.slice A6 b5.length c7]) (xs := ([a1, b5] : List (List S_Spot))) (j := x210) ⟨[Value.slice A2 a1.length c3], _, rfl, ⟨_, _, rfl, (HR4.mono L206)⟩, ⟨[Value.slice A6 b5.length c7], _, rfl, ⟨_, _, rfl, (HR8.mono L206)⟩, rfl⟩⟩ c229 c217
   refine seqK rfl (does_run (run_arr_sl rfl Try.underlying72 kr Try.underlying33 (kv (.agg #[.slice A2 a1.length c3, .slice A6 b5.length c7])) (kv (.int .i64 x210)) hc232 c229 c217 W207) ?_)
   refine seqL1 kr ?_
   refine nl (hK228 _ _ ?_)
   refine wp_seq_k fun K234 hK235 => rl ?_
   refine seqL3 kr ?_
   refine nl (hK235 _ _ ?_)
   refine blockK (fun B236 hx237 hn238 hr239 ho240 hp241 => ?_)
   have hq_ := bind_some h; clear h; obtain ⟨o303, hv371, h⟩ := hq_
   have J372 : ∀ (f365 : FM) (x370 : List ((Int × Int) × Int)) (j369 : Nat → Value) (W367 : World) (a_ : Act), FM.le f205 f365 → some (x370) = some o303 → St t W367 f365 ([(b13, mobjA (Value.int .i64) x370)] :: H) → a_ = ⟨#[.slice A2 a1.length c3, .slice A6 b5.length c7, uV, uV, .slice none 0 0, .map (some b13), uV, .slice A230 (rd ([a1, b5] : List (List S_Spot)) x210).length c231, uV, (j369 0), uV, uV, uV, .map (some b13), .slice A2 a1.length c3, .slice A6 b5.length c7, .agg #[.slice A2 a1.length c3, .slice A6 b5.length c7], iV x210, tV, .slice A230 (rd ([a1, b5] : List (List S_Spot)) x210).length c231, .slice A230 (rd ([a1, b5] : List (List S_Spot)) x210).length c231, iV ((rd ([a1, b5] : List (List S_Spot)) x210).length : Int), (j369 1), (j369 2), (j369 3), (j369 4), (j369 5), (j369 6), (j369 7), (j369 8), (j369 9), (j369 10), (j369 11), (j369 12), (j369 13), (j369 14), (j369 15), (j369 16), (j369 17), (j209 23), uV, uV, uV, uV, uV, uV, uV, uV, uV, uV, uV, uV, uV, uV, uV, uV, uV, uV, uV, uV, uV, uV, uV, uV, uV], []⟩ → B220 Exit.normal a_ W367 := by
    intro f365 x370 j369 W367 a_ L366 hj373 HS368  hfr_; subst hfr_
    injection hj373 with hj373; subst hj373; try dsimp only at h
    refine hn222 _ _ ?_
    refine hK219 _ _ ?_
    refine rl ?_
    refine seqL2 kr ?_
    refine nl ?_
    refine hK203 n204 _ _ (Nat.lt_succ_self _) ?_
    exact ⟨f365, (w64 (x210 + 1)), x370, (jL [.slice A230 (rd ([a1, b5] : List (List S_Spot)) x210).length c231, (j369 0), tV, .slice A230 (rd ([a1, b5] : List (List S_Spot)) x210).length c231, .slice A230 (rd ([a1, b5] : List (List S_Spot)) x210).length c231, iV ((rd ([a1, b5] : List (List S_Spot)) x210).length : Int), (j369 1), (j369 2), (j369 3), (j369 4), (j369 5), (j369 6), (j369 7), (j369 8), (j369 9), (j369 10), (j369 11), (j369 12), (j369 13), (j369 14), (j369 15), (j369 16), (j369 17), iV (w64 (x210 + 1))]), (L206.trans L366), HS368, h, kr⟩
   clear h; have h := hv371; clear hv371
   refine loopK (fun n_ a_ w_ => ∃ (f307 : FM) (x312 : Int) (x313 : List ((Int × Int) × Int)) (j311 : Nat → Value), FM.le f205 f307 ∧ St t w_ f307 ([(b13, mobjA (Value.int .i64) x313)] :: H) ∧ optics_add.l1 k a1 b5 x210 n_ x312 x313 = some o303 ∧ a_ = ⟨#[.slice A2 a1.length c3, .slice A6 b5.length c7, uV, uV, .slice none 0 0, .map (some b13), uV, .slice A230 (rd ([a1, b5] : List (List S_Spot)) x210).length c231, uV, (j311 0), uV, uV, uV, .map (some b13), .slice A2 a1.length c3, .slice A6 b5.length c7, .agg #[.slice A2 a1.length c3, .slice A6 b5.length c7], iV x210, tV, .slice A230 (rd ([a1, b5] : List (List S_Spot)) x210).length c231, .slice A230 (rd ([a1, b5] : List (List S_Spot)) x210).length c231, iV ((rd ([a1, b5] : List (List S_Spot)) x210).length : Int), iV x312, (j311 1), (j311 2), (j311 3), (j311 4), (j311 5), (j311 6), (j311 7), (j311 8), (j311 9), (j311 10), (j311 11), (j311 12), (j311 13), (j311 14), (j311 15), (j311 16), (j209 23), uV, uV, uV, uV, uV, uV, uV, uV, uV, uV, uV, uV, uV, uV, uV, uV, uV, uV, uV, uV, uV, uV, uV, uV, uV], []⟩) k ⟨f205, 0, x211, (jL [(j209 1), (j209 7), (j209 8), (j209 9), (j209 10), (j209 11), (j209 12), (j209 13), (j209 14), (j209 15), (j209 16), (j209 17), (j209 18), (j209 19), (j209 20), (j209 21), (j209 22)]), fL, HS208, h, kr⟩ ?_
   clear h
   rintro n306 _ W309 ⟨f307, x312, x313, j311, L308, HS310, h, rfl⟩ K304 hK305
   obtain _ | n306 := n306
   · exact nomatch h
   simp only [optics_add.l1] at h
   refine wp_seq_k fun K314 hK315 => rl ?_
   refine seqL1 kr ?_
   refine nl (hK315 _ _ ?_)
   refine wp_seq_k (fun K316 hK317 => ?_)
   have hq_ := ite_some h; clear h; rcases hq_ with ⟨c319, h⟩ | ⟨c319, h⟩
   · have c319 : x312 < ((rd ([a1, b5] : List (List S_Spot)) x210).length : Int) := c319
     refine wpRwI 23 kr (decide_eq_true c319) ?_
     refine condT kr ?_
     refine wp_skip ?_
     refine hK317 _ _ ?_
     refine wp_seq_k (fun K320 hK321 => ?_)
     refine blockK (fun B322 hx323 hn324 hr325 ho326 hp327 => ?_)
     refine wp_seq_k fun K329 hK330 => rl ?_
     have hq_ := guard_some h; clear h; obtain ⟨c331, h⟩ := hq_
     have c331 : 0 ≤ x312 := c331
     obtain ⟨b335, of336, cs332, hA337, hr333, hc334⟩ := (HR233.mono L308).at (i := x312) c331 c319
     obtain rfl := hr333
     refine seqK rfl (does_run (run_indexE hA337 (sz := 3) rfl Try.underlying33 kr (kv (.slice A230 (rd ([a1, b5] : List (List S_Spot)) x210).length c231)) (kv (.int .i64 x312)) c331 c319 W309) ?_)
     refine seqK rfl (does_run (run_loadN (n := 3) rfl Try.underlying42 rfl kr (kv (.pointer (some ⟨b335, of336 + (x312 : Int).toNat * 3, none⟩))) (cs := [.int .i64 ((rd (rd ([a1, b5] : List (List S_Spot)) x210) x312).X), .int .i64 ((rd (rd ([a1, b5] : List (List S_Spot)) x210) x312).Y), .int .i64 ((rd (rd ([a1, b5] : List (List S_Spot)) x210) x312).Light)]) rfl (fun j_ hj_ => ((hc334 fL HS310) j_ hj_))) ?_)
     refine seqK rfl (does_alloc (z := Value.agg #[.int .i64 0, .int .i64 0, .int .i64 0]) (cs := #[.int .i64 0, .int .i64 0, .int .i64 0]) rfl kr rfl HS310 ?_)
     intro b338 W339 HS340
     refine seqK rfl (does_storeA (vs := [.int .i64 ((rd (rd ([a1, b5] : List (List S_Spot)) x210) x312).X), .int .i64 ((rd (rd ([a1, b5] : List (List S_Spot)) x210) x312).Y), .int .i64 ((rd (rd ([a1, b5] : List (List S_Spot)) x210) x312).Light)]) rfl kr kr kr rfl (ones rfl) HS340 kr ?_)
     intro W342 HS343
     refine nl (hK330 _ _ ?_)
     have HS344 := HS343.u1
     refine heldG (S := Sg t f307 ([(b338, .cells #[.int .i64 ((rd (rd ([a1, b5] : List (List S_Spot)) x210) x312).X), .int .i64 ((rd (rd ([a1, b5] : List (List S_Spot)) x210) x312).Y), .int .i64 ((rd (rd ([a1, b5] : List (List S_Spot)) x210) x312).Light)] 42 (0, 0))] :: H) [(10, [(b13, mobjA (Value.int .i64) x313)])]) (n := 13) kr rfl HS344 ?_
     intro W345 HS346
     refine takeGL [0, 1] (n := 13) (fuel := 11) #[true, true, false, false, false, false, false, false, false, false, false, false, false] rfl kr kr kr (fun ch_ a_ w_ q_ => (fun ch_ a_ w_ q_ => (fun ch_ a_ w_ q_ => (fun ch_ a_ w_ q_ => hnp ch_ a_ w_ (hp26 ch_ a_ w_ q_)) ch_ a_ w_ (hp225 ch_ a_ w_ q_)) ch_ a_ w_ (hp241 ch_ a_ w_ q_)) ch_ a_ w_ (hp327 ch_ a_ w_ q_)) (Sg.g1 (Sx.of [[(b13, mobjA (Value.int .i64) x313)]] fL HS346) (fun _ => St.only [] HS346 fL)) ?_
     refine takeGQ 2 [] rfl kr kr kr kr kr kr (fun ch_ a_ w_ q_ => (fun ch_ a_ w_ q_ => (fun ch_ a_ w_ q_ => (fun ch_ a_ w_ q_ => hnp ch_ a_ w_ (hp26 ch_ a_ w_ q_)) ch_ a_ w_ (hp225 ch_ a_ w_ q_)) ch_ a_ w_ (hp241 ch_ a_ w_ q_)) ch_ a_ w_ (hp327 ch_ a_ w_ q_)) (Sg.g1 (Sx.of [[(b13, mobjA (Value.int .i64) x313)]] fL HS346) (fun _ => St.only [] HS346 fL)) (fun w_ hw_ => by obtain ⟨g_, hl_, hS_⟩ := hw_.st; exact run_load rfl Try.underlying3 rfl (kv (.pointer (some ⟨b338, 1, none⟩))) (hS_.cell 1)) ?_
     refine takeGL [3] (n := 10) (fuel := 9) #[true, true, true, true, false, false, false, false, false, false, false, false, false] rfl kr kr kr (fun ch_ a_ w_ q_ => (fun ch_ a_ w_ q_ => (fun ch_ a_ w_ q_ => (fun ch_ a_ w_ q_ => hnp ch_ a_ w_ (hp26 ch_ a_ w_ q_)) ch_ a_ w_ (hp225 ch_ a_ w_ q_)) ch_ a_ w_ (hp241 ch_ a_ w_ q_)) ch_ a_ w_ (hp327 ch_ a_ w_ q_)) (Sg.g1 (Sx.of [[(b13, mobjA (Value.int .i64) x313)]] fL HS346) (fun _ => St.only [] HS346 fL)) ?_
     refine takeGQ 4 [] rfl kr kr kr kr kr kr (fun ch_ a_ w_ q_ => (fun ch_ a_ w_ q_ => (fun ch_ a_ w_ q_ => (fun ch_ a_ w_ q_ => hnp ch_ a_ w_ (hp26 ch_ a_ w_ q_)) ch_ a_ w_ (hp225 ch_ a_ w_ q_)) ch_ a_ w_ (hp241 ch_ a_ w_ q_)) ch_ a_ w_ (hp327 ch_ a_ w_ q_)) (Sg.g1 (Sx.of [[(b13, mobjA (Value.int .i64) x313)]] fL HS346) (fun _ => St.only [] HS346 fL)) (fun w_ hw_ => by obtain ⟨g_, hl_, hS_⟩ := hw_.st; exact run_load rfl Try.underlying3 rfl (kv (.pointer (some ⟨b338, 0, none⟩))) (hS_.cell 0)) ?_
     refine takeGL [5, 7] (n := 8) (fuel := 6) #[true, true, true, true, true, true, false, true, false, false, false, false, false] rfl kr kr kr (fun ch_ a_ w_ q_ => (fun ch_ a_ w_ q_ => (fun ch_ a_ w_ q_ => (fun ch_ a_ w_ q_ => hnp ch_ a_ w_ (hp26 ch_ a_ w_ q_)) ch_ a_ w_ (hp225 ch_ a_ w_ q_)) ch_ a_ w_ (hp241 ch_ a_ w_ q_)) ch_ a_ w_ (hp327 ch_ a_ w_ q_)) (Sg.g1 (Sx.of [[(b13, mobjA (Value.int .i64) x313)]] fL HS346) (fun _ => St.only [] HS346 fL)) ?_
     refine takeGQ 8 [] rfl kr kr kr kr kr kr (fun ch_ a_ w_ q_ => (fun ch_ a_ w_ q_ => (fun ch_ a_ w_ q_ => (fun ch_ a_ w_ q_ => hnp ch_ a_ w_ (hp26 ch_ a_ w_ q_)) ch_ a_ w_ (hp225 ch_ a_ w_ q_)) ch_ a_ w_ (hp241 ch_ a_ w_ q_)) ch_ a_ w_ (hp327 ch_ a_ w_ q_)) (Sg.g1 (Sx.of [[(b13, mobjA (Value.int .i64) x313)]] fL HS346) (fun _ => St.only [] HS346 fL)) (fun w_ hw_ => by obtain ⟨g_, hl_, hS_⟩ := hw_.st; exact run_load rfl Try.underlying38 rfl (kv (.pointer (some ⟨b338, 2, none⟩))) (hS_.cell 2)) ?_
     refine withR #[true, true, true, true, true, true, true, true, true, true, true, true, true] ?_
     intro R351 hR352 hR353
     have J354 : ∀  (W355 : World) (a_ : Act), St t W355 f307 ([(b13, mobjA (Value.int .i64) (aput x313 ((rd (rd ([a1, b5] : List (List S_Spot)) x210) x312).Y, (rd (rd ([a1, b5] : List (List S_Spot)) x210) x312).X) (w64 ((aget 0 x313 ((rd (rd ([a1, b5] : List (List S_Spot)) x210) x312).Y, (rd (rd ([a1, b5] : List (List S_Spot)) x210) x312).X)) + ((rd (rd ([a1, b5] : List (List S_Spot)) x210) x312).Light)))))] :: [(b338, .cells #[.int .i64 ((rd (rd ([a1, b5] : List (List S_Spot)) x210) x312).X), .int .i64 ((rd (rd ([a1, b5] : List (List S_Spot)) x210) x312).Y), .int .i64 ((rd (rd ([a1, b5] : List (List S_Spot)) x210) x312).Light)] 42 (0, 0))] :: H) → a_ = ⟨#[.slice A2 a1.length c3, .slice A6 b5.length c7, uV, uV, .slice none 0 0, .map (some b13), uV, .slice A230 (rd ([a1, b5] : List (List S_Spot)) x210).length c231, uV, pV b338 0, uV, uV, uV, .map (some b13), .slice A2 a1.length c3, .slice A6 b5.length c7, .agg #[.slice A2 a1.length c3, .slice A6 b5.length c7], iV x210, tV, .slice A230 (rd ([a1, b5] : List (List S_Spot)) x210).length c231, .slice A230 (rd ([a1, b5] : List (List S_Spot)) x210).length c231, iV ((rd ([a1, b5] : List (List S_Spot)) x210).length : Int), iV x312, tV, pV b335 (of336 + (x312 : Int).toNat * 3), (ag_Spot (rd (rd ([a1, b5] : List (List S_Spot)) x210) x312)), .map (some b13), pV b338 1, iV ((rd (rd ([a1, b5] : List (List S_Spot)) x210) x312).Y), pV b338 0, iV ((rd (rd ([a1, b5] : List (List S_Spot)) x210) x312).X), .agg #[iV ((rd (rd ([a1, b5] : List (List S_Spot)) x210) x312).Y), iV ((rd (rd ([a1, b5] : List (List S_Spot)) x210) x312).X)], iV (aget 0 x313 ((rd (rd ([a1, b5] : List (List S_Spot)) x210) x312).Y, (rd (rd ([a1, b5] : List (List S_Spot)) x210) x312).X)), pV b338 2, iV ((rd (rd ([a1, b5] : List (List S_Spot)) x210) x312).Light), iV (w64 ((aget 0 x313 ((rd (rd ([a1, b5] : List (List S_Spot)) x210) x312).Y, (rd (rd ([a1, b5] : List (List S_Spot)) x210) x312).X)) + ((rd (rd ([a1, b5] : List (List S_Spot)) x210) x312).Light))), .tuple #[iV (aget 0 x313 ((rd (rd ([a1, b5] : List (List S_Spot)) x210) x312).Y, (rd (rd ([a1, b5] : List (List S_Spot)) x210) x312).X)), iV (aidx x313 ((rd (rd ([a1, b5] : List (List S_Spot)) x210) x312).Y, (rd (rd ([a1, b5] : List (List S_Spot)) x210) x312).X) : Int)], iV (aidx x313 ((rd (rd ([a1, b5] : List (List S_Spot)) x210) x312).Y, (rd (rd ([a1, b5] : List (List S_Spot)) x210) x312).X) : Int), (j311 16), (j209 23), uV, uV, uV, uV, uV, uV, uV, uV, uV, uV, uV, uV, uV, uV, uV, uV, uV, uV, uV, uV, uV, uV, uV, uV, uV], []⟩ → R351 a_ W355 := by
      intro  W355 a_  HS356 hfr_; subst hfr_
      refine hR352 _ _ ?_
      refine doneG kr ?_ _
      refine hn324 _ _ ?_
      refine hK321 _ _ ?_
      refine rl ?_
      refine seqL2 kr ?_
      refine nl ?_
      refine hK305 n306 _ _ (Nat.lt_succ_self _) ?_
      have HS374 := HS356.u1
      have HS375 := HS374.drop
      exact ⟨f307, (w64 (x312 + 1)), (aput x313 ((rd (rd ([a1, b5] : List (List S_Spot)) x210) x312).Y, (rd (rd ([a1, b5] : List (List S_Spot)) x210) x312).X) (w64 ((aget 0 x313 ((rd (rd ([a1, b5] : List (List S_Spot)) x210) x312).Y, (rd (rd ([a1, b5] : List (List S_Spot)) x210) x312).X)) + ((rd (rd ([a1, b5] : List (List S_Spot)) x210) x312).Light)))), (jL [.pointer (some ⟨b338, 0, none⟩), tV, .pointer (some ⟨b335, of336 + (x312 : Int).toNat * 3, none⟩), (ag_Spot (rd (rd ([a1, b5] : List (List S_Spot)) x210) x312)), .map (some b13), .pointer (some ⟨b338, 1, none⟩), iV ((rd (rd ([a1, b5] : List (List S_Spot)) x210) x312).Y), .pointer (some ⟨b338, 0, none⟩), iV ((rd (rd ([a1, b5] : List (List S_Spot)) x210) x312).X), .agg #[.int .i64 ((rd (rd ([a1, b5] : List (List S_Spot)) x210) x312).Y), .int .i64 ((rd (rd ([a1, b5] : List (List S_Spot)) x210) x312).X)], iV (aget 0 x313 ((rd (rd ([a1, b5] : List (List S_Spot)) x210) x312).Y, (rd (rd ([a1, b5] : List (List S_Spot)) x210) x312).X)), .pointer (some ⟨b338, 2, none⟩), iV ((rd (rd ([a1, b5] : List (List S_Spot)) x210) x312).Light), iV (w64 ((aget 0 x313 ((rd (rd ([a1, b5] : List (List S_Spot)) x210) x312).Y, (rd (rd ([a1, b5] : List (List S_Spot)) x210) x312).X)) + ((rd (rd ([a1, b5] : List (List S_Spot)) x210) x312).Light))), .tuple #[.int .i64 (aget 0 x313 ((rd (rd ([a1, b5] : List (List S_Spot)) x210) x312).Y, (rd (rd ([a1, b5] : List (List S_Spot)) x210) x312).X)), .int .i64 (aidx x313 ((rd (rd ([a1, b5] : List (List S_Spot)) x210) x312).Y, (rd (rd ([a1, b5] : List (List S_Spot)) x210) x312).X) : Int)], iV (aidx x313 ((rd (rd ([a1, b5] : List (List S_Spot)) x210) x312).Y, (rd (rd ([a1, b5] : List (List S_Spot)) x210) x312).X) : Int), iV (w64 (x312 + 1))]), L308, HS375, h, kr⟩
     refine takeEither 6 10 kr rfl rfl rfl rfl ?_ ?_
     · refine does_run (run_lookupA (vf := (Value.int .i64)) (k := ((rd (rd ([a1, b5] : List (List S_Spot)) x210) x312).Y, (rd (rd ([a1, b5] : List (List S_Spot)) x210) x312).X)) (z := 0) rfl Try.underlying71 arrK kr (kv (.map (some b13))) (by kernel_rfl : _ = kA ((rd (rd ([a1, b5] : List (List S_Spot)) x210) x312).Y, (rd (rd ([a1, b5] : List (List S_Spot)) x210) x312).X)) (HS346.blk)) ?_
       refine ⟨(Sg.g1 (Sx.of [[(b13, mobjA (Value.int .i64) x313)]] fL HS346) (fun _ => St.only [] HS346 fL)), ?_⟩
       refine takeGL [9] (n := 4) (fuel := 3) #[true, true, true, true, true, true, true, true, true, true, false, false, false] rfl kr kr kr (fun ch_ a_ w_ q_ => (fun ch_ a_ w_ q_ => (fun ch_ a_ w_ q_ => (fun ch_ a_ w_ q_ => hnp ch_ a_ w_ (hp26 ch_ a_ w_ q_)) ch_ a_ w_ (hp225 ch_ a_ w_ q_)) ch_ a_ w_ (hp241 ch_ a_ w_ q_)) ch_ a_ w_ (hp327 ch_ a_ w_ q_)) (Sg.g1 (Sx.of [[(b13, mobjA (Value.int .i64) x313)]] fL HS346) (fun _ => St.only [] HS346 fL)) ?_
       refine takeGE 10 kr rfl kr (does_mapEntryA (vf := (Value.int .i64)) (k := ((rd (rd ([a1, b5] : List (List S_Spot)) x210) x312).Y, (rd (rd ([a1, b5] : List (List S_Spot)) x210) x312).X)) (z := 0) rfl Try.underlying71 arrK kr (kv (.map (some b13))) (by kernel_rfl : _ = kA ((rd (rd ([a1, b5] : List (List S_Spot)) x210) x312).Y, (rd (rd ([a1, b5] : List (List S_Spot)) x210) x312).X)) HS346 ?_)
       intro W357 HS358
       refine ⟨(Sg.g1 (Sx.of [[(b13, mobjA (Value.int .i64) (aput x313 ((rd (rd ([a1, b5] : List (List S_Spot)) x210) x312).Y, (rd (rd ([a1, b5] : List (List S_Spot)) x210) x312).X) (aget 0 x313 ((rd (rd ([a1, b5] : List (List S_Spot)) x210) x312).Y, (rd (rd ([a1, b5] : List (List S_Spot)) x210) x312).X))))]] fL HS358) (fun hl_ => Bool.noConfusion (show true = false from hl_))), ?_⟩
       refine takeGL [11] (n := 2) (fuel := 1) #[true, true, true, true, true, true, true, true, true, true, true, true, false] rfl kr kr kr (fun ch_ a_ w_ q_ => (fun ch_ a_ w_ q_ => (fun ch_ a_ w_ q_ => (fun ch_ a_ w_ q_ => hnp ch_ a_ w_ (hp26 ch_ a_ w_ q_)) ch_ a_ w_ (hp225 ch_ a_ w_ q_)) ch_ a_ w_ (hp241 ch_ a_ w_ q_)) ch_ a_ w_ (hp327 ch_ a_ w_ q_)) (Sg.g1 (Sx.of [[(b13, mobjA (Value.int .i64) (aput x313 ((rd (rd ([a1, b5] : List (List S_Spot)) x210) x312).Y, (rd (rd ([a1, b5] : List (List S_Spot)) x210) x312).X) (aget 0 x313 ((rd (rd ([a1, b5] : List (List S_Spot)) x210) x312).Y, (rd (rd ([a1, b5] : List (List S_Spot)) x210) x312).X))))]] fL HS358) (fun hl_ => Bool.noConfusion (show true = false from hl_))) ?_
       refine takeGE 12 kr rfl kr (does_entryStoreA (vf := (Value.int .i64)) (m := x313) (k := ((rd (rd ([a1, b5] : List (List S_Spot)) x210) x312).Y, (rd (rd ([a1, b5] : List (List S_Spot)) x210) x312).X)) (z := (aget 0 x313 ((rd (rd ([a1, b5] : List (List S_Spot)) x210) x312).Y, (rd (rd ([a1, b5] : List (List S_Spot)) x210) x312).X))) (v := w64 ((aget 0 x313 ((rd (rd ([a1, b5] : List (List S_Spot)) x210) x312).Y, (rd (rd ([a1, b5] : List (List S_Spot)) x210) x312).X)) + ((rd (rd ([a1, b5] : List (List S_Spot)) x210) x312).Light))) rfl (kv (.map (some b13))) (kv (.int .i64 (aidx x313 ((rd (rd ([a1, b5] : List (List S_Spot)) x210) x312).Y, (rd (rd ([a1, b5] : List (List S_Spot)) x210) x312).X) : Int))) (kv (.int .i64 (w64 ((aget 0 x313 ((rd (rd ([a1, b5] : List (List S_Spot)) x210) x312).Y, (rd (rd ([a1, b5] : List (List S_Spot)) x210) x312).X)) + ((rd (rd ([a1, b5] : List (List S_Spot)) x210) x312).Light))))) HS358 ?_)
       intro W359 HS360
       refine ⟨(Sg.g1 (Sx.of [[(b13, mobjA (Value.int .i64) (aput x313 ((rd (rd ([a1, b5] : List (List S_Spot)) x210) x312).Y, (rd (rd ([a1, b5] : List (List S_Spot)) x210) x312).X) (w64 ((aget 0 x313 ((rd (rd ([a1, b5] : List (List S_Spot)) x210) x312).Y, (rd (rd ([a1, b5] : List (List S_Spot)) x210) x312).X)) + ((rd (rd ([a1, b5] : List (List S_Spot)) x210) x312).Light)))))]] fL HS360) (fun hl_ => Bool.noConfusion (show true = false from hl_))), ?_⟩
       refine hR353 _ _ ?_
       exact J354  W359 _  HS360 kr
     · refine does_mapEntryA (vf := (Value.int .i64)) (k := ((rd (rd ([a1, b5] : List (List S_Spot)) x210) x312).Y, (rd (rd ([a1, b5] : List (List S_Spot)) x210) x312).X)) (z := 0) rfl Try.underlying71 arrK kr (kv (.map (some b13))) (by kernel_rfl : _ = kA ((rd (rd ([a1, b5] : List (List S_Spot)) x210) x312).Y, (rd (rd ([a1, b5] : List (List S_Spot)) x210) x312).X)) HS346 ?_
       intro W361 HS362
       refine ⟨(Sg.g1 (Sx.of [[(b13, mobjA (Value.int .i64) (aput x313 ((rd (rd ([a1, b5] : List (List S_Spot)) x210) x312).Y, (rd (rd ([a1, b5] : List (List S_Spot)) x210) x312).X) (aget 0 x313 ((rd (rd ([a1, b5] : List (List S_Spot)) x210) x312).Y, (rd (rd ([a1, b5] : List (List S_Spot)) x210) x312).X))))]] fL HS362) (fun hl_ => Bool.noConfusion (show true = false from hl_))), ?_⟩
       refine takeGL [11] (n := 4) (fuel := 3) #[true, true, true, true, true, true, false, true, true, false, true, true, false] rfl kr kr kr (fun ch_ a_ w_ q_ => (fun ch_ a_ w_ q_ => (fun ch_ a_ w_ q_ => (fun ch_ a_ w_ q_ => hnp ch_ a_ w_ (hp26 ch_ a_ w_ q_)) ch_ a_ w_ (hp225 ch_ a_ w_ q_)) ch_ a_ w_ (hp241 ch_ a_ w_ q_)) ch_ a_ w_ (hp327 ch_ a_ w_ q_)) (Sg.g1 (Sx.of [[(b13, mobjA (Value.int .i64) (aput x313 ((rd (rd ([a1, b5] : List (List S_Spot)) x210) x312).Y, (rd (rd ([a1, b5] : List (List S_Spot)) x210) x312).X) (aget 0 x313 ((rd (rd ([a1, b5] : List (List S_Spot)) x210) x312).Y, (rd (rd ([a1, b5] : List (List S_Spot)) x210) x312).X))))]] fL HS362) (fun hl_ => Bool.noConfusion (show true = false from hl_))) ?_
       refine takeGE 6 kr rfl kr (does_run (run_lookupA2 (vf := (Value.int .i64)) (m := x313) (k := ((rd (rd ([a1, b5] : List (List S_Spot)) x210) x312).Y, (rd (rd ([a1, b5] : List (List S_Spot)) x210) x312).X)) (z := 0) (u := (aget 0 x313 ((rd (rd ([a1, b5] : List (List S_Spot)) x210) x312).Y, (rd (rd ([a1, b5] : List (List S_Spot)) x210) x312).X))) rfl Try.underlying71 arrK kr (kv (.map (some b13))) (by kernel_rfl : _ = kA ((rd (rd ([a1, b5] : List (List S_Spot)) x210) x312).Y, (rd (rd ([a1, b5] : List (List S_Spot)) x210) x312).X)) (HS362.blk)) ?_)
       refine ⟨(Sg.g1 (Sx.of [[(b13, mobjA (Value.int .i64) (aput x313 ((rd (rd ([a1, b5] : List (List S_Spot)) x210) x312).Y, (rd (rd ([a1, b5] : List (List S_Spot)) x210) x312).X) (aget 0 x313 ((rd (rd ([a1, b5] : List (List S_Spot)) x210) x312).Y, (rd (rd ([a1, b5] : List (List S_Spot)) x210) x312).X))))]] fL HS362) (fun hl_ => Bool.noConfusion (show true = false from hl_))), ?_⟩
       refine takeGL [9] (n := 2) (fuel := 1) #[true, true, true, true, true, true, true, true, true, true, true, true, false] rfl kr kr kr (fun ch_ a_ w_ q_ => (fun ch_ a_ w_ q_ => (fun ch_ a_ w_ q_ => (fun ch_ a_ w_ q_ => hnp ch_ a_ w_ (hp26 ch_ a_ w_ q_)) ch_ a_ w_ (hp225 ch_ a_ w_ q_)) ch_ a_ w_ (hp241 ch_ a_ w_ q_)) ch_ a_ w_ (hp327 ch_ a_ w_ q_)) (Sg.g1 (Sx.of [[(b13, mobjA (Value.int .i64) (aput x313 ((rd (rd ([a1, b5] : List (List S_Spot)) x210) x312).Y, (rd (rd ([a1, b5] : List (List S_Spot)) x210) x312).X) (aget 0 x313 ((rd (rd ([a1, b5] : List (List S_Spot)) x210) x312).Y, (rd (rd ([a1, b5] : List (List S_Spot)) x210) x312).X))))]] fL HS362) (fun hl_ => Bool.noConfusion (show true = false from hl_))) ?_
       refine takeGE 12 kr rfl kr (does_entryStoreA (vf := (Value.int .i64)) (m := x313) (k := ((rd (rd ([a1, b5] : List (List S_Spot)) x210) x312).Y, (rd (rd ([a1, b5] : List (List S_Spot)) x210) x312).X)) (z := (aget 0 x313 ((rd (rd ([a1, b5] : List (List S_Spot)) x210) x312).Y, (rd (rd ([a1, b5] : List (List S_Spot)) x210) x312).X))) (v := w64 ((aget 0 x313 ((rd (rd ([a1, b5] : List (List S_Spot)) x210) x312).Y, (rd (rd ([a1, b5] : List (List S_Spot)) x210) x312).X)) + ((rd (rd ([a1, b5] : List (List S_Spot)) x210) x312).Light))) rfl (kv (.map (some b13))) (kv (.int .i64 (aidx x313 ((rd (rd ([a1, b5] : List (List S_Spot)) x210) x312).Y, (rd (rd ([a1, b5] : List (List S_Spot)) x210) x312).X) : Int))) (kv (.int .i64 (w64 ((aget 0 x313 ((rd (rd ([a1, b5] : List (List S_Spot)) x210) x312).Y, (rd (rd ([a1, b5] : List (List S_Spot)) x210) x312).X)) + ((rd (rd ([a1, b5] : List (List S_Spot)) x210) x312).Light))))) HS362 ?_)
       intro W363 HS364
       refine ⟨(Sg.g1 (Sx.of [[(b13, mobjA (Value.int .i64) (aput x313 ((rd (rd ([a1, b5] : List (List S_Spot)) x210) x312).Y, (rd (rd ([a1, b5] : List (List S_Spot)) x210) x312).X) (w64 ((aget 0 x313 ((rd (rd ([a1, b5] : List (List S_Spot)) x210) x312).Y, (rd (rd ([a1, b5] : List (List S_Spot)) x210) x312).X)) + ((rd (rd ([a1, b5] : List (List S_Spot)) x210) x312).Light)))))]] fL HS364) (fun hl_ => Bool.noConfusion (show true = false from hl_))), ?_⟩
       refine hR353 _ _ ?_
       exact J354  W363 _  HS364 kr
   · have c319 : ¬ (x312 < ((rd ([a1, b5] : List (List S_Spot)) x210).length : Int)) := c319
     refine wpRwI 23 kr (decide_eq_false c319) ?_
     refine condF kr ?_
     refine wp_exit ?_
     refine hx237 _ _ ?_
     exact J372 f307 x313 (jL [(j311 0), iV x312, fV, (j311 2), (j311 3), (j311 4), (j311 5), (j311 6), (j311 7), (j311 8), (j311 9), (j311 10), (j311 11), (j311 12), (j311 13), (j311 14), (j311 15), (j311 16)]) W309 _ L308 h HS310 kr
 · have c217 : ¬ (x210 < 2) := c217
   refine wpRwI 18 kr (decide_eq_false c217) ?_
   refine condF kr ?_
   refine wp_exit ?_
   refine hx22 _ _ ?_
   exact J383 f205 x211 (jL [(j209 0), (j209 1), iV x210, fV, (j209 3), (j209 4), (j209 5), (j209 6), (j209 7), (j209 8), (j209 9), (j209 10), (j209 11), (j209 12), (j209 13), (j209 14), (j209 15), (j209 16), (j209 17), (j209 18), (j209 19), (j209 20), (j209 21), (j209 22), (j209 23)]) W207 _ L206 h HS208 kr

end Go.Sp.X4
