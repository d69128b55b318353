import Derived.Test.YtpdemjoehkgohaaSpMapR
import Derived.Test.YtpdemjoehkgohaaSpCopy
namespace Go.Sp.M4
open Go Go.Sp
set_option linter.unusedVariables false
structure S_Stream where
  L : List Int
  vat : Int
instance : Inhabited S_Stream := ⟨⟨default, default⟩⟩
structure S_Bound where
  Lo : Int
  Hi : Int
  Unknown : Bool
instance : Inhabited S_Bound := ⟨⟨default, default, default⟩⟩
structure S_Box where
  X : S_Bound
  Y : S_Bound
  Z : S_Bound
instance : Inhabited S_Box := ⟨⟨default, default, default⟩⟩
structure S_Row where
  ID : Int
  Box : S_Box
  Flux : S_Bound
  When : S_Bound
  Frames : List Int
  Marks : Int
instance : Inhabited S_Row := ⟨⟨default, default, default, default, default, default⟩⟩
structure S_Vec where
  X : Int
  Y : Int
  Z : Int
instance : Inhabited S_Vec := ⟨⟨default, default, default⟩⟩
structure S_Change where
  Kind : Int
  Row : S_Row
instance : Inhabited S_Change := ⟨⟨default, default⟩⟩
structure S_Catalog where
  Commits : List (List S_Change)
instance : Inhabited S_Catalog := ⟨⟨default⟩⟩
def zero_Row : S_Row := (⟨0, (⟨(⟨0, 0, false⟩ : S_Bound), (⟨0, 0, false⟩ : S_Bound), (⟨0, 0, false⟩ : S_Bound)⟩ : S_Box), (⟨0, 0, false⟩ : S_Bound), (⟨0, 0, false⟩ : S_Bound), ([] : List Int), 0⟩ : S_Row)
def spymake_Below (k : Nat) (x1 : Int) (n2 : Int) : Option (Int) :=
  if n2 < 1 then (some 0) else (if ¬ (n2 = 0) then (if (Int.tmod x1 n2) < 0 then (some (w64 ((Int.tmod x1 n2) + n2))) else (some (Int.tmod x1 n2))) else none)
def spymake_Stream_Next (k : Nat) (s3 : S_Stream) (n7 : Int) : Option (Int × Int) :=
  if (s3.L.length : Int) = 0 then ((spymake_Below k (w64 ((w64 (s3.vat + 1)) * 7919)) n7).bind fun vt22 => (some (vt22, w64 (s3.vat + 1)))) else (if ¬ ((s3.L.length : Int) = 0) then (if 0 ≤ (Int.tmod (w64 ((w64 (s3.vat + 1)) - 1)) (s3.L.length : Int)) then (if (Int.tmod (w64 ((w64 (s3.vat + 1)) - 1)) (s3.L.length : Int)) < (s3.L.length : Int) then ((spymake_Below k (rd s3.L (Int.tmod (w64 ((w64 (s3.vat + 1)) - 1)) (s3.L.length : Int))) 1073741824).bind fun vt47 => ((spymake_Below k (w64 (vt47 + (w64 ((w64 (Int.tdiv (w64 ((w64 (s3.vat + 1)) - 1)) (s3.L.length : Int))) * (w64 (7919 + (Int.tmod (w64 ((w64 (s3.vat + 1)) - 1)) (s3.L.length : Int)))))))) n7).bind fun vt53 => (some (vt53, w64 (s3.vat + 1))))) else none) else none) else none)
def spymake_Stream_Range (k : Nat) (s3 : S_Stream) (low7 : Int) (high8 : Int) : Option (Int × Int) :=
  if high8 < low7 then (some (low7, s3.vat)) else ((spymake_Stream_Next k s3 (w64 ((w64 (high8 - low7)) + 1))).bind fun (vt21, vt22) => (some (w64 (low7 + vt21), vt22)))
def spymake_Stream_Vec (k : Nat) (s3 : S_Stream) : Option (S_Vec × Int) :=
  (spymake_Stream_Next k s3 4).bind fun (vt22, vt23) => (if 0 ≤ vt22 then (if vt22 < (([3, 100, 5000, 1048576] : List Int).length : Int) then ((spymake_Stream_Range k (⟨s3.L, vt23⟩ : S_Stream) (w64 (0 - (rd ([3, 100, 5000, 1048576] : List Int) vt22))) (rd ([3, 100, 5000, 1048576] : List Int) vt22)).bind fun (vt36, vt37) => ((spymake_Stream_Range k (⟨s3.L, vt37⟩ : S_Stream) (w64 (0 - (rd ([3, 100, 5000, 1048576] : List Int) vt22))) (rd ([3, 100, 5000, 1048576] : List Int) vt22)).bind fun (vt43, vt44) => ((spymake_Stream_Range k (⟨s3.L, vt44⟩ : S_Stream) (w64 (0 - (rd ([3, 100, 5000, 1048576] : List Int) vt22))) (rd ([3, 100, 5000, 1048576] : List Int) vt22)).bind fun (vt50, vt51) => (if ((vt36 == 0) && ((vt43 == 0) && ((vt50 == 0) && true))) = true then (some ((⟨1, vt43, vt50⟩ : S_Vec), vt51)) else (some ((⟨vt36, vt43, vt50⟩ : S_Vec), vt51)))))) else none) else none)
def spymake_Stream_Box_1 (k : Nat) (v7 : S_Stream) (v11 : Int) (c12 : Int) : Option (S_Bound × Int) :=
  (spymake_Stream_Next k v7 (w64 (v11 + 1))).bind fun (vt28, vt29) => ((spymake_Stream_Next k (⟨v7.L, vt29⟩ : S_Stream) (w64 (v11 + 1))).bind fun (vt35, vt36) => (some ((⟨w64 (c12 - vt28), w64 (c12 + vt35), false⟩ : S_Bound), vt36)))
def spymake_Stream_Box (k : Nat) (s3 : S_Stream) : Option (S_Box × Int) :=
  (spymake_Stream_Vec k s3).bind fun (vt20, vt21) => ((spymake_Stream_Next k (⟨s3.L, vt21⟩ : S_Stream) 10).bind fun (vt38, vt39) => (if vt38 = 0 then (some ((⟨(⟨0, 0, true⟩ : S_Bound), (⟨0, 0, true⟩ : S_Bound), (⟨0, 0, true⟩ : S_Bound)⟩ : S_Box), vt39)) else ((spymake_Stream_Next k (⟨s3.L, vt39⟩ : S_Stream) 4).bind fun (vt69, vt70) => (if 0 ≤ vt69 then (if vt69 < (([0, 2, 300, 262144] : List Int).length : Int) then ((spymake_Stream_Box_1 k (⟨s3.L, vt70⟩ : S_Stream) (rd ([0, 2, 300, 262144] : List Int) vt69) vt20.X).bind fun (vt102, vt103) => ((spymake_Stream_Box_1 k (⟨s3.L, vt103⟩ : S_Stream) (rd ([0, 2, 300, 262144] : List Int) vt69) vt20.Y).bind fun (vt118, vt119) => ((spymake_Stream_Box_1 k (⟨s3.L, vt119⟩ : S_Stream) (rd ([0, 2, 300, 262144] : List Int) vt69) vt20.Z).bind fun (vt134, vt135) => (some ((⟨vt102, vt118, vt134⟩ : S_Box), vt135))))) else none) else none))))
def spymake_Bound_Quanta (k : Nat) (s3 : S_Stream) (most7 : Int) : Option (S_Bound × Int) :=
  (spymake_Stream_Next k s3 8).bind fun (vt19, vt20) => (if vt19 = 0 then (some ((⟨0, 0, true⟩ : S_Bound), vt20)) else (if vt19 = 1 then ((spymake_Stream_Range k (⟨s3.L, vt20⟩ : S_Stream) (w64 (0 - most7)) most7).bind fun (vt48, vt49) => (some ((⟨vt48, vt48, false⟩ : S_Bound), vt49))) else ((spymake_Stream_Range k (⟨s3.L, vt20⟩ : S_Stream) (w64 (0 - most7)) most7).bind fun (vt62, vt63) => ((spymake_Stream_Range k (⟨s3.L, vt63⟩ : S_Stream) (w64 (0 - most7)) most7).bind fun (vt69, vt70) => (some ((⟨mn vt62 vt69, mx vt62 vt69, false⟩ : S_Bound), vt70))))))
def spymake_Bound_Tick (k : Nat) (s3 : S_Stream) (most7 : Int) : Option (S_Bound × Int) :=
  (spymake_Stream_Next k s3 8).bind fun (vt19, vt20) => (if vt19 = 0 then (some ((⟨0, 0, true⟩ : S_Bound), vt20)) else (if vt19 = 1 then ((spymake_Stream_Range k (⟨s3.L, vt20⟩ : S_Stream) (w64 (0 - most7)) most7).bind fun (vt48, vt49) => (some ((⟨vt48, vt48, false⟩ : S_Bound), vt49))) else ((spymake_Stream_Range k (⟨s3.L, vt20⟩ : S_Stream) (w64 (0 - most7)) most7).bind fun (vt62, vt63) => ((spymake_Stream_Range k (⟨s3.L, vt63⟩ : S_Stream) (w64 (0 - most7)) most7).bind fun (vt69, vt70) => (some ((⟨mn vt62 vt69, mx vt62 vt69, false⟩ : S_Bound), vt70))))))
def spymake_Stream_Row.l0 (k : Nat) (vt58 : Int) (s3 : S_Stream) : Nat → Int → Int → Int → (List Int) → Option (Int × (List Int))
  | 0, _, _, _, _ => none
  | n_ + 1, n135, x136, x137, x138 =>
    if x136 < vt58 then ((spymake_Stream_Range k (⟨s3.L, x137⟩ : S_Stream) 1 50).bind fun (vt162, vt163) => (if (x138.length + 1) * 8 ≤ 140737488355328 then (spymake_Stream_Row.l0 k vt58 s3 n_ (w64 (n135 + vt162)) (w64 (x136 + 1)) vt163 (x138 ++ ([w64 (n135 + vt162)] : List Int))) else none)) else (some (x137, x138))
def spymake_Stream_Row (k : Nat) (s3 : S_Stream) (vid7 : Int) : Option (S_Row × Int) :=
  (spymake_Stream_Box k s3).bind fun (vt17, vt18) => ((spymake_Bound_Quanta k (⟨s3.L, vt18⟩ : S_Stream) 1000).bind fun (vt24, vt25) => ((spymake_Bound_Tick k (⟨s3.L, vt25⟩ : S_Stream) 5000).bind fun (vt31, vt32) => ((spymake_Stream_Next k (⟨s3.L, vt32⟩ : S_Stream) 4).bind fun (vt38, vt39) => ((spymake_Stream_Range k (⟨s3.L, vt39⟩ : S_Stream) 1 3).bind fun (vt58, vt59) => ((spymake_Stream_Row.l0 k vt58 s3 k 0 0 vt59 ([] : List Int)).bind fun (x192, x193) => (some ((⟨vid7, vt17, vt24, vt31, x193, vt38⟩ : S_Row), x192)))))))
def spymake_Stream_Rows.l0 (k : Nat) (vt18 : Int) (s3 : S_Stream) : Nat → (List S_Row) → Int → Int → Int → Option ((List S_Row) × Int)
  | 0, _, _, _, _ => none
  | n_ + 1, out113, vid119, x120, x121 =>
    if x120 < vt18 then ((spymake_Stream_Range k (⟨s3.L, x121⟩ : S_Stream) 1 4).bind fun (vt140, vt141) => ((spymake_Stream_Row k (⟨s3.L, vt141⟩ : S_Stream) (w64 (vid119 + vt140))).bind fun (vt147, vt148) => (if (out113.length + 1) * 160 ≤ 140737488355328 then (spymake_Stream_Rows.l0 k vt18 s3 n_ (out113 ++ ([vt147] : List S_Row)) (w64 (vid119 + vt140)) (w64 (x120 + 1)) vt148) else none))) else (some (out113, x121))
def spymake_Stream_Rows (k : Nat) (s3 : S_Stream) (most7 : Int) : Option ((List S_Row) × Int) :=
  (spymake_Stream_Next k s3 (w64 (most7 + 1))).bind fun (vt18, vt19) => ((spymake_Stream_Rows.l0 k vt18 s3 k ([] : List S_Row) 0 0 vt19).bind fun (out183, x189) => (some (out183, x189)))
def spykeep3_parted.l0 (k : Nat) (vt27 : List S_Row) (s3 : S_Stream) (clash7 : Bool) : Nat → Int → Int → (List S_Row) → (List S_Row) → (List S_Row) → Option (Int × (List S_Row) × (List S_Row) × (List S_Row))
  | 0, _, _, _, _, _ => none
  | n_ + 1, x776, x777, x778, x784, x790 =>
    if x776 < (vt27.length : Int) then (if 0 ≤ x776 then ((spymake_Stream_Next k (⟨s3.L, x777⟩ : S_Stream) 2).bind fun (vt859, vt860) => (((if vt859 = 0 then (if clash7 = true then ((spymake_Stream_Next k (⟨s3.L, vt860⟩ : S_Stream) 12).bind fun (vt880, vt881) => (((if vt880 = 0 then (if (x790.length + 1) * 160 ≤ 140737488355328 then (some ((Int.tmod (w64 (((rd vt27 x776).Marks) + 0)) 4), (x790 ++ ([(⟨(rd vt27 x776).ID, ((rd vt27 x776).Box), ((rd vt27 x776).Flux), ((rd vt27 x776).When), (rd vt27 x776).Frames, Int.tmod (w64 (((rd vt27 x776).Marks) + 0)) 4⟩ : S_Row)] : List S_Row)))) else none) else (if (x790.length + 1) * 160 ≤ 140737488355328 then (some (((rd vt27 x776).Marks), (x790 ++ ([(rd vt27 x776)] : List S_Row)))) else none) : Option (Int × (List S_Row)))).bind fun (x961, x962) => (some (vt881, x962)))) else (if (x790.length + 1) * 160 ≤ 140737488355328 then (some (vt860, (x790 ++ ([(rd vt27 x776)] : List S_Row)))) else none)) else (some (vt860, x790)) : Option (Int × (List S_Row)))).bind fun (x1026, x1027) => ((spymake_Stream_Next k (⟨s3.L, x1026⟩ : S_Stream) 2).bind fun (vt1077, vt1078) => (((if vt1077 = 0 then (if clash7 = true then ((spymake_Stream_Next k (⟨s3.L, vt1078⟩ : S_Stream) 12).bind fun (vt1098, vt1099) => (((if vt1098 = 0 then (if (x784.length + 1) * 160 ≤ 140737488355328 then (some ((Int.tmod (w64 (((rd vt27 x776).Marks) + 1)) 4), (x784 ++ ([(⟨(rd vt27 x776).ID, ((rd vt27 x776).Box), ((rd vt27 x776).Flux), ((rd vt27 x776).When), (rd vt27 x776).Frames, Int.tmod (w64 (((rd vt27 x776).Marks) + 1)) 4⟩ : S_Row)] : List S_Row)))) else none) else (if (x784.length + 1) * 160 ≤ 140737488355328 then (some (((rd vt27 x776).Marks), (x784 ++ ([(rd vt27 x776)] : List S_Row)))) else none) : Option (Int × (List S_Row)))).bind fun (x1179, x1180) => (some (vt1099, x1180)))) else (if (x784.length + 1) * 160 ≤ 140737488355328 then (some (vt1078, (x784 ++ ([(rd vt27 x776)] : List S_Row)))) else none)) else (some (vt1078, x784)) : Option (Int × (List S_Row)))).bind fun (x1246, x1247) => ((spymake_Stream_Next k (⟨s3.L, x1246⟩ : S_Stream) 2).bind fun (vt1298, vt1299) => (((if vt1298 = 0 then (if clash7 = true then ((spymake_Stream_Next k (⟨s3.L, vt1299⟩ : S_Stream) 12).bind fun (vt1319, vt1320) => (((if vt1319 = 0 then (if (x778.length + 1) * 160 ≤ 140737488355328 then (some ((Int.tmod (w64 (((rd vt27 x776).Marks) + 2)) 4), (x778 ++ ([(⟨(rd vt27 x776).ID, ((rd vt27 x776).Box), ((rd vt27 x776).Flux), ((rd vt27 x776).When), (rd vt27 x776).Frames, Int.tmod (w64 (((rd vt27 x776).Marks) + 2)) 4⟩ : S_Row)] : List S_Row)))) else none) else (if (x778.length + 1) * 160 ≤ 140737488355328 then (some (((rd vt27 x776).Marks), (x778 ++ ([(rd vt27 x776)] : List S_Row)))) else none) : Option (Int × (List S_Row)))).bind fun (x1400, x1401) => (some (vt1320, x1401)))) else (if (x778.length + 1) * 160 ≤ 140737488355328 then (some (vt1299, (x778 ++ ([(rd vt27 x776)] : List S_Row)))) else none)) else (some (vt1299, x778)) : Option (Int × (List S_Row)))).bind fun (x1467, x1468) => (spykeep3_parted.l0 k vt27 s3 clash7 n_ (w64 (x776 + 1)) x1467 x1468 x1247 x1027))))))) else none) else (some (x777, x778, x784, x790))
def spykeep3_parted (k : Nat) (s3 : S_Stream) (clash7 : Bool) : Option ((List S_Row) × (List S_Row) × (List S_Row) × Int) :=
  (spymake_Stream_Rows k s3 9).bind fun (vt27, vt28) => ((spykeep3_parted.l0 k vt27 s3 clash7 k 0 vt28 ([] : List S_Row) ([] : List S_Row) ([] : List S_Row)).bind fun (x1511, x1512, x1518, x1524) => (some (x1524, x1518, x1512, x1511)))
def bound_Check_Coord (k : Nat) (b1 : S_Bound) : Option (Int) :=
  if b1.Unknown = true then (if b1.Lo ≠ 0 then (some 3) else (if b1.Hi ≠ 0 then (some 3) else (if (mn b1.Lo b1.Hi) < (-1152921504606846976) then (some 4) else (if (mx b1.Lo b1.Hi) > 1152921504606846976 then (some 4) else (if b1.Lo > b1.Hi then (some 11) else (some 0)))))) else (if (mn b1.Lo b1.Hi) < (-1152921504606846976) then (some 4) else (if (mx b1.Lo b1.Hi) > 1152921504606846976 then (some 4) else (if b1.Lo > b1.Hi then (some 11) else (some 0))))
def catalog_ends_Coord (k : Nat) (b1 : S_Bound) (most2 : Int) : Option (Int) :=
  (bound_Check_Coord k b1).bind fun vt13 => (if vt13 ≠ 0 then (some vt13) else (if b1.Lo < (w64 (0 - most2)) then (some 4) else (if b1.Hi > most2 then (some 4) else (some 0))))
def bound_Check_Quanta (k : Nat) (b1 : S_Bound) : Option (Int) :=
  if b1.Unknown = true then (if b1.Lo ≠ 0 then (some 3) else (if b1.Hi ≠ 0 then (some 3) else (if (mn b1.Lo b1.Hi) < (-1152921504606846976) then (some 4) else (if (mx b1.Lo b1.Hi) > 1152921504606846976 then (some 4) else (if b1.Lo > b1.Hi then (some 11) else (some 0)))))) else (if (mn b1.Lo b1.Hi) < (-1152921504606846976) then (some 4) else (if (mx b1.Lo b1.Hi) > 1152921504606846976 then (some 4) else (if b1.Lo > b1.Hi then (some 11) else (some 0))))
def catalog_ends_Quanta (k : Nat) (b1 : S_Bound) (most2 : Int) : Option (Int) :=
  (bound_Check_Quanta k b1).bind fun vt13 => (if vt13 ≠ 0 then (some vt13) else (if b1.Lo < (w64 (0 - most2)) then (some 4) else (if b1.Hi > most2 then (some 4) else (some 0))))
def bound_Check_Tick (k : Nat) (b1 : S_Bound) : Option (Int) :=
  if b1.Unknown = true then (if b1.Lo ≠ 0 then (some 3) else (if b1.Hi ≠ 0 then (some 3) else (if (mn b1.Lo b1.Hi) < (-1152921504606846976) then (some 4) else (if (mx b1.Lo b1.Hi) > 1152921504606846976 then (some 4) else (if b1.Lo > b1.Hi then (some 11) else (some 0)))))) else (if (mn b1.Lo b1.Hi) < (-1152921504606846976) then (some 4) else (if (mx b1.Lo b1.Hi) > 1152921504606846976 then (some 4) else (if b1.Lo > b1.Hi then (some 11) else (some 0))))
def catalog_ends_Tick (k : Nat) (b1 : S_Bound) (most2 : Int) : Option (Int) :=
  (bound_Check_Tick k b1).bind fun vt13 => (if vt13 ≠ 0 then (some vt13) else (if b1.Lo < (w64 (0 - most2)) then (some 4) else (if b1.Hi > most2 then (some 4) else (some 0))))
def cmp_Or_Errno.l0 (k : Nat) (vals1 : List Int) : Nat → Int → Option (Sum Int Unit)
  | 0, _ => none
  | n_ + 1, x28 =>
    if x28 < (vals1.length : Int) then (if 0 ≤ x28 then (if (rd vals1 x28) ≠ 0 then (some (Sum.inl (rd vals1 x28))) else (cmp_Or_Errno.l0 k vals1 n_ (w64 (x28 + 1)))) else none) else (some (Sum.inr ()))
def cmp_Or_Errno (k : Nat) (vals1 : List Int) : Option (Int) :=
  (cmp_Or_Errno.l0 k vals1 k 0).bind fun z_ => Sum.elim (fun y_ => some y_) (fun _ => (some 0)) z_
def catalog_CheckRow.l0 (k : Nat) (r1 : S_Row) : Nat → Int → Option (Sum Int Unit)
  | 0, _ => none
  | n_ + 1, x41 =>
    if x41 < 3 then (if 0 ≤ x41 then ((catalog_ends_Coord k (rd [r1.Box.X, r1.Box.Y, r1.Box.Z] x41) 1073741824).bind fun vt68 => (if vt68 ≠ 0 then (some (Sum.inl vt68)) else (catalog_CheckRow.l0 k r1 n_ (w64 (x41 + 1))))) else none) else (some (Sum.inr ()))
def catalog_CheckRow.l1 (k : Nat) (r1 : S_Row) : Nat → Int → Option (Sum Int Unit)
  | 0, _ => none
  | n_ + 1, x176 =>
    if x176 < (r1.Frames.length : Int) then (if 0 ≤ x176 then (if (rd r1.Frames x176) < 1 then (some (Sum.inl 4)) else (if (rd r1.Frames x176) > 1048576 then (some (Sum.inl 4)) else (if x176 > 0 then (if 0 ≤ (w64 (x176 - 1)) then (if (w64 (x176 - 1)) < (r1.Frames.length : Int) then (if (rd r1.Frames x176) ≤ (rd r1.Frames (w64 (x176 - 1))) then (some (Sum.inl 11)) else (catalog_CheckRow.l1 k r1 n_ (w64 (x176 + 1)))) else none) else none) else (catalog_CheckRow.l1 k r1 n_ (w64 (x176 + 1)))))) else none) else (some (Sum.inr ()))
def catalog_CheckRow (k : Nat) (r1 : S_Row) : Option (Int) :=
  if r1.ID < 1 then (some 4) else (if r1.ID > 2147483647 then (some 4) else ((catalog_CheckRow.l0 k r1 k 0).bind fun z_ => Sum.elim (fun y_ => some y_) (fun _ => ((catalog_ends_Quanta k r1.Flux 1125899906842624).bind fun vt98 => ((catalog_ends_Tick k r1.When 17592186044416).bind fun vt104 => ((cmp_Or_Errno k ([vt98, vt104] : List Int)).bind fun vt121 => (if vt121 ≠ 0 then (some vt121) else (if (r1.Frames.length : Int) = 0 then (some 3) else (if (r1.Frames.length : Int) > 8 then (some 2) else ((catalog_CheckRow.l1 k r1 k 0).bind fun z_ => Sum.elim (fun y_ => some y_) (fun _ => (if r1.Marks < 0 then (some 4) else (if r1.Marks > 3 then (some 4) else (some 0)))) z_)))))))) z_))
def catalog_Check.l0 (k : Nat) (l1 : List S_Row) : Nat → Int → Option (Sum Int Unit)
  | 0, _ => none
  | n_ + 1, x34 =>
    if x34 < (l1.length : Int) then (if 0 ≤ x34 then ((catalog_CheckRow k (rd l1 x34)).bind fun vt70 => (if vt70 ≠ 0 then (some (Sum.inl vt70)) else (if x34 > 0 then (if 0 ≤ (w64 (x34 - 1)) then (if (w64 (x34 - 1)) < (l1.length : Int) then (if ((rd l1 x34).ID) ≤ ((rd l1 (w64 (x34 - 1))).ID) then (some (Sum.inl 11)) else (catalog_Check.l0 k l1 n_ (w64 (x34 + 1)))) else none) else none) else (catalog_Check.l0 k l1 n_ (w64 (x34 + 1)))))) else none) else (some (Sum.inr ()))
def catalog_Check (k : Nat) (l1 : List S_Row) : Option (Int) :=
  if (l1.length : Int) > 200 then (some 2) else ((catalog_Check.l0 k l1 k 0).bind fun z_ => Sum.elim (fun y_ => some y_) (fun _ => (some 0)) z_)
def catalog_Merge_1 (k : Nat) (v5 : List S_Row) (v11 : Int) (x15 : S_Row) : Option ((List S_Row)) :=
  if (v5.length + 1) * 160 ≤ 140737488355328 then (some (v5 ++ ([x15] : List S_Row))) else none
def catalog_Merge_1_2 (k : Nat) (v5 : List S_Row) (v11 : Int) (y15 : S_Row) : Option ((List S_Row)) :=
  if (v5.length + 1) * 160 ≤ 140737488355328 then (some (v5 ++ ([y15] : List S_Row))) else none
def slices_Equal_int.l0 (k : Nat) (s11 : List Int) (s25 : List Int) : Nat → Int → Option (Sum Bool Unit)
  | 0, _ => none
  | n_ + 1, x38 =>
    if x38 < (s11.length : Int) then (if 0 ≤ x38 then (if x38 < (s25.length : Int) then (if (rd s11 x38) ≠ (rd s25 x38) then (some (Sum.inl false)) else (slices_Equal_int.l0 k s11 s25 n_ (w64 (x38 + 1)))) else none) else none) else (some (Sum.inr ()))
def slices_Equal_int (k : Nat) (s11 : List Int) (s25 : List Int) : Option (Bool) :=
  if (s11.length : Int) ≠ (s25.length : Int) then (some false) else ((slices_Equal_int.l0 k s11 s25 k 0).bind fun z_ => Sum.elim (fun y_ => some y_) (fun _ => (some true)) z_)
def catalog_Same (k : Nat) (a1 : S_Row) (b5 : S_Row) : Option (Bool) :=
  if a1.ID = b5.ID then (if (((a1.Box.X.Lo == b5.Box.X.Lo) && ((a1.Box.X.Hi == b5.Box.X.Hi) && ((a1.Box.X.Unknown == b5.Box.X.Unknown) && true))) && (((a1.Box.Y.Lo == b5.Box.Y.Lo) && ((a1.Box.Y.Hi == b5.Box.Y.Hi) && ((a1.Box.Y.Unknown == b5.Box.Y.Unknown) && true))) && (((a1.Box.Z.Lo == b5.Box.Z.Lo) && ((a1.Box.Z.Hi == b5.Box.Z.Hi) && ((a1.Box.Z.Unknown == b5.Box.Z.Unknown) && true))) && true))) = true then (if ((a1.Flux.Lo == b5.Flux.Lo) && ((a1.Flux.Hi == b5.Flux.Hi) && ((a1.Flux.Unknown == b5.Flux.Unknown) && true))) = true then (if ((a1.When.Lo == b5.When.Lo) && ((a1.When.Hi == b5.When.Hi) && ((a1.When.Unknown == b5.When.Unknown) && true))) = true then (if a1.Marks = b5.Marks then ((slices_Equal_int k a1.Frames b5.Frames).bind fun vt26 => (some vt26)) else (some false)) else (some false)) else (some false)) else (some false)) else (some false)
def catalog_Merge_1_3 (k : Nat) (v5 : List S_Row) (v11 : Int) (x15 : S_Row) (y22 : S_Row) : Option ((List S_Row) × Int) :=
  (catalog_Same k x15 y22).bind fun vt41 => (if ¬ (vt41 = true) then (if (v5.length + 1) * 160 ≤ 140737488355328 then (some ((v5 ++ ([x15] : List S_Row)), 15)) else none) else (if (v5.length + 1) * 160 ≤ 140737488355328 then (some ((v5 ++ ([x15] : List S_Row)), v11)) else none))
def catalog_pairs__catalog_Merge_1.l0 (k : Nat) (a12 : List S_Row) (b16 : List S_Row) : Nat → Int → Int → (List S_Row) → Int → Option ((List S_Row) × Int)
  | 0, _, _, _, _ => none
  | n_ + 1, i476, j477, x478, x483 =>
    if i476 < (a12.length : Int) then (if j477 = (b16.length : Int) then (if 0 ≤ i476 then ((catalog_Merge_1 k x478 x483 (rd a12 i476)).bind fun vt521 => (catalog_pairs__catalog_Merge_1.l0 k a12 b16 n_ (w64 (i476 + 1)) j477 vt521 x483)) else none) else (if 0 ≤ i476 then (if 0 ≤ j477 then (if j477 < (b16.length : Int) then (if ((rd a12 i476).ID) < ((rd b16 j477).ID) then ((catalog_Merge_1 k x478 x483 (rd a12 i476)).bind fun vt556 => (catalog_pairs__catalog_Merge_1.l0 k a12 b16 n_ (w64 (i476 + 1)) j477 vt556 x483)) else (if i476 = (a12.length : Int) then ((catalog_Merge_1_2 k x478 x483 (rd b16 j477)).bind fun vt577 => (catalog_pairs__catalog_Merge_1.l0 k a12 b16 n_ i476 (w64 (j477 + 1)) vt577 x483)) else (if ((rd b16 j477).ID) < ((rd a12 i476).ID) then ((catalog_Merge_1_2 k x478 x483 (rd b16 j477)).bind fun vt595 => (catalog_pairs__catalog_Merge_1.l0 k a12 b16 n_ i476 (w64 (j477 + 1)) vt595 x483)) else ((catalog_Merge_1_3 k x478 x483 (rd a12 i476) (rd b16 j477)).bind fun (vt616, vt617) => (catalog_pairs__catalog_Merge_1.l0 k a12 b16 n_ (w64 (i476 + 1)) (w64 (j477 + 1)) vt616 vt617))))) else none) else none) else none)) else (if j477 < (b16.length : Int) then (if j477 = (b16.length : Int) then (if 0 ≤ i476 then (if i476 < (a12.length : Int) then (none) else none) else none) else (if i476 = (a12.length : Int) then (if 0 ≤ j477 then ((catalog_Merge_1_2 k x478 x483 (rd b16 j477)).bind fun vt670 => (catalog_pairs__catalog_Merge_1.l0 k a12 b16 n_ i476 (w64 (j477 + 1)) vt670 x483)) else none) else (if 0 ≤ j477 then (if 0 ≤ i476 then (if i476 < (a12.length : Int) then (none) else none) else none) else none))) else (some (x478, x483)))
def catalog_pairs__catalog_Merge_1 (k : Nat) (v5 : List S_Row) (v11 : Int) (a12 : List S_Row) (b16 : List S_Row) : Option ((List S_Row) × Int) :=
  (catalog_pairs__catalog_Merge_1.l0 k a12 b16 k 0 0 v5 v11).bind fun (x695, x700) => (some (x695, x700))
def slices_Clone_Row (k : Nat) (s1 : List S_Row) : Option ((List S_Row)) :=
  if (([] : List S_Row).length + s1.length) * 160 ≤ 140737488355328 then (some (([] : List S_Row) ++ s1)) else none
def slices_Clone_int (k : Nat) (s1 : List Int) : Option ((List Int)) :=
  if (([] : List Int).length + s1.length) * 8 ≤ 140737488355328 then (some (([] : List Int) ++ s1)) else none
def catalog_Copy.l0 (k : Nat) (vt9 : List S_Row) : Nat → (List S_Row) → Int → Option ((List S_Row))
  | 0, _, _ => none
  | n_ + 1, out93, x97 =>
    if x97 < (vt9.length : Int) then (if 0 ≤ x97 then (if x97 < (out93.length : Int) then ((slices_Clone_int k ((rd out93 x97).Frames)).bind fun vt124 => (catalog_Copy.l0 k vt9 n_ (out93.set (x97).toNat (⟨(rd out93 x97).ID, ((rd out93 x97).Box), ((rd out93 x97).Flux), ((rd out93 x97).When), vt124, (rd out93 x97).Marks⟩ : S_Row)) (w64 (x97 + 1)))) else none) else none) else (some out93)
def catalog_Copy (k : Nat) (l1 : List S_Row) : Option ((List S_Row)) :=
  (slices_Clone_Row k l1).bind fun vt9 => ((catalog_Copy.l0 k vt9 k vt9 0).bind fun out148 => (some out148))
def catalog_Merge (k : Nat) (a1 : List S_Row) (b5 : List S_Row) : Option ((List S_Row) × Int) :=
  (catalog_Check k a1).bind fun vt15 => ((catalog_Check k b5).bind fun vt21 => ((cmp_Or_Errno k ([vt15, vt21] : List Int)).bind fun vt38 => (if vt38 ≠ 0 then (some (([] : List S_Row), vt38)) else ((catalog_pairs__catalog_Merge_1 k ([] : List S_Row) 0 a1 b5).bind fun (vt75, vt76) => (if vt76 = 0 then (((if (vt75.length : Int) > 200 then (some 2) else (some vt76) : Option (Int))).bind fun x102 => (if x102 ≠ 0 then (some (([] : List S_Row), x102)) else ((catalog_Copy k vt75).bind fun vt126 => (some (vt126, 0))))) else (if vt76 ≠ 0 then (some (([] : List S_Row), vt76)) else ((catalog_Copy k vt75).bind fun vt153 => (some (vt153, 0)))))))))
def spykeep3_CatalogMerges_1 (k : Nat) (x1 : List S_Row) (y5 : List S_Row) (e9 : Int) : Option ((List S_Row) × Int) :=
  if e9 ≠ 0 then (some (([] : List S_Row), e9)) else ((catalog_Merge k x1 y5).bind fun (vt22, vt23) => (some (vt22, vt23)))
def spykeep3_single (k : Nat) (vid1 : Int) : Option (S_Row) :=
  some (⟨vid1, (⟨(⟨0, 0, false⟩ : S_Bound), (⟨0, 0, false⟩ : S_Bound), (⟨0, 0, false⟩ : S_Bound)⟩ : S_Box), (⟨0, 0, false⟩ : S_Bound), (⟨0, 0, false⟩ : S_Bound), ([1] : List Int), 0⟩ : S_Row)
def catalog_shape (k : Nat) (c1 : S_Change) : Option (Int) :=
  ((if c1.Kind = 1 then (some (c1.Kind == 1)) else (some (c1.Kind == 2)) : Option (Bool))).bind fun x33 => (if x33 = true then ((catalog_CheckRow k c1.Row).bind fun vt41 => (some vt41)) else (if c1.Kind = 3 then (if c1.Row.ID < 1 then (some 4) else (if c1.Row.ID > 2147483647 then (some 4) else ((catalog_Same k c1.Row (⟨c1.Row.ID, (⟨(⟨0, 0, false⟩ : S_Bound), (⟨0, 0, false⟩ : S_Bound), (⟨0, 0, false⟩ : S_Bound)⟩ : S_Box), (⟨0, 0, false⟩ : S_Bound), (⟨0, 0, false⟩ : S_Bound), ([] : List Int), 0⟩ : S_Row)).bind fun vt66 => (if ¬ (vt66 = true) then (some 3) else (some 0))))) else (some 12)))
def catalog_state_apply.l0 (k : Nat) (l7 : List S_Change) (s5 : List (Int × S_Row)) : Nat → Int → Option (Sum (Int × (List (Int × S_Row))) Unit)
  | 0, _ => none
  | n_ + 1, x40 =>
    if x40 < (l7.length : Int) then (if 0 ≤ x40 then ((catalog_shape k (rd l7 x40)).bind fun vt76 => (if vt76 ≠ 0 then (some (Sum.inl (vt76, s5))) else (if x40 > 0 then (if 0 ≤ (w64 (x40 - 1)) then (if (w64 (x40 - 1)) < (l7.length : Int) then (if (((rd l7 x40).Row).ID) ≤ (((rd l7 (w64 (x40 - 1))).Row).ID) then (some (Sum.inl (11, s5))) else (if ((rd l7 x40).Kind) = 1 then (if ((mfind s5 (((rd l7 x40).Row).ID)).isSome) = true then (some (Sum.inl (7, s5))) else (if ((rd l7 x40).Kind) ≠ 1 then (some (Sum.inl (8, s5))) else (catalog_state_apply.l0 k l7 s5 n_ (w64 (x40 + 1))))) else (if ((rd l7 x40).Kind) ≠ 1 then (if ¬ (((mfind s5 (((rd l7 x40).Row).ID)).isSome) = true) then (some (Sum.inl (8, s5))) else (catalog_state_apply.l0 k l7 s5 n_ (w64 (x40 + 1)))) else (catalog_state_apply.l0 k l7 s5 n_ (w64 (x40 + 1)))))) else none) else none) else (if ((rd l7 x40).Kind) = 1 then (if ((mfind s5 (((rd l7 x40).Row).ID)).isSome) = true then (some (Sum.inl (7, s5))) else (if ((rd l7 x40).Kind) ≠ 1 then (some (Sum.inl (8, s5))) else (catalog_state_apply.l0 k l7 s5 n_ (w64 (x40 + 1))))) else (if ((rd l7 x40).Kind) ≠ 1 then (if ¬ (((mfind s5 (((rd l7 x40).Row).ID)).isSome) = true) then (some (Sum.inl (8, s5))) else (catalog_state_apply.l0 k l7 s5 n_ (w64 (x40 + 1)))) else (catalog_state_apply.l0 k l7 s5 n_ (w64 (x40 + 1)))))))) else none) else (some (Sum.inr ()))
def catalog_state_apply.l1 (k : Nat) (l7 : List S_Change) : Nat → (List (Int × S_Row)) → Int → Option ((List (Int × S_Row)))
  | 0, _, _ => none
  | n_ + 1, s280, x283 =>
    if x283 < (l7.length : Int) then (if 0 ≤ x283 then (if ((rd l7 x283).Kind) = 3 then (catalog_state_apply.l1 k l7 n_ (merase s280 (((rd l7 x283).Row).ID)) (w64 (x283 + 1))) else (catalog_state_apply.l1 k l7 n_ (mput s280 (((rd l7 x283).Row).ID) ((rd l7 x283).Row)) (w64 (x283 + 1)))) else none) else (some s280)
def catalog_state_apply (k : Nat) (s5 : List (Int × S_Row)) (l7 : List S_Change) : Option (Int × (List (Int × S_Row))) :=
  if (l7.length : Int) > 200 then (some (2, s5)) else ((catalog_state_apply.l0 k l7 s5 k 0).bind fun z_ => Sum.elim (fun y_ => some y_) (fun _ => ((catalog_state_apply.l1 k l7 k s5 0).bind fun s338 => (if (s338.length : Int) > 200 then (some (9, s338)) else (some (0, s338))))) z_)
def catalog_replay.l0 (k : Nat) (c1 : S_Catalog) (versions5 : Int) : Nat → (List (Int × S_Row)) → Int → Option (Sum ((List (Int × S_Row)) × Int) (List (Int × S_Row)))
  | 0, _, _ => none
  | n_ + 1, s102, x105 =>
    if x105 < ((c1.Commits.take (versions5).toNat).length : Int) then (if 0 ≤ x105 then ((catalog_state_apply k s102 (rd (c1.Commits.take (versions5).toNat) x105)).bind fun (vt133, vt134) => (if vt133 ≠ 0 then (some (Sum.inl (vt134, vt133))) else (catalog_replay.l0 k c1 versions5 n_ vt134 (w64 (x105 + 1))))) else none) else (some (Sum.inr s102))
def catalog_replay (k : Nat) (c1 : S_Catalog) (versions5 : Int) : Option ((List (Int × S_Row)) × Int) :=
  if (c1.Commits.length : Int) > 32 then (some (([] : List (Int × S_Row)), 2)) else (if 0 ≤ versions5 then (if versions5 ≤ (c1.Commits.length : Int) then ((catalog_replay.l0 k c1 versions5 k ([] : List (Int × S_Row)) 0).bind fun z_ => Sum.elim (fun y_ => some y_) (fun s154 => (some (s154, 0))) z_) else none) else none)
def slices_Clone_Change (k : Nat) (s1 : List S_Change) : Option ((List S_Change)) :=
  if (([] : List S_Change).length + s1.length) * 168 ≤ 140737488355328 then (some (([] : List S_Change) ++ s1)) else none
def catalog_copies.l0 (k : Nat) (vt9 : List S_Change) : Nat → (List S_Change) → Int → Option ((List S_Change))
  | 0, _, _ => none
  | n_ + 1, out93, x97 =>
    if x97 < (vt9.length : Int) then (if 0 ≤ x97 then (if x97 < (out93.length : Int) then ((slices_Clone_int k (((rd out93 x97).Row).Frames)).bind fun vt124 => (catalog_copies.l0 k vt9 n_ (out93.set (x97).toNat (⟨(rd out93 x97).Kind, (⟨((rd out93 x97).Row).ID, (((rd out93 x97).Row).Box), (((rd out93 x97).Row).Flux), (((rd out93 x97).Row).When), vt124, ((rd out93 x97).Row).Marks⟩ : S_Row)⟩ : S_Change)) (w64 (x97 + 1)))) else none) else none) else (some out93)
def catalog_copies (k : Nat) (l1 : List S_Change) : Option ((List S_Change)) :=
  (slices_Clone_Change k l1).bind fun vt9 => ((catalog_copies.l0 k vt9 k vt9 0).bind fun out148 => (some out148))
def catalog_Commit.l0 (k : Nat) (c1 : S_Catalog) : Nat → Int → (List (List S_Change)) → Option ((List (List S_Change)))
  | 0, _, _ => none
  | n_ + 1, x184, x185 =>
    if x184 < (c1.Commits.length : Int) then (if 0 ≤ x184 then ((catalog_copies k (rd c1.Commits x184)).bind fun vt223 => (if (x185.length + 1) * 24 ≤ 140737488355328 then (catalog_Commit.l0 k c1 n_ (w64 (x184 + 1)) (x185 ++ ([vt223] : List (List S_Change)))) else none)) else none) else (some x185)
def catalog_Commit (k : Nat) (c1 : S_Catalog) (l5 : List S_Change) : Option (S_Catalog × Int × Int) :=
  (catalog_replay k c1 (c1.Commits.length : Int)).bind fun (vt21, vt22) => (if vt22 ≠ 0 then (some ((⟨([] : List (List S_Change))⟩ : S_Catalog), 0, vt22)) else (if (c1.Commits.length : Int) = 32 then (some ((⟨([] : List (List S_Change))⟩ : S_Catalog), 0, 9)) else ((catalog_state_apply k vt21 l5).bind fun (vt64, vt65) => (if vt64 ≠ 0 then (some ((⟨([] : List (List S_Change))⟩ : S_Catalog), 0, vt64)) else ((catalog_Commit.l0 k c1 k 0 ([] : List (List S_Change))).bind fun x261 => ((catalog_copies k l5).bind fun vt286 => (if (x261.length + 1) * 24 ≤ 140737488355328 then (some ((⟨(x261 ++ ([vt286] : List (List S_Change)))⟩ : S_Catalog), ((x261 ++ ([vt286] : List (List S_Change))).length : Int), 0)) else none)))))))
def catalog_CheckCatalog (k : Nat) (c1 : S_Catalog) : Option (Int) :=
  (catalog_replay k c1 (c1.Commits.length : Int)).bind fun (vt13, vt14) => (some vt14)
def catalog_At.l0 (k : Nat) (vt65 : List Int) (vt41 : List (Int × S_Row)) : Nat → (List S_Row) → Int → Option ((List S_Row))
  | 0, _, _ => none
  | n_ + 1, out89, x95 =>
    if x95 < (vt65.length : Int) then (if 0 ≤ x95 then (if (out89.length + 1) * 160 ≤ 140737488355328 then (catalog_At.l0 k vt65 vt41 n_ (out89 ++ ([(mget zero_Row vt41 (rd vt65 x95))] : List S_Row)) (w64 (x95 + 1))) else none) else none) else (some out89)
def catalog_At (k : Nat) (c1 : S_Catalog) (version5 : Int) : Option ((List S_Row) × Int) :=
  (catalog_CheckCatalog k c1).bind fun vt16 => (if vt16 ≠ 0 then (some (([] : List S_Row), vt16)) else (if version5 < 0 then (some (([] : List S_Row), 4)) else (if version5 > (c1.Commits.length : Int) then (some (([] : List S_Row), 4)) else ((catalog_replay k c1 version5).bind fun (vt41, vt42) => ((sortedKeys vt41).bind fun vt65 => ((catalog_At.l0 k vt65 vt41 k ([] : List S_Row) 0).bind fun out144 => ((catalog_Copy k out144).bind fun vt161 => (some (vt161, 0)))))))))
def spykeep3_listed (k : Nat) : Option (Bool) :=
  (spykeep3_single k 3).bind fun vt5 => ((catalog_Commit k (⟨([] : List (List S_Change))⟩ : S_Catalog) ([(⟨1, vt5⟩ : S_Change)] : List S_Change)).bind fun (vt30, vt31, vt32) => ((catalog_At k vt30 vt31).bind fun (vt56, vt57) => (if vt32 = 0 then (if vt57 = 0 then (if vt31 = 1 then (if (vt56.length : Int) = 1 then (if 0 < (vt56.length : Int) then ((spykeep3_single k 3).bind fun vt84 => ((catalog_Same k (rd vt56 0) vt84).bind fun vt100 => (some vt100))) else none) else (some false)) else (some false)) else (some false)) else (some false))))
def slices_EqualFunc_Row__catalog_Same.l0 (k : Nat) (s11 : List S_Row) (s25 : List S_Row) : Nat → Int → Option (Sum Bool Unit)
  | 0, _ => none
  | n_ + 1, x38 =>
    if x38 < (s11.length : Int) then (if 0 ≤ x38 then (if x38 < (s25.length : Int) then ((catalog_Same k (rd s11 x38) (rd s25 x38)).bind fun vt88 => (if ¬ (vt88 = true) then (some (Sum.inl false)) else (slices_EqualFunc_Row__catalog_Same.l0 k s11 s25 n_ (w64 (x38 + 1))))) else none) else none) else (some (Sum.inr ()))
def slices_EqualFunc_Row__catalog_Same (k : Nat) (s11 : List S_Row) (s25 : List S_Row) : Option (Bool) :=
  if (s11.length : Int) ≠ (s25.length : Int) then (some false) else ((slices_EqualFunc_Row__catalog_Same.l0 k s11 s25 k 0).bind fun z_ => Sum.elim (fun y_ => some y_) (fun _ => (some true)) z_)
def spykeep3_sameRows (k : Nat) (a1 : List S_Row) (b5 : List S_Row) : Option (Bool) :=
  (slices_EqualFunc_Row__catalog_Same k a1 b5).bind fun vt13 => (some vt13)
def spykeep3_CatalogMerges (k : Nat) (l1 : List Int) (clash5 : Bool) : Option (Bool) :=
  (spykeep3_parted k (⟨l1, 0⟩ : S_Stream) clash5).bind fun (vt14, vt15, vt16, vt17) => ((catalog_Merge k vt14 vt14).bind fun (vt46, vt47) => ((catalog_Merge k vt14 vt15).bind fun (vt65, vt66) => ((catalog_Merge k vt15 vt14).bind fun (vt79, vt80) => ((catalog_Merge k vt15 vt16).bind fun (vt98, vt99) => ((spykeep3_CatalogMerges_1 k vt65 vt16 vt66).bind fun (vt117, vt118) => ((spykeep3_CatalogMerges_1 k vt14 vt98 vt99).bind fun (vt136, vt137) => ((spykeep3_listed k).bind fun vt152 => (if ¬ (vt152 = true) then (some false) else (if vt47 ≠ 0 then (some false) else ((spykeep3_sameRows k vt46 vt14).bind fun vt170 => (if ¬ (vt170 = true) then (some false) else (if vt66 ≠ vt80 then (some false) else ((spykeep3_sameRows k vt65 vt79).bind fun vt191 => (if ¬ (vt191 = true) then (some false) else (if ((vt118 == 0) != (vt137 == 0)) = true then (some false) else ((spykeep3_sameRows k vt117 vt136).bind fun vt218 => (if ¬ (vt218 = true) then (some false) else (if clash5 = true then (some true) else (some (vt118 == 0))))))))))))))))))))
end Go.Sp.M4
