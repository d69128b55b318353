/- A text of this claim. -/
import Derived.Test.YtiibkbligihgoaaGreatSpMapR
import Derived.Test.YtiibkbligihgoaaGreatSpCopy
namespace Go.Sp.J7
open Go Go.Sp
set_option linter.unusedVariables false
def str0 : ByteArray := ⟨#[0, 1, 2, 2, 3, 3, 3, 3, 4, 4, 4, 4, 4, 4, 4, 4, 5, 5, 5, 5, 5, 5, 5, 5, 5, 5, 5, 5, 5, 5, 5, 5, 6, 6, 6, 6, 6, 6, 6, 6, 6, 6, 6, 6, 6, 6, 6, 6, 6, 6, 6, 6, 6, 6, 6, 6, 6, 6, 6, 6, 6, 6, 6, 6, 7, 7, 7, 7, 7, 7, 7, 7, 7, 7, 7, 7, 7, 7, 7, 7, 7, 7, 7, 7, 7, 7, 7, 7, 7, 7, 7, 7, 7, 7, 7, 7, 7, 7, 7, 7, 7, 7, 7, 7, 7, 7, 7, 7, 7, 7, 7, 7, 7, 7, 7, 7, 7, 7, 7, 7, 7, 7, 7, 7, 7, 7, 7, 7, 8, 8, 8, 8, 8, 8, 8, 8, 8, 8, 8, 8, 8, 8, 8, 8, 8, 8, 8, 8, 8, 8, 8, 8, 8, 8, 8, 8, 8, 8, 8, 8, 8, 8, 8, 8, 8, 8, 8, 8, 8, 8, 8, 8, 8, 8, 8, 8, 8, 8, 8, 8, 8, 8, 8, 8, 8, 8, 8, 8, 8, 8, 8, 8, 8, 8, 8, 8, 8, 8, 8, 8, 8, 8, 8, 8, 8, 8, 8, 8, 8, 8, 8, 8, 8, 8, 8, 8, 8, 8, 8, 8, 8, 8, 8, 8, 8, 8, 8, 8, 8, 8, 8, 8, 8, 8, 8, 8, 8, 8, 8, 8, 8, 8, 8, 8, 8, 8, 8, 8, 8, 8, 8, 8, 8, 8, 8, 8]⟩
structure S_Stream where
  L : List Int
  vat : Int
instance : Inhabited S_Stream := ⟨⟨default, default⟩⟩
structure S_Bound where
  Lo : Int
  Hi : Int
  Unknown : Bool
instance : Inhabited S_Bound := ⟨⟨default, default, default⟩⟩
structure S_Box where
  X : S_Bound
  Y : S_Bound
  Z : S_Bound
instance : Inhabited S_Box := ⟨⟨default, default, default⟩⟩
structure S_Row where
  ID : Int
  Box : S_Box
  Flux : S_Bound
  When : S_Bound
  Frames : List Int
  Marks : Int
instance : Inhabited S_Row := ⟨⟨default, default, default, default, default, default⟩⟩
structure S_Vec where
  X : Int
  Y : Int
  Z : Int
instance : Inhabited S_Vec := ⟨⟨default, default, default⟩⟩
structure S_node where
  box : S_Box
  when : S_Bound
  kids : List S_node
  rows : List Int
instance : Inhabited S_node := ⟨⟨default, default, default, default⟩⟩
structure S_Index where
  rows : List S_Row
  level : Int
  roots : List S_node
  loose : List Int
instance : Inhabited S_Index := ⟨⟨default, default, default, default⟩⟩
structure S_Cone where
  At : S_Vec
  Cos : Int
instance : Inhabited S_Cone := ⟨⟨default, default⟩⟩
structure S_Ask where
  Cones : List S_Cone
  From : Int
  To : Int
  Least : Int
  Ban : Int
instance : Inhabited S_Ask := ⟨⟨default, default, default, default, default⟩⟩
structure S_Answer where
  ID : Int
  Grade : Int
instance : Inhabited S_Answer := ⟨⟨default, default⟩⟩
structure S_Wide where
  Hi : Int
  Lo : Int
instance : Inhabited S_Wide := ⟨⟨default, default⟩⟩
structure S_Pair where
  Left : Int
  Right : Int
  Grade : Int
instance : Inhabited S_Pair := ⟨⟨default, default, default⟩⟩
def spymake_Below (k : Nat) (x1 : Int) (n2 : Int) : Option (Int) :=
  if n2 < 1 then (some 0) else (if ¬ (n2 = 0) then (if (Int.tmod x1 n2) < 0 then (some (w64 ((Int.tmod x1 n2) + n2))) else (some (Int.tmod x1 n2))) else none)
def spymake_Stream_Next (k : Nat) (s3 : S_Stream) (n7 : Int) : Option (Int × Int) :=
  if (s3.L.length : Int) = 0 then ((spymake_Below k (w64 ((w64 (s3.vat + 1)) * 7919)) n7).bind fun vt22 => (some (vt22, w64 (s3.vat + 1)))) else (if ¬ ((s3.L.length : Int) = 0) then (if 0 ≤ (Int.tmod (w64 ((w64 (s3.vat + 1)) - 1)) (s3.L.length : Int)) then (if (Int.tmod (w64 ((w64 (s3.vat + 1)) - 1)) (s3.L.length : Int)) < (s3.L.length : Int) then ((spymake_Below k (rd s3.L (Int.tmod (w64 ((w64 (s3.vat + 1)) - 1)) (s3.L.length : Int))) 1073741824).bind fun vt47 => ((spymake_Below k (w64 (vt47 + (w64 ((w64 (Int.tdiv (w64 ((w64 (s3.vat + 1)) - 1)) (s3.L.length : Int))) * (w64 (7919 + (Int.tmod (w64 ((w64 (s3.vat + 1)) - 1)) (s3.L.length : Int)))))))) n7).bind fun vt53 => (some (vt53, w64 (s3.vat + 1))))) else none) else none) else none)
def spymake_Stream_Range (k : Nat) (s3 : S_Stream) (low7 : Int) (high8 : Int) : Option (Int × Int) :=
  if high8 < low7 then (some (low7, s3.vat)) else ((spymake_Stream_Next k s3 (w64 ((w64 (high8 - low7)) + 1))).bind fun (vt21, vt22) => (some (w64 (low7 + vt21), vt22)))
def spymake_Stream_Vec (k : Nat) (s3 : S_Stream) : Option (S_Vec × Int) :=
  (spymake_Stream_Next k s3 4).bind fun (vt22, vt23) => (if 0 ≤ vt22 then (if vt22 < (([3, 100, 5000, 1048576] : List Int).length : Int) then ((spymake_Stream_Range k (⟨s3.L, vt23⟩ : S_Stream) (w64 (0 - (rd ([3, 100, 5000, 1048576] : List Int) vt22))) (rd ([3, 100, 5000, 1048576] : List Int) vt22)).bind fun (vt36, vt37) => ((spymake_Stream_Range k (⟨s3.L, vt37⟩ : S_Stream) (w64 (0 - (rd ([3, 100, 5000, 1048576] : List Int) vt22))) (rd ([3, 100, 5000, 1048576] : List Int) vt22)).bind fun (vt43, vt44) => ((spymake_Stream_Range k (⟨s3.L, vt44⟩ : S_Stream) (w64 (0 - (rd ([3, 100, 5000, 1048576] : List Int) vt22))) (rd ([3, 100, 5000, 1048576] : List Int) vt22)).bind fun (vt50, vt51) => (if ((vt36 == 0) && ((vt43 == 0) && ((vt50 == 0) && true))) = true then (some ((⟨1, vt43, vt50⟩ : S_Vec), vt51)) else (some ((⟨vt36, vt43, vt50⟩ : S_Vec), vt51)))))) else none) else none)
def spymake_Stream_Box_1 (k : Nat) (v7 : S_Stream) (v11 : Int) (c12 : Int) : Option (S_Bound × Int) :=
  (spymake_Stream_Next k v7 (w64 (v11 + 1))).bind fun (vt28, vt29) => ((spymake_Stream_Next k (⟨v7.L, vt29⟩ : S_Stream) (w64 (v11 + 1))).bind fun (vt35, vt36) => (some ((⟨w64 (c12 - vt28), w64 (c12 + vt35), false⟩ : S_Bound), vt36)))
def spymake_Stream_Box (k : Nat) (s3 : S_Stream) : Option (S_Box × Int) :=
  (spymake_Stream_Vec k s3).bind fun (vt20, vt21) => ((spymake_Stream_Next k (⟨s3.L, vt21⟩ : S_Stream) 10).bind fun (vt38, vt39) => (if vt38 = 0 then (some ((⟨(⟨0, 0, true⟩ : S_Bound), (⟨0, 0, true⟩ : S_Bound), (⟨0, 0, true⟩ : S_Bound)⟩ : S_Box), vt39)) else ((spymake_Stream_Next k (⟨s3.L, vt39⟩ : S_Stream) 4).bind fun (vt69, vt70) => (if 0 ≤ vt69 then (if vt69 < (([0, 2, 300, 262144] : List Int).length : Int) then ((spymake_Stream_Box_1 k (⟨s3.L, vt70⟩ : S_Stream) (rd ([0, 2, 300, 262144] : List Int) vt69) vt20.X).bind fun (vt102, vt103) => ((spymake_Stream_Box_1 k (⟨s3.L, vt103⟩ : S_Stream) (rd ([0, 2, 300, 262144] : List Int) vt69) vt20.Y).bind fun (vt118, vt119) => ((spymake_Stream_Box_1 k (⟨s3.L, vt119⟩ : S_Stream) (rd ([0, 2, 300, 262144] : List Int) vt69) vt20.Z).bind fun (vt134, vt135) => (some ((⟨vt102, vt118, vt134⟩ : S_Box), vt135))))) else none) else none))))
def spymake_Bound_Quanta (k : Nat) (s3 : S_Stream) (most7 : Int) : Option (S_Bound × Int) :=
  (spymake_Stream_Next k s3 8).bind fun (vt19, vt20) => (if vt19 = 0 then (some ((⟨0, 0, true⟩ : S_Bound), vt20)) else (if vt19 = 1 then ((spymake_Stream_Range k (⟨s3.L, vt20⟩ : S_Stream) (w64 (0 - most7)) most7).bind fun (vt48, vt49) => (some ((⟨vt48, vt48, false⟩ : S_Bound), vt49))) else ((spymake_Stream_Range k (⟨s3.L, vt20⟩ : S_Stream) (w64 (0 - most7)) most7).bind fun (vt62, vt63) => ((spymake_Stream_Range k (⟨s3.L, vt63⟩ : S_Stream) (w64 (0 - most7)) most7).bind fun (vt69, vt70) => (some ((⟨mn vt62 vt69, mx vt62 vt69, false⟩ : S_Bound), vt70))))))
def spymake_Bound_Tick (k : Nat) (s3 : S_Stream) (most7 : Int) : Option (S_Bound × Int) :=
  (spymake_Stream_Next k s3 8).bind fun (vt19, vt20) => (if vt19 = 0 then (some ((⟨0, 0, true⟩ : S_Bound), vt20)) else (if vt19 = 1 then ((spymake_Stream_Range k (⟨s3.L, vt20⟩ : S_Stream) (w64 (0 - most7)) most7).bind fun (vt48, vt49) => (some ((⟨vt48, vt48, false⟩ : S_Bound), vt49))) else ((spymake_Stream_Range k (⟨s3.L, vt20⟩ : S_Stream) (w64 (0 - most7)) most7).bind fun (vt62, vt63) => ((spymake_Stream_Range k (⟨s3.L, vt63⟩ : S_Stream) (w64 (0 - most7)) most7).bind fun (vt69, vt70) => (some ((⟨mn vt62 vt69, mx vt62 vt69, false⟩ : S_Bound), vt70))))))
def spymake_Stream_Row.l0 (k : Nat) (vt58 : Int) (s3 : S_Stream) : Nat → Int → Int → Int → (List Int) → Option (Int × (List Int))
  | 0, _, _, _, _ => none
  | n_ + 1, n135, x136, x137, x138 =>
    if x136 < vt58 then ((spymake_Stream_Range k (⟨s3.L, x137⟩ : S_Stream) 1 50).bind fun (vt162, vt163) => (if (x138.length + 1) * 8 ≤ 140737488355328 then (spymake_Stream_Row.l0 k vt58 s3 n_ (w64 (n135 + vt162)) (w64 (x136 + 1)) vt163 (x138 ++ ([w64 (n135 + vt162)] : List Int))) else none)) else (some (x137, x138))
def spymake_Stream_Row (k : Nat) (s3 : S_Stream) (vid7 : Int) : Option (S_Row × Int) :=
  (spymake_Stream_Box k s3).bind fun (vt17, vt18) => ((spymake_Bound_Quanta k (⟨s3.L, vt18⟩ : S_Stream) 1000).bind fun (vt24, vt25) => ((spymake_Bound_Tick k (⟨s3.L, vt25⟩ : S_Stream) 5000).bind fun (vt31, vt32) => ((spymake_Stream_Next k (⟨s3.L, vt32⟩ : S_Stream) 4).bind fun (vt38, vt39) => ((spymake_Stream_Range k (⟨s3.L, vt39⟩ : S_Stream) 1 3).bind fun (vt58, vt59) => ((spymake_Stream_Row.l0 k vt58 s3 k 0 0 vt59 ([] : List Int)).bind fun (x192, x193) => (some ((⟨vid7, vt17, vt24, vt31, x193, vt38⟩ : S_Row), x192)))))))
def spymake_Stream_Rows.l0 (k : Nat) (vt18 : Int) (s3 : S_Stream) : Nat → (List S_Row) → Int → Int → Int → Option ((List S_Row) × Int)
  | 0, _, _, _, _ => none
  | n_ + 1, out113, vid119, x120, x121 =>
    if x120 < vt18 then ((spymake_Stream_Range k (⟨s3.L, x121⟩ : S_Stream) 1 4).bind fun (vt140, vt141) => ((spymake_Stream_Row k (⟨s3.L, vt141⟩ : S_Stream) (w64 (vid119 + vt140))).bind fun (vt147, vt148) => (if (out113.length + 1) * 160 ≤ 140737488355328 then (spymake_Stream_Rows.l0 k vt18 s3 n_ (out113 ++ ([vt147] : List S_Row)) (w64 (vid119 + vt140)) (w64 (x120 + 1)) vt148) else none))) else (some (out113, x121))
def spymake_Stream_Rows (k : Nat) (s3 : S_Stream) (most7 : Int) : Option ((List S_Row) × Int) :=
  (spymake_Stream_Next k s3 (w64 (most7 + 1))).bind fun (vt18, vt19) => ((spymake_Stream_Rows.l0 k vt18 s3 k ([] : List S_Row) 0 0 vt19).bind fun (out183, x189) => (some (out183, x189)))
def bound_Check_Coord (k : Nat) (b1 : S_Bound) : Option (Int) :=
  if b1.Unknown = true then (if b1.Lo ≠ 0 then (some 3) else (if b1.Hi ≠ 0 then (some 3) else (if (mn b1.Lo b1.Hi) < (-1152921504606846976) then (some 4) else (if (mx b1.Lo b1.Hi) > 1152921504606846976 then (some 4) else (if b1.Lo > b1.Hi then (some 11) else (some 0)))))) else (if (mn b1.Lo b1.Hi) < (-1152921504606846976) then (some 4) else (if (mx b1.Lo b1.Hi) > 1152921504606846976 then (some 4) else (if b1.Lo > b1.Hi then (some 11) else (some 0))))
def catalog_ends_Coord (k : Nat) (b1 : S_Bound) (most2 : Int) : Option (Int) :=
  (bound_Check_Coord k b1).bind fun vt13 => (if vt13 ≠ 0 then (some vt13) else (if b1.Lo < (w64 (0 - most2)) then (some 4) else (if b1.Hi > most2 then (some 4) else (some 0))))
def bound_Check_Quanta (k : Nat) (b1 : S_Bound) : Option (Int) :=
  if b1.Unknown = true then (if b1.Lo ≠ 0 then (some 3) else (if b1.Hi ≠ 0 then (some 3) else (if (mn b1.Lo b1.Hi) < (-1152921504606846976) then (some 4) else (if (mx b1.Lo b1.Hi) > 1152921504606846976 then (some 4) else (if b1.Lo > b1.Hi then (some 11) else (some 0)))))) else (if (mn b1.Lo b1.Hi) < (-1152921504606846976) then (some 4) else (if (mx b1.Lo b1.Hi) > 1152921504606846976 then (some 4) else (if b1.Lo > b1.Hi then (some 11) else (some 0))))
def catalog_ends_Quanta (k : Nat) (b1 : S_Bound) (most2 : Int) : Option (Int) :=
  (bound_Check_Quanta k b1).bind fun vt13 => (if vt13 ≠ 0 then (some vt13) else (if b1.Lo < (w64 (0 - most2)) then (some 4) else (if b1.Hi > most2 then (some 4) else (some 0))))
def bound_Check_Tick (k : Nat) (b1 : S_Bound) : Option (Int) :=
  if b1.Unknown = true then (if b1.Lo ≠ 0 then (some 3) else (if b1.Hi ≠ 0 then (some 3) else (if (mn b1.Lo b1.Hi) < (-1152921504606846976) then (some 4) else (if (mx b1.Lo b1.Hi) > 1152921504606846976 then (some 4) else (if b1.Lo > b1.Hi then (some 11) else (some 0)))))) else (if (mn b1.Lo b1.Hi) < (-1152921504606846976) then (some 4) else (if (mx b1.Lo b1.Hi) > 1152921504606846976 then (some 4) else (if b1.Lo > b1.Hi then (some 11) else (some 0))))
def catalog_ends_Tick (k : Nat) (b1 : S_Bound) (most2 : Int) : Option (Int) :=
  (bound_Check_Tick k b1).bind fun vt13 => (if vt13 ≠ 0 then (some vt13) else (if b1.Lo < (w64 (0 - most2)) then (some 4) else (if b1.Hi > most2 then (some 4) else (some 0))))
def cmp_Or_Errno.l0 (k : Nat) (vals1 : List Int) : Nat → Int → Option (Sum Int Unit)
  | 0, _ => none
  | n_ + 1, x28 =>
    if x28 < (vals1.length : Int) then (if 0 ≤ x28 then (if (rd vals1 x28) ≠ 0 then (some (Sum.inl (rd vals1 x28))) else (cmp_Or_Errno.l0 k vals1 n_ (w64 (x28 + 1)))) else none) else (some (Sum.inr ()))
def cmp_Or_Errno (k : Nat) (vals1 : List Int) : Option (Int) :=
  (cmp_Or_Errno.l0 k vals1 k 0).bind fun z_ => Sum.elim (fun y_ => some y_) (fun _ => (some 0)) z_
def catalog_CheckRow.l0 (k : Nat) (r1 : S_Row) : Nat → Int → Option (Sum Int Unit)
  | 0, _ => none
  | n_ + 1, x41 =>
    if x41 < 3 then (if 0 ≤ x41 then ((catalog_ends_Coord k (rd [r1.Box.X, r1.Box.Y, r1.Box.Z] x41) 1073741824).bind fun vt68 => (if vt68 ≠ 0 then (some (Sum.inl vt68)) else (catalog_CheckRow.l0 k r1 n_ (w64 (x41 + 1))))) else none) else (some (Sum.inr ()))
def catalog_CheckRow.l1 (k : Nat) (r1 : S_Row) : Nat → Int → Option (Sum Int Unit)
  | 0, _ => none
  | n_ + 1, x176 =>
    if x176 < (r1.Frames.length : Int) then (if 0 ≤ x176 then (if (rd r1.Frames x176) < 1 then (some (Sum.inl 4)) else (if (rd r1.Frames x176) > 1048576 then (some (Sum.inl 4)) else (if x176 > 0 then (if 0 ≤ (w64 (x176 - 1)) then (if (w64 (x176 - 1)) < (r1.Frames.length : Int) then (if (rd r1.Frames x176) ≤ (rd r1.Frames (w64 (x176 - 1))) then (some (Sum.inl 11)) else (catalog_CheckRow.l1 k r1 n_ (w64 (x176 + 1)))) else none) else none) else (catalog_CheckRow.l1 k r1 n_ (w64 (x176 + 1)))))) else none) else (some (Sum.inr ()))
def catalog_CheckRow (k : Nat) (r1 : S_Row) : Option (Int) :=
  if r1.ID < 1 then (some 4) else (if r1.ID > 2147483647 then (some 4) else ((catalog_CheckRow.l0 k r1 k 0).bind fun z_ => Sum.elim (fun y_ => some y_) (fun _ => ((catalog_ends_Quanta k r1.Flux 1125899906842624).bind fun vt98 => ((catalog_ends_Tick k r1.When 17592186044416).bind fun vt104 => ((cmp_Or_Errno k ([vt98, vt104] : List Int)).bind fun vt121 => (if vt121 ≠ 0 then (some vt121) else (if (r1.Frames.length : Int) = 0 then (some 3) else (if (r1.Frames.length : Int) > 8 then (some 2) else ((catalog_CheckRow.l1 k r1 k 0).bind fun z_ => Sum.elim (fun y_ => some y_) (fun _ => (if r1.Marks < 0 then (some 4) else (if r1.Marks > 3 then (some 4) else (some 0)))) z_)))))))) z_))
def catalog_Check.l0 (k : Nat) (l1 : List S_Row) : Nat → Int → Option (Sum Int Unit)
  | 0, _ => none
  | n_ + 1, x34 =>
    if x34 < (l1.length : Int) then (if 0 ≤ x34 then ((catalog_CheckRow k (rd l1 x34)).bind fun vt70 => (if vt70 ≠ 0 then (some (Sum.inl vt70)) else (if x34 > 0 then (if 0 ≤ (w64 (x34 - 1)) then (if (w64 (x34 - 1)) < (l1.length : Int) then (if ((rd l1 x34).ID) ≤ ((rd l1 (w64 (x34 - 1))).ID) then (some (Sum.inl 11)) else (catalog_Check.l0 k l1 n_ (w64 (x34 + 1)))) else none) else none) else (catalog_Check.l0 k l1 n_ (w64 (x34 + 1)))))) else none) else (some (Sum.inr ()))
def catalog_Check (k : Nat) (l1 : List S_Row) : Option (Int) :=
  if (l1.length : Int) > 200 then (some 2) else ((catalog_Check.l0 k l1 k 0).bind fun z_ => Sum.elim (fun y_ => some y_) (fun _ => (some 0)) z_)
def slices_Clone_Row (k : Nat) (s1 : List S_Row) : Option ((List S_Row)) :=
  if (([] : List S_Row).length + s1.length) * 160 ≤ 140737488355328 then (some (([] : List S_Row) ++ s1)) else none
def slices_Clone_int (k : Nat) (s1 : List Int) : Option ((List Int)) :=
  if (([] : List Int).length + s1.length) * 8 ≤ 140737488355328 then (some (([] : List Int) ++ s1)) else none
def catalog_Copy.l0 (k : Nat) (vt9 : List S_Row) : Nat → (List S_Row) → Int → Option ((List S_Row))
  | 0, _, _ => none
  | n_ + 1, out93, x97 =>
    if x97 < (vt9.length : Int) then (if 0 ≤ x97 then (if x97 < (out93.length : Int) then ((slices_Clone_int k ((rd out93 x97).Frames)).bind fun vt124 => (catalog_Copy.l0 k vt9 n_ (out93.set (x97).toNat (⟨(rd out93 x97).ID, ((rd out93 x97).Box), ((rd out93 x97).Flux), ((rd out93 x97).When), vt124, (rd out93 x97).Marks⟩ : S_Row)) (w64 (x97 + 1)))) else none) else none) else (some out93)
def catalog_Copy (k : Nat) (l1 : List S_Row) : Option ((List S_Row)) :=
  (slices_Clone_Row k l1).bind fun vt9 => ((catalog_Copy.l0 k vt9 k vt9 0).bind fun out148 => (some out148))
def query_sides.l0 (k : Nat) (b1 : S_Box) : Nat → Int → Option (Sum ((List S_Bound) × Bool) Unit)
  | 0, _ => none
  | n_ + 1, x39 =>
    if x39 < 3 then (if 0 ≤ x39 then (if ((rd [b1.X, b1.Y, b1.Z] x39).Unknown) = true then (some (Sum.inl ([b1.X, b1.Y, b1.Z], false))) else (if ((rd [b1.X, b1.Y, b1.Z] x39).Lo) > ((rd [b1.X, b1.Y, b1.Z] x39).Hi) then (some (Sum.inl ([b1.X, b1.Y, b1.Z], false))) else (if ((rd [b1.X, b1.Y, b1.Z] x39).Lo) < (-1073741824) then (some (Sum.inl ([b1.X, b1.Y, b1.Z], false))) else (if ((rd [b1.X, b1.Y, b1.Z] x39).Hi) > 1073741824 then (some (Sum.inl ([b1.X, b1.Y, b1.Z], false))) else (query_sides.l0 k b1 n_ (w64 (x39 + 1))))))) else none) else (some (Sum.inr ()))
def query_sides (k : Nat) (b1 : S_Box) : Option ((List S_Bound) × Bool) :=
  (query_sides.l0 k b1 k 0).bind fun z_ => Sum.elim (fun y_ => some y_) (fun _ => (some ([b1.X, b1.Y, b1.Z], true))) z_
def query_middle_1 (k : Nat) (x1 : S_Bound) : Option (Int) :=
  some (w64 (x1.Lo + (w64 (Int.tdiv (w64 (x1.Hi - x1.Lo)) 2))))
def query_middle.l0 (k : Nat) : Nat → Int → Int → Int → Option (Int × Int × Int)
  | 0, _, _, _ => none
  | n_ + 1, x185, x186, x187 =>
    if (mx (mx x185 x186) x187) > 1048576 then (query_middle.l0 k n_ (w64 (Int.tdiv x185 2)) (w64 (Int.tdiv x186 2)) (w64 (Int.tdiv x187 2))) else (if (mn (mn x185 x186) x187) < (-1048576) then (query_middle.l0 k n_ (w64 (Int.tdiv x185 2)) (w64 (Int.tdiv x186 2)) (w64 (Int.tdiv x187 2))) else (some (x185, x186, x187)))
def query_middle (k : Nat) (b1 : S_Box) : Option (S_Vec × Bool) :=
  (query_sides k b1).bind fun (vt16, vt17) => (if ¬ (vt17 = true) then (some ((⟨0, 0, 0⟩ : S_Vec), false)) else ((query_middle_1 k b1.X).bind fun vt44 => ((query_middle_1 k b1.Y).bind fun vt50 => ((query_middle_1 k b1.Z).bind fun vt56 => ((query_middle.l0 k k vt44 vt50 vt56).bind fun (x218, x219, x220) => (some ((⟨x218, x219, x220⟩ : S_Vec), (!((x218 == 0) && ((x219 == 0) && ((x220 == 0) && true)))))))))))
def sphere_Check (k : Nat) (v1 : S_Vec) : Option (Int) :=
  if (mx (mx v1.X v1.Y) v1.Z) > 1048576 then (some 4) else (if (mn (mn v1.X v1.Y) v1.Z) < (-1048576) then (some 4) else (if ((v1.X == 0) && ((v1.Y == 0) && ((v1.Z == 0) && true))) = true then (some 8) else (some 0)))
def tile_parts (k : Nat) (v1 : S_Vec) : Option ((List Int)) :=
  some [v1.X, v1.Y, v1.Z]
def tile_faceOf.l0 (k : Nat) (vt10 : List Int) : Nat → Int → Int → Option (Int)
  | 0, _, _ => none
  | n_ + 1, vk43, x44 =>
    if x44 < 3 then (if 0 ≤ x44 then (if 0 ≤ vk43 then (if vk43 < 3 then (if (mx (rd ([(vt10.getD 0 default), (vt10.getD 1 default), (vt10.getD 2 default)] : List Int) x44) (w64 (0 - (rd ([(vt10.getD 0 default), (vt10.getD 1 default), (vt10.getD 2 default)] : List Int) x44)))) > (mx (rd ([(vt10.getD 0 default), (vt10.getD 1 default), (vt10.getD 2 default)] : List Int) vk43) (w64 (0 - (rd ([(vt10.getD 0 default), (vt10.getD 1 default), (vt10.getD 2 default)] : List Int) vk43)))) then (tile_faceOf.l0 k vt10 n_ x44 (w64 (x44 + 1))) else (tile_faceOf.l0 k vt10 n_ vk43 (w64 (x44 + 1)))) else none) else none) else none) else (some vk43)
def tile_faceOf (k : Nat) (v1 : S_Vec) : Option (Int) :=
  (tile_parts k v1).bind fun vt10 => ((tile_faceOf.l0 k vt10 k 0 0).bind fun vk76 => (if 0 ≤ vk76 then (if vk76 < 3 then (if (rd ([(vt10.getD 0 default), (vt10.getD 1 default), (vt10.getD 2 default)] : List Int) vk76) < 0 then (some (w64 ((w64 (2 * vk76)) + 1))) else (some (w64 (2 * vk76)))) else none) else none))
def tile_axes (k : Nat) (face1 : Int) : Option (Int × Int × Int) :=
  some (w64 (Int.tdiv face1 2), Int.tmod (w64 ((w64 (Int.tdiv face1 2)) + 1)) 3, Int.tmod (w64 ((w64 (Int.tdiv face1 2)) + 2)) 3)
def tile_Of_1 (k : Nat) (v5 : Int) (v6 : Int) (x7 : Int) : Option (Int) :=
  if ¬ (v6 < 0) then (if ¬ ((w64 (2 * v5)) = 0) then (some (mn (w64 (Int.tdiv (w64 ((w64 (x7 + v5)) * 2 ^ (min (v6).toNat 64))) (w64 (2 * v5)))) (w64 ((w64 (1 * 2 ^ (min (v6).toNat 64))) - 1)))) else none) else none
def tile_Of.l0 (k : Nat) (vt100 : Int) (vt112 : Int) : Nat → Int → Int → Option (Int)
  | 0, _, _ => none
  | n_ + 1, vt137, b138 =>
    if b138 ≥ 0 then (if ¬ (b138 < 0) then (tile_Of.l0 k vt100 vt112 n_ (w64 ((w64 (4 * vt137)) + (w64 ((Go.bits .and .i64 (shr vt100 (min (b138).toNat 64)) 1) + (w64 (2 * (Go.bits .and .i64 (shr vt112 (min (b138).toNat 64)) 1))))))) (w64 (b138 - 1))) else none) else (some vt137)
def tile_Of (k : Nat) (v1 : S_Vec) (level2 : Int) : Option (Int × Int) :=
  (sphere_Check k v1).bind fun vt17 => (if vt17 ≠ 0 then (some (0, vt17)) else (if level2 < 0 then (some (0, 4)) else (if level2 > 12 then (some (0, 4)) else ((tile_faceOf k v1).bind fun vt42 => ((tile_parts k v1).bind fun vt50 => ((tile_axes k vt42).bind fun (vt64, vt65, vt66) => (if 0 ≤ vt64 then (if vt64 < 3 then (if 0 ≤ vt65 then (if vt65 < 3 then (if 0 ≤ vt66 then (if vt66 < 3 then ((tile_Of_1 k (mx (rd ([(vt50.getD 0 default), (vt50.getD 1 default), (vt50.getD 2 default)] : List Int) vt64) (w64 (0 - (rd ([(vt50.getD 0 default), (vt50.getD 1 default), (vt50.getD 2 default)] : List Int) vt64)))) level2 (rd ([(vt50.getD 0 default), (vt50.getD 1 default), (vt50.getD 2 default)] : List Int) vt65)).bind fun vt100 => ((tile_Of_1 k (mx (rd ([(vt50.getD 0 default), (vt50.getD 1 default), (vt50.getD 2 default)] : List Int) vt64) (w64 (0 - (rd ([(vt50.getD 0 default), (vt50.getD 1 default), (vt50.getD 2 default)] : List Int) vt64)))) level2 (rd ([(vt50.getD 0 default), (vt50.getD 1 default), (vt50.getD 2 default)] : List Int) vt66)).bind fun vt112 => ((tile_Of.l0 k vt100 vt112 k (w64 (8 + vt42)) (w64 (level2 - 1))).bind fun vt162 => (some (vt162, 0))))) else none) else none) else none) else none) else none) else none)))))))
def query_hull_Coord (k : Nat) (a1 : S_Bound) (b2 : S_Bound) : Option (S_Bound) :=
  some (⟨mn a1.Lo b2.Lo, mx a1.Hi b2.Hi, false⟩ : S_Bound)
def query_hull_Tick (k : Nat) (a1 : S_Bound) (b2 : S_Bound) : Option (S_Bound) :=
  some (⟨mn a1.Lo b2.Lo, mx a1.Hi b2.Hi, false⟩ : S_Bound)
def query_node_join (k : Nat) (n3 : S_node) (b14 : S_Box) (vt15 : S_Bound) : Option (Int × Int × Bool × Int × Int × Bool × Int × Int × Bool × Int × Int × Bool × (List S_node) × (List Int)) :=
  (query_hull_Coord k n3.box.X b14.X).bind fun vt35 => ((query_hull_Coord k n3.box.Y b14.Y).bind fun vt41 => ((query_hull_Coord k n3.box.Z b14.Z).bind fun vt47 => ((query_hull_Tick k n3.when vt15).bind fun vt62 => (some (vt35.Lo, vt35.Hi, vt35.Unknown, vt41.Lo, vt41.Hi, vt41.Unknown, vt47.Lo, vt47.Hi, vt47.Unknown, vt62.Lo, vt62.Hi, vt62.Unknown, n3.kids, n3.rows)))))
def query_New.l0 (k : Nat) (vt37 : List S_Row) (level5 : Int) : Nat → (List (Int × S_node)) → Int → (List Int) → Option ((List (Int × S_node)) × (List Int))
  | 0, _, _, _ => none
  | n_ + 1, vat299, x302, x303 =>
    if x302 < (vt37.length : Int) then (if 0 ≤ x302 then ((query_middle k ((rd vt37 x302).Box)).bind fun (vt342, vt343) => (if ¬ (vt343 = true) then (if (x303.length + 1) * 8 ≤ 140737488355328 then (query_New.l0 k vt37 level5 n_ vat299 (w64 (x302 + 1)) (x303 ++ ([x302] : List Int))) else none) else (if (((rd vt37 x302).When).Unknown) = true then (if (x303.length + 1) * 8 ≤ 140737488355328 then (query_New.l0 k vt37 level5 n_ vat299 (w64 (x302 + 1)) (x303 ++ ([x302] : List Int))) else none) else ((tile_Of k vt342 level5).bind fun (vt404, vt405) => (if ((mfind vat299 vt404).isSome) = true then ((query_node_join k (mget (default : S_node) vat299 vt404) ((rd vt37 x302).Box) ((rd vt37 x302).When)).bind fun (vt441, vt442, vt443, vt444, vt445, vt446, vt447, vt448, vt449, vt450, vt451, vt452, vt453, vt454) => (if (vt454.length + 1) * 8 ≤ 140737488355328 then (query_New.l0 k vt37 level5 n_ (mput vat299 vt404 (⟨(⟨(⟨vt441, vt442, vt443⟩ : S_Bound), (⟨vt444, vt445, vt446⟩ : S_Bound), (⟨vt447, vt448, vt449⟩ : S_Bound)⟩ : S_Box), (⟨vt450, vt451, vt452⟩ : S_Bound), vt453, (vt454 ++ ([x302] : List Int))⟩ : S_node)) (w64 (x302 + 1)) x303) else none)) else (query_New.l0 k vt37 level5 n_ (mput vat299 vt404 (⟨((rd vt37 x302).Box), ((rd vt37 x302).When), ([] : List S_node), ([x302] : List Int)⟩ : S_node)) (w64 (x302 + 1)) x303)))))) else none) else (some (vat299, x303))
def query_New.l2 (k : Nat) (vt1073 : List Int) (vat1028 : List (Int × S_node)) : Nat → (List (Int × S_node)) → Int → Option ((List (Int × S_node)))
  | 0, _, _ => none
  | n_ + 1, up1271, x1274 =>
    if x1274 < (vt1073.length : Int) then (if 0 ≤ x1274 then (if (mfind vat1028 (rd vt1073 x1274)).isSome = true then (if ((mfind up1271 (w64 (Int.tdiv (rd vt1073 x1274) 4))).isSome) = true then ((query_node_join k (mget (default : S_node) up1271 (w64 (Int.tdiv (rd vt1073 x1274) 4))) ((mget (default : S_node) vat1028 (rd vt1073 x1274)).box) ((mget (default : S_node) vat1028 (rd vt1073 x1274)).when)).bind fun (vt1356, vt1357, vt1358, vt1359, vt1360, vt1361, vt1362, vt1363, vt1364, vt1365, vt1366, vt1367, vt1368, vt1369) => (if (vt1368.length + 1) * 8 ≤ 140737488355328 then (query_New.l2 k vt1073 vat1028 n_ (mput up1271 (w64 (Int.tdiv (rd vt1073 x1274) 4)) (⟨(⟨(⟨vt1356, vt1357, vt1358⟩ : S_Bound), (⟨vt1359, vt1360, vt1361⟩ : S_Bound), (⟨vt1362, vt1363, vt1364⟩ : S_Bound)⟩ : S_Box), (⟨vt1365, vt1366, vt1367⟩ : S_Bound), (vt1368 ++ ([(mget (default : S_node) vat1028 (rd vt1073 x1274))] : List S_node)), vt1369⟩ : S_node)) (w64 (x1274 + 1))) else none)) else (query_New.l2 k vt1073 vat1028 n_ (mput up1271 (w64 (Int.tdiv (rd vt1073 x1274) 4)) (⟨((mget (default : S_node) vat1028 (rd vt1073 x1274)).box), ((mget (default : S_node) vat1028 (rd vt1073 x1274)).when), ([(mget (default : S_node) vat1028 (rd vt1073 x1274))] : List S_node), ([] : List Int)⟩ : S_node)) (w64 (x1274 + 1)))) else none) else none) else (some up1271)
def query_New.l1 (k : Nat) (level5 : Int) : Nat → (List (Int × S_node)) → Int → Option ((List (Int × S_node)))
  | 0, _, _ => none
  | n_ + 1, vat1028, x1033 =>
    if x1033 < level5 then ((sortedKeys vat1028).bind fun vt1073 => ((query_New.l2 k vt1073 vat1028 k ([] : List (Int × S_node)) 0).bind fun up1444 => (query_New.l1 k level5 n_ up1444 (w64 (x1033 + 1))))) else (some vat1028)
def query_New.l3 (k : Nat) (vt1503 : List Int) (vat1469 : List (Int × S_node)) : Nat → Int → (List S_node) → Option ((List S_node))
  | 0, _, _ => none
  | n_ + 1, x1602, x1603 =>
    if x1602 < (vt1503.length : Int) then (if 0 ≤ x1602 then (if (mfind vat1469 (rd vt1503 x1602)).isSome = true then (if (x1603.length + 1) * 8 ≤ 140737488355328 then (query_New.l3 k vt1503 vat1469 n_ (w64 (x1602 + 1)) (x1603 ++ ([(mget (default : S_node) vat1469 (rd vt1503 x1602))] : List S_node))) else none) else none) else none) else (some x1603)
def query_New (k : Nat) (rows1 : List S_Row) (level5 : Int) : Option (S_Index × Int) :=
  (catalog_Check k rows1).bind fun vt12 => (if vt12 ≠ 0 then (none) else (if level5 < 0 then (none) else (if level5 > 12 then (none) else ((catalog_Copy k rows1).bind fun vt37 => ((query_New.l0 k vt37 level5 k ([] : List (Int × S_node)) 0 ([] : List Int)).bind fun (vat520, x523) => ((query_New.l1 k level5 k vat520 0).bind fun vat1469 => ((sortedKeys vat1469).bind fun vt1503 => ((query_New.l3 k vt1503 vat1469 k 0 ([] : List S_node)).bind fun x1678 => (some ((⟨vt37, level5, x1678, x523⟩ : S_Index), 0))))))))))
def spykeep3_single (k : Nat) (vid1 : Int) : Option (S_Row) :=
  some (⟨vid1, (⟨(⟨0, 0, false⟩ : S_Bound), (⟨0, 0, false⟩ : S_Bound), (⟨0, 0, false⟩ : S_Bound)⟩ : S_Box), (⟨0, 0, false⟩ : S_Bound), (⟨0, 0, false⟩ : S_Bound), ([1] : List Int), 0⟩ : S_Row)
def query_CheckAsk.l0 (k : Nat) (q1 : S_Ask) : Nat → Int → Option (Sum Int Unit)
  | 0, _ => none
  | n_ + 1, x38 =>
    if x38 < (q1.Cones.length : Int) then (if 0 ≤ x38 then ((sphere_Check k ((rd q1.Cones x38).At)).bind fun vt73 => (if vt73 ≠ 0 then (some (Sum.inl vt73)) else (if ((rd q1.Cones x38).Cos) < 0 then (some (Sum.inl 4)) else (if ((rd q1.Cones x38).Cos) > 1073741824 then (some (Sum.inl 4)) else (query_CheckAsk.l0 k q1 n_ (w64 (x38 + 1))))))) else none) else (some (Sum.inr ()))
def query_CheckAsk (k : Nat) (q1 : S_Ask) : Option (Int) :=
  if (q1.Cones.length : Int) > 4 then (some 2) else ((query_CheckAsk.l0 k q1 k 0).bind fun z_ => Sum.elim (fun y_ => some y_) (fun _ => (if (mn q1.From q1.To) < (-17592186044416) then (some 4) else (if (mx q1.From q1.To) > 17592186044416 then (some 4) else (if q1.From > q1.To then (some 11) else (if q1.Least < 0 then (some 4) else (if q1.Least > 1125899906842624 then (some 4) else (if q1.Ban < 0 then (some 4) else (if q1.Ban > 3 then (some 4) else (some 0))))))))) z_)
def query_between_Tick (k : Nat) (b1 : S_Bound) (lo2 : Int) (hi3 : Int) : Option (Int) :=
  if b1.Unknown = true then (some 1) else (if b1.Hi < lo2 then (some 0) else (if b1.Lo > hi3 then (some 0) else (if b1.Lo ≥ lo2 then (if b1.Hi ≤ hi3 then (some 2) else (some 1)) else (some 1))))
def query_between_Quanta (k : Nat) (b1 : S_Bound) (lo2 : Int) (hi3 : Int) : Option (Int) :=
  if b1.Unknown = true then (some 1) else (if b1.Hi < lo2 then (some 0) else (if b1.Lo > hi3 then (some 0) else (if b1.Lo ≥ lo2 then (if b1.Hi ≤ hi3 then (some 2) else (some 1)) else (some 1))))
def query_point_1 (k : Nat) (c1 : Int) : Option (S_Bound) :=
  some (⟨c1, c1, false⟩ : S_Bound)
def query_point (k : Nat) (v1 : S_Vec) : Option (S_Box) :=
  (query_point_1 k v1.X).bind fun vt20 => ((query_point_1 k v1.Y).bind fun vt26 => ((query_point_1 k v1.Z).bind fun vt32 => (some (⟨vt20, vt26, vt32⟩ : S_Box))))
def query_product (k : Nat) (a1 : S_Bound) (b2 : S_Bound) : Option (Int × Int) :=
  some (mn (mn (mn (w64 (a1.Lo * b2.Lo)) (w64 (a1.Lo * b2.Hi))) (w64 (a1.Hi * b2.Lo))) (w64 (a1.Hi * b2.Hi)), mx (mx (mx (w64 (a1.Lo * b2.Lo)) (w64 (a1.Lo * b2.Hi))) (w64 (a1.Hi * b2.Lo))) (w64 (a1.Hi * b2.Hi)))
def query_square (k : Nat) (b1 : S_Bound) : Option (Int × Int) :=
  if b1.Lo > 0 then (some (mn (w64 (b1.Lo * b1.Lo)) (w64 (b1.Hi * b1.Hi)), mx (w64 (b1.Lo * b1.Lo)) (w64 (b1.Hi * b1.Hi)))) else (if b1.Hi < 0 then (some (mn (w64 (b1.Lo * b1.Lo)) (w64 (b1.Hi * b1.Hi)), mx (w64 (b1.Lo * b1.Lo)) (w64 (b1.Hi * b1.Hi)))) else (some (0, mx (w64 (b1.Lo * b1.Lo)) (w64 (b1.Hi * b1.Hi)))))
def bits_Mul64 (k : Nat) (x1 : Int) (y2 : Int) : Option (Int × Int) :=
  some (u64 ((u64 ((u64 ((shr x1 32) * (shr y2 32))) + (shr (u64 ((u64 ((shr x1 32) * (Go.bits .and .u64 y2 4294967295))) + (shr (u64 ((Go.bits .and .u64 x1 4294967295) * (Go.bits .and .u64 y2 4294967295))) 32))) 32))) + (shr (u64 ((Go.bits .and .u64 (u64 ((u64 ((shr x1 32) * (Go.bits .and .u64 y2 4294967295))) + (shr (u64 ((Go.bits .and .u64 x1 4294967295) * (Go.bits .and .u64 y2 4294967295))) 32))) 4294967295) + (u64 ((Go.bits .and .u64 x1 4294967295) * (shr y2 32))))) 32)), u64 (x1 * y2))
def num_SqrtMul.l0 (k : Nat) (vt18 : Int) (vt19 : Int) : Nat → Int → Int → Option (Int)
  | 0, _, _ => none
  | n_ + 1, r46, bit47 =>
    if bit47 > 0 then ((bits_Mul64 k (Go.bits .or .u64 r46 bit47) (Go.bits .or .u64 r46 bit47)).bind fun (vt65, vt66) => (if vt65 < vt18 then (num_SqrtMul.l0 k vt18 vt19 n_ (Go.bits .or .u64 r46 bit47) (shr bit47 1)) else (if vt65 = vt18 then (if vt66 ≤ vt19 then (num_SqrtMul.l0 k vt18 vt19 n_ (Go.bits .or .u64 r46 bit47) (shr bit47 1)) else (num_SqrtMul.l0 k vt18 vt19 n_ r46 (shr bit47 1))) else (num_SqrtMul.l0 k vt18 vt19 n_ r46 (shr bit47 1))))) else (some r46)
def num_SqrtMul (k : Nat) (a1 : Int) (b2 : Int) : Option (Int) :=
  if a1 < 0 then (some 0) else (if b2 < 0 then (some 0) else ((bits_Mul64 k (u64 (a1)) (u64 (b2))).bind fun (vt18, vt19) => ((num_SqrtMul.l0 k vt18 vt19 k 0 4611686018427387904).bind fun r83 => (some (w64 (r83))))))
def num_size (k : Nat) (a1 : Int) : Option (Int) :=
  if a1 < 0 then (some (u64 (0 - (u64 (a1))))) else (some (u64 (a1)))
def num_Wide_Neg (k : Nat) (vw1 : S_Wide) : Option (S_Wide) :=
  if 0 ≤ (Go.bits .xor .u64 IntKind.u64.max vw1.Lo) then (if 0 ≤ (Go.bits .xor .u64 IntKind.u64.max (u64 (vw1.Hi))) then (if 0 ≤ (((Go.bits .xor .u64 IntKind.u64.max vw1.Lo) + 1 + 0) / 18446744073709551616) then (if (((Go.bits .xor .u64 IntKind.u64.max vw1.Lo) + 1 + 0) / 18446744073709551616) ≤ 1 then (some (⟨w64 (((Go.bits .xor .u64 IntKind.u64.max (u64 (vw1.Hi))) + 0 + (((Go.bits .xor .u64 IntKind.u64.max vw1.Lo) + 1 + 0) / 18446744073709551616)) % 18446744073709551616), ((Go.bits .xor .u64 IntKind.u64.max vw1.Lo) + 1 + 0) % 18446744073709551616⟩ : S_Wide)) else none) else none) else none) else none
def num_Product (k : Nat) (a1 : Int) (b2 : Int) : Option (S_Wide) :=
  (num_size k a1).bind fun vt11 => ((num_size k b2).bind fun vt17 => ((bits_Mul64 k vt11 vt17).bind fun (vt23, vt24) => (if ((decide (a1 < 0)) != (decide (b2 < 0))) = true then ((num_Wide_Neg k (⟨w64 (vt23), vt24⟩ : S_Wide)).bind fun vt46 => (some vt46)) else (some (⟨w64 (vt23), vt24⟩ : S_Wide)))))
def cmp_isNaN_int64 (k : Nat) (x1 : Int) : Option (Bool) :=
  some (x1 != x1)
def cmp_Compare_int64 (k : Nat) (x1 : Int) (y2 : Int) : Option (Int) :=
  (cmp_isNaN_int64 k x1).bind fun vt7 => ((cmp_isNaN_int64 k y2).bind fun vt15 => (if vt7 = true then (if vt15 = true then (some 0) else (some (-1))) else (if vt15 = true then (some 1) else (if x1 < y2 then (some (-1)) else (if x1 > y2 then (some 1) else (some 0))))))
def cmp_isNaN_uint64 (k : Nat) (x1 : Int) : Option (Bool) :=
  some (x1 != x1)
def cmp_Compare_uint64 (k : Nat) (x1 : Int) (y2 : Int) : Option (Int) :=
  (cmp_isNaN_uint64 k x1).bind fun vt7 => ((cmp_isNaN_uint64 k y2).bind fun vt15 => (if vt7 = true then (if vt15 = true then (some 0) else (some (-1))) else (if vt15 = true then (some 1) else (if x1 < y2 then (some (-1)) else (if x1 > y2 then (some 1) else (some 0))))))
def cmp_Or_int.l0 (k : Nat) (vals1 : List Int) : Nat → Int → Option (Sum Int Unit)
  | 0, _ => none
  | n_ + 1, x28 =>
    if x28 < (vals1.length : Int) then (if 0 ≤ x28 then (if (rd vals1 x28) ≠ 0 then (some (Sum.inl (rd vals1 x28))) else (cmp_Or_int.l0 k vals1 n_ (w64 (x28 + 1)))) else none) else (some (Sum.inr ()))
def cmp_Or_int (k : Nat) (vals1 : List Int) : Option (Int) :=
  (cmp_Or_int.l0 k vals1 k 0).bind fun z_ => Sum.elim (fun y_ => some y_) (fun _ => (some 0)) z_
def num_Wide_Cmp (k : Nat) (vw1 : S_Wide) (v2 : S_Wide) : Option (Int) :=
  (cmp_Compare_int64 k vw1.Hi v2.Hi).bind fun vt17 => ((cmp_Compare_uint64 k vw1.Lo v2.Lo).bind fun vt23 => ((cmp_Or_int k ([vt17, vt23] : List Int)).bind fun vt40 => (some vt40)))
def query_Near (k : Nat) (a1 : S_Box) (b2 : S_Box) (cos3 : Int) : Option (Int) :=
  (query_sides k a1).bind fun (vt16, vt17) => ((query_sides k b2).bind fun (vt31, vt32) => (if cos3 < 0 then (some 0) else (if cos3 > 1073741824 then (some 0) else (if ¬ (vt17 = true) then (some 1) else (if ¬ (vt32 = true) then (some 1) else ((query_product k (vt16.getD 0 default) (vt31.getD 0 default)).bind fun (vt99, vt100) => ((query_square k (vt16.getD 0 default)).bind fun (vt110, vt111) => ((query_square k (vt31.getD 0 default)).bind fun (vt121, vt122) => ((query_product k (vt16.getD 1 default) (vt31.getD 1 default)).bind fun (vt149, vt150) => ((query_square k (vt16.getD 1 default)).bind fun (vt160, vt161) => ((query_square k (vt31.getD 1 default)).bind fun (vt171, vt172) => ((query_product k (vt16.getD 2 default) (vt31.getD 2 default)).bind fun (vt199, vt200) => ((query_square k (vt16.getD 2 default)).bind fun (vt210, vt211) => ((query_square k (vt31.getD 2 default)).bind fun (vt221, vt222) => ((num_SqrtMul k (w64 ((w64 ((w64 (0 + vt111)) + vt161)) + vt211)) (w64 ((w64 ((w64 (0 + vt122)) + vt172)) + vt222))).bind fun vt236 => ((num_Product k vt236 vt236).bind fun vt246 => ((num_Product k (w64 ((w64 ((w64 (0 + vt111)) + vt161)) + vt211)) (w64 ((w64 ((w64 (0 + vt122)) + vt172)) + vt222))).bind fun vt252 => ((num_Wide_Cmp k vt246 vt252).bind fun vt258 => (((if vt258 < 0 then (some (w64 (vt236 + 1))) else (some vt236) : Option (Int))).bind fun root271 => (if (w64 ((w64 ((w64 (0 + vt110)) + vt160)) + vt210)) > 0 then (if (w64 ((w64 ((w64 (0 + vt121)) + vt171)) + vt221)) > 0 then ((num_Product k (w64 ((w64 ((w64 (0 + vt99)) + vt149)) + vt199)) 1073741824).bind fun vt288 => ((num_Product k cos3 root271).bind fun vt294 => ((num_Wide_Cmp k vt288 vt294).bind fun vt300 => (if vt300 ≥ 0 then (some 2) else ((num_Product k (w64 ((w64 ((w64 (0 + vt100)) + vt150)) + vt200)) 1073741824).bind fun vt312 => ((num_SqrtMul k (w64 ((w64 ((w64 (0 + vt110)) + vt160)) + vt210)) (w64 ((w64 ((w64 (0 + vt121)) + vt171)) + vt221))).bind fun vt318 => ((num_Product k cos3 vt318).bind fun vt324 => ((num_Wide_Cmp k vt312 vt324).bind fun vt330 => (if vt330 < 0 then (some 0) else (some 1)))))))))) else ((num_Product k (w64 ((w64 ((w64 (0 + vt100)) + vt150)) + vt200)) 1073741824).bind fun vt342 => ((num_SqrtMul k (w64 ((w64 ((w64 (0 + vt110)) + vt160)) + vt210)) (w64 ((w64 ((w64 (0 + vt121)) + vt171)) + vt221))).bind fun vt348 => ((num_Product k cos3 vt348).bind fun vt354 => ((num_Wide_Cmp k vt342 vt354).bind fun vt360 => (if vt360 < 0 then (some 0) else (some 1))))))) else ((num_Product k (w64 ((w64 ((w64 (0 + vt100)) + vt150)) + vt200)) 1073741824).bind fun vt372 => ((num_SqrtMul k (w64 ((w64 ((w64 (0 + vt110)) + vt160)) + vt210)) (w64 ((w64 ((w64 (0 + vt121)) + vt171)) + vt221))).bind fun vt378 => ((num_Product k cos3 vt378).bind fun vt384 => ((num_Wide_Cmp k vt372 vt384).bind fun vt390 => (if vt390 < 0 then (some 0) else (some 1))))))))))))))))))))))))))
def query_grade.l0 (k : Nat) (q5 : S_Ask) (r1 : S_Row) : Nat → Int → Int → Option (Int)
  | 0, _, _ => none
  | n_ + 1, vg69, x70 =>
    if x70 < (q5.Cones.length : Int) then (if 0 ≤ x70 then ((query_point k ((rd q5.Cones x70).At)).bind fun vt103 => ((query_Near k r1.Box vt103 ((rd q5.Cones x70).Cos)).bind fun vt109 => (query_grade.l0 k q5 r1 n_ (mn vg69 vt109) (w64 (x70 + 1))))) else none) else (some vg69)
def query_grade (k : Nat) (r1 : S_Row) (q5 : S_Ask) : Option (Int) :=
  (query_between_Tick k r1.When q5.From q5.To).bind fun vt23 => ((query_between_Quanta k r1.Flux q5.Least 1125899906842624).bind fun vt29 => (((if (Go.bits .and .i64 r1.Marks q5.Ban) ≠ 0 then (some 0) else (some (mn vt23 vt29)) : Option (Int))).bind fun vg46 => ((query_grade.l0 k q5 r1 k vg46 0).bind fun vg120 => (some vg120))))
def query_Index_Run_1 (k : Nat) (v9 : S_Index) (v19 : S_Ask) (v23 : List S_Answer) (i29 : Int) : Option ((List S_Answer)) :=
  if 0 ≤ i29 then (if i29 < (v9.rows.length : Int) then ((query_grade k (rd v9.rows i29) v19).bind fun vt43 => (if vt43 ≠ 0 then (if (v23.length + 1) * 16 ≤ 140737488355328 then (some (v23 ++ ([(⟨(rd v9.rows i29).ID, vt43⟩ : S_Answer)] : List S_Answer))) else none) else (some v23))) else none) else none
def query_Index_Run_2.l0 (k : Nat) (v3 : S_Ask) (n9 : S_node) : Nat → Int → Int → Option (Int)
  | 0, _, _ => none
  | n_ + 1, vg49, x50 =>
    if x50 < (v3.Cones.length : Int) then (if 0 ≤ x50 then ((query_point k ((rd v3.Cones x50).At)).bind fun vt83 => ((query_Near k n9.box vt83 ((rd v3.Cones x50).Cos)).bind fun vt89 => (query_Index_Run_2.l0 k v3 n9 n_ (mn vg49 vt89) (w64 (x50 + 1))))) else none) else (some vg49)
def query_Index_Run_2 (k : Nat) (v3 : S_Ask) (n9 : S_node) : Option (Bool) :=
  (query_between_Tick k n9.when v3.From v3.To).bind fun vt24 => ((query_Index_Run_2.l0 k v3 n9 k vt24 0).bind fun vg100 => (some (vg100 != 0)))
def query_walk__query_Index_Run_2__query_Index_Run_1.l1 (k : Nat) (l29 : List S_node) (x589 : Int) (v13 : S_Index) (v9 : S_Ask) : Nat → Int → (List S_Answer) → Option ((List S_Answer))
  | 0, _, _ => none
  | n_ + 1, x785, x786 =>
    if x785 < (((rd l29 x589).rows).length : Int) then (if 0 ≤ x785 then ((query_Index_Run_1 k v13 v9 x786 (rd ((rd l29 x589).rows) x785)).bind fun vt819 => (query_walk__query_Index_Run_2__query_Index_Run_1.l1 k l29 x589 v13 v9 n_ (w64 (x785 + 1)) vt819)) else none) else (some x786)
def query_walk__query_Index_Run_2__query_Index_Run_1.l0 (k : Nat) (self_ : S_Ask → S_Index → (List S_Answer) → (List S_node) → Option (Int × (List S_Answer))) (l29 : List S_node) (v9 : S_Ask) (v13 : S_Index) : Nat → Int → Int → (List S_Answer) → Option (Int × (List S_Answer))
  | 0, _, _, _ => none
  | n_ + 1, cost588, x589, x590 =>
    if x589 < (l29.length : Int) then (if 0 ≤ x589 then ((query_Index_Run_2 k v9 (rd l29 x589)).bind fun vt632 => (if ¬ (vt632 = true) then (query_walk__query_Index_Run_2__query_Index_Run_1.l0 k self_ l29 v9 v13 n_ cost588 (w64 (x589 + 1)) x590) else ((self_ v9 v13 x590 ((rd l29 x589).kids)).bind fun (vt654, vt655) => ((query_walk__query_Index_Run_2__query_Index_Run_1.l1 k l29 x589 v13 v9 k 0 vt655).bind fun x835 => (query_walk__query_Index_Run_2__query_Index_Run_1.l0 k self_ l29 v9 v13 n_ (w64 (cost588 + (w64 ((((rd l29 x589).rows).length : Int) + vt654)))) (w64 (x589 + 1)) x835))))) else none) else (some (cost588, x590))
def query_walk__query_Index_Run_2__query_Index_Run_1.r (k : Nat) : Nat → S_Ask → S_Index → (List S_Answer) → (List S_node) → Option (Int × (List S_Answer))
  | 0, _, _, _, _ => none
  | q_ + 1, v9, v13, v23, l29 =>
    (query_walk__query_Index_Run_2__query_Index_Run_1.l0 k (query_walk__query_Index_Run_2__query_Index_Run_1.r k q_) l29 v9 v13 k (l29.length : Int) 0 v23).bind fun (cost853, x854) => (some (cost853, x854))
def query_walk__query_Index_Run_2__query_Index_Run_1 (k : Nat) (v9 : S_Ask) (v13 : S_Index) (v23 : List S_Answer) (l29 : List S_node) : Option (Int × (List S_Answer)) := query_walk__query_Index_Run_2__query_Index_Run_1.r k k v9 v13 v23 l29
def bits_Len64 (k : Nat) (x1 : Int) : Option (Int) :=
  ((if x1 ≥ 4294967296 then (some ((shr x1 32), 32)) else (some (x1, 0)) : Option (Int × Int))).bind fun (x17, n18) => (((if x17 ≥ 65536 then (some ((shr x17 16), (w64 (n18 + 16)))) else (some (x17, n18)) : Option (Int × Int))).bind fun (x35, n36) => (if x35 ≥ 256 then (if 0 ≤ (u8 (shr x35 8)) then (if (u8 (shr x35 8)) < (str0.size : Int) then (some (w64 ((w64 (n36 + 8)) + (w64 ((bt str0 (u8 (shr x35 8)))))))) else none) else none) else (if 0 ≤ (u8 (x35)) then (if (u8 (x35)) < (str0.size : Int) then (some (w64 (n36 + (w64 ((bt str0 (u8 (x35)))))))) else none) else none)))
def bits_Len (k : Nat) (x1 : Int) : Option (Int) :=
  (bits_Len64 k x1).bind fun vt8 => (some vt8)
def query_Index_Run_3 (k : Nat) (a1 : S_Answer) (b2 : S_Answer) : Option (Int) :=
  some (w64 (a1.ID - b2.ID))
def slices_insertionSortCmpFunc_Answer__query_Index_Run_3.l1 (k : Nat) (a7 : Int) : Nat → (List S_Answer) → Int → Option ((List S_Answer))
  | 0, _, _ => none
  | n_ + 1, data313, j317 =>
    if j317 > a7 then (if 0 ≤ j317 then (if j317 < (data313.length : Int) then (if 0 ≤ (w64 (j317 - 1)) then (if (w64 (j317 - 1)) < (data313.length : Int) then ((query_Index_Run_3 k (rd data313 j317) (rd data313 (w64 (j317 - 1)))).bind fun vt341 => (if vt341 < 0 then (if (w64 (j317 - 1)) < ((data313.set (j317).toNat (rd data313 (w64 (j317 - 1)))).length : Int) then (slices_insertionSortCmpFunc_Answer__query_Index_Run_3.l1 k a7 n_ ((data313.set (j317).toNat (rd data313 (w64 (j317 - 1)))).set (w64 (j317 - 1)).toNat (rd data313 j317)) (w64 (j317 - 1))) else none) else (some data313))) else none) else none) else none) else none) else (some data313)
def slices_insertionSortCmpFunc_Answer__query_Index_Run_3.l0 (k : Nat) (b8 : Int) (a7 : Int) : Nat → (List S_Answer) → Int → Option ((List S_Answer))
  | 0, _, _ => none
  | n_ + 1, data209, i213 =>
    if i213 < b8 then ((slices_insertionSortCmpFunc_Answer__query_Index_Run_3.l1 k a7 k data209 i213).bind fun data380 => (slices_insertionSortCmpFunc_Answer__query_Index_Run_3.l0 k b8 a7 n_ data380 (w64 (i213 + 1)))) else (some data209)
def slices_insertionSortCmpFunc_Answer__query_Index_Run_3 (k : Nat) (data5 : List S_Answer) (a7 : Int) (b8 : Int) : Option ((List S_Answer)) :=
  (slices_insertionSortCmpFunc_Answer__query_Index_Run_3.l0 k b8 a7 k data5 (w64 (a7 + 1))).bind fun data392 => (some data392)
def slices_pdqsortCmpFunc_Answer__query_Index_Run_3.l0 (k : Nat) (data5 : List S_Answer) : Nat → Int → Int → Int → Bool → Bool → Option (Sum (List S_Answer) Unit)
  | 0, _, _, _, _, _ => none
  | n_ + 1, a29, b30, limit31, wasBalanced32, wasPartitioned33 =>
    if (w64 (b30 - a29)) ≤ 12 then ((slices_insertionSortCmpFunc_Answer__query_Index_Run_3 k data5 a29 b30).bind fun vt51 => (some (Sum.inl vt51))) else (none)
def slices_pdqsortCmpFunc_Answer__query_Index_Run_3 (k : Nat) (data5 : List S_Answer) (a7 : Int) (b8 : Int) (limit9 : Int) : Option ((List S_Answer)) :=
  (slices_pdqsortCmpFunc_Answer__query_Index_Run_3.l0 k data5 k a7 b8 limit9 true true).bind fun z_ => Sum.elim (fun y_ => some y_) (fun _ => (none)) z_
def slices_SortFunc_Answer__query_Index_Run_3 (k : Nat) (x5 : List S_Answer) : Option ((List S_Answer)) :=
  (bits_Len k (u64 ((x5.length : Int)))).bind fun vt9 => ((slices_pdqsortCmpFunc_Answer__query_Index_Run_3 k x5 0 (x5.length : Int) vt9).bind fun vt15 => (some vt15))
def query_Index_Run.l0 (k : Nat) (x3 : S_Index) (q13 : S_Ask) : Nat → Int → (List S_Answer) → Option ((List S_Answer))
  | 0, _, _ => none
  | n_ + 1, x123, x124 =>
    if x123 < (x3.loose.length : Int) then (if 0 ≤ x123 then ((query_Index_Run_1 k x3 q13 x124 (rd x3.loose x123)).bind fun vt158 => (query_Index_Run.l0 k x3 q13 n_ (w64 (x123 + 1)) vt158)) else none) else (some x124)
def query_Index_Run (k : Nat) (x3 : S_Index) (q13 : S_Ask) : Option ((List S_Answer) × Int × Int) :=
  (query_CheckAsk k q13).bind fun vt31 => (if vt31 ≠ 0 then (some (([] : List S_Answer), 0, vt31)) else ((query_Index_Run.l0 k x3 q13 k 0 ([] : List S_Answer)).bind fun x174 => ((query_walk__query_Index_Run_2__query_Index_Run_1 k q13 x3 x174 x3.roots).bind fun (vt203, vt204) => ((slices_SortFunc_Answer__query_Index_Run_3 k vt204).bind fun vt353 => (some (vt353, w64 ((x3.loose.length : Int) + vt203), 0))))))
def spykeep3_asked (k : Nat) : Option (Bool) :=
  (spykeep3_single k 1).bind fun vt5 => ((query_New k ([vt5] : List S_Row) 2).bind fun (vt30, vt31) => (if vt31 ≠ 0 then (some false) else ((query_Index_Run k vt30 (⟨([] : List S_Cone), 0, 0, 0, 0⟩ : S_Ask)).bind fun (vt57, vt58, vt59) => (if vt59 = 0 then (if vt58 > 0 then (if (vt57.length : Int) = 1 then (if 0 < (vt57.length : Int) then (some (((rd vt57 0).ID) == 1)) else none) else (some false)) else (some false)) else (some false)))))
def query_Index_Join_1 (k : Nat) (v11 : S_Index) (v21 : S_Row) (v25 : Int) (v26 : List S_Pair) (i32 : Int) : Option ((List S_Pair)) :=
  if 0 ≤ i32 then (if i32 < (v11.rows.length : Int) then ((query_Near k ((rd v11.rows i32).Box) v21.Box v25).bind fun vt46 => (if vt46 ≠ 0 then (if (v26.length + 1) * 24 ≤ 140737488355328 then (some (v26 ++ ([(⟨(rd v11.rows i32).ID, v21.ID, vt46⟩ : S_Pair)] : List S_Pair))) else none) else (some v26))) else none) else none
def query_Index_Join_2 (k : Nat) (v5 : S_Row) (v9 : Int) (n12 : S_node) : Option (Bool) :=
  (query_Near k n12.box v5.Box v9).bind fun vt27 => (some (vt27 != 0))
def query_walk__query_Index_Join_2__query_Index_Join_1.l1 (k : Nat) (l32 : List S_node) (x608 : Int) (v16 : S_Index) (v11 : S_Row) (v15 : Int) : Nat → Int → (List S_Pair) → Option ((List S_Pair))
  | 0, _, _ => none
  | n_ + 1, x810, x811 =>
    if x810 < (((rd l32 x608).rows).length : Int) then (if 0 ≤ x810 then ((query_Index_Join_1 k v16 v11 v15 x811 (rd ((rd l32 x608).rows) x810)).bind fun vt845 => (query_walk__query_Index_Join_2__query_Index_Join_1.l1 k l32 x608 v16 v11 v15 n_ (w64 (x810 + 1)) vt845)) else none) else (some x811)
def query_walk__query_Index_Join_2__query_Index_Join_1.l0 (k : Nat) (self_ : S_Row → Int → S_Index → (List S_Pair) → (List S_node) → Option (Int × (List S_Pair))) (l32 : List S_node) (v11 : S_Row) (v15 : Int) (v16 : S_Index) : Nat → Int → Int → (List S_Pair) → Option (Int × (List S_Pair))
  | 0, _, _, _ => none
  | n_ + 1, cost607, x608, x609 =>
    if x608 < (l32.length : Int) then (if 0 ≤ x608 then ((query_Index_Join_2 k v11 v15 (rd l32 x608)).bind fun vt653 => (if ¬ (vt653 = true) then (query_walk__query_Index_Join_2__query_Index_Join_1.l0 k self_ l32 v11 v15 v16 n_ cost607 (w64 (x608 + 1)) x609) else ((self_ v11 v15 v16 x609 ((rd l32 x608).kids)).bind fun (vt677, vt678) => ((query_walk__query_Index_Join_2__query_Index_Join_1.l1 k l32 x608 v16 v11 v15 k 0 vt678).bind fun x861 => (query_walk__query_Index_Join_2__query_Index_Join_1.l0 k self_ l32 v11 v15 v16 n_ (w64 (cost607 + (w64 ((((rd l32 x608).rows).length : Int) + vt677)))) (w64 (x608 + 1)) x861))))) else none) else (some (cost607, x609))
def query_walk__query_Index_Join_2__query_Index_Join_1.r (k : Nat) : Nat → S_Row → Int → S_Index → (List S_Pair) → (List S_node) → Option (Int × (List S_Pair))
  | 0, _, _, _, _, _ => none
  | q_ + 1, v11, v15, v16, v26, l32 =>
    (query_walk__query_Index_Join_2__query_Index_Join_1.l0 k (query_walk__query_Index_Join_2__query_Index_Join_1.r k q_) l32 v11 v15 v16 k (l32.length : Int) 0 v26).bind fun (cost880, x881) => (some (cost880, x881))
def query_walk__query_Index_Join_2__query_Index_Join_1 (k : Nat) (v11 : S_Row) (v15 : Int) (v16 : S_Index) (v26 : List S_Pair) (l32 : List S_node) : Option (Int × (List S_Pair)) := query_walk__query_Index_Join_2__query_Index_Join_1.r k k v11 v15 v16 v26 l32
def slices_SortFunc_Pair__query_Index_Join_3 (k : Nat) (xs : List S_Pair) : Option (List S_Pair) :=
  if ∀ x ∈ xs, (-2147483648 ≤ x.Left ∧ x.Left ≤ 2147483648) ∧ (-2147483648 ≤ x.Right ∧ x.Right ≤ 2147483648) then (if xs.Pairwise (fun x y => ¬ (x.Left = y.Left ∧ x.Right = y.Right)) then (if xs.length < 4611686018427387904 then some (xs.mergeSort fun x y => decide (x.Left < y.Left ∨ (x.Left = y.Left ∧ x.Right ≤ y.Right))) else none) else none) else none
def query_Index_Join.l1 (k : Nat) (x3 : S_Index) (rows13 : List S_Row) (x282 : Int) (cos17 : Int) : Nat → Int → (List S_Pair) → Option ((List S_Pair))
  | 0, _, _ => none
  | n_ + 1, x447, x448 =>
    if x447 < (x3.loose.length : Int) then (if 0 ≤ x447 then ((query_Index_Join_1 k x3 (rd rows13 x282) cos17 x448 (rd x3.loose x447)).bind fun vt483 => (query_Index_Join.l1 k x3 rows13 x282 cos17 n_ (w64 (x447 + 1)) vt483)) else none) else (some x448)
def query_Index_Join.l0 (k : Nat) (rows13 : List S_Row) (x3 : S_Index) (cos17 : Int) : Nat → Int → (List S_Pair) → Option ((List S_Pair))
  | 0, _, _ => none
  | n_ + 1, x282, x283 =>
    if x282 < (rows13.length : Int) then (if 0 ≤ x282 then ((query_Index_Join.l1 k x3 rows13 x282 cos17 k 0 x283).bind fun x499 => ((query_walk__query_Index_Join_2__query_Index_Join_1 k (rd rows13 x282) cos17 x3 x499 x3.roots).bind fun (vt519, vt520) => (query_Index_Join.l0 k rows13 x3 cos17 n_ (w64 (x282 + 1)) vt520))) else none) else (some x283)
def query_Index_Join (k : Nat) (x3 : S_Index) (rows13 : List S_Row) (cos17 : Int) : Option ((List S_Pair) × Int) :=
  (catalog_Check k rows13).bind fun vt32 => (if vt32 ≠ 0 then (some (([] : List S_Pair), vt32)) else (if cos17 < 0 then (some (([] : List S_Pair), 4)) else (if cos17 > 1073741824 then (some (([] : List S_Pair), 4)) else ((query_Index_Join.l0 k rows13 x3 cos17 k 0 ([] : List S_Pair)).bind fun x536 => ((slices_SortFunc_Pair__query_Index_Join_3 k x536).bind fun vt556 => (some (vt556, 0)))))))
def slices_Index_Pair.l0 (k : Nat) (s1 : List S_Pair) (v5 : S_Pair) : Nat → Int → Option (Sum Int Unit)
  | 0, _ => none
  | n_ + 1, x31 =>
    if x31 < (s1.length : Int) then (if 0 ≤ x31 then (if ((v5.Left == ((rd s1 x31).Left)) && ((v5.Right == ((rd s1 x31).Right)) && ((v5.Grade == ((rd s1 x31).Grade)) && true))) = true then (some (Sum.inl x31)) else (slices_Index_Pair.l0 k s1 v5 n_ (w64 (x31 + 1)))) else none) else (some (Sum.inr ()))
def slices_Index_Pair (k : Nat) (s1 : List S_Pair) (v5 : S_Pair) : Option (Int) :=
  (slices_Index_Pair.l0 k s1 v5 k 0).bind fun z_ => Sum.elim (fun y_ => some y_) (fun _ => (some (-1))) z_
def slices_Contains_Pair (k : Nat) (s1 : List S_Pair) (v5 : S_Pair) : Option (Bool) :=
  (slices_Index_Pair k s1 v5).bind fun vt14 => (some (decide (vt14 ≥ 0)))
def spykeep3_QueryJoinsTurn.l0 (k : Nat) (vt143 : List S_Pair) (vt158 : List S_Pair) : Nat → Int → Option (Sum Bool Unit)
  | 0, _ => none
  | n_ + 1, x203 =>
    if x203 < (vt143.length : Int) then (if 0 ≤ x203 then ((slices_Contains_Pair k vt158 (⟨(rd vt143 x203).Right, (rd vt143 x203).Left, (rd vt143 x203).Grade⟩ : S_Pair)).bind fun vt242 => (if ¬ (vt242 = true) then (some (Sum.inl false)) else (spykeep3_QueryJoinsTurn.l0 k vt143 vt158 n_ (w64 (x203 + 1))))) else none) else (some (Sum.inr ()))
def spykeep3_QueryJoinsTurn (k : Nat) (l1 : List Int) (deep5 : Int) (cos6 : Int) : Option (Bool) :=
  (spymake_Stream_Rows k (⟨l1, 0⟩ : S_Stream) 8).bind fun (vt17, vt18) => ((spymake_Stream_Rows k (⟨l1, vt18⟩ : S_Stream) 8).bind fun (vt30, vt31) => ((spymake_Stream_Range k (⟨l1, vt31⟩ : S_Stream) 1 30).bind fun (vt45, vt46) => (if ¬ (vt45 < 0) then ((spymake_Below k cos6 (w64 (1 * 2 ^ (min (vt45).toNat 64)))).bind fun vt53 => ((spymake_Below k deep5 9).bind fun vt61 => ((query_New k vt17 vt61).bind fun (vt72, vt73) => ((spymake_Below k (w64 (Int.tdiv deep5 9)) 9).bind fun vt92 => ((query_New k vt30 vt92).bind fun (vt103, vt104) => ((spykeep3_asked k).bind fun vt125 => (if ¬ (vt125 = true) then (some false) else (if vt73 ≠ 0 then (some false) else (if vt104 ≠ 0 then (some false) else ((query_Index_Join k vt72 vt30 (w64 (1073741824 - vt53))).bind fun (vt143, vt144) => ((query_Index_Join k vt103 vt17 (w64 (1073741824 - vt53))).bind fun (vt158, vt159) => (if vt144 ≠ 0 then (some false) else (if vt159 ≠ 0 then (some false) else (if (vt143.length : Int) ≠ (vt158.length : Int) then (some false) else ((spykeep3_QueryJoinsTurn.l0 k vt143 vt158 k 0).bind fun z_ => Sum.elim (fun y_ => some y_) (fun _ => (some true)) z_))))))))))))))) else none)))
end Go.Sp.J7
