import Derived.Test.YtdogeeomknanpaaSpCopy
namespace Go.Sp.U4
open Go Go.Sp
set_option linter.unusedVariables false
structure S_Stream where
  L : List Int
  vat : Int
instance : Inhabited S_Stream := ⟨⟨default, default⟩⟩
structure S_Bound where
  Lo : Int
  Hi : Int
  Unknown : Bool
instance : Inhabited S_Bound := ⟨⟨default, default, default⟩⟩
structure S_Cells where
  W : Int
  H : Int
  At : List S_Bound
instance : Inhabited S_Cells := ⟨⟨default, default, default⟩⟩
def spymake_Below (k : Nat) (x1 : Int) (n2 : Int) : Option (Int) :=
  if n2 < 1 then (some 0) else (if ¬ (n2 = 0) then (if (Int.tmod x1 n2) < 0 then (some (w64 ((Int.tmod x1 n2) + n2))) else (some (Int.tmod x1 n2))) else none)
def spymake_Stream_Next (k : Nat) (s3 : S_Stream) (n7 : Int) : Option (Int × Int) :=
  if (s3.L.length : Int) = 0 then ((spymake_Below k (w64 ((w64 (s3.vat + 1)) * 7919)) n7).bind fun vt22 => (some (vt22, w64 (s3.vat + 1)))) else (if ¬ ((s3.L.length : Int) = 0) then (if 0 ≤ (Int.tmod (w64 ((w64 (s3.vat + 1)) - 1)) (s3.L.length : Int)) then (if (Int.tmod (w64 ((w64 (s3.vat + 1)) - 1)) (s3.L.length : Int)) < (s3.L.length : Int) then ((spymake_Below k (rd s3.L (Int.tmod (w64 ((w64 (s3.vat + 1)) - 1)) (s3.L.length : Int))) 1073741824).bind fun vt47 => ((spymake_Below k (w64 (vt47 + (w64 ((w64 (Int.tdiv (w64 ((w64 (s3.vat + 1)) - 1)) (s3.L.length : Int))) * (w64 (7919 + (Int.tmod (w64 ((w64 (s3.vat + 1)) - 1)) (s3.L.length : Int)))))))) n7).bind fun vt53 => (some (vt53, w64 (s3.vat + 1))))) else none) else none) else none)
def spymake_Stream_Range (k : Nat) (s3 : S_Stream) (low7 : Int) (high8 : Int) : Option (Int × Int) :=
  if high8 < low7 then (some (low7, s3.vat)) else ((spymake_Stream_Next k s3 (w64 ((w64 (high8 - low7)) + 1))).bind fun (vt21, vt22) => (some (w64 (low7 + vt21), vt22)))
def bits_Mul64 (k : Nat) (x1 : Int) (y2 : Int) : Option (Int × Int) :=
  some (u64 ((u64 ((u64 ((shr x1 32) * (shr y2 32))) + (shr (u64 ((u64 ((shr x1 32) * (Go.bits .and .u64 y2 4294967295))) + (shr (u64 ((Go.bits .and .u64 x1 4294967295) * (Go.bits .and .u64 y2 4294967295))) 32))) 32))) + (shr (u64 ((Go.bits .and .u64 (u64 ((u64 ((shr x1 32) * (Go.bits .and .u64 y2 4294967295))) + (shr (u64 ((Go.bits .and .u64 x1 4294967295) * (Go.bits .and .u64 y2 4294967295))) 32))) 4294967295) + (u64 ((Go.bits .and .u64 x1 4294967295) * (shr y2 32))))) 32)), u64 (x1 * y2))
def bits_Mul (k : Nat) (x1 : Int) (y2 : Int) : Option (Int × Int) :=
  (bits_Mul64 k x1 y2).bind fun (vt9, vt10) => (some (vt9, vt10))
def slices_Repeat_Cells.l0 (k : Nat) : Nat → (List S_Cells) → Int → Option ((List S_Cells))
  | 0, _, _ => none
  | n_ + 1, newslice94, n98 =>
    if n98 < (newslice94.length : Int) then (if 0 ≤ n98 then (if n98 ≤ (newslice94.length : Int) then (slices_Repeat_Cells.l0 k n_ (cpy newslice94 (n98).toNat (newslice94.take (n98).toNat)) (w64 (n98 + ((min (newslice94.take (n98).toNat).length (newslice94.length - (n98).toNat) : Nat) : Int)))) else none) else none) else (some newslice94)
def slices_Repeat_Cells (k : Nat) (x1 : List S_Cells) (count5 : Int) : Option ((List S_Cells)) :=
  if count5 < 0 then (none) else ((bits_Mul k (u64 ((x1.length : Int))) (u64 (count5))).bind fun (vt16, vt17) => (if vt16 > 0 then (none) else (if vt17 > 9223372036854775807 then (none) else (if 0 ≤ (w64 (vt17)) then (if (w64 (vt17)) * 40 ≤ 140737488355328 then ((slices_Repeat_Cells.l0 k k (cpy (List.replicate (w64 (vt17)).toNat ((⟨0, 0, ([] : List S_Bound)⟩ : S_Cells) : S_Cells)) 0 x1) ((min x1.length ((List.replicate (w64 (vt17)).toNat ((⟨0, 0, ([] : List S_Bound)⟩ : S_Cells) : S_Cells)).length - 0) : Nat) : Int)).bind fun newslice125 => (some newslice125)) else none) else none))))
def bound_Check_Quanta (k : Nat) (b1 : S_Bound) : Option (Int) :=
  if b1.Unknown = true then (if b1.Lo ≠ 0 then (some 3) else (if b1.Hi ≠ 0 then (some 3) else (if (mn b1.Lo b1.Hi) < (-1152921504606846976) then (some 4) else (if (mx b1.Lo b1.Hi) > 1152921504606846976 then (some 4) else (if b1.Lo > b1.Hi then (some 11) else (some 0)))))) else (if (mn b1.Lo b1.Hi) < (-1152921504606846976) then (some 4) else (if (mx b1.Lo b1.Hi) > 1152921504606846976 then (some 4) else (if b1.Lo > b1.Hi then (some 11) else (some 0))))
def bound_None_Quanta (k : Nat) : Option (S_Bound) :=
  some (⟨0, 0, true⟩ : S_Bound)
def bound_Norm_Quanta (k : Nat) (b1 : S_Bound) : Option (S_Bound) :=
  (bound_Check_Quanta k b1).bind fun vt16 => (if vt16 ≠ 0 then ((bound_None_Quanta k).bind fun vt26 => (some vt26)) else (some b1))
def bound_Of_Quanta (k : Nat) (lo1 : Int) (hi2 : Int) : Option (S_Bound) :=
  (bound_Norm_Quanta k (⟨lo1, hi2, false⟩ : S_Bound)).bind fun vt11 => (some vt11)
def bound_Exact_Quanta (k : Nat) (v1 : Int) : Option (S_Bound) :=
  (bound_Of_Quanta k v1 v1).bind fun vt10 => (some vt10)
def slices_Clone_Bound_Quanta (k : Nat) (s1 : List S_Bound) : Option ((List S_Bound)) :=
  if (([] : List S_Bound).length + s1.length) * 24 ≤ 140737488355328 then (some (([] : List S_Bound) ++ s1)) else none
def spykeep3_around.l1 (k : Nat) (l663 : List S_Cells) (s3 : S_Stream) (n7 : Int) (vt721 : Int) (vt714 : Int) (vt687 : Int) : Nat → (List S_Cells) → Int → Int → Option ((List S_Cells) × Int)
  | 0, _, _, _ => none
  | n_ + 1, l985, x989, x990 =>
    if x989 < (l663.length : Int) then ((spymake_Stream_Next k (⟨s3.L, x990⟩ : S_Stream) 20).bind fun (vt1010, vt1011) => ((spymake_Stream_Next k (⟨s3.L, vt1011⟩ : S_Stream) 20).bind fun (vt1017, vt1018) => (if ¬ (n7 = 0) then (((if (Int.tmod (w64 ((w64 (x989 - vt721)) + n7)) n7) < vt714 then ((spymake_Stream_Range k (⟨s3.L, vt1018⟩ : S_Stream) (-900) 900).bind fun (vt1038, vt1039) => ((bound_Exact_Quanta k (w64 (vt687 + vt1038))).bind fun vt1045 => (some (vt1045.Lo, vt1045.Hi, vt1045.Unknown, vt1039)))) else ((spymake_Stream_Next k (⟨s3.L, vt1018⟩ : S_Stream) 9).bind fun (vt1057, vt1058) => (if vt1057 = 0 then ((bound_None_Quanta k).bind fun vt1066 => (some (vt1066.Lo, vt1066.Hi, vt1066.Unknown, vt1058))) else (some ((w64 (vt687 - vt1010)), (w64 (vt687 + vt1017)), false, vt1058)))) : Option (Int × Int × Bool × Int))).bind fun (x1080, x1081, x1082, x1083) => (if 0 ≤ x989 then (if x989 < (l985.length : Int) then ((slices_Clone_Bound_Quanta k ((rd l985 x989).At)).bind fun vt1106 => (if (vt1106.length + 1) * 24 ≤ 140737488355328 then (spykeep3_around.l1 k l663 s3 n7 vt721 vt714 vt687 n_ (l985.set (x989).toNat (⟨(rd l985 x989).W, (rd l985 x989).H, (vt1106 ++ ([(⟨x1080, x1081, x1082⟩ : S_Bound)] : List S_Bound))⟩ : S_Cells)) (w64 (x989 + 1)) x1083) else none)) else none) else none)) else none))) else (some (l985, x990))
def spykeep3_around.l0 (k : Nat) (vt13 : Int) (vt20 : Int) (s3 : S_Stream) (vf8 : Int) (n7 : Int) : Nat → (List Int) → (List S_Cells) → Int → Int → Option ((List Int) × (List S_Cells) × Int)
  | 0, _, _, _, _ => none
  | n_ + 1, truth657, l663, x667, x668 =>
    if x667 < (w64 (vt13 * vt20)) then ((spymake_Stream_Next k (⟨s3.L, x668⟩ : S_Stream) 1000).bind fun (vt687, vt688) => (if (truth657.length + 1) * 8 ≤ 140737488355328 then ((spymake_Stream_Next k (⟨s3.L, vt688⟩ : S_Stream) (w64 (vf8 + 1))).bind fun (vt714, vt715) => ((spymake_Stream_Next k (⟨s3.L, vt715⟩ : S_Stream) n7).bind fun (vt721, vt722) => ((spykeep3_around.l1 k l663 s3 n7 vt721 vt714 vt687 k l663 0 vt722).bind fun (l1227, x1231) => (spykeep3_around.l0 k vt13 vt20 s3 vf8 n7 n_ (truth657 ++ ([vt687] : List Int)) l1227 (w64 (x667 + 1)) x1231)))) else none)) else (some (truth657, l663, x668))
def spykeep3_around (k : Nat) (s3 : S_Stream) (n7 : Int) (vf8 : Int) : Option ((List S_Cells) × (List Int) × Int) :=
  (spymake_Stream_Range k s3 1 4).bind fun (vt13, vt14) => ((spymake_Stream_Range k (⟨s3.L, vt14⟩ : S_Stream) 1 4).bind fun (vt20, vt21) => ((slices_Repeat_Cells k ([(⟨vt13, vt20, ([] : List S_Bound)⟩ : S_Cells)] : List S_Cells) n7).bind fun vt41 => ((spykeep3_around.l0 k vt13 vt20 s3 vf8 n7 k ([] : List Int) vt41 0 vt21).bind fun (truth1244, l1250, x1254) => (some (l1250, truth1244, x1254)))))
def clean_Check.l0 (k : Nat) (c1 : S_Cells) : Nat → Int → Option (Sum Int Unit)
  | 0, _ => none
  | n_ + 1, x44 =>
    if x44 < (c1.At.length : Int) then (if 0 ≤ x44 then ((bound_Check_Quanta k (rd c1.At x44)).bind fun vt79 => (if vt79 ≠ 0 then (some (Sum.inl vt79)) else (if ((rd c1.At x44).Lo) < (-1099511627776) then (some (Sum.inl 4)) else (if ((rd c1.At x44).Hi) > 1099511627776 then (some (Sum.inl 4)) else (clean_Check.l0 k c1 n_ (w64 (x44 + 1))))))) else none) else (some (Sum.inr ()))
def clean_Check (k : Nat) (c1 : S_Cells) : Option (Int) :=
  if (mn c1.W c1.H) < 1 then (some 3) else (if (mx c1.W c1.H) > 32 then (some 3) else (if (c1.At.length : Int) ≠ (w64 (c1.W * c1.H)) then (some 3) else ((clean_Check.l0 k c1 k 0).bind fun z_ => Sum.elim (fun y_ => some y_) (fun _ => (some 0)) z_)))
def clean_valid.l0 (k : Nat) (l1 : List S_Cells) : Nat → Int → Option (Sum Int Unit)
  | 0, _ => none
  | n_ + 1, x35 =>
    if x35 < (l1.length : Int) then (if 0 ≤ x35 then ((clean_Check k (rd l1 x35)).bind fun vt69 => (if vt69 ≠ 0 then (some (Sum.inl vt69)) else (clean_valid.l0 k l1 n_ (w64 (x35 + 1))))) else none) else (some (Sum.inr ()))
def clean_valid.l1 (k : Nat) (l1 : List S_Cells) : Nat → Int → Option (Sum Int Unit)
  | 0, _ => none
  | n_ + 1, x110 =>
    if x110 < (l1.length : Int) then (if 0 ≤ x110 then (if 0 < (l1.length : Int) then (if ((rd l1 x110).W) ≠ ((rd l1 0).W) then (some (Sum.inl 3)) else (if ((rd l1 x110).H) ≠ ((rd l1 0).H) then (some (Sum.inl 3)) else (clean_valid.l1 k l1 n_ (w64 (x110 + 1))))) else none) else none) else (some (Sum.inr ()))
def clean_valid (k : Nat) (l1 : List S_Cells) (vf5 : Int) : Option (Int) :=
  if (l1.length : Int) > 8 then (some 2) else ((clean_valid.l0 k l1 k 0).bind fun z_ => Sum.elim (fun y_ => some y_) (fun _ => ((clean_valid.l1 k l1 k 0).bind fun z_ => Sum.elim (fun y_ => some y_) (fun _ => (if vf5 < 0 then (some 1) else (if vf5 ≥ 8 then (some 14) else (if (l1.length : Int) < (w64 ((w64 (2 * vf5)) + 1)) then (some 14) else (some 0))))) z_)) z_)
def bound_vague_Quanta (k : Nat) (a1 : S_Bound) (b2 : S_Bound) : Option (Bool) :=
  (bound_Norm_Quanta k a1).bind fun vt15 => (if vt15.Unknown = true then (some true) else ((bound_Norm_Quanta k b2).bind fun vt22 => (some vt22.Unknown)))
def bound_Has_Quanta (k : Nat) (b1 : S_Bound) (v2 : Int) : Option (Bool) :=
  (bound_vague_Quanta k b1 b1).bind fun vt11 => (if vt11 = true then (some true) else (if b1.Lo ≤ v2 then (some (decide (v2 ≤ b1.Hi))) else (some false)))
def bound_Votes_Quanta.l0 (k : Nat) (l1 : List S_Bound) (v5 : Int) : Nat → Int → Int → Option (Int)
  | 0, _, _ => none
  | n_ + 1, n29, x30 =>
    if x30 < (l1.length : Int) then (if 0 ≤ x30 then ((bound_vague_Quanta k (rd l1 x30) (rd l1 x30)).bind fun vt63 => (if ¬ (vt63 = true) then ((bound_Has_Quanta k (rd l1 x30) v5).bind fun vt70 => (if vt70 = true then (bound_Votes_Quanta.l0 k l1 v5 n_ (w64 (n29 + 1)) (w64 (x30 + 1))) else (bound_Votes_Quanta.l0 k l1 v5 n_ n29 (w64 (x30 + 1))))) else (bound_Votes_Quanta.l0 k l1 v5 n_ n29 (w64 (x30 + 1))))) else none) else (some n29)
def bound_Votes_Quanta (k : Nat) (l1 : List S_Bound) (v5 : Int) : Option (Int) :=
  (bound_Votes_Quanta.l0 k l1 v5 k 0 0).bind fun n83 => (some n83)
def bound_Fuse_Quanta_1 (k : Nat) (v5 : List S_Bound) (v9 : Int) (v10 : Int) : Option (Bool) :=
  (bound_Votes_Quanta k v5 v10).bind fun vt17 => (some (decide (vt17 < v9)))
def slices_IndexFunc_Quanta__bound_Fuse_Quanta_1.l0 (k : Nat) (s10 : List Int) (v5 : List S_Bound) (v9 : Int) : Nat → Int → Option (Sum Int Unit)
  | 0, _ => none
  | n_ + 1, x35 =>
    if x35 < (s10.length : Int) then (if 0 ≤ x35 then ((bound_Fuse_Quanta_1 k v5 v9 (rd s10 x35)).bind fun vt64 => (if vt64 = true then (some (Sum.inl x35)) else (slices_IndexFunc_Quanta__bound_Fuse_Quanta_1.l0 k s10 v5 v9 n_ (w64 (x35 + 1))))) else none) else (some (Sum.inr ()))
def slices_IndexFunc_Quanta__bound_Fuse_Quanta_1 (k : Nat) (v5 : List S_Bound) (v9 : Int) (s10 : List Int) : Option (Int) :=
  (slices_IndexFunc_Quanta__bound_Fuse_Quanta_1.l0 k s10 v5 v9 k 0).bind fun z_ => Sum.elim (fun y_ => some y_) (fun _ => (some (-1))) z_
def slices_DeleteFunc_Quanta__bound_Fuse_Quanta_1.l0 (k : Nat) (v5 : List S_Bound) (v9 : Int) : Nat → (List Int) → Int → Int → Option ((List Int) × Int)
  | 0, _, _, _ => none
  | n_ + 1, s126, i130, j131 =>
    if j131 < (s126.length : Int) then (if 0 ≤ j131 then ((bound_Fuse_Quanta_1 k v5 v9 (rd s126 j131)).bind fun vt160 => (if ¬ (vt160 = true) then (if 0 ≤ i130 then (if i130 < (s126.length : Int) then (slices_DeleteFunc_Quanta__bound_Fuse_Quanta_1.l0 k v5 v9 n_ (s126.set (i130).toNat (rd s126 j131)) (w64 (i130 + 1)) (w64 (j131 + 1))) else none) else none) else (slices_DeleteFunc_Quanta__bound_Fuse_Quanta_1.l0 k v5 v9 n_ s126 i130 (w64 (j131 + 1))))) else none) else (some (s126, i130))
def slices_DeleteFunc_Quanta__bound_Fuse_Quanta_1 (k : Nat) (v5 : List S_Bound) (v9 : Int) (s14 : List Int) : Option ((List Int)) :=
  (slices_IndexFunc_Quanta__bound_Fuse_Quanta_1 k v5 v9 s14).bind fun vt28 => (if vt28 = (-1) then (some s14) else ((slices_DeleteFunc_Quanta__bound_Fuse_Quanta_1.l0 k v5 v9 k s14 vt28 (w64 (vt28 + 1))).bind fun (s188, i192) => (if 0 ≤ i192 then (if i192 ≤ (s188.length : Int) then (if i192 ≤ ((clr s188 (i192).toNat 0).length : Int) then (some ((clr s188 (i192).toNat 0).take (i192).toNat)) else none) else none) else none)))
def slices_Min_Quanta.l0 (k : Nat) (x1 : List Int) : Nat → Int → Int → Option (Int)
  | 0, _, _ => none
  | n_ + 1, m41, i42 =>
    if i42 < (x1.length : Int) then (if 0 ≤ i42 then (slices_Min_Quanta.l0 k x1 n_ (mn m41 (rd x1 i42)) (w64 (i42 + 1))) else none) else (some m41)
def slices_Min_Quanta (k : Nat) (x1 : List Int) : Option (Int) :=
  if (x1.length : Int) < 1 then (none) else (if 0 < (x1.length : Int) then ((slices_Min_Quanta.l0 k x1 k (rd x1 0) 1).bind fun m70 => (some m70)) else none)
def slices_Max_Quanta.l0 (k : Nat) (x1 : List Int) : Nat → Int → Int → Option (Int)
  | 0, _, _ => none
  | n_ + 1, m41, i42 =>
    if i42 < (x1.length : Int) then (if 0 ≤ i42 then (slices_Max_Quanta.l0 k x1 n_ (mx m41 (rd x1 i42)) (w64 (i42 + 1))) else none) else (some m41)
def slices_Max_Quanta (k : Nat) (x1 : List Int) : Option (Int) :=
  if (x1.length : Int) < 1 then (none) else (if 0 < (x1.length : Int) then ((slices_Max_Quanta.l0 k x1 k (rd x1 0) 1).bind fun m70 => (some m70)) else none)
def bound_Fuse_Quanta.l0 (k : Nat) (l1 : List S_Bound) : Nat → (List Int) → Int → Option ((List Int))
  | 0, _, _ => none
  | n_ + 1, ends37, x43 =>
    if x43 < (l1.length : Int) then (if 0 ≤ x43 then ((bound_vague_Quanta k (rd l1 x43) (rd l1 x43)).bind fun vt76 => (if ¬ (vt76 = true) then (if (ends37.length + 2) * 8 ≤ 140737488355328 then (bound_Fuse_Quanta.l0 k l1 n_ (ends37 ++ ([(rd l1 x43).Lo, (rd l1 x43).Hi] : List Int)) (w64 (x43 + 1))) else none) else (bound_Fuse_Quanta.l0 k l1 n_ ends37 (w64 (x43 + 1))))) else none) else (some ends37)
def bound_Fuse_Quanta (k : Nat) (l1 : List S_Bound) (vf5 : Int) : Option (S_Bound) :=
  (bound_Fuse_Quanta.l0 k l1 k ([] : List Int) 0).bind fun ends104 => (if vf5 < 0 then ((bound_None_Quanta k).bind fun vt140 => (some vt140)) else (if (w64 ((w64 (Int.tdiv (ends104.length : Int) 2)) - vf5)) ≤ 0 then ((bound_None_Quanta k).bind fun vt153 => (some vt153)) else ((slices_DeleteFunc_Quanta__bound_Fuse_Quanta_1 k l1 (w64 ((w64 (Int.tdiv (ends104.length : Int) 2)) - vf5)) ends104).bind fun vt171 => (if (vt171.length : Int) = 0 then ((bound_None_Quanta k).bind fun vt188 => (some vt188)) else ((slices_Min_Quanta k vt171).bind fun vt204 => ((slices_Max_Quanta k vt171).bind fun vt218 => ((bound_Of_Quanta k vt204 vt218).bind fun vt227 => (some vt227))))))))
def clean_Combine.l1 (k : Nat) (l1 : List S_Cells) (x240 : Int) : Nat → (List S_Bound) → Int → Option ((List S_Bound))
  | 0, _, _ => none
  | n_ + 1, cell285, x291 =>
    if x291 < (l1.length : Int) then (if 0 ≤ x291 then (if 0 ≤ x240 then (if x240 < (((rd l1 x291).At).length : Int) then (if (cell285.length + 1) * 24 ≤ 140737488355328 then (clean_Combine.l1 k l1 x240 n_ (cell285 ++ ([(rd ((rd l1 x291).At) x240)] : List S_Bound)) (w64 (x291 + 1))) else none) else none) else none) else none) else (some cell285)
def clean_Combine.l0 (k : Nat) (l1 : List S_Cells) (vf5 : Int) : Nat → Int → (List S_Bound) → Option ((List S_Bound))
  | 0, _, _ => none
  | n_ + 1, x240, x241 =>
    if x240 < (((rd l1 0).At).length : Int) then ((clean_Combine.l1 k l1 x240 k ([] : List S_Bound) 0).bind fun cell351 => ((bound_Fuse_Quanta k cell351 vf5).bind fun vt380 => (if (x241.length + 1) * 24 ≤ 140737488355328 then (clean_Combine.l0 k l1 vf5 n_ (w64 (x240 + 1)) (x241 ++ ([vt380] : List S_Bound))) else none))) else (some x241)
def clean_Combine (k : Nat) (l1 : List S_Cells) (vf5 : Int) : Option (S_Cells × Int) :=
  (clean_valid k l1 vf5).bind fun vt16 => (if vt16 ≠ 0 then (some ((⟨0, 0, ([] : List S_Bound)⟩ : S_Cells), vt16)) else (if 0 < (l1.length : Int) then ((clean_Combine.l0 k l1 vf5 k 0 ([] : List S_Bound)).bind fun x416 => (some ((⟨(rd l1 0).W, (rd l1 0).H, x416⟩ : S_Cells), 0))) else none))
def bound_Meet_Quanta (k : Nat) (a1 : S_Bound) (b2 : S_Bound) : Option (S_Bound × Bool) :=
  (bound_Norm_Quanta k a1).bind fun vt23 => ((bound_Norm_Quanta k b2).bind fun vt29 => (if vt23.Unknown = true then (some (vt29, true)) else (if vt29.Unknown = true then (some (vt23, true)) else (if (mx vt23.Lo vt29.Lo) > (mn vt23.Hi vt29.Hi) then (some ((⟨0, 0, false⟩ : S_Bound), false)) else ((bound_Of_Quanta k (mx vt23.Lo vt29.Lo) (mn vt23.Hi vt29.Hi)).bind fun vt79 => (some (vt79, true)))))))
def clean_Struck.l1 (k : Nat) (l1 : List S_Cells) (x404 : Int) (vt10 : S_Cells) : Nat → (List (List Int)) → Int → Option ((List (List Int)))
  | 0, _, _ => none
  | n_ + 1, out580, x584 =>
    if x584 < (((rd l1 x404).At).length : Int) then (if 0 ≤ x584 then (if x584 < (vt10.At.length : Int) then ((bound_Meet_Quanta k (rd ((rd l1 x404).At) x584) (rd vt10.At x584)).bind fun (vt626, vt627) => (if ¬ (vt627 = true) then (if x404 < (out580.length : Int) then (if ((rd out580 x404).length + 1) * 8 ≤ 140737488355328 then (clean_Struck.l1 k l1 x404 vt10 n_ (out580.set (x404).toNat ((rd out580 x404) ++ ([x584] : List Int))) (w64 (x584 + 1))) else none) else none) else (clean_Struck.l1 k l1 x404 vt10 n_ out580 (w64 (x584 + 1))))) else none) else none) else (some out580)
def clean_Struck.l0 (k : Nat) (l1 : List S_Cells) (vt10 : S_Cells) : Nat → (List (List Int)) → Int → Option ((List (List Int)))
  | 0, _, _ => none
  | n_ + 1, out400, x404 =>
    if x404 < (l1.length : Int) then (if 0 ≤ x404 then ((clean_Struck.l1 k l1 x404 vt10 k out400 0).bind fun out707 => (clean_Struck.l0 k l1 vt10 n_ out707 (w64 (x404 + 1)))) else none) else (some out400)
def clean_Struck (k : Nat) (l1 : List S_Cells) (vf5 : Int) : Option ((List (List Int)) × Int) :=
  (clean_Combine k l1 vf5).bind fun (vt10, vt11) => (if vt11 ≠ 0 then (some (([] : List (List Int)), vt11)) else (if 0 ≤ (l1.length : Int) then (if (l1.length : Int) * 24 ≤ 140737488355328 then ((clean_Struck.l0 k l1 vt10 k (List.replicate ((l1.length : Int)).toNat (([] : List Int) : List Int)) 0).bind fun out735 => (some (out735, 0))) else none) else none))
def spykeep3_combined (k : Nat) : Option (Bool) :=
  (clean_Combine k ([(⟨1, 1, ([(⟨3, 5, false⟩ : S_Bound)] : List S_Bound)⟩ : S_Cells)] : List S_Cells) 0).bind fun (vt35, vt36) => (if vt36 = 0 then (if (vt35.At.length : Int) = 1 then (if 0 < (vt35.At.length : Int) then (if 0 < (([(⟨3, 5, false⟩ : S_Bound)] : List S_Bound).length : Int) then (some ((((rd vt35.At 0).Lo) == ((rd ([(⟨3, 5, false⟩ : S_Bound)] : List S_Bound) 0).Lo)) && ((((rd vt35.At 0).Hi) == ((rd ([(⟨3, 5, false⟩ : S_Bound)] : List S_Bound) 0).Hi)) && ((((rd vt35.At 0).Unknown) == ((rd ([(⟨3, 5, false⟩ : S_Bound)] : List S_Bound) 0).Unknown)) && true)))) else none) else none) else (some false)) else (some false))
def slices_Index_int.l0 (k : Nat) (s1 : List Int) (v5 : Int) : Nat → Int → Option (Sum Int Unit)
  | 0, _ => none
  | n_ + 1, x27 =>
    if x27 < (s1.length : Int) then (if 0 ≤ x27 then (if v5 = (rd s1 x27) then (some (Sum.inl x27)) else (slices_Index_int.l0 k s1 v5 n_ (w64 (x27 + 1)))) else none) else (some (Sum.inr ()))
def slices_Index_int (k : Nat) (s1 : List Int) (v5 : Int) : Option (Int) :=
  (slices_Index_int.l0 k s1 v5 k 0).bind fun z_ => Sum.elim (fun y_ => some y_) (fun _ => (some (-1))) z_
def slices_Contains_int (k : Nat) (s1 : List Int) (v5 : Int) : Option (Bool) :=
  (slices_Index_int k s1 v5).bind fun vt10 => (some (decide (vt10 ≥ 0)))
def spykeep3_CleanHolds.l1 (k : Nat) (vt31 : List S_Cells) (x139 : Int) (vt32 : List Int) (vt84 : List (List Int)) (l1 : List Int) : Nat → Int → Option (Sum (Sum Bool Unit) Unit)
  | 0, _ => none
  | n_ + 1, x202 =>
    if x202 < (vt31.length : Int) then (if 0 ≤ x202 then (if x139 < (((rd vt31 x202).At).length : Int) then ((bound_Has_Quanta k (rd ((rd vt31 x202).At) x139) (rd vt32 x139)).bind fun vt237 => (if vt237 = true then (if x202 < (vt84.length : Int) then ((slices_Contains_int k (rd vt84 x202) x139).bind fun vt252 => (if vt252 = true then (some (Sum.inl (Sum.inl false))) else (spykeep3_CleanHolds.l1 k vt31 x139 vt32 vt84 l1 n_ (w64 (x202 + 1))))) else none) else (spykeep3_CleanHolds.l1 k vt31 x139 vt32 vt84 l1 n_ (w64 (x202 + 1))))) else none) else none) else (some (Sum.inr ()))
def spykeep3_CleanHolds.l0 (k : Nat) (vt32 : List Int) (vt56 : S_Cells) (l1 : List Int) (vt31 : List S_Cells) (vt84 : List (List Int)) : Nat → Int → Option (Sum Bool Unit)
  | 0, _ => none
  | n_ + 1, x139 =>
    if x139 < (vt32.length : Int) then (if 0 ≤ x139 then (if x139 < (vt56.At.length : Int) then ((bound_Has_Quanta k (rd vt56.At x139) (rd vt32 x139)).bind fun vt175 => (if ¬ (vt175 = true) then (some (Sum.inl false)) else ((spykeep3_CleanHolds.l1 k vt31 x139 vt32 vt84 l1 k 0).bind fun z_ => Sum.elim (fun y_ => some y_) (fun _ => (spykeep3_CleanHolds.l0 k vt32 vt56 l1 vt31 vt84 n_ (w64 (x139 + 1)))) z_))) else none) else none) else (some (Sum.inr ()))
def spykeep3_CleanHolds (k : Nat) (l1 : List Int) (vf5 : Int) : Option (Bool) :=
  (spymake_Below k vf5 4).bind fun vt16 => ((spymake_Stream_Next k (⟨l1, 0⟩ : S_Stream) 3).bind fun (vt24, vt25) => ((spykeep3_around k (⟨l1, vt25⟩ : S_Stream) (mn 8 (w64 ((w64 ((w64 (2 * vt16)) + 1)) + vt24))) vt16).bind fun (vt31, vt32, vt33) => ((clean_Combine k vt31 vt16).bind fun (vt56, vt57) => ((clean_Struck k vt31 vt16).bind fun (vt84, vt85) => ((spykeep3_combined k).bind fun vt98 => (if ¬ (vt98 = true) then (some false) else (if vt57 ≠ 0 then (some false) else (if vt85 ≠ 0 then (some false) else (if (vt56.At.length : Int) ≠ (vt32.length : Int) then (some false) else (if (vt84.length : Int) ≠ (vt31.length : Int) then (some false) else ((spykeep3_CleanHolds.l0 k vt32 vt56 l1 vt31 vt84 k 0).bind fun z_ => Sum.elim (fun y_ => some y_) (fun _ => (some true)) z_)))))))))))
end Go.Sp.U4
