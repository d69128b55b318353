import Derived.Test.YtiibkbligihgoaaGreatSpMapR
import Derived.Test.YtiibkbligihgoaaGreatSpNone
import Derived.Test.YtiibkbligihgoaaGreatSpCopy
namespace Go.Sp.Q3
open Go Go.Sp
set_option linter.unusedVariables false
def str0 : ByteArray := ⟨#[0, 1, 2, 2, 3, 3, 3, 3, 4, 4, 4, 4, 4, 4, 4, 4, 5, 5, 5, 5, 5, 5, 5, 5, 5, 5, 5, 5, 5, 5, 5, 5, 6, 6, 6, 6, 6, 6, 6, 6, 6, 6, 6, 6, 6, 6, 6, 6, 6, 6, 6, 6, 6, 6, 6, 6, 6, 6, 6, 6, 6, 6, 6, 6, 7, 7, 7, 7, 7, 7, 7, 7, 7, 7, 7, 7, 7, 7, 7, 7, 7, 7, 7, 7, 7, 7, 7, 7, 7, 7, 7, 7, 7, 7, 7, 7, 7, 7, 7, 7, 7, 7, 7, 7, 7, 7, 7, 7, 7, 7, 7, 7, 7, 7, 7, 7, 7, 7, 7, 7, 7, 7, 7, 7, 7, 7, 7, 7, 8, 8, 8, 8, 8, 8, 8, 8, 8, 8, 8, 8, 8, 8, 8, 8, 8, 8, 8, 8, 8, 8, 8, 8, 8, 8, 8, 8, 8, 8, 8, 8, 8, 8, 8, 8, 8, 8, 8, 8, 8, 8, 8, 8, 8, 8, 8, 8, 8, 8, 8, 8, 8, 8, 8, 8, 8, 8, 8, 8, 8, 8, 8, 8, 8, 8, 8, 8, 8, 8, 8, 8, 8, 8, 8, 8, 8, 8, 8, 8, 8, 8, 8, 8, 8, 8, 8, 8, 8, 8, 8, 8, 8, 8, 8, 8, 8, 8, 8, 8, 8, 8, 8, 8, 8, 8, 8, 8, 8, 8, 8, 8, 8, 8, 8, 8, 8, 8, 8, 8, 8, 8, 8, 8, 8, 8, 8, 8]⟩
structure S_Stream where
  L : List Int
  vat : Int
instance : Inhabited S_Stream := ⟨⟨default, default⟩⟩
structure S_Vec where
  X : Int
  Y : Int
  Z : Int
instance : Inhabited S_Vec := ⟨⟨default, default, default⟩⟩
structure S_Bound where
  Lo : Int
  Hi : Int
  Unknown : Bool
instance : Inhabited S_Bound := ⟨⟨default, default, default⟩⟩
structure S_Box where
  X : S_Bound
  Y : S_Bound
  Z : S_Bound
instance : Inhabited S_Box := ⟨⟨default, default, default⟩⟩
structure S_Wide where
  Hi : Int
  Lo : Int
instance : Inhabited S_Wide := ⟨⟨default, default⟩⟩
structure S_Row where
  ID : Int
  Box : S_Box
  Flux : S_Bound
  When : S_Bound
  Frames : List Int
  Marks : Int
instance : Inhabited S_Row := ⟨⟨default, default, default, default, default, default⟩⟩
structure S_Index where
  rows : List S_Row
  level : Int
  roots : List Unit
  loose : List Int
instance : Inhabited S_Index := ⟨⟨default, default, default, default⟩⟩
structure S_Cone where
  At : S_Vec
  Cos : Int
instance : Inhabited S_Cone := ⟨⟨default, default⟩⟩
structure S_Ask where
  Cones : List S_Cone
  From : Int
  To : Int
  Least : Int
  Ban : Int
instance : Inhabited S_Ask := ⟨⟨default, default, default, default, default⟩⟩
structure S_Answer where
  ID : Int
  Grade : Int
instance : Inhabited S_Answer := ⟨⟨default, default⟩⟩
def spymake_Below (k : Nat) (x1 : Int) (n2 : Int) : Option (Int) :=
  if n2 < 1 then (some 0) else (if ¬ (n2 = 0) then (if (Int.tmod x1 n2) < 0 then (some (w64 ((Int.tmod x1 n2) + n2))) else (some (Int.tmod x1 n2))) else none)
def spymake_Stream_Next (k : Nat) (s3 : S_Stream) (n7 : Int) : Option (Int × Int) :=
  if (s3.L.length : Int) = 0 then ((spymake_Below k (w64 ((w64 (s3.vat + 1)) * 7919)) n7).bind fun vt22 => (some (vt22, w64 (s3.vat + 1)))) else (if ¬ ((s3.L.length : Int) = 0) then (if 0 ≤ (Int.tmod (w64 ((w64 (s3.vat + 1)) - 1)) (s3.L.length : Int)) then (if (Int.tmod (w64 ((w64 (s3.vat + 1)) - 1)) (s3.L.length : Int)) < (s3.L.length : Int) then ((spymake_Below k (rd s3.L (Int.tmod (w64 ((w64 (s3.vat + 1)) - 1)) (s3.L.length : Int))) 1073741824).bind fun vt47 => ((spymake_Below k (w64 (vt47 + (w64 ((w64 (Int.tdiv (w64 ((w64 (s3.vat + 1)) - 1)) (s3.L.length : Int))) * (w64 (7919 + (Int.tmod (w64 ((w64 (s3.vat + 1)) - 1)) (s3.L.length : Int)))))))) n7).bind fun vt53 => (some (vt53, w64 (s3.vat + 1))))) else none) else none) else none)
def spymake_Stream_Range (k : Nat) (s3 : S_Stream) (low7 : Int) (high8 : Int) : Option (Int × Int) :=
  if high8 < low7 then (some (low7, s3.vat)) else ((spymake_Stream_Next k s3 (w64 ((w64 (high8 - low7)) + 1))).bind fun (vt21, vt22) => (some (w64 (low7 + vt21), vt22)))
def spymake_Stream_Vec (k : Nat) (s3 : S_Stream) : Option (S_Vec × Int) :=
  (spymake_Stream_Next k s3 4).bind fun (vt22, vt23) => (if 0 ≤ vt22 then (if vt22 < (([3, 100, 5000, 1048576] : List Int).length : Int) then ((spymake_Stream_Range k (⟨s3.L, vt23⟩ : S_Stream) (w64 (0 - (rd ([3, 100, 5000, 1048576] : List Int) vt22))) (rd ([3, 100, 5000, 1048576] : List Int) vt22)).bind fun (vt36, vt37) => ((spymake_Stream_Range k (⟨s3.L, vt37⟩ : S_Stream) (w64 (0 - (rd ([3, 100, 5000, 1048576] : List Int) vt22))) (rd ([3, 100, 5000, 1048576] : List Int) vt22)).bind fun (vt43, vt44) => ((spymake_Stream_Range k (⟨s3.L, vt44⟩ : S_Stream) (w64 (0 - (rd ([3, 100, 5000, 1048576] : List Int) vt22))) (rd ([3, 100, 5000, 1048576] : List Int) vt22)).bind fun (vt50, vt51) => (if ((vt36 == 0) && ((vt43 == 0) && ((vt50 == 0) && true))) = true then (some ((⟨1, vt43, vt50⟩ : S_Vec), vt51)) else (some ((⟨vt36, vt43, vt50⟩ : S_Vec), vt51)))))) else none) else none)
def spymake_Stream_Box_1 (k : Nat) (v7 : S_Stream) (v11 : Int) (c12 : Int) : Option (S_Bound × Int) :=
  (spymake_Stream_Next k v7 (w64 (v11 + 1))).bind fun (vt28, vt29) => ((spymake_Stream_Next k (⟨v7.L, vt29⟩ : S_Stream) (w64 (v11 + 1))).bind fun (vt35, vt36) => (some ((⟨w64 (c12 - vt28), w64 (c12 + vt35), false⟩ : S_Bound), vt36)))
def spymake_Stream_Box (k : Nat) (s3 : S_Stream) : Option (S_Box × Int) :=
  (spymake_Stream_Vec k s3).bind fun (vt20, vt21) => ((spymake_Stream_Next k (⟨s3.L, vt21⟩ : S_Stream) 10).bind fun (vt38, vt39) => (if vt38 = 0 then (some ((⟨(⟨0, 0, true⟩ : S_Bound), (⟨0, 0, true⟩ : S_Bound), (⟨0, 0, true⟩ : S_Bound)⟩ : S_Box), vt39)) else ((spymake_Stream_Next k (⟨s3.L, vt39⟩ : S_Stream) 4).bind fun (vt69, vt70) => (if 0 ≤ vt69 then (if vt69 < (([0, 2, 300, 262144] : List Int).length : Int) then ((spymake_Stream_Box_1 k (⟨s3.L, vt70⟩ : S_Stream) (rd ([0, 2, 300, 262144] : List Int) vt69) vt20.X).bind fun (vt102, vt103) => ((spymake_Stream_Box_1 k (⟨s3.L, vt103⟩ : S_Stream) (rd ([0, 2, 300, 262144] : List Int) vt69) vt20.Y).bind fun (vt118, vt119) => ((spymake_Stream_Box_1 k (⟨s3.L, vt119⟩ : S_Stream) (rd ([0, 2, 300, 262144] : List Int) vt69) vt20.Z).bind fun (vt134, vt135) => (some ((⟨vt102, vt118, vt134⟩ : S_Box), vt135))))) else none) else none))))
def query_sides.l0 (k : Nat) (b1 : S_Box) : Nat → Int → Option (Sum ((List S_Bound) × Bool) Unit)
  | 0, _ => none
  | n_ + 1, x39 =>
    if x39 < 3 then (if 0 ≤ x39 then (if ((rd [b1.X, b1.Y, b1.Z] x39).Unknown) = true then (some (Sum.inl ([b1.X, b1.Y, b1.Z], false))) else (if ((rd [b1.X, b1.Y, b1.Z] x39).Lo) > ((rd [b1.X, b1.Y, b1.Z] x39).Hi) then (some (Sum.inl ([b1.X, b1.Y, b1.Z], false))) else (if ((rd [b1.X, b1.Y, b1.Z] x39).Lo) < (-1073741824) then (some (Sum.inl ([b1.X, b1.Y, b1.Z], false))) else (if ((rd [b1.X, b1.Y, b1.Z] x39).Hi) > 1073741824 then (some (Sum.inl ([b1.X, b1.Y, b1.Z], false))) else (query_sides.l0 k b1 n_ (w64 (x39 + 1))))))) else none) else (some (Sum.inr ()))
def query_sides (k : Nat) (b1 : S_Box) : Option ((List S_Bound) × Bool) :=
  (query_sides.l0 k b1 k 0).bind fun z_ => Sum.elim (fun y_ => some y_) (fun _ => (some ([b1.X, b1.Y, b1.Z], true))) z_
def query_product (k : Nat) (a1 : S_Bound) (b2 : S_Bound) : Option (Int × Int) :=
  some (mn (mn (mn (w64 (a1.Lo * b2.Lo)) (w64 (a1.Lo * b2.Hi))) (w64 (a1.Hi * b2.Lo))) (w64 (a1.Hi * b2.Hi)), mx (mx (mx (w64 (a1.Lo * b2.Lo)) (w64 (a1.Lo * b2.Hi))) (w64 (a1.Hi * b2.Lo))) (w64 (a1.Hi * b2.Hi)))
def query_square (k : Nat) (b1 : S_Bound) : Option (Int × Int) :=
  if b1.Lo > 0 then (some (mn (w64 (b1.Lo * b1.Lo)) (w64 (b1.Hi * b1.Hi)), mx (w64 (b1.Lo * b1.Lo)) (w64 (b1.Hi * b1.Hi)))) else (if b1.Hi < 0 then (some (mn (w64 (b1.Lo * b1.Lo)) (w64 (b1.Hi * b1.Hi)), mx (w64 (b1.Lo * b1.Lo)) (w64 (b1.Hi * b1.Hi)))) else (some (0, mx (w64 (b1.Lo * b1.Lo)) (w64 (b1.Hi * b1.Hi)))))
def bits_Mul64 (k : Nat) (x1 : Int) (y2 : Int) : Option (Int × Int) :=
  some (u64 ((u64 ((u64 ((shr x1 32) * (shr y2 32))) + (shr (u64 ((u64 ((shr x1 32) * (Go.bits .and .u64 y2 4294967295))) + (shr (u64 ((Go.bits .and .u64 x1 4294967295) * (Go.bits .and .u64 y2 4294967295))) 32))) 32))) + (shr (u64 ((Go.bits .and .u64 (u64 ((u64 ((shr x1 32) * (Go.bits .and .u64 y2 4294967295))) + (shr (u64 ((Go.bits .and .u64 x1 4294967295) * (Go.bits .and .u64 y2 4294967295))) 32))) 4294967295) + (u64 ((Go.bits .and .u64 x1 4294967295) * (shr y2 32))))) 32)), u64 (x1 * y2))
def num_SqrtMul.l0 (k : Nat) (vt18 : Int) (vt19 : Int) : Nat → Int → Int → Option (Int)
  | 0, _, _ => none
  | n_ + 1, r46, bit47 =>
    if bit47 > 0 then ((bits_Mul64 k (Go.bits .or .u64 r46 bit47) (Go.bits .or .u64 r46 bit47)).bind fun (vt65, vt66) => (if vt65 < vt18 then (num_SqrtMul.l0 k vt18 vt19 n_ (Go.bits .or .u64 r46 bit47) (shr bit47 1)) else (if vt65 = vt18 then (if vt66 ≤ vt19 then (num_SqrtMul.l0 k vt18 vt19 n_ (Go.bits .or .u64 r46 bit47) (shr bit47 1)) else (num_SqrtMul.l0 k vt18 vt19 n_ r46 (shr bit47 1))) else (num_SqrtMul.l0 k vt18 vt19 n_ r46 (shr bit47 1))))) else (some r46)
def num_SqrtMul (k : Nat) (a1 : Int) (b2 : Int) : Option (Int) :=
  if a1 < 0 then (some 0) else (if b2 < 0 then (some 0) else ((bits_Mul64 k (u64 (a1)) (u64 (b2))).bind fun (vt18, vt19) => ((num_SqrtMul.l0 k vt18 vt19 k 0 4611686018427387904).bind fun r83 => (some (w64 (r83))))))
def num_size (k : Nat) (a1 : Int) : Option (Int) :=
  if a1 < 0 then (some (u64 (0 - (u64 (a1))))) else (some (u64 (a1)))
def num_Wide_Neg (k : Nat) (vw1 : S_Wide) : Option (S_Wide) :=
  if 0 ≤ (Go.bits .xor .u64 IntKind.u64.max vw1.Lo) then (if 0 ≤ (Go.bits .xor .u64 IntKind.u64.max (u64 (vw1.Hi))) then (if 0 ≤ (((Go.bits .xor .u64 IntKind.u64.max vw1.Lo) + 1 + 0) / 18446744073709551616) then (if (((Go.bits .xor .u64 IntKind.u64.max vw1.Lo) + 1 + 0) / 18446744073709551616) ≤ 1 then (some (⟨w64 (((Go.bits .xor .u64 IntKind.u64.max (u64 (vw1.Hi))) + 0 + (((Go.bits .xor .u64 IntKind.u64.max vw1.Lo) + 1 + 0) / 18446744073709551616)) % 18446744073709551616), ((Go.bits .xor .u64 IntKind.u64.max vw1.Lo) + 1 + 0) % 18446744073709551616⟩ : S_Wide)) else none) else none) else none) else none
def num_Product (k : Nat) (a1 : Int) (b2 : Int) : Option (S_Wide) :=
  (num_size k a1).bind fun vt11 => ((num_size k b2).bind fun vt17 => ((bits_Mul64 k vt11 vt17).bind fun (vt23, vt24) => (if ((decide (a1 < 0)) != (decide (b2 < 0))) = true then ((num_Wide_Neg k (⟨w64 (vt23), vt24⟩ : S_Wide)).bind fun vt46 => (some vt46)) else (some (⟨w64 (vt23), vt24⟩ : S_Wide)))))
def cmp_isNaN_int64 (k : Nat) (x1 : Int) : Option (Bool) :=
  some (x1 != x1)
def cmp_Compare_int64 (k : Nat) (x1 : Int) (y2 : Int) : Option (Int) :=
  (cmp_isNaN_int64 k x1).bind fun vt7 => ((cmp_isNaN_int64 k y2).bind fun vt15 => (if vt7 = true then (if vt15 = true then (some 0) else (some (-1))) else (if vt15 = true then (some 1) else (if x1 < y2 then (some (-1)) else (if x1 > y2 then (some 1) else (some 0))))))
def cmp_isNaN_uint64 (k : Nat) (x1 : Int) : Option (Bool) :=
  some (x1 != x1)
def cmp_Compare_uint64 (k : Nat) (x1 : Int) (y2 : Int) : Option (Int) :=
  (cmp_isNaN_uint64 k x1).bind fun vt7 => ((cmp_isNaN_uint64 k y2).bind fun vt15 => (if vt7 = true then (if vt15 = true then (some 0) else (some (-1))) else (if vt15 = true then (some 1) else (if x1 < y2 then (some (-1)) else (if x1 > y2 then (some 1) else (some 0))))))
def cmp_Or_int.l0 (k : Nat) (vals1 : List Int) : Nat → Int → Option (Sum Int Unit)
  | 0, _ => none
  | n_ + 1, x28 =>
    if x28 < (vals1.length : Int) then (if 0 ≤ x28 then (if (rd vals1 x28) ≠ 0 then (some (Sum.inl (rd vals1 x28))) else (cmp_Or_int.l0 k vals1 n_ (w64 (x28 + 1)))) else none) else (some (Sum.inr ()))
def cmp_Or_int (k : Nat) (vals1 : List Int) : Option (Int) :=
  (cmp_Or_int.l0 k vals1 k 0).bind fun z_ => Sum.elim (fun y_ => some y_) (fun _ => (some 0)) z_
def num_Wide_Cmp (k : Nat) (vw1 : S_Wide) (v2 : S_Wide) : Option (Int) :=
  (cmp_Compare_int64 k vw1.Hi v2.Hi).bind fun vt17 => ((cmp_Compare_uint64 k vw1.Lo v2.Lo).bind fun vt23 => ((cmp_Or_int k ([vt17, vt23] : List Int)).bind fun vt40 => (some vt40)))
def query_Near (k : Nat) (a1 : S_Box) (b2 : S_Box) (cos3 : Int) : Option (Int) :=
  (query_sides k a1).bind fun (vt16, vt17) => ((query_sides k b2).bind fun (vt31, vt32) => (if cos3 < 0 then (some 0) else (if cos3 > 1073741824 then (some 0) else (if ¬ (vt17 = true) then (some 1) else (if ¬ (vt32 = true) then (some 1) else ((query_product k (vt16.getD 0 default) (vt31.getD 0 default)).bind fun (vt99, vt100) => ((query_square k (vt16.getD 0 default)).bind fun (vt110, vt111) => ((query_square k (vt31.getD 0 default)).bind fun (vt121, vt122) => ((query_product k (vt16.getD 1 default) (vt31.getD 1 default)).bind fun (vt149, vt150) => ((query_square k (vt16.getD 1 default)).bind fun (vt160, vt161) => ((query_square k (vt31.getD 1 default)).bind fun (vt171, vt172) => ((query_product k (vt16.getD 2 default) (vt31.getD 2 default)).bind fun (vt199, vt200) => ((query_square k (vt16.getD 2 default)).bind fun (vt210, vt211) => ((query_square k (vt31.getD 2 default)).bind fun (vt221, vt222) => ((num_SqrtMul k (w64 ((w64 ((w64 (0 + vt111)) + vt161)) + vt211)) (w64 ((w64 ((w64 (0 + vt122)) + vt172)) + vt222))).bind fun vt236 => ((num_Product k vt236 vt236).bind fun vt246 => ((num_Product k (w64 ((w64 ((w64 (0 + vt111)) + vt161)) + vt211)) (w64 ((w64 ((w64 (0 + vt122)) + vt172)) + vt222))).bind fun vt252 => ((num_Wide_Cmp k vt246 vt252).bind fun vt258 => (((if vt258 < 0 then (some (w64 (vt236 + 1))) else (some vt236) : Option (Int))).bind fun root271 => (if (w64 ((w64 ((w64 (0 + vt110)) + vt160)) + vt210)) > 0 then (if (w64 ((w64 ((w64 (0 + vt121)) + vt171)) + vt221)) > 0 then ((num_Product k (w64 ((w64 ((w64 (0 + vt99)) + vt149)) + vt199)) 1073741824).bind fun vt288 => ((num_Product k cos3 root271).bind fun vt294 => ((num_Wide_Cmp k vt288 vt294).bind fun vt300 => (if vt300 ≥ 0 then (some 2) else ((num_Product k (w64 ((w64 ((w64 (0 + vt100)) + vt150)) + vt200)) 1073741824).bind fun vt312 => ((num_SqrtMul k (w64 ((w64 ((w64 (0 + vt110)) + vt160)) + vt210)) (w64 ((w64 ((w64 (0 + vt121)) + vt171)) + vt221))).bind fun vt318 => ((num_Product k cos3 vt318).bind fun vt324 => ((num_Wide_Cmp k vt312 vt324).bind fun vt330 => (if vt330 < 0 then (some 0) else (some 1)))))))))) else ((num_Product k (w64 ((w64 ((w64 (0 + vt100)) + vt150)) + vt200)) 1073741824).bind fun vt342 => ((num_SqrtMul k (w64 ((w64 ((w64 (0 + vt110)) + vt160)) + vt210)) (w64 ((w64 ((w64 (0 + vt121)) + vt171)) + vt221))).bind fun vt348 => ((num_Product k cos3 vt348).bind fun vt354 => ((num_Wide_Cmp k vt342 vt354).bind fun vt360 => (if vt360 < 0 then (some 0) else (some 1))))))) else ((num_Product k (w64 ((w64 ((w64 (0 + vt100)) + vt150)) + vt200)) 1073741824).bind fun vt372 => ((num_SqrtMul k (w64 ((w64 ((w64 (0 + vt110)) + vt160)) + vt210)) (w64 ((w64 ((w64 (0 + vt121)) + vt171)) + vt221))).bind fun vt378 => ((num_Product k cos3 vt378).bind fun vt384 => ((num_Wide_Cmp k vt372 vt384).bind fun vt390 => (if vt390 < 0 then (some 0) else (some 1))))))))))))))))))))))))))
def bound_Check_Coord (k : Nat) (b1 : S_Bound) : Option (Int) :=
  if b1.Unknown = true then (if b1.Lo ≠ 0 then (some 3) else (if b1.Hi ≠ 0 then (some 3) else (if (mn b1.Lo b1.Hi) < (-1152921504606846976) then (some 4) else (if (mx b1.Lo b1.Hi) > 1152921504606846976 then (some 4) else (if b1.Lo > b1.Hi then (some 11) else (some 0)))))) else (if (mn b1.Lo b1.Hi) < (-1152921504606846976) then (some 4) else (if (mx b1.Lo b1.Hi) > 1152921504606846976 then (some 4) else (if b1.Lo > b1.Hi then (some 11) else (some 0))))
def bound_None_Coord (k : Nat) : Option (S_Bound) :=
  some (⟨0, 0, true⟩ : S_Bound)
def bound_Norm_Coord (k : Nat) (b1 : S_Bound) : Option (S_Bound) :=
  (bound_Check_Coord k b1).bind fun vt16 => (if vt16 ≠ 0 then ((bound_None_Coord k).bind fun vt26 => (some vt26)) else (some b1))
def bound_Of_Coord (k : Nat) (lo1 : Int) (hi2 : Int) : Option (S_Bound) :=
  (bound_Norm_Coord k (⟨lo1, hi2, false⟩ : S_Bound)).bind fun vt11 => (some vt11)
def bound_Exact_Coord (k : Nat) (v1 : Int) : Option (S_Bound) :=
  (bound_Of_Coord k v1 v1).bind fun vt10 => (some vt10)
def spykeep3_inner_1 (k : Nat) (v5 : S_Stream) (x9 : S_Bound) : Option (S_Bound × Int) :=
  if x9.Unknown = true then ((spymake_Stream_Range k v5 (-99) 99).bind fun (vt29, vt30) => ((bound_Exact_Coord k vt29).bind fun vt36 => (some (vt36, vt30)))) else ((spymake_Stream_Next k v5 (w64 ((w64 (x9.Hi - x9.Lo)) + 1))).bind fun (vt55, vt56) => ((spymake_Stream_Next k (⟨v5.L, vt56⟩ : S_Stream) (w64 ((w64 (x9.Hi - x9.Lo)) + 1))).bind fun (vt62, vt63) => ((spymake_Stream_Next k (⟨v5.L, vt63⟩ : S_Stream) 2).bind fun (vt73, vt74) => (if vt73 = 0 then (some ((⟨mn (w64 (x9.Lo + vt55)) (w64 (x9.Lo + vt55)), mx (w64 (x9.Lo + vt55)) (w64 (x9.Lo + vt55)), false⟩ : S_Bound), vt74)) else (some ((⟨mn (w64 (x9.Lo + vt55)) (w64 (x9.Lo + vt62)), mx (w64 (x9.Lo + vt55)) (w64 (x9.Lo + vt62)), false⟩ : S_Bound), vt74))))))
def spykeep3_inner (k : Nat) (s3 : S_Stream) (b7 : S_Box) : Option (S_Box × Int) :=
  (spykeep3_inner_1 k s3 b7.X).bind fun (vt34, vt35) => ((spykeep3_inner_1 k (⟨s3.L, vt35⟩ : S_Stream) b7.Y).bind fun (vt43, vt44) => ((spykeep3_inner_1 k (⟨s3.L, vt44⟩ : S_Stream) b7.Z).bind fun (vt52, vt53) => (some ((⟨vt34, vt43, vt52⟩ : S_Box), vt53))))
def spykeep3_single (k : Nat) (vid1 : Int) : Option (S_Row) :=
  some (⟨vid1, (⟨(⟨0, 0, false⟩ : S_Bound), (⟨0, 0, false⟩ : S_Bound), (⟨0, 0, false⟩ : S_Bound)⟩ : S_Box), (⟨0, 0, false⟩ : S_Bound), (⟨0, 0, false⟩ : S_Bound), ([1] : List Int), 0⟩ : S_Row)
def catalog_ends_Coord (k : Nat) (b1 : S_Bound) (most2 : Int) : Option (Int) :=
  (bound_Check_Coord k b1).bind fun vt13 => (if vt13 ≠ 0 then (some vt13) else (if b1.Lo < (w64 (0 - most2)) then (some 4) else (if b1.Hi > most2 then (some 4) else (some 0))))
def bound_Check_Quanta (k : Nat) (b1 : S_Bound) : Option (Int) :=
  if b1.Unknown = true then (if b1.Lo ≠ 0 then (some 3) else (if b1.Hi ≠ 0 then (some 3) else (if (mn b1.Lo b1.Hi) < (-1152921504606846976) then (some 4) else (if (mx b1.Lo b1.Hi) > 1152921504606846976 then (some 4) else (if b1.Lo > b1.Hi then (some 11) else (some 0)))))) else (if (mn b1.Lo b1.Hi) < (-1152921504606846976) then (some 4) else (if (mx b1.Lo b1.Hi) > 1152921504606846976 then (some 4) else (if b1.Lo > b1.Hi then (some 11) else (some 0))))
def catalog_ends_Quanta (k : Nat) (b1 : S_Bound) (most2 : Int) : Option (Int) :=
  (bound_Check_Quanta k b1).bind fun vt13 => (if vt13 ≠ 0 then (some vt13) else (if b1.Lo < (w64 (0 - most2)) then (some 4) else (if b1.Hi > most2 then (some 4) else (some 0))))
def bound_Check_Tick (k : Nat) (b1 : S_Bound) : Option (Int) :=
  if b1.Unknown = true then (if b1.Lo ≠ 0 then (some 3) else (if b1.Hi ≠ 0 then (some 3) else (if (mn b1.Lo b1.Hi) < (-1152921504606846976) then (some 4) else (if (mx b1.Lo b1.Hi) > 1152921504606846976 then (some 4) else (if b1.Lo > b1.Hi then (some 11) else (some 0)))))) else (if (mn b1.Lo b1.Hi) < (-1152921504606846976) then (some 4) else (if (mx b1.Lo b1.Hi) > 1152921504606846976 then (some 4) else (if b1.Lo > b1.Hi then (some 11) else (some 0))))
def catalog_ends_Tick (k : Nat) (b1 : S_Bound) (most2 : Int) : Option (Int) :=
  (bound_Check_Tick k b1).bind fun vt13 => (if vt13 ≠ 0 then (some vt13) else (if b1.Lo < (w64 (0 - most2)) then (some 4) else (if b1.Hi > most2 then (some 4) else (some 0))))
def cmp_Or_Errno.l0 (k : Nat) (vals1 : List Int) : Nat → Int → Option (Sum Int Unit)
  | 0, _ => none
  | n_ + 1, x28 =>
    if x28 < (vals1.length : Int) then (if 0 ≤ x28 then (if (rd vals1 x28) ≠ 0 then (some (Sum.inl (rd vals1 x28))) else (cmp_Or_Errno.l0 k vals1 n_ (w64 (x28 + 1)))) else none) else (some (Sum.inr ()))
def cmp_Or_Errno (k : Nat) (vals1 : List Int) : Option (Int) :=
  (cmp_Or_Errno.l0 k vals1 k 0).bind fun z_ => Sum.elim (fun y_ => some y_) (fun _ => (some 0)) z_
def catalog_CheckRow.l0 (k : Nat) (r1 : S_Row) : Nat → Int → Option (Sum Int Unit)
  | 0, _ => none
  | n_ + 1, x41 =>
    if x41 < 3 then (if 0 ≤ x41 then ((catalog_ends_Coord k (rd [r1.Box.X, r1.Box.Y, r1.Box.Z] x41) 1073741824).bind fun vt68 => (if vt68 ≠ 0 then (some (Sum.inl vt68)) else (catalog_CheckRow.l0 k r1 n_ (w64 (x41 + 1))))) else none) else (some (Sum.inr ()))
def catalog_CheckRow.l1 (k : Nat) (r1 : S_Row) : Nat → Int → Option (Sum Int Unit)
  | 0, _ => none
  | n_ + 1, x176 =>
    if x176 < (r1.Frames.length : Int) then (if 0 ≤ x176 then (if (rd r1.Frames x176) < 1 then (some (Sum.inl 4)) else (if (rd r1.Frames x176) > 1048576 then (some (Sum.inl 4)) else (if x176 > 0 then (if 0 ≤ (w64 (x176 - 1)) then (if (w64 (x176 - 1)) < (r1.Frames.length : Int) then (if (rd r1.Frames x176) ≤ (rd r1.Frames (w64 (x176 - 1))) then (some (Sum.inl 11)) else (catalog_CheckRow.l1 k r1 n_ (w64 (x176 + 1)))) else none) else none) else (catalog_CheckRow.l1 k r1 n_ (w64 (x176 + 1)))))) else none) else (some (Sum.inr ()))
def catalog_CheckRow (k : Nat) (r1 : S_Row) : Option (Int) :=
  if r1.ID < 1 then (some 4) else (if r1.ID > 2147483647 then (some 4) else ((catalog_CheckRow.l0 k r1 k 0).bind fun z_ => Sum.elim (fun y_ => some y_) (fun _ => ((catalog_ends_Quanta k r1.Flux 1125899906842624).bind fun vt98 => ((catalog_ends_Tick k r1.When 17592186044416).bind fun vt104 => ((cmp_Or_Errno k ([vt98, vt104] : List Int)).bind fun vt121 => (if vt121 ≠ 0 then (some vt121) else (if (r1.Frames.length : Int) = 0 then (some 3) else (if (r1.Frames.length : Int) > 8 then (some 2) else ((catalog_CheckRow.l1 k r1 k 0).bind fun z_ => Sum.elim (fun y_ => some y_) (fun _ => (if r1.Marks < 0 then (some 4) else (if r1.Marks > 3 then (some 4) else (some 0)))) z_)))))))) z_))
def catalog_Check.l0 (k : Nat) (l1 : List S_Row) : Nat → Int → Option (Sum Int Unit)
  | 0, _ => none
  | n_ + 1, x34 =>
    if x34 < (l1.length : Int) then (if 0 ≤ x34 then ((catalog_CheckRow k (rd l1 x34)).bind fun vt70 => (if vt70 ≠ 0 then (some (Sum.inl vt70)) else (if x34 > 0 then (if 0 ≤ (w64 (x34 - 1)) then (if (w64 (x34 - 1)) < (l1.length : Int) then (if ((rd l1 x34).ID) ≤ ((rd l1 (w64 (x34 - 1))).ID) then (some (Sum.inl 11)) else (catalog_Check.l0 k l1 n_ (w64 (x34 + 1)))) else none) else none) else (catalog_Check.l0 k l1 n_ (w64 (x34 + 1)))))) else none) else (some (Sum.inr ()))
def catalog_Check (k : Nat) (l1 : List S_Row) : Option (Int) :=
  if (l1.length : Int) > 200 then (some 2) else ((catalog_Check.l0 k l1 k 0).bind fun z_ => Sum.elim (fun y_ => some y_) (fun _ => (some 0)) z_)
def slices_Clone_Row (k : Nat) (s1 : List S_Row) : Option ((List S_Row)) :=
  if (([] : List S_Row).length + s1.length) * 160 ≤ 140737488355328 then (some (([] : List S_Row) ++ s1)) else none
def slices_Clone_int (k : Nat) (s1 : List Int) : Option ((List Int)) :=
  if (([] : List Int).length + s1.length) * 8 ≤ 140737488355328 then (some (([] : List Int) ++ s1)) else none
def catalog_Copy.l0 (k : Nat) (vt9 : List S_Row) : Nat → (List S_Row) → Int → Option ((List S_Row))
  | 0, _, _ => none
  | n_ + 1, out93, x97 =>
    if x97 < (vt9.length : Int) then (if 0 ≤ x97 then (if x97 < (out93.length : Int) then ((slices_Clone_int k ((rd out93 x97).Frames)).bind fun vt124 => (catalog_Copy.l0 k vt9 n_ (out93.set (x97).toNat (⟨(rd out93 x97).ID, ((rd out93 x97).Box), ((rd out93 x97).Flux), ((rd out93 x97).When), vt124, (rd out93 x97).Marks⟩ : S_Row)) (w64 (x97 + 1)))) else none) else none) else (some out93)
def catalog_Copy (k : Nat) (l1 : List S_Row) : Option ((List S_Row)) :=
  (slices_Clone_Row k l1).bind fun vt9 => ((catalog_Copy.l0 k vt9 k vt9 0).bind fun out148 => (some out148))
def query_middle_1 (k : Nat) (x1 : S_Bound) : Option (Int) :=
  some (w64 (x1.Lo + (w64 (Int.tdiv (w64 (x1.Hi - x1.Lo)) 2))))
def query_middle.l0 (k : Nat) : Nat → Int → Int → Int → Option (Int × Int × Int)
  | 0, _, _, _ => none
  | n_ + 1, x185, x186, x187 =>
    if (mx (mx x185 x186) x187) > 1048576 then (query_middle.l0 k n_ (w64 (Int.tdiv x185 2)) (w64 (Int.tdiv x186 2)) (w64 (Int.tdiv x187 2))) else (if (mn (mn x185 x186) x187) < (-1048576) then (query_middle.l0 k n_ (w64 (Int.tdiv x185 2)) (w64 (Int.tdiv x186 2)) (w64 (Int.tdiv x187 2))) else (some (x185, x186, x187)))
def query_middle (k : Nat) (b1 : S_Box) : Option (S_Vec × Bool) :=
  (query_sides k b1).bind fun (vt16, vt17) => (if ¬ (vt17 = true) then (some ((⟨0, 0, 0⟩ : S_Vec), false)) else ((query_middle_1 k b1.X).bind fun vt44 => ((query_middle_1 k b1.Y).bind fun vt50 => ((query_middle_1 k b1.Z).bind fun vt56 => ((query_middle.l0 k k vt44 vt50 vt56).bind fun (x218, x219, x220) => (some ((⟨x218, x219, x220⟩ : S_Vec), (!((x218 == 0) && ((x219 == 0) && ((x220 == 0) && true)))))))))))
def query_New.l0 (k : Nat) (vt37 : List S_Row) : Nat → Int → (List Int) → Option ((List Int))
  | 0, _, _ => none
  | n_ + 1, x188, x189 =>
    if x188 < (vt37.length : Int) then (if 0 ≤ x188 then ((query_middle k ((rd vt37 x188).Box)).bind fun (vt228, vt229) => (if ¬ (vt229 = true) then (if (x189.length + 1) * 8 ≤ 140737488355328 then (query_New.l0 k vt37 n_ (w64 (x188 + 1)) (x189 ++ ([x188] : List Int))) else none) else (if (((rd vt37 x188).When).Unknown) = true then (if (x189.length + 1) * 8 ≤ 140737488355328 then (query_New.l0 k vt37 n_ (w64 (x188 + 1)) (x189 ++ ([x188] : List Int))) else none) else (none)))) else none) else (some x189)
def query_New.l2 (k : Nat) (vt476 : List Int) : Nat → Int → Option (Unit)
  | 0, _ => none
  | n_ + 1, x500 =>
    if x500 < (vt476.length : Int) then (none) else (some ())
def query_New.l1 (k : Nat) (level5 : Int) : Nat → (List (Int × Unit)) → Int → Option ((List (Int × Unit)))
  | 0, _, _ => none
  | n_ + 1, vat437, x442 =>
    if x442 < level5 then ((sortedKeys vat437).bind fun vt476 => ((query_New.l2 k vt476 k 0).bind fun _ => (query_New.l1 k level5 n_ ([] : List (Int × Unit)) (w64 (x442 + 1))))) else (some vat437)
def query_New.l3 (k : Nat) (vt559 : List Int) : Nat → Int → Option (Unit)
  | 0, _ => none
  | n_ + 1, x583 =>
    if x583 < (vt559.length : Int) then (none) else (some ())
def query_New (k : Nat) (rows1 : List S_Row) (level5 : Int) : Option (S_Index × Int) :=
  (catalog_Check k rows1).bind fun vt12 => (if vt12 ≠ 0 then (none) else (if level5 < 0 then (none) else (if level5 > 12 then (none) else ((catalog_Copy k rows1).bind fun vt37 => ((query_New.l0 k vt37 k 0 ([] : List Int)).bind fun x295 => ((query_New.l1 k level5 k ([] : List (Int × Unit)) 0).bind fun vat531 => ((sortedKeys vat531).bind fun vt559 => ((query_New.l3 k vt559 k 0).bind fun _ => (some ((⟨vt37, level5, ([] : List Unit), x295⟩ : S_Index), 0))))))))))
def sphere_Check (k : Nat) (v1 : S_Vec) : Option (Int) :=
  if (mx (mx v1.X v1.Y) v1.Z) > 1048576 then (some 4) else (if (mn (mn v1.X v1.Y) v1.Z) < (-1048576) then (some 4) else (if ((v1.X == 0) && ((v1.Y == 0) && ((v1.Z == 0) && true))) = true then (some 8) else (some 0)))
def query_CheckAsk.l0 (k : Nat) (q1 : S_Ask) : Nat → Int → Option (Sum Int Unit)
  | 0, _ => none
  | n_ + 1, x38 =>
    if x38 < (q1.Cones.length : Int) then (if 0 ≤ x38 then ((sphere_Check k ((rd q1.Cones x38).At)).bind fun vt73 => (if vt73 ≠ 0 then (some (Sum.inl vt73)) else (if ((rd q1.Cones x38).Cos) < 0 then (some (Sum.inl 4)) else (if ((rd q1.Cones x38).Cos) > 1073741824 then (some (Sum.inl 4)) else (query_CheckAsk.l0 k q1 n_ (w64 (x38 + 1))))))) else none) else (some (Sum.inr ()))
def query_CheckAsk (k : Nat) (q1 : S_Ask) : Option (Int) :=
  if (q1.Cones.length : Int) > 4 then (some 2) else ((query_CheckAsk.l0 k q1 k 0).bind fun z_ => Sum.elim (fun y_ => some y_) (fun _ => (if (mn q1.From q1.To) < (-17592186044416) then (some 4) else (if (mx q1.From q1.To) > 17592186044416 then (some 4) else (if q1.From > q1.To then (some 11) else (if q1.Least < 0 then (some 4) else (if q1.Least > 1125899906842624 then (some 4) else (if q1.Ban < 0 then (some 4) else (if q1.Ban > 3 then (some 4) else (some 0))))))))) z_)
def query_between_Tick (k : Nat) (b1 : S_Bound) (lo2 : Int) (hi3 : Int) : Option (Int) :=
  if b1.Unknown = true then (some 1) else (if b1.Hi < lo2 then (some 0) else (if b1.Lo > hi3 then (some 0) else (if b1.Lo ≥ lo2 then (if b1.Hi ≤ hi3 then (some 2) else (some 1)) else (some 1))))
def query_between_Quanta (k : Nat) (b1 : S_Bound) (lo2 : Int) (hi3 : Int) : Option (Int) :=
  if b1.Unknown = true then (some 1) else (if b1.Hi < lo2 then (some 0) else (if b1.Lo > hi3 then (some 0) else (if b1.Lo ≥ lo2 then (if b1.Hi ≤ hi3 then (some 2) else (some 1)) else (some 1))))
def query_point_1 (k : Nat) (c1 : Int) : Option (S_Bound) :=
  some (⟨c1, c1, false⟩ : S_Bound)
def query_point (k : Nat) (v1 : S_Vec) : Option (S_Box) :=
  (query_point_1 k v1.X).bind fun vt20 => ((query_point_1 k v1.Y).bind fun vt26 => ((query_point_1 k v1.Z).bind fun vt32 => (some (⟨vt20, vt26, vt32⟩ : S_Box))))
def query_grade.l0 (k : Nat) (q5 : S_Ask) (r1 : S_Row) : Nat → Int → Int → Option (Int)
  | 0, _, _ => none
  | n_ + 1, vg69, x70 =>
    if x70 < (q5.Cones.length : Int) then (if 0 ≤ x70 then ((query_point k ((rd q5.Cones x70).At)).bind fun vt103 => ((query_Near k r1.Box vt103 ((rd q5.Cones x70).Cos)).bind fun vt109 => (query_grade.l0 k q5 r1 n_ (mn vg69 vt109) (w64 (x70 + 1))))) else none) else (some vg69)
def query_grade (k : Nat) (r1 : S_Row) (q5 : S_Ask) : Option (Int) :=
  (query_between_Tick k r1.When q5.From q5.To).bind fun vt23 => ((query_between_Quanta k r1.Flux q5.Least 1125899906842624).bind fun vt29 => (((if (Go.bits .and .i64 r1.Marks q5.Ban) ≠ 0 then (some 0) else (some (mn vt23 vt29)) : Option (Int))).bind fun vg46 => ((query_grade.l0 k q5 r1 k vg46 0).bind fun vg120 => (some vg120))))
def query_Index_Run_1 (k : Nat) (v9 : S_Index) (v19 : S_Ask) (v23 : List S_Answer) (i29 : Int) : Option ((List S_Answer)) :=
  if 0 ≤ i29 then (if i29 < (v9.rows.length : Int) then ((query_grade k (rd v9.rows i29) v19).bind fun vt43 => (if vt43 ≠ 0 then (if (v23.length + 1) * 16 ≤ 140737488355328 then (some (v23 ++ ([(⟨(rd v9.rows i29).ID, vt43⟩ : S_Answer)] : List S_Answer))) else none) else (some v23))) else none) else none
def query_walk__query_Index_Run_2__query_Index_Run_1.l0 (k : Nat) (l29 : List Unit) : Nat → Int → Int → Option (Int)
  | 0, _, _ => none
  | n_ + 1, cost56, x57 =>
    if x57 < (l29.length : Int) then (none) else (some cost56)
def query_walk__query_Index_Run_2__query_Index_Run_1 (k : Nat) (v9 : S_Ask) (v13 : S_Index) (v23 : List S_Answer) (l29 : List Unit) : Option (Int × (List S_Answer)) :=
  (query_walk__query_Index_Run_2__query_Index_Run_1.l0 k l29 k (l29.length : Int) 0).bind fun cost80 => (some (cost80, v23))
def bits_Len64 (k : Nat) (x1 : Int) : Option (Int) :=
  ((if x1 ≥ 4294967296 then (some ((shr x1 32), 32)) else (some (x1, 0)) : Option (Int × Int))).bind fun (x17, n18) => (((if x17 ≥ 65536 then (some ((shr x17 16), (w64 (n18 + 16)))) else (some (x17, n18)) : Option (Int × Int))).bind fun (x35, n36) => (if x35 ≥ 256 then (if 0 ≤ (u8 (shr x35 8)) then (if (u8 (shr x35 8)) < (str0.size : Int) then (some (w64 ((w64 (n36 + 8)) + (w64 ((bt str0 (u8 (shr x35 8)))))))) else none) else none) else (if 0 ≤ (u8 (x35)) then (if (u8 (x35)) < (str0.size : Int) then (some (w64 (n36 + (w64 ((bt str0 (u8 (x35)))))))) else none) else none)))
def bits_Len (k : Nat) (x1 : Int) : Option (Int) :=
  (bits_Len64 k x1).bind fun vt8 => (some vt8)
def query_Index_Run_3 (k : Nat) (a1 : S_Answer) (b2 : S_Answer) : Option (Int) :=
  some (w64 (a1.ID - b2.ID))
def slices_insertionSortCmpFunc_Answer__query_Index_Run_3.l1 (k : Nat) (a7 : Int) : Nat → (List S_Answer) → Int → Option ((List S_Answer))
  | 0, _, _ => none
  | n_ + 1, data313, j317 =>
    if j317 > a7 then (if 0 ≤ j317 then (if j317 < (data313.length : Int) then (if 0 ≤ (w64 (j317 - 1)) then (if (w64 (j317 - 1)) < (data313.length : Int) then ((query_Index_Run_3 k (rd data313 j317) (rd data313 (w64 (j317 - 1)))).bind fun vt341 => (if vt341 < 0 then (if (w64 (j317 - 1)) < ((data313.set (j317).toNat (rd data313 (w64 (j317 - 1)))).length : Int) then (slices_insertionSortCmpFunc_Answer__query_Index_Run_3.l1 k a7 n_ ((data313.set (j317).toNat (rd data313 (w64 (j317 - 1)))).set (w64 (j317 - 1)).toNat (rd data313 j317)) (w64 (j317 - 1))) else none) else (some data313))) else none) else none) else none) else none) else (some data313)
def slices_insertionSortCmpFunc_Answer__query_Index_Run_3.l0 (k : Nat) (b8 : Int) (a7 : Int) : Nat → (List S_Answer) → Int → Option ((List S_Answer))
  | 0, _, _ => none
  | n_ + 1, data209, i213 =>
    if i213 < b8 then ((slices_insertionSortCmpFunc_Answer__query_Index_Run_3.l1 k a7 k data209 i213).bind fun data380 => (slices_insertionSortCmpFunc_Answer__query_Index_Run_3.l0 k b8 a7 n_ data380 (w64 (i213 + 1)))) else (some data209)
def slices_insertionSortCmpFunc_Answer__query_Index_Run_3 (k : Nat) (data5 : List S_Answer) (a7 : Int) (b8 : Int) : Option ((List S_Answer)) :=
  (slices_insertionSortCmpFunc_Answer__query_Index_Run_3.l0 k b8 a7 k data5 (w64 (a7 + 1))).bind fun data392 => (some data392)
def slices_pdqsortCmpFunc_Answer__query_Index_Run_3.l0 (k : Nat) (data5 : List S_Answer) : Nat → Int → Int → Int → Bool → Bool → Option (Sum (List S_Answer) Unit)
  | 0, _, _, _, _, _ => none
  | n_ + 1, a29, b30, limit31, wasBalanced32, wasPartitioned33 =>
    if (w64 (b30 - a29)) ≤ 12 then ((slices_insertionSortCmpFunc_Answer__query_Index_Run_3 k data5 a29 b30).bind fun vt51 => (some (Sum.inl vt51))) else (none)
def slices_pdqsortCmpFunc_Answer__query_Index_Run_3 (k : Nat) (data5 : List S_Answer) (a7 : Int) (b8 : Int) (limit9 : Int) : Option ((List S_Answer)) :=
  (slices_pdqsortCmpFunc_Answer__query_Index_Run_3.l0 k data5 k a7 b8 limit9 true true).bind fun z_ => Sum.elim (fun y_ => some y_) (fun _ => (none)) z_
def slices_SortFunc_Answer__query_Index_Run_3 (k : Nat) (x5 : List S_Answer) : Option ((List S_Answer)) :=
  (bits_Len k (u64 ((x5.length : Int)))).bind fun vt9 => ((slices_pdqsortCmpFunc_Answer__query_Index_Run_3 k x5 0 (x5.length : Int) vt9).bind fun vt15 => (some vt15))
def query_Index_Run.l0 (k : Nat) (x3 : S_Index) (q13 : S_Ask) : Nat → Int → (List S_Answer) → Option ((List S_Answer))
  | 0, _, _ => none
  | n_ + 1, x123, x124 =>
    if x123 < (x3.loose.length : Int) then (if 0 ≤ x123 then ((query_Index_Run_1 k x3 q13 x124 (rd x3.loose x123)).bind fun vt158 => (query_Index_Run.l0 k x3 q13 n_ (w64 (x123 + 1)) vt158)) else none) else (some x124)
def query_Index_Run (k : Nat) (x3 : S_Index) (q13 : S_Ask) : Option ((List S_Answer) × Int × Int) :=
  (query_CheckAsk k q13).bind fun vt31 => (if vt31 ≠ 0 then (some (([] : List S_Answer), 0, vt31)) else ((query_Index_Run.l0 k x3 q13 k 0 ([] : List S_Answer)).bind fun x174 => ((query_walk__query_Index_Run_2__query_Index_Run_1 k q13 x3 x174 x3.roots).bind fun (vt203, vt204) => ((slices_SortFunc_Answer__query_Index_Run_3 k vt204).bind fun vt353 => (some (vt353, w64 ((x3.loose.length : Int) + vt203), 0))))))
def spykeep3_asked (k : Nat) : Option (Bool) :=
  (spykeep3_single k 1).bind fun vt5 => ((query_New k ([vt5] : List S_Row) 2).bind fun (vt30, vt31) => (if vt31 ≠ 0 then (some false) else ((query_Index_Run k vt30 (⟨([] : List S_Cone), 0, 0, 0, 0⟩ : S_Ask)).bind fun (vt57, vt58, vt59) => (if vt59 = 0 then (if vt58 > 0 then (if (vt57.length : Int) = 1 then (if 0 < (vt57.length : Int) then (some (((rd vt57 0).ID) == 1)) else none) else (some false)) else (some false)) else (some false)))))
def spykeep3_QueryShrinks (k : Nat) (l1 : List Int) (cos5 : Int) : Option (Bool) :=
  (spymake_Stream_Box k (⟨l1, 0⟩ : S_Stream)).bind fun (vt16, vt17) => ((spymake_Stream_Box k (⟨l1, vt17⟩ : S_Stream)).bind fun (vt23, vt24) => ((spymake_Below k cos5 1073741825).bind fun vt46 => ((query_Near k vt16 vt23 vt46).bind fun vt59 => ((spykeep3_inner k (⟨l1, vt24⟩ : S_Stream) vt16).bind fun (vt65, vt66) => ((spykeep3_inner k (⟨l1, vt66⟩ : S_Stream) vt23).bind fun (vt72, vt73) => ((query_Near k vt65 vt72 vt46).bind fun vt79 => ((spykeep3_asked k).bind fun vt87 => (if vt87 = true then ((query_Near k vt23 vt16 vt46).bind fun vt94 => (if vt59 = vt94 then (if vt59 ≠ 0 then (if vt59 ≠ 2 then (some true) else (some (vt79 == 2))) else (if vt79 = 0 then (if vt59 ≠ 2 then (some true) else (some (vt79 == 2))) else (some false))) else (some false))) else (some false)))))))))
end Go.Sp.Q3
