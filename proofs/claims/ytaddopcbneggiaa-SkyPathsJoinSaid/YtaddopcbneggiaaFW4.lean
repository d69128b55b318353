import Derived.Test.YtaddopcbneggiaaSpCopy
namespace Go.Sp.W4
open Go Go.Sp
set_option linter.unusedVariables false
def str0 : ByteArray := ⟨#[0, 1, 2, 2, 3, 3, 3, 3, 4, 4, 4, 4, 4, 4, 4, 4, 5, 5, 5, 5, 5, 5, 5, 5, 5, 5, 5, 5, 5, 5, 5, 5, 6, 6, 6, 6, 6, 6, 6, 6, 6, 6, 6, 6, 6, 6, 6, 6, 6, 6, 6, 6, 6, 6, 6, 6, 6, 6, 6, 6, 6, 6, 6, 6, 7, 7, 7, 7, 7, 7, 7, 7, 7, 7, 7, 7, 7, 7, 7, 7, 7, 7, 7, 7, 7, 7, 7, 7, 7, 7, 7, 7, 7, 7, 7, 7, 7, 7, 7, 7, 7, 7, 7, 7, 7, 7, 7, 7, 7, 7, 7, 7, 7, 7, 7, 7, 7, 7, 7, 7, 7, 7, 7, 7, 7, 7, 7, 7, 8, 8, 8, 8, 8, 8, 8, 8, 8, 8, 8, 8, 8, 8, 8, 8, 8, 8, 8, 8, 8, 8, 8, 8, 8, 8, 8, 8, 8, 8, 8, 8, 8, 8, 8, 8, 8, 8, 8, 8, 8, 8, 8, 8, 8, 8, 8, 8, 8, 8, 8, 8, 8, 8, 8, 8, 8, 8, 8, 8, 8, 8, 8, 8, 8, 8, 8, 8, 8, 8, 8, 8, 8, 8, 8, 8, 8, 8, 8, 8, 8, 8, 8, 8, 8, 8, 8, 8, 8, 8, 8, 8, 8, 8, 8, 8, 8, 8, 8, 8, 8, 8, 8, 8, 8, 8, 8, 8, 8, 8, 8, 8, 8, 8, 8, 8, 8, 8, 8, 8, 8, 8, 8, 8, 8, 8, 8, 8]⟩
structure S_Vec where
  X : Int
  Y : Int
  Z : Int
instance : Inhabited S_Vec := ⟨⟨default, default, default⟩⟩
structure S_Wide where
  Hi : Int
  Lo : Int
instance : Inhabited S_Wide := ⟨⟨default, default⟩⟩
structure S_Stream where
  L : List Int
  vat : Int
instance : Inhabited S_Stream := ⟨⟨default, default⟩⟩
structure S_Body where
  ID : Int
  Was : S_Vec
  Here : S_Vec
  Rate : Int
instance : Inhabited S_Body := ⟨⟨default, default, default, default⟩⟩
def sky_within.l0 (k : Nat) (v1 : S_Vec) (most2 : Int) : Nat → Int → Option (Sum Bool Unit)
  | 0, _ => none
  | n_ + 1, x28 =>
    if x28 < 3 then (if 0 ≤ x28 then (if (rd [v1.X, v1.Y, v1.Z] x28) < (w64 (0 - most2)) then (some (Sum.inl false)) else (if (rd [v1.X, v1.Y, v1.Z] x28) > most2 then (some (Sum.inl false)) else (sky_within.l0 k v1 most2 n_ (w64 (x28 + 1))))) else none) else (some (Sum.inr ()))
def sky_within (k : Nat) (v1 : S_Vec) (most2 : Int) : Option (Bool) :=
  (sky_within.l0 k v1 most2 k 0).bind fun z_ => Sum.elim (fun y_ => some y_) (fun _ => (some true)) z_
def bits_Mul64 (k : Nat) (x1 : Int) (y2 : Int) : Option (Int × Int) :=
  some (u64 ((u64 ((u64 ((shr x1 32) * (shr y2 32))) + (shr (u64 ((u64 ((shr x1 32) * (Go.bits .and .u64 y2 4294967295))) + (shr (u64 ((Go.bits .and .u64 x1 4294967295) * (Go.bits .and .u64 y2 4294967295))) 32))) 32))) + (shr (u64 ((Go.bits .and .u64 (u64 ((u64 ((shr x1 32) * (Go.bits .and .u64 y2 4294967295))) + (shr (u64 ((Go.bits .and .u64 x1 4294967295) * (Go.bits .and .u64 y2 4294967295))) 32))) 4294967295) + (u64 ((Go.bits .and .u64 x1 4294967295) * (shr y2 32))))) 32)), u64 (x1 * y2))
def num_SqrtMul.l0 (k : Nat) (vt18 : Int) (vt19 : Int) : Nat → Int → Int → Option (Int)
  | 0, _, _ => none
  | n_ + 1, r46, bit47 =>
    if bit47 > 0 then ((bits_Mul64 k (Go.bits .or .u64 r46 bit47) (Go.bits .or .u64 r46 bit47)).bind fun (vt65, vt66) => (if vt65 < vt18 then (num_SqrtMul.l0 k vt18 vt19 n_ (Go.bits .or .u64 r46 bit47) (shr bit47 1)) else (if vt65 = vt18 then (if vt66 ≤ vt19 then (num_SqrtMul.l0 k vt18 vt19 n_ (Go.bits .or .u64 r46 bit47) (shr bit47 1)) else (num_SqrtMul.l0 k vt18 vt19 n_ r46 (shr bit47 1))) else (num_SqrtMul.l0 k vt18 vt19 n_ r46 (shr bit47 1))))) else (some r46)
def num_SqrtMul (k : Nat) (a1 : Int) (b2 : Int) : Option (Int) :=
  if a1 < 0 then (some 0) else (if b2 < 0 then (some 0) else ((bits_Mul64 k (u64 (a1)) (u64 (b2))).bind fun (vt18, vt19) => ((num_SqrtMul.l0 k vt18 vt19 k 0 4611686018427387904).bind fun r83 => (some (w64 (r83))))))
def num_Sqrt (k : Nat) (a1 : Int) : Option (Int) :=
  (num_SqrtMul k a1 1).bind fun vt6 => (some vt6)
def num_size (k : Nat) (a1 : Int) : Option (Int) :=
  if a1 < 0 then (some (u64 (0 - (u64 (a1))))) else (some (u64 (a1)))
def num_Wide_Neg (k : Nat) (vw1 : S_Wide) : Option (S_Wide) :=
  if 0 ≤ (Go.bits .xor .u64 IntKind.u64.max vw1.Lo) then (if 0 ≤ (Go.bits .xor .u64 IntKind.u64.max (u64 (vw1.Hi))) then (if 0 ≤ (((Go.bits .xor .u64 IntKind.u64.max vw1.Lo) + 1 + 0) / 18446744073709551616) then (if (((Go.bits .xor .u64 IntKind.u64.max vw1.Lo) + 1 + 0) / 18446744073709551616) ≤ 1 then (some (⟨w64 (((Go.bits .xor .u64 IntKind.u64.max (u64 (vw1.Hi))) + 0 + (((Go.bits .xor .u64 IntKind.u64.max vw1.Lo) + 1 + 0) / 18446744073709551616)) % 18446744073709551616), ((Go.bits .xor .u64 IntKind.u64.max vw1.Lo) + 1 + 0) % 18446744073709551616⟩ : S_Wide)) else none) else none) else none) else none
def num_Product (k : Nat) (a1 : Int) (b2 : Int) : Option (S_Wide) :=
  (num_size k a1).bind fun vt11 => ((num_size k b2).bind fun vt17 => ((bits_Mul64 k vt11 vt17).bind fun (vt23, vt24) => (if ((decide (a1 < 0)) != (decide (b2 < 0))) = true then ((num_Wide_Neg k (⟨w64 (vt23), vt24⟩ : S_Wide)).bind fun vt46 => (some vt46)) else (some (⟨w64 (vt23), vt24⟩ : S_Wide)))))
def bits_Len64 (k : Nat) (x1 : Int) : Option (Int) :=
  ((if x1 ≥ 4294967296 then (some ((shr x1 32), 32)) else (some (x1, 0)) : Option (Int × Int))).bind fun (x17, n18) => (((if x17 ≥ 65536 then (some ((shr x17 16), (w64 (n18 + 16)))) else (some (x17, n18)) : Option (Int × Int))).bind fun (x35, n36) => (if x35 ≥ 256 then (if 0 ≤ (u8 (shr x35 8)) then (if (u8 (shr x35 8)) < (str0.size : Int) then (some (w64 ((w64 (n36 + 8)) + (w64 ((bt str0 (u8 (shr x35 8)))))))) else none) else none) else (if 0 ≤ (u8 (x35)) then (if (u8 (x35)) < (str0.size : Int) then (some (w64 (n36 + (w64 ((bt str0 (u8 (x35)))))))) else none) else none)))
def bits_LeadingZeros64 (k : Nat) (x1 : Int) : Option (Int) :=
  (bits_Len64 k x1).bind fun vt6 => (some (w64 (64 - vt6)))
def bits_Div64.l0 (k : Nat) (y3 : Int) (vt31 : Int) (lo2 : Int) : Nat → Int → Int → Option (Int)
  | 0, _, _ => none
  | n_ + 1, q175, rhat76 =>
    if q175 ≥ 4294967296 then (if (u64 (rhat76 + (shr (u64 (y3 * 2 ^ (min (u64 (vt31)).toNat 64))) 32))) ≥ 4294967296 then (some (u64 (q175 - 1))) else (bits_Div64.l0 k y3 vt31 lo2 n_ (u64 (q175 - 1)) (u64 (rhat76 + (shr (u64 (y3 * 2 ^ (min (u64 (vt31)).toNat 64))) 32))))) else (if (u64 (q175 * (Go.bits .and .u64 (u64 (y3 * 2 ^ (min (u64 (vt31)).toNat 64))) 4294967295))) > (u64 ((u64 (4294967296 * rhat76)) + (shr (u64 (lo2 * 2 ^ (min (u64 (vt31)).toNat 64))) 32))) then (if (u64 (rhat76 + (shr (u64 (y3 * 2 ^ (min (u64 (vt31)).toNat 64))) 32))) ≥ 4294967296 then (some (u64 (q175 - 1))) else (bits_Div64.l0 k y3 vt31 lo2 n_ (u64 (q175 - 1)) (u64 (rhat76 + (shr (u64 (y3 * 2 ^ (min (u64 (vt31)).toNat 64))) 32))))) else (some q175))
def bits_Div64.l1 (k : Nat) (y3 : Int) (vt31 : Int) (lo2 : Int) : Nat → Int → Int → Option (Int)
  | 0, _, _ => none
  | n_ + 1, rhat146, q0147 =>
    if q0147 ≥ 4294967296 then (if (u64 (rhat146 + (shr (u64 (y3 * 2 ^ (min (u64 (vt31)).toNat 64))) 32))) ≥ 4294967296 then (some (u64 (q0147 - 1))) else (bits_Div64.l1 k y3 vt31 lo2 n_ (u64 (rhat146 + (shr (u64 (y3 * 2 ^ (min (u64 (vt31)).toNat 64))) 32))) (u64 (q0147 - 1)))) else (if (u64 (q0147 * (Go.bits .and .u64 (u64 (y3 * 2 ^ (min (u64 (vt31)).toNat 64))) 4294967295))) > (u64 ((u64 (4294967296 * rhat146)) + (Go.bits .and .u64 (u64 (lo2 * 2 ^ (min (u64 (vt31)).toNat 64))) 4294967295))) then (if (u64 (rhat146 + (shr (u64 (y3 * 2 ^ (min (u64 (vt31)).toNat 64))) 32))) ≥ 4294967296 then (some (u64 (q0147 - 1))) else (bits_Div64.l1 k y3 vt31 lo2 n_ (u64 (rhat146 + (shr (u64 (y3 * 2 ^ (min (u64 (vt31)).toNat 64))) 32))) (u64 (q0147 - 1)))) else (some q0147))
def bits_Div64 (k : Nat) (hi1 : Int) (lo2 : Int) (y3 : Int) : Option (Int × Int) :=
  if y3 = 0 then (none) else (if y3 ≤ hi1 then (none) else (if hi1 = 0 then (if ¬ (y3 = 0) then (some (u64 (Int.tdiv lo2 y3), Int.tmod lo2 y3)) else none) else ((bits_LeadingZeros64 k y3).bind fun vt31 => (if ¬ ((u64 (vt31)) < 0) then (if ¬ ((u64 (64 - (u64 (vt31)))) < 0) then (if ¬ ((shr (u64 (y3 * 2 ^ (min (u64 (vt31)).toNat 64))) 32) = 0) then ((bits_Div64.l0 k y3 vt31 lo2 k (u64 (Int.tdiv (Go.bits .or .u64 (u64 (hi1 * 2 ^ (min (u64 (vt31)).toNat 64))) (shr lo2 (min (u64 (64 - (u64 (vt31)))).toNat 64))) (shr (u64 (y3 * 2 ^ (min (u64 (vt31)).toNat 64))) 32))) (u64 ((Go.bits .or .u64 (u64 (hi1 * 2 ^ (min (u64 (vt31)).toNat 64))) (shr lo2 (min (u64 (64 - (u64 (vt31)))).toNat 64))) - (u64 ((u64 (Int.tdiv (Go.bits .or .u64 (u64 (hi1 * 2 ^ (min (u64 (vt31)).toNat 64))) (shr lo2 (min (u64 (64 - (u64 (vt31)))).toNat 64))) (shr (u64 (y3 * 2 ^ (min (u64 (vt31)).toNat 64))) 32))) * (shr (u64 (y3 * 2 ^ (min (u64 (vt31)).toNat 64))) 32)))))).bind fun q1119 => ((bits_Div64.l1 k y3 vt31 lo2 k (u64 ((u64 ((u64 ((u64 ((Go.bits .or .u64 (u64 (hi1 * 2 ^ (min (u64 (vt31)).toNat 64))) (shr lo2 (min (u64 (64 - (u64 (vt31)))).toNat 64))) * 4294967296)) + (shr (u64 (lo2 * 2 ^ (min (u64 (vt31)).toNat 64))) 32))) - (u64 (q1119 * (u64 (y3 * 2 ^ (min (u64 (vt31)).toNat 64))))))) - (u64 ((u64 (Int.tdiv (u64 ((u64 ((u64 ((Go.bits .or .u64 (u64 (hi1 * 2 ^ (min (u64 (vt31)).toNat 64))) (shr lo2 (min (u64 (64 - (u64 (vt31)))).toNat 64))) * 4294967296)) + (shr (u64 (lo2 * 2 ^ (min (u64 (vt31)).toNat 64))) 32))) - (u64 (q1119 * (u64 (y3 * 2 ^ (min (u64 (vt31)).toNat 64))))))) (shr (u64 (y3 * 2 ^ (min (u64 (vt31)).toNat 64))) 32))) * (shr (u64 (y3 * 2 ^ (min (u64 (vt31)).toNat 64))) 32))))) (u64 (Int.tdiv (u64 ((u64 ((u64 ((Go.bits .or .u64 (u64 (hi1 * 2 ^ (min (u64 (vt31)).toNat 64))) (shr lo2 (min (u64 (64 - (u64 (vt31)))).toNat 64))) * 4294967296)) + (shr (u64 (lo2 * 2 ^ (min (u64 (vt31)).toNat 64))) 32))) - (u64 (q1119 * (u64 (y3 * 2 ^ (min (u64 (vt31)).toNat 64))))))) (shr (u64 (y3 * 2 ^ (min (u64 (vt31)).toNat 64))) 32)))).bind fun q0190 => (some (u64 ((u64 (q1119 * 4294967296)) + q0190), shr (u64 ((u64 ((u64 ((u64 ((u64 ((u64 ((Go.bits .or .u64 (u64 (hi1 * 2 ^ (min (u64 (vt31)).toNat 64))) (shr lo2 (min (u64 (64 - (u64 (vt31)))).toNat 64))) * 4294967296)) + (shr (u64 (lo2 * 2 ^ (min (u64 (vt31)).toNat 64))) 32))) - (u64 (q1119 * (u64 (y3 * 2 ^ (min (u64 (vt31)).toNat 64))))))) * 4294967296)) + (Go.bits .and .u64 (u64 (lo2 * 2 ^ (min (u64 (vt31)).toNat 64))) 4294967295))) - (u64 (q0190 * (u64 (y3 * 2 ^ (min (u64 (vt31)).toNat 64))))))) (min (u64 (vt31)).toNat 64))))) else none) else none) else none))))
def num_Wide_Div (k : Nat) (vw1 : S_Wide) (d2 : Int) : Option (Int × Int) :=
  if d2 < 1 then (some (0, 1)) else (((if vw1.Hi < 0 then ((num_Wide_Neg k vw1).bind fun vt31 => (some (vt31.Hi, vt31.Lo))) else (some (vw1.Hi, vw1.Lo)) : Option (Int × Int))).bind fun (x44, x45) => (if (u64 (x44)) ≥ (u64 (d2)) then (some (0, 2)) else ((bits_Div64 k (u64 (x44)) x45 (u64 (d2))).bind fun (vt59, vt60) => (((if vw1.Hi < 0 then (((if vt60 > 0 then (some (u64 (9223372036854775808 - 1))) else (some 9223372036854775808) : Option (Int))).bind fun most85 => (some most85)) else (some 9223372036854775807) : Option (Int))).bind fun most94 => (if vt59 > most94 then (some (0, 2)) else (if vw1.Hi ≥ 0 then (some (w64 (vt59), 0)) else (if vt60 > 0 then (some (w64 ((w64 (u64 (0 - vt59))) - 1), 0)) else (some (w64 (u64 (0 - vt59)), 0)))))))))
def num_MulDiv (k : Nat) (a1 : Int) (b2 : Int) (c3 : Int) : Option (Int × Int) :=
  (num_Product k a1 b2).bind fun vt8 => ((num_Wide_Div k vt8 c3).bind fun (vt14, vt15) => (some (vt14, vt15)))
def sky_Pull_1 (k : Nat) (v3 : Int) (x4 : Int) : Option (Int) :=
  (num_MulDiv k 9007199254740992 (mx x4 (w64 (0 - x4))) v3).bind fun (vt9, vt10) => (if ¬ ((w64 (v3 * v3)) = 0) then (if x4 > 0 then (some (w64 (0 - (w64 (Int.tdiv vt9 (w64 (v3 * v3))))))) else (some (w64 (Int.tdiv vt9 (w64 (v3 * v3)))))) else none)
def sky_Pull (k : Nat) (vat1 : S_Vec) : Option (S_Vec) :=
  (sky_within k vat1 4194304).bind fun vt16 => (if ¬ (vt16 = true) then (some (⟨0, 0, 0⟩ : S_Vec)) else ((num_Sqrt k (w64 ((w64 ((w64 (vat1.X * vat1.X)) + (w64 (vat1.Y * vat1.Y)))) + (w64 (vat1.Z * vat1.Z))))).bind fun vt30 => (if vt30 < 65536 then (some (⟨0, 0, 0⟩ : S_Vec)) else ((sky_Pull_1 k vt30 vat1.X).bind fun vt63 => ((sky_Pull_1 k vt30 vat1.Y).bind fun vt73 => ((sky_Pull_1 k vt30 vat1.Z).bind fun vt83 => (some (⟨vt63, vt73, vt83⟩ : S_Vec))))))))
def sky_Step (k : Nat) (was1 : S_Vec) (here2 : S_Vec) : Option (S_Vec × Int) :=
  (sky_within k was1 4194304).bind fun vt21 => (if ¬ (vt21 = true) then (some ((⟨0, 0, 0⟩ : S_Vec), 4)) else ((sky_within k here2 4194304).bind fun vt32 => (if ¬ (vt32 = true) then (some ((⟨0, 0, 0⟩ : S_Vec), 4)) else ((sky_Pull k here2).bind fun vt46 => ((sky_within k (⟨w64 ((w64 ((w64 (2 * here2.X)) - was1.X)) + vt46.X), w64 ((w64 ((w64 (2 * here2.Y)) - was1.Y)) + vt46.Y), w64 ((w64 ((w64 (2 * here2.Z)) - was1.Z)) + vt46.Z)⟩ : S_Vec) 4194304).bind fun vt70 => (if ¬ (vt70 = true) then (some ((⟨0, 0, 0⟩ : S_Vec), 18)) else (some ((⟨w64 ((w64 ((w64 (2 * here2.X)) - was1.X)) + vt46.X), w64 ((w64 ((w64 (2 * here2.Y)) - was1.Y)) + vt46.Y), w64 ((w64 ((w64 (2 * here2.Z)) - was1.Z)) + vt46.Z)⟩ : S_Vec), 0))))))))
def spykeep3_pulls (k : Nat) : Option (Bool) :=
  (sky_Step k (⟨1048576, 0, 0⟩ : S_Vec) (⟨1048576, 0, 0⟩ : S_Vec)).bind fun (vt5, vt6) => (if vt6 = 0 then (some ((vt5.X == 1040384) && ((vt5.Y == 0) && ((vt5.Z == 0) && true)))) else (some false))
def spymake_Below (k : Nat) (x1 : Int) (n2 : Int) : Option (Int) :=
  if n2 < 1 then (some 0) else (if ¬ (n2 = 0) then (if (Int.tmod x1 n2) < 0 then (some (w64 ((Int.tmod x1 n2) + n2))) else (some (Int.tmod x1 n2))) else none)
def spymake_Stream_Next (k : Nat) (s3 : S_Stream) (n7 : Int) : Option (Int × Int) :=
  if (s3.L.length : Int) = 0 then ((spymake_Below k (w64 ((w64 (s3.vat + 1)) * 7919)) n7).bind fun vt22 => (some (vt22, w64 (s3.vat + 1)))) else (if ¬ ((s3.L.length : Int) = 0) then (if 0 ≤ (Int.tmod (w64 ((w64 (s3.vat + 1)) - 1)) (s3.L.length : Int)) then (if (Int.tmod (w64 ((w64 (s3.vat + 1)) - 1)) (s3.L.length : Int)) < (s3.L.length : Int) then ((spymake_Below k (rd s3.L (Int.tmod (w64 ((w64 (s3.vat + 1)) - 1)) (s3.L.length : Int))) 1073741824).bind fun vt47 => ((spymake_Below k (w64 (vt47 + (w64 ((w64 (Int.tdiv (w64 ((w64 (s3.vat + 1)) - 1)) (s3.L.length : Int))) * (w64 (7919 + (Int.tmod (w64 ((w64 (s3.vat + 1)) - 1)) (s3.L.length : Int)))))))) n7).bind fun vt53 => (some (vt53, w64 (s3.vat + 1))))) else none) else none) else none)
def spymake_Stream_Range (k : Nat) (s3 : S_Stream) (low7 : Int) (high8 : Int) : Option (Int × Int) :=
  if high8 < low7 then (some (low7, s3.vat)) else ((spymake_Stream_Next k s3 (w64 ((w64 (high8 - low7)) + 1))).bind fun (vt21, vt22) => (some (w64 (low7 + vt21), vt22)))
def spymake_Stream_Place (k : Nat) (s3 : S_Stream) (dist7 : Int) : Option (S_Vec × Int) :=
  (spymake_Stream_Range k s3 (w64 (0 - (w64 (dist7 * 1048576)))) (w64 (dist7 * 1048576))).bind fun (vt19, vt20) => ((spymake_Stream_Range k (⟨s3.L, vt20⟩ : S_Stream) (w64 (0 - (w64 (dist7 * 1048576)))) (w64 (dist7 * 1048576))).bind fun (vt26, vt27) => ((spymake_Stream_Range k (⟨s3.L, vt27⟩ : S_Stream) (w64 (0 - (w64 (dist7 * 1048576)))) (w64 (dist7 * 1048576))).bind fun (vt33, vt34) => (some ((⟨vt19, vt26, w64 (Int.tdiv vt33 4)⟩ : S_Vec), vt34))))
def spymake_within_1 (k : Nat) (c1 : Int) : Option (Int) :=
  some (mx (-4194304) (mn 4194304 c1))
def spymake_within (k : Nat) (v1 : S_Vec) : Option (S_Vec) :=
  (spymake_within_1 k v1.X).bind fun vt20 => ((spymake_within_1 k v1.Y).bind fun vt26 => ((spymake_within_1 k v1.Z).bind fun vt32 => (some (⟨vt20, vt26, vt32⟩ : S_Vec))))
def spymake_Stream_rate (k : Nat) (s3 : S_Stream) : Option (Int × Int) :=
  (spymake_Stream_Next k s3 6).bind fun (vt18, vt19) => (if 0 ≤ vt18 then (if vt18 < (([50, 500, 5000, 5000, 40000, 1048577] : List Int).length : Int) then ((spymake_Stream_Next k (⟨s3.L, vt19⟩ : S_Stream) (rd ([50, 500, 5000, 5000, 40000, 1048577] : List Int) vt18)).bind fun (vt30, vt31) => (some (vt30, vt31))) else none) else none)
def spymake_Stream_Body (k : Nat) (s3 : S_Stream) (vid7 : Int) (here8 : S_Vec) : Option (S_Body × Int) :=
  (spymake_Stream_Next k s3 3).bind fun (vt28, vt29) => (if 0 ≤ vt28 then (if vt28 < (([1000, 90000, 150000] : List Int).length : Int) then ((spymake_Stream_Range k (⟨s3.L, vt29⟩ : S_Stream) (w64 (0 - (rd ([1000, 90000, 150000] : List Int) vt28))) (rd ([1000, 90000, 150000] : List Int) vt28)).bind fun (vt48, vt49) => ((spymake_Stream_Range k (⟨s3.L, vt49⟩ : S_Stream) (w64 (0 - (rd ([1000, 90000, 150000] : List Int) vt28))) (rd ([1000, 90000, 150000] : List Int) vt28)).bind fun (vt55, vt56) => ((spymake_Stream_Range k (⟨s3.L, vt56⟩ : S_Stream) (w64 (0 - (rd ([1000, 90000, 150000] : List Int) vt28))) (rd ([1000, 90000, 150000] : List Int) vt28)).bind fun (vt62, vt63) => ((spymake_within k (⟨w64 (here8.X + vt48), w64 (here8.Y + vt55), w64 (here8.Z + (w64 (Int.tdiv vt62 3)))⟩ : S_Vec)).bind fun vt156 => ((spymake_within k here8).bind fun vt162 => ((spymake_Stream_rate k (⟨s3.L, vt63⟩ : S_Stream)).bind fun (vt168, vt169) => (some ((⟨vid7, vt156, vt162, vt168⟩ : S_Body), vt169)))))))) else none) else none)
def sky_moves (k : Nat) (b1 : S_Body) : Option (Bool) :=
  (sky_within k b1.Was 4194304).bind fun vt10 => (if vt10 = true then ((sky_within k b1.Here 4194304).bind fun vt17 => (some vt17)) else (some false))
def sky_Path.l0 (k : Nat) : Nat → Int → Int → Int → Int → Int → Int → Int → Int → Option (Int × Int × Int × Int × Int × Int × Int)
  | 0, _, _, _, _, _, _, _, _ => none
  | n_ + 1, e141, n142, x143, x144, x145, x146, x147, x148 =>
    if n142 > 0 then (if e141 = 0 then ((sky_Step k (⟨x146, x147, x148⟩ : S_Vec) (⟨x143, x144, x145⟩ : S_Vec)).bind fun (vt167, vt168) => (sky_Path.l0 k n_ vt168 (w64 (n142 - 1)) vt167.X vt167.Y vt167.Z x143 x144 x145)) else (some (e141, x143, x144, x145, x146, x147, x148))) else (some (e141, x143, x144, x145, x146, x147, x148))
def sky_Path.l1 (k : Nat) : Nat → Int → Int → Int → Int → Int → Int → Int → Int → Option (Int × Int × Int × Int × Int × Int × Int)
  | 0, _, _, _, _, _, _, _, _ => none
  | n_ + 1, e279, n280, x281, x282, x283, x284, x285, x286 =>
    if n280 < 0 then (if e279 = 0 then ((sky_Step k (⟨x281, x282, x283⟩ : S_Vec) (⟨x284, x285, x286⟩ : S_Vec)).bind fun (vt305, vt306) => (sky_Path.l1 k n_ vt306 (w64 (n280 + 1)) x284 x285 x286 vt305.X vt305.Y vt305.Z)) else (some (e279, x281, x282, x283, x284, x285, x286))) else (some (e279, x281, x282, x283, x284, x285, x286))
def sky_Path (k : Nat) (b1 : S_Body) (day2 : Int) : Option (S_Vec × S_Vec × Int) :=
  if day2 < (-400) then (some ((⟨0, 0, 0⟩ : S_Vec), (⟨0, 0, 0⟩ : S_Vec), 4)) else (if day2 > 400 then (some ((⟨0, 0, 0⟩ : S_Vec), (⟨0, 0, 0⟩ : S_Vec), 4)) else ((sky_moves k b1).bind fun vt39 => (if ¬ (vt39 = true) then (some ((⟨0, 0, 0⟩ : S_Vec), (⟨0, 0, 0⟩ : S_Vec), 4)) else ((sky_Path.l0 k k 0 day2 b1.Here.X b1.Here.Y b1.Here.Z b1.Was.X b1.Was.Y b1.Was.Z).bind fun (e197, x198, x199, x200, x201, x202, x203) => ((sky_Path.l1 k k e197 day2 x198 x199 x200 x201 x202 x203).bind fun (e329, x330, x331, x332, x333, x334, x335) => (if e329 ≠ 0 then (some ((⟨0, 0, 0⟩ : S_Vec), (⟨0, 0, 0⟩ : S_Vec), e329)) else (some ((⟨x333, x334, x335⟩ : S_Vec), (⟨x330, x331, x332⟩ : S_Vec), 0))))))))
def sky_Days (k : Nat) (b1 : S_Body) : Option (S_Body) :=
  some b1
def sky_Days_1.l0 (k : Nat) : Nat → Int → Int → Int → Int → Int → Int → Int → Option (List (Int × S_Vec))
  | 0, _, _, _, _, _, _, _ => none
  | n_ + 1, day152, x153, x154, x155, x156, x157, x158 =>
    if day152 ≤ 400 then (((sky_Step k (⟨x156, x157, x158⟩ : S_Vec) (⟨x153, x154, x155⟩ : S_Vec)).bind fun (vt188, vt189) => (if vt189 ≠ 0 then (some []) else (sky_Days_1.l0 k n_ (w64 (day152 + 1)) vt188.X vt188.Y vt188.Z x153 x154 x155))).bind (fun z_ => some ((day152, (⟨x153, x154, x155⟩ : S_Vec)) :: z_))) else (some [])
def sky_Days_1 (k : Nat) (x2 : S_Body) : Option (List (Int × S_Vec)) :=
  (sky_moves k x2).bind fun vt8 => (if ¬ (vt8 = true) then (some []) else (sky_Days_1.l0 k k 0 x2.Here.X x2.Here.Y x2.Here.Z x2.Was.X x2.Was.Y x2.Was.Z))
def spykeep3_SkyPathsJoin.l0 (k : Nat) (vt69 : Int) (vt54 : S_Body) : Nat → Int → Option (Sum Bool Unit)
  | 0, _ => none
  | n_ + 1, d97 =>
    if d97 < vt69 then ((sky_Path k vt54 d97).bind fun (vt115, vt116, vt117) => ((sky_Path k vt54 (w64 (d97 + 1))).bind fun (vt139, vt140, vt141) => (if vt117 ≠ 0 then (if vt117 ≠ 18 then (some (Sum.inl false)) else (if vt141 ≠ 0 then (if vt141 ≠ 18 then (some (Sum.inl false)) else (spykeep3_SkyPathsJoin.l0 k vt69 vt54 n_ (w64 (d97 + 1)))) else (spykeep3_SkyPathsJoin.l0 k vt69 vt54 n_ (w64 (d97 + 1))))) else (if vt141 ≠ 0 then (if vt141 ≠ 18 then (some (Sum.inl false)) else (spykeep3_SkyPathsJoin.l0 k vt69 vt54 n_ (w64 (d97 + 1)))) else ((sky_Step k vt115 vt116).bind fun (vt199, vt200) => (if vt200 ≠ 0 then (some (Sum.inl false)) else (if (!((vt139.X == vt116.X) && ((vt139.Y == vt116.Y) && ((vt139.Z == vt116.Z) && true)))) = true then (some (Sum.inl false)) else (if (!((vt199.X == vt140.X) && ((vt199.Y == vt140.Y) && ((vt199.Z == vt140.Z) && true)))) = true then (some (Sum.inl false)) else (spykeep3_SkyPathsJoin.l0 k vt69 vt54 n_ (w64 (d97 + 1))))))))))) else (some (Sum.inr ()))
def spykeep3_SkyPathsJoin.g1 (k : Nat) (vt54 : S_Body) (vt69 : Int) : List (Int × S_Vec) → Int → Option (Sum Int Int)
  | [], x415 => some (Sum.inr x415)
  | (x416, x417) :: n_, x415 =>
    (sky_Path k vt54 x416).bind fun (vt444, vt445, vt446) => (if vt446 ≠ 0 then (some (Sum.inl x415)) else (if x416 ≠ x415 then (some (Sum.inl x415)) else (if (!((x417.X == vt445.X) && ((x417.Y == vt445.Y) && ((x417.Z == vt445.Z) && true)))) = true then (some (Sum.inl x415)) else (if (w64 (x415 + 1)) > vt69 then (some (Sum.inr (w64 (x415 + 1)))) else (spykeep3_SkyPathsJoin.g1 k vt54 vt69 n_ (w64 (x415 + 1)))))))
def spykeep3_SkyPathsJoin (k : Nat) (l1 : List Int) (day5 : Int) : Option (Bool) :=
  (spykeep3_pulls k).bind fun vt20 => (if ¬ (vt20 = true) then (some false) else ((spymake_Stream_Range k (⟨l1, 0⟩ : S_Stream) 1 3).bind fun (vt40, vt41) => ((spymake_Stream_Place k (⟨l1, vt41⟩ : S_Stream) vt40).bind fun (vt47, vt48) => ((spymake_Stream_Body k (⟨l1, vt48⟩ : S_Stream) 1 vt47).bind fun (vt54, vt55) => ((spymake_Below k day5 60).bind fun vt69 => ((spykeep3_SkyPathsJoin.l0 k vt69 vt54 k (w64 (0 - vt69))).bind fun z_ => Sum.elim (fun y_ => some y_) (fun _ => ((sky_Days k vt54).bind fun vt304 => ((sky_Days_1 k vt304).bind fun xs318 => ((spykeep3_SkyPathsJoin.g1 k vt54 vt69 xs318 0).bind (fun z_ => Sum.elim (α := Int) (β := Int) (fun x524 => (some false)) (fun x504 => ((sky_Path k vt54 0).bind fun (vt558, vt559, vt560) => (if x504 > 0 then (if vt560 = 0 then (some ((vt559.X == vt54.Here.X) && ((vt559.Y == vt54.Here.Y) && ((vt559.Z == vt54.Here.Z) && true)))) else (some false)) else (some false)))) z_))))) z_))))))
end Go.Sp.W4
