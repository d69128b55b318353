import Derived.Test.YtaddopcbneggiaaSpRows
namespace Go.Sp.P6
open Go Go.Sp
set_option linter.unusedVariables false
def str0 : ByteArray := ⟨#[0, 1, 2, 2, 3, 3, 3, 3, 4, 4, 4, 4, 4, 4, 4, 4, 5, 5, 5, 5, 5, 5, 5, 5, 5, 5, 5, 5, 5, 5, 5, 5, 6, 6, 6, 6, 6, 6, 6, 6, 6, 6, 6, 6, 6, 6, 6, 6, 6, 6, 6, 6, 6, 6, 6, 6, 6, 6, 6, 6, 6, 6, 6, 6, 7, 7, 7, 7, 7, 7, 7, 7, 7, 7, 7, 7, 7, 7, 7, 7, 7, 7, 7, 7, 7, 7, 7, 7, 7, 7, 7, 7, 7, 7, 7, 7, 7, 7, 7, 7, 7, 7, 7, 7, 7, 7, 7, 7, 7, 7, 7, 7, 7, 7, 7, 7, 7, 7, 7, 7, 7, 7, 7, 7, 7, 7, 7, 7, 8, 8, 8, 8, 8, 8, 8, 8, 8, 8, 8, 8, 8, 8, 8, 8, 8, 8, 8, 8, 8, 8, 8, 8, 8, 8, 8, 8, 8, 8, 8, 8, 8, 8, 8, 8, 8, 8, 8, 8, 8, 8, 8, 8, 8, 8, 8, 8, 8, 8, 8, 8, 8, 8, 8, 8, 8, 8, 8, 8, 8, 8, 8, 8, 8, 8, 8, 8, 8, 8, 8, 8, 8, 8, 8, 8, 8, 8, 8, 8, 8, 8, 8, 8, 8, 8, 8, 8, 8, 8, 8, 8, 8, 8, 8, 8, 8, 8, 8, 8, 8, 8, 8, 8, 8, 8, 8, 8, 8, 8, 8, 8, 8, 8, 8, 8, 8, 8, 8, 8, 8, 8, 8, 8, 8, 8, 8, 8]⟩
structure S_Vec where
  X : Int
  Y : Int
  Z : Int
instance : Inhabited S_Vec := ⟨⟨default, default, default⟩⟩
structure S_Wide where
  Hi : Int
  Lo : Int
instance : Inhabited S_Wide := ⟨⟨default, default⟩⟩
structure S_Int where
  neg : Bool
  mag : List Int
instance : Inhabited S_Int := ⟨⟨default, default⟩⟩
def sky_within.l0 (k : Nat) (v1 : S_Vec) (most2 : Int) : Nat → Int → Option (Sum Bool Unit)
  | 0, _ => none
  | n_ + 1, x28 =>
    if x28 < 3 then (if 0 ≤ x28 then (if (rd [v1.X, v1.Y, v1.Z] x28) < (w64 (0 - most2)) then (some (Sum.inl false)) else (if (rd [v1.X, v1.Y, v1.Z] x28) > most2 then (some (Sum.inl false)) else (sky_within.l0 k v1 most2 n_ (w64 (x28 + 1))))) else none) else (some (Sum.inr ()))
def sky_within (k : Nat) (v1 : S_Vec) (most2 : Int) : Option (Bool) :=
  (sky_within.l0 k v1 most2 k 0).bind fun z_ => Sum.elim (fun y_ => some y_) (fun _ => (some true)) z_
def bits_Mul64 (k : Nat) (x1 : Int) (y2 : Int) : Option (Int × Int) :=
  some (u64 ((u64 ((u64 ((shr x1 32) * (shr y2 32))) + (shr (u64 ((u64 ((shr x1 32) * (Go.bits .and .u64 y2 4294967295))) + (shr (u64 ((Go.bits .and .u64 x1 4294967295) * (Go.bits .and .u64 y2 4294967295))) 32))) 32))) + (shr (u64 ((Go.bits .and .u64 (u64 ((u64 ((shr x1 32) * (Go.bits .and .u64 y2 4294967295))) + (shr (u64 ((Go.bits .and .u64 x1 4294967295) * (Go.bits .and .u64 y2 4294967295))) 32))) 4294967295) + (u64 ((Go.bits .and .u64 x1 4294967295) * (shr y2 32))))) 32)), u64 (x1 * y2))
def num_SqrtMul.l0 (k : Nat) (vt18 : Int) (vt19 : Int) : Nat → Int → Int → Option (Int)
  | 0, _, _ => none
  | n_ + 1, r46, bit47 =>
    if bit47 > 0 then ((bits_Mul64 k (Go.bits .or .u64 r46 bit47) (Go.bits .or .u64 r46 bit47)).bind fun (vt65, vt66) => (if vt65 < vt18 then (num_SqrtMul.l0 k vt18 vt19 n_ (Go.bits .or .u64 r46 bit47) (shr bit47 1)) else (if vt65 = vt18 then (if vt66 ≤ vt19 then (num_SqrtMul.l0 k vt18 vt19 n_ (Go.bits .or .u64 r46 bit47) (shr bit47 1)) else (num_SqrtMul.l0 k vt18 vt19 n_ r46 (shr bit47 1))) else (num_SqrtMul.l0 k vt18 vt19 n_ r46 (shr bit47 1))))) else (some r46)
def num_SqrtMul (k : Nat) (a1 : Int) (b2 : Int) : Option (Int) :=
  if a1 < 0 then (some 0) else (if b2 < 0 then (some 0) else ((bits_Mul64 k (u64 (a1)) (u64 (b2))).bind fun (vt18, vt19) => ((num_SqrtMul.l0 k vt18 vt19 k 0 4611686018427387904).bind fun r83 => (some (w64 (r83))))))
def num_Sqrt (k : Nat) (a1 : Int) : Option (Int) :=
  (num_SqrtMul k a1 1).bind fun vt6 => (some vt6)
def num_size (k : Nat) (a1 : Int) : Option (Int) :=
  if a1 < 0 then (some (u64 (0 - (u64 (a1))))) else (some (u64 (a1)))
def num_Wide_Neg (k : Nat) (vw1 : S_Wide) : Option (S_Wide) :=
  if 0 ≤ (Go.bits .xor .u64 IntKind.u64.max vw1.Lo) then (if 0 ≤ (Go.bits .xor .u64 IntKind.u64.max (u64 (vw1.Hi))) then (if 0 ≤ (((Go.bits .xor .u64 IntKind.u64.max vw1.Lo) + 1 + 0) / 18446744073709551616) then (if (((Go.bits .xor .u64 IntKind.u64.max vw1.Lo) + 1 + 0) / 18446744073709551616) ≤ 1 then (some (⟨w64 (((Go.bits .xor .u64 IntKind.u64.max (u64 (vw1.Hi))) + 0 + (((Go.bits .xor .u64 IntKind.u64.max vw1.Lo) + 1 + 0) / 18446744073709551616)) % 18446744073709551616), ((Go.bits .xor .u64 IntKind.u64.max vw1.Lo) + 1 + 0) % 18446744073709551616⟩ : S_Wide)) else none) else none) else none) else none
def num_Product (k : Nat) (a1 : Int) (b2 : Int) : Option (S_Wide) :=
  (num_size k a1).bind fun vt11 => ((num_size k b2).bind fun vt17 => ((bits_Mul64 k vt11 vt17).bind fun (vt23, vt24) => (if ((decide (a1 < 0)) != (decide (b2 < 0))) = true then ((num_Wide_Neg k (⟨w64 (vt23), vt24⟩ : S_Wide)).bind fun vt46 => (some vt46)) else (some (⟨w64 (vt23), vt24⟩ : S_Wide)))))
def bits_Len64 (k : Nat) (x1 : Int) : Option (Int) :=
  ((if x1 ≥ 4294967296 then (some ((shr x1 32), 32)) else (some (x1, 0)) : Option (Int × Int))).bind fun (x17, n18) => (((if x17 ≥ 65536 then (some ((shr x17 16), (w64 (n18 + 16)))) else (some (x17, n18)) : Option (Int × Int))).bind fun (x35, n36) => (if x35 ≥ 256 then (if 0 ≤ (u8 (shr x35 8)) then (if (u8 (shr x35 8)) < (str0.size : Int) then (some (w64 ((w64 (n36 + 8)) + (w64 ((bt str0 (u8 (shr x35 8)))))))) else none) else none) else (if 0 ≤ (u8 (x35)) then (if (u8 (x35)) < (str0.size : Int) then (some (w64 (n36 + (w64 ((bt str0 (u8 (x35)))))))) else none) else none)))
def bits_LeadingZeros64 (k : Nat) (x1 : Int) : Option (Int) :=
  (bits_Len64 k x1).bind fun vt6 => (some (w64 (64 - vt6)))
def bits_Div64.l0 (k : Nat) (y3 : Int) (vt31 : Int) (lo2 : Int) : Nat → Int → Int → Option (Int)
  | 0, _, _ => none
  | n_ + 1, q175, rhat76 =>
    if q175 ≥ 4294967296 then (if (u64 (rhat76 + (shr (u64 (y3 * 2 ^ (min (u64 (vt31)).toNat 64))) 32))) ≥ 4294967296 then (some (u64 (q175 - 1))) else (bits_Div64.l0 k y3 vt31 lo2 n_ (u64 (q175 - 1)) (u64 (rhat76 + (shr (u64 (y3 * 2 ^ (min (u64 (vt31)).toNat 64))) 32))))) else (if (u64 (q175 * (Go.bits .and .u64 (u64 (y3 * 2 ^ (min (u64 (vt31)).toNat 64))) 4294967295))) > (u64 ((u64 (4294967296 * rhat76)) + (shr (u64 (lo2 * 2 ^ (min (u64 (vt31)).toNat 64))) 32))) then (if (u64 (rhat76 + (shr (u64 (y3 * 2 ^ (min (u64 (vt31)).toNat 64))) 32))) ≥ 4294967296 then (some (u64 (q175 - 1))) else (bits_Div64.l0 k y3 vt31 lo2 n_ (u64 (q175 - 1)) (u64 (rhat76 + (shr (u64 (y3 * 2 ^ (min (u64 (vt31)).toNat 64))) 32))))) else (some q175))
def bits_Div64.l1 (k : Nat) (y3 : Int) (vt31 : Int) (lo2 : Int) : Nat → Int → Int → Option (Int)
  | 0, _, _ => none
  | n_ + 1, rhat146, q0147 =>
    if q0147 ≥ 4294967296 then (if (u64 (rhat146 + (shr (u64 (y3 * 2 ^ (min (u64 (vt31)).toNat 64))) 32))) ≥ 4294967296 then (some (u64 (q0147 - 1))) else (bits_Div64.l1 k y3 vt31 lo2 n_ (u64 (rhat146 + (shr (u64 (y3 * 2 ^ (min (u64 (vt31)).toNat 64))) 32))) (u64 (q0147 - 1)))) else (if (u64 (q0147 * (Go.bits .and .u64 (u64 (y3 * 2 ^ (min (u64 (vt31)).toNat 64))) 4294967295))) > (u64 ((u64 (4294967296 * rhat146)) + (Go.bits .and .u64 (u64 (lo2 * 2 ^ (min (u64 (vt31)).toNat 64))) 4294967295))) then (if (u64 (rhat146 + (shr (u64 (y3 * 2 ^ (min (u64 (vt31)).toNat 64))) 32))) ≥ 4294967296 then (some (u64 (q0147 - 1))) else (bits_Div64.l1 k y3 vt31 lo2 n_ (u64 (rhat146 + (shr (u64 (y3 * 2 ^ (min (u64 (vt31)).toNat 64))) 32))) (u64 (q0147 - 1)))) else (some q0147))
def bits_Div64 (k : Nat) (hi1 : Int) (lo2 : Int) (y3 : Int) : Option (Int × Int) :=
  if y3 = 0 then (none) else (if y3 ≤ hi1 then (none) else (if hi1 = 0 then (if ¬ (y3 = 0) then (some (u64 (Int.tdiv lo2 y3), Int.tmod lo2 y3)) else none) else ((bits_LeadingZeros64 k y3).bind fun vt31 => (if ¬ ((u64 (vt31)) < 0) then (if ¬ ((u64 (64 - (u64 (vt31)))) < 0) then (if ¬ ((shr (u64 (y3 * 2 ^ (min (u64 (vt31)).toNat 64))) 32) = 0) then ((bits_Div64.l0 k y3 vt31 lo2 k (u64 (Int.tdiv (Go.bits .or .u64 (u64 (hi1 * 2 ^ (min (u64 (vt31)).toNat 64))) (shr lo2 (min (u64 (64 - (u64 (vt31)))).toNat 64))) (shr (u64 (y3 * 2 ^ (min (u64 (vt31)).toNat 64))) 32))) (u64 ((Go.bits .or .u64 (u64 (hi1 * 2 ^ (min (u64 (vt31)).toNat 64))) (shr lo2 (min (u64 (64 - (u64 (vt31)))).toNat 64))) - (u64 ((u64 (Int.tdiv (Go.bits .or .u64 (u64 (hi1 * 2 ^ (min (u64 (vt31)).toNat 64))) (shr lo2 (min (u64 (64 - (u64 (vt31)))).toNat 64))) (shr (u64 (y3 * 2 ^ (min (u64 (vt31)).toNat 64))) 32))) * (shr (u64 (y3 * 2 ^ (min (u64 (vt31)).toNat 64))) 32)))))).bind fun q1119 => ((bits_Div64.l1 k y3 vt31 lo2 k (u64 ((u64 ((u64 ((u64 ((Go.bits .or .u64 (u64 (hi1 * 2 ^ (min (u64 (vt31)).toNat 64))) (shr lo2 (min (u64 (64 - (u64 (vt31)))).toNat 64))) * 4294967296)) + (shr (u64 (lo2 * 2 ^ (min (u64 (vt31)).toNat 64))) 32))) - (u64 (q1119 * (u64 (y3 * 2 ^ (min (u64 (vt31)).toNat 64))))))) - (u64 ((u64 (Int.tdiv (u64 ((u64 ((u64 ((Go.bits .or .u64 (u64 (hi1 * 2 ^ (min (u64 (vt31)).toNat 64))) (shr lo2 (min (u64 (64 - (u64 (vt31)))).toNat 64))) * 4294967296)) + (shr (u64 (lo2 * 2 ^ (min (u64 (vt31)).toNat 64))) 32))) - (u64 (q1119 * (u64 (y3 * 2 ^ (min (u64 (vt31)).toNat 64))))))) (shr (u64 (y3 * 2 ^ (min (u64 (vt31)).toNat 64))) 32))) * (shr (u64 (y3 * 2 ^ (min (u64 (vt31)).toNat 64))) 32))))) (u64 (Int.tdiv (u64 ((u64 ((u64 ((Go.bits .or .u64 (u64 (hi1 * 2 ^ (min (u64 (vt31)).toNat 64))) (shr lo2 (min (u64 (64 - (u64 (vt31)))).toNat 64))) * 4294967296)) + (shr (u64 (lo2 * 2 ^ (min (u64 (vt31)).toNat 64))) 32))) - (u64 (q1119 * (u64 (y3 * 2 ^ (min (u64 (vt31)).toNat 64))))))) (shr (u64 (y3 * 2 ^ (min (u64 (vt31)).toNat 64))) 32)))).bind fun q0190 => (some (u64 ((u64 (q1119 * 4294967296)) + q0190), shr (u64 ((u64 ((u64 ((u64 ((u64 ((u64 ((Go.bits .or .u64 (u64 (hi1 * 2 ^ (min (u64 (vt31)).toNat 64))) (shr lo2 (min (u64 (64 - (u64 (vt31)))).toNat 64))) * 4294967296)) + (shr (u64 (lo2 * 2 ^ (min (u64 (vt31)).toNat 64))) 32))) - (u64 (q1119 * (u64 (y3 * 2 ^ (min (u64 (vt31)).toNat 64))))))) * 4294967296)) + (Go.bits .and .u64 (u64 (lo2 * 2 ^ (min (u64 (vt31)).toNat 64))) 4294967295))) - (u64 (q0190 * (u64 (y3 * 2 ^ (min (u64 (vt31)).toNat 64))))))) (min (u64 (vt31)).toNat 64))))) else none) else none) else none))))
def num_Wide_Div (k : Nat) (vw1 : S_Wide) (d2 : Int) : Option (Int × Int) :=
  if d2 < 1 then (some (0, 1)) else (((if vw1.Hi < 0 then ((num_Wide_Neg k vw1).bind fun vt31 => (some (vt31.Hi, vt31.Lo))) else (some (vw1.Hi, vw1.Lo)) : Option (Int × Int))).bind fun (x44, x45) => (if (u64 (x44)) ≥ (u64 (d2)) then (some (0, 2)) else ((bits_Div64 k (u64 (x44)) x45 (u64 (d2))).bind fun (vt59, vt60) => (((if vw1.Hi < 0 then (((if vt60 > 0 then (some (u64 (9223372036854775808 - 1))) else (some 9223372036854775808) : Option (Int))).bind fun most85 => (some most85)) else (some 9223372036854775807) : Option (Int))).bind fun most94 => (if vt59 > most94 then (some (0, 2)) else (if vw1.Hi ≥ 0 then (some (w64 (vt59), 0)) else (if vt60 > 0 then (some (w64 ((w64 (u64 (0 - vt59))) - 1), 0)) else (some (w64 (u64 (0 - vt59)), 0)))))))))
def num_MulDiv (k : Nat) (a1 : Int) (b2 : Int) (c3 : Int) : Option (Int × Int) :=
  (num_Product k a1 b2).bind fun vt8 => ((num_Wide_Div k vt8 c3).bind fun (vt14, vt15) => (some (vt14, vt15)))
def sky_Pull_1 (k : Nat) (v3 : Int) (x4 : Int) : Option (Int) :=
  (num_MulDiv k 9007199254740992 (mx x4 (w64 (0 - x4))) v3).bind fun (vt9, vt10) => (if ¬ ((w64 (v3 * v3)) = 0) then (if x4 > 0 then (some (w64 (0 - (w64 (Int.tdiv vt9 (w64 (v3 * v3))))))) else (some (w64 (Int.tdiv vt9 (w64 (v3 * v3)))))) else none)
def sky_Pull (k : Nat) (vat1 : S_Vec) : Option (S_Vec) :=
  (sky_within k vat1 4194304).bind fun vt16 => (if ¬ (vt16 = true) then (some (⟨0, 0, 0⟩ : S_Vec)) else ((num_Sqrt k (w64 ((w64 ((w64 (vat1.X * vat1.X)) + (w64 (vat1.Y * vat1.Y)))) + (w64 (vat1.Z * vat1.Z))))).bind fun vt30 => (if vt30 < 65536 then (some (⟨0, 0, 0⟩ : S_Vec)) else ((sky_Pull_1 k vt30 vat1.X).bind fun vt63 => ((sky_Pull_1 k vt30 vat1.Y).bind fun vt73 => ((sky_Pull_1 k vt30 vat1.Z).bind fun vt83 => (some (⟨vt63, vt73, vt83⟩ : S_Vec))))))))
def sky_Step (k : Nat) (was1 : S_Vec) (here2 : S_Vec) : Option (S_Vec × Int) :=
  (sky_within k was1 4194304).bind fun vt21 => (if ¬ (vt21 = true) then (some ((⟨0, 0, 0⟩ : S_Vec), 4)) else ((sky_within k here2 4194304).bind fun vt32 => (if ¬ (vt32 = true) then (some ((⟨0, 0, 0⟩ : S_Vec), 4)) else ((sky_Pull k here2).bind fun vt46 => ((sky_within k (⟨w64 ((w64 ((w64 (2 * here2.X)) - was1.X)) + vt46.X), w64 ((w64 ((w64 (2 * here2.Y)) - was1.Y)) + vt46.Y), w64 ((w64 ((w64 (2 * here2.Z)) - was1.Z)) + vt46.Z)⟩ : S_Vec) 4194304).bind fun vt70 => (if ¬ (vt70 = true) then (some ((⟨0, 0, 0⟩ : S_Vec), 18)) else (some ((⟨w64 ((w64 ((w64 (2 * here2.X)) - was1.X)) + vt46.X), w64 ((w64 ((w64 (2 * here2.Y)) - was1.Y)) + vt46.Y), w64 ((w64 ((w64 (2 * here2.Z)) - was1.Z)) + vt46.Z)⟩ : S_Vec), 0))))))))
def spykeep3_pulls (k : Nat) : Option (Bool) :=
  (sky_Step k (⟨1048576, 0, 0⟩ : S_Vec) (⟨1048576, 0, 0⟩ : S_Vec)).bind fun (vt5, vt6) => (if vt6 = 0 then (some ((vt5.X == 1040384) && ((vt5.Y == 0) && ((vt5.Z == 0) && true)))) else (some false))
def big_trim.l0 (k : Nat) : Nat → (List Int) → Option ((List Int))
  | 0, _ => none
  | n_ + 1, m24 =>
    if (m24.length : Int) > 0 then (if 0 ≤ (w64 ((m24.length : Int) - 1)) then (if (w64 ((m24.length : Int) - 1)) < (m24.length : Int) then (if (rd m24 (w64 ((m24.length : Int) - 1))) = 0 then (if (w64 ((m24.length : Int) - 1)) ≤ (m24.length : Int) then (big_trim.l0 k n_ (m24.take (w64 ((m24.length : Int) - 1)).toNat)) else none) else (some m24)) else none) else none) else (some m24)
def big_trim (k : Nat) (m1 : List Int) : Option ((List Int)) :=
  (big_trim.l0 k k m1).bind fun m53 => (some m53)
def big_made (k : Nat) (neg1 : Bool) (m2 : List Int) : Option (S_Int) :=
  (big_trim k m2).bind fun vt14 => (if neg1 = true then (some (⟨(decide ((vt14.length : Int) > 0)), vt14⟩ : S_Int)) else (some (⟨false, vt14⟩ : S_Int)))
def big_Of (k : Nat) (x1 : Int) : Option (S_Int) :=
  if x1 < 0 then ((big_made k (decide (x1 < 0)) ([u32 (u64 (0 - (u64 (x1)))), u32 (shr (u64 (0 - (u64 (x1)))) 32)] : List Int)).bind fun vt28 => (some vt28)) else ((big_made k (decide (x1 < 0)) ([u32 (u64 (x1)), u32 (shr (u64 (x1)) 32)] : List Int)).bind fun vt51 => (some vt51))
def bits_Len32 (k : Nat) (x1 : Int) : Option (Int) :=
  ((if x1 ≥ 65536 then (some ((shr x1 16), 16)) else (some (x1, 0)) : Option (Int × Int))).bind fun (x17, n18) => (if x17 ≥ 256 then (if 0 ≤ (u8 (shr x17 8)) then (if (u8 (shr x17 8)) < (str0.size : Int) then (some (w64 ((w64 (n18 + 8)) + (w64 ((bt str0 (u8 (shr x17 8)))))))) else none) else none) else (if 0 ≤ (u8 (x17)) then (if (u8 (x17)) < (str0.size : Int) then (some (w64 (n18 + (w64 ((bt str0 (u8 (x17)))))))) else none) else none))
def big_Bits (k : Nat) (a1 : S_Int) : Option (Int) :=
  if (a1.mag.length : Int) = 0 then (some 0) else (if 0 ≤ (w64 ((a1.mag.length : Int) - 1)) then (if (w64 ((a1.mag.length : Int) - 1)) < (a1.mag.length : Int) then ((bits_Len32 k (rd a1.mag (w64 ((a1.mag.length : Int) - 1)))).bind fun vt30 => (some (w64 ((w64 (32 * (w64 ((a1.mag.length : Int) - 1)))) + vt30)))) else none) else none)
def big_limited (k : Nat) (neg1 : Bool) (m2 : List Int) : Option (S_Int × Int) :=
  (big_made k neg1 m2).bind fun vt14 => ((big_Bits k vt14).bind fun vt33 => (if vt33 > 131072 then (some ((⟨false, ([] : List Int)⟩ : S_Int), 2)) else (some (vt14, 0))))
def big_Mul.l1 (k : Nat) (b5 : S_Int) (x245 : Int) (a1 : S_Int) : Nat → (List Int) → Int → Int → Option ((List Int) × Int)
  | 0, _, _, _ => none
  | n_ + 1, out337, c341, x342 =>
    if x342 < (b5.mag.length : Int) then (if 0 ≤ x342 then (if 0 ≤ (w64 (x245 + x342)) then (if (w64 (x245 + x342)) < (out337.length : Int) then (big_Mul.l1 k b5 x245 a1 n_ (out337.set (w64 (x245 + x342)).toNat (u32 (u64 (c341 + (u64 ((u64 ((u64 ((rd a1.mag x245))) * (u64 ((rd b5.mag x342))))) + (u64 ((rd out337 (w64 (x245 + x342))))))))))) (shr (u64 (c341 + (u64 ((u64 ((u64 ((rd a1.mag x245))) * (u64 ((rd b5.mag x342))))) + (u64 ((rd out337 (w64 (x245 + x342))))))))) 32) (w64 (x342 + 1))) else none) else none) else none) else (some (out337, c341))
def big_Mul.l0 (k : Nat) (a1 : S_Int) (b5 : S_Int) : Nat → (List Int) → Int → Option ((List Int))
  | 0, _, _ => none
  | n_ + 1, out241, x245 =>
    if x245 < (a1.mag.length : Int) then (if 0 ≤ x245 then ((big_Mul.l1 k b5 x245 a1 k out241 0 0).bind fun (out384, c388) => (if 0 ≤ (w64 (x245 + (b5.mag.length : Int))) then (if (w64 (x245 + (b5.mag.length : Int))) < (out384.length : Int) then (big_Mul.l0 k a1 b5 n_ (out384.set (w64 (x245 + (b5.mag.length : Int))).toNat (u32 (c388))) (w64 (x245 + 1))) else none) else none)) else none) else (some out241)
def big_Mul (k : Nat) (a1 : S_Int) (b5 : S_Int) : Option (S_Int × Int) :=
  (big_Bits k a1).bind fun vt29 => ((big_Bits k b5).bind fun vt35 => (if (w64 (vt29 + vt35)) > 131073 then (some ((⟨false, ([] : List Int)⟩ : S_Int), 2)) else (if 0 ≤ (w64 ((a1.mag.length : Int) + (b5.mag.length : Int))) then (if (w64 ((a1.mag.length : Int) + (b5.mag.length : Int))) * 4 ≤ 140737488355328 then ((big_Mul.l0 k a1 b5 k (List.replicate (w64 ((a1.mag.length : Int) + (b5.mag.length : Int))).toNat (0 : Int)) 0).bind fun out406 => ((big_limited k (a1.neg != b5.neg) out406).bind fun (vt419, vt420) => (some (vt419, vt420)))) else none) else none)))
def spykeep3_times (k : Nat) (a1 : S_Int) (b5 : S_Int) : Option (S_Int) :=
  (big_Mul k a1 b5).bind fun (vt25, vt26) => (some vt25)
def big_Sign (k : Nat) (a1 : S_Int) : Option (Int) :=
  if a1.neg = true then (some (-1)) else (if (a1.mag.length : Int) > 0 then (some 1) else (some 0))
def cmp_isNaN_int (k : Nat) (x1 : Int) : Option (Bool) :=
  some (x1 != x1)
def cmp_Compare_int (k : Nat) (x1 : Int) (y2 : Int) : Option (Int) :=
  (cmp_isNaN_int k x1).bind fun vt7 => ((cmp_isNaN_int k y2).bind fun vt15 => (if vt7 = true then (if vt15 = true then (some 0) else (some (-1))) else (if vt15 = true then (some 1) else (if x1 < y2 then (some (-1)) else (if x1 > y2 then (some 1) else (some 0))))))
def cmp_isNaN_uint32 (k : Nat) (x1 : Int) : Option (Bool) :=
  some (x1 != x1)
def cmp_Compare_uint32 (k : Nat) (x1 : Int) (y2 : Int) : Option (Int) :=
  (cmp_isNaN_uint32 k x1).bind fun vt7 => ((cmp_isNaN_uint32 k y2).bind fun vt15 => (if vt7 = true then (if vt15 = true then (some 0) else (some (-1))) else (if vt15 = true then (some 1) else (if x1 < y2 then (some (-1)) else (if x1 > y2 then (some 1) else (some 0))))))
def big_cmpMag.l0 (k : Nat) (a1 : List Int) (b5 : List Int) : Nat → Int → Option (Sum Int Unit)
  | 0, _ => none
  | n_ + 1, i44 =>
    if i44 ≥ 0 then (if 0 ≤ i44 then (if i44 < (a1.length : Int) then (if i44 < (b5.length : Int) then (if (rd a1 i44) ≠ (rd b5 i44) then ((cmp_Compare_uint32 k (rd a1 i44) (rd b5 i44)).bind fun vt83 => (some (Sum.inl vt83))) else (big_cmpMag.l0 k a1 b5 n_ (w64 (i44 - 1)))) else none) else none) else none) else (some (Sum.inr ()))
def big_cmpMag (k : Nat) (a1 : List Int) (b5 : List Int) : Option (Int) :=
  if (a1.length : Int) ≠ (b5.length : Int) then ((cmp_Compare_int k (a1.length : Int) (b5.length : Int)).bind fun vt19 => (some vt19)) else ((big_cmpMag.l0 k a1 b5 k (w64 ((a1.length : Int) - 1))).bind fun z_ => Sum.elim (fun y_ => some y_) (fun _ => (some 0)) z_)
def big_Cmp (k : Nat) (a1 : S_Int) (b5 : S_Int) : Option (Int) :=
  if (a1.neg != b5.neg) = true then ((big_Sign k a1).bind fun vt36 => ((big_Sign k b5).bind fun vt42 => ((cmp_Compare_int k vt36 vt42).bind fun vt48 => (some vt48)))) else (if a1.neg = true then ((big_cmpMag k b5.mag a1.mag).bind fun vt60 => (some vt60)) else ((big_cmpMag k a1.mag b5.mag).bind fun vt68 => (some vt68)))
def spykeep3_SkyPullNears.l0 (k : Nat) (v1 : S_Vec) : Nat → Int → Option (Sum Bool Unit)
  | 0, _ => none
  | n_ + 1, x41 =>
    if x41 < 3 then (if 0 ≤ x41 then (if (rd [v1.X, v1.Y, v1.Z] x41) < (-4194304) then ((sky_Pull k v1).bind fun vt65 => (some (Sum.inl ((vt65.X == 0) && ((vt65.Y == 0) && ((vt65.Z == 0) && true)))))) else (if (rd [v1.X, v1.Y, v1.Z] x41) > 4194304 then ((sky_Pull k v1).bind fun vt75 => (some (Sum.inl ((vt75.X == 0) && ((vt75.Y == 0) && ((vt75.Z == 0) && true)))))) else (spykeep3_SkyPullNears.l0 k v1 n_ (w64 (x41 + 1))))) else none) else (some (Sum.inr ()))
def spykeep3_SkyPullNears.l1 (k : Nat) (v1 : S_Vec) (vt108 : S_Vec) (off131 : Int) (vt173 : S_Int) : Nat → Int → Option (Sum Bool Unit)
  | 0, _ => none
  | n_ + 1, x207 =>
    if x207 < 3 then (if 0 ≤ x207 then (((if ((rd [[v1.X, vt108.X], [v1.Y, vt108.Y], [v1.Z, vt108.Z]] x207).getD 0 default) < 0 then (some ((w64 (0 - ((rd [[v1.X, vt108.X], [v1.Y, vt108.Y], [v1.Z, vt108.Z]] x207).getD 0 default))), (w64 (0 - ((rd [[v1.X, vt108.X], [v1.Y, vt108.Y], [v1.Z, vt108.Z]] x207).getD 1 default))))) else (some (((rd [[v1.X, vt108.X], [v1.Y, vt108.Y], [v1.Z, vt108.Z]] x207).getD 0 default), ((rd [[v1.X, vt108.X], [v1.Y, vt108.Y], [v1.Z, vt108.Z]] x207).getD 1 default))) : Option (Int × Int))).bind fun (c247, q248) => (if q248 > 0 then (some (Sum.inl false)) else ((big_Of k 9007199254740992).bind fun vt262 => ((big_Of k c247).bind fun vt271 => ((spykeep3_times k vt262 vt271).bind fun vt280 => ((big_Of k 9007199254740992).bind fun vt289 => ((big_Of k c247).bind fun vt298 => ((spykeep3_times k vt289 vt298).bind fun vt307 => ((spykeep3_times k vt280 vt307).bind fun vt316 => ((big_Of k (w64 ((w64 (0 - q248)) + off131))).bind fun vt337 => ((big_Of k (w64 ((w64 (0 - q248)) + off131))).bind fun vt346 => ((spykeep3_times k vt337 vt346).bind fun vt355 => ((spykeep3_times k vt355 vt173).bind fun vt364 => ((big_Cmp k vt364 vt316).bind fun vt373 => (if vt373 ≤ 0 then (some (Sum.inl false)) else (if (mx 0 (w64 ((w64 (0 - q248)) - off131))) > 0 then ((big_Of k (mx 0 (w64 ((w64 (0 - q248)) - off131)))).bind fun vt383 => ((big_Of k (mx 0 (w64 ((w64 (0 - q248)) - off131)))).bind fun vt392 => ((spykeep3_times k vt383 vt392).bind fun vt401 => ((spykeep3_times k vt401 vt173).bind fun vt410 => ((big_Cmp k vt410 vt316).bind fun vt419 => (if vt419 ≥ 0 then (some (Sum.inl false)) else (spykeep3_SkyPullNears.l1 k v1 vt108 off131 vt173 n_ (w64 (x207 + 1))))))))) else (spykeep3_SkyPullNears.l1 k v1 vt108 off131 vt173 n_ (w64 (x207 + 1))))))))))))))))))) else none) else (some (Sum.inr ()))
def spykeep3_SkyPullNears (k : Nat) (v1 : S_Vec) : Option (Bool) :=
  (spykeep3_pulls k).bind fun vt12 => (if ¬ (vt12 = true) then (some false) else ((spykeep3_SkyPullNears.l0 k v1 k 0).bind fun z_ => Sum.elim (fun y_ => some y_) (fun _ => (if (w64 ((w64 ((w64 (v1.X * v1.X)) + (w64 (v1.Y * v1.Y)))) + (w64 (v1.Z * v1.Z)))) < 4294967296 then ((sky_Pull k v1).bind fun vt100 => (some ((vt100.X == 0) && ((vt100.Y == 0) && ((vt100.Z == 0) && true))))) else ((sky_Pull k v1).bind fun vt108 => (((if (w64 ((w64 ((w64 (v1.X * v1.X)) + (w64 (v1.Y * v1.Y)))) + (w64 (v1.Z * v1.Z)))) ≥ 274877906944 then (some 2) else (some 98) : Option (Int))).bind fun off131 => ((big_Of k (w64 ((w64 ((w64 (v1.X * v1.X)) + (w64 (v1.Y * v1.Y)))) + (w64 (v1.Z * v1.Z))))).bind fun vt137 => ((big_Of k (w64 ((w64 ((w64 (v1.X * v1.X)) + (w64 (v1.Y * v1.Y)))) + (w64 (v1.Z * v1.Z))))).bind fun vt146 => ((spykeep3_times k vt137 vt146).bind fun vt155 => ((big_Of k (w64 ((w64 ((w64 (v1.X * v1.X)) + (w64 (v1.Y * v1.Y)))) + (w64 (v1.Z * v1.Z))))).bind fun vt164 => ((spykeep3_times k vt155 vt164).bind fun vt173 => ((spykeep3_SkyPullNears.l1 k v1 vt108 off131 vt173 k 0).bind fun z_ => Sum.elim (fun y_ => some y_) (fun _ => (some true)) z_)))))))))) z_))
end Go.Sp.P6
