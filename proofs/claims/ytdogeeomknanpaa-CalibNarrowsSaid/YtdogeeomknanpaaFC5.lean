import Derived.Test.YtdogeeomknanpaaSpRows
namespace Go.Sp.C5
open Go Go.Sp
set_option linter.unusedVariables false
def str0 : ByteArray := ⟨#[0, 1, 2, 2, 3, 3, 3, 3, 4, 4, 4, 4, 4, 4, 4, 4, 5, 5, 5, 5, 5, 5, 5, 5, 5, 5, 5, 5, 5, 5, 5, 5, 6, 6, 6, 6, 6, 6, 6, 6, 6, 6, 6, 6, 6, 6, 6, 6, 6, 6, 6, 6, 6, 6, 6, 6, 6, 6, 6, 6, 6, 6, 6, 6, 7, 7, 7, 7, 7, 7, 7, 7, 7, 7, 7, 7, 7, 7, 7, 7, 7, 7, 7, 7, 7, 7, 7, 7, 7, 7, 7, 7, 7, 7, 7, 7, 7, 7, 7, 7, 7, 7, 7, 7, 7, 7, 7, 7, 7, 7, 7, 7, 7, 7, 7, 7, 7, 7, 7, 7, 7, 7, 7, 7, 7, 7, 7, 7, 8, 8, 8, 8, 8, 8, 8, 8, 8, 8, 8, 8, 8, 8, 8, 8, 8, 8, 8, 8, 8, 8, 8, 8, 8, 8, 8, 8, 8, 8, 8, 8, 8, 8, 8, 8, 8, 8, 8, 8, 8, 8, 8, 8, 8, 8, 8, 8, 8, 8, 8, 8, 8, 8, 8, 8, 8, 8, 8, 8, 8, 8, 8, 8, 8, 8, 8, 8, 8, 8, 8, 8, 8, 8, 8, 8, 8, 8, 8, 8, 8, 8, 8, 8, 8, 8, 8, 8, 8, 8, 8, 8, 8, 8, 8, 8, 8, 8, 8, 8, 8, 8, 8, 8, 8, 8, 8, 8, 8, 8, 8, 8, 8, 8, 8, 8, 8, 8, 8, 8, 8, 8, 8, 8, 8, 8, 8, 8]⟩
structure S_Stream where
  L : List Int
  vat : Int
instance : Inhabited S_Stream := ⟨⟨default, default⟩⟩
structure S_Bound where
  Lo : Int
  Hi : Int
  Unknown : Bool
instance : Inhabited S_Bound := ⟨⟨default, default, default⟩⟩
structure S_Wide where
  Hi : Int
  Lo : Int
instance : Inhabited S_Wide := ⟨⟨default, default⟩⟩
def spymake_Below (k : Nat) (x1 : Int) (n2 : Int) : Option (Int) :=
  if n2 < 1 then (some 0) else (if ¬ (n2 = 0) then (if (Int.tmod x1 n2) < 0 then (some (w64 ((Int.tmod x1 n2) + n2))) else (some (Int.tmod x1 n2))) else none)
def spymake_Stream_Next (k : Nat) (s3 : S_Stream) (n7 : Int) : Option (Int × Int) :=
  if (s3.L.length : Int) = 0 then ((spymake_Below k (w64 ((w64 (s3.vat + 1)) * 7919)) n7).bind fun vt22 => (some (vt22, w64 (s3.vat + 1)))) else (if ¬ ((s3.L.length : Int) = 0) then (if 0 ≤ (Int.tmod (w64 ((w64 (s3.vat + 1)) - 1)) (s3.L.length : Int)) then (if (Int.tmod (w64 ((w64 (s3.vat + 1)) - 1)) (s3.L.length : Int)) < (s3.L.length : Int) then ((spymake_Below k (rd s3.L (Int.tmod (w64 ((w64 (s3.vat + 1)) - 1)) (s3.L.length : Int))) 1073741824).bind fun vt46 => ((spymake_Below k (w64 (vt46 + (w64 ((w64 (Int.tdiv (w64 ((w64 (s3.vat + 1)) - 1)) (s3.L.length : Int))) * (w64 (7919 + (Int.tmod (w64 ((w64 (s3.vat + 1)) - 1)) (s3.L.length : Int)))))))) n7).bind fun vt52 => (some (vt52, w64 (s3.vat + 1))))) else none) else none) else none)
def bound_Check_Quanta (k : Nat) (b1 : S_Bound) : Option (Int) :=
  if b1.Unknown = true then (if b1.Lo ≠ 0 then (some 3) else (if b1.Hi ≠ 0 then (some 3) else (if (mn b1.Lo b1.Hi) < (-1152921504606846976) then (some 4) else (if (mx b1.Lo b1.Hi) > 1152921504606846976 then (some 4) else (if b1.Lo > b1.Hi then (some 11) else (some 0)))))) else (if (mn b1.Lo b1.Hi) < (-1152921504606846976) then (some 4) else (if (mx b1.Lo b1.Hi) > 1152921504606846976 then (some 4) else (if b1.Lo > b1.Hi then (some 11) else (some 0))))
def bound_None_Quanta (k : Nat) : Option (S_Bound) :=
  some (⟨0, 0, true⟩ : S_Bound)
def bound_Norm_Quanta (k : Nat) (b1 : S_Bound) : Option (S_Bound) :=
  (bound_Check_Quanta k b1).bind fun vt16 => (if vt16 ≠ 0 then ((bound_None_Quanta k).bind fun vt26 => (some vt26)) else (some b1))
def bound_Of_Quanta (k : Nat) (lo1 : Int) (hi2 : Int) : Option (S_Bound) :=
  (bound_Norm_Quanta k (⟨lo1, hi2, false⟩ : S_Bound)).bind fun vt11 => (some vt11)
def bound_Check_Light (k : Nat) (b1 : S_Bound) : Option (Int) :=
  if b1.Unknown = true then (if b1.Lo ≠ 0 then (some 3) else (if b1.Hi ≠ 0 then (some 3) else (if (mn b1.Lo b1.Hi) < (-1152921504606846976) then (some 4) else (if (mx b1.Lo b1.Hi) > 1152921504606846976 then (some 4) else (if b1.Lo > b1.Hi then (some 11) else (some 0)))))) else (if (mn b1.Lo b1.Hi) < (-1152921504606846976) then (some 4) else (if (mx b1.Lo b1.Hi) > 1152921504606846976 then (some 4) else (if b1.Lo > b1.Hi then (some 11) else (some 0))))
def bound_None_Light (k : Nat) : Option (S_Bound) :=
  some (⟨0, 0, true⟩ : S_Bound)
def bound_Norm_Light (k : Nat) (b1 : S_Bound) : Option (S_Bound) :=
  (bound_Check_Light k b1).bind fun vt16 => (if vt16 ≠ 0 then ((bound_None_Light k).bind fun vt26 => (some vt26)) else (some b1))
def bound_Of_Light (k : Nat) (lo1 : Int) (hi2 : Int) : Option (S_Bound) :=
  (bound_Norm_Light k (⟨lo1, hi2, false⟩ : S_Bound)).bind fun vt11 => (some vt11)
def spymake_Stream_Range (k : Nat) (s3 : S_Stream) (low7 : Int) (high8 : Int) : Option (Int × Int) :=
  if high8 < low7 then (some (low7, s3.vat)) else ((spymake_Stream_Next k s3 (w64 ((w64 (high8 - low7)) + 1))).bind fun (vt21, vt22) => (some (w64 (low7 + vt21), vt22)))
def bound_Check_Part (k : Nat) (b1 : S_Bound) : Option (Int) :=
  if b1.Unknown = true then (if b1.Lo ≠ 0 then (some 3) else (if b1.Hi ≠ 0 then (some 3) else (if (mn b1.Lo b1.Hi) < (-1152921504606846976) then (some 4) else (if (mx b1.Lo b1.Hi) > 1152921504606846976 then (some 4) else (if b1.Lo > b1.Hi then (some 11) else (some 0)))))) else (if (mn b1.Lo b1.Hi) < (-1152921504606846976) then (some 4) else (if (mx b1.Lo b1.Hi) > 1152921504606846976 then (some 4) else (if b1.Lo > b1.Hi then (some 11) else (some 0))))
def bound_None_Part (k : Nat) : Option (S_Bound) :=
  some (⟨0, 0, true⟩ : S_Bound)
def bound_Norm_Part (k : Nat) (b1 : S_Bound) : Option (S_Bound) :=
  (bound_Check_Part k b1).bind fun vt16 => (if vt16 ≠ 0 then ((bound_None_Part k).bind fun vt26 => (some vt26)) else (some b1))
def bound_Of_Part (k : Nat) (lo1 : Int) (hi2 : Int) : Option (S_Bound) :=
  (bound_Norm_Part k (⟨lo1, hi2, false⟩ : S_Bound)).bind fun vt11 => (some vt11)
def bits_Mul64 (k : Nat) (x1 : Int) (y2 : Int) : Option (Int × Int) :=
  some (u64 ((u64 ((u64 ((shr x1 32) * (shr y2 32))) + (shr (u64 ((u64 ((shr x1 32) * (Go.bits .and .u64 y2 4294967295))) + (shr (u64 ((Go.bits .and .u64 x1 4294967295) * (Go.bits .and .u64 y2 4294967295))) 32))) 32))) + (shr (u64 ((Go.bits .and .u64 (u64 ((u64 ((shr x1 32) * (Go.bits .and .u64 y2 4294967295))) + (shr (u64 ((Go.bits .and .u64 x1 4294967295) * (Go.bits .and .u64 y2 4294967295))) 32))) 4294967295) + (u64 ((Go.bits .and .u64 x1 4294967295) * (shr y2 32))))) 32)), u64 (x1 * y2))
def num_SqrtMul.l0 (k : Nat) (vt18 : Int) (vt19 : Int) : Nat → Int → Int → Option (Int)
  | 0, _, _ => none
  | n_ + 1, r46, bit47 =>
    if bit47 > 0 then ((bits_Mul64 k (Go.bits .or .u64 r46 bit47) (Go.bits .or .u64 r46 bit47)).bind fun (vt65, vt66) => (if vt65 < vt18 then (num_SqrtMul.l0 k vt18 vt19 n_ (Go.bits .or .u64 r46 bit47) (shr bit47 1)) else (if vt65 = vt18 then (if vt66 ≤ vt19 then (num_SqrtMul.l0 k vt18 vt19 n_ (Go.bits .or .u64 r46 bit47) (shr bit47 1)) else (num_SqrtMul.l0 k vt18 vt19 n_ r46 (shr bit47 1))) else (num_SqrtMul.l0 k vt18 vt19 n_ r46 (shr bit47 1))))) else (some r46)
def num_SqrtMul (k : Nat) (a1 : Int) (b2 : Int) : Option (Int) :=
  if a1 < 0 then (some 0) else (if b2 < 0 then (some 0) else ((bits_Mul64 k (u64 (a1)) (u64 (b2))).bind fun (vt18, vt19) => ((num_SqrtMul.l0 k vt18 vt19 k 0 4611686018427387904).bind fun r83 => (some (w64 (r83))))))
def num_Sqrt (k : Nat) (a1 : Int) : Option (Int) :=
  (num_SqrtMul k a1 1).bind fun vt6 => (some vt6)
def quanta_root (k : Nat) (q1 : Int) : Option (Int) :=
  (num_Sqrt k q1).bind fun vt6 => (some vt6)
def quanta_least.l0 (k : Nat) (q1 : Int) : Nat → Int → Int → Option (Int)
  | 0, _, _ => none
  | n_ + 1, low23, high24 =>
    if low23 < high24 then ((quanta_root k (w64 (Int.tdiv (w64 (low23 + high24)) 2))).bind fun vt42 => (if (w64 ((w64 ((w64 (Int.tdiv (w64 (low23 + high24)) 2)) + 1)) + (w64 (3 * vt42)))) ≥ q1 then (quanta_least.l0 k q1 n_ low23 (w64 (Int.tdiv (w64 (low23 + high24)) 2))) else (quanta_least.l0 k q1 n_ (w64 ((w64 (Int.tdiv (w64 (low23 + high24)) 2)) + 1)) high24))) else (some low23)
def quanta_least (k : Nat) (q1 : Int) : Option (Int) :=
  (quanta_least.l0 k q1 k 0 (mx 0 q1)).bind fun low55 => (some low55)
def quanta_most (k : Nat) (q1 : Int) : Option (Int) :=
  (quanta_root k (w64 (9 + (w64 (4 * q1))))).bind fun vt6 => (some (w64 ((mn (w64 ((w64 ((w64 (Int.tdiv (w64 (3 + vt6)) 2)) * (w64 (Int.tdiv (w64 (3 + vt6)) 2)))) + (w64 (2 * (w64 (Int.tdiv (w64 (3 + vt6)) 2)))))) (w64 (q1 + (w64 (3 * (w64 (Int.tdiv (w64 (3 + vt6)) 2))))))) + 1)))
def quanta_Means (k : Nat) (q1 : S_Bound) : Option (S_Bound) :=
  (bound_Norm_Quanta k q1).bind fun vt14 => (if vt14.Unknown = true then ((bound_None_Quanta k).bind fun vt30 => (some vt30)) else (if vt14.Hi < 0 then ((bound_None_Quanta k).bind fun vt42 => (some vt42)) else (if vt14.Hi > 34359738368 then ((bound_None_Quanta k).bind fun vt55 => (some vt55)) else ((quanta_least k vt14.Lo).bind fun vt69 => ((quanta_most k vt14.Hi).bind fun vt75 => (some (⟨vt69, vt75, false⟩ : S_Bound)))))))
def bound_As_Light_Quanta (k : Nat) (b1 : S_Bound) : Option (S_Bound) :=
  (bound_Norm_Quanta k b1).bind fun vt14 => (some vt14)
def bound_Exact_Light (k : Nat) (v1 : Int) : Option (S_Bound) :=
  (bound_Of_Light k v1 v1).bind fun vt10 => (some vt10)
def bound_vague_Light (k : Nat) (a1 : S_Bound) (b2 : S_Bound) : Option (Bool) :=
  (bound_Norm_Light k a1).bind fun vt15 => (if vt15.Unknown = true then (some true) else ((bound_Norm_Light k b2).bind fun vt22 => (some vt22.Unknown)))
def num_size (k : Nat) (a1 : Int) : Option (Int) :=
  if a1 < 0 then (some (u64 (0 - (u64 (a1))))) else (some (u64 (a1)))
def num_Wide_Neg (k : Nat) (vw1 : S_Wide) : Option (S_Wide) :=
  if 0 ≤ (Go.bits .xor .u64 IntKind.u64.max vw1.Lo) then (if 0 ≤ (Go.bits .xor .u64 IntKind.u64.max (u64 (vw1.Hi))) then (if 0 ≤ (((Go.bits .xor .u64 IntKind.u64.max vw1.Lo) + 1 + 0) / 18446744073709551616) then (if (((Go.bits .xor .u64 IntKind.u64.max vw1.Lo) + 1 + 0) / 18446744073709551616) ≤ 1 then (some (⟨w64 (((Go.bits .xor .u64 IntKind.u64.max (u64 (vw1.Hi))) + 0 + (((Go.bits .xor .u64 IntKind.u64.max vw1.Lo) + 1 + 0) / 18446744073709551616)) % 18446744073709551616), ((Go.bits .xor .u64 IntKind.u64.max vw1.Lo) + 1 + 0) % 18446744073709551616⟩ : S_Wide)) else none) else none) else none) else none
def num_Product (k : Nat) (a1 : Int) (b2 : Int) : Option (S_Wide) :=
  (num_size k a1).bind fun vt11 => ((num_size k b2).bind fun vt17 => ((bits_Mul64 k vt11 vt17).bind fun (vt23, vt24) => (if ((decide (a1 < 0)) != (decide (b2 < 0))) = true then ((num_Wide_Neg k (⟨w64 (vt23), vt24⟩ : S_Wide)).bind fun vt46 => (some vt46)) else (some (⟨w64 (vt23), vt24⟩ : S_Wide)))))
def bits_Len64 (k : Nat) (x1 : Int) : Option (Int) :=
  ((if x1 ≥ 4294967296 then (some ((shr x1 32), 32)) else (some (x1, 0)) : Option (Int × Int))).bind fun (x17, n18) => (((if x17 ≥ 65536 then (some ((shr x17 16), (w64 (n18 + 16)))) else (some (x17, n18)) : Option (Int × Int))).bind fun (x35, n36) => (if x35 ≥ 256 then (if 0 ≤ (u8 (shr x35 8)) then (if (u8 (shr x35 8)) < (str0.size : Int) then (some (w64 ((w64 (n36 + 8)) + (w64 ((bt str0 (u8 (shr x35 8)))))))) else none) else none) else (if 0 ≤ (u8 (x35)) then (if (u8 (x35)) < (str0.size : Int) then (some (w64 (n36 + (w64 ((bt str0 (u8 (x35)))))))) else none) else none)))
def bits_LeadingZeros64 (k : Nat) (x1 : Int) : Option (Int) :=
  (bits_Len64 k x1).bind fun vt6 => (some (w64 (64 - vt6)))
def bits_Div64.l0 (k : Nat) (y3 : Int) (vt31 : Int) (lo2 : Int) : Nat → Int → Int → Option (Int)
  | 0, _, _ => none
  | n_ + 1, q175, rhat76 =>
    if q175 ≥ 4294967296 then (if (u64 (rhat76 + (shr (u64 (y3 * 2 ^ (min (u64 (vt31)).toNat 64))) 32))) ≥ 4294967296 then (some (u64 (q175 - 1))) else (bits_Div64.l0 k y3 vt31 lo2 n_ (u64 (q175 - 1)) (u64 (rhat76 + (shr (u64 (y3 * 2 ^ (min (u64 (vt31)).toNat 64))) 32))))) else (if (u64 (q175 * (Go.bits .and .u64 (u64 (y3 * 2 ^ (min (u64 (vt31)).toNat 64))) 4294967295))) > (u64 ((u64 (4294967296 * rhat76)) + (shr (u64 (lo2 * 2 ^ (min (u64 (vt31)).toNat 64))) 32))) then (if (u64 (rhat76 + (shr (u64 (y3 * 2 ^ (min (u64 (vt31)).toNat 64))) 32))) ≥ 4294967296 then (some (u64 (q175 - 1))) else (bits_Div64.l0 k y3 vt31 lo2 n_ (u64 (q175 - 1)) (u64 (rhat76 + (shr (u64 (y3 * 2 ^ (min (u64 (vt31)).toNat 64))) 32))))) else (some q175))
def bits_Div64.l1 (k : Nat) (y3 : Int) (vt31 : Int) (lo2 : Int) : Nat → Int → Int → Option (Int)
  | 0, _, _ => none
  | n_ + 1, rhat146, q0147 =>
    if q0147 ≥ 4294967296 then (if (u64 (rhat146 + (shr (u64 (y3 * 2 ^ (min (u64 (vt31)).toNat 64))) 32))) ≥ 4294967296 then (some (u64 (q0147 - 1))) else (bits_Div64.l1 k y3 vt31 lo2 n_ (u64 (rhat146 + (shr (u64 (y3 * 2 ^ (min (u64 (vt31)).toNat 64))) 32))) (u64 (q0147 - 1)))) else (if (u64 (q0147 * (Go.bits .and .u64 (u64 (y3 * 2 ^ (min (u64 (vt31)).toNat 64))) 4294967295))) > (u64 ((u64 (4294967296 * rhat146)) + (Go.bits .and .u64 (u64 (lo2 * 2 ^ (min (u64 (vt31)).toNat 64))) 4294967295))) then (if (u64 (rhat146 + (shr (u64 (y3 * 2 ^ (min (u64 (vt31)).toNat 64))) 32))) ≥ 4294967296 then (some (u64 (q0147 - 1))) else (bits_Div64.l1 k y3 vt31 lo2 n_ (u64 (rhat146 + (shr (u64 (y3 * 2 ^ (min (u64 (vt31)).toNat 64))) 32))) (u64 (q0147 - 1)))) else (some q0147))
def bits_Div64 (k : Nat) (hi1 : Int) (lo2 : Int) (y3 : Int) : Option (Int × Int) :=
  if y3 = 0 then (none) else (if y3 ≤ hi1 then (none) else (if hi1 = 0 then (if ¬ (y3 = 0) then (some (u64 (Int.tdiv lo2 y3), Int.tmod lo2 y3)) else none) else ((bits_LeadingZeros64 k y3).bind fun vt31 => (if ¬ ((u64 (vt31)) < 0) then (if ¬ ((u64 (64 - (u64 (vt31)))) < 0) then (if ¬ ((shr (u64 (y3 * 2 ^ (min (u64 (vt31)).toNat 64))) 32) = 0) then ((bits_Div64.l0 k y3 vt31 lo2 k (u64 (Int.tdiv (Go.bits .or .u64 (u64 (hi1 * 2 ^ (min (u64 (vt31)).toNat 64))) (shr lo2 (min (u64 (64 - (u64 (vt31)))).toNat 64))) (shr (u64 (y3 * 2 ^ (min (u64 (vt31)).toNat 64))) 32))) (u64 ((Go.bits .or .u64 (u64 (hi1 * 2 ^ (min (u64 (vt31)).toNat 64))) (shr lo2 (min (u64 (64 - (u64 (vt31)))).toNat 64))) - (u64 ((u64 (Int.tdiv (Go.bits .or .u64 (u64 (hi1 * 2 ^ (min (u64 (vt31)).toNat 64))) (shr lo2 (min (u64 (64 - (u64 (vt31)))).toNat 64))) (shr (u64 (y3 * 2 ^ (min (u64 (vt31)).toNat 64))) 32))) * (shr (u64 (y3 * 2 ^ (min (u64 (vt31)).toNat 64))) 32)))))).bind fun q1119 => ((bits_Div64.l1 k y3 vt31 lo2 k (u64 ((u64 ((u64 ((u64 ((Go.bits .or .u64 (u64 (hi1 * 2 ^ (min (u64 (vt31)).toNat 64))) (shr lo2 (min (u64 (64 - (u64 (vt31)))).toNat 64))) * 4294967296)) + (shr (u64 (lo2 * 2 ^ (min (u64 (vt31)).toNat 64))) 32))) - (u64 (q1119 * (u64 (y3 * 2 ^ (min (u64 (vt31)).toNat 64))))))) - (u64 ((u64 (Int.tdiv (u64 ((u64 ((u64 ((Go.bits .or .u64 (u64 (hi1 * 2 ^ (min (u64 (vt31)).toNat 64))) (shr lo2 (min (u64 (64 - (u64 (vt31)))).toNat 64))) * 4294967296)) + (shr (u64 (lo2 * 2 ^ (min (u64 (vt31)).toNat 64))) 32))) - (u64 (q1119 * (u64 (y3 * 2 ^ (min (u64 (vt31)).toNat 64))))))) (shr (u64 (y3 * 2 ^ (min (u64 (vt31)).toNat 64))) 32))) * (shr (u64 (y3 * 2 ^ (min (u64 (vt31)).toNat 64))) 32))))) (u64 (Int.tdiv (u64 ((u64 ((u64 ((Go.bits .or .u64 (u64 (hi1 * 2 ^ (min (u64 (vt31)).toNat 64))) (shr lo2 (min (u64 (64 - (u64 (vt31)))).toNat 64))) * 4294967296)) + (shr (u64 (lo2 * 2 ^ (min (u64 (vt31)).toNat 64))) 32))) - (u64 (q1119 * (u64 (y3 * 2 ^ (min (u64 (vt31)).toNat 64))))))) (shr (u64 (y3 * 2 ^ (min (u64 (vt31)).toNat 64))) 32)))).bind fun q0190 => (some (u64 ((u64 (q1119 * 4294967296)) + q0190), shr (u64 ((u64 ((u64 ((u64 ((u64 ((u64 ((Go.bits .or .u64 (u64 (hi1 * 2 ^ (min (u64 (vt31)).toNat 64))) (shr lo2 (min (u64 (64 - (u64 (vt31)))).toNat 64))) * 4294967296)) + (shr (u64 (lo2 * 2 ^ (min (u64 (vt31)).toNat 64))) 32))) - (u64 (q1119 * (u64 (y3 * 2 ^ (min (u64 (vt31)).toNat 64))))))) * 4294967296)) + (Go.bits .and .u64 (u64 (lo2 * 2 ^ (min (u64 (vt31)).toNat 64))) 4294967295))) - (u64 (q0190 * (u64 (y3 * 2 ^ (min (u64 (vt31)).toNat 64))))))) (min (u64 (vt31)).toNat 64))))) else none) else none) else none))))
def num_Wide_Div (k : Nat) (vw1 : S_Wide) (d2 : Int) : Option (Int × Int) :=
  if d2 < 1 then (some (0, 1)) else (((if vw1.Hi < 0 then ((num_Wide_Neg k vw1).bind fun vt31 => (some (vt31.Hi, vt31.Lo))) else (some (vw1.Hi, vw1.Lo)) : Option (Int × Int))).bind fun (x44, x45) => (if (u64 (x44)) ≥ (u64 (d2)) then (some (0, 2)) else ((bits_Div64 k (u64 (x44)) x45 (u64 (d2))).bind fun (vt59, vt60) => (((if vw1.Hi < 0 then (((if vt60 > 0 then (some (u64 (9223372036854775808 - 1))) else (some 9223372036854775808) : Option (Int))).bind fun most85 => (some most85)) else (some 9223372036854775807) : Option (Int))).bind fun most94 => (if vt59 > most94 then (some (0, 2)) else (if vw1.Hi ≥ 0 then (some (w64 (vt59), 0)) else (if vt60 > 0 then (some (w64 ((w64 (u64 (0 - vt59))) - 1), 0)) else (some (w64 (u64 (0 - vt59)), 0)))))))))
def num_MulDiv (k : Nat) (a1 : Int) (b2 : Int) (c3 : Int) : Option (Int × Int) :=
  (num_Product k a1 b2).bind fun vt8 => ((num_Wide_Div k vt8 c3).bind fun (vt14, vt15) => (some (vt14, vt15)))
def bound_Mul_Light_1 (k : Nat) (v3 : Int) (x4 : Int) (y5 : Int) : Option (Int × Int) :=
  (num_MulDiv k x4 y5 v3).bind fun (vt10, vt11) => (some (vt10, vt11))
def num_Wide_Mod (k : Nat) (vw1 : S_Wide) (d2 : Int) : Option (Int) :=
  if d2 < 1 then (some 0) else (((if vw1.Hi < 0 then ((num_Wide_Neg k vw1).bind fun vt31 => (some (vt31.Hi, vt31.Lo))) else (some (vw1.Hi, vw1.Lo)) : Option (Int × Int))).bind fun (x44, x45) => (if ¬ ((u64 (d2)) = 0) then ((bits_Div64 k (Int.tmod (u64 (x44)) (u64 (d2))) x45 (u64 (d2))).bind fun (vt54, vt55) => (if vw1.Hi < 0 then (if vt55 > 0 then (some (w64 (u64 ((u64 (d2)) - vt55)))) else (some (w64 (vt55)))) else (some (w64 (vt55))))) else none))
def num_MulDivUp (k : Nat) (a1 : Int) (b2 : Int) (c3 : Int) : Option (Int × Int) :=
  (num_Product k a1 b2).bind fun vt8 => ((num_Wide_Div k vt8 c3).bind fun (vt22, vt23) => (if vt23 ≠ 0 then (some (vt22, vt23)) else ((num_Wide_Mod k vt8 c3).bind fun vt36 => (if vt36 = 0 then (some (vt22, vt23)) else (if vt22 = 9223372036854775807 then (some (0, 2)) else (some (w64 (vt22 + 1), 0)))))))
def bound_Mul_Light_2 (k : Nat) (v3 : Int) (x4 : Int) (y5 : Int) : Option (Int × Int) :=
  (num_MulDivUp k x4 y5 v3).bind fun (vt10, vt11) => (some (vt10, vt11))
def slices_Min_Light.l0 (k : Nat) (x1 : List Int) : Nat → Int → Int → Option (Int)
  | 0, _, _ => none
  | n_ + 1, m40, i41 =>
    if i41 < (x1.length : Int) then (if 0 ≤ i41 then (slices_Min_Light.l0 k x1 n_ (mn m40 (rd x1 i41)) (w64 (i41 + 1))) else none) else (some m40)
def slices_Min_Light (k : Nat) (x1 : List Int) : Option (Int) :=
  if (x1.length : Int) < 1 then (none) else (if 0 < (x1.length : Int) then ((slices_Min_Light.l0 k x1 k (rd x1 0) 1).bind fun m66 => (some m66)) else none)
def slices_Max_Light.l0 (k : Nat) (x1 : List Int) : Nat → Int → Int → Option (Int)
  | 0, _, _ => none
  | n_ + 1, m40, i41 =>
    if i41 < (x1.length : Int) then (if 0 ≤ i41 then (slices_Max_Light.l0 k x1 n_ (mx m40 (rd x1 i41)) (w64 (i41 + 1))) else none) else (some m40)
def slices_Max_Light (k : Nat) (x1 : List Int) : Option (Int) :=
  if (x1.length : Int) < 1 then (none) else (if 0 < (x1.length : Int) then ((slices_Max_Light.l0 k x1 k (rd x1 0) 1).bind fun m66 => (some m66)) else none)
def bound_corners_Light__bound_Mul_Light_1__bound_Mul_Light_2.l1 (k : Nat) (b5 : S_Bound) (v3 : Int) (a4 : S_Bound) (x53 : Int) : Nat → (List Int) → Int → Option (Sum (Sum S_Bound (List Int)) (List Int))
  | 0, _, _ => none
  | n_ + 1, l196, x201 =>
    if x201 < (([b5.Lo, b5.Hi] : List Int).length : Int) then (if 0 ≤ x201 then ((bound_Mul_Light_1 k v3 (rd ([a4.Lo, a4.Hi] : List Int) x53) (rd ([b5.Lo, b5.Hi] : List Int) x201)).bind fun (vt226, vt227) => ((bound_Mul_Light_2 k v3 (rd ([a4.Lo, a4.Hi] : List Int) x53) (rd ([b5.Lo, b5.Hi] : List Int) x201)).bind fun (vt235, vt236) => (if vt227 ≠ 0 then ((bound_None_Light k).bind fun vt249 => (some (Sum.inl (Sum.inl vt249)))) else (if vt236 ≠ 0 then ((bound_None_Light k).bind fun vt262 => (some (Sum.inl (Sum.inl vt262)))) else (if (l196.length + 2) * 8 ≤ 140737488355328 then (bound_corners_Light__bound_Mul_Light_1__bound_Mul_Light_2.l1 k b5 v3 a4 x53 n_ (l196 ++ ([vt226, vt235] : List Int)) (w64 (x201 + 1))) else none))))) else none) else (some (Sum.inr l196))
def bound_corners_Light__bound_Mul_Light_1__bound_Mul_Light_2.l0 (k : Nat) (a4 : S_Bound) (b5 : S_Bound) (v3 : Int) : Nat → (List Int) → Int → Option (Sum S_Bound (List Int))
  | 0, _, _ => none
  | n_ + 1, l47, x53 =>
    if x53 < (([a4.Lo, a4.Hi] : List Int).length : Int) then (if 0 ≤ x53 then ((bound_corners_Light__bound_Mul_Light_1__bound_Mul_Light_2.l1 k b5 v3 a4 x53 k l47 0).bind fun z_ => Sum.elim (fun y_ => some y_) (fun l291 => (bound_corners_Light__bound_Mul_Light_1__bound_Mul_Light_2.l0 k a4 b5 v3 n_ l291 (w64 (x53 + 1)))) z_) else none) else (some (Sum.inr l47))
def bound_corners_Light__bound_Mul_Light_1__bound_Mul_Light_2 (k : Nat) (v3 : Int) (a4 : S_Bound) (b5 : S_Bound) : Option (S_Bound) :=
  (bound_corners_Light__bound_Mul_Light_1__bound_Mul_Light_2.l0 k a4 b5 v3 k ([] : List Int) 0).bind fun z_ => Sum.elim (fun y_ => some y_) (fun l312 => ((slices_Min_Light k l312).bind fun vt339 => ((slices_Max_Light k l312).bind fun vt353 => ((bound_Of_Light k vt339 vt353).bind fun vt362 => (some vt362))))) z_
def bound_Mul_Light (k : Nat) (a1 : S_Bound) (b2 : S_Bound) (unit3 : Int) : Option (S_Bound) :=
  (bound_vague_Light k a1 b2).bind fun vt26 => (if vt26 = true then ((bound_None_Light k).bind fun vt35 => (some vt35)) else (if unit3 < 1 then ((bound_None_Light k).bind fun vt47 => (some vt47)) else ((bound_corners_Light__bound_Mul_Light_1__bound_Mul_Light_2 k unit3 a1 b2).bind fun vt58 => (some vt58))))
def bound_Scale_Light (k : Nat) (a1 : S_Bound) (n2 : Int) (d3 : Int) : Option (S_Bound) :=
  (bound_Exact_Light k n2).bind fun vt20 => ((bound_Mul_Light k a1 vt20 d3).bind fun vt26 => (some vt26))
def bound_Neg_Light (k : Nat) (b1 : S_Bound) : Option (S_Bound) :=
  (bound_Norm_Light k b1).bind fun vt14 => (some (⟨w64 (0 - vt14.Hi), w64 (0 - vt14.Lo), vt14.Unknown⟩ : S_Bound))
def bound_Add_Light (k : Nat) (a1 : S_Bound) (b2 : S_Bound) : Option (S_Bound) :=
  (bound_vague_Light k a1 b2).bind fun vt21 => (if vt21 = true then ((bound_None_Light k).bind fun vt31 => (some vt31)) else ((bound_Of_Light k (w64 (a1.Lo + b2.Lo)) (w64 (a1.Hi + b2.Hi))).bind fun vt41 => (some vt41)))
def bound_Sub_Light (k : Nat) (a1 : S_Bound) (b2 : S_Bound) : Option (S_Bound) :=
  (bound_Neg_Light k b2).bind fun vt24 => ((bound_Add_Light k a1 vt24).bind fun vt30 => (some vt30))
def calib_Light (k : Nat) (held1 : S_Bound) (dark2 : S_Bound) (flat3 : S_Bound) (beats4 : Int) : Option (S_Bound) :=
  (bound_Norm_Quanta k held1).bind fun vt25 => ((quanta_Means k vt25).bind fun vt31 => ((bound_As_Light_Quanta k vt31).bind fun vt37 => ((bound_Scale_Light k vt37 16777216 1).bind fun vt43 => ((bound_Norm_Part k flat3).bind fun vt57 => (if beats4 < 0 then ((bound_None_Quanta k).bind fun vt73 => (some vt73)) else (if beats4 > 16 then ((bound_None_Quanta k).bind fun vt85 => (some vt85)) else (if vt57.Unknown = true then ((bound_None_Quanta k).bind fun vt97 => (some vt97)) else (if vt57.Lo < 1 then ((bound_None_Quanta k).bind fun vt109 => (some vt109)) else (if vt57.Hi > 4096 then ((bound_None_Quanta k).bind fun vt122 => (some vt122)) else ((bound_Scale_Light k dark2 beats4 1).bind fun vt135 => ((bound_Sub_Light k vt43 vt135).bind fun vt141 => (if vt141.Unknown = true then ((bound_None_Quanta k).bind fun vt204 => (some vt204)) else (if vt141.Hi < 0 then ((bound_None_Quanta k).bind fun vt217 => (some vt217)) else ((num_MulDiv k (mx 0 vt141.Lo) 4096 (w64 (vt57.Hi * 16777216))).bind fun (vt228, vt229) => ((num_MulDivUp k vt141.Hi 4096 (w64 (vt57.Lo * 16777216))).bind fun (vt237, vt238) => ((bound_Of_Quanta k vt228 vt237).bind fun vt246 => (some vt246)))))))))))))))))
def bound_Exact_Quanta (k : Nat) (v1 : Int) : Option (S_Bound) :=
  (bound_Of_Quanta k v1 v1).bind fun vt10 => (some vt10)
def bound_Exact_Part (k : Nat) (v1 : Int) : Option (S_Bound) :=
  (bound_Of_Part k v1 v1).bind fun vt10 => (some vt10)
def spykeep3_calibrated (k : Nat) : Option (Bool) :=
  (bound_Exact_Quanta k 0).bind fun vt5 => ((bound_Exact_Part k 4096).bind fun vt11 => ((calib_Light k vt5 (⟨0, 0, false⟩ : S_Bound) vt11 2).bind fun vt17 => (some ((vt17.Lo == 0) && ((vt17.Hi == 10) && ((vt17.Unknown == false) && true))))))
def bound_vague_Quanta (k : Nat) (a1 : S_Bound) (b2 : S_Bound) : Option (Bool) :=
  (bound_Norm_Quanta k a1).bind fun vt15 => (if vt15.Unknown = true then (some true) else ((bound_Norm_Quanta k b2).bind fun vt22 => (some vt22.Unknown)))
def bound_Inside_Quanta (k : Nat) (a1 : S_Bound) (b2 : S_Bound) : Option (Bool) :=
  (bound_vague_Quanta k b2 b2).bind fun vt15 => (if vt15 = true then (some true) else ((bound_vague_Quanta k a1 a1).bind fun vt22 => (if ¬ (vt22 = true) then (if b2.Lo ≤ a1.Lo then (some (decide (a1.Hi ≤ b2.Hi))) else (some false)) else (some false))))
def spykeep3_CalibNarrows (k : Nat) (l1 : List Int) (beats5 : Int) : Option (Bool) :=
  (spymake_Below k beats5 17).bind fun vt16 => ((spymake_Stream_Next k (⟨l1, 0⟩ : S_Stream) 3000).bind fun (vt24, vt25) => ((spymake_Stream_Next k (⟨l1, vt25⟩ : S_Stream) 3000).bind fun (vt31, vt32) => ((bound_Of_Quanta k (mn vt24 vt31) (mx vt24 vt31)).bind fun vt40 => ((spymake_Stream_Next k (⟨l1, vt32⟩ : S_Stream) 30).bind fun (vt57, vt58) => ((spymake_Stream_Next k (⟨l1, vt58⟩ : S_Stream) 30).bind fun (vt64, vt65) => ((bound_Of_Quanta k (w64 (vt40.Lo - vt57)) (w64 (vt40.Hi + vt64))).bind fun vt71 => ((spymake_Stream_Next k (⟨l1, vt65⟩ : S_Stream) 33554432).bind fun (vt156, vt157) => ((spymake_Stream_Next k (⟨l1, vt157⟩ : S_Stream) 33554432).bind fun (vt163, vt164) => ((bound_Of_Light k vt156 (w64 (33554432 + vt163))).bind fun vt170 => ((spymake_Stream_Next k (⟨l1, vt164⟩ : S_Stream) 1000).bind fun (vt190, vt191) => ((spymake_Stream_Next k (⟨l1, vt191⟩ : S_Stream) 1000).bind fun (vt197, vt198) => ((bound_Of_Light k (w64 (vt170.Lo - vt190)) (w64 (vt170.Hi + vt197))).bind fun vt204 => ((spymake_Stream_Range k (⟨l1, vt198⟩ : S_Stream) 2 2000).bind fun (vt289, vt290) => ((spymake_Stream_Range k (⟨l1, vt290⟩ : S_Stream) 2000 4000).bind fun (vt296, vt297) => ((bound_Of_Part k vt289 vt296).bind fun vt303 => ((spymake_Stream_Next k (⟨l1, vt297⟩ : S_Stream) 90).bind fun (vt325, vt326) => ((bound_Of_Part k (w64 (vt303.Lo - 1)) (w64 (vt303.Hi + vt325))).bind fun vt332 => ((calib_Light k vt40 vt170 vt303 vt16).bind fun vt394 => ((calib_Light k vt71 vt204 vt332 vt16).bind fun vt400 => ((spykeep3_calibrated k).bind fun vt630 => (if vt630 = true then (if vt394.Unknown = true then (some true) else ((bound_Inside_Quanta k vt394 vt400).bind fun vt638 => (some vt638))) else (some false))))))))))))))))))))))
end Go.Sp.C5
