import Derived.Test.YtjibamedpdpofaaSpCopy
namespace Go.Sp.Q9
open Go Go.Sp
set_option linter.unusedVariables false
structure S_Bound where
  Lo : Int
  Hi : Int
  Unknown : Bool
instance : Inhabited S_Bound := ⟨⟨default, default, default⟩⟩
def spymake_Below (k : Nat) (x1 : Int) (n2 : Int) : Option (Int) :=
  if n2 < 1 then (some 0) else (if ¬ (n2 = 0) then (if (Int.tmod x1 n2) < 0 then (some (w64 ((Int.tmod x1 n2) + n2))) else (some (Int.tmod x1 n2))) else none)
def quanta_Mix (k : Nat) (seed1 : Int) (n2 : Int) : Option (Int) :=
  some (Go.bits .xor .u64 (u64 ((Go.bits .xor .u64 (u64 ((Go.bits .xor .u64 (u64 (seed1 + (u64 ((u64 (w64 (n2 + 1))) * 11400714819323198485)))) (shr (u64 (seed1 + (u64 ((u64 (w64 (n2 + 1))) * 11400714819323198485)))) 30)) * 13787848793156543929)) (shr (u64 ((Go.bits .xor .u64 (u64 (seed1 + (u64 ((u64 (w64 (n2 + 1))) * 11400714819323198485)))) (shr (u64 (seed1 + (u64 ((u64 (w64 (n2 + 1))) * 11400714819323198485)))) 30)) * 13787848793156543929)) 27)) * 10723151780598845931)) (shr (u64 ((Go.bits .xor .u64 (u64 ((Go.bits .xor .u64 (u64 (seed1 + (u64 ((u64 (w64 (n2 + 1))) * 11400714819323198485)))) (shr (u64 (seed1 + (u64 ((u64 (w64 (n2 + 1))) * 11400714819323198485)))) 30)) * 13787848793156543929)) (shr (u64 ((Go.bits .xor .u64 (u64 (seed1 + (u64 ((u64 (w64 (n2 + 1))) * 11400714819323198485)))) (shr (u64 (seed1 + (u64 ((u64 (w64 (n2 + 1))) * 11400714819323198485)))) 30)) * 13787848793156543929)) 27)) * 10723151780598845931)) 31))
def bits_Mul64 (k : Nat) (x1 : Int) (y2 : Int) : Option (Int × Int) :=
  some (u64 ((u64 ((u64 ((shr x1 32) * (shr y2 32))) + (shr (u64 ((u64 ((shr x1 32) * (Go.bits .and .u64 y2 4294967295))) + (shr (u64 ((Go.bits .and .u64 x1 4294967295) * (Go.bits .and .u64 y2 4294967295))) 32))) 32))) + (shr (u64 ((Go.bits .and .u64 (u64 ((u64 ((shr x1 32) * (Go.bits .and .u64 y2 4294967295))) + (shr (u64 ((Go.bits .and .u64 x1 4294967295) * (Go.bits .and .u64 y2 4294967295))) 32))) 4294967295) + (u64 ((Go.bits .and .u64 x1 4294967295) * (shr y2 32))))) 32)), u64 (x1 * y2))
def quanta_Below (k : Nat) (x1 : Int) (n2 : Int) : Option (Int) :=
  if n2 < 1 then (some 0) else ((bits_Mul64 k x1 (u64 (n2))).bind fun (vt15, vt16) => (some (w64 (vt15))))
def quanta_Deck.l0 (k : Nat) (n2 : Int) : Nat → (List Int) → Int → Option ((List Int))
  | 0, _, _ => none
  | n_ + 1, deck97, x101 =>
    if x101 < ((List.replicate (n2).toNat (0 : Int)).length : Int) then (if 0 ≤ x101 then (if x101 < (deck97.length : Int) then (quanta_Deck.l0 k n2 n_ (deck97.set (x101).toNat x101) (w64 (x101 + 1))) else none) else none) else (some deck97)
def quanta_Deck.l1 (k : Nat) (vk3 : Int) (seed1 : Int) (n2 : Int) : Nat → (List Int) → Int → Option ((List Int))
  | 0, _, _ => none
  | n_ + 1, deck224, x228 =>
    if x228 < vk3 then ((quanta_Mix k seed1 x228).bind fun vt248 => ((quanta_Below k vt248 (w64 (n2 - x228))).bind fun vt254 => (if 0 ≤ (w64 (x228 + vt254)) then (if (w64 (x228 + vt254)) < (deck224.length : Int) then (if 0 ≤ x228 then (if x228 < (deck224.length : Int) then (if (w64 (x228 + vt254)) < ((deck224.set (x228).toNat (rd deck224 (w64 (x228 + vt254)))).length : Int) then (quanta_Deck.l1 k vk3 seed1 n2 n_ ((deck224.set (x228).toNat (rd deck224 (w64 (x228 + vt254)))).set (w64 (x228 + vt254)).toNat (rd deck224 x228)) (w64 (x228 + 1))) else none) else none) else none) else none) else none))) else (some deck224)
def quanta_Deck (k : Nat) (seed1 : Int) (n2 : Int) (vk3 : Int) : Option ((List Int) × Int) :=
  if n2 < 0 then (some (([] : List Int), 4)) else (if n2 > 4096 then (some (([] : List Int), 4)) else (if vk3 < 0 then (some (([] : List Int), 1)) else (if vk3 > n2 then (some (([] : List Int), 1)) else (if 0 ≤ n2 then (if n2 * 8 ≤ 140737488355328 then ((quanta_Deck.l0 k n2 k (List.replicate (n2).toNat (0 : Int)) 0).bind fun deck133 => ((quanta_Deck.l1 k vk3 seed1 n2 k deck133 0).bind fun deck289 => (if 0 ≤ vk3 then (if vk3 ≤ (deck289.length : Int) then (some ((deck289.take (vk3).toNat), 0)) else none) else none))) else none) else none))))
def quanta_valid (k : Nat) (m1 : Int) : Option (Bool) :=
  if m1 ≥ 0 then (some (decide (m1 ≤ 1152921504606846976))) else (some false)
def quanta_whole (k : Nat) (m1 : Int) : Option (Int) :=
  some (shr m1 24)
def num_SqrtMul.l0 (k : Nat) (vt18 : Int) (vt19 : Int) : Nat → Int → Int → Option (Int)
  | 0, _, _ => none
  | n_ + 1, r46, bit47 =>
    if bit47 > 0 then ((bits_Mul64 k (Go.bits .or .u64 r46 bit47) (Go.bits .or .u64 r46 bit47)).bind fun (vt65, vt66) => (if vt65 < vt18 then (num_SqrtMul.l0 k vt18 vt19 n_ (Go.bits .or .u64 r46 bit47) (shr bit47 1)) else (if vt65 = vt18 then (if vt66 ≤ vt19 then (num_SqrtMul.l0 k vt18 vt19 n_ (Go.bits .or .u64 r46 bit47) (shr bit47 1)) else (num_SqrtMul.l0 k vt18 vt19 n_ r46 (shr bit47 1))) else (num_SqrtMul.l0 k vt18 vt19 n_ r46 (shr bit47 1))))) else (some r46)
def num_SqrtMul (k : Nat) (a1 : Int) (b2 : Int) : Option (Int) :=
  if a1 < 0 then (some 0) else (if b2 < 0 then (some 0) else ((bits_Mul64 k (u64 (a1)) (u64 (b2))).bind fun (vt18, vt19) => ((num_SqrtMul.l0 k vt18 vt19 k 0 4611686018427387904).bind fun r83 => (some (w64 (r83))))))
def num_Sqrt (k : Nat) (a1 : Int) : Option (Int) :=
  (num_SqrtMul k a1 1).bind fun vt6 => (some vt6)
def quanta_root (k : Nat) (q1 : Int) : Option (Int) :=
  (num_Sqrt k q1).bind fun vt6 => (some vt6)
def quanta_Draw.l0 (k : Nat) (seed1 : Int) (n2 : Int) (vt30 : Int) : Nat → Int → Int → Option (Int)
  | 0, _, _ => none
  | n_ + 1, q82, vk83 =>
    if vk83 ≤ 3 then ((quanta_Mix k seed1 (w64 ((w64 (4 * n2)) + vk83))).bind fun vt99 => ((quanta_Below k vt99 (w64 ((w64 (2 * vt30)) + 1))).bind fun vt105 => (quanta_Draw.l0 k seed1 n2 vt30 n_ (w64 (q82 + (w64 (vt105 - vt30)))) (w64 (vk83 + 1))))) else (some q82)
def quanta_Draw (k : Nat) (seed1 : Int) (n2 : Int) (m3 : Int) : Option (Int × Int) :=
  (quanta_valid k m3).bind fun vt10 => (if ¬ (vt10 = true) then (some (0, 4)) else ((quanta_whole k m3).bind fun vt22 => ((quanta_root k vt22).bind fun vt30 => ((quanta_Mix k seed1 (w64 (4 * n2))).bind fun vt40 => ((quanta_Below k vt40 16777216).bind fun vt46 => (((if vt46 < (Int.tmod m3 16777216) then (some (w64 (vt22 + 1))) else (some vt22) : Option (Int))).bind fun q59 => ((quanta_Draw.l0 k seed1 n2 vt30 k q59 1).bind fun q116 => (some (mx 0 q116, 0)))))))))
def quanta_Spread (k : Nat) (m1 : Int) : Option (Int) :=
  (quanta_valid k m1).bind fun vt8 => (if ¬ (vt8 = true) then (some 0) else ((quanta_whole k m1).bind fun vt20 => ((quanta_root k vt20).bind fun vt26 => (some (w64 (3 * vt26))))))
def quanta_Range (k : Nat) (m1 : Int) : Option (S_Bound × Int) :=
  (quanta_valid k m1).bind fun vt12 => (if ¬ (vt12 = true) then (some ((⟨0, 0, false⟩ : S_Bound), 4)) else ((quanta_whole k m1).bind fun vt26 => ((quanta_whole k m1).bind fun vt32 => (((if (Int.tmod m1 16777216) > 0 then (some (w64 (vt32 + 1))) else (some vt32) : Option (Int))).bind fun up49 => ((quanta_Spread k m1).bind fun vt55 => ((quanta_Spread k m1).bind fun vt61 => (some ((⟨mx 0 (w64 (vt26 - vt55)), w64 (up49 + vt61), false⟩ : S_Bound), 0))))))))
def spykeep3_drawn (k : Nat) : Option (Bool) :=
  (quanta_Draw k 5 5 0).bind fun (vt5, vt6) => ((quanta_Range k 419430400).bind fun (vt14, vt15) => (if vt6 = 0 then (if vt15 = 0 then (if vt5 = 0 then (some ((vt14.Lo == 10) && ((vt14.Hi == 40) && ((vt14.Unknown == false) && true)))) else (some false)) else (some false)) else (some false)))
def slices_Equal_int.l0 (k : Nat) (s11 : List Int) (s25 : List Int) : Nat → Int → Option (Sum Bool Unit)
  | 0, _ => none
  | n_ + 1, x38 =>
    if x38 < (s11.length : Int) then (if 0 ≤ x38 then (if x38 < (s25.length : Int) then (if (rd s11 x38) ≠ (rd s25 x38) then (some (Sum.inl false)) else (slices_Equal_int.l0 k s11 s25 n_ (w64 (x38 + 1)))) else none) else none) else (some (Sum.inr ()))
def slices_Equal_int (k : Nat) (s11 : List Int) (s25 : List Int) : Option (Bool) :=
  if (s11.length : Int) ≠ (s25.length : Int) then (some false) else ((slices_Equal_int.l0 k s11 s25 k 0).bind fun z_ => Sum.elim (fun y_ => some y_) (fun _ => (some true)) z_)
def slices_Sort_int (k : Nat) (xs : List Int) : Option (List Int) :=
  if xs.length < 4611686018427387904 then some (xs.mergeSort fun x y => decide (x ≤ y)) else none
def spykeep3_QuantaDecksDiffer.l0 (k : Nat) (vt106 : List Int) : Nat → Int → Option (Sum Bool Unit)
  | 0, _ => none
  | n_ + 1, x134 =>
    if x134 < (vt106.length : Int) then (if 0 ≤ x134 then (if (rd vt106 x134) ≠ x134 then (some (Sum.inl false)) else (spykeep3_QuantaDecksDiffer.l0 k vt106 n_ (w64 (x134 + 1)))) else none) else (some (Sum.inr ()))
def spykeep3_QuantaDecksDiffer (k : Nat) (seed1 : Int) (n2 : Int) (vk3 : Int) : Option (Bool) :=
  (spymake_Below k n2 300).bind fun vt8 => ((spymake_Below k vk3 (w64 (vt8 + 1))).bind fun vt16 => ((quanta_Deck k seed1 vt8 vt8).bind fun (vt24, vt25) => ((quanta_Deck k seed1 vt8 vt16).bind fun (vt38, vt39) => ((spykeep3_drawn k).bind fun vt54 => (if ¬ (vt54 = true) then (some false) else (if vt25 ≠ 0 then (some false) else (if vt39 ≠ 0 then (some false) else (if (vt38.length : Int) ≠ vt16 then (some false) else (if (vt24.length : Int) ≠ vt8 then (some false) else (if 0 ≤ vt16 then (if vt16 ≤ (vt24.length : Int) then ((slices_Equal_int k vt38 (vt24.take (vt16).toNat)).bind fun vt87 => (if ¬ (vt87 = true) then (some false) else ((slices_Sort_int k vt24).bind fun vt106 => ((spykeep3_QuantaDecksDiffer.l0 k vt106 k 0).bind fun z_ => Sum.elim (fun y_ => some y_) (fun _ => (some true)) z_)))) else none) else none))))))))))
end Go.Sp.Q9
