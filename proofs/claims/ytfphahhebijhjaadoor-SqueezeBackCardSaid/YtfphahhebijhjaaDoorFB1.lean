import Derived.Test.YtfphahhebijhjaaDoorSpStr
import Derived.Test.YtfphahhebijhjaaDoorSpCopy
namespace Go.Sp.B1
open Go Go.Sp
set_option linter.unusedVariables false
structure S_Stream where
  L : List Int
  vat : Int
instance : Inhabited S_Stream := ⟨⟨default, default⟩⟩
structure S_Card where
  Key : ByteArray
  Value : ByteArray
  Unit : ByteArray
  Note : ByteArray
instance : Inhabited S_Card := ⟨⟨default, default, default, default⟩⟩
structure S_Sensor where
  W : Int
  H : Int
  Bias : List Int
  Dark : List Int
  Flat : List Int
  Full : Int
  Gain : Int
  Noise : Int
instance : Inhabited S_Sensor := ⟨⟨default, default, default, default, default, default, default, default⟩⟩
structure S_Hit where
  X : Int
  Y : Int
  Quanta : Int
instance : Inhabited S_Hit := ⟨⟨default, default, default⟩⟩
structure S_Plate where
  A : Int
  B : Int
  C : Int
  D : Int
instance : Inhabited S_Plate := ⟨⟨default, default, default, default⟩⟩
structure S_Shot where
  Kind : Int
  Seed : Int
  Number : Int
  Begin : Int
  Beats : Int
  Plate : S_Plate
  Seeing : Int
  DriftX : Int
  DriftY : Int
  Lamp : Int
  Hits : List S_Hit
instance : Inhabited S_Shot := ⟨⟨default, default, default, default, default, default, default, default, default, default, default⟩⟩
structure S_Frame where
  W : Int
  H : Int
  Cards : List S_Card
  Counts : List Int
instance : Inhabited S_Frame := ⟨⟨default, default, default, default⟩⟩
structure S_writer where
  out : List Int
  used : Int
instance : Inhabited S_writer := ⟨⟨default, default⟩⟩
structure S_reader where
  b : List Int
  used : Int
  over : Bool
instance : Inhabited S_reader := ⟨⟨default, default, default⟩⟩
def spymake_Below (k : Nat) (x1 : Int) (n2 : Int) : Option (Int) :=
  if n2 < 1 then (some 0) else (if ¬ (n2 = 0) then (if (Int.tmod x1 n2) < 0 then (some (w64 ((Int.tmod x1 n2) + n2))) else (some (Int.tmod x1 n2))) else none)
def spymake_Stream_Next (k : Nat) (s3 : S_Stream) (n7 : Int) : Option (Int × Int) :=
  if (s3.L.length : Int) = 0 then ((spymake_Below k (w64 ((w64 (s3.vat + 1)) * 7919)) n7).bind fun vt22 => (some (vt22, w64 (s3.vat + 1)))) else (if ¬ ((s3.L.length : Int) = 0) then (if 0 ≤ (Int.tmod (w64 ((w64 (s3.vat + 1)) - 1)) (s3.L.length : Int)) then (if (Int.tmod (w64 ((w64 (s3.vat + 1)) - 1)) (s3.L.length : Int)) < (s3.L.length : Int) then ((spymake_Below k (rd s3.L (Int.tmod (w64 ((w64 (s3.vat + 1)) - 1)) (s3.L.length : Int))) 1073741824).bind fun vt47 => ((spymake_Below k (w64 (vt47 + (w64 ((w64 (Int.tdiv (w64 ((w64 (s3.vat + 1)) - 1)) (s3.L.length : Int))) * (w64 (7919 + (Int.tmod (w64 ((w64 (s3.vat + 1)) - 1)) (s3.L.length : Int)))))))) n7).bind fun vt53 => (some (vt53, w64 (s3.vat + 1))))) else none) else none) else none)
def spymake_Stream_Range (k : Nat) (s3 : S_Stream) (low7 : Int) (high8 : Int) : Option (Int × Int) :=
  if high8 < low7 then (some (low7, s3.vat)) else ((spymake_Stream_Next k s3 (w64 ((w64 (high8 - low7)) + 1))).bind fun (vt21, vt22) => (some (w64 (low7 + vt21), vt22)))
def spymake_Stream_Sensor.l0 (k : Nat) (vt17 : Int) (vt24 : Int) (s3 : S_Stream) (vt145 : Int) : Nat → Int → Int → (List Int) → (List Int) → (List Int) → Option (Int × (List Int) × (List Int) × (List Int))
  | 0, _, _, _, _, _ => none
  | n_ + 1, x340, x341, x342, x348, x354 =>
    if x340 < (w64 (vt17 * vt24)) then ((spymake_Stream_Next k (⟨s3.L, x341⟩ : S_Stream) 60).bind fun (vt386, vt387) => (if (x342.length + 1) * 8 ≤ 140737488355328 then ((spymake_Stream_Next k (⟨s3.L, vt387⟩ : S_Stream) (w64 ((w64 (vt145 * 16777216)) + 1))).bind fun (vt422, vt423) => (if (x348.length + 1) * 8 ≤ 140737488355328 then ((spymake_Stream_Range k (⟨s3.L, vt423⟩ : S_Stream) 2048 4096).bind fun (vt450, vt451) => ((spymake_Stream_Next k (⟨s3.L, vt451⟩ : S_Stream) 12).bind fun (vt461, vt462) => (if vt461 = 0 then ((spymake_Stream_Next k (⟨s3.L, vt462⟩ : S_Stream) 512).bind fun (vt470, vt471) => ((spymake_Stream_Next k (⟨s3.L, vt471⟩ : S_Stream) 2).bind fun (vt477, vt478) => (if (x354.length + 1) * 8 ≤ 140737488355328 then (spymake_Stream_Sensor.l0 k vt17 vt24 s3 vt145 n_ (w64 (x340 + 1)) vt478 (x342 ++ ([vt386] : List Int)) (x348 ++ ([vt422] : List Int)) (x354 ++ ([w64 (vt470 * vt477)] : List Int))) else none))) else (if (x354.length + 1) * 8 ≤ 140737488355328 then (spymake_Stream_Sensor.l0 k vt17 vt24 s3 vt145 n_ (w64 (x340 + 1)) vt462 (x342 ++ ([vt386] : List Int)) (x348 ++ ([vt422] : List Int)) (x354 ++ ([vt450] : List Int))) else none)))) else none)) else none)) else (some (x341, x342, x348, x354))
def spymake_Stream_Sensor (k : Nat) (s3 : S_Stream) (most7 : Int) : Option (S_Sensor × Int) :=
  (spymake_Stream_Range k s3 1 most7).bind fun (vt17, vt18) => ((spymake_Stream_Range k (⟨s3.L, vt18⟩ : S_Stream) 1 most7).bind fun (vt24, vt25) => ((spymake_Stream_Range k (⟨s3.L, vt25⟩ : S_Stream) 20000 1048576).bind fun (vt31, vt32) => ((spymake_Stream_Range k (⟨s3.L, vt32⟩ : S_Stream) 1 4).bind fun (vt38, vt39) => ((spymake_Stream_Next k (⟨s3.L, vt39⟩ : S_Stream) 4).bind fun (vt45, vt46) => ((spymake_Stream_Next k (⟨s3.L, vt46⟩ : S_Stream) 6).bind fun (vt63, vt64) => (((if vt63 = 0 then ((spymake_Stream_Range k (⟨s3.L, vt64⟩ : S_Stream) 200 5000).bind fun (vt81, vt82) => (some (vt82, vt81, vt38, vt45))) else (((if vt63 = 1 then ((spymake_Stream_Range k (⟨s3.L, vt64⟩ : S_Stream) 1 64).bind fun (vt95, vt96) => ((spymake_Stream_Next k (⟨s3.L, vt96⟩ : S_Stream) 20).bind fun (vt102, vt103) => (some (vt103, vt95, vt102)))) else (some (vt64, vt38, vt45)) : Option (Int × Int × Int))).bind fun (x119, x120, x121) => (some (x119, vt31, x120, x121))) : Option (Int × Int × Int × Int))).bind fun (x133, x134, x135, x136) => ((spymake_Stream_Next k (⟨s3.L, x133⟩ : S_Stream) 3).bind fun (vt145, vt146) => ((spymake_Stream_Sensor.l0 k vt17 vt24 s3 vt145 k 0 vt146 ([] : List Int) ([] : List Int) ([] : List Int)).bind fun (x525, x526, x532, x538) => (some ((⟨vt17, vt24, x526, x532, x538, x134, x135, x136⟩ : S_Sensor), x525))))))))))
def spymake_Stream_Plate (k : Nat) (s3 : S_Stream) : Option (S_Plate × Int) :=
  (spymake_Stream_Next k s3 3).bind fun (vt22, vt23) => (if 0 ≤ vt22 then (if vt22 < (([2, 30, 1024] : List Int).length : Int) then ((spymake_Stream_Range k (⟨s3.L, vt23⟩ : S_Stream) (w64 (0 - (rd ([2, 30, 1024] : List Int) vt22))) (rd ([2, 30, 1024] : List Int) vt22)).bind fun (vt36, vt37) => ((spymake_Stream_Range k (⟨s3.L, vt37⟩ : S_Stream) (w64 (0 - (rd ([2, 30, 1024] : List Int) vt22))) (rd ([2, 30, 1024] : List Int) vt22)).bind fun (vt43, vt44) => ((spymake_Stream_Range k (⟨s3.L, vt44⟩ : S_Stream) (w64 (0 - (rd ([2, 30, 1024] : List Int) vt22))) (rd ([2, 30, 1024] : List Int) vt22)).bind fun (vt50, vt51) => ((spymake_Stream_Range k (⟨s3.L, vt51⟩ : S_Stream) (w64 (0 - (rd ([2, 30, 1024] : List Int) vt22))) (rd ([2, 30, 1024] : List Int) vt22)).bind fun (vt57, vt58) => (if ((vt36 == 0) && ((vt43 == 0) && ((vt50 == 0) && ((vt57 == 0) && true)))) = true then (some ((⟨1, vt43, vt50, vt57⟩ : S_Plate), vt58)) else (some ((⟨vt36, vt43, vt50, vt57⟩ : S_Plate), vt58))))))) else none) else none)
def spymake_Stream_Shot (k : Nat) (s3 : S_Stream) (c7 : S_Sensor) (kind17 : Int) (number18 : Int) : Option (S_Shot × Int) :=
  (spymake_Stream_Next k s3 1073741824).bind fun (vt32, vt33) => ((spymake_Stream_Range k (⟨s3.L, vt33⟩ : S_Stream) (-3000) 3000).bind fun (vt39, vt40) => ((spymake_Stream_Next k (⟨s3.L, vt40⟩ : S_Stream) 5).bind fun (vt57, vt58) => (((if vt57 = 0 then ((spymake_Stream_Range k (⟨s3.L, vt58⟩ : S_Stream) (-30) 30).bind fun (vt66, vt67) => (some (vt67, (w64 (vt66 * 28800000))))) else (some (vt58, vt39)) : Option (Int × Int))).bind fun (x81, x82) => (((if kind17 ≠ 0 then ((spymake_Stream_Next k (⟨s3.L, x81⟩ : S_Stream) 3).bind fun (vt103, vt104) => (if 0 ≤ vt103 then (if vt103 < (([2, 5, 16] : List Int).length : Int) then ((spymake_Stream_Range k (⟨s3.L, vt104⟩ : S_Stream) 1 (rd ([2, 5, 16] : List Int) vt103)).bind fun (vt115, vt116) => (some (vt116, vt115))) else none) else none)) else (some (x81, 0)) : Option (Int × Int))).bind fun (x130, x131) => (if kind17 = 2 then ((spymake_Stream_Next k (⟨s3.L, x130⟩ : S_Stream) 3).bind fun (vt163, vt164) => (if 0 ≤ vt163 then (if vt163 < (([100, 3000, 40000] : List Int).length : Int) then ((spymake_Stream_Range k (⟨s3.L, vt164⟩ : S_Stream) 1 (rd ([100, 3000, 40000] : List Int) vt163)).bind fun (vt175, vt176) => (some ((⟨kind17, u64 ((u64 (vt32)) * 11400714819323198485), number18, x82, x131, (⟨0, 0, 0, 0⟩ : S_Plate), 0, 0, 0, vt175, ([] : List S_Hit)⟩ : S_Shot), vt176))) else none) else none)) else (if kind17 = 3 then ((spymake_Stream_Plate k (⟨s3.L, x130⟩ : S_Stream)).bind fun (vt191, vt192) => ((spymake_Stream_Next k (⟨s3.L, vt192⟩ : S_Stream) 2).bind fun (vt204, vt205) => (if ¬ (vt204 < 0) then ((spymake_Stream_Next k (⟨s3.L, vt205⟩ : S_Stream) 6).bind fun (vt220, vt221) => (((if vt220 = 0 then (some 4) else (some (w64 (1 * 2 ^ (min (vt204).toNat 64)))) : Option (Int))).bind fun x237 => ((spymake_Stream_Next k (⟨s3.L, vt221⟩ : S_Stream) 3).bind fun (vt247, vt248) => (if vt247 = 0 then ((spymake_Stream_Range k (⟨s3.L, vt248⟩ : S_Stream) (-64) 64).bind fun (vt256, vt257) => ((spymake_Stream_Range k (⟨s3.L, vt257⟩ : S_Stream) (-64) 64).bind fun (vt263, vt264) => (some ((⟨kind17, u64 ((u64 (vt32)) * 11400714819323198485), number18, x82, x131, vt191, x237, vt256, vt263, 0, ([] : List S_Hit)⟩ : S_Shot), vt264)))) else (some ((⟨kind17, u64 ((u64 (vt32)) * 11400714819323198485), number18, x82, x131, vt191, x237, 0, 0, 0, ([] : List S_Hit)⟩ : S_Shot), vt248)))))) else none))) else (some ((⟨kind17, u64 ((u64 (vt32)) * 11400714819323198485), number18, x82, x131, (⟨0, 0, 0, 0⟩ : S_Plate), 0, 0, 0, 0, ([] : List S_Hit)⟩ : S_Shot), x130))))))))
def strconv_FormatInt (k : Nat) (n b : Int) : Option (ByteArray) :=
  if b = 10 then (if -9223372036854775808 ≤ n then (if n ≤ 9223372036854775807 then (some (numeral n)) else none) else none) else none
def spymake_Cards_1 (k : Nat) (key1 : ByteArray) (n2 : Int) (unit3 : ByteArray) : Option (S_Card) :=
  (strconv_FormatInt k n2 10).bind fun vt12 => (some (⟨key1, vt12, unit3, (⟨#[]⟩ : ByteArray)⟩ : S_Card))
def spymake_Cards.l0 (k : Nat) (x1 : S_Shot) : Nat → (List S_Card) → Int → Option ((List S_Card))
  | 0, _, _ => none
  | n_ + 1, out147, x152 =>
    if x152 < 4 then (if 0 ≤ x152 then (if (⟨#[80, 76, 65, 84, 69, 45]⟩ : ByteArray).size + (bstr ([u8 (w64 (65 + x152))] : List Int)).size ≤ 9223372036854775807 then ((spymake_Cards_1 k ((⟨#[80, 76, 65, 84, 69, 45]⟩ : ByteArray) ++ (bstr ([u8 (w64 (65 + x152))] : List Int))) (rd [x1.Plate.A, x1.Plate.B, x1.Plate.C, x1.Plate.D] x152) (⟨#[]⟩ : ByteArray)).bind fun vt178 => (if (out147.length + 1) * 64 ≤ 140737488355328 then (spymake_Cards.l0 k x1 n_ (out147 ++ ([vt178] : List S_Card)) (w64 (x152 + 1))) else none)) else none) else none) else (some out147)
def spymake_Cards (k : Nat) (x1 : S_Shot) : Option ((List S_Card)) :=
  (spymake_Below k x1.Kind 4).bind fun vt21 => (if 0 ≤ vt21 then (if vt21 < (([(⟨#[98, 105, 97, 115]⟩ : ByteArray), (⟨#[100, 97, 114, 107]⟩ : ByteArray), (⟨#[102, 108, 97, 116]⟩ : ByteArray), (⟨#[115, 99, 105, 101, 110, 99, 101]⟩ : ByteArray)] : List ByteArray).length : Int) then ((spymake_Cards_1 k (⟨#[78, 85, 77, 66, 69, 82]⟩ : ByteArray) x1.Number (⟨#[]⟩ : ByteArray)).bind fun vt36 => ((spymake_Cards_1 k (⟨#[66, 69, 71, 73, 78]⟩ : ByteArray) x1.Begin (⟨#[116, 105, 99, 107]⟩ : ByteArray)).bind fun vt42 => ((spymake_Cards_1 k (⟨#[66, 69, 65, 84, 83]⟩ : ByteArray) x1.Beats (⟨#[98, 101, 97, 116]⟩ : ByteArray)).bind fun vt48 => (if x1.Kind ≠ 3 then (some ([(⟨(⟨#[75, 73, 78, 68]⟩ : ByteArray), (rd ([(⟨#[98, 105, 97, 115]⟩ : ByteArray), (⟨#[100, 97, 114, 107]⟩ : ByteArray), (⟨#[102, 108, 97, 116]⟩ : ByteArray), (⟨#[115, 99, 105, 101, 110, 99, 101]⟩ : ByteArray)] : List ByteArray) vt21), (⟨#[]⟩ : ByteArray), (⟨#[]⟩ : ByteArray)⟩ : S_Card), vt36, vt42, vt48] : List S_Card)) else ((spymake_Cards.l0 k x1 k ([(⟨(⟨#[75, 73, 78, 68]⟩ : ByteArray), (rd ([(⟨#[98, 105, 97, 115]⟩ : ByteArray), (⟨#[100, 97, 114, 107]⟩ : ByteArray), (⟨#[102, 108, 97, 116]⟩ : ByteArray), (⟨#[115, 99, 105, 101, 110, 99, 101]⟩ : ByteArray)] : List ByteArray) vt21), (⟨#[]⟩ : ByteArray), (⟨#[]⟩ : ByteArray)⟩ : S_Card), vt36, vt42, vt48] : List S_Card) 0).bind fun out204 => ((spymake_Cards_1 k (⟨#[83, 69, 69, 73, 78, 71]⟩ : ByteArray) x1.Seeing (⟨#[99, 101, 108, 108]⟩ : ByteArray)).bind fun vt224 => ((spymake_Cards_1 k (⟨#[68, 82, 73, 70, 84, 45, 88]⟩ : ByteArray) x1.DriftX (⟨#[115, 117, 98]⟩ : ByteArray)).bind fun vt230 => ((spymake_Cards_1 k (⟨#[68, 82, 73, 70, 84, 45, 89]⟩ : ByteArray) x1.DriftY (⟨#[115, 117, 98]⟩ : ByteArray)).bind fun vt236 => (if (out204.length + 3) * 64 ≤ 140737488355328 then (some (out204 ++ ([vt224, vt230, vt236] : List S_Card))) else none))))))))) else none) else none)
def spymake_Stream_Frame.l0 (k : Nat) (vw11 : Int) (vh12 : Int) (s3 : S_Stream) (vt51 : Int) (vt65 : Int) : Nat → Int → Int → (List Int) → Option (Int × (List Int))
  | 0, _, _, _ => none
  | n_ + 1, x185, x186, x187 =>
    if x185 < (w64 (vw11 * vh12)) then ((spymake_Stream_Range k (⟨s3.L, x186⟩ : S_Stream) (-3) 3).bind fun (vt211, vt212) => ((spymake_Stream_Next k (⟨s3.L, vt212⟩ : S_Stream) 3).bind fun (vt222, vt223) => (if vt222 = 0 then ((spymake_Stream_Next k (⟨s3.L, vt223⟩ : S_Stream) (rd ([2, 256, 300, 5000, 65536] : List Int) vt51)).bind fun (vt231, vt232) => (if (x187.length + 1) * 8 ≤ 140737488355328 then (spymake_Stream_Frame.l0 k vw11 vh12 s3 vt51 vt65 n_ (w64 (x185 + 1)) vt232 (x187 ++ ([mx 0 (mn 65535 vt231)] : List Int))) else none)) else (if (x187.length + 1) * 8 ≤ 140737488355328 then (spymake_Stream_Frame.l0 k vw11 vh12 s3 vt51 vt65 n_ (w64 (x185 + 1)) vt223 (x187 ++ ([mx 0 (mn 65535 (w64 (vt65 + vt211)))] : List Int))) else none)))) else (some (x186, x187))
def spymake_Stream_Frame (k : Nat) (s3 : S_Stream) (x7 : S_Shot) (vw11 : Int) (vh12 : Int) : Option (S_Frame × Int) :=
  (spymake_Cards k x7).bind fun vt25 => ((spymake_Stream_Next k s3 5).bind fun (vt51, vt52) => (if 0 ≤ vt51 then (if vt51 < (([2, 256, 300, 5000, 65536] : List Int).length : Int) then ((spymake_Stream_Next k (⟨s3.L, vt52⟩ : S_Stream) (rd ([2, 256, 300, 5000, 65536] : List Int) vt51)).bind fun (vt65, vt66) => ((spymake_Stream_Frame.l0 k vw11 vh12 s3 vt51 vt65 k 0 vt66 ([] : List Int)).bind fun (x279, x280) => (some ((⟨vw11, vh12, vt25, x280⟩ : S_Frame), x279)))) else none) else none))
def strconv_Itoa (k : Nat) (n : Int) : Option (ByteArray) :=
  if -9223372036854775808 ≤ n then (if n ≤ 9223372036854775807 then (some (numeral n)) else none) else none
def spymake_Stream_Notes.l0 (k : Nat) (vt44 : Int) (s3 : S_Stream) : Nat → (List S_Card) → Int → Int → Option ((List S_Card) × Int)
  | 0, _, _, _ => none
  | n_ + 1, l250, x255, x256 =>
    if x255 < vt44 then ((strconv_Itoa k x255).bind fun vt276 => (if (⟨#[88]⟩ : ByteArray).size + vt276.size ≤ 9223372036854775807 then ((spymake_Stream_Next k (⟨s3.L, x256⟩ : S_Stream) 6).bind fun (vt290, vt291) => (if 0 ≤ vt290 then (if vt290 < (([(⟨#[49]⟩ : ByteArray), (⟨#[97, 47, 98]⟩ : ByteArray), (⟨#[61]⟩ : ByteArray), (⟨#[91, 55, 93]⟩ : ByteArray), (⟨#[45, 49, 50]⟩ : ByteArray), (⟨#[50, 48]⟩ : ByteArray)] : List ByteArray).length : Int) then ((spymake_Stream_Next k (⟨s3.L, vt291⟩ : S_Stream) 2).bind fun (vt313, vt314) => (((if vt313 = 0 then ((spymake_Stream_Next k (⟨s3.L, vt314⟩ : S_Stream) 5).bind fun (vt329, vt330) => (if 0 ≤ vt329 then (if vt329 < (([(⟨#[116, 105, 99, 107]⟩ : ByteArray), (⟨#[109, 105, 110, 117, 116, 101]⟩ : ByteArray), (⟨#[99, 101, 108, 108]⟩ : ByteArray), (⟨#[116, 117, 114, 110]⟩ : ByteArray), (⟨#[111, 100, 100]⟩ : ByteArray)] : List ByteArray).length : Int) then (some (vt330, (rd ([(⟨#[116, 105, 99, 107]⟩ : ByteArray), (⟨#[109, 105, 110, 117, 116, 101]⟩ : ByteArray), (⟨#[99, 101, 108, 108]⟩ : ByteArray), (⟨#[116, 117, 114, 110]⟩ : ByteArray), (⟨#[111, 100, 100]⟩ : ByteArray)] : List ByteArray) vt329))) else none) else none)) else (some (vt314, (⟨#[]⟩ : ByteArray))) : Option (Int × ByteArray))).bind fun (x349, x350) => ((spymake_Stream_Next k (⟨s3.L, x349⟩ : S_Stream) 2).bind fun (vt366, vt367) => (if vt366 = 0 then ((spymake_Stream_Next k (⟨s3.L, vt367⟩ : S_Stream) 4).bind fun (vt382, vt383) => (if 0 ≤ vt382 then (if vt382 < (([(⟨#[97]⟩ : ByteArray), (⟨#[47, 32, 98]⟩ : ByteArray), (⟨#[120, 32, 32, 121]⟩ : ByteArray), (⟨#[91, 122, 93, 32, 61, 32, 49]⟩ : ByteArray)] : List ByteArray).length : Int) then (if (l250.length + 1) * 64 ≤ 140737488355328 then (spymake_Stream_Notes.l0 k vt44 s3 n_ (l250 ++ ([(⟨((⟨#[88]⟩ : ByteArray) ++ vt276), (rd ([(⟨#[49]⟩ : ByteArray), (⟨#[97, 47, 98]⟩ : ByteArray), (⟨#[61]⟩ : ByteArray), (⟨#[91, 55, 93]⟩ : ByteArray), (⟨#[45, 49, 50]⟩ : ByteArray), (⟨#[50, 48]⟩ : ByteArray)] : List ByteArray) vt290), x350, (rd ([(⟨#[97]⟩ : ByteArray), (⟨#[47, 32, 98]⟩ : ByteArray), (⟨#[120, 32, 32, 121]⟩ : ByteArray), (⟨#[91, 122, 93, 32, 61, 32, 49]⟩ : ByteArray)] : List ByteArray) vt382)⟩ : S_Card)] : List S_Card)) (w64 (x255 + 1)) vt383) else none) else none) else none)) else (if (l250.length + 1) * 64 ≤ 140737488355328 then (spymake_Stream_Notes.l0 k vt44 s3 n_ (l250 ++ ([(⟨((⟨#[88]⟩ : ByteArray) ++ vt276), (rd ([(⟨#[49]⟩ : ByteArray), (⟨#[97, 47, 98]⟩ : ByteArray), (⟨#[61]⟩ : ByteArray), (⟨#[91, 55, 93]⟩ : ByteArray), (⟨#[45, 49, 50]⟩ : ByteArray), (⟨#[50, 48]⟩ : ByteArray)] : List ByteArray) vt290), x350, (⟨#[]⟩ : ByteArray)⟩ : S_Card)] : List S_Card)) (w64 (x255 + 1)) vt367) else none))))) else none) else none)) else none)) else (some (l250, x256))
def spymake_Stream_Notes (k : Nat) (s3 : S_Stream) (vf7 : S_Frame) : Option (S_Frame × Int) :=
  if (([] : List S_Card).length + vf7.Cards.length) * 64 ≤ 140737488355328 then ((spymake_Stream_Next k s3 4).bind fun (vt44, vt45) => ((spymake_Stream_Notes.l0 k vt44 s3 k (([] : List S_Card) ++ vf7.Cards) 0 vt45).bind fun (l432, x437) => (some ((⟨vf7.W, vf7.H, l432, vf7.Counts⟩ : S_Frame), x437)))) else none
def spykeep3_noted (k : Nat) (s3 : S_Stream) : Option (S_Frame × Int) :=
  (spymake_Stream_Sensor k s3 9).bind fun (vt16, vt17) => ((spymake_Stream_Next k (⟨s3.L, vt17⟩ : S_Stream) 4).bind fun (vt54, vt55) => ((spymake_Stream_Range k (⟨s3.L, vt55⟩ : S_Stream) 1 99).bind fun (vt61, vt62) => ((spymake_Stream_Shot k (⟨s3.L, vt62⟩ : S_Stream) vt16 vt54 vt61).bind fun (vt86, vt87) => ((spymake_Stream_Frame k (⟨s3.L, vt87⟩ : S_Stream) vt86 vt16.W vt16.H).bind fun (vt119, vt120) => ((spymake_Stream_Notes k (⟨s3.L, vt120⟩ : S_Stream) vt119).bind fun (vt150, vt151) => (some (vt150, vt151)))))))
def frame_Check_1 (k : Nat) (n1 : Int) : Option (Bool) :=
  if n1 < 0 then (some true) else (some (decide (n1 > 65535)))
def slices_IndexFunc_int__frame_Check_1.l0 (k : Nat) (s1 : List Int) : Nat → Int → Option (Sum Int Unit)
  | 0, _ => none
  | n_ + 1, x26 =>
    if x26 < (s1.length : Int) then (if 0 ≤ x26 then ((frame_Check_1 k (rd s1 x26)).bind fun vt53 => (if vt53 = true then (some (Sum.inl x26)) else (slices_IndexFunc_int__frame_Check_1.l0 k s1 n_ (w64 (x26 + 1))))) else none) else (some (Sum.inr ()))
def slices_IndexFunc_int__frame_Check_1 (k : Nat) (s1 : List Int) : Option (Int) :=
  (slices_IndexFunc_int__frame_Check_1.l0 k s1 k 0).bind fun z_ => Sum.elim (fun y_ => some y_) (fun _ => (some (-1))) z_
def slices_ContainsFunc_int__frame_Check_1 (k : Nat) (s1 : List Int) : Option (Bool) :=
  (slices_IndexFunc_int__frame_Check_1 k s1).bind fun vt9 => (some (decide (vt9 ≥ 0)))
def frame_Check (k : Nat) (vf1 : S_Frame) : Option (Int) :=
  if (mn vf1.W vf1.H) < 1 then (some 4) else (if (mx vf1.W vf1.H) > 32 then (some 4) else (if (vf1.Counts.length : Int) ≠ (w64 (vf1.W * vf1.H)) then (some 3) else ((slices_ContainsFunc_int__frame_Check_1 k vf1.Counts).bind fun vt37 => (if vt37 = true then (some 4) else (some 0)))))
def slices_Chunk_int (k : Nat) (s1 : List Int) (n5 : Int) : Option ((List Int) × Int) :=
  if n5 < 1 then (none) else (some (s1, n5))
def slices_Chunk_int_1.l0 (k : Nat) (x2 : List Int) (x8 : Int) : Nat → Int → Option (List (List Int))
  | 0, _ => none
  | n_ + 1, i27 =>
    if i27 < (x2.length : Int) then (if 0 ≤ i27 then (if i27 ≤ (x2.length : Int) then (if i27 ≤ (w64 (i27 + (mn x8 ((x2.drop (i27).toNat).length : Int)))) then (if (w64 (i27 + (mn x8 ((x2.drop (i27).toNat).length : Int)))) ≤ (x2.length : Int) then ((slices_Chunk_int_1.l0 k x2 x8 n_ (w64 (i27 + x8))).bind (fun z_ => some (((x2.take (w64 (i27 + (mn x8 ((x2.drop (i27).toNat).length : Int)))).toNat).drop (i27).toNat) :: z_))) else none) else none) else none) else none) else (some [])
def slices_Chunk_int_1 (k : Nat) (x2 : List Int) (x8 : Int) : Option (List (List Int)) :=
  slices_Chunk_int_1.l0 k x2 x8 k 0
def squeeze_writer_put.l0 (k : Nat) (v9 : Int) : Nat → Int → (List Int) → Int → Option ((List Int) × Int)
  | 0, _, _, _ => none
  | n_ + 1, n231, x232, x237 =>
    if n231 ≥ 0 then (if (Int.tmod x237 8) = 0 then (if (x232.length + 1) * 1 ≤ 140737488355328 then (if 0 ≤ (w64 (((x232 ++ ([0] : List Int)).length : Int) - 1)) then (if (w64 (((x232 ++ ([0] : List Int)).length : Int) - 1)) < ((x232 ++ ([0] : List Int)).length : Int) then (if ¬ (n231 < 0) then (if ¬ ((w64 (7 - (Int.tmod x237 8))) < 0) then (squeeze_writer_put.l0 k v9 n_ (w64 (n231 - 1)) ((x232 ++ ([0] : List Int)).set (w64 (((x232 ++ ([0] : List Int)).length : Int) - 1)).toNat (Go.bits .or .u8 (rd (x232 ++ ([0] : List Int)) (w64 (((x232 ++ ([0] : List Int)).length : Int) - 1))) (u8 ((u8 (Go.bits .and .i64 (shr v9 (min (n231).toNat 64)) 1)) * 2 ^ (min (w64 (7 - (Int.tmod x237 8))).toNat 8))))) (w64 (x237 + 1))) else none) else none) else none) else none) else none) else (if 0 ≤ (w64 ((x232.length : Int) - 1)) then (if (w64 ((x232.length : Int) - 1)) < (x232.length : Int) then (if ¬ (n231 < 0) then (if ¬ ((w64 (7 - (Int.tmod x237 8))) < 0) then (squeeze_writer_put.l0 k v9 n_ (w64 (n231 - 1)) (x232.set (w64 ((x232.length : Int) - 1)).toNat (Go.bits .or .u8 (rd x232 (w64 ((x232.length : Int) - 1))) (u8 ((u8 (Go.bits .and .i64 (shr v9 (min (n231).toNat 64)) 1)) * 2 ^ (min (w64 (7 - (Int.tmod x237 8))).toNat 8))))) (w64 (x237 + 1))) else none) else none) else none) else none)) else (some (x232, x237))
def squeeze_writer_put (k : Nat) (vw3 : S_writer) (v9 : Int) (n10 : Int) : Option ((List Int) × Int) :=
  (squeeze_writer_put.l0 k v9 k (w64 (n10 - 1)) vw3.out vw3.used).bind fun (x332, x337) => (some (x332, x337))
def squeeze_fold (k : Nat) (d1 : Int) : Option (Int) :=
  if d1 < 0 then (some (w64 ((w64 ((-2) * d1)) - 1))) else (some (w64 (2 * d1)))
def squeeze_cost.l0 (k : Nat) (group1 : List Int) (vk5 : Int) : Nat → Int → Int → Option (Int)
  | 0, _, _ => none
  | n_ + 1, n29, x30 =>
    if x30 < (group1.length : Int) then (if 0 ≤ x30 then (if vk5 = 15 then (squeeze_cost.l0 k group1 vk5 n_ (w64 (n29 + 17)) (w64 (x30 + 1))) else (if ¬ (vk5 < 0) then (squeeze_cost.l0 k group1 vk5 n_ (w64 (n29 + (w64 ((w64 ((shr (rd group1 x30) (min (vk5).toNat 64)) + 1)) + vk5)))) (w64 (x30 + 1))) else none)) else none) else (some n29)
def squeeze_cost (k : Nat) (group1 : List Int) (vk5 : Int) : Option (Int) :=
  (squeeze_cost.l0 k group1 vk5 k 0 0).bind fun n65 => (some n65)
def squeeze_row.l0 (k : Nat) (counts1 : List Int) : Nat → (List Int) → Int → Option ((List Int))
  | 0, _, _ => none
  | n_ + 1, folds69, i75 =>
    if i75 < (counts1.length : Int) then (if 0 ≤ i75 then (if 0 ≤ (w64 (i75 - 1)) then (if (w64 (i75 - 1)) < (counts1.length : Int) then ((squeeze_fold k (w64 ((rd counts1 i75) - (rd counts1 (w64 (i75 - 1)))))).bind fun vt112 => (if (folds69.length + 1) * 8 ≤ 140737488355328 then (squeeze_row.l0 k counts1 n_ (folds69 ++ ([vt112] : List Int)) (w64 (i75 + 1))) else none)) else none) else none) else none) else (some folds69)
def squeeze_row.l2 (k : Nat) (x1873 : List Int) : Nat → Int → Int → Option (Int)
  | 0, _, _ => none
  | n_ + 1, best1914, x1915 =>
    if x1915 < 16 then ((squeeze_cost k x1873 x1915).bind fun vt1935 => ((squeeze_cost k x1873 best1914).bind fun vt1941 => (if vt1935 < vt1941 then (squeeze_row.l2 k x1873 n_ x1915 (w64 (x1915 + 1))) else (squeeze_row.l2 k x1873 n_ best1914 (w64 (x1915 + 1)))))) else (some best1914)
def squeeze_row.l4 (k : Nat) (x1873 : List Int) (x2461 : Int) (best1954 : Int) : Nat → Int → (List Int) → Int → Option ((List Int) × Int)
  | 0, _, _, _ => none
  | n_ + 1, x2614, x2615, x2620 =>
    if x2614 < (shr (rd x1873 x2461) (min (best1954).toNat 64)) then ((squeeze_writer_put k (⟨x2615, x2620⟩ : S_writer) 1 1).bind fun (vt2637, vt2638) => (squeeze_row.l4 k x1873 x2461 best1954 n_ (w64 (x2614 + 1)) vt2637 vt2638)) else (some (x2615, x2620))
def squeeze_row.l3 (k : Nat) (x1873 : List Int) (best1954 : Int) : Nat → Int → (List Int) → Int → Option ((List Int) × Int)
  | 0, _, _, _ => none
  | n_ + 1, x2461, x2462, x2467 =>
    if x2461 < (x1873.length : Int) then (if 0 ≤ x2461 then (if best1954 = 15 then ((squeeze_writer_put k (⟨x2462, x2467⟩ : S_writer) (rd x1873 x2461) 17).bind fun (vt2501, vt2502) => (squeeze_row.l3 k x1873 best1954 n_ (w64 (x2461 + 1)) vt2501 vt2502)) else (if ¬ (best1954 < 0) then ((squeeze_row.l4 k x1873 x2461 best1954 k 0 x2462 x2467).bind fun (x2654, x2659) => ((squeeze_writer_put k (⟨x2654, x2659⟩ : S_writer) 0 1).bind fun (vt2666, vt2667) => ((squeeze_writer_put k (⟨vt2666, vt2667⟩ : S_writer) (rd x1873 x2461) best1954).bind fun (vt2679, vt2680) => (squeeze_row.l3 k x1873 best1954 n_ (w64 (x2461 + 1)) vt2679 vt2680)))) else none)) else none) else (some (x2462, x2467))
def squeeze_row.g1 (k : Nat) : List ((List Int)) → (List Int) → Int → Option ((List Int) × Int)
  | [], x1867, x1872 => some (x1867, x1872)
  | x1873 :: n_, x1867, x1872 =>
    (squeeze_row.l2 k x1873 k 0 0).bind fun best1954 => ((squeeze_writer_put k (⟨x1867, x1872⟩ : S_writer) best1954 4).bind fun (vt1961, vt1962) => ((squeeze_row.l3 k x1873 best1954 k 0 vt1961 vt1962).bind fun (x2696, x2701) => (squeeze_row.g1 k n_ x2696 x2701)))
def squeeze_row (k : Nat) (counts1 : List Int) : Option ((List Int)) :=
  if 0 < (counts1.length : Int) then ((squeeze_writer_put k (⟨([] : List Int), 0⟩ : S_writer) (rd counts1 0) 16).bind fun (vt36, vt37) => ((squeeze_row.l0 k counts1 k ([] : List Int) 1).bind fun folds138 => ((slices_Chunk_int k folds138 8).bind fun (vt157, vt158) => ((slices_Chunk_int_1 k vt157 vt158).bind fun xs177 => ((squeeze_row.g1 k xs177 vt36 vt37).bind (fun (x2711, x2716) => (some x2711))))))) else none
def squeeze_Pack.g0 (k : Nat) : List ((List Int)) → (List Int) → Option ((List Int))
  | [], x206 => some x206
  | x211 :: n_, x206 =>
    (squeeze_row k x211).bind fun vt233 => (if (x206.length + 2) * 1 ≤ 140737488355328 then (if ((x206 ++ ([u8 (shr (vt233.length : Int) 8), u8 ((vt233.length : Int))] : List Int)).length + vt233.length) * 1 ≤ 140737488355328 then (squeeze_Pack.g0 k n_ ((x206 ++ ([u8 (shr (vt233.length : Int) 8), u8 ((vt233.length : Int))] : List Int)) ++ vt233)) else none) else none)
def squeeze_Pack (k : Nat) (vw1 : Int) (vh2 : Int) (counts3 : List Int) : Option ((List Int) × Int) :=
  (frame_Check k (⟨vw1, vh2, ([] : List S_Card), counts3⟩ : S_Frame)).bind fun vt13 => (if vt13 ≠ 0 then (some (([] : List Int), vt13)) else ((slices_Chunk_int k counts3 vw1).bind fun (vt43, vt44) => ((slices_Chunk_int_1 k vt43 vt44).bind fun xs63 => ((squeeze_Pack.g0 k xs63 ([u8 (vw1), u8 (vh2)] : List Int)).bind (fun x276 => (some (x276, 0)))))))
def squeeze_Index.l0 (k : Nat) (b1 : List Int) : Nat → Int → Int → (List Int) → Int → Int → Option (Sum (Int × Int × (List Int) × Int) (Int × Int × (List Int) × Int))
  | 0, _, _, _, _, _ => none
  | n_ + 1, vw66, vh67, vat68, next74, x75 =>
    if x75 < (w64 ((rd b1 1))) then (if (w64 ((b1.length : Int) - next74)) < 2 then (some (Sum.inl (0, 0, ([] : List Int), 3))) else (if 0 ≤ next74 then (if next74 < (b1.length : Int) then (if 0 ≤ (w64 (next74 + 1)) then (if (w64 (next74 + 1)) < (b1.length : Int) then (if (vat68.length + 1) * 8 ≤ 140737488355328 then (if (Go.bits .or .i64 (w64 ((w64 ((rd b1 next74))) * 2 ^ 8)) (w64 ((rd b1 (w64 (next74 + 1)))))) > (w64 ((w64 ((b1.length : Int) - next74)) - 2)) then (some (Sum.inl (0, 0, ([] : List Int), 3))) else (squeeze_Index.l0 k b1 n_ vw66 vh67 (vat68 ++ ([w64 (next74 + 2)] : List Int)) (w64 (next74 + (w64 (2 + (Go.bits .or .i64 (w64 ((w64 ((rd b1 next74))) * 2 ^ 8)) (w64 ((rd b1 (w64 (next74 + 1)))))))))) (w64 (x75 + 1)))) else none) else none) else none) else none) else none)) else (some (Sum.inr (vw66, vh67, vat68, next74)))
def squeeze_Index (k : Nat) (b1 : List Int) : Option (Int × Int × (List Int) × Int) :=
  if (b1.length : Int) < 2 then (some (0, 0, ([] : List Int), 3)) else (if 0 < (b1.length : Int) then (if (rd b1 0) < 1 then (some (0, 0, ([] : List Int), 3)) else (if (rd b1 0) > 32 then (some (0, 0, ([] : List Int), 3)) else (if 1 < (b1.length : Int) then (if (rd b1 1) < 1 then (some (0, 0, ([] : List Int), 3)) else (if (rd b1 1) > 32 then (some (0, 0, ([] : List Int), 3)) else ((squeeze_Index.l0 k b1 k (w64 ((rd b1 0))) (w64 ((rd b1 1))) ([] : List Int) 2 0).bind fun z_ => Sum.elim (fun y_ => some y_) (fun (vw149, vh150, vat151, next157) => (if next157 ≠ (b1.length : Int) then (some (0, 0, ([] : List Int), 3)) else (if (vat151.length + 1) * 8 ≤ 140737488355328 then (some (vw149, vh150, (vat151 ++ ([(b1.length : Int)] : List Int)), 0)) else none))) z_))) else none))) else none)
def squeeze_reader_get.l0 (k : Nat) (n7 : Int) (r3 : S_reader) : Nat → Int → Int → Int → Bool → Option (Int × Int × Bool)
  | 0, _, _, _, _ => none
  | n_ + 1, v86, x87, x88, x89 =>
    if x87 < n7 then (if x88 ≥ (w64 (8 * (r3.b.length : Int))) then (squeeze_reader_get.l0 k n7 r3 n_ (w64 (v86 * 2 ^ 1)) (w64 (x87 + 1)) x88 true) else (if 0 ≤ (w64 (Int.tdiv x88 8)) then (if (w64 (Int.tdiv x88 8)) < (r3.b.length : Int) then (if ¬ ((w64 (7 - (Int.tmod x88 8))) < 0) then (squeeze_reader_get.l0 k n7 r3 n_ (Go.bits .or .i64 (w64 (v86 * 2 ^ 1)) (Go.bits .and .i64 (w64 (shr (rd r3.b (w64 (Int.tdiv x88 8))) (min (w64 (7 - (Int.tmod x88 8))).toNat 8))) 1)) (w64 (x87 + 1)) (w64 (x88 + 1)) x89) else none) else none) else none)) else (some (v86, x88, x89))
def squeeze_reader_get (k : Nat) (r3 : S_reader) (n7 : Int) : Option (Int × Int × Bool) :=
  (squeeze_reader_get.l0 k n7 r3 k 0 0 r3.used r3.over).bind fun (v139, x140, x141) => (some (v139, x140, x141))
def squeeze_read_1 (k : Nat) (n1 : Int) : Option (Bool) :=
  if n1 < 0 then (some true) else (some (decide (n1 > 65535)))
def slices_IndexFunc_int__squeeze_read_1.l0 (k : Nat) (s1 : List Int) : Nat → Int → Option (Sum Int Unit)
  | 0, _ => none
  | n_ + 1, x26 =>
    if x26 < (s1.length : Int) then (if 0 ≤ x26 then ((squeeze_read_1 k (rd s1 x26)).bind fun vt53 => (if vt53 = true then (some (Sum.inl x26)) else (slices_IndexFunc_int__squeeze_read_1.l0 k s1 n_ (w64 (x26 + 1))))) else none) else (some (Sum.inr ()))
def slices_IndexFunc_int__squeeze_read_1 (k : Nat) (s1 : List Int) : Option (Int) :=
  (slices_IndexFunc_int__squeeze_read_1.l0 k s1 k 0).bind fun z_ => Sum.elim (fun y_ => some y_) (fun _ => (some (-1))) z_
def slices_ContainsFunc_int__squeeze_read_1 (k : Nat) (s1 : List Int) : Option (Bool) :=
  (slices_IndexFunc_int__squeeze_read_1 k s1).bind fun vt9 => (some (decide (vt9 ≥ 0)))
def slices_Equal_byte.l0 (k : Nat) (s11 : List Int) (s25 : List Int) : Nat → Int → Option (Sum Bool Unit)
  | 0, _ => none
  | n_ + 1, x38 =>
    if x38 < (s11.length : Int) then (if 0 ≤ x38 then (if x38 < (s25.length : Int) then (if (rd s11 x38) ≠ (rd s25 x38) then (some (Sum.inl false)) else (slices_Equal_byte.l0 k s11 s25 n_ (w64 (x38 + 1)))) else none) else none) else (some (Sum.inr ()))
def slices_Equal_byte (k : Nat) (s11 : List Int) (s25 : List Int) : Option (Bool) :=
  if (s11.length : Int) ≠ (s25.length : Int) then (some false) else ((slices_Equal_byte.l0 k s11 s25 k 0).bind fun z_ => Sum.elim (fun y_ => some y_) (fun _ => (some true)) z_)
def squeeze_read.l1 (k : Nat) (b1 : List Int) : Nat → Int → Int → Bool → Option (Int × Int × Bool)
  | 0, _, _, _ => none
  | n_ + 1, z404, x405, x406 =>
    (squeeze_reader_get k (⟨b1, x405, x406⟩ : S_reader) 1).bind fun (vt412, vt413, vt414) => (if vt412 = 1 then (squeeze_read.l1 k b1 n_ (w64 (z404 + 1)) vt413 vt414) else (some (z404, vt413, vt414)))
def squeeze_read.l0 (k : Nat) (vw5 : Int) (b1 : List Int) : Nat → (List Int) → Int → Int → Int → Bool → Option ((List Int) × Int × Bool)
  | 0, _, _, _, _, _ => none
  | n_ + 1, out286, vk291, i292, x293, x294 =>
    if i292 < vw5 then (if ¬ (x294 = true) then (((if (Int.tmod (w64 (i292 - 1)) 8) = 0 then ((squeeze_reader_get k (⟨b1, x293, x294⟩ : S_reader) 4).bind fun (vt318, vt319, vt320) => (some (vt318, vt319, vt320))) else (some (vk291, x293, x294)) : Option (Int × Int × Bool))).bind fun (vk331, x332, x333) => (((if vk331 = 15 then ((squeeze_reader_get k (⟨b1, x332, x333⟩ : S_reader) 17).bind fun (vt347, vt348, vt349) => (some (vt347, vt348, vt349))) else ((squeeze_read.l1 k b1 k 0 x332 x333).bind fun (z434, x435, x436) => (if ¬ (vk331 < 0) then ((squeeze_reader_get k (⟨b1, x435, x436⟩ : S_reader) vk331).bind fun (vt446, vt447, vt448) => (some ((Go.bits .or .i64 (w64 (z434 * 2 ^ (min (vk331).toNat 64))) vt446), vt447, vt448))) else none)) : Option (Int × Int × Bool))).bind fun (z459, x460, x461) => (if (Int.tmod z459 2) = 1 then (if 0 ≤ (w64 (i292 - 1)) then (if (w64 (i292 - 1)) < (out286.length : Int) then (if (out286.length + 1) * 8 ≤ 140737488355328 then (squeeze_read.l0 k vw5 b1 n_ (out286 ++ ([w64 ((rd out286 (w64 (i292 - 1))) + (w64 ((w64 (0 - (w64 (Int.tdiv z459 2)))) - 1)))] : List Int)) vk331 (w64 (i292 + 1)) x460 x461) else none) else none) else none) else (if 0 ≤ (w64 (i292 - 1)) then (if (w64 (i292 - 1)) < (out286.length : Int) then (if (out286.length + 1) * 8 ≤ 140737488355328 then (squeeze_read.l0 k vw5 b1 n_ (out286 ++ ([w64 ((rd out286 (w64 (i292 - 1))) + (w64 (Int.tdiv z459 2)))] : List Int)) vk331 (w64 (i292 + 1)) x460 x461) else none) else none) else none)))) else (some (out286, x293, x294))) else (some (out286, x293, x294))
def squeeze_read (k : Nat) (b1 : List Int) (vw5 : Int) : Option ((List Int) × Bool) :=
  (squeeze_reader_get k (⟨b1, 0, false⟩ : S_reader) 16).bind fun (vt16, vt17, vt18) => ((squeeze_read.l0 k vw5 b1 k ([vt16] : List Int) 0 1 vt17 vt18).bind fun (out526, x531, x532) => (if x532 = true then (some (([] : List Int), false)) else ((slices_ContainsFunc_int__squeeze_read_1 k out526).bind fun vt548 => (if vt548 = true then (some (([] : List Int), false)) else ((squeeze_row k out526).bind fun vt565 => ((slices_Equal_byte k vt565 b1).bind fun vt585 => (if ¬ (vt585 = true) then (some (([] : List Int), false)) else (some (out526, true)))))))))
def squeeze_Row (k : Nat) (b1 : List Int) (y5 : Int) : Option ((List Int) × Int) :=
  (squeeze_Index k b1).bind fun (vt10, vt11, vt12, vt13) => (if vt13 ≠ 0 then (some (([] : List Int), vt13)) else (if y5 < 0 then (some (([] : List Int), 4)) else (if y5 ≥ vt11 then (some (([] : List Int), 4)) else (if 0 ≤ (w64 (y5 + 1)) then (if (w64 (y5 + 1)) < (vt12.length : Int) then (((if (w64 (y5 + 1)) < vt11 then (some (w64 ((rd vt12 (w64 (y5 + 1))) - 2))) else (some (rd vt12 (w64 (y5 + 1)))) : Option (Int))).bind fun vend64 => (if 0 ≤ y5 then (if y5 < (vt12.length : Int) then (if 0 ≤ (rd vt12 y5) then (if (rd vt12 y5) ≤ vend64 then (if vend64 ≤ (b1.length : Int) then ((squeeze_read k ((b1.take (vend64).toNat).drop ((rd vt12 y5)).toNat) vt10).bind fun (vt84, vt85) => (if ¬ (vt85 = true) then (some (([] : List Int), 3)) else (some (vt84, 0)))) else none) else none) else none) else none) else none)) else none) else none))))
def squeeze_Unpack.l0 (k : Nat) (vt12 : Int) (b1 : List Int) : Nat → Int → Int → (List Int) → Int → Option (Sum (Int × Int × (List Int) × Int) (Int × Int × (List Int)))
  | 0, _, _, _, _ => none
  | n_ + 1, vw50, vh51, counts52, x58 =>
    if x58 < vt12 then ((squeeze_Row k b1 x58).bind fun (vt78, vt79) => (if vt79 ≠ 0 then (some (Sum.inl (0, 0, ([] : List Int), vt79))) else (if (counts52.length + vt78.length) * 8 ≤ 140737488355328 then (squeeze_Unpack.l0 k vt12 b1 n_ vw50 vh51 (counts52 ++ vt78) (w64 (x58 + 1))) else none))) else (some (Sum.inr (vw50, vh51, counts52)))
def squeeze_Unpack (k : Nat) (b1 : List Int) : Option (Int × Int × (List Int) × Int) :=
  (squeeze_Index k b1).bind fun (vt11, vt12, vt13, vt14) => (if vt14 ≠ 0 then (some (0, 0, ([] : List Int), vt14)) else ((squeeze_Unpack.l0 k vt12 b1 k vt11 vt12 ([] : List Int) 0).bind fun z_ => Sum.elim (fun y_ => some y_) (fun (vw112, vh113, counts114) => (some (vw112, vh113, counts114, 0))) z_))
def slices_Equal_int.l0 (k : Nat) (s11 : List Int) (s25 : List Int) : Nat → Int → Option (Sum Bool Unit)
  | 0, _ => none
  | n_ + 1, x38 =>
    if x38 < (s11.length : Int) then (if 0 ≤ x38 then (if x38 < (s25.length : Int) then (if (rd s11 x38) ≠ (rd s25 x38) then (some (Sum.inl false)) else (slices_Equal_int.l0 k s11 s25 n_ (w64 (x38 + 1)))) else none) else none) else (some (Sum.inr ()))
def slices_Equal_int (k : Nat) (s11 : List Int) (s25 : List Int) : Option (Bool) :=
  if (s11.length : Int) ≠ (s25.length : Int) then (some false) else ((slices_Equal_int.l0 k s11 s25 k 0).bind fun z_ => Sum.elim (fun y_ => some y_) (fun _ => (some true)) z_)
def spykeep3_squeezed (k : Nat) : Option (Bool) :=
  (squeeze_Pack k 2 2 ([1, 1, 7, 8] : List Int)).bind fun (vt16, vt17) => ((squeeze_Row k vt16 1).bind fun (vt39, vt40) => (if vt17 = 0 then (if vt40 = 0 then ((slices_Equal_int k vt39 ([7, 8] : List Int)).bind fun vt75 => (some vt75)) else (some false)) else (some false)))
def spykeep3_SqueezeBack.l0 (k : Nat) (vt56 : Int) (vt36 : List Int) (vt55 : Int) (vt13 : S_Frame) : Nat → Int → Option (Sum Bool Unit)
  | 0, _ => none
  | n_ + 1, x138 =>
    if x138 < vt56 then ((squeeze_Row k vt36 x138).bind fun (vt164, vt165) => (if vt165 ≠ 0 then (some (Sum.inl false)) else (if 0 ≤ (w64 (x138 * vt55)) then (if (w64 (x138 * vt55)) ≤ (w64 ((w64 (x138 + 1)) * vt55)) then (if (w64 ((w64 (x138 + 1)) * vt55)) ≤ (vt13.Counts.length : Int) then ((slices_Equal_int k vt164 ((vt13.Counts.take (w64 ((w64 (x138 + 1)) * vt55)).toNat).drop (w64 (x138 * vt55)).toNat)).bind fun vt196 => (if ¬ (vt196 = true) then (some (Sum.inl false)) else (spykeep3_SqueezeBack.l0 k vt56 vt36 vt55 vt13 n_ (w64 (x138 + 1))))) else none) else none) else none))) else (some (Sum.inr ()))
def spykeep3_SqueezeBack (k : Nat) (l1 : List Int) : Option (Bool) :=
  (spykeep3_noted k (⟨l1, 0⟩ : S_Stream)).bind fun (vt13, vt14) => ((squeeze_Pack k vt13.W vt13.H vt13.Counts).bind fun (vt36, vt37) => ((squeeze_Unpack k vt36).bind fun (vt55, vt56, vt57, vt58) => ((spykeep3_squeezed k).bind fun vt76 => (if ¬ (vt76 = true) then (some false) else (if vt37 ≠ 0 then (some false) else (if vt58 ≠ 0 then (some false) else (if vt55 ≠ vt13.W then (some false) else (if vt56 ≠ vt13.H then (some false) else ((slices_Equal_int k vt57 vt13.Counts).bind fun vt103 => (if ¬ (vt103 = true) then (some false) else (if (vt36.length : Int) > (w64 (2 + (w64 (72 * vt56)))) then (some false) else ((spykeep3_SqueezeBack.l0 k vt56 vt36 vt55 vt13 k 0).bind fun z_ => Sum.elim (fun y_ => some y_) (fun _ => (some true)) z_))))))))))))
end Go.Sp.B1
