import Derived.Test.YtaddopcbneggiaaSpMap
import Derived.Test.YtaddopcbneggiaaSpCopy
namespace Go.Sp.U7
open Go Go.Sp
set_option linter.unusedVariables false
def str0 : ByteArray := ⟨#[0, 1, 2, 2, 3, 3, 3, 3, 4, 4, 4, 4, 4, 4, 4, 4, 5, 5, 5, 5, 5, 5, 5, 5, 5, 5, 5, 5, 5, 5, 5, 5, 6, 6, 6, 6, 6, 6, 6, 6, 6, 6, 6, 6, 6, 6, 6, 6, 6, 6, 6, 6, 6, 6, 6, 6, 6, 6, 6, 6, 6, 6, 6, 6, 7, 7, 7, 7, 7, 7, 7, 7, 7, 7, 7, 7, 7, 7, 7, 7, 7, 7, 7, 7, 7, 7, 7, 7, 7, 7, 7, 7, 7, 7, 7, 7, 7, 7, 7, 7, 7, 7, 7, 7, 7, 7, 7, 7, 7, 7, 7, 7, 7, 7, 7, 7, 7, 7, 7, 7, 7, 7, 7, 7, 7, 7, 7, 7, 8, 8, 8, 8, 8, 8, 8, 8, 8, 8, 8, 8, 8, 8, 8, 8, 8, 8, 8, 8, 8, 8, 8, 8, 8, 8, 8, 8, 8, 8, 8, 8, 8, 8, 8, 8, 8, 8, 8, 8, 8, 8, 8, 8, 8, 8, 8, 8, 8, 8, 8, 8, 8, 8, 8, 8, 8, 8, 8, 8, 8, 8, 8, 8, 8, 8, 8, 8, 8, 8, 8, 8, 8, 8, 8, 8, 8, 8, 8, 8, 8, 8, 8, 8, 8, 8, 8, 8, 8, 8, 8, 8, 8, 8, 8, 8, 8, 8, 8, 8, 8, 8, 8, 8, 8, 8, 8, 8, 8, 8, 8, 8, 8, 8, 8, 8, 8, 8, 8, 8, 8, 8, 8, 8, 8, 8, 8, 8]⟩
structure S_Stream where
  L : List Int
  vat : Int
instance : Inhabited S_Stream := ⟨⟨default, default⟩⟩
structure S_Vec where
  X : Int
  Y : Int
  Z : Int
instance : Inhabited S_Vec := ⟨⟨default, default, default⟩⟩
structure S_Star where
  ID : Int
  At : S_Vec
  Rate : Int
  Wave : List Int
  Period : Int
  From : Int
  To : Int
instance : Inhabited S_Star := ⟨⟨default, default, default, default, default, default, default⟩⟩
structure S_Galaxy where
  ID : Int
  At : S_Vec
  Rate : Int
  Wide : Int
  High : Int
instance : Inhabited S_Galaxy := ⟨⟨default, default, default, default, default⟩⟩
structure S_Body where
  ID : Int
  Was : S_Vec
  Here : S_Vec
  Rate : Int
instance : Inhabited S_Body := ⟨⟨default, default, default, default⟩⟩
structure S_Sky where
  Back : Int
  Stars : List S_Star
  Galaxies : List S_Galaxy
  Bodies : List S_Body
  Home : S_Body
instance : Inhabited S_Sky := ⟨⟨default, default, default, default, default⟩⟩
structure S_Wide where
  Hi : Int
  Lo : Int
instance : Inhabited S_Wide := ⟨⟨default, default⟩⟩
def spymake_Below (k : Nat) (x1 : Int) (n2 : Int) : Option (Int) :=
  if n2 < 1 then (some 0) else (if ¬ (n2 = 0) then (if (Int.tmod x1 n2) < 0 then (some (w64 ((Int.tmod x1 n2) + n2))) else (some (Int.tmod x1 n2))) else none)
def spymake_Stream_Next (k : Nat) (s3 : S_Stream) (n7 : Int) : Option (Int × Int) :=
  if (s3.L.length : Int) = 0 then ((spymake_Below k (w64 ((w64 (s3.vat + 1)) * 7919)) n7).bind fun vt22 => (some (vt22, w64 (s3.vat + 1)))) else (if ¬ ((s3.L.length : Int) = 0) then (if 0 ≤ (Int.tmod (w64 ((w64 (s3.vat + 1)) - 1)) (s3.L.length : Int)) then (if (Int.tmod (w64 ((w64 (s3.vat + 1)) - 1)) (s3.L.length : Int)) < (s3.L.length : Int) then ((spymake_Below k (rd s3.L (Int.tmod (w64 ((w64 (s3.vat + 1)) - 1)) (s3.L.length : Int))) 1073741824).bind fun vt47 => ((spymake_Below k (w64 (vt47 + (w64 ((w64 (Int.tdiv (w64 ((w64 (s3.vat + 1)) - 1)) (s3.L.length : Int))) * (w64 (7919 + (Int.tmod (w64 ((w64 (s3.vat + 1)) - 1)) (s3.L.length : Int)))))))) n7).bind fun vt53 => (some (vt53, w64 (s3.vat + 1))))) else none) else none) else none)
def spymake_Stream_Range (k : Nat) (s3 : S_Stream) (low7 : Int) (high8 : Int) : Option (Int × Int) :=
  if high8 < low7 then (some (low7, s3.vat)) else ((spymake_Stream_Next k s3 (w64 ((w64 (high8 - low7)) + 1))).bind fun (vt21, vt22) => (some (w64 (low7 + vt21), vt22)))
def spymake_Stream_Vec (k : Nat) (s3 : S_Stream) : Option (S_Vec × Int) :=
  (spymake_Stream_Next k s3 4).bind fun (vt22, vt23) => (if 0 ≤ vt22 then (if vt22 < (([3, 100, 5000, 1048576] : List Int).length : Int) then ((spymake_Stream_Range k (⟨s3.L, vt23⟩ : S_Stream) (w64 (0 - (rd ([3, 100, 5000, 1048576] : List Int) vt22))) (rd ([3, 100, 5000, 1048576] : List Int) vt22)).bind fun (vt36, vt37) => ((spymake_Stream_Range k (⟨s3.L, vt37⟩ : S_Stream) (w64 (0 - (rd ([3, 100, 5000, 1048576] : List Int) vt22))) (rd ([3, 100, 5000, 1048576] : List Int) vt22)).bind fun (vt43, vt44) => ((spymake_Stream_Range k (⟨s3.L, vt44⟩ : S_Stream) (w64 (0 - (rd ([3, 100, 5000, 1048576] : List Int) vt22))) (rd ([3, 100, 5000, 1048576] : List Int) vt22)).bind fun (vt50, vt51) => (if ((vt36 == 0) && ((vt43 == 0) && ((vt50 == 0) && true))) = true then (some ((⟨1, vt43, vt50⟩ : S_Vec), vt51)) else (some ((⟨vt36, vt43, vt50⟩ : S_Vec), vt51)))))) else none) else none)
def spymake_Stream_rate (k : Nat) (s3 : S_Stream) : Option (Int × Int) :=
  (spymake_Stream_Next k s3 6).bind fun (vt18, vt19) => (if 0 ≤ vt18 then (if vt18 < (([50, 500, 5000, 5000, 40000, 1048577] : List Int).length : Int) then ((spymake_Stream_Next k (⟨s3.L, vt19⟩ : S_Stream) (rd ([50, 500, 5000, 5000, 40000, 1048577] : List Int) vt18)).bind fun (vt30, vt31) => (some (vt30, vt31))) else none) else none)
def spymake_Stream_Star.l0 (k : Nat) (vt85 : Int) (s3 : S_Stream) (vt26 : Int) : Nat → Int → Int → (List Int) → Option (Int × (List Int))
  | 0, _, _, _ => none
  | n_ + 1, x165, x166, x167 =>
    if x165 < vt85 then ((spymake_Stream_rate k (⟨s3.L, x166⟩ : S_Stream)).bind fun (vt196, vt197) => (if (x167.length + 1) * 8 ≤ 140737488355328 then (spymake_Stream_Star.l0 k vt85 s3 vt26 n_ (w64 (x165 + 1)) vt197 (x167 ++ ([mn vt196 (w64 (1048576 - vt26))] : List Int))) else none)) else (some (x166, x167))
def spymake_Stream_Star (k : Nat) (s3 : S_Stream) (vid7 : Int) (vat8 : S_Vec) : Option (S_Star × Int) :=
  (spymake_Stream_rate k s3).bind fun (vt26, vt27) => ((spymake_Stream_Next k (⟨s3.L, vt27⟩ : S_Stream) 4).bind fun (vt72, vt73) => (((if vt72 = 0 then ((spymake_Stream_Range k (⟨s3.L, vt73⟩ : S_Stream) 1 5).bind fun (vt85, vt86) => ((spymake_Stream_Star.l0 k vt85 s3 vt26 k 0 vt86 ([] : List Int)).bind fun (x226, x227) => ((spymake_Stream_Next k (⟨s3.L, x226⟩ : S_Stream) 3).bind fun (vt257, vt258) => (if 0 ≤ vt257 then (if vt257 < (([3, 5000, 1073741824] : List Int).length : Int) then ((spymake_Stream_Range k (⟨s3.L, vt258⟩ : S_Stream) 1 (rd ([3, 5000, 1073741824] : List Int) vt257)).bind fun (vt291, vt292) => (some (vt292, x227, (w64 ((x227.length : Int) * vt291))))) else none) else none)))) else (some (vt73, ([] : List Int), 0)) : Option (Int × (List Int) × Int))).bind fun (x354, x355, x361) => ((spymake_Stream_Next k (⟨s3.L, x354⟩ : S_Stream) 5).bind fun (vt379, vt380) => (if vt379 = 0 then ((spymake_Stream_Range k (⟨s3.L, vt380⟩ : S_Stream) (-20000) 20000).bind fun (vt390, vt391) => ((spymake_Stream_Next k (⟨s3.L, vt391⟩ : S_Stream) 40000).bind fun (vt408, vt409) => (some ((⟨vid7, vat8, vt26, x355, x361, vt390, w64 (vt390 + vt408)⟩ : S_Star), vt409)))) else (some ((⟨vid7, vat8, vt26, x355, x361, (-17592186044416), 17592186044416⟩ : S_Star), vt380))))))
def sky_head (k : Nat) (seen3 : List (Int × Bool)) (vid4 : Int) (rate5 : Int) : Option (Int × (List (Int × Bool))) :=
  if vid4 < 1 then (some (4, seen3)) else (if vid4 > 1073741824 then (some (4, seen3)) else (if (mget false seen3 vid4) = true then (some (7, seen3)) else (if rate5 < 0 then (some (4, seen3)) else (if rate5 > 1048576 then (some (4, seen3)) else (some (0, (mput seen3 vid4 true)))))))
def sphere_Check (k : Nat) (v1 : S_Vec) : Option (Int) :=
  if (mx (mx v1.X v1.Y) v1.Z) > 1048576 then (some 4) else (if (mn (mn v1.X v1.Y) v1.Z) < (-1048576) then (some 4) else (if ((v1.X == 0) && ((v1.Y == 0) && ((v1.Z == 0) && true))) = true then (some 8) else (some 0)))
def sky_star_1 (k : Nat) (v3 : S_Star) (q7 : Int) : Option (Bool) :=
  if q7 < 0 then (some true) else (some (decide (q7 > (w64 (1048576 - v3.Rate)))))
def slices_IndexFunc_Quanta__sky_star_1.l0 (k : Nat) (s7 : List Int) (v3 : S_Star) : Nat → Int → Option (Sum Int Unit)
  | 0, _ => none
  | n_ + 1, x32 =>
    if x32 < (s7.length : Int) then (if 0 ≤ x32 then ((sky_star_1 k v3 (rd s7 x32)).bind fun vt59 => (if vt59 = true then (some (Sum.inl x32)) else (slices_IndexFunc_Quanta__sky_star_1.l0 k s7 v3 n_ (w64 (x32 + 1))))) else none) else (some (Sum.inr ()))
def slices_IndexFunc_Quanta__sky_star_1 (k : Nat) (v3 : S_Star) (s7 : List Int) : Option (Int) :=
  (slices_IndexFunc_Quanta__sky_star_1.l0 k s7 v3 k 0).bind fun z_ => Sum.elim (fun y_ => some y_) (fun _ => (some (-1))) z_
def slices_ContainsFunc_Quanta__sky_star_1 (k : Nat) (v3 : S_Star) (s7 : List Int) : Option (Bool) :=
  (slices_IndexFunc_Quanta__sky_star_1 k v3 s7).bind fun vt15 => (some (decide (vt15 ≥ 0)))
def sky_star (k : Nat) (s1 : S_Star) : Option (Int) :=
  (sphere_Check k s1.At).bind fun vt15 => (if vt15 ≠ 0 then (some vt15) else (if (s1.Wave.length : Int) > 16 then (some 2) else (if (s1.Wave.length : Int) = 0 then (if s1.Period ≠ 0 then (some 3) else (if (s1.Wave.length : Int) > 0 then (if s1.Period < 1 then (some 4) else (if s1.Period > 17592186044416 then (some 4) else (if ¬ ((s1.Wave.length : Int) = 0) then (if (Int.tmod s1.Period (s1.Wave.length : Int)) ≠ 0 then (some 4) else ((slices_ContainsFunc_Quanta__sky_star_1 k s1 s1.Wave).bind fun vt67 => (if vt67 = true then (some 4) else (if (mn s1.From s1.To) < (-17592186044416) then (some 4) else (if (mx s1.From s1.To) > 17592186044416 then (some 4) else (if s1.From > s1.To then (some 11) else (some 0))))))) else none))) else ((slices_ContainsFunc_Quanta__sky_star_1 k s1 s1.Wave).bind fun vt94 => (if vt94 = true then (some 4) else (if (mn s1.From s1.To) < (-17592186044416) then (some 4) else (if (mx s1.From s1.To) > 17592186044416 then (some 4) else (if s1.From > s1.To then (some 11) else (some 0)))))))) else (if (s1.Wave.length : Int) > 0 then (if s1.Period < 1 then (some 4) else (if s1.Period > 17592186044416 then (some 4) else (if ¬ ((s1.Wave.length : Int) = 0) then (if (Int.tmod s1.Period (s1.Wave.length : Int)) ≠ 0 then (some 4) else ((slices_ContainsFunc_Quanta__sky_star_1 k s1 s1.Wave).bind fun vt135 => (if vt135 = true then (some 4) else (if (mn s1.From s1.To) < (-17592186044416) then (some 4) else (if (mx s1.From s1.To) > 17592186044416 then (some 4) else (if s1.From > s1.To then (some 11) else (some 0))))))) else none))) else ((slices_ContainsFunc_Quanta__sky_star_1 k s1 s1.Wave).bind fun vt162 => (if vt162 = true then (some 4) else (if (mn s1.From s1.To) < (-17592186044416) then (some 4) else (if (mx s1.From s1.To) > 17592186044416 then (some 4) else (if s1.From > s1.To then (some 11) else (some 0))))))))))
def sky_galaxy.l0 (k : Nat) (vg1 : S_Galaxy) : Nat → Int → Option (Sum Int Unit)
  | 0, _ => none
  | n_ + 1, x43 =>
    if x43 < 2 then (if 0 ≤ x43 then (if (rd [vg1.Wide, vg1.High] x43) ≠ 1 then (if (rd [vg1.Wide, vg1.High] x43) ≠ 2 then (if (rd [vg1.Wide, vg1.High] x43) ≠ 4 then (some (Sum.inl 4)) else (sky_galaxy.l0 k vg1 n_ (w64 (x43 + 1)))) else (sky_galaxy.l0 k vg1 n_ (w64 (x43 + 1)))) else (sky_galaxy.l0 k vg1 n_ (w64 (x43 + 1)))) else none) else (some (Sum.inr ()))
def sky_galaxy (k : Nat) (vg1 : S_Galaxy) : Option (Int) :=
  (sphere_Check k vg1.At).bind fun vt12 => (if vt12 ≠ 0 then (some vt12) else ((sky_galaxy.l0 k vg1 k 0).bind fun z_ => Sum.elim (fun y_ => some y_) (fun _ => (some 0)) z_))
def sky_within.l0 (k : Nat) (v1 : S_Vec) (most2 : Int) : Nat → Int → Option (Sum Bool Unit)
  | 0, _ => none
  | n_ + 1, x28 =>
    if x28 < 3 then (if 0 ≤ x28 then (if (rd [v1.X, v1.Y, v1.Z] x28) < (w64 (0 - most2)) then (some (Sum.inl false)) else (if (rd [v1.X, v1.Y, v1.Z] x28) > most2 then (some (Sum.inl false)) else (sky_within.l0 k v1 most2 n_ (w64 (x28 + 1))))) else none) else (some (Sum.inr ()))
def sky_within (k : Nat) (v1 : S_Vec) (most2 : Int) : Option (Bool) :=
  (sky_within.l0 k v1 most2 k 0).bind fun z_ => Sum.elim (fun y_ => some y_) (fun _ => (some true)) z_
def sky_moves (k : Nat) (b1 : S_Body) : Option (Bool) :=
  (sky_within k b1.Was 4194304).bind fun vt10 => (if vt10 = true then ((sky_within k b1.Here 4194304).bind fun vt17 => (some vt17)) else (some false))
def sky_Check.l0 (k : Nat) (s1 : S_Sky) : Nat → Int → (List (Int × Bool)) → Option (Sum Int (List (Int × Bool)))
  | 0, _, _ => none
  | n_ + 1, x138, x139 =>
    if x138 < (s1.Stars.length : Int) then (if 0 ≤ x138 then ((sky_head k x139 ((rd s1.Stars x138).ID) ((rd s1.Stars x138).Rate)).bind fun (vt176, vt177) => (if vt176 = 0 then ((sky_star k (rd s1.Stars x138)).bind fun vt187 => (if vt187 ≠ 0 then (some (Sum.inl vt187)) else (sky_Check.l0 k s1 n_ (w64 (x138 + 1)) vt177))) else (if vt176 ≠ 0 then (some (Sum.inl vt176)) else (sky_Check.l0 k s1 n_ (w64 (x138 + 1)) vt177)))) else none) else (some (Sum.inr x139))
def sky_Check.l1 (k : Nat) (s1 : S_Sky) : Nat → Int → (List (Int × Bool)) → Option (Sum Int (List (Int × Bool)))
  | 0, _, _ => none
  | n_ + 1, x316, x317 =>
    if x316 < (s1.Galaxies.length : Int) then (if 0 ≤ x316 then ((sky_head k x317 ((rd s1.Galaxies x316).ID) ((rd s1.Galaxies x316).Rate)).bind fun (vt353, vt354) => (if vt353 = 0 then ((sky_galaxy k (rd s1.Galaxies x316)).bind fun vt364 => (if vt364 ≠ 0 then (some (Sum.inl vt364)) else (sky_Check.l1 k s1 n_ (w64 (x316 + 1)) vt354))) else (if vt353 ≠ 0 then (some (Sum.inl vt353)) else (sky_Check.l1 k s1 n_ (w64 (x316 + 1)) vt354)))) else none) else (some (Sum.inr x317))
def sky_Check.l2 (k : Nat) (s1 : S_Sky) : Nat → Int → (List (Int × Bool)) → Option (Sum Int (List (Int × Bool)))
  | 0, _, _ => none
  | n_ + 1, x498, x499 =>
    if x498 < (s1.Bodies.length : Int) then (if 0 ≤ x498 then ((sky_head k x499 ((rd s1.Bodies x498).ID) ((rd s1.Bodies x498).Rate)).bind fun (vt535, vt536) => (if vt535 = 0 then ((sky_moves k (rd s1.Bodies x498)).bind fun vt545 => (if ¬ (vt545 = true) then (some (Sum.inl 4)) else (if vt535 ≠ 0 then (some (Sum.inl vt535)) else (sky_Check.l2 k s1 n_ (w64 (x498 + 1)) vt536)))) else (if vt535 ≠ 0 then (some (Sum.inl vt535)) else (sky_Check.l2 k s1 n_ (w64 (x498 + 1)) vt536)))) else none) else (some (Sum.inr x499))
def sky_Check (k : Nat) (s1 : S_Sky) : Option (Int) :=
  if (w64 ((w64 ((s1.Stars.length : Int) + (s1.Galaxies.length : Int))) + (s1.Bodies.length : Int))) > 40 then (some 2) else (if s1.Back < 0 then (some 4) else (if s1.Back > 1048576 then (some 4) else ((sky_Check.l0 k s1 k 0 ([] : List (Int × Bool))).bind fun z_ => Sum.elim (fun y_ => some y_) (fun x210 => ((sky_Check.l1 k s1 k 0 x210).bind fun z_ => Sum.elim (fun y_ => some y_) (fun x387 => ((sky_Check.l2 k s1 k 0 x387).bind fun z_ => Sum.elim (fun y_ => some y_) (fun x574 => (if s1.Home.ID ≠ 0 then (some 3) else (if s1.Home.Rate ≠ 0 then (some 3) else ((sky_moves k s1.Home).bind fun vt607 => (if ¬ (vt607 = true) then (some 4) else (some 0)))))) z_)) z_)) z_)))
def sky_timed (k : Nat) (s1 : S_Sky) (vt11 : Int) : Option (Int) :=
  (sky_Check k s1).bind fun vt22 => (if vt22 ≠ 0 then (some vt22) else (if vt11 < (-17592186044416) then (some 4) else (if vt11 > 17592186044416 then (some 4) else (some 0))))
def sky_shines (k : Nat) (s1 : S_Star) (vt5 : Int) : Option (Int) :=
  if vt5 < s1.From then (some 0) else (if vt5 ≥ s1.To then (some 0) else (if (s1.Wave.length : Int) = 0 then (some s1.Rate) else (if ¬ (s1.Period = 0) then (if (Int.tmod vt5 s1.Period) < 0 then (if ¬ ((s1.Wave.length : Int) = 0) then (if ¬ ((w64 (Int.tdiv s1.Period (s1.Wave.length : Int))) = 0) then (if 0 ≤ (w64 (Int.tdiv (w64 ((Int.tmod vt5 s1.Period) + s1.Period)) (w64 (Int.tdiv s1.Period (s1.Wave.length : Int))))) then (if (w64 (Int.tdiv (w64 ((Int.tmod vt5 s1.Period) + s1.Period)) (w64 (Int.tdiv s1.Period (s1.Wave.length : Int))))) < (s1.Wave.length : Int) then (some (w64 (s1.Rate + (rd s1.Wave (w64 (Int.tdiv (w64 ((Int.tmod vt5 s1.Period) + s1.Period)) (w64 (Int.tdiv s1.Period (s1.Wave.length : Int))))))))) else none) else none) else none) else none) else (if ¬ ((s1.Wave.length : Int) = 0) then (if ¬ ((w64 (Int.tdiv s1.Period (s1.Wave.length : Int))) = 0) then (if 0 ≤ (w64 (Int.tdiv (Int.tmod vt5 s1.Period) (w64 (Int.tdiv s1.Period (s1.Wave.length : Int))))) then (if (w64 (Int.tdiv (Int.tmod vt5 s1.Period) (w64 (Int.tdiv s1.Period (s1.Wave.length : Int))))) < (s1.Wave.length : Int) then (some (w64 (s1.Rate + (rd s1.Wave (w64 (Int.tdiv (Int.tmod vt5 s1.Period) (w64 (Int.tdiv s1.Period (s1.Wave.length : Int))))))))) else none) else none) else none) else none)) else none)))
def sky_Rate.l0 (k : Nat) (s1 : S_Sky) (vid11 : Int) (vt12 : Int) : Nat → Int → Option (Sum (Int × Int) Unit)
  | 0, _ => none
  | n_ + 1, x54 =>
    if x54 < (s1.Stars.length : Int) then (if 0 ≤ x54 then (if ((rd s1.Stars x54).ID) = vid11 then ((sky_shines k (rd s1.Stars x54) vt12).bind fun vt92 => (some (Sum.inl (vt92, 0)))) else (sky_Rate.l0 k s1 vid11 vt12 n_ (w64 (x54 + 1)))) else none) else (some (Sum.inr ()))
def sky_Rate.l1 (k : Nat) (s1 : S_Sky) (vid11 : Int) : Nat → Int → Option (Sum (Int × Int) Unit)
  | 0, _ => none
  | n_ + 1, x129 =>
    if x129 < (s1.Galaxies.length : Int) then (if 0 ≤ x129 then (if ((rd s1.Galaxies x129).ID) = vid11 then (some (Sum.inl ((rd s1.Galaxies x129).Rate, 0))) else (sky_Rate.l1 k s1 vid11 n_ (w64 (x129 + 1)))) else none) else (some (Sum.inr ()))
def sky_Rate.l2 (k : Nat) (s1 : S_Sky) (vid11 : Int) : Nat → Int → Option (Sum (Int × Int) Unit)
  | 0, _ => none
  | n_ + 1, x197 =>
    if x197 < (s1.Bodies.length : Int) then (if 0 ≤ x197 then (if ((rd s1.Bodies x197).ID) = vid11 then (some (Sum.inl ((rd s1.Bodies x197).Rate, 0))) else (sky_Rate.l2 k s1 vid11 n_ (w64 (x197 + 1)))) else none) else (some (Sum.inr ()))
def sky_Rate (k : Nat) (s1 : S_Sky) (vid11 : Int) (vt12 : Int) : Option (Int × Int) :=
  (sky_timed k s1 vt12).bind fun vt23 => (if vt23 ≠ 0 then (some (0, vt23)) else ((sky_Rate.l0 k s1 vid11 vt12 k 0).bind fun z_ => Sum.elim (fun y_ => some y_) (fun _ => ((sky_Rate.l1 k s1 vid11 k 0).bind fun z_ => Sum.elim (fun y_ => some y_) (fun _ => ((sky_Rate.l2 k s1 vid11 k 0).bind fun z_ => Sum.elim (fun y_ => some y_) (fun _ => (some (0, 8))) z_)) z_)) z_))
def bits_Mul64 (k : Nat) (x1 : Int) (y2 : Int) : Option (Int × Int) :=
  some (u64 ((u64 ((u64 ((shr x1 32) * (shr y2 32))) + (shr (u64 ((u64 ((shr x1 32) * (Go.bits .and .u64 y2 4294967295))) + (shr (u64 ((Go.bits .and .u64 x1 4294967295) * (Go.bits .and .u64 y2 4294967295))) 32))) 32))) + (shr (u64 ((Go.bits .and .u64 (u64 ((u64 ((shr x1 32) * (Go.bits .and .u64 y2 4294967295))) + (shr (u64 ((Go.bits .and .u64 x1 4294967295) * (Go.bits .and .u64 y2 4294967295))) 32))) 4294967295) + (u64 ((Go.bits .and .u64 x1 4294967295) * (shr y2 32))))) 32)), u64 (x1 * y2))
def num_SqrtMul.l0 (k : Nat) (vt18 : Int) (vt19 : Int) : Nat → Int → Int → Option (Int)
  | 0, _, _ => none
  | n_ + 1, r46, bit47 =>
    if bit47 > 0 then ((bits_Mul64 k (Go.bits .or .u64 r46 bit47) (Go.bits .or .u64 r46 bit47)).bind fun (vt65, vt66) => (if vt65 < vt18 then (num_SqrtMul.l0 k vt18 vt19 n_ (Go.bits .or .u64 r46 bit47) (shr bit47 1)) else (if vt65 = vt18 then (if vt66 ≤ vt19 then (num_SqrtMul.l0 k vt18 vt19 n_ (Go.bits .or .u64 r46 bit47) (shr bit47 1)) else (num_SqrtMul.l0 k vt18 vt19 n_ r46 (shr bit47 1))) else (num_SqrtMul.l0 k vt18 vt19 n_ r46 (shr bit47 1))))) else (some r46)
def num_SqrtMul (k : Nat) (a1 : Int) (b2 : Int) : Option (Int) :=
  if a1 < 0 then (some 0) else (if b2 < 0 then (some 0) else ((bits_Mul64 k (u64 (a1)) (u64 (b2))).bind fun (vt18, vt19) => ((num_SqrtMul.l0 k vt18 vt19 k 0 4611686018427387904).bind fun r83 => (some (w64 (r83))))))
def num_Sqrt (k : Nat) (a1 : Int) : Option (Int) :=
  (num_SqrtMul k a1 1).bind fun vt6 => (some vt6)
def num_size (k : Nat) (a1 : Int) : Option (Int) :=
  if a1 < 0 then (some (u64 (0 - (u64 (a1))))) else (some (u64 (a1)))
def num_Wide_Neg (k : Nat) (vw1 : S_Wide) : Option (S_Wide) :=
  if 0 ≤ (Go.bits .xor .u64 IntKind.u64.max vw1.Lo) then (if 0 ≤ (Go.bits .xor .u64 IntKind.u64.max (u64 (vw1.Hi))) then (if 0 ≤ (((Go.bits .xor .u64 IntKind.u64.max vw1.Lo) + 1 + 0) / 18446744073709551616) then (if (((Go.bits .xor .u64 IntKind.u64.max vw1.Lo) + 1 + 0) / 18446744073709551616) ≤ 1 then (some (⟨w64 (((Go.bits .xor .u64 IntKind.u64.max (u64 (vw1.Hi))) + 0 + (((Go.bits .xor .u64 IntKind.u64.max vw1.Lo) + 1 + 0) / 18446744073709551616)) % 18446744073709551616), ((Go.bits .xor .u64 IntKind.u64.max vw1.Lo) + 1 + 0) % 18446744073709551616⟩ : S_Wide)) else none) else none) else none) else none
def num_Product (k : Nat) (a1 : Int) (b2 : Int) : Option (S_Wide) :=
  (num_size k a1).bind fun vt11 => ((num_size k b2).bind fun vt17 => ((bits_Mul64 k vt11 vt17).bind fun (vt23, vt24) => (if ((decide (a1 < 0)) != (decide (b2 < 0))) = true then ((num_Wide_Neg k (⟨w64 (vt23), vt24⟩ : S_Wide)).bind fun vt46 => (some vt46)) else (some (⟨w64 (vt23), vt24⟩ : S_Wide)))))
def bits_Len64 (k : Nat) (x1 : Int) : Option (Int) :=
  ((if x1 ≥ 4294967296 then (some ((shr x1 32), 32)) else (some (x1, 0)) : Option (Int × Int))).bind fun (x17, n18) => (((if x17 ≥ 65536 then (some ((shr x17 16), (w64 (n18 + 16)))) else (some (x17, n18)) : Option (Int × Int))).bind fun (x35, n36) => (if x35 ≥ 256 then (if 0 ≤ (u8 (shr x35 8)) then (if (u8 (shr x35 8)) < (str0.size : Int) then (some (w64 ((w64 (n36 + 8)) + (w64 ((bt str0 (u8 (shr x35 8)))))))) else none) else none) else (if 0 ≤ (u8 (x35)) then (if (u8 (x35)) < (str0.size : Int) then (some (w64 (n36 + (w64 ((bt str0 (u8 (x35)))))))) else none) else none)))
def bits_LeadingZeros64 (k : Nat) (x1 : Int) : Option (Int) :=
  (bits_Len64 k x1).bind fun vt6 => (some (w64 (64 - vt6)))
def bits_Div64.l0 (k : Nat) (y3 : Int) (vt31 : Int) (lo2 : Int) : Nat → Int → Int → Option (Int)
  | 0, _, _ => none
  | n_ + 1, q175, rhat76 =>
    if q175 ≥ 4294967296 then (if (u64 (rhat76 + (shr (u64 (y3 * 2 ^ (min (u64 (vt31)).toNat 64))) 32))) ≥ 4294967296 then (some (u64 (q175 - 1))) else (bits_Div64.l0 k y3 vt31 lo2 n_ (u64 (q175 - 1)) (u64 (rhat76 + (shr (u64 (y3 * 2 ^ (min (u64 (vt31)).toNat 64))) 32))))) else (if (u64 (q175 * (Go.bits .and .u64 (u64 (y3 * 2 ^ (min (u64 (vt31)).toNat 64))) 4294967295))) > (u64 ((u64 (4294967296 * rhat76)) + (shr (u64 (lo2 * 2 ^ (min (u64 (vt31)).toNat 64))) 32))) then (if (u64 (rhat76 + (shr (u64 (y3 * 2 ^ (min (u64 (vt31)).toNat 64))) 32))) ≥ 4294967296 then (some (u64 (q175 - 1))) else (bits_Div64.l0 k y3 vt31 lo2 n_ (u64 (q175 - 1)) (u64 (rhat76 + (shr (u64 (y3 * 2 ^ (min (u64 (vt31)).toNat 64))) 32))))) else (some q175))
def bits_Div64.l1 (k : Nat) (y3 : Int) (vt31 : Int) (lo2 : Int) : Nat → Int → Int → Option (Int)
  | 0, _, _ => none
  | n_ + 1, rhat146, q0147 =>
    if q0147 ≥ 4294967296 then (if (u64 (rhat146 + (shr (u64 (y3 * 2 ^ (min (u64 (vt31)).toNat 64))) 32))) ≥ 4294967296 then (some (u64 (q0147 - 1))) else (bits_Div64.l1 k y3 vt31 lo2 n_ (u64 (rhat146 + (shr (u64 (y3 * 2 ^ (min (u64 (vt31)).toNat 64))) 32))) (u64 (q0147 - 1)))) else (if (u64 (q0147 * (Go.bits .and .u64 (u64 (y3 * 2 ^ (min (u64 (vt31)).toNat 64))) 4294967295))) > (u64 ((u64 (4294967296 * rhat146)) + (Go.bits .and .u64 (u64 (lo2 * 2 ^ (min (u64 (vt31)).toNat 64))) 4294967295))) then (if (u64 (rhat146 + (shr (u64 (y3 * 2 ^ (min (u64 (vt31)).toNat 64))) 32))) ≥ 4294967296 then (some (u64 (q0147 - 1))) else (bits_Div64.l1 k y3 vt31 lo2 n_ (u64 (rhat146 + (shr (u64 (y3 * 2 ^ (min (u64 (vt31)).toNat 64))) 32))) (u64 (q0147 - 1)))) else (some q0147))
def bits_Div64 (k : Nat) (hi1 : Int) (lo2 : Int) (y3 : Int) : Option (Int × Int) :=
  if y3 = 0 then (none) else (if y3 ≤ hi1 then (none) else (if hi1 = 0 then (if ¬ (y3 = 0) then (some (u64 (Int.tdiv lo2 y3), Int.tmod lo2 y3)) else none) else ((bits_LeadingZeros64 k y3).bind fun vt31 => (if ¬ ((u64 (vt31)) < 0) then (if ¬ ((u64 (64 - (u64 (vt31)))) < 0) then (if ¬ ((shr (u64 (y3 * 2 ^ (min (u64 (vt31)).toNat 64))) 32) = 0) then ((bits_Div64.l0 k y3 vt31 lo2 k (u64 (Int.tdiv (Go.bits .or .u64 (u64 (hi1 * 2 ^ (min (u64 (vt31)).toNat 64))) (shr lo2 (min (u64 (64 - (u64 (vt31)))).toNat 64))) (shr (u64 (y3 * 2 ^ (min (u64 (vt31)).toNat 64))) 32))) (u64 ((Go.bits .or .u64 (u64 (hi1 * 2 ^ (min (u64 (vt31)).toNat 64))) (shr lo2 (min (u64 (64 - (u64 (vt31)))).toNat 64))) - (u64 ((u64 (Int.tdiv (Go.bits .or .u64 (u64 (hi1 * 2 ^ (min (u64 (vt31)).toNat 64))) (shr lo2 (min (u64 (64 - (u64 (vt31)))).toNat 64))) (shr (u64 (y3 * 2 ^ (min (u64 (vt31)).toNat 64))) 32))) * (shr (u64 (y3 * 2 ^ (min (u64 (vt31)).toNat 64))) 32)))))).bind fun q1119 => ((bits_Div64.l1 k y3 vt31 lo2 k (u64 ((u64 ((u64 ((u64 ((Go.bits .or .u64 (u64 (hi1 * 2 ^ (min (u64 (vt31)).toNat 64))) (shr lo2 (min (u64 (64 - (u64 (vt31)))).toNat 64))) * 4294967296)) + (shr (u64 (lo2 * 2 ^ (min (u64 (vt31)).toNat 64))) 32))) - (u64 (q1119 * (u64 (y3 * 2 ^ (min (u64 (vt31)).toNat 64))))))) - (u64 ((u64 (Int.tdiv (u64 ((u64 ((u64 ((Go.bits .or .u64 (u64 (hi1 * 2 ^ (min (u64 (vt31)).toNat 64))) (shr lo2 (min (u64 (64 - (u64 (vt31)))).toNat 64))) * 4294967296)) + (shr (u64 (lo2 * 2 ^ (min (u64 (vt31)).toNat 64))) 32))) - (u64 (q1119 * (u64 (y3 * 2 ^ (min (u64 (vt31)).toNat 64))))))) (shr (u64 (y3 * 2 ^ (min (u64 (vt31)).toNat 64))) 32))) * (shr (u64 (y3 * 2 ^ (min (u64 (vt31)).toNat 64))) 32))))) (u64 (Int.tdiv (u64 ((u64 ((u64 ((Go.bits .or .u64 (u64 (hi1 * 2 ^ (min (u64 (vt31)).toNat 64))) (shr lo2 (min (u64 (64 - (u64 (vt31)))).toNat 64))) * 4294967296)) + (shr (u64 (lo2 * 2 ^ (min (u64 (vt31)).toNat 64))) 32))) - (u64 (q1119 * (u64 (y3 * 2 ^ (min (u64 (vt31)).toNat 64))))))) (shr (u64 (y3 * 2 ^ (min (u64 (vt31)).toNat 64))) 32)))).bind fun q0190 => (some (u64 ((u64 (q1119 * 4294967296)) + q0190), shr (u64 ((u64 ((u64 ((u64 ((u64 ((u64 ((Go.bits .or .u64 (u64 (hi1 * 2 ^ (min (u64 (vt31)).toNat 64))) (shr lo2 (min (u64 (64 - (u64 (vt31)))).toNat 64))) * 4294967296)) + (shr (u64 (lo2 * 2 ^ (min (u64 (vt31)).toNat 64))) 32))) - (u64 (q1119 * (u64 (y3 * 2 ^ (min (u64 (vt31)).toNat 64))))))) * 4294967296)) + (Go.bits .and .u64 (u64 (lo2 * 2 ^ (min (u64 (vt31)).toNat 64))) 4294967295))) - (u64 (q0190 * (u64 (y3 * 2 ^ (min (u64 (vt31)).toNat 64))))))) (min (u64 (vt31)).toNat 64))))) else none) else none) else none))))
def num_Wide_Div (k : Nat) (vw1 : S_Wide) (d2 : Int) : Option (Int × Int) :=
  if d2 < 1 then (some (0, 1)) else (((if vw1.Hi < 0 then ((num_Wide_Neg k vw1).bind fun vt31 => (some (vt31.Hi, vt31.Lo))) else (some (vw1.Hi, vw1.Lo)) : Option (Int × Int))).bind fun (x44, x45) => (if (u64 (x44)) ≥ (u64 (d2)) then (some (0, 2)) else ((bits_Div64 k (u64 (x44)) x45 (u64 (d2))).bind fun (vt59, vt60) => (((if vw1.Hi < 0 then (((if vt60 > 0 then (some (u64 (9223372036854775808 - 1))) else (some 9223372036854775808) : Option (Int))).bind fun most85 => (some most85)) else (some 9223372036854775807) : Option (Int))).bind fun most94 => (if vt59 > most94 then (some (0, 2)) else (if vw1.Hi ≥ 0 then (some (w64 (vt59), 0)) else (if vt60 > 0 then (some (w64 ((w64 (u64 (0 - vt59))) - 1), 0)) else (some (w64 (u64 (0 - vt59)), 0)))))))))
def num_MulDiv (k : Nat) (a1 : Int) (b2 : Int) (c3 : Int) : Option (Int × Int) :=
  (num_Product k a1 b2).bind fun vt8 => ((num_Wide_Div k vt8 c3).bind fun (vt14, vt15) => (some (vt14, vt15)))
def sky_Pull_1 (k : Nat) (v3 : Int) (x4 : Int) : Option (Int) :=
  (num_MulDiv k 9007199254740992 (mx x4 (w64 (0 - x4))) v3).bind fun (vt9, vt10) => (if ¬ ((w64 (v3 * v3)) = 0) then (if x4 > 0 then (some (w64 (0 - (w64 (Int.tdiv vt9 (w64 (v3 * v3))))))) else (some (w64 (Int.tdiv vt9 (w64 (v3 * v3)))))) else none)
def sky_Pull (k : Nat) (vat1 : S_Vec) : Option (S_Vec) :=
  (sky_within k vat1 4194304).bind fun vt16 => (if ¬ (vt16 = true) then (some (⟨0, 0, 0⟩ : S_Vec)) else ((num_Sqrt k (w64 ((w64 ((w64 (vat1.X * vat1.X)) + (w64 (vat1.Y * vat1.Y)))) + (w64 (vat1.Z * vat1.Z))))).bind fun vt30 => (if vt30 < 65536 then (some (⟨0, 0, 0⟩ : S_Vec)) else ((sky_Pull_1 k vt30 vat1.X).bind fun vt63 => ((sky_Pull_1 k vt30 vat1.Y).bind fun vt73 => ((sky_Pull_1 k vt30 vat1.Z).bind fun vt83 => (some (⟨vt63, vt73, vt83⟩ : S_Vec))))))))
def sky_Step (k : Nat) (was1 : S_Vec) (here2 : S_Vec) : Option (S_Vec × Int) :=
  (sky_within k was1 4194304).bind fun vt21 => (if ¬ (vt21 = true) then (some ((⟨0, 0, 0⟩ : S_Vec), 4)) else ((sky_within k here2 4194304).bind fun vt32 => (if ¬ (vt32 = true) then (some ((⟨0, 0, 0⟩ : S_Vec), 4)) else ((sky_Pull k here2).bind fun vt46 => ((sky_within k (⟨w64 ((w64 ((w64 (2 * here2.X)) - was1.X)) + vt46.X), w64 ((w64 ((w64 (2 * here2.Y)) - was1.Y)) + vt46.Y), w64 ((w64 ((w64 (2 * here2.Z)) - was1.Z)) + vt46.Z)⟩ : S_Vec) 4194304).bind fun vt70 => (if ¬ (vt70 = true) then (some ((⟨0, 0, 0⟩ : S_Vec), 18)) else (some ((⟨w64 ((w64 ((w64 (2 * here2.X)) - was1.X)) + vt46.X), w64 ((w64 ((w64 (2 * here2.Y)) - was1.Y)) + vt46.Y), w64 ((w64 ((w64 (2 * here2.Z)) - was1.Z)) + vt46.Z)⟩ : S_Vec), 0))))))))
def spykeep3_pulls (k : Nat) : Option (Bool) :=
  (sky_Step k (⟨1048576, 0, 0⟩ : S_Vec) (⟨1048576, 0, 0⟩ : S_Vec)).bind fun (vt5, vt6) => (if vt6 = 0 then (some ((vt5.X == 1040384) && ((vt5.Y == 0) && ((vt5.Z == 0) && true)))) else (some false))
def spykeep3_SkyRatesRepeat (k : Nat) (l1 : List Int) (vt5 : Int) (turns6 : Int) : Option (Bool) :=
  (spymake_Stream_Vec k (⟨l1, 0⟩ : S_Stream)).bind fun (vt17, vt18) => ((spymake_Stream_Star k (⟨l1, vt18⟩ : S_Stream) 3 vt17).bind fun (vt24, vt25) => ((sky_Rate k (⟨0, ([vt24] : List S_Star), ([] : List S_Galaxy), ([] : List S_Body), (⟨0, (⟨0, 0, 0⟩ : S_Vec), (⟨0, 0, 0⟩ : S_Vec), 0⟩ : S_Body)⟩ : S_Sky) 3 (Int.tmod vt5 1099511627776)).bind fun (vt71, vt72) => ((spykeep3_pulls k).bind fun vt85 => (if ¬ (vt85 = true) then (some false) else (if vt72 ≠ 0 then (some false) else (if vt71 < 0 then (some false) else (if vt71 > 1048576 then (some false) else (if (Int.tmod vt5 1099511627776) < vt24.From then (some (vt71 == 0)) else (if (Int.tmod vt5 1099511627776) ≥ vt24.To then (some (vt71 == 0)) else ((spymake_Below k turns6 100).bind fun vt119 => ((sky_Rate k (⟨0, ([vt24] : List S_Star), ([] : List S_Galaxy), ([] : List S_Body), (⟨0, (⟨0, 0, 0⟩ : S_Vec), (⟨0, 0, 0⟩ : S_Vec), 0⟩ : S_Body)⟩ : S_Sky) 3 (w64 ((Int.tmod vt5 1099511627776) + (w64 (vt119 * vt24.Period))))).bind fun (vt132, vt133) => (if vt133 = 0 then (if vt132 = vt71 then (some true) else (if (w64 ((Int.tmod vt5 1099511627776) + (w64 (vt119 * vt24.Period)))) ≥ vt24.To then (some (vt132 == 0)) else (some false))) else (some false)))))))))))))
end Go.Sp.U7
